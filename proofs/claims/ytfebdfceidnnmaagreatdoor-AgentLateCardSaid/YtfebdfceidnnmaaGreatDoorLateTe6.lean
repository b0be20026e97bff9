/- AgentLate, calls. -/
import Derived.Test.YtfebdfceidnnmaaGreatDoorLateTb
import Derived.Test.YtfebdfceidnnmaaGreatDoorLateTs0
set_option autoImplicit false
set_option linter.unusedVariables false
set_option maxRecDepth 1000000
namespace Go.AX
open Go.Proofs
-- agent Agent) Tick
noncomputable def ce44 : CE := ⟨42, [.ptr 29 0, .int .i64 (.ofNat 0)], ⟨hst53, 394⟩, [(.tup [.slc 491 0 2 none 9, .int .i64 (.ofNat 0)], ⟨hst54, 510⟩)]⟩
theorem ce44_run : chkE callT ce44 = true := by kernel_rfl
theorem ce44_ok {a0 : Nat → Value} : CeOk a0 Tryz.prog ce44 := chkE_ok (ready.call S4_ok (mergeOf_ok _) 60) ce44_run
-- hostlerlaw19 said
noncomputable def ce47 : CE := ⟨17, [.ptr 29 0, .agg [.int .i64 (.ofNat 8), .str [102], .str [120], .str [97], .int .i64 (.ofNat 1), .int .i64 (.ofNat 2), .int .i64 (.ofNat 0), .int .i64 (.ofNat 0), .nils], .int .i64 (.ofNat 3), .nils], ⟨hst55, 530⟩, [(.bool true, ⟨hst55, 537⟩)]⟩
theorem ce47_run : chkE callT ce47 = true := by kernel_rfl
theorem ce47_ok {a0 : Nat → Value} : CeOk a0 Tryz.prog ce47 := chkE_ok (ready.call S4_ok (mergeOf_ok _) 60) ce47_run
-- hostlerlaw19 said
noncomputable def ce48 : CE := ⟨17, [.ptr 29 0, .agg [.int .i64 (.ofNat 1), .str [102], .str [120], .str [], .int .i64 (.ofNat 0), .int .i64 (.ofNat 0), .int .i64 (.ofNat 0), .int .i64 (.ofNat 0), .slc 541 0 1 none 2], .int .i64 (.ofNat 0), .slc 543 0 1 (some 1) 0], ⟨hst56, 544⟩, [(.bool true, ⟨hst57, 760⟩)]⟩
theorem ce48_run : chkE callT ce48 = true := by kernel_rfl
theorem ce48_ok {a0 : Nat → Value} : CeOk a0 Tryz.prog ce48 := chkE_ok (ready.call S4_ok (mergeOf_ok _) 60) ce48_run
-- hostlerlaw19 said
noncomputable def ce49 : CE := ⟨17, [.ptr 29 0, .agg [.int .i64 (.ofNat 7), .str [102], .str [120], .str [], .int .i64 (.ofNat 2), .int .i64 (.ofNat 0), .int .i64 (.ofNat 0), .int .i64 (.ofNat 0), .nils], .int .i64 (.ofNat 0), .slc 765 0 1 (some 1) 0], ⟨hst58, 766⟩, [(.bool true, ⟨hst59, 887⟩)]⟩
theorem ce49_run : chkE callT ce49 = true := by kernel_rfl
theorem ce49_ok {a0 : Nat → Value} : CeOk a0 Tryz.prog ce49 := chkE_ok (ready.call S4_ok (mergeOf_ok _) 60) ce49_run
-- hostlerlaw19 up
noncomputable def ce50 : CE := ⟨15, [.agg [.cplx 4621819117588971520 4621819117588971520, .int .i64 (.ofNat 6), .int .i64 (.ofNat 3), .int .i64 (.ofNat 5), .int .i64 (.ofNat 1000), .int .i64 (.ofNat 1000), .int .i64 (.ofNat 4000)]], ⟨hst60, 2⟩, [(.tup [.ptr 29 0, .ptr 4 0, .bool true], ⟨hst61, 35⟩)]⟩
theorem ce50_run : chkE callT ce50 = true := by kernel_rfl
theorem ce50_ok {a0 : Nat → Value} : CeOk a0 Tryz.prog ce50 := chkE_ok (ready.call S4_ok (mergeOf_ok _) 60) ce50_run
-- hostlerlaw19 said
noncomputable def ce51 : CE := ⟨17, [.ptr 29 0, .agg [.int .i64 (.ofNat 1), .str [102], .str [120], .str [], .int .i64 (.ofNat 0), .int .i64 (.ofNat 0), .int .i64 (.ofNat 0), .int .i64 (.ofNat 0), .slc 39 0 1 none 2], .int .i64 (.ofNat 0), .slc 41 0 1 (some 1) 0], ⟨hst62, 42⟩, [(.bool true, ⟨hst63, 214⟩)]⟩
theorem ce51_run : chkE callT ce51 = true := by kernel_rfl
theorem ce51_ok {a0 : Nat → Value} : CeOk a0 Tryz.prog ce51 := chkE_ok (ready.call S4_ok (mergeOf_ok _) 60) ce51_run
end Go.AX

