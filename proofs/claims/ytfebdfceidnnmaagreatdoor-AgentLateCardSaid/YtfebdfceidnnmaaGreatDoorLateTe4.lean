/- AgentLate, calls. -/
import Derived.Test.YtfebdfceidnnmaaGreatDoorLateTb
import Derived.Test.YtfebdfceidnnmaaGreatDoorLateTs0
set_option autoImplicit false
set_option linter.unusedVariables false
set_option maxRecDepth 1000000
namespace Go.AX
open Go.Proofs
-- hostlerlaw19 said
noncomputable def ce28 : CE := ⟨17, [.ptr 29 0, .agg [.int .i64 (.ofNat 1), .str [102], .str [120], .str [], .int .i64 (.ofNat 0), .int .i64 (.ofNat 0), .int .i64 (.ofNat 0), .int .i64 (.ofNat 0), .slc 39 0 1 none 2], .int .i64 (.ofNat 0), .slc 41 0 1 (some 1) 0], ⟨hst35, 42⟩, [(.bool true, ⟨hst36, 214⟩)]⟩
theorem ce28_run : chkE callT ce28 = true := by kernel_rfl
theorem ce28_ok {a0 : Nat → Value} : CeOk a0 Tryz.prog ce28 := chkE_ok (ready.call S4_ok (mergeOf_ok _) 60) ce28_run
-- agent Agent) Tick
noncomputable def ce31 : CE := ⟨42, [.ptr 29 0, .int .i64 (.ofNat 0)], ⟨hst38, 304⟩, [(.tup [.nils, .int .i64 (.ofNat 0)], ⟨hst39, 349⟩)]⟩
theorem ce31_run : chkE callT ce31 = true := by kernel_rfl
theorem ce31_ok {a0 : Nat → Value} : CeOk a0 Tryz.prog ce31 := chkE_ok (ready.call S4_ok (mergeOf_ok _) 60) ce31_run
-- agent Agent) Tick
noncomputable def ce32 : CE := ⟨42, [.ptr 29 0, .int .i64 (.ofNat 0)], ⟨hst39, 349⟩, [(.tup [.slc 446 0 2 none 9, .int .i64 (.ofNat 0)], ⟨hst40, 465⟩)]⟩
theorem ce32_run : chkE callT ce32 = true := by kernel_rfl
theorem ce32_ok {a0 : Nat → Value} : CeOk a0 Tryz.prog ce32 := chkE_ok (ready.call S4_ok (mergeOf_ok _) 60) ce32_run
-- hostlerlaw19 said
noncomputable def ce33 : CE := ⟨17, [.ptr 29 0, .agg [.int .i64 (.ofNat 7), .str [102], .str [120], .str [], .int .i64 (.ofNat 1), .int .i64 (.ofNat 0), .int .i64 (.ofNat 0), .int .i64 (.ofNat 0), .nils], .int .i64 (.ofNat 3), .nils], ⟨hst41, 469⟩, [(.bool true, ⟨hst41, 475⟩)]⟩
theorem ce33_run : chkE callT ce33 = true := by kernel_rfl
theorem ce33_ok {a0 : Nat → Value} : CeOk a0 Tryz.prog ce33 := chkE_ok (ready.call S4_ok (mergeOf_ok _) 60) ce33_run
-- hostlerlaw19 said
noncomputable def ce34 : CE := ⟨17, [.ptr 29 0, .agg [.int .i64 (.ofNat 9), .str [102], .str [120], .str [], .int .i64 (.ofNat 1), .int .i64 (.ofNat 0), .int .i64 (.ofNat 0), .int .i64 (.ofNat 0), .nils], .int .i64 (.ofNat 3), .nils], ⟨hst41, 476⟩, [(.bool true, ⟨hst41, 482⟩)]⟩
theorem ce34_run : chkE callT ce34 = true := by kernel_rfl
theorem ce34_ok {a0 : Nat → Value} : CeOk a0 Tryz.prog ce34 := chkE_ok (ready.call S4_ok (mergeOf_ok _) 60) ce34_run
-- hostlerlaw19 said
noncomputable def ce35 : CE := ⟨17, [.ptr 29 0, .agg [.int .i64 (.ofNat 8), .str [102], .str [120], .str [97], .int .i64 (.ofNat 1), .int .i64 (.ofNat 2), .int .i64 (.ofNat 0), .int .i64 (.ofNat 0), .nils], .int .i64 (.ofNat 3), .nils], ⟨hst41, 485⟩, [(.bool true, ⟨hst41, 492⟩)]⟩
theorem ce35_run : chkE callT ce35 = true := by kernel_rfl
theorem ce35_ok {a0 : Nat → Value} : CeOk a0 Tryz.prog ce35 := chkE_ok (ready.call S4_ok (mergeOf_ok _) 60) ce35_run
-- hostlerlaw19 said
noncomputable def ce37 : CE := ⟨17, [.ptr 29 0, .agg [.int .i64 (.ofNat 7), .str [102], .str [120], .str [], .int .i64 (.ofNat 2), .int .i64 (.ofNat 0), .int .i64 (.ofNat 0), .int .i64 (.ofNat 0), .nils], .int .i64 (.ofNat 0), .slc 720 0 1 (some 1) 0], ⟨hst44, 721⟩, [(.bool true, ⟨hst45, 842⟩)]⟩
theorem ce37_run : chkE callT ce37 = true := by kernel_rfl
theorem ce37_ok {a0 : Nat → Value} : CeOk a0 Tryz.prog ce37 := chkE_ok (ready.call S4_ok (mergeOf_ok _) 60) ce37_run
-- hostlerlaw19 up
noncomputable def ce38 : CE := ⟨15, [.agg [.cplx 4621819117588971520 4621819117588971520, .int .i64 (.ofNat 5), .int .i64 (.ofNat 3), .int .i64 (.ofNat 5), .int .i64 (.ofNat 1000), .int .i64 (.ofNat 1000), .int .i64 (.ofNat 4000)]], ⟨hst46, 2⟩, [(.tup [.ptr 29 0, .ptr 4 0, .bool true], ⟨hst47, 35⟩)]⟩
theorem ce38_run : chkE callT ce38 = true := by kernel_rfl
theorem ce38_ok {a0 : Nat → Value} : CeOk a0 Tryz.prog ce38 := chkE_ok (ready.call S4_ok (mergeOf_ok _) 60) ce38_run
end Go.AX

