/- AgentLate, calls. -/
import Derived.Test.YtfebdfceidnnmaaGreatDoorLateTb
import Derived.Test.YtfebdfceidnnmaaGreatDoorLateTs0
set_option autoImplicit false
set_option linter.unusedVariables false
set_option maxRecDepth 1000000
namespace Go.AX
open Go.Proofs
-- agent Agent) Tick
noncomputable def ce86 : CE := ⟨42, [.ptr 29 0, .int .i64 (.ofNat 0)], ⟨hst101, 529⟩, [(.tup [.slc 626 0 2 none 9, .int .i64 (.ofNat 0)], ⟨hst102, 645⟩)]⟩
theorem ce86_run : chkE callT ce86 = true := by kernel_rfl
theorem ce86_ok {a0 : Nat → Value} : CeOk a0 Tryz.prog ce86 := chkE_ok (ready.call S4_ok (mergeOf_ok _) 60) ce86_run
-- hostlerlaw19 said
noncomputable def ce89 : CE := ⟨17, [.ptr 29 0, .agg [.int .i64 (.ofNat 8), .str [102], .str [120], .str [97], .int .i64 (.ofNat 1), .int .i64 (.ofNat 2), .int .i64 (.ofNat 0), .int .i64 (.ofNat 0), .nils], .int .i64 (.ofNat 3), .nils], ⟨hst103, 665⟩, [(.bool true, ⟨hst103, 672⟩)]⟩
theorem ce89_run : chkE callT ce89 = true := by kernel_rfl
theorem ce89_ok {a0 : Nat → Value} : CeOk a0 Tryz.prog ce89 := chkE_ok (ready.call S4_ok (mergeOf_ok _) 60) ce89_run
-- hostlerlaw19 said
noncomputable def ce90 : CE := ⟨17, [.ptr 29 0, .agg [.int .i64 (.ofNat 1), .str [102], .str [120], .str [], .int .i64 (.ofNat 0), .int .i64 (.ofNat 0), .int .i64 (.ofNat 0), .int .i64 (.ofNat 0), .slc 676 0 1 none 2], .int .i64 (.ofNat 0), .slc 678 0 1 (some 1) 0], ⟨hst104, 679⟩, [(.bool true, ⟨hst105, 895⟩)]⟩
theorem ce90_run : chkE callT ce90 = true := by kernel_rfl
theorem ce90_ok {a0 : Nat → Value} : CeOk a0 Tryz.prog ce90 := chkE_ok (ready.call S4_ok (mergeOf_ok _) 60) ce90_run
-- hostlerlaw19 said
noncomputable def ce91 : CE := ⟨17, [.ptr 29 0, .agg [.int .i64 (.ofNat 7), .str [102], .str [120], .str [], .int .i64 (.ofNat 2), .int .i64 (.ofNat 0), .int .i64 (.ofNat 0), .int .i64 (.ofNat 0), .nils], .int .i64 (.ofNat 0), .slc 900 0 1 (some 1) 0], ⟨hst106, 901⟩, [(.bool true, ⟨hst107, 1022⟩)]⟩
theorem ce91_run : chkE callT ce91 = true := by kernel_rfl
theorem ce91_ok {a0 : Nat → Value} : CeOk a0 Tryz.prog ce91 := chkE_ok (ready.call S4_ok (mergeOf_ok _) 60) ce91_run
end Go.AX

