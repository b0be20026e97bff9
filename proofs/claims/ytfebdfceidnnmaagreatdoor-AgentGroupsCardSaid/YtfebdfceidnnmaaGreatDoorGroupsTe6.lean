/- AgentGroups, calls. -/
import Derived.Test.YtfebdfceidnnmaaGreatDoorGroupsTb
import Derived.Test.YtfebdfceidnnmaaGreatDoorGroupsTs0
set_option autoImplicit false
set_option linter.unusedVariables false
set_option maxRecDepth 1000000
namespace Go.AX
open Go.Proofs
-- hostlerlaw19 said
noncomputable def ce22 : CE := ⟨17, [.ptr 28 0, .agg [.int .i64 (.ofNat 1), .str [102], .str [120], .str [], .int .i64 (.ofNat 0), .int .i64 (.ofNat 0), .int .i64 (.ofNat 0), .int .i64 (.ofNat 0), .slc 68 0 4 none 2], .int .i64 (.ofNat 0), .slc 70 0 1 (some 1) 0], ⟨hst38, 71⟩, [(.bool true, ⟨hst39, 381⟩)]⟩
theorem ce22_run : chkE callT ce22 = true := by kernel_rfl
theorem ce22_ok {a0 : Nat → Value} : CeOk a0 Tryz.prog ce22 := chkE_ok (ready.call S4_ok (mergeOf_ok _) 60) ce22_run
-- hostlerlaw19 said
noncomputable def ce23 : CE := ⟨17, [.ptr 28 0, .agg [.int .i64 (.ofNat 7), .str [102], .str [120], .str [], .int .i64 (.ofNat 1), .int .i64 (.ofNat 0), .int .i64 (.ofNat 0), .int .i64 (.ofNat 0), .nils], .int .i64 (.ofNat 0), .slc 58 0 4 none 9], ⟨hst39, 382⟩, [(.bool true, ⟨hst40, 566⟩)]⟩
theorem ce23_run : chkE callT ce23 = true := by kernel_rfl
theorem ce23_ok {a0 : Nat → Value} : CeOk a0 Tryz.prog ce23 := chkE_ok (ready.call S4_ok (mergeOf_ok _) 60) ce23_run
-- hostlerlaw19 said
noncomputable def ce26 : CE := ⟨17, [.ptr 28 0, .agg [.int .i64 (.ofNat 7), .str [102], .str [120], .str [], .int .i64 (.ofNat 1), .int .i64 (.ofNat 0), .int .i64 (.ofNat 0), .int .i64 (.ofNat 0), .nils], .int .i64 (.ofNat 0), .slc 1210 0 5 none 9], ⟨hst45, 1212⟩, [(.bool true, ⟨hst45, 1487⟩)]⟩
theorem ce26_run : chkE callT ce26 = true := by kernel_rfl
theorem ce26_ok {a0 : Nat → Value} : CeOk a0 Tryz.prog ce26 := chkE_ok (ready.call S4_ok (mergeOf_ok _) 60) ce26_run
end Go.AX

