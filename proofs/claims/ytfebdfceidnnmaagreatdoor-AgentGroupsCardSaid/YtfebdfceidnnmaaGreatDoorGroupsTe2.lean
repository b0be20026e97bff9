/- AgentGroups, calls. -/
import Derived.Test.YtfebdfceidnnmaaGreatDoorGroupsTb
import Derived.Test.YtfebdfceidnnmaaGreatDoorGroupsTs0
set_option autoImplicit false
set_option linter.unusedVariables false
set_option maxRecDepth 1000000
namespace Go.AX
open Go.Proofs
-- hostlerlaw19 said
noncomputable def ce9 : CE := ⟨17, [.ptr 28 0, .agg [.int .i64 (.ofNat 1), .str [102], .str [120], .str [], .int .i64 (.ofNat 0), .int .i64 (.ofNat 0), .int .i64 (.ofNat 0), .int .i64 (.ofNat 0), .slc 390 0 2 none 2], .int .i64 (.ofNat 0), .slc 399 0 2 (some 2) 0], ⟨hst15, 400⟩, [(.bool true, ⟨hst16, 693⟩)]⟩
theorem ce9_run : chkE callT ce9 = true := by kernel_rfl
theorem ce9_ok {a0 : Nat → Value} : CeOk a0 Tryz.prog ce9 := chkE_ok (ready.call S4_ok (mergeOf_ok _) 60) ce9_run
-- hostlerlaw19 said
noncomputable def ce10 : CE := ⟨17, [.ptr 28 0, .agg [.int .i64 (.ofNat 8), .str [102], .str [120], .str [112], .int .i64 (.ofNat 1), .int .i64 (.ofNat 2), .int .i64 (.ofNat 0), .int .i64 (.ofNat 0), .nils], .int .i64 (.ofNat 0), .slc 697 0 1 (some 1) 0], ⟨hst17, 698⟩, [(.bool true, ⟨hst18, 913⟩)]⟩
theorem ce10_run : chkE callT ce10 = true := by kernel_rfl
theorem ce10_ok {a0 : Nat → Value} : CeOk a0 Tryz.prog ce10 := chkE_ok (ready.call S4_ok (mergeOf_ok _) 60) ce10_run
-- hostlerlaw19 said
noncomputable def ce11 : CE := ⟨17, [.ptr 28 0, .agg [.int .i64 (.ofNat 7), .str [102], .str [120], .str [], .int .i64 (.ofNat 1), .int .i64 (.ofNat 0), .int .i64 (.ofNat 0), .int .i64 (.ofNat 0), .nils], .int .i64 (.ofNat 0), .slc 918 0 3 none 9], ⟨hst19, 920⟩, [(.bool true, ⟨hst19, 1121⟩)]⟩
theorem ce11_run : chkE callT ce11 = true := by kernel_rfl
theorem ce11_ok {a0 : Nat → Value} : CeOk a0 Tryz.prog ce11 := chkE_ok (ready.call S4_ok (mergeOf_ok _) 60) ce11_run
end Go.AX

