/- AgentGroups, calls. -/
import Derived.Test.YtfebdfceidnnmaaGreatDoorGroupsTb
import Derived.Test.YtfebdfceidnnmaaGreatDoorGroupsTs0
set_option autoImplicit false
set_option linter.unusedVariables false
set_option maxRecDepth 1000000
namespace Go.AX
open Go.Proofs
-- hostlerlaw19 said
noncomputable def ce4 : CE := ⟨17, [.ptr 28 0, .agg [.int .i64 (.ofNat 8), .str [102], .str [120], .str [112], .int .i64 (.ofNat 1), .int .i64 (.ofNat 2), .int .i64 (.ofNat 0), .int .i64 (.ofNat 0), .nils], .int .i64 (.ofNat 0), .slc 579 0 1 (some 1) 0], ⟨hst7, 580⟩, [(.bool true, ⟨hst8, 767⟩)]⟩
theorem ce4_run : chkE callT ce4 = true := by kernel_rfl
theorem ce4_ok {a0 : Nat → Value} : CeOk a0 Tryz.prog ce4 := chkE_ok (ready.call S4_ok (mergeOf_ok _) 60) ce4_run
-- hostlerlaw19 said
noncomputable def ce6 : CE := ⟨17, [.ptr 28 0, .agg [.int .i64 (.ofNat 8), .str [102], .str [120], .str [97], .int .i64 (.ofNat 1), .int .i64 (.ofNat 3), .int .i64 (.ofNat 0), .int .i64 (.ofNat 0), .nils], .int .i64 (.ofNat 0), .slc 942 0 1 (some 1) 0], ⟨hst10, 943⟩, [(.bool true, ⟨hst11, 1126⟩)]⟩
theorem ce6_run : chkE callT ce6 = true := by kernel_rfl
theorem ce6_ok {a0 : Nat → Value} : CeOk a0 Tryz.prog ce6 := chkE_ok (ready.call S4_ok (mergeOf_ok _) 60) ce6_run
-- hostlerlaw19 said
noncomputable def ce7 : CE := ⟨17, [.ptr 28 0, .agg [.int .i64 (.ofNat 1), .str [102], .str [120], .str [], .int .i64 (.ofNat 0), .int .i64 (.ofNat 0), .int .i64 (.ofNat 0), .int .i64 (.ofNat 0), .slc 52 0 2 none 2], .int .i64 (.ofNat 0), .slc 54 0 1 (some 1) 0], ⟨hst12, 55⟩, [(.bool true, ⟨hst13, 273⟩)]⟩
theorem ce7_run : chkE callT ce7 = true := by kernel_rfl
theorem ce7_ok {a0 : Nat → Value} : CeOk a0 Tryz.prog ce7 := chkE_ok (ready.call S4_ok (mergeOf_ok _) 60) ce7_run
-- hostlerlaw19 said
noncomputable def ce8 : CE := ⟨17, [.ptr 28 0, .agg [.int .i64 (.ofNat 7), .str [102], .str [120], .str [], .int .i64 (.ofNat 1), .int .i64 (.ofNat 0), .int .i64 (.ofNat 0), .int .i64 (.ofNat 0), .nils], .int .i64 (.ofNat 0), .slc 46 0 2 none 9], ⟨hst13, 274⟩, [(.bool true, ⟨hst14, 384⟩)]⟩
theorem ce8_run : chkE callT ce8 = true := by kernel_rfl
theorem ce8_ok {a0 : Nat → Value} : CeOk a0 Tryz.prog ce8 := chkE_ok (ready.call S4_ok (mergeOf_ok _) 60) ce8_run
end Go.AX

