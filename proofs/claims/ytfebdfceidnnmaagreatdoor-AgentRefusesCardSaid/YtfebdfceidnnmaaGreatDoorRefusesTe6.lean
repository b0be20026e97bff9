/- AgentRefuses, calls. -/
import Derived.Test.YtfebdfceidnnmaaGreatDoorRefusesTb
import Derived.Test.YtfebdfceidnnmaaGreatDoorRefusesTs0
set_option autoImplicit false
set_option linter.unusedVariables false
set_option maxRecDepth 1000000
namespace Go.AX
open Go.Proofs
-- hostlerlaw19 said
noncomputable def ce26 : CE := ⟨17, [.ptr 28 0, .agg [.int .i64 (.ofNat 1), .str [102], .str [121], .str [], .int .i64 (.ofNat 0), .int .i64 (.ofNat 0), .int .i64 (.ofNat 0), .int .i64 (.ofNat 0), .slc 980 0 1 none 2], .int .i64 (.ofNat 0), .slc 982 0 1 (some 1) 0], ⟨hst42, 983⟩, [(.bool true, ⟨hst43, 1313⟩)]⟩
theorem ce26_run : chkE callT ce26 = true := by kernel_rfl
theorem ce26_ok {a0 : Nat → Value} : CeOk a0 Tryz.prog ce26 := chkE_ok (ready.call S4_ok (mergeOf_ok _) 60) ce26_run
-- hostlerlaw19 said
noncomputable def ce28 : CE := ⟨17, [.ptr 28 0, .agg [.int .i64 (.ofNat 2), .str [102], .str [], .str [97], .int .i64 (.ofNat 0), .int .i64 (.ofNat 0), .int .i64 (.ofNat 0), .int .i64 (.ofNat 0), .nils], .int .i64 (.ofNat 0), .nils], ⟨hst45, 1527⟩, [(.bool true, ⟨hst45, 1696⟩)]⟩
theorem ce28_run : chkE callT ce28 = true := by kernel_rfl
theorem ce28_ok {a0 : Nat → Value} : CeOk a0 Tryz.prog ce28 := chkE_ok (ready.call S4_ok (mergeOf_ok _) 60) ce28_run
-- hostlerlaw19 said
noncomputable def ce29 : CE := ⟨17, [.ptr 28 0, .agg [.int .i64 (.ofNat 1), .str [102], .str [122], .str [], .int .i64 (.ofNat 0), .int .i64 (.ofNat 0), .int .i64 (.ofNat 0), .int .i64 (.ofNat 0), .slc 1700 0 1 none 2], .int .i64 (.ofNat 0), .slc 1702 0 1 (some 1) 0], ⟨hst46, 1703⟩, [(.bool true, ⟨hst47, 2078⟩)]⟩
theorem ce29_run : chkE callT ce29 = true := by kernel_rfl
theorem ce29_ok {a0 : Nat → Value} : CeOk a0 Tryz.prog ce29 := chkE_ok (ready.call S4_ok (mergeOf_ok _) 60) ce29_run
-- hostlerlaw19 said
noncomputable def ce30 : CE := ⟨17, [.ptr 28 0, .agg [.int .i64 (.ofNat 7), .str [102], .str [120], .str [], .int .i64 (.ofNat 1), .int .i64 (.ofNat 0), .int .i64 (.ofNat 0), .int .i64 (.ofNat 0), .nils], .int .i64 (.ofNat 0), .slc 2080 0 1 (some 1) 0], ⟨hst48, 2081⟩, [(.bool true, ⟨hst49, 2364⟩)]⟩
theorem ce30_run : chkE callT ce30 = true := by kernel_rfl
theorem ce30_ok {a0 : Nat → Value} : CeOk a0 Tryz.prog ce30 := chkE_ok (ready.call S4_ok (mergeOf_ok _) 60) ce30_run
end Go.AX

