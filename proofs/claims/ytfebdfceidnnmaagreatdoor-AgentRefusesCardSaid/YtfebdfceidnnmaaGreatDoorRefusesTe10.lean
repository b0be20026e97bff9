/- AgentRefuses, calls. -/
import Derived.Test.YtfebdfceidnnmaaGreatDoorRefusesTb
import Derived.Test.YtfebdfceidnnmaaGreatDoorRefusesTs0
set_option autoImplicit false
set_option linter.unusedVariables false
set_option maxRecDepth 1000000
namespace Go.AX
open Go.Proofs
-- hostlerlaw19 said
noncomputable def ce43 : CE := ⟨17, [.ptr 28 0, .agg [.int .i64 (.ofNat 1), .str [102], .str [121], .str [], .int .i64 (.ofNat 0), .int .i64 (.ofNat 0), .int .i64 (.ofNat 0), .int .i64 (.ofNat 0), .slc 465 0 2 none 2], .int .i64 (.ofNat 0), .slc 468 0 2 (some 2) 0], ⟨hst70, 469⟩, [(.bool true, ⟨hst71, 842⟩)]⟩
theorem ce43_run : chkE callT ce43 = true := by kernel_rfl
theorem ce43_ok {a0 : Nat → Value} : CeOk a0 Tryz.prog ce43 := chkE_ok (ready.call S4_ok (mergeOf_ok _) 60) ce43_run
-- hostlerlaw19 said
noncomputable def ce46 : CE := ⟨17, [.ptr 28 0, .agg [.int .i64 (.ofNat 2), .str [102], .str [], .str [97], .int .i64 (.ofNat 0), .int .i64 (.ofNat 0), .int .i64 (.ofNat 0), .int .i64 (.ofNat 0), .nils], .int .i64 (.ofNat 0), .slc 978 0 1 (some 1) 0], ⟨hst74, 979⟩, [(.bool true, ⟨hst75, 1154⟩)]⟩
theorem ce46_run : chkE callT ce46 = true := by kernel_rfl
theorem ce46_ok {a0 : Nat → Value} : CeOk a0 Tryz.prog ce46 := chkE_ok (ready.call S4_ok (mergeOf_ok _) 60) ce46_run
-- hostlerlaw19 said
noncomputable def ce48 : CE := ⟨17, [.ptr 28 0, .agg [.int .i64 (.ofNat 1), .str [102], .str [122], .str [], .int .i64 (.ofNat 0), .int .i64 (.ofNat 0), .int .i64 (.ofNat 0), .int .i64 (.ofNat 0), .slc 1291 0 1 none 2], .int .i64 (.ofNat 0), .slc 1293 0 1 (some 1) 0], ⟨hst76, 1294⟩, [(.bool true, ⟨hst77, 1618⟩)]⟩
theorem ce48_run : chkE callT ce48 = true := by kernel_rfl
theorem ce48_ok {a0 : Nat → Value} : CeOk a0 Tryz.prog ce48 := chkE_ok (ready.call S4_ok (mergeOf_ok _) 60) ce48_run
-- hostlerlaw19 said
noncomputable def ce49 : CE := ⟨17, [.ptr 28 0, .agg [.int .i64 (.ofNat 7), .str [102], .str [120], .str [], .int .i64 (.ofNat 1), .int .i64 (.ofNat 0), .int .i64 (.ofNat 0), .int .i64 (.ofNat 0), .nils], .int .i64 (.ofNat 0), .slc 1620 0 1 (some 1) 0], ⟨hst78, 1621⟩, [(.bool true, ⟨hst79, 1855⟩)]⟩
theorem ce49_run : chkE callT ce49 = true := by kernel_rfl
theorem ce49_ok {a0 : Nat → Value} : CeOk a0 Tryz.prog ce49 := chkE_ok (ready.call S4_ok (mergeOf_ok _) 60) ce49_run
end Go.AX

