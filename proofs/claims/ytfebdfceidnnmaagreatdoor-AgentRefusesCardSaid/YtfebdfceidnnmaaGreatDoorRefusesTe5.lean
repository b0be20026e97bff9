/- AgentRefuses, calls. -/
import Derived.Test.YtfebdfceidnnmaaGreatDoorRefusesTb
import Derived.Test.YtfebdfceidnnmaaGreatDoorRefusesTs0
set_option autoImplicit false
set_option linter.unusedVariables false
set_option maxRecDepth 1000000
namespace Go.AX
open Go.Proofs
-- hostlerlaw19 said
noncomputable def ce22 : CE := ⟨17, [.ptr 28 0, .agg [.int .i64 (.ofNat 1), .str [102], .str [121], .str [], .int .i64 (.ofNat 0), .int .i64 (.ofNat 0), .int .i64 (.ofNat 0), .int .i64 (.ofNat 0), .slc 217 0 1 none 2], .int .i64 (.ofNat 0), .slc 219 0 1 (some 1) 0], ⟨hst36, 220⟩, [(.bool true, ⟨hst37, 459⟩)]⟩
theorem ce22_run : chkE callT ce22 = true := by kernel_rfl
theorem ce22_ok {a0 : Nat → Value} : CeOk a0 Tryz.prog ce22 := chkE_ok (ready.call S4_ok (mergeOf_ok _) 60) ce22_run
-- hostlerlaw19 said
noncomputable def ce23 : CE := ⟨17, [.ptr 28 0, .agg [.int .i64 (.ofNat 1), .str [102], .str [121], .str [], .int .i64 (.ofNat 0), .int .i64 (.ofNat 0), .int .i64 (.ofNat 0), .int .i64 (.ofNat 0), .slc 465 0 2 none 2], .int .i64 (.ofNat 0), .slc 468 0 2 (some 2) 0], ⟨hst38, 469⟩, [(.bool true, ⟨hst39, 842⟩)]⟩
theorem ce23_run : chkE callT ce23 = true := by kernel_rfl
theorem ce23_ok {a0 : Nat → Value} : CeOk a0 Tryz.prog ce23 := chkE_ok (ready.call S4_ok (mergeOf_ok _) 60) ce23_run
-- hostlerlaw19 said
noncomputable def ce25 : CE := ⟨17, [.ptr 28 0, .agg [.int .i64 (.ofNat 1), .str [102], .str [121], .str [], .int .i64 (.ofNat 0), .int .i64 (.ofNat 0), .int .i64 (.ofNat 0), .int .i64 (.ofNat 0), .slc 891 0 2 none 2], .int .i64 (.ofNat 4), .nils], ⟨hst41, 892⟩, [(.bool true, ⟨hst41, 935⟩)]⟩
theorem ce25_run : chkE callT ce25 = true := by kernel_rfl
theorem ce25_ok {a0 : Nat → Value} : CeOk a0 Tryz.prog ce25 := chkE_ok (ready.call S4_ok (mergeOf_ok _) 60) ce25_run
-- hostlerlaw19 said
noncomputable def ce27 : CE := ⟨17, [.ptr 28 0, .agg [.int .i64 (.ofNat 2), .str [102], .str [], .str [97], .int .i64 (.ofNat 0), .int .i64 (.ofNat 0), .int .i64 (.ofNat 0), .int .i64 (.ofNat 0), .nils], .int .i64 (.ofNat 0), .slc 1315 0 1 (some 1) 0], ⟨hst44, 1316⟩, [(.bool true, ⟨hst45, 1527⟩)]⟩
theorem ce27_run : chkE callT ce27 = true := by kernel_rfl
theorem ce27_ok {a0 : Nat → Value} : CeOk a0 Tryz.prog ce27 := chkE_ok (ready.call S4_ok (mergeOf_ok _) 60) ce27_run
-- hostlerlaw19 said
noncomputable def ce34 : CE := ⟨17, [.ptr 28 0, .agg [.int .i64 (.ofNat 1), .str [102], .str [121], .str [], .int .i64 (.ofNat 0), .int .i64 (.ofNat 0), .int .i64 (.ofNat 0), .int .i64 (.ofNat 0), .slc 846 0 1 none 2], .int .i64 (.ofNat 4), .nils], ⟨hst56, 847⟩, [(.bool true, ⟨hst56, 885⟩)]⟩
theorem ce34_run : chkE callT ce34 = true := by kernel_rfl
theorem ce34_ok {a0 : Nat → Value} : CeOk a0 Tryz.prog ce34 := chkE_ok (ready.call S4_ok (mergeOf_ok _) 60) ce34_run
end Go.AX

