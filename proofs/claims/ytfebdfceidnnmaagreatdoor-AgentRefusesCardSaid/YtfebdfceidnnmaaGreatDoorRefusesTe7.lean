/- AgentRefuses, calls. -/
import Derived.Test.YtfebdfceidnnmaaGreatDoorRefusesTb
import Derived.Test.YtfebdfceidnnmaaGreatDoorRefusesTs0
set_option autoImplicit false
set_option linter.unusedVariables false
set_option maxRecDepth 1000000
namespace Go.AX
open Go.Proofs
-- hostlerlaw19 said
noncomputable def ce31 : CE := ⟨17, [.ptr 28 0, .agg [.int .i64 (.ofNat 1), .str [102], .str [120], .str [], .int .i64 (.ofNat 0), .int .i64 (.ofNat 0), .int .i64 (.ofNat 0), .int .i64 (.ofNat 0), .slc 38 0 1 none 2], .int .i64 (.ofNat 0), .slc 40 0 1 (some 1) 0], ⟨hst50, 41⟩, [(.bool true, ⟨hst51, 213⟩)]⟩
theorem ce31_run : chkE callT ce31 = true := by kernel_rfl
theorem ce31_ok {a0 : Nat → Value} : CeOk a0 Tryz.prog ce31 := chkE_ok (ready.call S4_ok (mergeOf_ok _) 60) ce31_run
-- hostlerlaw19 said
noncomputable def ce32 : CE := ⟨17, [.ptr 28 0, .agg [.int .i64 (.ofNat 1), .str [102], .str [121], .str [], .int .i64 (.ofNat 0), .int .i64 (.ofNat 0), .int .i64 (.ofNat 0), .int .i64 (.ofNat 0), .slc 217 0 1 none 2], .int .i64 (.ofNat 0), .slc 219 0 1 (some 1) 0], ⟨hst52, 220⟩, [(.bool true, ⟨hst53, 459⟩)]⟩
theorem ce32_run : chkE callT ce32 = true := by kernel_rfl
theorem ce32_ok {a0 : Nat → Value} : CeOk a0 Tryz.prog ce32 := chkE_ok (ready.call S4_ok (mergeOf_ok _) 60) ce32_run
-- hostlerlaw19 said
noncomputable def ce33 : CE := ⟨17, [.ptr 28 0, .agg [.int .i64 (.ofNat 1), .str [102], .str [121], .str [], .int .i64 (.ofNat 0), .int .i64 (.ofNat 0), .int .i64 (.ofNat 0), .int .i64 (.ofNat 0), .slc 465 0 2 none 2], .int .i64 (.ofNat 0), .slc 468 0 2 (some 2) 0], ⟨hst54, 469⟩, [(.bool true, ⟨hst55, 842⟩)]⟩
theorem ce33_run : chkE callT ce33 = true := by kernel_rfl
theorem ce33_ok {a0 : Nat → Value} : CeOk a0 Tryz.prog ce33 := chkE_ok (ready.call S4_ok (mergeOf_ok _) 60) ce33_run
-- hostlerlaw19 said
noncomputable def ce35 : CE := ⟨17, [.ptr 28 0, .agg [.int .i64 (.ofNat 1), .str [102], .str [121], .str [], .int .i64 (.ofNat 0), .int .i64 (.ofNat 0), .int .i64 (.ofNat 0), .int .i64 (.ofNat 0), .slc 891 0 2 none 2], .int .i64 (.ofNat 4), .nils], ⟨hst57, 892⟩, [(.bool true, ⟨hst57, 935⟩)]⟩
theorem ce35_run : chkE callT ce35 = true := by kernel_rfl
theorem ce35_ok {a0 : Nat → Value} : CeOk a0 Tryz.prog ce35 := chkE_ok (ready.call S4_ok (mergeOf_ok _) 60) ce35_run
end Go.AX

