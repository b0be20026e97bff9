/- AgentRefuses, calls. -/
import Derived.Test.YtfebdfceidnnmaaGreatDoorRefusesTb
import Derived.Test.YtfebdfceidnnmaaGreatDoorRefusesTs0
set_option autoImplicit false
set_option linter.unusedVariables false
set_option maxRecDepth 1000000
namespace Go.AX
open Go.Proofs
-- hostlerlaw19 said
noncomputable def ce40 : CE := ⟨17, [.ptr 28 0, .agg [.int .i64 (.ofNat 7), .str [102], .str [120], .str [], .int .i64 (.ofNat 1), .int .i64 (.ofNat 0), .int .i64 (.ofNat 0), .int .i64 (.ofNat 0), .nils], .int .i64 (.ofNat 0), .slc 2080 0 1 (some 1) 0], ⟨hst64, 2081⟩, [(.bool true, ⟨hst65, 2364⟩)]⟩
theorem ce40_run : chkE callT ce40 = true := by kernel_rfl
theorem ce40_ok {a0 : Nat → Value} : CeOk a0 Tryz.prog ce40 := chkE_ok (ready.call S4_ok (mergeOf_ok _) 60) ce40_run
-- hostlerlaw19 said
noncomputable def ce41 : CE := ⟨17, [.ptr 28 0, .agg [.int .i64 (.ofNat 1), .str [102], .str [120], .str [], .int .i64 (.ofNat 0), .int .i64 (.ofNat 0), .int .i64 (.ofNat 0), .int .i64 (.ofNat 0), .slc 38 0 1 none 2], .int .i64 (.ofNat 0), .slc 40 0 1 (some 1) 0], ⟨hst66, 41⟩, [(.bool true, ⟨hst67, 213⟩)]⟩
theorem ce41_run : chkE callT ce41 = true := by kernel_rfl
theorem ce41_ok {a0 : Nat → Value} : CeOk a0 Tryz.prog ce41 := chkE_ok (ready.call S4_ok (mergeOf_ok _) 60) ce41_run
-- hostlerlaw19 said
noncomputable def ce42 : CE := ⟨17, [.ptr 28 0, .agg [.int .i64 (.ofNat 1), .str [102], .str [121], .str [], .int .i64 (.ofNat 0), .int .i64 (.ofNat 0), .int .i64 (.ofNat 0), .int .i64 (.ofNat 0), .slc 217 0 1 none 2], .int .i64 (.ofNat 0), .slc 219 0 1 (some 1) 0], ⟨hst68, 220⟩, [(.bool true, ⟨hst69, 459⟩)]⟩
theorem ce42_run : chkE callT ce42 = true := by kernel_rfl
theorem ce42_ok {a0 : Nat → Value} : CeOk a0 Tryz.prog ce42 := chkE_ok (ready.call S4_ok (mergeOf_ok _) 60) ce42_run
-- hostlerlaw19 said
noncomputable def ce44 : CE := ⟨17, [.ptr 28 0, .agg [.int .i64 (.ofNat 1), .str [102], .str [121], .str [], .int .i64 (.ofNat 0), .int .i64 (.ofNat 0), .int .i64 (.ofNat 0), .int .i64 (.ofNat 0), .slc 846 0 1 none 2], .int .i64 (.ofNat 4), .nils], ⟨hst72, 847⟩, [(.bool true, ⟨hst72, 885⟩)]⟩
theorem ce44_run : chkE callT ce44 = true := by kernel_rfl
theorem ce44_ok {a0 : Nat → Value} : CeOk a0 Tryz.prog ce44 := chkE_ok (ready.call S4_ok (mergeOf_ok _) 60) ce44_run
-- hostlerlaw19 said
noncomputable def ce45 : CE := ⟨17, [.ptr 28 0, .agg [.int .i64 (.ofNat 1), .str [102], .str [121], .str [], .int .i64 (.ofNat 0), .int .i64 (.ofNat 0), .int .i64 (.ofNat 0), .int .i64 (.ofNat 0), .slc 891 0 2 none 2], .int .i64 (.ofNat 4), .nils], ⟨hst73, 892⟩, [(.bool true, ⟨hst73, 935⟩)]⟩
theorem ce45_run : chkE callT ce45 = true := by kernel_rfl
theorem ce45_ok {a0 : Nat → Value} : CeOk a0 Tryz.prog ce45 := chkE_ok (ready.call S4_ok (mergeOf_ok _) 60) ce45_run
-- hostlerlaw19 said
noncomputable def ce47 : CE := ⟨17, [.ptr 28 0, .agg [.int .i64 (.ofNat 2), .str [102], .str [], .str [97], .int .i64 (.ofNat 0), .int .i64 (.ofNat 0), .int .i64 (.ofNat 0), .int .i64 (.ofNat 0), .nils], .int .i64 (.ofNat 0), .nils], ⟨hst75, 1154⟩, [(.bool true, ⟨hst75, 1287⟩)]⟩
theorem ce47_run : chkE callT ce47 = true := by kernel_rfl
theorem ce47_ok {a0 : Nat → Value} : CeOk a0 Tryz.prog ce47 := chkE_ok (ready.call S4_ok (mergeOf_ok _) 60) ce47_run
end Go.AX

