/- AgentRuns, calls. -/
import Derived.Test.YtfebdfceidnnmaaGreatDoorRunsTb
import Derived.Test.YtfebdfceidnnmaaGreatDoorRunsTs0
set_option autoImplicit false
set_option linter.unusedVariables false
set_option maxRecDepth 1000000
namespace Go.AX
open Go.Proofs
-- hostlerlaw19 said
noncomputable def ce29 : CE := ⟨17, [.ptr 28 0, .agg [.int .i64 (.ofNat 4), .str [102], .str [], .str [97], .int .i64 (.ofNat 0), .int .i64 (.ofNat 0), .int .i64 (.ofNat 1), .int .i64 (.ofNat 1), .nils], .int .i64 (.ofNat 3), .nils], ⟨hst44, 492⟩, [(.bool true, ⟨hst44, 497⟩)]⟩
theorem ce29_run : chkE callT ce29 = true := by kernel_rfl
theorem ce29_ok {a0 : Nat → Value} : CeOk a0 Tryz.prog ce29 := chkE_ok (ready.call S4_ok (mergeOf_ok _) 60) ce29_run
-- hostlerlaw19 said
noncomputable def ce30 : CE := ⟨17, [.ptr 28 0, .agg [.int .i64 (.ofNat 8), .str [102], .str [120], .str [97], .int .i64 (.ofNat 1), .int .i64 (.ofNat 3), .int .i64 (.ofNat 0), .int .i64 (.ofNat 0), .nils], .int .i64 (.ofNat 0), .slc 502 0 2 (some 2) 0], ⟨hst45, 503⟩, [(.bool true, ⟨hst46, 616⟩)]⟩
theorem ce30_run : chkE callT ce30 = true := by kernel_rfl
theorem ce30_ok {a0 : Nat → Value} : CeOk a0 Tryz.prog ce30 := chkE_ok (ready.call S4_ok (mergeOf_ok _) 60) ce30_run
-- hostlerlaw19 said
noncomputable def ce31 : CE := ⟨17, [.ptr 28 0, .agg [.int .i64 (.ofNat 9), .str [102], .str [120], .str [], .int .i64 (.ofNat 1), .int .i64 (.ofNat 0), .int .i64 (.ofNat 0), .int .i64 (.ofNat 0), .nils], .int .i64 (.ofNat 0), .nils], ⟨hst46, 628⟩, [(.bool true, ⟨hst47, 682⟩)]⟩
theorem ce31_run : chkE callT ce31 = true := by kernel_rfl
theorem ce31_ok {a0 : Nat → Value} : CeOk a0 Tryz.prog ce31 := chkE_ok (ready.call S4_ok (mergeOf_ok _) 60) ce31_run
-- hostlerlaw19 said
noncomputable def ce32 : CE := ⟨17, [.ptr 28 0, .agg [.int .i64 (.ofNat 4), .str [102], .str [], .str [97], .int .i64 (.ofNat 0), .int .i64 (.ofNat 0), .int .i64 (.ofNat 2), .int .i64 (.ofNat 1), .nils], .int .i64 (.ofNat 0), .nils], ⟨hst48, 685⟩, [(.bool true, ⟨hst49, 752⟩)]⟩
theorem ce32_run : chkE callT ce32 = true := by kernel_rfl
theorem ce32_ok {a0 : Nat → Value} : CeOk a0 Tryz.prog ce32 := chkE_ok (ready.call S4_ok (mergeOf_ok _) 60) ce32_run
-- hostlerlaw19 said
noncomputable def ce33 : CE := ⟨17, [.ptr 28 0, .agg [.int .i64 (.ofNat 1), .str [102], .str [120], .str [], .int .i64 (.ofNat 0), .int .i64 (.ofNat 0), .int .i64 (.ofNat 0), .int .i64 (.ofNat 0), .slc 39 0 1 none 2], .int .i64 (.ofNat 0), .slc 41 0 1 (some 1) 0], ⟨hst50, 42⟩, [(.bool true, ⟨hst51, 214⟩)]⟩
theorem ce33_run : chkE callT ce33 = true := by kernel_rfl
theorem ce33_ok {a0 : Nat → Value} : CeOk a0 Tryz.prog ce33 := chkE_ok (ready.call S4_ok (mergeOf_ok _) 60) ce33_run
-- hostlerlaw19 said
noncomputable def ce34 : CE := ⟨17, [.ptr 28 0, .agg [.int .i64 (.ofNat 7), .str [102], .str [120], .str [], .int .i64 (.ofNat 1), .int .i64 (.ofNat 0), .int .i64 (.ofNat 0), .int .i64 (.ofNat 0), .nils], .int .i64 (.ofNat 0), .slc 235 0 1 (some 1) 0], ⟨hst52, 236⟩, [(.bool true, ⟨hst53, 309⟩)]⟩
theorem ce34_run : chkE callT ce34 = true := by kernel_rfl
theorem ce34_ok {a0 : Nat → Value} : CeOk a0 Tryz.prog ce34 := chkE_ok (ready.call S4_ok (mergeOf_ok _) 60) ce34_run
-- hostlerlaw19 said
noncomputable def ce35 : CE := ⟨17, [.ptr 28 0, .agg [.int .i64 (.ofNat 8), .str [102], .str [120], .str [97], .int .i64 (.ofNat 1), .int .i64 (.ofNat 2), .int .i64 (.ofNat 0), .int .i64 (.ofNat 0), .nils], .int .i64 (.ofNat 0), .slc 313 0 1 (some 1) 0], ⟨hst54, 314⟩, [(.bool true, ⟨hst55, 422⟩)]⟩
theorem ce35_run : chkE callT ce35 = true := by kernel_rfl
theorem ce35_ok {a0 : Nat → Value} : CeOk a0 Tryz.prog ce35 := chkE_ok (ready.call S4_ok (mergeOf_ok _) 60) ce35_run
-- hostlerlaw19 said
noncomputable def ce36 : CE := ⟨17, [.ptr 28 0, .agg [.int .i64 (.ofNat 4), .str [102], .str [], .str [97], .int .i64 (.ofNat 0), .int .i64 (.ofNat 0), .int .i64 (.ofNat 1), .int .i64 (.ofNat 1), .nils], .int .i64 (.ofNat 0), .nils], ⟨hst55, 423⟩, [(.bool true, ⟨hst56, 491⟩)]⟩
theorem ce36_run : chkE callT ce36 = true := by kernel_rfl
theorem ce36_ok {a0 : Nat → Value} : CeOk a0 Tryz.prog ce36 := chkE_ok (ready.call S4_ok (mergeOf_ok _) 60) ce36_run
-- hostlerlaw19 said
noncomputable def ce37 : CE := ⟨17, [.ptr 28 0, .agg [.int .i64 (.ofNat 4), .str [102], .str [], .str [97], .int .i64 (.ofNat 0), .int .i64 (.ofNat 0), .int .i64 (.ofNat 1), .int .i64 (.ofNat 1), .nils], .int .i64 (.ofNat 3), .nils], ⟨hst56, 492⟩, [(.bool true, ⟨hst56, 497⟩)]⟩
theorem ce37_run : chkE callT ce37 = true := by kernel_rfl
theorem ce37_ok {a0 : Nat → Value} : CeOk a0 Tryz.prog ce37 := chkE_ok (ready.call S4_ok (mergeOf_ok _) 60) ce37_run
-- hostlerlaw19 said
noncomputable def ce38 : CE := ⟨17, [.ptr 28 0, .agg [.int .i64 (.ofNat 8), .str [102], .str [120], .str [97], .int .i64 (.ofNat 1), .int .i64 (.ofNat 3), .int .i64 (.ofNat 0), .int .i64 (.ofNat 0), .nils], .int .i64 (.ofNat 0), .slc 502 0 2 (some 2) 0], ⟨hst57, 503⟩, [(.bool true, ⟨hst58, 616⟩)]⟩
theorem ce38_run : chkE callT ce38 = true := by kernel_rfl
theorem ce38_ok {a0 : Nat → Value} : CeOk a0 Tryz.prog ce38 := chkE_ok (ready.call S4_ok (mergeOf_ok _) 60) ce38_run
-- hostlerlaw19 said
noncomputable def ce45 : CE := ⟨17, [.ptr 28 0, .agg [.int .i64 (.ofNat 4), .str [102], .str [], .str [97], .int .i64 (.ofNat 0), .int .i64 (.ofNat 0), .int .i64 (.ofNat 1), .int .i64 (.ofNat 1), .nils], .int .i64 (.ofNat 3), .nils], ⟨hst68, 492⟩, [(.bool true, ⟨hst68, 497⟩)]⟩
theorem ce45_run : chkE callT ce45 = true := by kernel_rfl
theorem ce45_ok {a0 : Nat → Value} : CeOk a0 Tryz.prog ce45 := chkE_ok (ready.call S4_ok (mergeOf_ok _) 60) ce45_run
end Go.AX

