/- AgentRuns, calls. -/
import Derived.Test.YtfebdfceidnnmaaGreatDoorRunsTb
import Derived.Test.YtfebdfceidnnmaaGreatDoorRunsTs0
set_option autoImplicit false
set_option linter.unusedVariables false
set_option maxRecDepth 1000000
namespace Go.AX
open Go.Proofs
-- hostlerlaw19 said
noncomputable def ce39 : CE := ⟨17, [.ptr 28 0, .agg [.int .i64 (.ofNat 9), .str [102], .str [120], .str [], .int .i64 (.ofNat 1), .int .i64 (.ofNat 0), .int .i64 (.ofNat 0), .int .i64 (.ofNat 0), .nils], .int .i64 (.ofNat 0), .nils], ⟨hst58, 628⟩, [(.bool true, ⟨hst59, 682⟩)]⟩
theorem ce39_run : chkE callT ce39 = true := by kernel_rfl
theorem ce39_ok {a0 : Nat → Value} : CeOk a0 Tryz.prog ce39 := chkE_ok (ready.call S4_ok (mergeOf_ok _) 60) ce39_run
-- hostlerlaw19 said
noncomputable def ce40 : CE := ⟨17, [.ptr 28 0, .agg [.int .i64 (.ofNat 4), .str [102], .str [], .str [97], .int .i64 (.ofNat 0), .int .i64 (.ofNat 0), .int .i64 (.ofNat 2), .int .i64 (.ofNat 1), .nils], .int .i64 (.ofNat 0), .nils], ⟨hst60, 685⟩, [(.bool true, ⟨hst61, 752⟩)]⟩
theorem ce40_run : chkE callT ce40 = true := by kernel_rfl
theorem ce40_ok {a0 : Nat → Value} : CeOk a0 Tryz.prog ce40 := chkE_ok (ready.call S4_ok (mergeOf_ok _) 60) ce40_run
-- hostlerlaw19 said
noncomputable def ce41 : CE := ⟨17, [.ptr 28 0, .agg [.int .i64 (.ofNat 1), .str [102], .str [120], .str [], .int .i64 (.ofNat 0), .int .i64 (.ofNat 0), .int .i64 (.ofNat 0), .int .i64 (.ofNat 0), .slc 39 0 1 none 2], .int .i64 (.ofNat 0), .slc 41 0 1 (some 1) 0], ⟨hst62, 42⟩, [(.bool true, ⟨hst63, 214⟩)]⟩
theorem ce41_run : chkE callT ce41 = true := by kernel_rfl
theorem ce41_ok {a0 : Nat → Value} : CeOk a0 Tryz.prog ce41 := chkE_ok (ready.call S4_ok (mergeOf_ok _) 60) ce41_run
-- hostlerlaw19 said
noncomputable def ce42 : CE := ⟨17, [.ptr 28 0, .agg [.int .i64 (.ofNat 7), .str [102], .str [120], .str [], .int .i64 (.ofNat 1), .int .i64 (.ofNat 0), .int .i64 (.ofNat 0), .int .i64 (.ofNat 0), .nils], .int .i64 (.ofNat 0), .slc 235 0 1 (some 1) 0], ⟨hst64, 236⟩, [(.bool true, ⟨hst65, 309⟩)]⟩
theorem ce42_run : chkE callT ce42 = true := by kernel_rfl
theorem ce42_ok {a0 : Nat → Value} : CeOk a0 Tryz.prog ce42 := chkE_ok (ready.call S4_ok (mergeOf_ok _) 60) ce42_run
-- hostlerlaw19 said
noncomputable def ce43 : CE := ⟨17, [.ptr 28 0, .agg [.int .i64 (.ofNat 8), .str [102], .str [120], .str [97], .int .i64 (.ofNat 1), .int .i64 (.ofNat 2), .int .i64 (.ofNat 0), .int .i64 (.ofNat 0), .nils], .int .i64 (.ofNat 0), .slc 313 0 1 (some 1) 0], ⟨hst66, 314⟩, [(.bool true, ⟨hst67, 422⟩)]⟩
theorem ce43_run : chkE callT ce43 = true := by kernel_rfl
theorem ce43_ok {a0 : Nat → Value} : CeOk a0 Tryz.prog ce43 := chkE_ok (ready.call S4_ok (mergeOf_ok _) 60) ce43_run
-- hostlerlaw19 said
noncomputable def ce44 : CE := ⟨17, [.ptr 28 0, .agg [.int .i64 (.ofNat 4), .str [102], .str [], .str [97], .int .i64 (.ofNat 0), .int .i64 (.ofNat 0), .int .i64 (.ofNat 1), .int .i64 (.ofNat 1), .nils], .int .i64 (.ofNat 0), .nils], ⟨hst67, 423⟩, [(.bool true, ⟨hst68, 491⟩)]⟩
theorem ce44_run : chkE callT ce44 = true := by kernel_rfl
theorem ce44_ok {a0 : Nat → Value} : CeOk a0 Tryz.prog ce44 := chkE_ok (ready.call S4_ok (mergeOf_ok _) 60) ce44_run
-- hostlerlaw19 said
noncomputable def ce46 : CE := ⟨17, [.ptr 28 0, .agg [.int .i64 (.ofNat 8), .str [102], .str [120], .str [97], .int .i64 (.ofNat 1), .int .i64 (.ofNat 3), .int .i64 (.ofNat 0), .int .i64 (.ofNat 0), .nils], .int .i64 (.ofNat 0), .slc 502 0 2 (some 2) 0], ⟨hst69, 503⟩, [(.bool true, ⟨hst70, 616⟩)]⟩
theorem ce46_run : chkE callT ce46 = true := by kernel_rfl
theorem ce46_ok {a0 : Nat → Value} : CeOk a0 Tryz.prog ce46 := chkE_ok (ready.call S4_ok (mergeOf_ok _) 60) ce46_run
-- hostlerlaw19 said
noncomputable def ce47 : CE := ⟨17, [.ptr 28 0, .agg [.int .i64 (.ofNat 9), .str [102], .str [120], .str [], .int .i64 (.ofNat 1), .int .i64 (.ofNat 0), .int .i64 (.ofNat 0), .int .i64 (.ofNat 0), .nils], .int .i64 (.ofNat 0), .nils], ⟨hst70, 628⟩, [(.bool true, ⟨hst71, 682⟩)]⟩
theorem ce47_run : chkE callT ce47 = true := by kernel_rfl
theorem ce47_ok {a0 : Nat → Value} : CeOk a0 Tryz.prog ce47 := chkE_ok (ready.call S4_ok (mergeOf_ok _) 60) ce47_run
-- hostlerlaw19 said
noncomputable def ce48 : CE := ⟨17, [.ptr 28 0, .agg [.int .i64 (.ofNat 4), .str [102], .str [], .str [97], .int .i64 (.ofNat 0), .int .i64 (.ofNat 0), .int .i64 (.ofNat 2), .int .i64 (.ofNat 1), .nils], .int .i64 (.ofNat 0), .nils], ⟨hst72, 685⟩, [(.bool true, ⟨hst73, 752⟩)]⟩
theorem ce48_run : chkE callT ce48 = true := by kernel_rfl
theorem ce48_ok {a0 : Nat → Value} : CeOk a0 Tryz.prog ce48 := chkE_ok (ready.call S4_ok (mergeOf_ok _) 60) ce48_run
-- hostlerlaw19 said
noncomputable def ce53 : CE := ⟨17, [.ptr 28 0, .agg [.int .i64 (.ofNat 4), .str [102], .str [], .str [97], .int .i64 (.ofNat 0), .int .i64 (.ofNat 0), .int .i64 (.ofNat 1), .int .i64 (.ofNat 1), .nils], .int .i64 (.ofNat 3), .nils], ⟨hst80, 492⟩, [(.bool true, ⟨hst80, 497⟩)]⟩
theorem ce53_run : chkE callT ce53 = true := by kernel_rfl
theorem ce53_ok {a0 : Nat → Value} : CeOk a0 Tryz.prog ce53 := chkE_ok (ready.call S4_ok (mergeOf_ok _) 60) ce53_run
end Go.AX

