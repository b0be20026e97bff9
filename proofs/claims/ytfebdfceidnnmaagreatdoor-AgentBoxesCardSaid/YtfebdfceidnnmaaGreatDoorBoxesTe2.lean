/- AgentBoxes, calls. -/
import Derived.Test.YtfebdfceidnnmaaGreatDoorBoxesTb
import Derived.Test.YtfebdfceidnnmaaGreatDoorBoxesTs1
set_option autoImplicit false
set_option linter.unusedVariables false
set_option maxRecDepth 1000000
namespace Go.AX
open Go.Proofs
-- hostlerlaw19 said
noncomputable def ce35 : CE := ⟨17, [.ptr 29 0, .agg [.int .i64 (.ofNat 9), .str [102], .str [120], .str [], .int .i64 (.ofNat 1), .int .i64 (.ofNat 0), .int .i64 (.ofNat 0), .int .i64 (.ofNat 0), .nils], .int .i64 (.ofNat 0), .slc 343 0 1 (some 1) 0], ⟨hst53, 344⟩, [(.bool true, ⟨hst54, 441⟩)]⟩
theorem ce35_run : chkE callT ce35 = true := by kernel_rfl
theorem ce35_ok {a0 : Nat → Value} : CeOk a0 Tryz.prog ce35 := chkE_ok (ready.call S4_ok (mergeOf_ok _) 60) ce35_run
-- agent Agent) Tick
noncomputable def ce37 : CE := ⟨42, [.ptr 29 0, .int .i64 (.ofNat 0)], ⟨hst56, 567⟩, [(.tup [.nils, .int .i64 (.ofNat 0)], ⟨hst57, 623⟩)]⟩
theorem ce37_run : chkE callT ce37 = true := by kernel_rfl
theorem ce37_ok {a0 : Nat → Value} : CeOk a0 Tryz.prog ce37 := chkE_ok (ready.call S4_ok (mergeOf_ok _) 60) ce37_run
-- hostlerlaw19 said
noncomputable def ce38 : CE := ⟨17, [.ptr 29 0, .agg [.int .i64 (.ofNat 1), .str [102], .str [120], .str [], .int .i64 (.ofNat 0), .int .i64 (.ofNat 0), .int .i64 (.ofNat 0), .int .i64 (.ofNat 0), .slc 639 0 1 none 2], .int .i64 (.ofNat 4), .nils], ⟨hst58, 640⟩, [(.bool true, ⟨hst58, 666⟩)]⟩
theorem ce38_run : chkE callT ce38 = true := by kernel_rfl
theorem ce38_ok {a0 : Nat → Value} : CeOk a0 Tryz.prog ce38 := chkE_ok (ready.call S4_ok (mergeOf_ok _) 60) ce38_run
-- agent Agent) Tick
noncomputable def ce39 : CE := ⟨42, [.ptr 29 0, .int .i64 (.ofNat 0)], ⟨hst52, 338⟩, [(.tup [.nils, .int .i64 (.ofNat 0)], ⟨hst59, 383⟩)]⟩
theorem ce39_run : chkE callT ce39 = true := by kernel_rfl
theorem ce39_ok {a0 : Nat → Value} : CeOk a0 Tryz.prog ce39 := chkE_ok (ready.call S4_ok (mergeOf_ok _) 60) ce39_run
-- hostlerlaw19 said
noncomputable def ce40 : CE := ⟨17, [.ptr 29 0, .agg [.int .i64 (.ofNat 9), .str [102], .str [120], .str [], .int .i64 (.ofNat 1), .int .i64 (.ofNat 0), .int .i64 (.ofNat 0), .int .i64 (.ofNat 0), .nils], .int .i64 (.ofNat 0), .slc 388 0 1 (some 1) 0], ⟨hst60, 389⟩, [(.bool true, ⟨hst61, 486⟩)]⟩
theorem ce40_run : chkE callT ce40 = true := by kernel_rfl
theorem ce40_ok {a0 : Nat → Value} : CeOk a0 Tryz.prog ce40 := chkE_ok (ready.call S4_ok (mergeOf_ok _) 60) ce40_run
-- hostlerlaw19 said
noncomputable def ce41 : CE := ⟨17, [.ptr 29 0, .agg [.int .i64 (.ofNat 4), .str [102], .str [], .str [97], .int .i64 (.ofNat 0), .int .i64 (.ofNat 0), .int .i64 (.ofNat 1), .int .i64 (.ofNat 1), .nils], .int .i64 (.ofNat 0), .nils], ⟨hst61, 487⟩, [(.bool true, ⟨hst62, 554⟩)]⟩
theorem ce41_run : chkE callT ce41 = true := by kernel_rfl
theorem ce41_ok {a0 : Nat → Value} : CeOk a0 Tryz.prog ce41 := chkE_ok (ready.call S4_ok (mergeOf_ok _) 60) ce41_run
-- agent Agent) Tick
noncomputable def ce42 : CE := ⟨42, [.ptr 29 0, .int .i64 (.ofNat 0)], ⟨hst63, 612⟩, [(.tup [.nils, .int .i64 (.ofNat 0)], ⟨hst64, 668⟩)]⟩
theorem ce42_run : chkE callT ce42 = true := by kernel_rfl
theorem ce42_ok {a0 : Nat → Value} : CeOk a0 Tryz.prog ce42 := chkE_ok (ready.call S4_ok (mergeOf_ok _) 60) ce42_run
-- hostlerlaw19 said
noncomputable def ce43 : CE := ⟨17, [.ptr 29 0, .agg [.int .i64 (.ofNat 1), .str [102], .str [120], .str [], .int .i64 (.ofNat 0), .int .i64 (.ofNat 0), .int .i64 (.ofNat 0), .int .i64 (.ofNat 0), .slc 684 0 1 none 2], .int .i64 (.ofNat 4), .nils], ⟨hst65, 685⟩, [(.bool true, ⟨hst65, 711⟩)]⟩
theorem ce43_run : chkE callT ce43 = true := by kernel_rfl
theorem ce43_ok {a0 : Nat → Value} : CeOk a0 Tryz.prog ce43 := chkE_ok (ready.call S4_ok (mergeOf_ok _) 60) ce43_run
-- agent Agent) Tick
noncomputable def ce44 : CE := ⟨42, [.ptr 29 0, .int .i64 (.ofNat 0)], ⟨hst59, 383⟩, [(.tup [.nils, .int .i64 (.ofNat 0)], ⟨hst66, 428⟩)]⟩
theorem ce44_run : chkE callT ce44 = true := by kernel_rfl
theorem ce44_ok {a0 : Nat → Value} : CeOk a0 Tryz.prog ce44 := chkE_ok (ready.call S4_ok (mergeOf_ok _) 60) ce44_run
-- hostlerlaw19 said
noncomputable def ce45 : CE := ⟨17, [.ptr 29 0, .agg [.int .i64 (.ofNat 9), .str [102], .str [120], .str [], .int .i64 (.ofNat 1), .int .i64 (.ofNat 0), .int .i64 (.ofNat 0), .int .i64 (.ofNat 0), .nils], .int .i64 (.ofNat 0), .slc 433 0 1 (some 1) 0], ⟨hst67, 434⟩, [(.bool true, ⟨hst68, 531⟩)]⟩
theorem ce45_run : chkE callT ce45 = true := by kernel_rfl
theorem ce45_ok {a0 : Nat → Value} : CeOk a0 Tryz.prog ce45 := chkE_ok (ready.call S4_ok (mergeOf_ok _) 60) ce45_run
-- hostlerlaw19 said
noncomputable def ce46 : CE := ⟨17, [.ptr 29 0, .agg [.int .i64 (.ofNat 4), .str [102], .str [], .str [97], .int .i64 (.ofNat 0), .int .i64 (.ofNat 0), .int .i64 (.ofNat 1), .int .i64 (.ofNat 1), .nils], .int .i64 (.ofNat 0), .nils], ⟨hst68, 532⟩, [(.bool true, ⟨hst69, 599⟩)]⟩
theorem ce46_run : chkE callT ce46 = true := by kernel_rfl
theorem ce46_ok {a0 : Nat → Value} : CeOk a0 Tryz.prog ce46 := chkE_ok (ready.call S4_ok (mergeOf_ok _) 60) ce46_run
-- agent Agent) Tick
noncomputable def ce47 : CE := ⟨42, [.ptr 29 0, .int .i64 (.ofNat 0)], ⟨hst70, 657⟩, [(.tup [.nils, .int .i64 (.ofNat 0)], ⟨hst71, 713⟩)]⟩
theorem ce47_run : chkE callT ce47 = true := by kernel_rfl
theorem ce47_ok {a0 : Nat → Value} : CeOk a0 Tryz.prog ce47 := chkE_ok (ready.call S4_ok (mergeOf_ok _) 60) ce47_run
-- hostlerlaw19 said
noncomputable def ce48 : CE := ⟨17, [.ptr 29 0, .agg [.int .i64 (.ofNat 1), .str [102], .str [120], .str [], .int .i64 (.ofNat 0), .int .i64 (.ofNat 0), .int .i64 (.ofNat 0), .int .i64 (.ofNat 0), .slc 729 0 1 none 2], .int .i64 (.ofNat 4), .nils], ⟨hst72, 730⟩, [(.bool true, ⟨hst72, 756⟩)]⟩
theorem ce48_run : chkE callT ce48 = true := by kernel_rfl
theorem ce48_ok {a0 : Nat → Value} : CeOk a0 Tryz.prog ce48 := chkE_ok (ready.call S4_ok (mergeOf_ok _) 60) ce48_run
-- agent Agent) Tick
noncomputable def ce49 : CE := ⟨42, [.ptr 29 0, .int .i64 (.ofNat 0)], ⟨hst66, 428⟩, [(.tup [.nils, .int .i64 (.ofNat 0)], ⟨hst73, 473⟩)]⟩
theorem ce49_run : chkE callT ce49 = true := by kernel_rfl
theorem ce49_ok {a0 : Nat → Value} : CeOk a0 Tryz.prog ce49 := chkE_ok (ready.call S4_ok (mergeOf_ok _) 60) ce49_run
-- hostlerlaw19 said
noncomputable def ce50 : CE := ⟨17, [.ptr 29 0, .agg [.int .i64 (.ofNat 9), .str [102], .str [120], .str [], .int .i64 (.ofNat 1), .int .i64 (.ofNat 0), .int .i64 (.ofNat 0), .int .i64 (.ofNat 0), .nils], .int .i64 (.ofNat 0), .slc 478 0 1 (some 1) 0], ⟨hst74, 479⟩, [(.bool true, ⟨hst75, 576⟩)]⟩
theorem ce50_run : chkE callT ce50 = true := by kernel_rfl
theorem ce50_ok {a0 : Nat → Value} : CeOk a0 Tryz.prog ce50 := chkE_ok (ready.call S4_ok (mergeOf_ok _) 60) ce50_run
-- hostlerlaw19 said
noncomputable def ce51 : CE := ⟨17, [.ptr 29 0, .agg [.int .i64 (.ofNat 4), .str [102], .str [], .str [97], .int .i64 (.ofNat 0), .int .i64 (.ofNat 0), .int .i64 (.ofNat 1), .int .i64 (.ofNat 1), .nils], .int .i64 (.ofNat 0), .nils], ⟨hst75, 577⟩, [(.bool true, ⟨hst76, 644⟩)]⟩
theorem ce51_run : chkE callT ce51 = true := by kernel_rfl
theorem ce51_ok {a0 : Nat → Value} : CeOk a0 Tryz.prog ce51 := chkE_ok (ready.call S4_ok (mergeOf_ok _) 60) ce51_run
-- agent Agent) Tick
noncomputable def ce52 : CE := ⟨42, [.ptr 29 0, .int .i64 (.ofNat 0)], ⟨hst77, 702⟩, [(.tup [.nils, .int .i64 (.ofNat 0)], ⟨hst78, 758⟩)]⟩
theorem ce52_run : chkE callT ce52 = true := by kernel_rfl
theorem ce52_ok {a0 : Nat → Value} : CeOk a0 Tryz.prog ce52 := chkE_ok (ready.call S4_ok (mergeOf_ok _) 60) ce52_run
-- hostlerlaw19 said
noncomputable def ce53 : CE := ⟨17, [.ptr 29 0, .agg [.int .i64 (.ofNat 1), .str [102], .str [120], .str [], .int .i64 (.ofNat 0), .int .i64 (.ofNat 0), .int .i64 (.ofNat 0), .int .i64 (.ofNat 0), .slc 774 0 1 none 2], .int .i64 (.ofNat 4), .nils], ⟨hst79, 775⟩, [(.bool true, ⟨hst79, 801⟩)]⟩
theorem ce53_run : chkE callT ce53 = true := by kernel_rfl
theorem ce53_ok {a0 : Nat → Value} : CeOk a0 Tryz.prog ce53 := chkE_ok (ready.call S4_ok (mergeOf_ok _) 60) ce53_run
-- hostlerlaw19 up
noncomputable def ce54 : CE := ⟨15, [.agg [.cplx 4621819117588971520 4621819117588971520, .int .i64 (.ofNat 4), .int .i64 (.ofNat 3), .int .i64 (.ofNat 3), .int .i64 (.ofNat 2), .int .i64 (.ofNat 8), .int .i64 (.ofNat 4000)]], ⟨hst80, 2⟩, [(.tup [.ptr 29 0, .ptr 4 0, .bool true], ⟨hst81, 35⟩)]⟩
theorem ce54_run : chkE callT ce54 = true := by kernel_rfl
theorem ce54_ok {a0 : Nat → Value} : CeOk a0 Tryz.prog ce54 := chkE_ok (ready.call S4_ok (mergeOf_ok _) 60) ce54_run
end Go.AX

