/- AgentRuns, calls. -/
import Derived.Test.YtfebdfceidnnmaaGreatDoorRunsTb
import Derived.Test.YtfebdfceidnnmaaGreatDoorRunsTs0
set_option autoImplicit false
set_option linter.unusedVariables false
set_option maxRecDepth 1000000
namespace Go.AX
open Go.Proofs
-- hostlerlaw19 said
noncomputable def ce109 : CE := ⟨17, [.ptr 28 0, .agg [.int .i64 (.ofNat 8), .str [102], .str [120], .str [97], .int .i64 (.ofNat 1), .int .i64 (.ofNat 5), .int .i64 (.ofNat 0), .int .i64 (.ofNat 0), .nils], .int .i64 (.ofNat 0), .slc 502 0 2 (some 2) 0], ⟨hst170, 503⟩, [(.bool true, ⟨hst171, 616⟩)]⟩
theorem ce109_run : chkE callT ce109 = true := by kernel_rfl
theorem ce109_ok {a0 : Nat → Value} : CeOk a0 Tryz.prog ce109 := chkE_ok (ready.call S4_ok (mergeOf_ok _) 60) ce109_run
-- hostlerlaw19 said
noncomputable def ce110 : CE := ⟨17, [.ptr 28 0, .agg [.int .i64 (.ofNat 9), .str [102], .str [120], .str [], .int .i64 (.ofNat 1), .int .i64 (.ofNat 0), .int .i64 (.ofNat 0), .int .i64 (.ofNat 0), .nils], .int .i64 (.ofNat 0), .nils], ⟨hst171, 628⟩, [(.bool true, ⟨hst172, 682⟩)]⟩
theorem ce110_run : chkE callT ce110 = true := by kernel_rfl
theorem ce110_ok {a0 : Nat → Value} : CeOk a0 Tryz.prog ce110 := chkE_ok (ready.call S4_ok (mergeOf_ok _) 60) ce110_run
-- hostlerlaw19 said
noncomputable def ce112 : CE := ⟨17, [.ptr 28 0, .agg [.int .i64 (.ofNat 8), .str [102], .str [120], .str [97], .int .i64 (.ofNat 1), .int .i64 (.ofNat 5), .int .i64 (.ofNat 0), .int .i64 (.ofNat 0), .nils], .int .i64 (.ofNat 0), .slc 502 0 2 (some 2) 0], ⟨hst175, 503⟩, [(.bool true, ⟨hst176, 616⟩)]⟩
theorem ce112_run : chkE callT ce112 = true := by kernel_rfl
theorem ce112_ok {a0 : Nat → Value} : CeOk a0 Tryz.prog ce112 := chkE_ok (ready.call S4_ok (mergeOf_ok _) 60) ce112_run
-- hostlerlaw19 said
noncomputable def ce113 : CE := ⟨17, [.ptr 28 0, .agg [.int .i64 (.ofNat 9), .str [102], .str [120], .str [], .int .i64 (.ofNat 1), .int .i64 (.ofNat 0), .int .i64 (.ofNat 0), .int .i64 (.ofNat 0), .nils], .int .i64 (.ofNat 0), .nils], ⟨hst176, 628⟩, [(.bool true, ⟨hst177, 682⟩)]⟩
theorem ce113_run : chkE callT ce113 = true := by kernel_rfl
theorem ce113_ok {a0 : Nat → Value} : CeOk a0 Tryz.prog ce113 := chkE_ok (ready.call S4_ok (mergeOf_ok _) 60) ce113_run
-- hostlerlaw19 said
noncomputable def ce114 : CE := ⟨17, [.ptr 28 0, .agg [.int .i64 (.ofNat 4), .str [102], .str [], .str [97], .int .i64 (.ofNat 0), .int .i64 (.ofNat 0), .int .i64 (.ofNat 2), .int .i64 (.ofNat 1), .nils], .int .i64 (.ofNat 0), .nils], ⟨hst178, 685⟩, [(.bool true, ⟨hst179, 752⟩)]⟩
theorem ce114_run : chkE callT ce114 = true := by kernel_rfl
theorem ce114_ok {a0 : Nat → Value} : CeOk a0 Tryz.prog ce114 := chkE_ok (ready.call S4_ok (mergeOf_ok _) 60) ce114_run
-- hostlerlaw19 said
noncomputable def ce115 : CE := ⟨17, [.ptr 28 0, .agg [.int .i64 (.ofNat 8), .str [102], .str [120], .str [97], .int .i64 (.ofNat 1), .int .i64 (.ofNat 5), .int .i64 (.ofNat 0), .int .i64 (.ofNat 0), .nils], .int .i64 (.ofNat 0), .slc 502 0 2 (some 2) 0], ⟨hst180, 503⟩, [(.bool true, ⟨hst181, 616⟩)]⟩
theorem ce115_run : chkE callT ce115 = true := by kernel_rfl
theorem ce115_ok {a0 : Nat → Value} : CeOk a0 Tryz.prog ce115 := chkE_ok (ready.call S4_ok (mergeOf_ok _) 60) ce115_run
-- hostlerlaw19 said
noncomputable def ce116 : CE := ⟨17, [.ptr 28 0, .agg [.int .i64 (.ofNat 9), .str [102], .str [120], .str [], .int .i64 (.ofNat 1), .int .i64 (.ofNat 0), .int .i64 (.ofNat 0), .int .i64 (.ofNat 0), .nils], .int .i64 (.ofNat 0), .nils], ⟨hst181, 628⟩, [(.bool true, ⟨hst182, 682⟩)]⟩
theorem ce116_run : chkE callT ce116 = true := by kernel_rfl
theorem ce116_ok {a0 : Nat → Value} : CeOk a0 Tryz.prog ce116 := chkE_ok (ready.call S4_ok (mergeOf_ok _) 60) ce116_run
-- hostlerlaw19 said
noncomputable def ce117 : CE := ⟨17, [.ptr 28 0, .agg [.int .i64 (.ofNat 4), .str [102], .str [], .str [97], .int .i64 (.ofNat 0), .int .i64 (.ofNat 0), .int .i64 (.ofNat 2), .int .i64 (.ofNat 1), .nils], .int .i64 (.ofNat 0), .nils], ⟨hst183, 685⟩, [(.bool true, ⟨hst184, 752⟩)]⟩
theorem ce117_run : chkE callT ce117 = true := by kernel_rfl
theorem ce117_ok {a0 : Nat → Value} : CeOk a0 Tryz.prog ce117 := chkE_ok (ready.call S4_ok (mergeOf_ok _) 60) ce117_run
-- hostlerlaw19 said
noncomputable def ce118 : CE := ⟨17, [.ptr 28 0, .agg [.int .i64 (.ofNat 8), .str [102], .str [120], .str [97], .int .i64 (.ofNat 1), .int .i64 (.ofNat 5), .int .i64 (.ofNat 0), .int .i64 (.ofNat 0), .nils], .int .i64 (.ofNat 0), .slc 502 0 2 (some 2) 0], ⟨hst185, 503⟩, [(.bool true, ⟨hst186, 616⟩)]⟩
theorem ce118_run : chkE callT ce118 = true := by kernel_rfl
theorem ce118_ok {a0 : Nat → Value} : CeOk a0 Tryz.prog ce118 := chkE_ok (ready.call S4_ok (mergeOf_ok _) 60) ce118_run
-- hostlerlaw19 said
noncomputable def ce119 : CE := ⟨17, [.ptr 28 0, .agg [.int .i64 (.ofNat 9), .str [102], .str [120], .str [], .int .i64 (.ofNat 1), .int .i64 (.ofNat 0), .int .i64 (.ofNat 0), .int .i64 (.ofNat 0), .nils], .int .i64 (.ofNat 0), .nils], ⟨hst186, 628⟩, [(.bool true, ⟨hst187, 682⟩)]⟩
theorem ce119_run : chkE callT ce119 = true := by kernel_rfl
theorem ce119_ok {a0 : Nat → Value} : CeOk a0 Tryz.prog ce119 := chkE_ok (ready.call S4_ok (mergeOf_ok _) 60) ce119_run
end Go.AX

