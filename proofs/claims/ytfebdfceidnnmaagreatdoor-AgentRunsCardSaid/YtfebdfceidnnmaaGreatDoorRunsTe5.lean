/- AgentRuns, calls. -/
import Derived.Test.YtfebdfceidnnmaaGreatDoorRunsTb
import Derived.Test.YtfebdfceidnnmaaGreatDoorRunsTs0
set_option autoImplicit false
set_option linter.unusedVariables false
set_option maxRecDepth 1000000
namespace Go.AX
open Go.Proofs
-- hostlerlaw19 said
noncomputable def ce49 : CE := ⟨17, [.ptr 28 0, .agg [.int .i64 (.ofNat 1), .str [102], .str [120], .str [], .int .i64 (.ofNat 0), .int .i64 (.ofNat 0), .int .i64 (.ofNat 0), .int .i64 (.ofNat 0), .slc 39 0 1 none 2], .int .i64 (.ofNat 0), .slc 41 0 1 (some 1) 0], ⟨hst74, 42⟩, [(.bool true, ⟨hst75, 214⟩)]⟩
theorem ce49_run : chkE callT ce49 = true := by kernel_rfl
theorem ce49_ok {a0 : Nat → Value} : CeOk a0 Tryz.prog ce49 := chkE_ok (ready.call S4_ok (mergeOf_ok _) 60) ce49_run
-- hostlerlaw19 said
noncomputable def ce50 : CE := ⟨17, [.ptr 28 0, .agg [.int .i64 (.ofNat 7), .str [102], .str [120], .str [], .int .i64 (.ofNat 1), .int .i64 (.ofNat 0), .int .i64 (.ofNat 0), .int .i64 (.ofNat 0), .nils], .int .i64 (.ofNat 0), .slc 235 0 1 (some 1) 0], ⟨hst76, 236⟩, [(.bool true, ⟨hst77, 309⟩)]⟩
theorem ce50_run : chkE callT ce50 = true := by kernel_rfl
theorem ce50_ok {a0 : Nat → Value} : CeOk a0 Tryz.prog ce50 := chkE_ok (ready.call S4_ok (mergeOf_ok _) 60) ce50_run
-- hostlerlaw19 said
noncomputable def ce51 : CE := ⟨17, [.ptr 28 0, .agg [.int .i64 (.ofNat 8), .str [102], .str [120], .str [97], .int .i64 (.ofNat 1), .int .i64 (.ofNat 2), .int .i64 (.ofNat 0), .int .i64 (.ofNat 0), .nils], .int .i64 (.ofNat 0), .slc 313 0 1 (some 1) 0], ⟨hst78, 314⟩, [(.bool true, ⟨hst79, 422⟩)]⟩
theorem ce51_run : chkE callT ce51 = true := by kernel_rfl
theorem ce51_ok {a0 : Nat → Value} : CeOk a0 Tryz.prog ce51 := chkE_ok (ready.call S4_ok (mergeOf_ok _) 60) ce51_run
-- hostlerlaw19 said
noncomputable def ce52 : CE := ⟨17, [.ptr 28 0, .agg [.int .i64 (.ofNat 4), .str [102], .str [], .str [97], .int .i64 (.ofNat 0), .int .i64 (.ofNat 0), .int .i64 (.ofNat 1), .int .i64 (.ofNat 1), .nils], .int .i64 (.ofNat 0), .nils], ⟨hst79, 423⟩, [(.bool true, ⟨hst80, 491⟩)]⟩
theorem ce52_run : chkE callT ce52 = true := by kernel_rfl
theorem ce52_ok {a0 : Nat → Value} : CeOk a0 Tryz.prog ce52 := chkE_ok (ready.call S4_ok (mergeOf_ok _) 60) ce52_run
-- hostlerlaw19 said
noncomputable def ce54 : CE := ⟨17, [.ptr 28 0, .agg [.int .i64 (.ofNat 8), .str [102], .str [120], .str [97], .int .i64 (.ofNat 1), .int .i64 (.ofNat 3), .int .i64 (.ofNat 0), .int .i64 (.ofNat 0), .nils], .int .i64 (.ofNat 0), .slc 502 0 2 (some 2) 0], ⟨hst81, 503⟩, [(.bool true, ⟨hst82, 616⟩)]⟩
theorem ce54_run : chkE callT ce54 = true := by kernel_rfl
theorem ce54_ok {a0 : Nat → Value} : CeOk a0 Tryz.prog ce54 := chkE_ok (ready.call S4_ok (mergeOf_ok _) 60) ce54_run
-- hostlerlaw19 said
noncomputable def ce55 : CE := ⟨17, [.ptr 28 0, .agg [.int .i64 (.ofNat 9), .str [102], .str [120], .str [], .int .i64 (.ofNat 1), .int .i64 (.ofNat 0), .int .i64 (.ofNat 0), .int .i64 (.ofNat 0), .nils], .int .i64 (.ofNat 0), .nils], ⟨hst82, 628⟩, [(.bool true, ⟨hst83, 682⟩)]⟩
theorem ce55_run : chkE callT ce55 = true := by kernel_rfl
theorem ce55_ok {a0 : Nat → Value} : CeOk a0 Tryz.prog ce55 := chkE_ok (ready.call S4_ok (mergeOf_ok _) 60) ce55_run
-- hostlerlaw19 said
noncomputable def ce56 : CE := ⟨17, [.ptr 28 0, .agg [.int .i64 (.ofNat 4), .str [102], .str [], .str [97], .int .i64 (.ofNat 0), .int .i64 (.ofNat 0), .int .i64 (.ofNat 2), .int .i64 (.ofNat 1), .nils], .int .i64 (.ofNat 0), .nils], ⟨hst84, 685⟩, [(.bool true, ⟨hst85, 752⟩)]⟩
theorem ce56_run : chkE callT ce56 = true := by kernel_rfl
theorem ce56_ok {a0 : Nat → Value} : CeOk a0 Tryz.prog ce56 := chkE_ok (ready.call S4_ok (mergeOf_ok _) 60) ce56_run
-- hostlerlaw19 said
noncomputable def ce57 : CE := ⟨17, [.ptr 28 0, .agg [.int .i64 (.ofNat 1), .str [102], .str [120], .str [], .int .i64 (.ofNat 0), .int .i64 (.ofNat 0), .int .i64 (.ofNat 0), .int .i64 (.ofNat 0), .slc 39 0 1 none 2], .int .i64 (.ofNat 0), .slc 41 0 1 (some 1) 0], ⟨hst86, 42⟩, [(.bool true, ⟨hst87, 214⟩)]⟩
theorem ce57_run : chkE callT ce57 = true := by kernel_rfl
theorem ce57_ok {a0 : Nat → Value} : CeOk a0 Tryz.prog ce57 := chkE_ok (ready.call S4_ok (mergeOf_ok _) 60) ce57_run
-- hostlerlaw19 said
noncomputable def ce61 : CE := ⟨17, [.ptr 28 0, .agg [.int .i64 (.ofNat 4), .str [102], .str [], .str [97], .int .i64 (.ofNat 0), .int .i64 (.ofNat 0), .int .i64 (.ofNat 1), .int .i64 (.ofNat 1), .nils], .int .i64 (.ofNat 3), .nils], ⟨hst92, 492⟩, [(.bool true, ⟨hst92, 497⟩)]⟩
theorem ce61_run : chkE callT ce61 = true := by kernel_rfl
theorem ce61_ok {a0 : Nat → Value} : CeOk a0 Tryz.prog ce61 := chkE_ok (ready.call S4_ok (mergeOf_ok _) 60) ce61_run
end Go.AX

