/- AgentRuns, calls. -/
import Derived.Test.YtfebdfceidnnmaaGreatDoorRunsTb
import Derived.Test.YtfebdfceidnnmaaGreatDoorRunsTs0
set_option autoImplicit false
set_option linter.unusedVariables false
set_option maxRecDepth 1000000
namespace Go.AX
open Go.Proofs
-- hostlerlaw19 said
noncomputable def ce99 : CE := ⟨17, [.ptr 28 0, .agg [.int .i64 (.ofNat 4), .str [102], .str [], .str [97], .int .i64 (.ofNat 0), .int .i64 (.ofNat 0), .int .i64 (.ofNat 2), .int .i64 (.ofNat 1), .nils], .int .i64 (.ofNat 0), .nils], ⟨hst153, 685⟩, [(.bool true, ⟨hst154, 752⟩)]⟩
theorem ce99_run : chkE callT ce99 = true := by kernel_rfl
theorem ce99_ok {a0 : Nat → Value} : CeOk a0 Tryz.prog ce99 := chkE_ok (ready.call S4_ok (mergeOf_ok _) 60) ce99_run
-- hostlerlaw19 said
noncomputable def ce100 : CE := ⟨17, [.ptr 28 0, .agg [.int .i64 (.ofNat 8), .str [102], .str [120], .str [97], .int .i64 (.ofNat 1), .int .i64 (.ofNat 5), .int .i64 (.ofNat 0), .int .i64 (.ofNat 0), .nils], .int .i64 (.ofNat 0), .slc 502 0 2 (some 2) 0], ⟨hst155, 503⟩, [(.bool true, ⟨hst156, 616⟩)]⟩
theorem ce100_run : chkE callT ce100 = true := by kernel_rfl
theorem ce100_ok {a0 : Nat → Value} : CeOk a0 Tryz.prog ce100 := chkE_ok (ready.call S4_ok (mergeOf_ok _) 60) ce100_run
-- hostlerlaw19 said
noncomputable def ce101 : CE := ⟨17, [.ptr 28 0, .agg [.int .i64 (.ofNat 9), .str [102], .str [120], .str [], .int .i64 (.ofNat 1), .int .i64 (.ofNat 0), .int .i64 (.ofNat 0), .int .i64 (.ofNat 0), .nils], .int .i64 (.ofNat 0), .nils], ⟨hst156, 628⟩, [(.bool true, ⟨hst157, 682⟩)]⟩
theorem ce101_run : chkE callT ce101 = true := by kernel_rfl
theorem ce101_ok {a0 : Nat → Value} : CeOk a0 Tryz.prog ce101 := chkE_ok (ready.call S4_ok (mergeOf_ok _) 60) ce101_run
-- hostlerlaw19 said
noncomputable def ce102 : CE := ⟨17, [.ptr 28 0, .agg [.int .i64 (.ofNat 4), .str [102], .str [], .str [97], .int .i64 (.ofNat 0), .int .i64 (.ofNat 0), .int .i64 (.ofNat 2), .int .i64 (.ofNat 1), .nils], .int .i64 (.ofNat 0), .nils], ⟨hst158, 685⟩, [(.bool true, ⟨hst159, 752⟩)]⟩
theorem ce102_run : chkE callT ce102 = true := by kernel_rfl
theorem ce102_ok {a0 : Nat → Value} : CeOk a0 Tryz.prog ce102 := chkE_ok (ready.call S4_ok (mergeOf_ok _) 60) ce102_run
-- hostlerlaw19 said
noncomputable def ce103 : CE := ⟨17, [.ptr 28 0, .agg [.int .i64 (.ofNat 8), .str [102], .str [120], .str [97], .int .i64 (.ofNat 1), .int .i64 (.ofNat 5), .int .i64 (.ofNat 0), .int .i64 (.ofNat 0), .nils], .int .i64 (.ofNat 0), .slc 502 0 2 (some 2) 0], ⟨hst160, 503⟩, [(.bool true, ⟨hst161, 616⟩)]⟩
theorem ce103_run : chkE callT ce103 = true := by kernel_rfl
theorem ce103_ok {a0 : Nat → Value} : CeOk a0 Tryz.prog ce103 := chkE_ok (ready.call S4_ok (mergeOf_ok _) 60) ce103_run
-- hostlerlaw19 said
noncomputable def ce104 : CE := ⟨17, [.ptr 28 0, .agg [.int .i64 (.ofNat 9), .str [102], .str [120], .str [], .int .i64 (.ofNat 1), .int .i64 (.ofNat 0), .int .i64 (.ofNat 0), .int .i64 (.ofNat 0), .nils], .int .i64 (.ofNat 0), .nils], ⟨hst161, 628⟩, [(.bool true, ⟨hst162, 682⟩)]⟩
theorem ce104_run : chkE callT ce104 = true := by kernel_rfl
theorem ce104_ok {a0 : Nat → Value} : CeOk a0 Tryz.prog ce104 := chkE_ok (ready.call S4_ok (mergeOf_ok _) 60) ce104_run
-- hostlerlaw19 said
noncomputable def ce105 : CE := ⟨17, [.ptr 28 0, .agg [.int .i64 (.ofNat 4), .str [102], .str [], .str [97], .int .i64 (.ofNat 0), .int .i64 (.ofNat 0), .int .i64 (.ofNat 2), .int .i64 (.ofNat 1), .nils], .int .i64 (.ofNat 0), .nils], ⟨hst163, 685⟩, [(.bool true, ⟨hst164, 752⟩)]⟩
theorem ce105_run : chkE callT ce105 = true := by kernel_rfl
theorem ce105_ok {a0 : Nat → Value} : CeOk a0 Tryz.prog ce105 := chkE_ok (ready.call S4_ok (mergeOf_ok _) 60) ce105_run
-- hostlerlaw19 said
noncomputable def ce106 : CE := ⟨17, [.ptr 28 0, .agg [.int .i64 (.ofNat 8), .str [102], .str [120], .str [97], .int .i64 (.ofNat 1), .int .i64 (.ofNat 5), .int .i64 (.ofNat 0), .int .i64 (.ofNat 0), .nils], .int .i64 (.ofNat 0), .slc 502 0 2 (some 2) 0], ⟨hst165, 503⟩, [(.bool true, ⟨hst166, 616⟩)]⟩
theorem ce106_run : chkE callT ce106 = true := by kernel_rfl
theorem ce106_ok {a0 : Nat → Value} : CeOk a0 Tryz.prog ce106 := chkE_ok (ready.call S4_ok (mergeOf_ok _) 60) ce106_run
-- hostlerlaw19 said
noncomputable def ce107 : CE := ⟨17, [.ptr 28 0, .agg [.int .i64 (.ofNat 9), .str [102], .str [120], .str [], .int .i64 (.ofNat 1), .int .i64 (.ofNat 0), .int .i64 (.ofNat 0), .int .i64 (.ofNat 0), .nils], .int .i64 (.ofNat 0), .nils], ⟨hst166, 628⟩, [(.bool true, ⟨hst167, 682⟩)]⟩
theorem ce107_run : chkE callT ce107 = true := by kernel_rfl
theorem ce107_ok {a0 : Nat → Value} : CeOk a0 Tryz.prog ce107 := chkE_ok (ready.call S4_ok (mergeOf_ok _) 60) ce107_run
-- hostlerlaw19 said
noncomputable def ce108 : CE := ⟨17, [.ptr 28 0, .agg [.int .i64 (.ofNat 4), .str [102], .str [], .str [97], .int .i64 (.ofNat 0), .int .i64 (.ofNat 0), .int .i64 (.ofNat 2), .int .i64 (.ofNat 1), .nils], .int .i64 (.ofNat 0), .nils], ⟨hst168, 685⟩, [(.bool true, ⟨hst169, 752⟩)]⟩
theorem ce108_run : chkE callT ce108 = true := by kernel_rfl
theorem ce108_ok {a0 : Nat → Value} : CeOk a0 Tryz.prog ce108 := chkE_ok (ready.call S4_ok (mergeOf_ok _) 60) ce108_run
-- hostlerlaw19 said
noncomputable def ce111 : CE := ⟨17, [.ptr 28 0, .agg [.int .i64 (.ofNat 4), .str [102], .str [], .str [97], .int .i64 (.ofNat 0), .int .i64 (.ofNat 0), .int .i64 (.ofNat 2), .int .i64 (.ofNat 1), .nils], .int .i64 (.ofNat 0), .nils], ⟨hst173, 685⟩, [(.bool true, ⟨hst174, 752⟩)]⟩
theorem ce111_run : chkE callT ce111 = true := by kernel_rfl
theorem ce111_ok {a0 : Nat → Value} : CeOk a0 Tryz.prog ce111 := chkE_ok (ready.call S4_ok (mergeOf_ok _) 60) ce111_run
end Go.AX

