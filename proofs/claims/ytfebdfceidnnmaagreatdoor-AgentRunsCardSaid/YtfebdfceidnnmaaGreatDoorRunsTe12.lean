/- AgentRuns, calls. -/
import Derived.Test.YtfebdfceidnnmaaGreatDoorRunsTb
import Derived.Test.YtfebdfceidnnmaaGreatDoorRunsTs0
set_option autoImplicit false
set_option linter.unusedVariables false
set_option maxRecDepth 1000000
namespace Go.AX
open Go.Proofs
-- hostlerlaw19 said
noncomputable def ce120 : CE := ⟨17, [.ptr 28 0, .agg [.int .i64 (.ofNat 4), .str [102], .str [], .str [97], .int .i64 (.ofNat 0), .int .i64 (.ofNat 0), .int .i64 (.ofNat 2), .int .i64 (.ofNat 1), .nils], .int .i64 (.ofNat 0), .nils], ⟨hst188, 685⟩, [(.bool true, ⟨hst189, 752⟩)]⟩
theorem ce120_run : chkE callT ce120 = true := by kernel_rfl
theorem ce120_ok {a0 : Nat → Value} : CeOk a0 Tryz.prog ce120 := chkE_ok (ready.call S4_ok (mergeOf_ok _) 60) ce120_run
-- hostlerlaw19 said
noncomputable def ce121 : CE := ⟨17, [.ptr 28 0, .agg [.int .i64 (.ofNat 8), .str [102], .str [120], .str [97], .int .i64 (.ofNat 1), .int .i64 (.ofNat 5), .int .i64 (.ofNat 0), .int .i64 (.ofNat 0), .nils], .int .i64 (.ofNat 0), .slc 502 0 2 (some 2) 0], ⟨hst190, 503⟩, [(.bool true, ⟨hst191, 616⟩)]⟩
theorem ce121_run : chkE callT ce121 = true := by kernel_rfl
theorem ce121_ok {a0 : Nat → Value} : CeOk a0 Tryz.prog ce121 := chkE_ok (ready.call S4_ok (mergeOf_ok _) 60) ce121_run
-- hostlerlaw19 said
noncomputable def ce122 : CE := ⟨17, [.ptr 28 0, .agg [.int .i64 (.ofNat 9), .str [102], .str [120], .str [], .int .i64 (.ofNat 1), .int .i64 (.ofNat 0), .int .i64 (.ofNat 0), .int .i64 (.ofNat 0), .nils], .int .i64 (.ofNat 0), .nils], ⟨hst191, 628⟩, [(.bool true, ⟨hst192, 682⟩)]⟩
theorem ce122_run : chkE callT ce122 = true := by kernel_rfl
theorem ce122_ok {a0 : Nat → Value} : CeOk a0 Tryz.prog ce122 := chkE_ok (ready.call S4_ok (mergeOf_ok _) 60) ce122_run
-- hostlerlaw19 said
noncomputable def ce123 : CE := ⟨17, [.ptr 28 0, .agg [.int .i64 (.ofNat 4), .str [102], .str [], .str [97], .int .i64 (.ofNat 0), .int .i64 (.ofNat 0), .int .i64 (.ofNat 2), .int .i64 (.ofNat 1), .nils], .int .i64 (.ofNat 0), .nils], ⟨hst193, 685⟩, [(.bool true, ⟨hst194, 752⟩)]⟩
theorem ce123_run : chkE callT ce123 = true := by kernel_rfl
theorem ce123_ok {a0 : Nat → Value} : CeOk a0 Tryz.prog ce123 := chkE_ok (ready.call S4_ok (mergeOf_ok _) 60) ce123_run
-- hostlerlaw19 said
noncomputable def ce124 : CE := ⟨17, [.ptr 28 0, .agg [.int .i64 (.ofNat 8), .str [102], .str [120], .str [97], .int .i64 (.ofNat 1), .int .i64 (.ofNat 5), .int .i64 (.ofNat 0), .int .i64 (.ofNat 0), .nils], .int .i64 (.ofNat 0), .slc 502 0 2 (some 2) 0], ⟨hst195, 503⟩, [(.bool true, ⟨hst196, 616⟩)]⟩
theorem ce124_run : chkE callT ce124 = true := by kernel_rfl
theorem ce124_ok {a0 : Nat → Value} : CeOk a0 Tryz.prog ce124 := chkE_ok (ready.call S4_ok (mergeOf_ok _) 60) ce124_run
-- hostlerlaw19 said
noncomputable def ce125 : CE := ⟨17, [.ptr 28 0, .agg [.int .i64 (.ofNat 9), .str [102], .str [120], .str [], .int .i64 (.ofNat 1), .int .i64 (.ofNat 0), .int .i64 (.ofNat 0), .int .i64 (.ofNat 0), .nils], .int .i64 (.ofNat 0), .nils], ⟨hst196, 628⟩, [(.bool true, ⟨hst197, 682⟩)]⟩
theorem ce125_run : chkE callT ce125 = true := by kernel_rfl
theorem ce125_ok {a0 : Nat → Value} : CeOk a0 Tryz.prog ce125 := chkE_ok (ready.call S4_ok (mergeOf_ok _) 60) ce125_run
-- hostlerlaw19 said
noncomputable def ce126 : CE := ⟨17, [.ptr 28 0, .agg [.int .i64 (.ofNat 4), .str [102], .str [], .str [97], .int .i64 (.ofNat 0), .int .i64 (.ofNat 0), .int .i64 (.ofNat 2), .int .i64 (.ofNat 1), .nils], .int .i64 (.ofNat 0), .nils], ⟨hst198, 685⟩, [(.bool true, ⟨hst199, 752⟩)]⟩
theorem ce126_run : chkE callT ce126 = true := by kernel_rfl
theorem ce126_ok {a0 : Nat → Value} : CeOk a0 Tryz.prog ce126 := chkE_ok (ready.call S4_ok (mergeOf_ok _) 60) ce126_run
end Go.AX

