/- AgentRuns, calls. -/
import Derived.Test.YtfebdfceidnnmaaGreatDoorRunsTb
import Derived.Test.YtfebdfceidnnmaaGreatDoorRunsTs0
set_option autoImplicit false
set_option linter.unusedVariables false
set_option maxRecDepth 1000000
namespace Go.AX
open Go.Proofs
-- hostlerlaw19 said
noncomputable def ce89 : CE := ⟨17, [.ptr 28 0, .agg [.int .i64 (.ofNat 9), .str [102], .str [120], .str [], .int .i64 (.ofNat 1), .int .i64 (.ofNat 0), .int .i64 (.ofNat 0), .int .i64 (.ofNat 0), .nils], .int .i64 (.ofNat 0), .nils], ⟨hst136, 628⟩, [(.bool true, ⟨hst137, 682⟩)]⟩
theorem ce89_run : chkE callT ce89 = true := by kernel_rfl
theorem ce89_ok {a0 : Nat → Value} : CeOk a0 Tryz.prog ce89 := chkE_ok (ready.call S4_ok (mergeOf_ok _) 60) ce89_run
-- hostlerlaw19 said
noncomputable def ce90 : CE := ⟨17, [.ptr 28 0, .agg [.int .i64 (.ofNat 4), .str [102], .str [], .str [97], .int .i64 (.ofNat 0), .int .i64 (.ofNat 0), .int .i64 (.ofNat 2), .int .i64 (.ofNat 1), .nils], .int .i64 (.ofNat 0), .nils], ⟨hst138, 685⟩, [(.bool true, ⟨hst139, 752⟩)]⟩
theorem ce90_run : chkE callT ce90 = true := by kernel_rfl
theorem ce90_ok {a0 : Nat → Value} : CeOk a0 Tryz.prog ce90 := chkE_ok (ready.call S4_ok (mergeOf_ok _) 60) ce90_run
-- hostlerlaw19 said
noncomputable def ce91 : CE := ⟨17, [.ptr 28 0, .agg [.int .i64 (.ofNat 8), .str [102], .str [120], .str [97], .int .i64 (.ofNat 1), .int .i64 (.ofNat 4), .int .i64 (.ofNat 0), .int .i64 (.ofNat 0), .nils], .int .i64 (.ofNat 0), .slc 502 0 2 (some 2) 0], ⟨hst140, 503⟩, [(.bool true, ⟨hst141, 616⟩)]⟩
theorem ce91_run : chkE callT ce91 = true := by kernel_rfl
theorem ce91_ok {a0 : Nat → Value} : CeOk a0 Tryz.prog ce91 := chkE_ok (ready.call S4_ok (mergeOf_ok _) 60) ce91_run
-- hostlerlaw19 said
noncomputable def ce92 : CE := ⟨17, [.ptr 28 0, .agg [.int .i64 (.ofNat 9), .str [102], .str [120], .str [], .int .i64 (.ofNat 1), .int .i64 (.ofNat 0), .int .i64 (.ofNat 0), .int .i64 (.ofNat 0), .nils], .int .i64 (.ofNat 0), .nils], ⟨hst141, 628⟩, [(.bool true, ⟨hst142, 682⟩)]⟩
theorem ce92_run : chkE callT ce92 = true := by kernel_rfl
theorem ce92_ok {a0 : Nat → Value} : CeOk a0 Tryz.prog ce92 := chkE_ok (ready.call S4_ok (mergeOf_ok _) 60) ce92_run
-- hostlerlaw19 said
noncomputable def ce93 : CE := ⟨17, [.ptr 28 0, .agg [.int .i64 (.ofNat 4), .str [102], .str [], .str [97], .int .i64 (.ofNat 0), .int .i64 (.ofNat 0), .int .i64 (.ofNat 2), .int .i64 (.ofNat 1), .nils], .int .i64 (.ofNat 0), .nils], ⟨hst143, 685⟩, [(.bool true, ⟨hst144, 752⟩)]⟩
theorem ce93_run : chkE callT ce93 = true := by kernel_rfl
theorem ce93_ok {a0 : Nat → Value} : CeOk a0 Tryz.prog ce93 := chkE_ok (ready.call S4_ok (mergeOf_ok _) 60) ce93_run
-- hostlerlaw19 said
noncomputable def ce94 : CE := ⟨17, [.ptr 28 0, .agg [.int .i64 (.ofNat 8), .str [102], .str [120], .str [97], .int .i64 (.ofNat 1), .int .i64 (.ofNat 4), .int .i64 (.ofNat 0), .int .i64 (.ofNat 0), .nils], .int .i64 (.ofNat 0), .slc 502 0 2 (some 2) 0], ⟨hst145, 503⟩, [(.bool true, ⟨hst146, 616⟩)]⟩
theorem ce94_run : chkE callT ce94 = true := by kernel_rfl
theorem ce94_ok {a0 : Nat → Value} : CeOk a0 Tryz.prog ce94 := chkE_ok (ready.call S4_ok (mergeOf_ok _) 60) ce94_run
-- hostlerlaw19 said
noncomputable def ce95 : CE := ⟨17, [.ptr 28 0, .agg [.int .i64 (.ofNat 9), .str [102], .str [120], .str [], .int .i64 (.ofNat 1), .int .i64 (.ofNat 0), .int .i64 (.ofNat 0), .int .i64 (.ofNat 0), .nils], .int .i64 (.ofNat 0), .nils], ⟨hst146, 628⟩, [(.bool true, ⟨hst147, 682⟩)]⟩
theorem ce95_run : chkE callT ce95 = true := by kernel_rfl
theorem ce95_ok {a0 : Nat → Value} : CeOk a0 Tryz.prog ce95 := chkE_ok (ready.call S4_ok (mergeOf_ok _) 60) ce95_run
-- hostlerlaw19 said
noncomputable def ce96 : CE := ⟨17, [.ptr 28 0, .agg [.int .i64 (.ofNat 4), .str [102], .str [], .str [97], .int .i64 (.ofNat 0), .int .i64 (.ofNat 0), .int .i64 (.ofNat 2), .int .i64 (.ofNat 1), .nils], .int .i64 (.ofNat 0), .nils], ⟨hst148, 685⟩, [(.bool true, ⟨hst149, 752⟩)]⟩
theorem ce96_run : chkE callT ce96 = true := by kernel_rfl
theorem ce96_ok {a0 : Nat → Value} : CeOk a0 Tryz.prog ce96 := chkE_ok (ready.call S4_ok (mergeOf_ok _) 60) ce96_run
-- hostlerlaw19 said
noncomputable def ce97 : CE := ⟨17, [.ptr 28 0, .agg [.int .i64 (.ofNat 8), .str [102], .str [120], .str [97], .int .i64 (.ofNat 1), .int .i64 (.ofNat 4), .int .i64 (.ofNat 0), .int .i64 (.ofNat 0), .nils], .int .i64 (.ofNat 0), .slc 502 0 2 (some 2) 0], ⟨hst150, 503⟩, [(.bool true, ⟨hst151, 616⟩)]⟩
theorem ce97_run : chkE callT ce97 = true := by kernel_rfl
theorem ce97_ok {a0 : Nat → Value} : CeOk a0 Tryz.prog ce97 := chkE_ok (ready.call S4_ok (mergeOf_ok _) 60) ce97_run
-- hostlerlaw19 said
noncomputable def ce98 : CE := ⟨17, [.ptr 28 0, .agg [.int .i64 (.ofNat 9), .str [102], .str [120], .str [], .int .i64 (.ofNat 1), .int .i64 (.ofNat 0), .int .i64 (.ofNat 0), .int .i64 (.ofNat 0), .nils], .int .i64 (.ofNat 0), .nils], ⟨hst151, 628⟩, [(.bool true, ⟨hst152, 682⟩)]⟩
theorem ce98_run : chkE callT ce98 = true := by kernel_rfl
theorem ce98_ok {a0 : Nat → Value} : CeOk a0 Tryz.prog ce98 := chkE_ok (ready.call S4_ok (mergeOf_ok _) 60) ce98_run
end Go.AX

