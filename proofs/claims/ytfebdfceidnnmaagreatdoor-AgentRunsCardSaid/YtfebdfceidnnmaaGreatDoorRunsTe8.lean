/- AgentRuns, calls. -/
import Derived.Test.YtfebdfceidnnmaaGreatDoorRunsTb
import Derived.Test.YtfebdfceidnnmaaGreatDoorRunsTs0
set_option autoImplicit false
set_option linter.unusedVariables false
set_option maxRecDepth 1000000
namespace Go.AX
open Go.Proofs
-- hostlerlaw19 said
noncomputable def ce79 : CE := ⟨17, [.ptr 28 0, .agg [.int .i64 (.ofNat 8), .str [102], .str [120], .str [97], .int .i64 (.ofNat 1), .int .i64 (.ofNat 4), .int .i64 (.ofNat 0), .int .i64 (.ofNat 0), .nils], .int .i64 (.ofNat 0), .slc 502 0 2 (some 2) 0], ⟨hst120, 503⟩, [(.bool true, ⟨hst121, 616⟩)]⟩
theorem ce79_run : chkE callT ce79 = true := by kernel_rfl
theorem ce79_ok {a0 : Nat → Value} : CeOk a0 Tryz.prog ce79 := chkE_ok (ready.call S4_ok (mergeOf_ok _) 60) ce79_run
-- hostlerlaw19 said
noncomputable def ce80 : CE := ⟨17, [.ptr 28 0, .agg [.int .i64 (.ofNat 9), .str [102], .str [120], .str [], .int .i64 (.ofNat 1), .int .i64 (.ofNat 0), .int .i64 (.ofNat 0), .int .i64 (.ofNat 0), .nils], .int .i64 (.ofNat 0), .nils], ⟨hst121, 628⟩, [(.bool true, ⟨hst122, 682⟩)]⟩
theorem ce80_run : chkE callT ce80 = true := by kernel_rfl
theorem ce80_ok {a0 : Nat → Value} : CeOk a0 Tryz.prog ce80 := chkE_ok (ready.call S4_ok (mergeOf_ok _) 60) ce80_run
-- hostlerlaw19 said
noncomputable def ce81 : CE := ⟨17, [.ptr 28 0, .agg [.int .i64 (.ofNat 4), .str [102], .str [], .str [97], .int .i64 (.ofNat 0), .int .i64 (.ofNat 0), .int .i64 (.ofNat 2), .int .i64 (.ofNat 1), .nils], .int .i64 (.ofNat 0), .nils], ⟨hst123, 685⟩, [(.bool true, ⟨hst124, 752⟩)]⟩
theorem ce81_run : chkE callT ce81 = true := by kernel_rfl
theorem ce81_ok {a0 : Nat → Value} : CeOk a0 Tryz.prog ce81 := chkE_ok (ready.call S4_ok (mergeOf_ok _) 60) ce81_run
-- hostlerlaw19 said
noncomputable def ce82 : CE := ⟨17, [.ptr 28 0, .agg [.int .i64 (.ofNat 8), .str [102], .str [120], .str [97], .int .i64 (.ofNat 1), .int .i64 (.ofNat 4), .int .i64 (.ofNat 0), .int .i64 (.ofNat 0), .nils], .int .i64 (.ofNat 0), .slc 502 0 2 (some 2) 0], ⟨hst125, 503⟩, [(.bool true, ⟨hst126, 616⟩)]⟩
theorem ce82_run : chkE callT ce82 = true := by kernel_rfl
theorem ce82_ok {a0 : Nat → Value} : CeOk a0 Tryz.prog ce82 := chkE_ok (ready.call S4_ok (mergeOf_ok _) 60) ce82_run
-- hostlerlaw19 said
noncomputable def ce83 : CE := ⟨17, [.ptr 28 0, .agg [.int .i64 (.ofNat 9), .str [102], .str [120], .str [], .int .i64 (.ofNat 1), .int .i64 (.ofNat 0), .int .i64 (.ofNat 0), .int .i64 (.ofNat 0), .nils], .int .i64 (.ofNat 0), .nils], ⟨hst126, 628⟩, [(.bool true, ⟨hst127, 682⟩)]⟩
theorem ce83_run : chkE callT ce83 = true := by kernel_rfl
theorem ce83_ok {a0 : Nat → Value} : CeOk a0 Tryz.prog ce83 := chkE_ok (ready.call S4_ok (mergeOf_ok _) 60) ce83_run
-- hostlerlaw19 said
noncomputable def ce84 : CE := ⟨17, [.ptr 28 0, .agg [.int .i64 (.ofNat 4), .str [102], .str [], .str [97], .int .i64 (.ofNat 0), .int .i64 (.ofNat 0), .int .i64 (.ofNat 2), .int .i64 (.ofNat 1), .nils], .int .i64 (.ofNat 0), .nils], ⟨hst128, 685⟩, [(.bool true, ⟨hst129, 752⟩)]⟩
theorem ce84_run : chkE callT ce84 = true := by kernel_rfl
theorem ce84_ok {a0 : Nat → Value} : CeOk a0 Tryz.prog ce84 := chkE_ok (ready.call S4_ok (mergeOf_ok _) 60) ce84_run
-- hostlerlaw19 said
noncomputable def ce85 : CE := ⟨17, [.ptr 28 0, .agg [.int .i64 (.ofNat 8), .str [102], .str [120], .str [97], .int .i64 (.ofNat 1), .int .i64 (.ofNat 4), .int .i64 (.ofNat 0), .int .i64 (.ofNat 0), .nils], .int .i64 (.ofNat 0), .slc 502 0 2 (some 2) 0], ⟨hst130, 503⟩, [(.bool true, ⟨hst131, 616⟩)]⟩
theorem ce85_run : chkE callT ce85 = true := by kernel_rfl
theorem ce85_ok {a0 : Nat → Value} : CeOk a0 Tryz.prog ce85 := chkE_ok (ready.call S4_ok (mergeOf_ok _) 60) ce85_run
-- hostlerlaw19 said
noncomputable def ce86 : CE := ⟨17, [.ptr 28 0, .agg [.int .i64 (.ofNat 9), .str [102], .str [120], .str [], .int .i64 (.ofNat 1), .int .i64 (.ofNat 0), .int .i64 (.ofNat 0), .int .i64 (.ofNat 0), .nils], .int .i64 (.ofNat 0), .nils], ⟨hst131, 628⟩, [(.bool true, ⟨hst132, 682⟩)]⟩
theorem ce86_run : chkE callT ce86 = true := by kernel_rfl
theorem ce86_ok {a0 : Nat → Value} : CeOk a0 Tryz.prog ce86 := chkE_ok (ready.call S4_ok (mergeOf_ok _) 60) ce86_run
-- hostlerlaw19 said
noncomputable def ce87 : CE := ⟨17, [.ptr 28 0, .agg [.int .i64 (.ofNat 4), .str [102], .str [], .str [97], .int .i64 (.ofNat 0), .int .i64 (.ofNat 0), .int .i64 (.ofNat 2), .int .i64 (.ofNat 1), .nils], .int .i64 (.ofNat 0), .nils], ⟨hst133, 685⟩, [(.bool true, ⟨hst134, 752⟩)]⟩
theorem ce87_run : chkE callT ce87 = true := by kernel_rfl
theorem ce87_ok {a0 : Nat → Value} : CeOk a0 Tryz.prog ce87 := chkE_ok (ready.call S4_ok (mergeOf_ok _) 60) ce87_run
-- hostlerlaw19 said
noncomputable def ce88 : CE := ⟨17, [.ptr 28 0, .agg [.int .i64 (.ofNat 8), .str [102], .str [120], .str [97], .int .i64 (.ofNat 1), .int .i64 (.ofNat 4), .int .i64 (.ofNat 0), .int .i64 (.ofNat 0), .nils], .int .i64 (.ofNat 0), .slc 502 0 2 (some 2) 0], ⟨hst135, 503⟩, [(.bool true, ⟨hst136, 616⟩)]⟩
theorem ce88_run : chkE callT ce88 = true := by kernel_rfl
theorem ce88_ok {a0 : Nat → Value} : CeOk a0 Tryz.prog ce88 := chkE_ok (ready.call S4_ok (mergeOf_ok _) 60) ce88_run
end Go.AX

