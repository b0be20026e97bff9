/- AgentRuns, calls. -/
import Derived.Test.YtfebdfceidnnmaaGreatDoorRunsTb
import Derived.Test.YtfebdfceidnnmaaGreatDoorRunsTs0
set_option autoImplicit false
set_option linter.unusedVariables false
set_option maxRecDepth 1000000
namespace Go.AX
open Go.Proofs
-- hostlerlaw19 said
noncomputable def ce68 : CE := ⟨17, [.ptr 28 0, .agg [.int .i64 (.ofNat 4), .str [102], .str [], .str [97], .int .i64 (.ofNat 0), .int .i64 (.ofNat 0), .int .i64 (.ofNat 1), .int .i64 (.ofNat 1), .nils], .int .i64 (.ofNat 0), .nils], ⟨hst103, 423⟩, [(.bool true, ⟨hst104, 491⟩)]⟩
theorem ce68_run : chkE callT ce68 = true := by kernel_rfl
theorem ce68_ok {a0 : Nat → Value} : CeOk a0 Tryz.prog ce68 := chkE_ok (ready.call S4_ok (mergeOf_ok _) 60) ce68_run
-- hostlerlaw19 said
noncomputable def ce70 : CE := ⟨17, [.ptr 28 0, .agg [.int .i64 (.ofNat 8), .str [102], .str [120], .str [97], .int .i64 (.ofNat 1), .int .i64 (.ofNat 3), .int .i64 (.ofNat 0), .int .i64 (.ofNat 0), .nils], .int .i64 (.ofNat 0), .slc 502 0 2 (some 2) 0], ⟨hst105, 503⟩, [(.bool true, ⟨hst106, 616⟩)]⟩
theorem ce70_run : chkE callT ce70 = true := by kernel_rfl
theorem ce70_ok {a0 : Nat → Value} : CeOk a0 Tryz.prog ce70 := chkE_ok (ready.call S4_ok (mergeOf_ok _) 60) ce70_run
-- hostlerlaw19 said
noncomputable def ce71 : CE := ⟨17, [.ptr 28 0, .agg [.int .i64 (.ofNat 9), .str [102], .str [120], .str [], .int .i64 (.ofNat 1), .int .i64 (.ofNat 0), .int .i64 (.ofNat 0), .int .i64 (.ofNat 0), .nils], .int .i64 (.ofNat 0), .nils], ⟨hst106, 628⟩, [(.bool true, ⟨hst107, 682⟩)]⟩
theorem ce71_run : chkE callT ce71 = true := by kernel_rfl
theorem ce71_ok {a0 : Nat → Value} : CeOk a0 Tryz.prog ce71 := chkE_ok (ready.call S4_ok (mergeOf_ok _) 60) ce71_run
-- hostlerlaw19 said
noncomputable def ce72 : CE := ⟨17, [.ptr 28 0, .agg [.int .i64 (.ofNat 4), .str [102], .str [], .str [97], .int .i64 (.ofNat 0), .int .i64 (.ofNat 0), .int .i64 (.ofNat 2), .int .i64 (.ofNat 1), .nils], .int .i64 (.ofNat 0), .nils], ⟨hst108, 685⟩, [(.bool true, ⟨hst109, 752⟩)]⟩
theorem ce72_run : chkE callT ce72 = true := by kernel_rfl
theorem ce72_ok {a0 : Nat → Value} : CeOk a0 Tryz.prog ce72 := chkE_ok (ready.call S4_ok (mergeOf_ok _) 60) ce72_run
-- hostlerlaw19 said
noncomputable def ce73 : CE := ⟨17, [.ptr 28 0, .agg [.int .i64 (.ofNat 8), .str [102], .str [120], .str [97], .int .i64 (.ofNat 1), .int .i64 (.ofNat 4), .int .i64 (.ofNat 0), .int .i64 (.ofNat 0), .nils], .int .i64 (.ofNat 0), .slc 502 0 2 (some 2) 0], ⟨hst110, 503⟩, [(.bool true, ⟨hst111, 616⟩)]⟩
theorem ce73_run : chkE callT ce73 = true := by kernel_rfl
theorem ce73_ok {a0 : Nat → Value} : CeOk a0 Tryz.prog ce73 := chkE_ok (ready.call S4_ok (mergeOf_ok _) 60) ce73_run
-- hostlerlaw19 said
noncomputable def ce74 : CE := ⟨17, [.ptr 28 0, .agg [.int .i64 (.ofNat 9), .str [102], .str [120], .str [], .int .i64 (.ofNat 1), .int .i64 (.ofNat 0), .int .i64 (.ofNat 0), .int .i64 (.ofNat 0), .nils], .int .i64 (.ofNat 0), .nils], ⟨hst111, 628⟩, [(.bool true, ⟨hst112, 682⟩)]⟩
theorem ce74_run : chkE callT ce74 = true := by kernel_rfl
theorem ce74_ok {a0 : Nat → Value} : CeOk a0 Tryz.prog ce74 := chkE_ok (ready.call S4_ok (mergeOf_ok _) 60) ce74_run
-- hostlerlaw19 said
noncomputable def ce75 : CE := ⟨17, [.ptr 28 0, .agg [.int .i64 (.ofNat 4), .str [102], .str [], .str [97], .int .i64 (.ofNat 0), .int .i64 (.ofNat 0), .int .i64 (.ofNat 2), .int .i64 (.ofNat 1), .nils], .int .i64 (.ofNat 0), .nils], ⟨hst113, 685⟩, [(.bool true, ⟨hst114, 752⟩)]⟩
theorem ce75_run : chkE callT ce75 = true := by kernel_rfl
theorem ce75_ok {a0 : Nat → Value} : CeOk a0 Tryz.prog ce75 := chkE_ok (ready.call S4_ok (mergeOf_ok _) 60) ce75_run
-- hostlerlaw19 said
noncomputable def ce76 : CE := ⟨17, [.ptr 28 0, .agg [.int .i64 (.ofNat 8), .str [102], .str [120], .str [97], .int .i64 (.ofNat 1), .int .i64 (.ofNat 4), .int .i64 (.ofNat 0), .int .i64 (.ofNat 0), .nils], .int .i64 (.ofNat 0), .slc 502 0 2 (some 2) 0], ⟨hst115, 503⟩, [(.bool true, ⟨hst116, 616⟩)]⟩
theorem ce76_run : chkE callT ce76 = true := by kernel_rfl
theorem ce76_ok {a0 : Nat → Value} : CeOk a0 Tryz.prog ce76 := chkE_ok (ready.call S4_ok (mergeOf_ok _) 60) ce76_run
-- hostlerlaw19 said
noncomputable def ce77 : CE := ⟨17, [.ptr 28 0, .agg [.int .i64 (.ofNat 9), .str [102], .str [120], .str [], .int .i64 (.ofNat 1), .int .i64 (.ofNat 0), .int .i64 (.ofNat 0), .int .i64 (.ofNat 0), .nils], .int .i64 (.ofNat 0), .nils], ⟨hst116, 628⟩, [(.bool true, ⟨hst117, 682⟩)]⟩
theorem ce77_run : chkE callT ce77 = true := by kernel_rfl
theorem ce77_ok {a0 : Nat → Value} : CeOk a0 Tryz.prog ce77 := chkE_ok (ready.call S4_ok (mergeOf_ok _) 60) ce77_run
-- hostlerlaw19 said
noncomputable def ce78 : CE := ⟨17, [.ptr 28 0, .agg [.int .i64 (.ofNat 4), .str [102], .str [], .str [97], .int .i64 (.ofNat 0), .int .i64 (.ofNat 0), .int .i64 (.ofNat 2), .int .i64 (.ofNat 1), .nils], .int .i64 (.ofNat 0), .nils], ⟨hst118, 685⟩, [(.bool true, ⟨hst119, 752⟩)]⟩
theorem ce78_run : chkE callT ce78 = true := by kernel_rfl
theorem ce78_ok {a0 : Nat → Value} : CeOk a0 Tryz.prog ce78 := chkE_ok (ready.call S4_ok (mergeOf_ok _) 60) ce78_run
end Go.AX

