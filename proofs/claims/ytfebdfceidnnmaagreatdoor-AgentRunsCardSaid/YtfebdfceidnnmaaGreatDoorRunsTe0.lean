/- AgentRuns, calls. -/
import Derived.Test.YtfebdfceidnnmaaGreatDoorRunsTb
import Derived.Test.YtfebdfceidnnmaaGreatDoorRunsTs0
set_option autoImplicit false
set_option linter.unusedVariables false
set_option maxRecDepth 1000000
namespace Go.AX
open Go.Proofs
-- hostlerlaw19 up
noncomputable def ce0 : CE := ⟨15, [.agg [.cplx 4621819117588971520 4621819117588971520, .int .i64 (.ofNat 4), .int .i64 (.ofNat 3), .int .i64 (.ofNat 5), .int .i64 (.ofNat 2), .int .i64 (.ofNat 8), .int .i64 (.ofNat 4000)]], ⟨hst0, 1⟩, [(.tup [.ptr 28 0, .ptr 3 0, .bool true], ⟨hst1, 34⟩)]⟩
theorem ce0_run : chkE callT ce0 = true := by kernel_rfl
theorem ce0_ok {a0 : Nat → Value} : CeOk a0 Tryz.prog ce0 := chkE_ok (ready.call S4_ok (mergeOf_ok _) 60) ce0_run
-- hostlerlaw19 said
noncomputable def ce1 : CE := ⟨17, [.ptr 28 0, .agg [.int .i64 (.ofNat 1), .str [102], .str [120], .str [], .int .i64 (.ofNat 0), .int .i64 (.ofNat 0), .int .i64 (.ofNat 0), .int .i64 (.ofNat 0), .slc 39 0 1 none 2], .int .i64 (.ofNat 0), .slc 41 0 1 (some 1) 0], ⟨hst2, 42⟩, [(.bool true, ⟨hst3, 214⟩)]⟩
theorem ce1_run : chkE callT ce1 = true := by kernel_rfl
theorem ce1_ok {a0 : Nat → Value} : CeOk a0 Tryz.prog ce1 := chkE_ok (ready.call S4_ok (mergeOf_ok _) 60) ce1_run
-- hostlerlaw19 said
noncomputable def ce2 : CE := ⟨17, [.ptr 28 0, .agg [.int .i64 (.ofNat 7), .str [102], .str [120], .str [], .int .i64 (.ofNat 1), .int .i64 (.ofNat 0), .int .i64 (.ofNat 0), .int .i64 (.ofNat 0), .nils], .int .i64 (.ofNat 0), .slc 235 0 1 (some 1) 0], ⟨hst4, 236⟩, [(.bool true, ⟨hst5, 309⟩)]⟩
theorem ce2_run : chkE callT ce2 = true := by kernel_rfl
theorem ce2_ok {a0 : Nat → Value} : CeOk a0 Tryz.prog ce2 := chkE_ok (ready.call S4_ok (mergeOf_ok _) 60) ce2_run
-- hostlerlaw19 said
noncomputable def ce3 : CE := ⟨17, [.ptr 28 0, .agg [.int .i64 (.ofNat 8), .str [102], .str [120], .str [97], .int .i64 (.ofNat 1), .int .i64 (.ofNat 2), .int .i64 (.ofNat 0), .int .i64 (.ofNat 0), .nils], .int .i64 (.ofNat 0), .slc 313 0 1 (some 1) 0], ⟨hst6, 314⟩, [(.bool true, ⟨hst7, 422⟩)]⟩
theorem ce3_run : chkE callT ce3 = true := by kernel_rfl
theorem ce3_ok {a0 : Nat → Value} : CeOk a0 Tryz.prog ce3 := chkE_ok (ready.call S4_ok (mergeOf_ok _) 60) ce3_run
-- hostlerlaw19 said
noncomputable def ce4 : CE := ⟨17, [.ptr 28 0, .agg [.int .i64 (.ofNat 4), .str [102], .str [], .str [97], .int .i64 (.ofNat 0), .int .i64 (.ofNat 0), .int .i64 (.ofNat 1), .int .i64 (.ofNat 1), .nils], .int .i64 (.ofNat 0), .nils], ⟨hst7, 423⟩, [(.bool true, ⟨hst8, 491⟩)]⟩
theorem ce4_run : chkE callT ce4 = true := by kernel_rfl
theorem ce4_ok {a0 : Nat → Value} : CeOk a0 Tryz.prog ce4 := chkE_ok (ready.call S4_ok (mergeOf_ok _) 60) ce4_run
-- hostlerlaw19 said
noncomputable def ce5 : CE := ⟨17, [.ptr 28 0, .agg [.int .i64 (.ofNat 4), .str [102], .str [], .str [97], .int .i64 (.ofNat 0), .int .i64 (.ofNat 0), .int .i64 (.ofNat 1), .int .i64 (.ofNat 1), .nils], .int .i64 (.ofNat 3), .nils], ⟨hst8, 492⟩, [(.bool true, ⟨hst8, 497⟩)]⟩
theorem ce5_run : chkE callT ce5 = true := by kernel_rfl
theorem ce5_ok {a0 : Nat → Value} : CeOk a0 Tryz.prog ce5 := chkE_ok (ready.call S4_ok (mergeOf_ok _) 60) ce5_run
-- hostlerlaw19 said
noncomputable def ce6 : CE := ⟨17, [.ptr 28 0, .agg [.int .i64 (.ofNat 8), .str [102], .str [120], .str [97], .int .i64 (.ofNat 1), .int .i64 (.ofNat 3), .int .i64 (.ofNat 0), .int .i64 (.ofNat 0), .nils], .int .i64 (.ofNat 0), .slc 502 0 2 (some 2) 0], ⟨hst9, 503⟩, [(.bool true, ⟨hst10, 616⟩)]⟩
theorem ce6_run : chkE callT ce6 = true := by kernel_rfl
theorem ce6_ok {a0 : Nat → Value} : CeOk a0 Tryz.prog ce6 := chkE_ok (ready.call S4_ok (mergeOf_ok _) 60) ce6_run
-- hostlerlaw19 said
noncomputable def ce7 : CE := ⟨17, [.ptr 28 0, .agg [.int .i64 (.ofNat 9), .str [102], .str [120], .str [], .int .i64 (.ofNat 1), .int .i64 (.ofNat 0), .int .i64 (.ofNat 0), .int .i64 (.ofNat 0), .nils], .int .i64 (.ofNat 0), .nils], ⟨hst10, 628⟩, [(.bool true, ⟨hst11, 682⟩)]⟩
theorem ce7_run : chkE callT ce7 = true := by kernel_rfl
theorem ce7_ok {a0 : Nat → Value} : CeOk a0 Tryz.prog ce7 := chkE_ok (ready.call S4_ok (mergeOf_ok _) 60) ce7_run
-- hostlerlaw19 said
noncomputable def ce8 : CE := ⟨17, [.ptr 28 0, .agg [.int .i64 (.ofNat 4), .str [102], .str [], .str [97], .int .i64 (.ofNat 0), .int .i64 (.ofNat 0), .int .i64 (.ofNat 2), .int .i64 (.ofNat 1), .nils], .int .i64 (.ofNat 0), .nils], ⟨hst12, 685⟩, [(.bool true, ⟨hst13, 752⟩)]⟩
theorem ce8_run : chkE callT ce8 = true := by kernel_rfl
theorem ce8_ok {a0 : Nat → Value} : CeOk a0 Tryz.prog ce8 := chkE_ok (ready.call S4_ok (mergeOf_ok _) 60) ce8_run
-- hostlerlaw19 said
noncomputable def ce10 : CE := ⟨17, [.ptr 28 0, .agg [.int .i64 (.ofNat 7), .str [102], .str [120], .str [], .int .i64 (.ofNat 1), .int .i64 (.ofNat 0), .int .i64 (.ofNat 0), .int .i64 (.ofNat 0), .nils], .int .i64 (.ofNat 0), .slc 235 0 1 (some 1) 0], ⟨hst16, 236⟩, [(.bool true, ⟨hst17, 309⟩)]⟩
theorem ce10_run : chkE callT ce10 = true := by kernel_rfl
theorem ce10_ok {a0 : Nat → Value} : CeOk a0 Tryz.prog ce10 := chkE_ok (ready.call S4_ok (mergeOf_ok _) 60) ce10_run
-- hostlerlaw19 said
noncomputable def ce13 : CE := ⟨17, [.ptr 28 0, .agg [.int .i64 (.ofNat 4), .str [102], .str [], .str [97], .int .i64 (.ofNat 0), .int .i64 (.ofNat 0), .int .i64 (.ofNat 1), .int .i64 (.ofNat 1), .nils], .int .i64 (.ofNat 3), .nils], ⟨hst20, 492⟩, [(.bool true, ⟨hst20, 497⟩)]⟩
theorem ce13_run : chkE callT ce13 = true := by kernel_rfl
theorem ce13_ok {a0 : Nat → Value} : CeOk a0 Tryz.prog ce13 := chkE_ok (ready.call S4_ok (mergeOf_ok _) 60) ce13_run
end Go.AX

