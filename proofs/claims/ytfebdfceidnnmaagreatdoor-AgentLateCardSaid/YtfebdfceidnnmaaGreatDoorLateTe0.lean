/- AgentLate, calls. -/
import Derived.Test.YtfebdfceidnnmaaGreatDoorLateTb
import Derived.Test.YtfebdfceidnnmaaGreatDoorLateTs0
set_option autoImplicit false
set_option linter.unusedVariables false
set_option maxRecDepth 1000000
namespace Go.AX
open Go.Proofs
-- hostlerlaw19 up
noncomputable def ce0 : CE := ⟨15, [.agg [.cplx 4621819117588971520 4621819117588971520, .int .i64 (.ofNat 1), .int .i64 (.ofNat 3), .int .i64 (.ofNat 5), .int .i64 (.ofNat 1000), .int .i64 (.ofNat 1000), .int .i64 (.ofNat 4000)]], ⟨hst0, 2⟩, [(.tup [.ptr 29 0, .ptr 4 0, .bool true], ⟨hst1, 35⟩)]⟩
theorem ce0_run : chkE callT ce0 = true := by kernel_rfl
theorem ce0_ok {a0 : Nat → Value} : CeOk a0 Tryz.prog ce0 := chkE_ok (ready.call S4_ok (mergeOf_ok _) 60) ce0_run
-- hostlerlaw19 said
noncomputable def ce1 : CE := ⟨17, [.ptr 29 0, .agg [.int .i64 (.ofNat 1), .str [102], .str [120], .str [], .int .i64 (.ofNat 0), .int .i64 (.ofNat 0), .int .i64 (.ofNat 0), .int .i64 (.ofNat 0), .slc 39 0 1 none 2], .int .i64 (.ofNat 0), .slc 41 0 1 (some 1) 0], ⟨hst2, 42⟩, [(.bool true, ⟨hst3, 214⟩)]⟩
theorem ce1_run : chkE callT ce1 = true := by kernel_rfl
theorem ce1_ok {a0 : Nat → Value} : CeOk a0 Tryz.prog ce1 := chkE_ok (ready.call S4_ok (mergeOf_ok _) 60) ce1_run
-- agent Agent) Tick
noncomputable def ce2 : CE := ⟨42, [.ptr 29 0, .int .i64 (.ofNat 0)], ⟨hst3, 214⟩, [(.tup [.slc 311 0 2 none 9, .int .i64 (.ofNat 0)], ⟨hst4, 330⟩)]⟩
theorem ce2_run : chkE callT ce2 = true := by kernel_rfl
theorem ce2_ok {a0 : Nat → Value} : CeOk a0 Tryz.prog ce2 := chkE_ok (ready.call S4_ok (mergeOf_ok _) 60) ce2_run
-- hostlerlaw19 said
noncomputable def ce3 : CE := ⟨17, [.ptr 29 0, .agg [.int .i64 (.ofNat 7), .str [102], .str [120], .str [], .int .i64 (.ofNat 1), .int .i64 (.ofNat 0), .int .i64 (.ofNat 0), .int .i64 (.ofNat 0), .nils], .int .i64 (.ofNat 3), .nils], ⟨hst5, 334⟩, [(.bool true, ⟨hst5, 340⟩)]⟩
theorem ce3_run : chkE callT ce3 = true := by kernel_rfl
theorem ce3_ok {a0 : Nat → Value} : CeOk a0 Tryz.prog ce3 := chkE_ok (ready.call S4_ok (mergeOf_ok _) 60) ce3_run
-- hostlerlaw19 said
noncomputable def ce4 : CE := ⟨17, [.ptr 29 0, .agg [.int .i64 (.ofNat 9), .str [102], .str [120], .str [], .int .i64 (.ofNat 1), .int .i64 (.ofNat 0), .int .i64 (.ofNat 0), .int .i64 (.ofNat 0), .nils], .int .i64 (.ofNat 3), .nils], ⟨hst5, 341⟩, [(.bool true, ⟨hst5, 347⟩)]⟩
theorem ce4_run : chkE callT ce4 = true := by kernel_rfl
theorem ce4_ok {a0 : Nat → Value} : CeOk a0 Tryz.prog ce4 := chkE_ok (ready.call S4_ok (mergeOf_ok _) 60) ce4_run
-- hostlerlaw19 said
noncomputable def ce5 : CE := ⟨17, [.ptr 29 0, .agg [.int .i64 (.ofNat 8), .str [102], .str [120], .str [97], .int .i64 (.ofNat 1), .int .i64 (.ofNat 2), .int .i64 (.ofNat 0), .int .i64 (.ofNat 0), .nils], .int .i64 (.ofNat 3), .nils], ⟨hst5, 350⟩, [(.bool true, ⟨hst5, 357⟩)]⟩
theorem ce5_run : chkE callT ce5 = true := by kernel_rfl
theorem ce5_ok {a0 : Nat → Value} : CeOk a0 Tryz.prog ce5 := chkE_ok (ready.call S4_ok (mergeOf_ok _) 60) ce5_run
-- hostlerlaw19 said
noncomputable def ce7 : CE := ⟨17, [.ptr 29 0, .agg [.int .i64 (.ofNat 7), .str [102], .str [120], .str [], .int .i64 (.ofNat 2), .int .i64 (.ofNat 0), .int .i64 (.ofNat 0), .int .i64 (.ofNat 0), .nils], .int .i64 (.ofNat 0), .slc 585 0 1 (some 1) 0], ⟨hst8, 586⟩, [(.bool true, ⟨hst9, 707⟩)]⟩
theorem ce7_run : chkE callT ce7 = true := by kernel_rfl
theorem ce7_ok {a0 : Nat → Value} : CeOk a0 Tryz.prog ce7 := chkE_ok (ready.call S4_ok (mergeOf_ok _) 60) ce7_run
-- hostlerlaw19 up
noncomputable def ce8 : CE := ⟨15, [.agg [.cplx 4621819117588971520 4621819117588971520, .int .i64 (.ofNat 2), .int .i64 (.ofNat 3), .int .i64 (.ofNat 5), .int .i64 (.ofNat 1000), .int .i64 (.ofNat 1000), .int .i64 (.ofNat 4000)]], ⟨hst10, 2⟩, [(.tup [.ptr 29 0, .ptr 4 0, .bool true], ⟨hst11, 35⟩)]⟩
theorem ce8_run : chkE callT ce8 = true := by kernel_rfl
theorem ce8_ok {a0 : Nat → Value} : CeOk a0 Tryz.prog ce8 := chkE_ok (ready.call S4_ok (mergeOf_ok _) 60) ce8_run
-- hostlerlaw19 up
noncomputable def ce17 : CE := ⟨15, [.agg [.cplx 4621819117588971520 4621819117588971520, .int .i64 (.ofNat 3), .int .i64 (.ofNat 3), .int .i64 (.ofNat 5), .int .i64 (.ofNat 1000), .int .i64 (.ofNat 1000), .int .i64 (.ofNat 4000)]], ⟨hst21, 2⟩, [(.tup [.ptr 29 0, .ptr 4 0, .bool true], ⟨hst22, 35⟩)]⟩
theorem ce17_run : chkE callT ce17 = true := by kernel_rfl
theorem ce17_ok {a0 : Nat → Value} : CeOk a0 Tryz.prog ce17 := chkE_ok (ready.call S4_ok (mergeOf_ok _) 60) ce17_run
end Go.AX

