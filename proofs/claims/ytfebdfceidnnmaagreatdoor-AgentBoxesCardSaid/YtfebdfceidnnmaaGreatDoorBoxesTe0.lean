/- AgentBoxes, calls. -/
import Derived.Test.YtfebdfceidnnmaaGreatDoorBoxesTb
import Derived.Test.YtfebdfceidnnmaaGreatDoorBoxesTs1
set_option autoImplicit false
set_option linter.unusedVariables false
set_option maxRecDepth 1000000
namespace Go.AX
open Go.Proofs
-- hostlerlaw19 up
noncomputable def ce0 : CE := ⟨15, [.agg [.cplx 4621819117588971520 4621819117588971520, .int .i64 (.ofNat 4), .int .i64 (.ofNat 3), .int .i64 (.ofNat 1), .int .i64 (.ofNat 2), .int .i64 (.ofNat 8), .int .i64 (.ofNat 4000)]], ⟨hst0, 2⟩, [(.tup [.ptr 29 0, .ptr 4 0, .bool true], ⟨hst1, 35⟩)]⟩
theorem ce0_run : chkE callT ce0 = true := by kernel_rfl
theorem ce0_ok {a0 : Nat → Value} : CeOk a0 Tryz.prog ce0 := chkE_ok (ready.call S4_ok (mergeOf_ok _) 60) ce0_run
-- hostlerlaw19 said
noncomputable def ce1 : CE := ⟨17, [.ptr 29 0, .agg [.int .i64 (.ofNat 1), .str [102], .str [120], .str [], .int .i64 (.ofNat 0), .int .i64 (.ofNat 0), .int .i64 (.ofNat 0), .int .i64 (.ofNat 0), .slc 39 0 1 none 2], .int .i64 (.ofNat 0), .slc 41 0 1 (some 1) 0], ⟨hst2, 42⟩, [(.bool true, ⟨hst3, 214⟩)]⟩
theorem ce1_run : chkE callT ce1 = true := by kernel_rfl
theorem ce1_ok {a0 : Nat → Value} : CeOk a0 Tryz.prog ce1 := chkE_ok (ready.call S4_ok (mergeOf_ok _) 60) ce1_run
-- hostlerlaw19 said
noncomputable def ce2 : CE := ⟨17, [.ptr 29 0, .agg [.int .i64 (.ofNat 7), .str [102], .str [120], .str [], .int .i64 (.ofNat 1), .int .i64 (.ofNat 0), .int .i64 (.ofNat 0), .int .i64 (.ofNat 0), .nils], .int .i64 (.ofNat 0), .slc 219 0 1 (some 1) 0], ⟨hst4, 220⟩, [(.bool true, ⟨hst5, 293⟩)]⟩
theorem ce2_run : chkE callT ce2 = true := by kernel_rfl
theorem ce2_ok {a0 : Nat → Value} : CeOk a0 Tryz.prog ce2 := chkE_ok (ready.call S4_ok (mergeOf_ok _) 60) ce2_run
-- hostlerlaw19 said
noncomputable def ce3 : CE := ⟨17, [.ptr 29 0, .agg [.int .i64 (.ofNat 9), .str [102], .str [120], .str [], .int .i64 (.ofNat 1), .int .i64 (.ofNat 0), .int .i64 (.ofNat 0), .int .i64 (.ofNat 0), .nils], .int .i64 (.ofNat 0), .slc 298 0 1 (some 1) 0], ⟨hst6, 299⟩, [(.bool true, ⟨hst7, 396⟩)]⟩
theorem ce3_run : chkE callT ce3 = true := by kernel_rfl
theorem ce3_ok {a0 : Nat → Value} : CeOk a0 Tryz.prog ce3 := chkE_ok (ready.call S4_ok (mergeOf_ok _) 60) ce3_run
-- hostlerlaw19 said
noncomputable def ce4 : CE := ⟨17, [.ptr 29 0, .agg [.int .i64 (.ofNat 4), .str [102], .str [], .str [97], .int .i64 (.ofNat 0), .int .i64 (.ofNat 0), .int .i64 (.ofNat 1), .int .i64 (.ofNat 1), .nils], .int .i64 (.ofNat 0), .nils], ⟨hst7, 397⟩, [(.bool true, ⟨hst8, 464⟩)]⟩
theorem ce4_run : chkE callT ce4 = true := by kernel_rfl
theorem ce4_ok {a0 : Nat → Value} : CeOk a0 Tryz.prog ce4 := chkE_ok (ready.call S4_ok (mergeOf_ok _) 60) ce4_run
-- agent Agent) Tick
noncomputable def ce5 : CE := ⟨42, [.ptr 29 0, .int .i64 (.ofNat 0)], ⟨hst9, 471⟩, [(.tup [.nils, .int .i64 (.ofNat 0)], ⟨hst10, 527⟩)]⟩
theorem ce5_run : chkE callT ce5 = true := by kernel_rfl
theorem ce5_ok {a0 : Nat → Value} : CeOk a0 Tryz.prog ce5 := chkE_ok (ready.call S4_ok (mergeOf_ok _) 60) ce5_run
-- hostlerlaw19 said
noncomputable def ce6 : CE := ⟨17, [.ptr 29 0, .agg [.int .i64 (.ofNat 1), .str [102], .str [120], .str [], .int .i64 (.ofNat 0), .int .i64 (.ofNat 0), .int .i64 (.ofNat 0), .int .i64 (.ofNat 0), .slc 543 0 1 none 2], .int .i64 (.ofNat 4), .nils], ⟨hst11, 544⟩, [(.bool true, ⟨hst11, 570⟩)]⟩
theorem ce6_run : chkE callT ce6 = true := by kernel_rfl
theorem ce6_ok {a0 : Nat → Value} : CeOk a0 Tryz.prog ce6 := chkE_ok (ready.call S4_ok (mergeOf_ok _) 60) ce6_run
-- agent Agent) Tick
noncomputable def ce7 : CE := ⟨42, [.ptr 29 0, .int .i64 (.ofNat 0)], ⟨hst5, 293⟩, [(.tup [.nils, .int .i64 (.ofNat 0)], ⟨hst12, 338⟩)]⟩
theorem ce7_run : chkE callT ce7 = true := by kernel_rfl
theorem ce7_ok {a0 : Nat → Value} : CeOk a0 Tryz.prog ce7 := chkE_ok (ready.call S4_ok (mergeOf_ok _) 60) ce7_run
-- hostlerlaw19 said
noncomputable def ce8 : CE := ⟨17, [.ptr 29 0, .agg [.int .i64 (.ofNat 9), .str [102], .str [120], .str [], .int .i64 (.ofNat 1), .int .i64 (.ofNat 0), .int .i64 (.ofNat 0), .int .i64 (.ofNat 0), .nils], .int .i64 (.ofNat 0), .slc 343 0 1 (some 1) 0], ⟨hst13, 344⟩, [(.bool true, ⟨hst14, 441⟩)]⟩
theorem ce8_run : chkE callT ce8 = true := by kernel_rfl
theorem ce8_ok {a0 : Nat → Value} : CeOk a0 Tryz.prog ce8 := chkE_ok (ready.call S4_ok (mergeOf_ok _) 60) ce8_run
-- hostlerlaw19 said
noncomputable def ce9 : CE := ⟨17, [.ptr 29 0, .agg [.int .i64 (.ofNat 4), .str [102], .str [], .str [97], .int .i64 (.ofNat 0), .int .i64 (.ofNat 0), .int .i64 (.ofNat 1), .int .i64 (.ofNat 1), .nils], .int .i64 (.ofNat 0), .nils], ⟨hst14, 442⟩, [(.bool true, ⟨hst15, 509⟩)]⟩
theorem ce9_run : chkE callT ce9 = true := by kernel_rfl
theorem ce9_ok {a0 : Nat → Value} : CeOk a0 Tryz.prog ce9 := chkE_ok (ready.call S4_ok (mergeOf_ok _) 60) ce9_run
-- agent Agent) Tick
noncomputable def ce10 : CE := ⟨42, [.ptr 29 0, .int .i64 (.ofNat 0)], ⟨hst16, 516⟩, [(.tup [.nils, .int .i64 (.ofNat 0)], ⟨hst17, 572⟩)]⟩
theorem ce10_run : chkE callT ce10 = true := by kernel_rfl
theorem ce10_ok {a0 : Nat → Value} : CeOk a0 Tryz.prog ce10 := chkE_ok (ready.call S4_ok (mergeOf_ok _) 60) ce10_run
-- hostlerlaw19 said
noncomputable def ce11 : CE := ⟨17, [.ptr 29 0, .agg [.int .i64 (.ofNat 1), .str [102], .str [120], .str [], .int .i64 (.ofNat 0), .int .i64 (.ofNat 0), .int .i64 (.ofNat 0), .int .i64 (.ofNat 0), .slc 588 0 1 none 2], .int .i64 (.ofNat 4), .nils], ⟨hst18, 589⟩, [(.bool true, ⟨hst18, 615⟩)]⟩
theorem ce11_run : chkE callT ce11 = true := by kernel_rfl
theorem ce11_ok {a0 : Nat → Value} : CeOk a0 Tryz.prog ce11 := chkE_ok (ready.call S4_ok (mergeOf_ok _) 60) ce11_run
-- agent Agent) Tick
noncomputable def ce12 : CE := ⟨42, [.ptr 29 0, .int .i64 (.ofNat 0)], ⟨hst12, 338⟩, [(.tup [.nils, .int .i64 (.ofNat 0)], ⟨hst19, 383⟩)]⟩
theorem ce12_run : chkE callT ce12 = true := by kernel_rfl
theorem ce12_ok {a0 : Nat → Value} : CeOk a0 Tryz.prog ce12 := chkE_ok (ready.call S4_ok (mergeOf_ok _) 60) ce12_run
-- hostlerlaw19 said
noncomputable def ce13 : CE := ⟨17, [.ptr 29 0, .agg [.int .i64 (.ofNat 9), .str [102], .str [120], .str [], .int .i64 (.ofNat 1), .int .i64 (.ofNat 0), .int .i64 (.ofNat 0), .int .i64 (.ofNat 0), .nils], .int .i64 (.ofNat 0), .slc 388 0 1 (some 1) 0], ⟨hst20, 389⟩, [(.bool true, ⟨hst21, 486⟩)]⟩
theorem ce13_run : chkE callT ce13 = true := by kernel_rfl
theorem ce13_ok {a0 : Nat → Value} : CeOk a0 Tryz.prog ce13 := chkE_ok (ready.call S4_ok (mergeOf_ok _) 60) ce13_run
-- hostlerlaw19 said
noncomputable def ce14 : CE := ⟨17, [.ptr 29 0, .agg [.int .i64 (.ofNat 4), .str [102], .str [], .str [97], .int .i64 (.ofNat 0), .int .i64 (.ofNat 0), .int .i64 (.ofNat 1), .int .i64 (.ofNat 1), .nils], .int .i64 (.ofNat 0), .nils], ⟨hst21, 487⟩, [(.bool true, ⟨hst22, 554⟩)]⟩
theorem ce14_run : chkE callT ce14 = true := by kernel_rfl
theorem ce14_ok {a0 : Nat → Value} : CeOk a0 Tryz.prog ce14 := chkE_ok (ready.call S4_ok (mergeOf_ok _) 60) ce14_run
-- agent Agent) Tick
noncomputable def ce15 : CE := ⟨42, [.ptr 29 0, .int .i64 (.ofNat 0)], ⟨hst23, 561⟩, [(.tup [.nils, .int .i64 (.ofNat 0)], ⟨hst24, 617⟩)]⟩
theorem ce15_run : chkE callT ce15 = true := by kernel_rfl
theorem ce15_ok {a0 : Nat → Value} : CeOk a0 Tryz.prog ce15 := chkE_ok (ready.call S4_ok (mergeOf_ok _) 60) ce15_run
-- hostlerlaw19 said
noncomputable def ce16 : CE := ⟨17, [.ptr 29 0, .agg [.int .i64 (.ofNat 1), .str [102], .str [120], .str [], .int .i64 (.ofNat 0), .int .i64 (.ofNat 0), .int .i64 (.ofNat 0), .int .i64 (.ofNat 0), .slc 633 0 1 none 2], .int .i64 (.ofNat 4), .nils], ⟨hst25, 634⟩, [(.bool true, ⟨hst25, 660⟩)]⟩
theorem ce16_run : chkE callT ce16 = true := by kernel_rfl
theorem ce16_ok {a0 : Nat → Value} : CeOk a0 Tryz.prog ce16 := chkE_ok (ready.call S4_ok (mergeOf_ok _) 60) ce16_run
-- agent Agent) Tick
noncomputable def ce17 : CE := ⟨42, [.ptr 29 0, .int .i64 (.ofNat 0)], ⟨hst19, 383⟩, [(.tup [.nils, .int .i64 (.ofNat 0)], ⟨hst26, 428⟩)]⟩
theorem ce17_run : chkE callT ce17 = true := by kernel_rfl
theorem ce17_ok {a0 : Nat → Value} : CeOk a0 Tryz.prog ce17 := chkE_ok (ready.call S4_ok (mergeOf_ok _) 60) ce17_run
end Go.AX

