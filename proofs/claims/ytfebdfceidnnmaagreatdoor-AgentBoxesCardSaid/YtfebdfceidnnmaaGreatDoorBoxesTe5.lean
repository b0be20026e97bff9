/- AgentBoxes, calls. -/
import Derived.Test.YtfebdfceidnnmaaGreatDoorBoxesTb
import Derived.Test.YtfebdfceidnnmaaGreatDoorBoxesTs1
set_option autoImplicit false
set_option linter.unusedVariables false
set_option maxRecDepth 1000000
namespace Go.AX
open Go.Proofs
-- hostlerlaw19 said
noncomputable def ce89 : CE := ⟨17, [.ptr 29 0, .agg [.int .i64 (.ofNat 9), .str [102], .str [120], .str [], .int .i64 (.ofNat 1), .int .i64 (.ofNat 0), .int .i64 (.ofNat 0), .int .i64 (.ofNat 0), .nils], .int .i64 (.ofNat 0), .slc 343 0 1 (some 1) 0], ⟨hst133, 344⟩, [(.bool true, ⟨hst134, 441⟩)]⟩
theorem ce89_run : chkE callT ce89 = true := by kernel_rfl
theorem ce89_ok {a0 : Nat → Value} : CeOk a0 Tryz.prog ce89 := chkE_ok (ready.call S4_ok (mergeOf_ok _) 60) ce89_run
-- agent Agent) Tick
noncomputable def ce91 : CE := ⟨42, [.ptr 29 0, .int .i64 (.ofNat 0)], ⟨hst136, 669⟩, [(.tup [.nils, .int .i64 (.ofNat 0)], ⟨hst137, 725⟩)]⟩
theorem ce91_run : chkE callT ce91 = true := by kernel_rfl
theorem ce91_ok {a0 : Nat → Value} : CeOk a0 Tryz.prog ce91 := chkE_ok (ready.call S4_ok (mergeOf_ok _) 60) ce91_run
-- agent Agent) Tick
noncomputable def ce93 : CE := ⟨42, [.ptr 29 0, .int .i64 (.ofNat 0)], ⟨hst132, 338⟩, [(.tup [.nils, .int .i64 (.ofNat 0)], ⟨hst139, 383⟩)]⟩
theorem ce93_run : chkE callT ce93 = true := by kernel_rfl
theorem ce93_ok {a0 : Nat → Value} : CeOk a0 Tryz.prog ce93 := chkE_ok (ready.call S4_ok (mergeOf_ok _) 60) ce93_run
-- hostlerlaw19 said
noncomputable def ce94 : CE := ⟨17, [.ptr 29 0, .agg [.int .i64 (.ofNat 9), .str [102], .str [120], .str [], .int .i64 (.ofNat 1), .int .i64 (.ofNat 0), .int .i64 (.ofNat 0), .int .i64 (.ofNat 0), .nils], .int .i64 (.ofNat 0), .slc 388 0 1 (some 1) 0], ⟨hst140, 389⟩, [(.bool true, ⟨hst141, 486⟩)]⟩
theorem ce94_run : chkE callT ce94 = true := by kernel_rfl
theorem ce94_ok {a0 : Nat → Value} : CeOk a0 Tryz.prog ce94 := chkE_ok (ready.call S4_ok (mergeOf_ok _) 60) ce94_run
-- hostlerlaw19 said
noncomputable def ce95 : CE := ⟨17, [.ptr 29 0, .agg [.int .i64 (.ofNat 4), .str [102], .str [], .str [97], .int .i64 (.ofNat 0), .int .i64 (.ofNat 0), .int .i64 (.ofNat 1), .int .i64 (.ofNat 1), .nils], .int .i64 (.ofNat 0), .nils], ⟨hst141, 487⟩, [(.bool true, ⟨hst142, 554⟩)]⟩
theorem ce95_run : chkE callT ce95 = true := by kernel_rfl
theorem ce95_ok {a0 : Nat → Value} : CeOk a0 Tryz.prog ce95 := chkE_ok (ready.call S4_ok (mergeOf_ok _) 60) ce95_run
-- agent Agent) Tick
noncomputable def ce96 : CE := ⟨42, [.ptr 29 0, .int .i64 (.ofNat 0)], ⟨hst143, 714⟩, [(.tup [.nils, .int .i64 (.ofNat 0)], ⟨hst144, 770⟩)]⟩
theorem ce96_run : chkE callT ce96 = true := by kernel_rfl
theorem ce96_ok {a0 : Nat → Value} : CeOk a0 Tryz.prog ce96 := chkE_ok (ready.call S4_ok (mergeOf_ok _) 60) ce96_run
-- hostlerlaw19 said
noncomputable def ce97 : CE := ⟨17, [.ptr 29 0, .agg [.int .i64 (.ofNat 1), .str [102], .str [120], .str [], .int .i64 (.ofNat 0), .int .i64 (.ofNat 0), .int .i64 (.ofNat 0), .int .i64 (.ofNat 0), .slc 786 0 1 none 2], .int .i64 (.ofNat 4), .nils], ⟨hst145, 787⟩, [(.bool true, ⟨hst145, 813⟩)]⟩
theorem ce97_run : chkE callT ce97 = true := by kernel_rfl
theorem ce97_ok {a0 : Nat → Value} : CeOk a0 Tryz.prog ce97 := chkE_ok (ready.call S4_ok (mergeOf_ok _) 60) ce97_run
-- agent Agent) Tick
noncomputable def ce98 : CE := ⟨42, [.ptr 29 0, .int .i64 (.ofNat 0)], ⟨hst139, 383⟩, [(.tup [.nils, .int .i64 (.ofNat 0)], ⟨hst146, 428⟩)]⟩
theorem ce98_run : chkE callT ce98 = true := by kernel_rfl
theorem ce98_ok {a0 : Nat → Value} : CeOk a0 Tryz.prog ce98 := chkE_ok (ready.call S4_ok (mergeOf_ok _) 60) ce98_run
-- hostlerlaw19 said
noncomputable def ce99 : CE := ⟨17, [.ptr 29 0, .agg [.int .i64 (.ofNat 9), .str [102], .str [120], .str [], .int .i64 (.ofNat 1), .int .i64 (.ofNat 0), .int .i64 (.ofNat 0), .int .i64 (.ofNat 0), .nils], .int .i64 (.ofNat 0), .slc 433 0 1 (some 1) 0], ⟨hst147, 434⟩, [(.bool true, ⟨hst148, 531⟩)]⟩
theorem ce99_run : chkE callT ce99 = true := by kernel_rfl
theorem ce99_ok {a0 : Nat → Value} : CeOk a0 Tryz.prog ce99 := chkE_ok (ready.call S4_ok (mergeOf_ok _) 60) ce99_run
-- hostlerlaw19 said
noncomputable def ce100 : CE := ⟨17, [.ptr 29 0, .agg [.int .i64 (.ofNat 4), .str [102], .str [], .str [97], .int .i64 (.ofNat 0), .int .i64 (.ofNat 0), .int .i64 (.ofNat 1), .int .i64 (.ofNat 1), .nils], .int .i64 (.ofNat 0), .nils], ⟨hst148, 532⟩, [(.bool true, ⟨hst149, 599⟩)]⟩
theorem ce100_run : chkE callT ce100 = true := by kernel_rfl
theorem ce100_ok {a0 : Nat → Value} : CeOk a0 Tryz.prog ce100 := chkE_ok (ready.call S4_ok (mergeOf_ok _) 60) ce100_run
-- agent Agent) Tick
noncomputable def ce101 : CE := ⟨42, [.ptr 29 0, .int .i64 (.ofNat 0)], ⟨hst150, 759⟩, [(.tup [.nils, .int .i64 (.ofNat 0)], ⟨hst151, 815⟩)]⟩
theorem ce101_run : chkE callT ce101 = true := by kernel_rfl
theorem ce101_ok {a0 : Nat → Value} : CeOk a0 Tryz.prog ce101 := chkE_ok (ready.call S4_ok (mergeOf_ok _) 60) ce101_run
-- hostlerlaw19 said
noncomputable def ce102 : CE := ⟨17, [.ptr 29 0, .agg [.int .i64 (.ofNat 1), .str [102], .str [120], .str [], .int .i64 (.ofNat 0), .int .i64 (.ofNat 0), .int .i64 (.ofNat 0), .int .i64 (.ofNat 0), .slc 831 0 1 none 2], .int .i64 (.ofNat 4), .nils], ⟨hst152, 832⟩, [(.bool true, ⟨hst152, 858⟩)]⟩
theorem ce102_run : chkE callT ce102 = true := by kernel_rfl
theorem ce102_ok {a0 : Nat → Value} : CeOk a0 Tryz.prog ce102 := chkE_ok (ready.call S4_ok (mergeOf_ok _) 60) ce102_run
-- agent Agent) Tick
noncomputable def ce103 : CE := ⟨42, [.ptr 29 0, .int .i64 (.ofNat 0)], ⟨hst146, 428⟩, [(.tup [.nils, .int .i64 (.ofNat 0)], ⟨hst153, 473⟩)]⟩
theorem ce103_run : chkE callT ce103 = true := by kernel_rfl
theorem ce103_ok {a0 : Nat → Value} : CeOk a0 Tryz.prog ce103 := chkE_ok (ready.call S4_ok (mergeOf_ok _) 60) ce103_run
-- hostlerlaw19 said
noncomputable def ce104 : CE := ⟨17, [.ptr 29 0, .agg [.int .i64 (.ofNat 9), .str [102], .str [120], .str [], .int .i64 (.ofNat 1), .int .i64 (.ofNat 0), .int .i64 (.ofNat 0), .int .i64 (.ofNat 0), .nils], .int .i64 (.ofNat 0), .slc 478 0 1 (some 1) 0], ⟨hst154, 479⟩, [(.bool true, ⟨hst155, 576⟩)]⟩
theorem ce104_run : chkE callT ce104 = true := by kernel_rfl
theorem ce104_ok {a0 : Nat → Value} : CeOk a0 Tryz.prog ce104 := chkE_ok (ready.call S4_ok (mergeOf_ok _) 60) ce104_run
-- hostlerlaw19 said
noncomputable def ce105 : CE := ⟨17, [.ptr 29 0, .agg [.int .i64 (.ofNat 4), .str [102], .str [], .str [97], .int .i64 (.ofNat 0), .int .i64 (.ofNat 0), .int .i64 (.ofNat 1), .int .i64 (.ofNat 1), .nils], .int .i64 (.ofNat 0), .nils], ⟨hst155, 577⟩, [(.bool true, ⟨hst156, 644⟩)]⟩
theorem ce105_run : chkE callT ce105 = true := by kernel_rfl
theorem ce105_ok {a0 : Nat → Value} : CeOk a0 Tryz.prog ce105 := chkE_ok (ready.call S4_ok (mergeOf_ok _) 60) ce105_run
-- agent Agent) Tick
noncomputable def ce106 : CE := ⟨42, [.ptr 29 0, .int .i64 (.ofNat 0)], ⟨hst157, 804⟩, [(.tup [.nils, .int .i64 (.ofNat 0)], ⟨hst158, 860⟩)]⟩
theorem ce106_run : chkE callT ce106 = true := by kernel_rfl
theorem ce106_ok {a0 : Nat → Value} : CeOk a0 Tryz.prog ce106 := chkE_ok (ready.call S4_ok (mergeOf_ok _) 60) ce106_run
-- hostlerlaw19 said
noncomputable def ce107 : CE := ⟨17, [.ptr 29 0, .agg [.int .i64 (.ofNat 1), .str [102], .str [120], .str [], .int .i64 (.ofNat 0), .int .i64 (.ofNat 0), .int .i64 (.ofNat 0), .int .i64 (.ofNat 0), .slc 876 0 1 none 2], .int .i64 (.ofNat 4), .nils], ⟨hst159, 877⟩, [(.bool true, ⟨hst159, 903⟩)]⟩
theorem ce107_run : chkE callT ce107 = true := by kernel_rfl
theorem ce107_ok {a0 : Nat → Value} : CeOk a0 Tryz.prog ce107 := chkE_ok (ready.call S4_ok (mergeOf_ok _) 60) ce107_run
-- hostlerlaw19 up
noncomputable def ce108 : CE := ⟨15, [.agg [.cplx 4621819117588971520 4621819117588971520, .int .i64 (.ofNat 4), .int .i64 (.ofNat 3), .int .i64 (.ofNat 5), .int .i64 (.ofNat 2), .int .i64 (.ofNat 8), .int .i64 (.ofNat 4000)]], ⟨hst160, 2⟩, [(.tup [.ptr 29 0, .ptr 4 0, .bool true], ⟨hst161, 35⟩)]⟩
theorem ce108_run : chkE callT ce108 = true := by kernel_rfl
theorem ce108_ok {a0 : Nat → Value} : CeOk a0 Tryz.prog ce108 := chkE_ok (ready.call S4_ok (mergeOf_ok _) 60) ce108_run
-- hostlerlaw19 said
noncomputable def ce114 : CE := ⟨17, [.ptr 29 0, .agg [.int .i64 (.ofNat 1), .str [102], .str [120], .str [], .int .i64 (.ofNat 0), .int .i64 (.ofNat 0), .int .i64 (.ofNat 0), .int .i64 (.ofNat 0), .slc 747 0 1 none 2], .int .i64 (.ofNat 4), .nils], ⟨hst171, 748⟩, [(.bool true, ⟨hst171, 774⟩)]⟩
theorem ce114_run : chkE callT ce114 = true := by kernel_rfl
theorem ce114_ok {a0 : Nat → Value} : CeOk a0 Tryz.prog ce114 := chkE_ok (ready.call S4_ok (mergeOf_ok _) 60) ce114_run
end Go.AX

