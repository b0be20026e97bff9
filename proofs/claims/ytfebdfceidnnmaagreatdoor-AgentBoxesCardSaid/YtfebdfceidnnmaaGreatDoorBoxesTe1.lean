/- AgentBoxes, calls. -/
import Derived.Test.YtfebdfceidnnmaaGreatDoorBoxesTb
import Derived.Test.YtfebdfceidnnmaaGreatDoorBoxesTs1
set_option autoImplicit false
set_option linter.unusedVariables false
set_option maxRecDepth 1000000
namespace Go.AX
open Go.Proofs
-- hostlerlaw19 said
noncomputable def ce18 : CE := ⟨17, [.ptr 29 0, .agg [.int .i64 (.ofNat 9), .str [102], .str [120], .str [], .int .i64 (.ofNat 1), .int .i64 (.ofNat 0), .int .i64 (.ofNat 0), .int .i64 (.ofNat 0), .nils], .int .i64 (.ofNat 0), .slc 433 0 1 (some 1) 0], ⟨hst27, 434⟩, [(.bool true, ⟨hst28, 531⟩)]⟩
theorem ce18_run : chkE callT ce18 = true := by kernel_rfl
theorem ce18_ok {a0 : Nat → Value} : CeOk a0 Tryz.prog ce18 := chkE_ok (ready.call S4_ok (mergeOf_ok _) 60) ce18_run
-- hostlerlaw19 said
noncomputable def ce19 : CE := ⟨17, [.ptr 29 0, .agg [.int .i64 (.ofNat 4), .str [102], .str [], .str [97], .int .i64 (.ofNat 0), .int .i64 (.ofNat 0), .int .i64 (.ofNat 1), .int .i64 (.ofNat 1), .nils], .int .i64 (.ofNat 0), .nils], ⟨hst28, 532⟩, [(.bool true, ⟨hst29, 599⟩)]⟩
theorem ce19_run : chkE callT ce19 = true := by kernel_rfl
theorem ce19_ok {a0 : Nat → Value} : CeOk a0 Tryz.prog ce19 := chkE_ok (ready.call S4_ok (mergeOf_ok _) 60) ce19_run
-- agent Agent) Tick
noncomputable def ce20 : CE := ⟨42, [.ptr 29 0, .int .i64 (.ofNat 0)], ⟨hst30, 606⟩, [(.tup [.nils, .int .i64 (.ofNat 0)], ⟨hst31, 662⟩)]⟩
theorem ce20_run : chkE callT ce20 = true := by kernel_rfl
theorem ce20_ok {a0 : Nat → Value} : CeOk a0 Tryz.prog ce20 := chkE_ok (ready.call S4_ok (mergeOf_ok _) 60) ce20_run
-- hostlerlaw19 said
noncomputable def ce21 : CE := ⟨17, [.ptr 29 0, .agg [.int .i64 (.ofNat 1), .str [102], .str [120], .str [], .int .i64 (.ofNat 0), .int .i64 (.ofNat 0), .int .i64 (.ofNat 0), .int .i64 (.ofNat 0), .slc 678 0 1 none 2], .int .i64 (.ofNat 4), .nils], ⟨hst32, 679⟩, [(.bool true, ⟨hst32, 705⟩)]⟩
theorem ce21_run : chkE callT ce21 = true := by kernel_rfl
theorem ce21_ok {a0 : Nat → Value} : CeOk a0 Tryz.prog ce21 := chkE_ok (ready.call S4_ok (mergeOf_ok _) 60) ce21_run
-- agent Agent) Tick
noncomputable def ce22 : CE := ⟨42, [.ptr 29 0, .int .i64 (.ofNat 0)], ⟨hst26, 428⟩, [(.tup [.nils, .int .i64 (.ofNat 0)], ⟨hst33, 473⟩)]⟩
theorem ce22_run : chkE callT ce22 = true := by kernel_rfl
theorem ce22_ok {a0 : Nat → Value} : CeOk a0 Tryz.prog ce22 := chkE_ok (ready.call S4_ok (mergeOf_ok _) 60) ce22_run
-- hostlerlaw19 said
noncomputable def ce23 : CE := ⟨17, [.ptr 29 0, .agg [.int .i64 (.ofNat 9), .str [102], .str [120], .str [], .int .i64 (.ofNat 1), .int .i64 (.ofNat 0), .int .i64 (.ofNat 0), .int .i64 (.ofNat 0), .nils], .int .i64 (.ofNat 0), .slc 478 0 1 (some 1) 0], ⟨hst34, 479⟩, [(.bool true, ⟨hst35, 576⟩)]⟩
theorem ce23_run : chkE callT ce23 = true := by kernel_rfl
theorem ce23_ok {a0 : Nat → Value} : CeOk a0 Tryz.prog ce23 := chkE_ok (ready.call S4_ok (mergeOf_ok _) 60) ce23_run
-- hostlerlaw19 said
noncomputable def ce24 : CE := ⟨17, [.ptr 29 0, .agg [.int .i64 (.ofNat 4), .str [102], .str [], .str [97], .int .i64 (.ofNat 0), .int .i64 (.ofNat 0), .int .i64 (.ofNat 1), .int .i64 (.ofNat 1), .nils], .int .i64 (.ofNat 0), .nils], ⟨hst35, 577⟩, [(.bool true, ⟨hst36, 644⟩)]⟩
theorem ce24_run : chkE callT ce24 = true := by kernel_rfl
theorem ce24_ok {a0 : Nat → Value} : CeOk a0 Tryz.prog ce24 := chkE_ok (ready.call S4_ok (mergeOf_ok _) 60) ce24_run
-- agent Agent) Tick
noncomputable def ce25 : CE := ⟨42, [.ptr 29 0, .int .i64 (.ofNat 0)], ⟨hst37, 651⟩, [(.tup [.nils, .int .i64 (.ofNat 0)], ⟨hst38, 707⟩)]⟩
theorem ce25_run : chkE callT ce25 = true := by kernel_rfl
theorem ce25_ok {a0 : Nat → Value} : CeOk a0 Tryz.prog ce25 := chkE_ok (ready.call S4_ok (mergeOf_ok _) 60) ce25_run
-- hostlerlaw19 said
noncomputable def ce26 : CE := ⟨17, [.ptr 29 0, .agg [.int .i64 (.ofNat 1), .str [102], .str [120], .str [], .int .i64 (.ofNat 0), .int .i64 (.ofNat 0), .int .i64 (.ofNat 0), .int .i64 (.ofNat 0), .slc 723 0 1 none 2], .int .i64 (.ofNat 4), .nils], ⟨hst39, 724⟩, [(.bool true, ⟨hst39, 750⟩)]⟩
theorem ce26_run : chkE callT ce26 = true := by kernel_rfl
theorem ce26_ok {a0 : Nat → Value} : CeOk a0 Tryz.prog ce26 := chkE_ok (ready.call S4_ok (mergeOf_ok _) 60) ce26_run
-- hostlerlaw19 up
noncomputable def ce27 : CE := ⟨15, [.agg [.cplx 4621819117588971520 4621819117588971520, .int .i64 (.ofNat 4), .int .i64 (.ofNat 3), .int .i64 (.ofNat 2), .int .i64 (.ofNat 2), .int .i64 (.ofNat 8), .int .i64 (.ofNat 4000)]], ⟨hst40, 2⟩, [(.tup [.ptr 29 0, .ptr 4 0, .bool true], ⟨hst41, 35⟩)]⟩
theorem ce27_run : chkE callT ce27 = true := by kernel_rfl
theorem ce27_ok {a0 : Nat → Value} : CeOk a0 Tryz.prog ce27 := chkE_ok (ready.call S4_ok (mergeOf_ok _) 60) ce27_run
-- hostlerlaw19 said
noncomputable def ce28 : CE := ⟨17, [.ptr 29 0, .agg [.int .i64 (.ofNat 1), .str [102], .str [120], .str [], .int .i64 (.ofNat 0), .int .i64 (.ofNat 0), .int .i64 (.ofNat 0), .int .i64 (.ofNat 0), .slc 39 0 1 none 2], .int .i64 (.ofNat 0), .slc 41 0 1 (some 1) 0], ⟨hst42, 42⟩, [(.bool true, ⟨hst43, 214⟩)]⟩
theorem ce28_run : chkE callT ce28 = true := by kernel_rfl
theorem ce28_ok {a0 : Nat → Value} : CeOk a0 Tryz.prog ce28 := chkE_ok (ready.call S4_ok (mergeOf_ok _) 60) ce28_run
-- hostlerlaw19 said
noncomputable def ce29 : CE := ⟨17, [.ptr 29 0, .agg [.int .i64 (.ofNat 7), .str [102], .str [120], .str [], .int .i64 (.ofNat 1), .int .i64 (.ofNat 0), .int .i64 (.ofNat 0), .int .i64 (.ofNat 0), .nils], .int .i64 (.ofNat 0), .slc 219 0 1 (some 1) 0], ⟨hst44, 220⟩, [(.bool true, ⟨hst45, 293⟩)]⟩
theorem ce29_run : chkE callT ce29 = true := by kernel_rfl
theorem ce29_ok {a0 : Nat → Value} : CeOk a0 Tryz.prog ce29 := chkE_ok (ready.call S4_ok (mergeOf_ok _) 60) ce29_run
-- hostlerlaw19 said
noncomputable def ce30 : CE := ⟨17, [.ptr 29 0, .agg [.int .i64 (.ofNat 9), .str [102], .str [120], .str [], .int .i64 (.ofNat 1), .int .i64 (.ofNat 0), .int .i64 (.ofNat 0), .int .i64 (.ofNat 0), .nils], .int .i64 (.ofNat 0), .slc 298 0 1 (some 1) 0], ⟨hst46, 299⟩, [(.bool true, ⟨hst47, 396⟩)]⟩
theorem ce30_run : chkE callT ce30 = true := by kernel_rfl
theorem ce30_ok {a0 : Nat → Value} : CeOk a0 Tryz.prog ce30 := chkE_ok (ready.call S4_ok (mergeOf_ok _) 60) ce30_run
-- hostlerlaw19 said
noncomputable def ce31 : CE := ⟨17, [.ptr 29 0, .agg [.int .i64 (.ofNat 4), .str [102], .str [], .str [97], .int .i64 (.ofNat 0), .int .i64 (.ofNat 0), .int .i64 (.ofNat 1), .int .i64 (.ofNat 1), .nils], .int .i64 (.ofNat 0), .nils], ⟨hst47, 397⟩, [(.bool true, ⟨hst48, 464⟩)]⟩
theorem ce31_run : chkE callT ce31 = true := by kernel_rfl
theorem ce31_ok {a0 : Nat → Value} : CeOk a0 Tryz.prog ce31 := chkE_ok (ready.call S4_ok (mergeOf_ok _) 60) ce31_run
-- agent Agent) Tick
noncomputable def ce32 : CE := ⟨42, [.ptr 29 0, .int .i64 (.ofNat 0)], ⟨hst49, 522⟩, [(.tup [.nils, .int .i64 (.ofNat 0)], ⟨hst50, 578⟩)]⟩
theorem ce32_run : chkE callT ce32 = true := by kernel_rfl
theorem ce32_ok {a0 : Nat → Value} : CeOk a0 Tryz.prog ce32 := chkE_ok (ready.call S4_ok (mergeOf_ok _) 60) ce32_run
-- hostlerlaw19 said
noncomputable def ce33 : CE := ⟨17, [.ptr 29 0, .agg [.int .i64 (.ofNat 1), .str [102], .str [120], .str [], .int .i64 (.ofNat 0), .int .i64 (.ofNat 0), .int .i64 (.ofNat 0), .int .i64 (.ofNat 0), .slc 594 0 1 none 2], .int .i64 (.ofNat 4), .nils], ⟨hst51, 595⟩, [(.bool true, ⟨hst51, 621⟩)]⟩
theorem ce33_run : chkE callT ce33 = true := by kernel_rfl
theorem ce33_ok {a0 : Nat → Value} : CeOk a0 Tryz.prog ce33 := chkE_ok (ready.call S4_ok (mergeOf_ok _) 60) ce33_run
-- agent Agent) Tick
noncomputable def ce34 : CE := ⟨42, [.ptr 29 0, .int .i64 (.ofNat 0)], ⟨hst45, 293⟩, [(.tup [.nils, .int .i64 (.ofNat 0)], ⟨hst52, 338⟩)]⟩
theorem ce34_run : chkE callT ce34 = true := by kernel_rfl
theorem ce34_ok {a0 : Nat → Value} : CeOk a0 Tryz.prog ce34 := chkE_ok (ready.call S4_ok (mergeOf_ok _) 60) ce34_run
-- hostlerlaw19 said
noncomputable def ce36 : CE := ⟨17, [.ptr 29 0, .agg [.int .i64 (.ofNat 4), .str [102], .str [], .str [97], .int .i64 (.ofNat 0), .int .i64 (.ofNat 0), .int .i64 (.ofNat 1), .int .i64 (.ofNat 1), .nils], .int .i64 (.ofNat 0), .nils], ⟨hst54, 442⟩, [(.bool true, ⟨hst55, 509⟩)]⟩
theorem ce36_run : chkE callT ce36 = true := by kernel_rfl
theorem ce36_ok {a0 : Nat → Value} : CeOk a0 Tryz.prog ce36 := chkE_ok (ready.call S4_ok (mergeOf_ok _) 60) ce36_run
end Go.AX

