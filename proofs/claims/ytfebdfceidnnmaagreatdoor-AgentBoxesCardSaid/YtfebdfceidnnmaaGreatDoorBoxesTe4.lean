/- AgentBoxes, calls. -/
import Derived.Test.YtfebdfceidnnmaaGreatDoorBoxesTb
import Derived.Test.YtfebdfceidnnmaaGreatDoorBoxesTs1
set_option autoImplicit false
set_option linter.unusedVariables false
set_option maxRecDepth 1000000
namespace Go.AX
open Go.Proofs
-- hostlerlaw19 said
noncomputable def ce72 : CE := ⟨17, [.ptr 29 0, .agg [.int .i64 (.ofNat 9), .str [102], .str [120], .str [], .int .i64 (.ofNat 1), .int .i64 (.ofNat 0), .int .i64 (.ofNat 0), .int .i64 (.ofNat 0), .nils], .int .i64 (.ofNat 0), .slc 433 0 1 (some 1) 0], ⟨hst107, 434⟩, [(.bool true, ⟨hst108, 531⟩)]⟩
theorem ce72_run : chkE callT ce72 = true := by kernel_rfl
theorem ce72_ok {a0 : Nat → Value} : CeOk a0 Tryz.prog ce72 := chkE_ok (ready.call S4_ok (mergeOf_ok _) 60) ce72_run
-- hostlerlaw19 said
noncomputable def ce73 : CE := ⟨17, [.ptr 29 0, .agg [.int .i64 (.ofNat 4), .str [102], .str [], .str [97], .int .i64 (.ofNat 0), .int .i64 (.ofNat 0), .int .i64 (.ofNat 1), .int .i64 (.ofNat 1), .nils], .int .i64 (.ofNat 0), .nils], ⟨hst108, 532⟩, [(.bool true, ⟨hst109, 599⟩)]⟩
theorem ce73_run : chkE callT ce73 = true := by kernel_rfl
theorem ce73_ok {a0 : Nat → Value} : CeOk a0 Tryz.prog ce73 := chkE_ok (ready.call S4_ok (mergeOf_ok _) 60) ce73_run
-- agent Agent) Tick
noncomputable def ce74 : CE := ⟨42, [.ptr 29 0, .int .i64 (.ofNat 0)], ⟨hst110, 708⟩, [(.tup [.nils, .int .i64 (.ofNat 0)], ⟨hst111, 764⟩)]⟩
theorem ce74_run : chkE callT ce74 = true := by kernel_rfl
theorem ce74_ok {a0 : Nat → Value} : CeOk a0 Tryz.prog ce74 := chkE_ok (ready.call S4_ok (mergeOf_ok _) 60) ce74_run
-- agent Agent) Tick
noncomputable def ce76 : CE := ⟨42, [.ptr 29 0, .int .i64 (.ofNat 0)], ⟨hst106, 428⟩, [(.tup [.nils, .int .i64 (.ofNat 0)], ⟨hst113, 473⟩)]⟩
theorem ce76_run : chkE callT ce76 = true := by kernel_rfl
theorem ce76_ok {a0 : Nat → Value} : CeOk a0 Tryz.prog ce76 := chkE_ok (ready.call S4_ok (mergeOf_ok _) 60) ce76_run
-- hostlerlaw19 said
noncomputable def ce77 : CE := ⟨17, [.ptr 29 0, .agg [.int .i64 (.ofNat 9), .str [102], .str [120], .str [], .int .i64 (.ofNat 1), .int .i64 (.ofNat 0), .int .i64 (.ofNat 0), .int .i64 (.ofNat 0), .nils], .int .i64 (.ofNat 0), .slc 478 0 1 (some 1) 0], ⟨hst114, 479⟩, [(.bool true, ⟨hst115, 576⟩)]⟩
theorem ce77_run : chkE callT ce77 = true := by kernel_rfl
theorem ce77_ok {a0 : Nat → Value} : CeOk a0 Tryz.prog ce77 := chkE_ok (ready.call S4_ok (mergeOf_ok _) 60) ce77_run
-- hostlerlaw19 said
noncomputable def ce78 : CE := ⟨17, [.ptr 29 0, .agg [.int .i64 (.ofNat 4), .str [102], .str [], .str [97], .int .i64 (.ofNat 0), .int .i64 (.ofNat 0), .int .i64 (.ofNat 1), .int .i64 (.ofNat 1), .nils], .int .i64 (.ofNat 0), .nils], ⟨hst115, 577⟩, [(.bool true, ⟨hst116, 644⟩)]⟩
theorem ce78_run : chkE callT ce78 = true := by kernel_rfl
theorem ce78_ok {a0 : Nat → Value} : CeOk a0 Tryz.prog ce78 := chkE_ok (ready.call S4_ok (mergeOf_ok _) 60) ce78_run
-- agent Agent) Tick
noncomputable def ce79 : CE := ⟨42, [.ptr 29 0, .int .i64 (.ofNat 0)], ⟨hst117, 753⟩, [(.tup [.nils, .int .i64 (.ofNat 0)], ⟨hst118, 809⟩)]⟩
theorem ce79_run : chkE callT ce79 = true := by kernel_rfl
theorem ce79_ok {a0 : Nat → Value} : CeOk a0 Tryz.prog ce79 := chkE_ok (ready.call S4_ok (mergeOf_ok _) 60) ce79_run
-- hostlerlaw19 said
noncomputable def ce80 : CE := ⟨17, [.ptr 29 0, .agg [.int .i64 (.ofNat 1), .str [102], .str [120], .str [], .int .i64 (.ofNat 0), .int .i64 (.ofNat 0), .int .i64 (.ofNat 0), .int .i64 (.ofNat 0), .slc 825 0 1 none 2], .int .i64 (.ofNat 4), .nils], ⟨hst119, 826⟩, [(.bool true, ⟨hst119, 852⟩)]⟩
theorem ce80_run : chkE callT ce80 = true := by kernel_rfl
theorem ce80_ok {a0 : Nat → Value} : CeOk a0 Tryz.prog ce80 := chkE_ok (ready.call S4_ok (mergeOf_ok _) 60) ce80_run
-- hostlerlaw19 up
noncomputable def ce81 : CE := ⟨15, [.agg [.cplx 4621819117588971520 4621819117588971520, .int .i64 (.ofNat 4), .int .i64 (.ofNat 3), .int .i64 (.ofNat 4), .int .i64 (.ofNat 2), .int .i64 (.ofNat 8), .int .i64 (.ofNat 4000)]], ⟨hst120, 2⟩, [(.tup [.ptr 29 0, .ptr 4 0, .bool true], ⟨hst121, 35⟩)]⟩
theorem ce81_run : chkE callT ce81 = true := by kernel_rfl
theorem ce81_ok {a0 : Nat → Value} : CeOk a0 Tryz.prog ce81 := chkE_ok (ready.call S4_ok (mergeOf_ok _) 60) ce81_run
-- hostlerlaw19 said
noncomputable def ce82 : CE := ⟨17, [.ptr 29 0, .agg [.int .i64 (.ofNat 1), .str [102], .str [120], .str [], .int .i64 (.ofNat 0), .int .i64 (.ofNat 0), .int .i64 (.ofNat 0), .int .i64 (.ofNat 0), .slc 39 0 1 none 2], .int .i64 (.ofNat 0), .slc 41 0 1 (some 1) 0], ⟨hst122, 42⟩, [(.bool true, ⟨hst123, 214⟩)]⟩
theorem ce82_run : chkE callT ce82 = true := by kernel_rfl
theorem ce82_ok {a0 : Nat → Value} : CeOk a0 Tryz.prog ce82 := chkE_ok (ready.call S4_ok (mergeOf_ok _) 60) ce82_run
-- hostlerlaw19 said
noncomputable def ce83 : CE := ⟨17, [.ptr 29 0, .agg [.int .i64 (.ofNat 7), .str [102], .str [120], .str [], .int .i64 (.ofNat 1), .int .i64 (.ofNat 0), .int .i64 (.ofNat 0), .int .i64 (.ofNat 0), .nils], .int .i64 (.ofNat 0), .slc 219 0 1 (some 1) 0], ⟨hst124, 220⟩, [(.bool true, ⟨hst125, 293⟩)]⟩
theorem ce83_run : chkE callT ce83 = true := by kernel_rfl
theorem ce83_ok {a0 : Nat → Value} : CeOk a0 Tryz.prog ce83 := chkE_ok (ready.call S4_ok (mergeOf_ok _) 60) ce83_run
-- hostlerlaw19 said
noncomputable def ce84 : CE := ⟨17, [.ptr 29 0, .agg [.int .i64 (.ofNat 9), .str [102], .str [120], .str [], .int .i64 (.ofNat 1), .int .i64 (.ofNat 0), .int .i64 (.ofNat 0), .int .i64 (.ofNat 0), .nils], .int .i64 (.ofNat 0), .slc 298 0 1 (some 1) 0], ⟨hst126, 299⟩, [(.bool true, ⟨hst127, 396⟩)]⟩
theorem ce84_run : chkE callT ce84 = true := by kernel_rfl
theorem ce84_ok {a0 : Nat → Value} : CeOk a0 Tryz.prog ce84 := chkE_ok (ready.call S4_ok (mergeOf_ok _) 60) ce84_run
-- hostlerlaw19 said
noncomputable def ce85 : CE := ⟨17, [.ptr 29 0, .agg [.int .i64 (.ofNat 4), .str [102], .str [], .str [97], .int .i64 (.ofNat 0), .int .i64 (.ofNat 0), .int .i64 (.ofNat 1), .int .i64 (.ofNat 1), .nils], .int .i64 (.ofNat 0), .nils], ⟨hst127, 397⟩, [(.bool true, ⟨hst128, 464⟩)]⟩
theorem ce85_run : chkE callT ce85 = true := by kernel_rfl
theorem ce85_ok {a0 : Nat → Value} : CeOk a0 Tryz.prog ce85 := chkE_ok (ready.call S4_ok (mergeOf_ok _) 60) ce85_run
-- agent Agent) Tick
noncomputable def ce86 : CE := ⟨42, [.ptr 29 0, .int .i64 (.ofNat 0)], ⟨hst129, 624⟩, [(.tup [.nils, .int .i64 (.ofNat 0)], ⟨hst130, 680⟩)]⟩
theorem ce86_run : chkE callT ce86 = true := by kernel_rfl
theorem ce86_ok {a0 : Nat → Value} : CeOk a0 Tryz.prog ce86 := chkE_ok (ready.call S4_ok (mergeOf_ok _) 60) ce86_run
-- hostlerlaw19 said
noncomputable def ce87 : CE := ⟨17, [.ptr 29 0, .agg [.int .i64 (.ofNat 1), .str [102], .str [120], .str [], .int .i64 (.ofNat 0), .int .i64 (.ofNat 0), .int .i64 (.ofNat 0), .int .i64 (.ofNat 0), .slc 696 0 1 none 2], .int .i64 (.ofNat 4), .nils], ⟨hst131, 697⟩, [(.bool true, ⟨hst131, 723⟩)]⟩
theorem ce87_run : chkE callT ce87 = true := by kernel_rfl
theorem ce87_ok {a0 : Nat → Value} : CeOk a0 Tryz.prog ce87 := chkE_ok (ready.call S4_ok (mergeOf_ok _) 60) ce87_run
-- agent Agent) Tick
noncomputable def ce88 : CE := ⟨42, [.ptr 29 0, .int .i64 (.ofNat 0)], ⟨hst125, 293⟩, [(.tup [.nils, .int .i64 (.ofNat 0)], ⟨hst132, 338⟩)]⟩
theorem ce88_run : chkE callT ce88 = true := by kernel_rfl
theorem ce88_ok {a0 : Nat → Value} : CeOk a0 Tryz.prog ce88 := chkE_ok (ready.call S4_ok (mergeOf_ok _) 60) ce88_run
-- hostlerlaw19 said
noncomputable def ce90 : CE := ⟨17, [.ptr 29 0, .agg [.int .i64 (.ofNat 4), .str [102], .str [], .str [97], .int .i64 (.ofNat 0), .int .i64 (.ofNat 0), .int .i64 (.ofNat 1), .int .i64 (.ofNat 1), .nils], .int .i64 (.ofNat 0), .nils], ⟨hst134, 442⟩, [(.bool true, ⟨hst135, 509⟩)]⟩
theorem ce90_run : chkE callT ce90 = true := by kernel_rfl
theorem ce90_ok {a0 : Nat → Value} : CeOk a0 Tryz.prog ce90 := chkE_ok (ready.call S4_ok (mergeOf_ok _) 60) ce90_run
-- hostlerlaw19 said
noncomputable def ce92 : CE := ⟨17, [.ptr 29 0, .agg [.int .i64 (.ofNat 1), .str [102], .str [120], .str [], .int .i64 (.ofNat 0), .int .i64 (.ofNat 0), .int .i64 (.ofNat 0), .int .i64 (.ofNat 0), .slc 741 0 1 none 2], .int .i64 (.ofNat 4), .nils], ⟨hst138, 742⟩, [(.bool true, ⟨hst138, 768⟩)]⟩
theorem ce92_run : chkE callT ce92 = true := by kernel_rfl
theorem ce92_ok {a0 : Nat → Value} : CeOk a0 Tryz.prog ce92 := chkE_ok (ready.call S4_ok (mergeOf_ok _) 60) ce92_run
end Go.AX

