/- AgentBoxes, calls. -/
import Derived.Test.YtfebdfceidnnmaaGreatDoorBoxesTb
import Derived.Test.YtfebdfceidnnmaaGreatDoorBoxesTs1
set_option autoImplicit false
set_option linter.unusedVariables false
set_option maxRecDepth 1000000
namespace Go.AX
open Go.Proofs
-- hostlerlaw19 said
noncomputable def ce55 : CE := ⟨17, [.ptr 29 0, .agg [.int .i64 (.ofNat 1), .str [102], .str [120], .str [], .int .i64 (.ofNat 0), .int .i64 (.ofNat 0), .int .i64 (.ofNat 0), .int .i64 (.ofNat 0), .slc 39 0 1 none 2], .int .i64 (.ofNat 0), .slc 41 0 1 (some 1) 0], ⟨hst82, 42⟩, [(.bool true, ⟨hst83, 214⟩)]⟩
theorem ce55_run : chkE callT ce55 = true := by kernel_rfl
theorem ce55_ok {a0 : Nat → Value} : CeOk a0 Tryz.prog ce55 := chkE_ok (ready.call S4_ok (mergeOf_ok _) 60) ce55_run
-- hostlerlaw19 said
noncomputable def ce56 : CE := ⟨17, [.ptr 29 0, .agg [.int .i64 (.ofNat 7), .str [102], .str [120], .str [], .int .i64 (.ofNat 1), .int .i64 (.ofNat 0), .int .i64 (.ofNat 0), .int .i64 (.ofNat 0), .nils], .int .i64 (.ofNat 0), .slc 219 0 1 (some 1) 0], ⟨hst84, 220⟩, [(.bool true, ⟨hst85, 293⟩)]⟩
theorem ce56_run : chkE callT ce56 = true := by kernel_rfl
theorem ce56_ok {a0 : Nat → Value} : CeOk a0 Tryz.prog ce56 := chkE_ok (ready.call S4_ok (mergeOf_ok _) 60) ce56_run
-- hostlerlaw19 said
noncomputable def ce57 : CE := ⟨17, [.ptr 29 0, .agg [.int .i64 (.ofNat 9), .str [102], .str [120], .str [], .int .i64 (.ofNat 1), .int .i64 (.ofNat 0), .int .i64 (.ofNat 0), .int .i64 (.ofNat 0), .nils], .int .i64 (.ofNat 0), .slc 298 0 1 (some 1) 0], ⟨hst86, 299⟩, [(.bool true, ⟨hst87, 396⟩)]⟩
theorem ce57_run : chkE callT ce57 = true := by kernel_rfl
theorem ce57_ok {a0 : Nat → Value} : CeOk a0 Tryz.prog ce57 := chkE_ok (ready.call S4_ok (mergeOf_ok _) 60) ce57_run
-- hostlerlaw19 said
noncomputable def ce58 : CE := ⟨17, [.ptr 29 0, .agg [.int .i64 (.ofNat 4), .str [102], .str [], .str [97], .int .i64 (.ofNat 0), .int .i64 (.ofNat 0), .int .i64 (.ofNat 1), .int .i64 (.ofNat 1), .nils], .int .i64 (.ofNat 0), .nils], ⟨hst87, 397⟩, [(.bool true, ⟨hst88, 464⟩)]⟩
theorem ce58_run : chkE callT ce58 = true := by kernel_rfl
theorem ce58_ok {a0 : Nat → Value} : CeOk a0 Tryz.prog ce58 := chkE_ok (ready.call S4_ok (mergeOf_ok _) 60) ce58_run
-- agent Agent) Tick
noncomputable def ce59 : CE := ⟨42, [.ptr 29 0, .int .i64 (.ofNat 0)], ⟨hst89, 573⟩, [(.tup [.nils, .int .i64 (.ofNat 0)], ⟨hst90, 629⟩)]⟩
theorem ce59_run : chkE callT ce59 = true := by kernel_rfl
theorem ce59_ok {a0 : Nat → Value} : CeOk a0 Tryz.prog ce59 := chkE_ok (ready.call S4_ok (mergeOf_ok _) 60) ce59_run
-- hostlerlaw19 said
noncomputable def ce60 : CE := ⟨17, [.ptr 29 0, .agg [.int .i64 (.ofNat 1), .str [102], .str [120], .str [], .int .i64 (.ofNat 0), .int .i64 (.ofNat 0), .int .i64 (.ofNat 0), .int .i64 (.ofNat 0), .slc 645 0 1 none 2], .int .i64 (.ofNat 4), .nils], ⟨hst91, 646⟩, [(.bool true, ⟨hst91, 672⟩)]⟩
theorem ce60_run : chkE callT ce60 = true := by kernel_rfl
theorem ce60_ok {a0 : Nat → Value} : CeOk a0 Tryz.prog ce60 := chkE_ok (ready.call S4_ok (mergeOf_ok _) 60) ce60_run
-- agent Agent) Tick
noncomputable def ce61 : CE := ⟨42, [.ptr 29 0, .int .i64 (.ofNat 0)], ⟨hst85, 293⟩, [(.tup [.nils, .int .i64 (.ofNat 0)], ⟨hst92, 338⟩)]⟩
theorem ce61_run : chkE callT ce61 = true := by kernel_rfl
theorem ce61_ok {a0 : Nat → Value} : CeOk a0 Tryz.prog ce61 := chkE_ok (ready.call S4_ok (mergeOf_ok _) 60) ce61_run
-- hostlerlaw19 said
noncomputable def ce62 : CE := ⟨17, [.ptr 29 0, .agg [.int .i64 (.ofNat 9), .str [102], .str [120], .str [], .int .i64 (.ofNat 1), .int .i64 (.ofNat 0), .int .i64 (.ofNat 0), .int .i64 (.ofNat 0), .nils], .int .i64 (.ofNat 0), .slc 343 0 1 (some 1) 0], ⟨hst93, 344⟩, [(.bool true, ⟨hst94, 441⟩)]⟩
theorem ce62_run : chkE callT ce62 = true := by kernel_rfl
theorem ce62_ok {a0 : Nat → Value} : CeOk a0 Tryz.prog ce62 := chkE_ok (ready.call S4_ok (mergeOf_ok _) 60) ce62_run
-- hostlerlaw19 said
noncomputable def ce63 : CE := ⟨17, [.ptr 29 0, .agg [.int .i64 (.ofNat 4), .str [102], .str [], .str [97], .int .i64 (.ofNat 0), .int .i64 (.ofNat 0), .int .i64 (.ofNat 1), .int .i64 (.ofNat 1), .nils], .int .i64 (.ofNat 0), .nils], ⟨hst94, 442⟩, [(.bool true, ⟨hst95, 509⟩)]⟩
theorem ce63_run : chkE callT ce63 = true := by kernel_rfl
theorem ce63_ok {a0 : Nat → Value} : CeOk a0 Tryz.prog ce63 := chkE_ok (ready.call S4_ok (mergeOf_ok _) 60) ce63_run
-- agent Agent) Tick
noncomputable def ce64 : CE := ⟨42, [.ptr 29 0, .int .i64 (.ofNat 0)], ⟨hst96, 618⟩, [(.tup [.nils, .int .i64 (.ofNat 0)], ⟨hst97, 674⟩)]⟩
theorem ce64_run : chkE callT ce64 = true := by kernel_rfl
theorem ce64_ok {a0 : Nat → Value} : CeOk a0 Tryz.prog ce64 := chkE_ok (ready.call S4_ok (mergeOf_ok _) 60) ce64_run
-- hostlerlaw19 said
noncomputable def ce65 : CE := ⟨17, [.ptr 29 0, .agg [.int .i64 (.ofNat 1), .str [102], .str [120], .str [], .int .i64 (.ofNat 0), .int .i64 (.ofNat 0), .int .i64 (.ofNat 0), .int .i64 (.ofNat 0), .slc 690 0 1 none 2], .int .i64 (.ofNat 4), .nils], ⟨hst98, 691⟩, [(.bool true, ⟨hst98, 717⟩)]⟩
theorem ce65_run : chkE callT ce65 = true := by kernel_rfl
theorem ce65_ok {a0 : Nat → Value} : CeOk a0 Tryz.prog ce65 := chkE_ok (ready.call S4_ok (mergeOf_ok _) 60) ce65_run
-- agent Agent) Tick
noncomputable def ce66 : CE := ⟨42, [.ptr 29 0, .int .i64 (.ofNat 0)], ⟨hst92, 338⟩, [(.tup [.nils, .int .i64 (.ofNat 0)], ⟨hst99, 383⟩)]⟩
theorem ce66_run : chkE callT ce66 = true := by kernel_rfl
theorem ce66_ok {a0 : Nat → Value} : CeOk a0 Tryz.prog ce66 := chkE_ok (ready.call S4_ok (mergeOf_ok _) 60) ce66_run
-- hostlerlaw19 said
noncomputable def ce67 : CE := ⟨17, [.ptr 29 0, .agg [.int .i64 (.ofNat 9), .str [102], .str [120], .str [], .int .i64 (.ofNat 1), .int .i64 (.ofNat 0), .int .i64 (.ofNat 0), .int .i64 (.ofNat 0), .nils], .int .i64 (.ofNat 0), .slc 388 0 1 (some 1) 0], ⟨hst100, 389⟩, [(.bool true, ⟨hst101, 486⟩)]⟩
theorem ce67_run : chkE callT ce67 = true := by kernel_rfl
theorem ce67_ok {a0 : Nat → Value} : CeOk a0 Tryz.prog ce67 := chkE_ok (ready.call S4_ok (mergeOf_ok _) 60) ce67_run
-- hostlerlaw19 said
noncomputable def ce68 : CE := ⟨17, [.ptr 29 0, .agg [.int .i64 (.ofNat 4), .str [102], .str [], .str [97], .int .i64 (.ofNat 0), .int .i64 (.ofNat 0), .int .i64 (.ofNat 1), .int .i64 (.ofNat 1), .nils], .int .i64 (.ofNat 0), .nils], ⟨hst101, 487⟩, [(.bool true, ⟨hst102, 554⟩)]⟩
theorem ce68_run : chkE callT ce68 = true := by kernel_rfl
theorem ce68_ok {a0 : Nat → Value} : CeOk a0 Tryz.prog ce68 := chkE_ok (ready.call S4_ok (mergeOf_ok _) 60) ce68_run
-- agent Agent) Tick
noncomputable def ce69 : CE := ⟨42, [.ptr 29 0, .int .i64 (.ofNat 0)], ⟨hst103, 663⟩, [(.tup [.nils, .int .i64 (.ofNat 0)], ⟨hst104, 719⟩)]⟩
theorem ce69_run : chkE callT ce69 = true := by kernel_rfl
theorem ce69_ok {a0 : Nat → Value} : CeOk a0 Tryz.prog ce69 := chkE_ok (ready.call S4_ok (mergeOf_ok _) 60) ce69_run
-- hostlerlaw19 said
noncomputable def ce70 : CE := ⟨17, [.ptr 29 0, .agg [.int .i64 (.ofNat 1), .str [102], .str [120], .str [], .int .i64 (.ofNat 0), .int .i64 (.ofNat 0), .int .i64 (.ofNat 0), .int .i64 (.ofNat 0), .slc 735 0 1 none 2], .int .i64 (.ofNat 4), .nils], ⟨hst105, 736⟩, [(.bool true, ⟨hst105, 762⟩)]⟩
theorem ce70_run : chkE callT ce70 = true := by kernel_rfl
theorem ce70_ok {a0 : Nat → Value} : CeOk a0 Tryz.prog ce70 := chkE_ok (ready.call S4_ok (mergeOf_ok _) 60) ce70_run
-- agent Agent) Tick
noncomputable def ce71 : CE := ⟨42, [.ptr 29 0, .int .i64 (.ofNat 0)], ⟨hst99, 383⟩, [(.tup [.nils, .int .i64 (.ofNat 0)], ⟨hst106, 428⟩)]⟩
theorem ce71_run : chkE callT ce71 = true := by kernel_rfl
theorem ce71_ok {a0 : Nat → Value} : CeOk a0 Tryz.prog ce71 := chkE_ok (ready.call S4_ok (mergeOf_ok _) 60) ce71_run
-- hostlerlaw19 said
noncomputable def ce75 : CE := ⟨17, [.ptr 29 0, .agg [.int .i64 (.ofNat 1), .str [102], .str [120], .str [], .int .i64 (.ofNat 0), .int .i64 (.ofNat 0), .int .i64 (.ofNat 0), .int .i64 (.ofNat 0), .slc 780 0 1 none 2], .int .i64 (.ofNat 4), .nils], ⟨hst112, 781⟩, [(.bool true, ⟨hst112, 807⟩)]⟩
theorem ce75_run : chkE callT ce75 = true := by kernel_rfl
theorem ce75_ok {a0 : Nat → Value} : CeOk a0 Tryz.prog ce75 := chkE_ok (ready.call S4_ok (mergeOf_ok _) 60) ce75_run
end Go.AX

