/- AgentBoxes, calls. -/
import Derived.Test.YtfebdfceidnnmaaGreatDoorBoxesTb
import Derived.Test.YtfebdfceidnnmaaGreatDoorBoxesTs1
set_option autoImplicit false
set_option linter.unusedVariables false
set_option maxRecDepth 1000000
namespace Go.AX
open Go.Proofs
-- hostlerlaw19 said
noncomputable def ce144 : CE := ⟨17, [.ptr 29 0, .agg [.int .i64 (.ofNat 4), .str [102], .str [], .str [97], .int .i64 (.ofNat 0), .int .i64 (.ofNat 0), .int .i64 (.ofNat 1), .int .i64 (.ofNat 1), .nils], .int .i64 (.ofNat 0), .nils], ⟨hst214, 442⟩, [(.bool true, ⟨hst215, 509⟩)]⟩
theorem ce144_run : chkE callT ce144 = true := by kernel_rfl
theorem ce144_ok {a0 : Nat → Value} : CeOk a0 Tryz.prog ce144 := chkE_ok (ready.call S4_ok (mergeOf_ok _) 60) ce144_run
-- agent Agent) Tick
noncomputable def ce145 : CE := ⟨42, [.ptr 29 0, .int .i64 (.ofNat 0)], ⟨hst216, 771⟩, [(.tup [.nils, .int .i64 (.ofNat 0)], ⟨hst217, 827⟩)]⟩
theorem ce145_run : chkE callT ce145 = true := by kernel_rfl
theorem ce145_ok {a0 : Nat → Value} : CeOk a0 Tryz.prog ce145 := chkE_ok (ready.call S4_ok (mergeOf_ok _) 60) ce145_run
-- agent Agent) Tick
noncomputable def ce147 : CE := ⟨42, [.ptr 29 0, .int .i64 (.ofNat 0)], ⟨hst212, 338⟩, [(.tup [.nils, .int .i64 (.ofNat 0)], ⟨hst219, 383⟩)]⟩
theorem ce147_run : chkE callT ce147 = true := by kernel_rfl
theorem ce147_ok {a0 : Nat → Value} : CeOk a0 Tryz.prog ce147 := chkE_ok (ready.call S4_ok (mergeOf_ok _) 60) ce147_run
-- hostlerlaw19 said
noncomputable def ce148 : CE := ⟨17, [.ptr 29 0, .agg [.int .i64 (.ofNat 9), .str [102], .str [120], .str [], .int .i64 (.ofNat 1), .int .i64 (.ofNat 0), .int .i64 (.ofNat 0), .int .i64 (.ofNat 0), .nils], .int .i64 (.ofNat 0), .slc 388 0 1 (some 1) 0], ⟨hst220, 389⟩, [(.bool true, ⟨hst221, 486⟩)]⟩
theorem ce148_run : chkE callT ce148 = true := by kernel_rfl
theorem ce148_ok {a0 : Nat → Value} : CeOk a0 Tryz.prog ce148 := chkE_ok (ready.call S4_ok (mergeOf_ok _) 60) ce148_run
-- hostlerlaw19 said
noncomputable def ce149 : CE := ⟨17, [.ptr 29 0, .agg [.int .i64 (.ofNat 4), .str [102], .str [], .str [97], .int .i64 (.ofNat 0), .int .i64 (.ofNat 0), .int .i64 (.ofNat 1), .int .i64 (.ofNat 1), .nils], .int .i64 (.ofNat 0), .nils], ⟨hst221, 487⟩, [(.bool true, ⟨hst222, 554⟩)]⟩
theorem ce149_run : chkE callT ce149 = true := by kernel_rfl
theorem ce149_ok {a0 : Nat → Value} : CeOk a0 Tryz.prog ce149 := chkE_ok (ready.call S4_ok (mergeOf_ok _) 60) ce149_run
-- agent Agent) Tick
noncomputable def ce150 : CE := ⟨42, [.ptr 29 0, .int .i64 (.ofNat 0)], ⟨hst223, 816⟩, [(.tup [.nils, .int .i64 (.ofNat 0)], ⟨hst224, 872⟩)]⟩
theorem ce150_run : chkE callT ce150 = true := by kernel_rfl
theorem ce150_ok {a0 : Nat → Value} : CeOk a0 Tryz.prog ce150 := chkE_ok (ready.call S4_ok (mergeOf_ok _) 60) ce150_run
-- hostlerlaw19 said
noncomputable def ce151 : CE := ⟨17, [.ptr 29 0, .agg [.int .i64 (.ofNat 1), .str [102], .str [120], .str [], .int .i64 (.ofNat 0), .int .i64 (.ofNat 0), .int .i64 (.ofNat 0), .int .i64 (.ofNat 0), .slc 888 0 1 none 2], .int .i64 (.ofNat 4), .nils], ⟨hst225, 889⟩, [(.bool true, ⟨hst225, 915⟩)]⟩
theorem ce151_run : chkE callT ce151 = true := by kernel_rfl
theorem ce151_ok {a0 : Nat → Value} : CeOk a0 Tryz.prog ce151 := chkE_ok (ready.call S4_ok (mergeOf_ok _) 60) ce151_run
-- agent Agent) Tick
noncomputable def ce152 : CE := ⟨42, [.ptr 29 0, .int .i64 (.ofNat 0)], ⟨hst219, 383⟩, [(.tup [.nils, .int .i64 (.ofNat 0)], ⟨hst226, 428⟩)]⟩
theorem ce152_run : chkE callT ce152 = true := by kernel_rfl
theorem ce152_ok {a0 : Nat → Value} : CeOk a0 Tryz.prog ce152 := chkE_ok (ready.call S4_ok (mergeOf_ok _) 60) ce152_run
-- hostlerlaw19 said
noncomputable def ce153 : CE := ⟨17, [.ptr 29 0, .agg [.int .i64 (.ofNat 9), .str [102], .str [120], .str [], .int .i64 (.ofNat 1), .int .i64 (.ofNat 0), .int .i64 (.ofNat 0), .int .i64 (.ofNat 0), .nils], .int .i64 (.ofNat 0), .slc 433 0 1 (some 1) 0], ⟨hst227, 434⟩, [(.bool true, ⟨hst228, 531⟩)]⟩
theorem ce153_run : chkE callT ce153 = true := by kernel_rfl
theorem ce153_ok {a0 : Nat → Value} : CeOk a0 Tryz.prog ce153 := chkE_ok (ready.call S4_ok (mergeOf_ok _) 60) ce153_run
-- hostlerlaw19 said
noncomputable def ce154 : CE := ⟨17, [.ptr 29 0, .agg [.int .i64 (.ofNat 4), .str [102], .str [], .str [97], .int .i64 (.ofNat 0), .int .i64 (.ofNat 0), .int .i64 (.ofNat 1), .int .i64 (.ofNat 1), .nils], .int .i64 (.ofNat 0), .nils], ⟨hst228, 532⟩, [(.bool true, ⟨hst229, 599⟩)]⟩
theorem ce154_run : chkE callT ce154 = true := by kernel_rfl
theorem ce154_ok {a0 : Nat → Value} : CeOk a0 Tryz.prog ce154 := chkE_ok (ready.call S4_ok (mergeOf_ok _) 60) ce154_run
-- agent Agent) Tick
noncomputable def ce155 : CE := ⟨42, [.ptr 29 0, .int .i64 (.ofNat 0)], ⟨hst230, 861⟩, [(.tup [.nils, .int .i64 (.ofNat 0)], ⟨hst231, 917⟩)]⟩
theorem ce155_run : chkE callT ce155 = true := by kernel_rfl
theorem ce155_ok {a0 : Nat → Value} : CeOk a0 Tryz.prog ce155 := chkE_ok (ready.call S4_ok (mergeOf_ok _) 60) ce155_run
-- hostlerlaw19 said
noncomputable def ce156 : CE := ⟨17, [.ptr 29 0, .agg [.int .i64 (.ofNat 1), .str [102], .str [120], .str [], .int .i64 (.ofNat 0), .int .i64 (.ofNat 0), .int .i64 (.ofNat 0), .int .i64 (.ofNat 0), .slc 933 0 1 none 2], .int .i64 (.ofNat 4), .nils], ⟨hst232, 934⟩, [(.bool true, ⟨hst232, 960⟩)]⟩
theorem ce156_run : chkE callT ce156 = true := by kernel_rfl
theorem ce156_ok {a0 : Nat → Value} : CeOk a0 Tryz.prog ce156 := chkE_ok (ready.call S4_ok (mergeOf_ok _) 60) ce156_run
-- agent Agent) Tick
noncomputable def ce157 : CE := ⟨42, [.ptr 29 0, .int .i64 (.ofNat 0)], ⟨hst226, 428⟩, [(.tup [.nils, .int .i64 (.ofNat 0)], ⟨hst233, 473⟩)]⟩
theorem ce157_run : chkE callT ce157 = true := by kernel_rfl
theorem ce157_ok {a0 : Nat → Value} : CeOk a0 Tryz.prog ce157 := chkE_ok (ready.call S4_ok (mergeOf_ok _) 60) ce157_run
-- hostlerlaw19 said
noncomputable def ce158 : CE := ⟨17, [.ptr 29 0, .agg [.int .i64 (.ofNat 9), .str [102], .str [120], .str [], .int .i64 (.ofNat 1), .int .i64 (.ofNat 0), .int .i64 (.ofNat 0), .int .i64 (.ofNat 0), .nils], .int .i64 (.ofNat 0), .slc 478 0 1 (some 1) 0], ⟨hst234, 479⟩, [(.bool true, ⟨hst235, 576⟩)]⟩
theorem ce158_run : chkE callT ce158 = true := by kernel_rfl
theorem ce158_ok {a0 : Nat → Value} : CeOk a0 Tryz.prog ce158 := chkE_ok (ready.call S4_ok (mergeOf_ok _) 60) ce158_run
-- hostlerlaw19 said
noncomputable def ce159 : CE := ⟨17, [.ptr 29 0, .agg [.int .i64 (.ofNat 4), .str [102], .str [], .str [97], .int .i64 (.ofNat 0), .int .i64 (.ofNat 0), .int .i64 (.ofNat 1), .int .i64 (.ofNat 1), .nils], .int .i64 (.ofNat 0), .nils], ⟨hst235, 577⟩, [(.bool true, ⟨hst236, 644⟩)]⟩
theorem ce159_run : chkE callT ce159 = true := by kernel_rfl
theorem ce159_ok {a0 : Nat → Value} : CeOk a0 Tryz.prog ce159 := chkE_ok (ready.call S4_ok (mergeOf_ok _) 60) ce159_run
-- agent Agent) Tick
noncomputable def ce160 : CE := ⟨42, [.ptr 29 0, .int .i64 (.ofNat 0)], ⟨hst237, 906⟩, [(.tup [.nils, .int .i64 (.ofNat 0)], ⟨hst238, 962⟩)]⟩
theorem ce160_run : chkE callT ce160 = true := by kernel_rfl
theorem ce160_ok {a0 : Nat → Value} : CeOk a0 Tryz.prog ce160 := chkE_ok (ready.call S4_ok (mergeOf_ok _) 60) ce160_run
-- hostlerlaw19 said
noncomputable def ce161 : CE := ⟨17, [.ptr 29 0, .agg [.int .i64 (.ofNat 1), .str [102], .str [120], .str [], .int .i64 (.ofNat 0), .int .i64 (.ofNat 0), .int .i64 (.ofNat 0), .int .i64 (.ofNat 0), .slc 978 0 1 none 2], .int .i64 (.ofNat 4), .nils], ⟨hst239, 979⟩, [(.bool true, ⟨hst239, 1005⟩)]⟩
theorem ce161_run : chkE callT ce161 = true := by kernel_rfl
theorem ce161_ok {a0 : Nat → Value} : CeOk a0 Tryz.prog ce161 := chkE_ok (ready.call S4_ok (mergeOf_ok _) 60) ce161_run
-- hostlerlaw19 up
noncomputable def ce162 : CE := ⟨15, [.agg [.cplx 4621819117588971520 4621819117588971520, .int .i64 (.ofNat 4), .int .i64 (.ofNat 3), .int .i64 (.ofNat 7), .int .i64 (.ofNat 2), .int .i64 (.ofNat 8), .int .i64 (.ofNat 4000)]], ⟨hst240, 2⟩, [(.tup [.ptr 29 0, .ptr 4 0, .bool true], ⟨hst241, 35⟩)]⟩
theorem ce162_run : chkE callT ce162 = true := by kernel_rfl
theorem ce162_ok {a0 : Nat → Value} : CeOk a0 Tryz.prog ce162 := chkE_ok (ready.call S4_ok (mergeOf_ok _) 60) ce162_run
-- hostlerlaw19 said
noncomputable def ce164 : CE := ⟨17, [.ptr 29 0, .agg [.int .i64 (.ofNat 7), .str [102], .str [120], .str [], .int .i64 (.ofNat 1), .int .i64 (.ofNat 0), .int .i64 (.ofNat 0), .int .i64 (.ofNat 0), .nils], .int .i64 (.ofNat 0), .slc 219 0 1 (some 1) 0], ⟨hst244, 220⟩, [(.bool true, ⟨hst245, 293⟩)]⟩
theorem ce164_run : chkE callT ce164 = true := by kernel_rfl
theorem ce164_ok {a0 : Nat → Value} : CeOk a0 Tryz.prog ce164 := chkE_ok (ready.call S4_ok (mergeOf_ok _) 60) ce164_run
end Go.AX

