/- AgentBoxes, calls. -/
import Derived.Test.YtfebdfceidnnmaaGreatDoorBoxesTb
import Derived.Test.YtfebdfceidnnmaaGreatDoorBoxesTs1
set_option autoImplicit false
set_option linter.unusedVariables false
set_option maxRecDepth 1000000
namespace Go.AX
open Go.Proofs
-- agent Agent) Tick
noncomputable def ce199 : CE := ⟨42, [.ptr 29 0, .int .i64 (.ofNat 0)], ⟨hst296, 873⟩, [(.tup [.nils, .int .i64 (.ofNat 0)], ⟨hst297, 929⟩)]⟩
theorem ce199_run : chkE callT ce199 = true := by kernel_rfl
theorem ce199_ok {a0 : Nat → Value} : CeOk a0 Tryz.prog ce199 := chkE_ok (ready.call S4_ok (mergeOf_ok _) 60) ce199_run
-- hostlerlaw19 said
noncomputable def ce200 : CE := ⟨17, [.ptr 29 0, .agg [.int .i64 (.ofNat 1), .str [102], .str [120], .str [], .int .i64 (.ofNat 0), .int .i64 (.ofNat 0), .int .i64 (.ofNat 0), .int .i64 (.ofNat 0), .slc 945 0 1 none 2], .int .i64 (.ofNat 4), .nils], ⟨hst298, 946⟩, [(.bool true, ⟨hst298, 972⟩)]⟩
theorem ce200_run : chkE callT ce200 = true := by kernel_rfl
theorem ce200_ok {a0 : Nat → Value} : CeOk a0 Tryz.prog ce200 := chkE_ok (ready.call S4_ok (mergeOf_ok _) 60) ce200_run
-- agent Agent) Tick
noncomputable def ce201 : CE := ⟨42, [.ptr 29 0, .int .i64 (.ofNat 0)], ⟨hst292, 338⟩, [(.tup [.nils, .int .i64 (.ofNat 0)], ⟨hst299, 383⟩)]⟩
theorem ce201_run : chkE callT ce201 = true := by kernel_rfl
theorem ce201_ok {a0 : Nat → Value} : CeOk a0 Tryz.prog ce201 := chkE_ok (ready.call S4_ok (mergeOf_ok _) 60) ce201_run
-- hostlerlaw19 said
noncomputable def ce202 : CE := ⟨17, [.ptr 29 0, .agg [.int .i64 (.ofNat 9), .str [102], .str [120], .str [], .int .i64 (.ofNat 1), .int .i64 (.ofNat 0), .int .i64 (.ofNat 0), .int .i64 (.ofNat 0), .nils], .int .i64 (.ofNat 0), .slc 388 0 1 (some 1) 0], ⟨hst300, 389⟩, [(.bool true, ⟨hst301, 486⟩)]⟩
theorem ce202_run : chkE callT ce202 = true := by kernel_rfl
theorem ce202_ok {a0 : Nat → Value} : CeOk a0 Tryz.prog ce202 := chkE_ok (ready.call S4_ok (mergeOf_ok _) 60) ce202_run
-- hostlerlaw19 said
noncomputable def ce203 : CE := ⟨17, [.ptr 29 0, .agg [.int .i64 (.ofNat 4), .str [102], .str [], .str [97], .int .i64 (.ofNat 0), .int .i64 (.ofNat 0), .int .i64 (.ofNat 1), .int .i64 (.ofNat 1), .nils], .int .i64 (.ofNat 0), .nils], ⟨hst301, 487⟩, [(.bool true, ⟨hst302, 554⟩)]⟩
theorem ce203_run : chkE callT ce203 = true := by kernel_rfl
theorem ce203_ok {a0 : Nat → Value} : CeOk a0 Tryz.prog ce203 := chkE_ok (ready.call S4_ok (mergeOf_ok _) 60) ce203_run
-- agent Agent) Tick
noncomputable def ce204 : CE := ⟨42, [.ptr 29 0, .int .i64 (.ofNat 0)], ⟨hst303, 918⟩, [(.tup [.nils, .int .i64 (.ofNat 0)], ⟨hst304, 974⟩)]⟩
theorem ce204_run : chkE callT ce204 = true := by kernel_rfl
theorem ce204_ok {a0 : Nat → Value} : CeOk a0 Tryz.prog ce204 := chkE_ok (ready.call S4_ok (mergeOf_ok _) 60) ce204_run
-- hostlerlaw19 said
noncomputable def ce205 : CE := ⟨17, [.ptr 29 0, .agg [.int .i64 (.ofNat 1), .str [102], .str [120], .str [], .int .i64 (.ofNat 0), .int .i64 (.ofNat 0), .int .i64 (.ofNat 0), .int .i64 (.ofNat 0), .slc 990 0 1 none 2], .int .i64 (.ofNat 4), .nils], ⟨hst305, 991⟩, [(.bool true, ⟨hst305, 1017⟩)]⟩
theorem ce205_run : chkE callT ce205 = true := by kernel_rfl
theorem ce205_ok {a0 : Nat → Value} : CeOk a0 Tryz.prog ce205 := chkE_ok (ready.call S4_ok (mergeOf_ok _) 60) ce205_run
-- agent Agent) Tick
noncomputable def ce206 : CE := ⟨42, [.ptr 29 0, .int .i64 (.ofNat 0)], ⟨hst299, 383⟩, [(.tup [.nils, .int .i64 (.ofNat 0)], ⟨hst306, 428⟩)]⟩
theorem ce206_run : chkE callT ce206 = true := by kernel_rfl
theorem ce206_ok {a0 : Nat → Value} : CeOk a0 Tryz.prog ce206 := chkE_ok (ready.call S4_ok (mergeOf_ok _) 60) ce206_run
-- hostlerlaw19 said
noncomputable def ce207 : CE := ⟨17, [.ptr 29 0, .agg [.int .i64 (.ofNat 9), .str [102], .str [120], .str [], .int .i64 (.ofNat 1), .int .i64 (.ofNat 0), .int .i64 (.ofNat 0), .int .i64 (.ofNat 0), .nils], .int .i64 (.ofNat 0), .slc 433 0 1 (some 1) 0], ⟨hst307, 434⟩, [(.bool true, ⟨hst308, 531⟩)]⟩
theorem ce207_run : chkE callT ce207 = true := by kernel_rfl
theorem ce207_ok {a0 : Nat → Value} : CeOk a0 Tryz.prog ce207 := chkE_ok (ready.call S4_ok (mergeOf_ok _) 60) ce207_run
-- hostlerlaw19 said
noncomputable def ce208 : CE := ⟨17, [.ptr 29 0, .agg [.int .i64 (.ofNat 4), .str [102], .str [], .str [97], .int .i64 (.ofNat 0), .int .i64 (.ofNat 0), .int .i64 (.ofNat 1), .int .i64 (.ofNat 1), .nils], .int .i64 (.ofNat 0), .nils], ⟨hst308, 532⟩, [(.bool true, ⟨hst309, 599⟩)]⟩
theorem ce208_run : chkE callT ce208 = true := by kernel_rfl
theorem ce208_ok {a0 : Nat → Value} : CeOk a0 Tryz.prog ce208 := chkE_ok (ready.call S4_ok (mergeOf_ok _) 60) ce208_run
-- agent Agent) Tick
noncomputable def ce209 : CE := ⟨42, [.ptr 29 0, .int .i64 (.ofNat 0)], ⟨hst310, 963⟩, [(.tup [.nils, .int .i64 (.ofNat 0)], ⟨hst311, 1019⟩)]⟩
theorem ce209_run : chkE callT ce209 = true := by kernel_rfl
theorem ce209_ok {a0 : Nat → Value} : CeOk a0 Tryz.prog ce209 := chkE_ok (ready.call S4_ok (mergeOf_ok _) 60) ce209_run
-- hostlerlaw19 said
noncomputable def ce210 : CE := ⟨17, [.ptr 29 0, .agg [.int .i64 (.ofNat 1), .str [102], .str [120], .str [], .int .i64 (.ofNat 0), .int .i64 (.ofNat 0), .int .i64 (.ofNat 0), .int .i64 (.ofNat 0), .slc 1035 0 1 none 2], .int .i64 (.ofNat 4), .nils], ⟨hst312, 1036⟩, [(.bool true, ⟨hst312, 1062⟩)]⟩
theorem ce210_run : chkE callT ce210 = true := by kernel_rfl
theorem ce210_ok {a0 : Nat → Value} : CeOk a0 Tryz.prog ce210 := chkE_ok (ready.call S4_ok (mergeOf_ok _) 60) ce210_run
-- agent Agent) Tick
noncomputable def ce211 : CE := ⟨42, [.ptr 29 0, .int .i64 (.ofNat 0)], ⟨hst306, 428⟩, [(.tup [.nils, .int .i64 (.ofNat 0)], ⟨hst313, 473⟩)]⟩
theorem ce211_run : chkE callT ce211 = true := by kernel_rfl
theorem ce211_ok {a0 : Nat → Value} : CeOk a0 Tryz.prog ce211 := chkE_ok (ready.call S4_ok (mergeOf_ok _) 60) ce211_run
-- hostlerlaw19 said
noncomputable def ce212 : CE := ⟨17, [.ptr 29 0, .agg [.int .i64 (.ofNat 9), .str [102], .str [120], .str [], .int .i64 (.ofNat 1), .int .i64 (.ofNat 0), .int .i64 (.ofNat 0), .int .i64 (.ofNat 0), .nils], .int .i64 (.ofNat 0), .slc 478 0 1 (some 1) 0], ⟨hst314, 479⟩, [(.bool true, ⟨hst315, 576⟩)]⟩
theorem ce212_run : chkE callT ce212 = true := by kernel_rfl
theorem ce212_ok {a0 : Nat → Value} : CeOk a0 Tryz.prog ce212 := chkE_ok (ready.call S4_ok (mergeOf_ok _) 60) ce212_run
-- hostlerlaw19 said
noncomputable def ce213 : CE := ⟨17, [.ptr 29 0, .agg [.int .i64 (.ofNat 4), .str [102], .str [], .str [97], .int .i64 (.ofNat 0), .int .i64 (.ofNat 0), .int .i64 (.ofNat 1), .int .i64 (.ofNat 1), .nils], .int .i64 (.ofNat 0), .nils], ⟨hst315, 577⟩, [(.bool true, ⟨hst316, 644⟩)]⟩
theorem ce213_run : chkE callT ce213 = true := by kernel_rfl
theorem ce213_ok {a0 : Nat → Value} : CeOk a0 Tryz.prog ce213 := chkE_ok (ready.call S4_ok (mergeOf_ok _) 60) ce213_run
-- agent Agent) Tick
noncomputable def ce214 : CE := ⟨42, [.ptr 29 0, .int .i64 (.ofNat 0)], ⟨hst317, 1008⟩, [(.tup [.nils, .int .i64 (.ofNat 0)], ⟨hst318, 1064⟩)]⟩
theorem ce214_run : chkE callT ce214 = true := by kernel_rfl
theorem ce214_ok {a0 : Nat → Value} : CeOk a0 Tryz.prog ce214 := chkE_ok (ready.call S4_ok (mergeOf_ok _) 60) ce214_run
-- hostlerlaw19 said
noncomputable def ce215 : CE := ⟨17, [.ptr 29 0, .agg [.int .i64 (.ofNat 1), .str [102], .str [120], .str [], .int .i64 (.ofNat 0), .int .i64 (.ofNat 0), .int .i64 (.ofNat 0), .int .i64 (.ofNat 0), .slc 1080 0 1 none 2], .int .i64 (.ofNat 4), .nils], ⟨hst319, 1081⟩, [(.bool true, ⟨hst319, 1107⟩)]⟩
theorem ce215_run : chkE callT ce215 = true := by kernel_rfl
theorem ce215_ok {a0 : Nat → Value} : CeOk a0 Tryz.prog ce215 := chkE_ok (ready.call S4_ok (mergeOf_ok _) 60) ce215_run
-- hostlerlaw19 up
noncomputable def ce216 : CE := ⟨15, [.agg [.cplx 4621819117588971520 4621819117588971520, .int .i64 (.ofNat 4), .int .i64 (.ofNat 3), .int .i64 (.ofNat 9), .int .i64 (.ofNat 2), .int .i64 (.ofNat 8), .int .i64 (.ofNat 4000)]], ⟨hst320, 2⟩, [(.tup [.ptr 29 0, .ptr 4 0, .bool true], ⟨hst321, 35⟩)]⟩
theorem ce216_run : chkE callT ce216 = true := by kernel_rfl
theorem ce216_ok {a0 : Nat → Value} : CeOk a0 Tryz.prog ce216 := chkE_ok (ready.call S4_ok (mergeOf_ok _) 60) ce216_run
-- hostlerlaw19 said
noncomputable def ce218 : CE := ⟨17, [.ptr 29 0, .agg [.int .i64 (.ofNat 7), .str [102], .str [120], .str [], .int .i64 (.ofNat 1), .int .i64 (.ofNat 0), .int .i64 (.ofNat 0), .int .i64 (.ofNat 0), .nils], .int .i64 (.ofNat 0), .slc 219 0 1 (some 1) 0], ⟨hst324, 220⟩, [(.bool true, ⟨hst325, 293⟩)]⟩
theorem ce218_run : chkE callT ce218 = true := by kernel_rfl
theorem ce218_ok {a0 : Nat → Value} : CeOk a0 Tryz.prog ce218 := chkE_ok (ready.call S4_ok (mergeOf_ok _) 60) ce218_run
-- hostlerlaw19 said
noncomputable def ce222 : CE := ⟨17, [.ptr 29 0, .agg [.int .i64 (.ofNat 1), .str [102], .str [120], .str [], .int .i64 (.ofNat 0), .int .i64 (.ofNat 0), .int .i64 (.ofNat 0), .int .i64 (.ofNat 0), .slc 951 0 1 none 2], .int .i64 (.ofNat 4), .nils], ⟨hst331, 952⟩, [(.bool true, ⟨hst331, 978⟩)]⟩
theorem ce222_run : chkE callT ce222 = true := by kernel_rfl
theorem ce222_ok {a0 : Nat → Value} : CeOk a0 Tryz.prog ce222 := chkE_ok (ready.call S4_ok (mergeOf_ok _) 60) ce222_run
end Go.AX

