/- AgentBoxes, calls. -/
import Derived.Test.YtfebdfceidnnmaaGreatDoorBoxesTb
import Derived.Test.YtfebdfceidnnmaaGreatDoorBoxesTs1
set_option autoImplicit false
set_option linter.unusedVariables false
set_option maxRecDepth 1000000
namespace Go.AX
open Go.Proofs
-- hostlerlaw19 said
noncomputable def ce181 : CE := ⟨17, [.ptr 29 0, .agg [.int .i64 (.ofNat 4), .str [102], .str [], .str [97], .int .i64 (.ofNat 0), .int .i64 (.ofNat 0), .int .i64 (.ofNat 1), .int .i64 (.ofNat 1), .nils], .int .i64 (.ofNat 0), .nils], ⟨hst268, 532⟩, [(.bool true, ⟨hst269, 599⟩)]⟩
theorem ce181_run : chkE callT ce181 = true := by kernel_rfl
theorem ce181_ok {a0 : Nat → Value} : CeOk a0 Tryz.prog ce181 := chkE_ok (ready.call S4_ok (mergeOf_ok _) 60) ce181_run
-- agent Agent) Tick
noncomputable def ce182 : CE := ⟨42, [.ptr 29 0, .int .i64 (.ofNat 0)], ⟨hst270, 912⟩, [(.tup [.nils, .int .i64 (.ofNat 0)], ⟨hst271, 968⟩)]⟩
theorem ce182_run : chkE callT ce182 = true := by kernel_rfl
theorem ce182_ok {a0 : Nat → Value} : CeOk a0 Tryz.prog ce182 := chkE_ok (ready.call S4_ok (mergeOf_ok _) 60) ce182_run
-- hostlerlaw19 said
noncomputable def ce183 : CE := ⟨17, [.ptr 29 0, .agg [.int .i64 (.ofNat 1), .str [102], .str [120], .str [], .int .i64 (.ofNat 0), .int .i64 (.ofNat 0), .int .i64 (.ofNat 0), .int .i64 (.ofNat 0), .slc 984 0 1 none 2], .int .i64 (.ofNat 4), .nils], ⟨hst272, 985⟩, [(.bool true, ⟨hst272, 1011⟩)]⟩
theorem ce183_run : chkE callT ce183 = true := by kernel_rfl
theorem ce183_ok {a0 : Nat → Value} : CeOk a0 Tryz.prog ce183 := chkE_ok (ready.call S4_ok (mergeOf_ok _) 60) ce183_run
-- agent Agent) Tick
noncomputable def ce184 : CE := ⟨42, [.ptr 29 0, .int .i64 (.ofNat 0)], ⟨hst266, 428⟩, [(.tup [.nils, .int .i64 (.ofNat 0)], ⟨hst273, 473⟩)]⟩
theorem ce184_run : chkE callT ce184 = true := by kernel_rfl
theorem ce184_ok {a0 : Nat → Value} : CeOk a0 Tryz.prog ce184 := chkE_ok (ready.call S4_ok (mergeOf_ok _) 60) ce184_run
-- hostlerlaw19 said
noncomputable def ce185 : CE := ⟨17, [.ptr 29 0, .agg [.int .i64 (.ofNat 9), .str [102], .str [120], .str [], .int .i64 (.ofNat 1), .int .i64 (.ofNat 0), .int .i64 (.ofNat 0), .int .i64 (.ofNat 0), .nils], .int .i64 (.ofNat 0), .slc 478 0 1 (some 1) 0], ⟨hst274, 479⟩, [(.bool true, ⟨hst275, 576⟩)]⟩
theorem ce185_run : chkE callT ce185 = true := by kernel_rfl
theorem ce185_ok {a0 : Nat → Value} : CeOk a0 Tryz.prog ce185 := chkE_ok (ready.call S4_ok (mergeOf_ok _) 60) ce185_run
-- hostlerlaw19 said
noncomputable def ce186 : CE := ⟨17, [.ptr 29 0, .agg [.int .i64 (.ofNat 4), .str [102], .str [], .str [97], .int .i64 (.ofNat 0), .int .i64 (.ofNat 0), .int .i64 (.ofNat 1), .int .i64 (.ofNat 1), .nils], .int .i64 (.ofNat 0), .nils], ⟨hst275, 577⟩, [(.bool true, ⟨hst276, 644⟩)]⟩
theorem ce186_run : chkE callT ce186 = true := by kernel_rfl
theorem ce186_ok {a0 : Nat → Value} : CeOk a0 Tryz.prog ce186 := chkE_ok (ready.call S4_ok (mergeOf_ok _) 60) ce186_run
-- agent Agent) Tick
noncomputable def ce187 : CE := ⟨42, [.ptr 29 0, .int .i64 (.ofNat 0)], ⟨hst277, 957⟩, [(.tup [.nils, .int .i64 (.ofNat 0)], ⟨hst278, 1013⟩)]⟩
theorem ce187_run : chkE callT ce187 = true := by kernel_rfl
theorem ce187_ok {a0 : Nat → Value} : CeOk a0 Tryz.prog ce187 := chkE_ok (ready.call S4_ok (mergeOf_ok _) 60) ce187_run
-- hostlerlaw19 said
noncomputable def ce188 : CE := ⟨17, [.ptr 29 0, .agg [.int .i64 (.ofNat 1), .str [102], .str [120], .str [], .int .i64 (.ofNat 0), .int .i64 (.ofNat 0), .int .i64 (.ofNat 0), .int .i64 (.ofNat 0), .slc 1029 0 1 none 2], .int .i64 (.ofNat 4), .nils], ⟨hst279, 1030⟩, [(.bool true, ⟨hst279, 1056⟩)]⟩
theorem ce188_run : chkE callT ce188 = true := by kernel_rfl
theorem ce188_ok {a0 : Nat → Value} : CeOk a0 Tryz.prog ce188 := chkE_ok (ready.call S4_ok (mergeOf_ok _) 60) ce188_run
-- hostlerlaw19 up
noncomputable def ce189 : CE := ⟨15, [.agg [.cplx 4621819117588971520 4621819117588971520, .int .i64 (.ofNat 4), .int .i64 (.ofNat 3), .int .i64 (.ofNat 8), .int .i64 (.ofNat 2), .int .i64 (.ofNat 8), .int .i64 (.ofNat 4000)]], ⟨hst280, 2⟩, [(.tup [.ptr 29 0, .ptr 4 0, .bool true], ⟨hst281, 35⟩)]⟩
theorem ce189_run : chkE callT ce189 = true := by kernel_rfl
theorem ce189_ok {a0 : Nat → Value} : CeOk a0 Tryz.prog ce189 := chkE_ok (ready.call S4_ok (mergeOf_ok _) 60) ce189_run
-- hostlerlaw19 said
noncomputable def ce190 : CE := ⟨17, [.ptr 29 0, .agg [.int .i64 (.ofNat 1), .str [102], .str [120], .str [], .int .i64 (.ofNat 0), .int .i64 (.ofNat 0), .int .i64 (.ofNat 0), .int .i64 (.ofNat 0), .slc 39 0 1 none 2], .int .i64 (.ofNat 0), .slc 41 0 1 (some 1) 0], ⟨hst282, 42⟩, [(.bool true, ⟨hst283, 214⟩)]⟩
theorem ce190_run : chkE callT ce190 = true := by kernel_rfl
theorem ce190_ok {a0 : Nat → Value} : CeOk a0 Tryz.prog ce190 := chkE_ok (ready.call S4_ok (mergeOf_ok _) 60) ce190_run
-- hostlerlaw19 said
noncomputable def ce191 : CE := ⟨17, [.ptr 29 0, .agg [.int .i64 (.ofNat 7), .str [102], .str [120], .str [], .int .i64 (.ofNat 1), .int .i64 (.ofNat 0), .int .i64 (.ofNat 0), .int .i64 (.ofNat 0), .nils], .int .i64 (.ofNat 0), .slc 219 0 1 (some 1) 0], ⟨hst284, 220⟩, [(.bool true, ⟨hst285, 293⟩)]⟩
theorem ce191_run : chkE callT ce191 = true := by kernel_rfl
theorem ce191_ok {a0 : Nat → Value} : CeOk a0 Tryz.prog ce191 := chkE_ok (ready.call S4_ok (mergeOf_ok _) 60) ce191_run
-- hostlerlaw19 said
noncomputable def ce192 : CE := ⟨17, [.ptr 29 0, .agg [.int .i64 (.ofNat 9), .str [102], .str [120], .str [], .int .i64 (.ofNat 1), .int .i64 (.ofNat 0), .int .i64 (.ofNat 0), .int .i64 (.ofNat 0), .nils], .int .i64 (.ofNat 0), .slc 298 0 1 (some 1) 0], ⟨hst286, 299⟩, [(.bool true, ⟨hst287, 396⟩)]⟩
theorem ce192_run : chkE callT ce192 = true := by kernel_rfl
theorem ce192_ok {a0 : Nat → Value} : CeOk a0 Tryz.prog ce192 := chkE_ok (ready.call S4_ok (mergeOf_ok _) 60) ce192_run
-- hostlerlaw19 said
noncomputable def ce193 : CE := ⟨17, [.ptr 29 0, .agg [.int .i64 (.ofNat 4), .str [102], .str [], .str [97], .int .i64 (.ofNat 0), .int .i64 (.ofNat 0), .int .i64 (.ofNat 1), .int .i64 (.ofNat 1), .nils], .int .i64 (.ofNat 0), .nils], ⟨hst287, 397⟩, [(.bool true, ⟨hst288, 464⟩)]⟩
theorem ce193_run : chkE callT ce193 = true := by kernel_rfl
theorem ce193_ok {a0 : Nat → Value} : CeOk a0 Tryz.prog ce193 := chkE_ok (ready.call S4_ok (mergeOf_ok _) 60) ce193_run
-- agent Agent) Tick
noncomputable def ce194 : CE := ⟨42, [.ptr 29 0, .int .i64 (.ofNat 0)], ⟨hst289, 828⟩, [(.tup [.nils, .int .i64 (.ofNat 0)], ⟨hst290, 884⟩)]⟩
theorem ce194_run : chkE callT ce194 = true := by kernel_rfl
theorem ce194_ok {a0 : Nat → Value} : CeOk a0 Tryz.prog ce194 := chkE_ok (ready.call S4_ok (mergeOf_ok _) 60) ce194_run
-- hostlerlaw19 said
noncomputable def ce195 : CE := ⟨17, [.ptr 29 0, .agg [.int .i64 (.ofNat 1), .str [102], .str [120], .str [], .int .i64 (.ofNat 0), .int .i64 (.ofNat 0), .int .i64 (.ofNat 0), .int .i64 (.ofNat 0), .slc 900 0 1 none 2], .int .i64 (.ofNat 4), .nils], ⟨hst291, 901⟩, [(.bool true, ⟨hst291, 927⟩)]⟩
theorem ce195_run : chkE callT ce195 = true := by kernel_rfl
theorem ce195_ok {a0 : Nat → Value} : CeOk a0 Tryz.prog ce195 := chkE_ok (ready.call S4_ok (mergeOf_ok _) 60) ce195_run
-- agent Agent) Tick
noncomputable def ce196 : CE := ⟨42, [.ptr 29 0, .int .i64 (.ofNat 0)], ⟨hst285, 293⟩, [(.tup [.nils, .int .i64 (.ofNat 0)], ⟨hst292, 338⟩)]⟩
theorem ce196_run : chkE callT ce196 = true := by kernel_rfl
theorem ce196_ok {a0 : Nat → Value} : CeOk a0 Tryz.prog ce196 := chkE_ok (ready.call S4_ok (mergeOf_ok _) 60) ce196_run
-- hostlerlaw19 said
noncomputable def ce197 : CE := ⟨17, [.ptr 29 0, .agg [.int .i64 (.ofNat 9), .str [102], .str [120], .str [], .int .i64 (.ofNat 1), .int .i64 (.ofNat 0), .int .i64 (.ofNat 0), .int .i64 (.ofNat 0), .nils], .int .i64 (.ofNat 0), .slc 343 0 1 (some 1) 0], ⟨hst293, 344⟩, [(.bool true, ⟨hst294, 441⟩)]⟩
theorem ce197_run : chkE callT ce197 = true := by kernel_rfl
theorem ce197_ok {a0 : Nat → Value} : CeOk a0 Tryz.prog ce197 := chkE_ok (ready.call S4_ok (mergeOf_ok _) 60) ce197_run
-- hostlerlaw19 said
noncomputable def ce198 : CE := ⟨17, [.ptr 29 0, .agg [.int .i64 (.ofNat 4), .str [102], .str [], .str [97], .int .i64 (.ofNat 0), .int .i64 (.ofNat 0), .int .i64 (.ofNat 1), .int .i64 (.ofNat 1), .nils], .int .i64 (.ofNat 0), .nils], ⟨hst294, 442⟩, [(.bool true, ⟨hst295, 509⟩)]⟩
theorem ce198_run : chkE callT ce198 = true := by kernel_rfl
theorem ce198_ok {a0 : Nat → Value} : CeOk a0 Tryz.prog ce198 := chkE_ok (ready.call S4_ok (mergeOf_ok _) 60) ce198_run
end Go.AX

