/- AgentBoxes, calls. -/
import Derived.Test.YtfebdfceidnnmaaGreatDoorBoxesTb
import Derived.Test.YtfebdfceidnnmaaGreatDoorBoxesTs1
set_option autoImplicit false
set_option linter.unusedVariables false
set_option maxRecDepth 1000000
namespace Go.AX
open Go.Proofs
-- hostlerlaw19 said
noncomputable def ce109 : CE := ⟨17, [.ptr 29 0, .agg [.int .i64 (.ofNat 1), .str [102], .str [120], .str [], .int .i64 (.ofNat 0), .int .i64 (.ofNat 0), .int .i64 (.ofNat 0), .int .i64 (.ofNat 0), .slc 39 0 1 none 2], .int .i64 (.ofNat 0), .slc 41 0 1 (some 1) 0], ⟨hst162, 42⟩, [(.bool true, ⟨hst163, 214⟩)]⟩
theorem ce109_run : chkE callT ce109 = true := by kernel_rfl
theorem ce109_ok {a0 : Nat → Value} : CeOk a0 Tryz.prog ce109 := chkE_ok (ready.call S4_ok (mergeOf_ok _) 60) ce109_run
-- hostlerlaw19 said
noncomputable def ce110 : CE := ⟨17, [.ptr 29 0, .agg [.int .i64 (.ofNat 7), .str [102], .str [120], .str [], .int .i64 (.ofNat 1), .int .i64 (.ofNat 0), .int .i64 (.ofNat 0), .int .i64 (.ofNat 0), .nils], .int .i64 (.ofNat 0), .slc 219 0 1 (some 1) 0], ⟨hst164, 220⟩, [(.bool true, ⟨hst165, 293⟩)]⟩
theorem ce110_run : chkE callT ce110 = true := by kernel_rfl
theorem ce110_ok {a0 : Nat → Value} : CeOk a0 Tryz.prog ce110 := chkE_ok (ready.call S4_ok (mergeOf_ok _) 60) ce110_run
-- hostlerlaw19 said
noncomputable def ce111 : CE := ⟨17, [.ptr 29 0, .agg [.int .i64 (.ofNat 9), .str [102], .str [120], .str [], .int .i64 (.ofNat 1), .int .i64 (.ofNat 0), .int .i64 (.ofNat 0), .int .i64 (.ofNat 0), .nils], .int .i64 (.ofNat 0), .slc 298 0 1 (some 1) 0], ⟨hst166, 299⟩, [(.bool true, ⟨hst167, 396⟩)]⟩
theorem ce111_run : chkE callT ce111 = true := by kernel_rfl
theorem ce111_ok {a0 : Nat → Value} : CeOk a0 Tryz.prog ce111 := chkE_ok (ready.call S4_ok (mergeOf_ok _) 60) ce111_run
-- hostlerlaw19 said
noncomputable def ce112 : CE := ⟨17, [.ptr 29 0, .agg [.int .i64 (.ofNat 4), .str [102], .str [], .str [97], .int .i64 (.ofNat 0), .int .i64 (.ofNat 0), .int .i64 (.ofNat 1), .int .i64 (.ofNat 1), .nils], .int .i64 (.ofNat 0), .nils], ⟨hst167, 397⟩, [(.bool true, ⟨hst168, 464⟩)]⟩
theorem ce112_run : chkE callT ce112 = true := by kernel_rfl
theorem ce112_ok {a0 : Nat → Value} : CeOk a0 Tryz.prog ce112 := chkE_ok (ready.call S4_ok (mergeOf_ok _) 60) ce112_run
-- agent Agent) Tick
noncomputable def ce113 : CE := ⟨42, [.ptr 29 0, .int .i64 (.ofNat 0)], ⟨hst169, 675⟩, [(.tup [.nils, .int .i64 (.ofNat 0)], ⟨hst170, 731⟩)]⟩
theorem ce113_run : chkE callT ce113 = true := by kernel_rfl
theorem ce113_ok {a0 : Nat → Value} : CeOk a0 Tryz.prog ce113 := chkE_ok (ready.call S4_ok (mergeOf_ok _) 60) ce113_run
-- agent Agent) Tick
noncomputable def ce115 : CE := ⟨42, [.ptr 29 0, .int .i64 (.ofNat 0)], ⟨hst165, 293⟩, [(.tup [.nils, .int .i64 (.ofNat 0)], ⟨hst172, 338⟩)]⟩
theorem ce115_run : chkE callT ce115 = true := by kernel_rfl
theorem ce115_ok {a0 : Nat → Value} : CeOk a0 Tryz.prog ce115 := chkE_ok (ready.call S4_ok (mergeOf_ok _) 60) ce115_run
-- hostlerlaw19 said
noncomputable def ce116 : CE := ⟨17, [.ptr 29 0, .agg [.int .i64 (.ofNat 9), .str [102], .str [120], .str [], .int .i64 (.ofNat 1), .int .i64 (.ofNat 0), .int .i64 (.ofNat 0), .int .i64 (.ofNat 0), .nils], .int .i64 (.ofNat 0), .slc 343 0 1 (some 1) 0], ⟨hst173, 344⟩, [(.bool true, ⟨hst174, 441⟩)]⟩
theorem ce116_run : chkE callT ce116 = true := by kernel_rfl
theorem ce116_ok {a0 : Nat → Value} : CeOk a0 Tryz.prog ce116 := chkE_ok (ready.call S4_ok (mergeOf_ok _) 60) ce116_run
-- hostlerlaw19 said
noncomputable def ce117 : CE := ⟨17, [.ptr 29 0, .agg [.int .i64 (.ofNat 4), .str [102], .str [], .str [97], .int .i64 (.ofNat 0), .int .i64 (.ofNat 0), .int .i64 (.ofNat 1), .int .i64 (.ofNat 1), .nils], .int .i64 (.ofNat 0), .nils], ⟨hst174, 442⟩, [(.bool true, ⟨hst175, 509⟩)]⟩
theorem ce117_run : chkE callT ce117 = true := by kernel_rfl
theorem ce117_ok {a0 : Nat → Value} : CeOk a0 Tryz.prog ce117 := chkE_ok (ready.call S4_ok (mergeOf_ok _) 60) ce117_run
-- agent Agent) Tick
noncomputable def ce118 : CE := ⟨42, [.ptr 29 0, .int .i64 (.ofNat 0)], ⟨hst176, 720⟩, [(.tup [.nils, .int .i64 (.ofNat 0)], ⟨hst177, 776⟩)]⟩
theorem ce118_run : chkE callT ce118 = true := by kernel_rfl
theorem ce118_ok {a0 : Nat → Value} : CeOk a0 Tryz.prog ce118 := chkE_ok (ready.call S4_ok (mergeOf_ok _) 60) ce118_run
-- hostlerlaw19 said
noncomputable def ce119 : CE := ⟨17, [.ptr 29 0, .agg [.int .i64 (.ofNat 1), .str [102], .str [120], .str [], .int .i64 (.ofNat 0), .int .i64 (.ofNat 0), .int .i64 (.ofNat 0), .int .i64 (.ofNat 0), .slc 792 0 1 none 2], .int .i64 (.ofNat 4), .nils], ⟨hst178, 793⟩, [(.bool true, ⟨hst178, 819⟩)]⟩
theorem ce119_run : chkE callT ce119 = true := by kernel_rfl
theorem ce119_ok {a0 : Nat → Value} : CeOk a0 Tryz.prog ce119 := chkE_ok (ready.call S4_ok (mergeOf_ok _) 60) ce119_run
-- agent Agent) Tick
noncomputable def ce120 : CE := ⟨42, [.ptr 29 0, .int .i64 (.ofNat 0)], ⟨hst172, 338⟩, [(.tup [.nils, .int .i64 (.ofNat 0)], ⟨hst179, 383⟩)]⟩
theorem ce120_run : chkE callT ce120 = true := by kernel_rfl
theorem ce120_ok {a0 : Nat → Value} : CeOk a0 Tryz.prog ce120 := chkE_ok (ready.call S4_ok (mergeOf_ok _) 60) ce120_run
-- hostlerlaw19 said
noncomputable def ce121 : CE := ⟨17, [.ptr 29 0, .agg [.int .i64 (.ofNat 9), .str [102], .str [120], .str [], .int .i64 (.ofNat 1), .int .i64 (.ofNat 0), .int .i64 (.ofNat 0), .int .i64 (.ofNat 0), .nils], .int .i64 (.ofNat 0), .slc 388 0 1 (some 1) 0], ⟨hst180, 389⟩, [(.bool true, ⟨hst181, 486⟩)]⟩
theorem ce121_run : chkE callT ce121 = true := by kernel_rfl
theorem ce121_ok {a0 : Nat → Value} : CeOk a0 Tryz.prog ce121 := chkE_ok (ready.call S4_ok (mergeOf_ok _) 60) ce121_run
-- hostlerlaw19 said
noncomputable def ce122 : CE := ⟨17, [.ptr 29 0, .agg [.int .i64 (.ofNat 4), .str [102], .str [], .str [97], .int .i64 (.ofNat 0), .int .i64 (.ofNat 0), .int .i64 (.ofNat 1), .int .i64 (.ofNat 1), .nils], .int .i64 (.ofNat 0), .nils], ⟨hst181, 487⟩, [(.bool true, ⟨hst182, 554⟩)]⟩
theorem ce122_run : chkE callT ce122 = true := by kernel_rfl
theorem ce122_ok {a0 : Nat → Value} : CeOk a0 Tryz.prog ce122 := chkE_ok (ready.call S4_ok (mergeOf_ok _) 60) ce122_run
-- agent Agent) Tick
noncomputable def ce123 : CE := ⟨42, [.ptr 29 0, .int .i64 (.ofNat 0)], ⟨hst183, 765⟩, [(.tup [.nils, .int .i64 (.ofNat 0)], ⟨hst184, 821⟩)]⟩
theorem ce123_run : chkE callT ce123 = true := by kernel_rfl
theorem ce123_ok {a0 : Nat → Value} : CeOk a0 Tryz.prog ce123 := chkE_ok (ready.call S4_ok (mergeOf_ok _) 60) ce123_run
-- hostlerlaw19 said
noncomputable def ce124 : CE := ⟨17, [.ptr 29 0, .agg [.int .i64 (.ofNat 1), .str [102], .str [120], .str [], .int .i64 (.ofNat 0), .int .i64 (.ofNat 0), .int .i64 (.ofNat 0), .int .i64 (.ofNat 0), .slc 837 0 1 none 2], .int .i64 (.ofNat 4), .nils], ⟨hst185, 838⟩, [(.bool true, ⟨hst185, 864⟩)]⟩
theorem ce124_run : chkE callT ce124 = true := by kernel_rfl
theorem ce124_ok {a0 : Nat → Value} : CeOk a0 Tryz.prog ce124 := chkE_ok (ready.call S4_ok (mergeOf_ok _) 60) ce124_run
-- agent Agent) Tick
noncomputable def ce125 : CE := ⟨42, [.ptr 29 0, .int .i64 (.ofNat 0)], ⟨hst179, 383⟩, [(.tup [.nils, .int .i64 (.ofNat 0)], ⟨hst186, 428⟩)]⟩
theorem ce125_run : chkE callT ce125 = true := by kernel_rfl
theorem ce125_ok {a0 : Nat → Value} : CeOk a0 Tryz.prog ce125 := chkE_ok (ready.call S4_ok (mergeOf_ok _) 60) ce125_run
-- hostlerlaw19 said
noncomputable def ce127 : CE := ⟨17, [.ptr 29 0, .agg [.int .i64 (.ofNat 4), .str [102], .str [], .str [97], .int .i64 (.ofNat 0), .int .i64 (.ofNat 0), .int .i64 (.ofNat 1), .int .i64 (.ofNat 1), .nils], .int .i64 (.ofNat 0), .nils], ⟨hst188, 532⟩, [(.bool true, ⟨hst189, 599⟩)]⟩
theorem ce127_run : chkE callT ce127 = true := by kernel_rfl
theorem ce127_ok {a0 : Nat → Value} : CeOk a0 Tryz.prog ce127 := chkE_ok (ready.call S4_ok (mergeOf_ok _) 60) ce127_run
-- hostlerlaw19 up
noncomputable def ce135 : CE := ⟨15, [.agg [.cplx 4621819117588971520 4621819117588971520, .int .i64 (.ofNat 4), .int .i64 (.ofNat 3), .int .i64 (.ofNat 6), .int .i64 (.ofNat 2), .int .i64 (.ofNat 8), .int .i64 (.ofNat 4000)]], ⟨hst200, 2⟩, [(.tup [.ptr 29 0, .ptr 4 0, .bool true], ⟨hst201, 35⟩)]⟩
theorem ce135_run : chkE callT ce135 = true := by kernel_rfl
theorem ce135_ok {a0 : Nat → Value} : CeOk a0 Tryz.prog ce135 := chkE_ok (ready.call S4_ok (mergeOf_ok _) 60) ce135_run
end Go.AX

