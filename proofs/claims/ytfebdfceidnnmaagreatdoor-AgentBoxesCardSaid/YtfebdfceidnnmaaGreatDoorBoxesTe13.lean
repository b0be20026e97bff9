/- AgentBoxes, calls. -/
import Derived.Test.YtfebdfceidnnmaaGreatDoorBoxesTb
import Derived.Test.YtfebdfceidnnmaaGreatDoorBoxesTs1
set_option autoImplicit false
set_option linter.unusedVariables false
set_option maxRecDepth 1000000
namespace Go.AX
open Go.Proofs
-- hostlerlaw19 said
noncomputable def ce235 : CE := ⟨17, [.ptr 29 0, .agg [.int .i64 (.ofNat 4), .str [102], .str [], .str [97], .int .i64 (.ofNat 0), .int .i64 (.ofNat 0), .int .i64 (.ofNat 1), .int .i64 (.ofNat 1), .nils], .int .i64 (.ofNat 0), .nils], ⟨hst348, 532⟩, [(.bool true, ⟨hst349, 599⟩)]⟩
theorem ce235_run : chkE callT ce235 = true := by kernel_rfl
theorem ce235_ok {a0 : Nat → Value} : CeOk a0 Tryz.prog ce235 := chkE_ok (ready.call S4_ok (mergeOf_ok _) 60) ce235_run
-- agent Agent) Tick
noncomputable def ce236 : CE := ⟨42, [.ptr 29 0, .int .i64 (.ofNat 0)], ⟨hst350, 1014⟩, [(.tup [.nils, .int .i64 (.ofNat 0)], ⟨hst351, 1070⟩)]⟩
theorem ce236_run : chkE callT ce236 = true := by kernel_rfl
theorem ce236_ok {a0 : Nat → Value} : CeOk a0 Tryz.prog ce236 := chkE_ok (ready.call S4_ok (mergeOf_ok _) 60) ce236_run
-- agent Agent) Tick
noncomputable def ce238 : CE := ⟨42, [.ptr 29 0, .int .i64 (.ofNat 0)], ⟨hst346, 428⟩, [(.tup [.nils, .int .i64 (.ofNat 0)], ⟨hst353, 473⟩)]⟩
theorem ce238_run : chkE callT ce238 = true := by kernel_rfl
theorem ce238_ok {a0 : Nat → Value} : CeOk a0 Tryz.prog ce238 := chkE_ok (ready.call S4_ok (mergeOf_ok _) 60) ce238_run
-- hostlerlaw19 said
noncomputable def ce239 : CE := ⟨17, [.ptr 29 0, .agg [.int .i64 (.ofNat 9), .str [102], .str [120], .str [], .int .i64 (.ofNat 1), .int .i64 (.ofNat 0), .int .i64 (.ofNat 0), .int .i64 (.ofNat 0), .nils], .int .i64 (.ofNat 0), .slc 478 0 1 (some 1) 0], ⟨hst354, 479⟩, [(.bool true, ⟨hst355, 576⟩)]⟩
theorem ce239_run : chkE callT ce239 = true := by kernel_rfl
theorem ce239_ok {a0 : Nat → Value} : CeOk a0 Tryz.prog ce239 := chkE_ok (ready.call S4_ok (mergeOf_ok _) 60) ce239_run
-- hostlerlaw19 said
noncomputable def ce240 : CE := ⟨17, [.ptr 29 0, .agg [.int .i64 (.ofNat 4), .str [102], .str [], .str [97], .int .i64 (.ofNat 0), .int .i64 (.ofNat 0), .int .i64 (.ofNat 1), .int .i64 (.ofNat 1), .nils], .int .i64 (.ofNat 0), .nils], ⟨hst355, 577⟩, [(.bool true, ⟨hst356, 644⟩)]⟩
theorem ce240_run : chkE callT ce240 = true := by kernel_rfl
theorem ce240_ok {a0 : Nat → Value} : CeOk a0 Tryz.prog ce240 := chkE_ok (ready.call S4_ok (mergeOf_ok _) 60) ce240_run
-- agent Agent) Tick
noncomputable def ce241 : CE := ⟨42, [.ptr 29 0, .int .i64 (.ofNat 0)], ⟨hst357, 1059⟩, [(.tup [.nils, .int .i64 (.ofNat 0)], ⟨hst358, 1115⟩)]⟩
theorem ce241_run : chkE callT ce241 = true := by kernel_rfl
theorem ce241_ok {a0 : Nat → Value} : CeOk a0 Tryz.prog ce241 := chkE_ok (ready.call S4_ok (mergeOf_ok _) 60) ce241_run
-- hostlerlaw19 said
noncomputable def ce242 : CE := ⟨17, [.ptr 29 0, .agg [.int .i64 (.ofNat 1), .str [102], .str [120], .str [], .int .i64 (.ofNat 0), .int .i64 (.ofNat 0), .int .i64 (.ofNat 0), .int .i64 (.ofNat 0), .slc 1131 0 1 none 2], .int .i64 (.ofNat 4), .nils], ⟨hst359, 1132⟩, [(.bool true, ⟨hst359, 1158⟩)]⟩
theorem ce242_run : chkE callT ce242 = true := by kernel_rfl
theorem ce242_ok {a0 : Nat → Value} : CeOk a0 Tryz.prog ce242 := chkE_ok (ready.call S4_ok (mergeOf_ok _) 60) ce242_run
end Go.AX

