/- AgentTicks, calls. -/
import Derived.Test.YtfebdfceidnnmaaGreatDoorTicksTb
import Derived.Test.YtfebdfceidnnmaaGreatDoorTicksTs0
set_option autoImplicit false
set_option linter.unusedVariables false
set_option maxRecDepth 1000000
namespace Go.AX
open Go.Proofs
-- agent Agent) Tick
noncomputable def ce27 : CE := ⟨42, [.ptr 27 0, .int .i64 (.ofNat 0)], ⟨hst40, 301⟩, [(.tup [.nils, .int .i64 (.ofNat 0)], ⟨hst41, 346⟩)]⟩
theorem ce27_run : chkE callT ce27 = true := by kernel_rfl
theorem ce27_ok {a0 : Nat → Value} : CeOk a0 Tryz.prog ce27 := chkE_ok (ready.call S4_ok (mergeOf_ok _) 60) ce27_run
-- hostlerlaw19 said
noncomputable def ce28 : CE := ⟨17, [.ptr 27 0, .agg [.int .i64 (.ofNat 1), .str [102], .str [120], .str [], .int .i64 (.ofNat 0), .int .i64 (.ofNat 0), .int .i64 (.ofNat 0), .int .i64 (.ofNat 0), .slc 132 0 1 none 2], .int .i64 (.ofNat 0), .slc 134 0 1 (some 1) 0], ⟨hst42, 135⟩, [(.bool true, ⟨hst43, 307⟩)]⟩
theorem ce28_run : chkE callT ce28 = true := by kernel_rfl
theorem ce28_ok {a0 : Nat → Value} : CeOk a0 Tryz.prog ce28 := chkE_ok (ready.call S4_ok (mergeOf_ok _) 60) ce28_run
-- agent Agent) Tick
noncomputable def ce29 : CE := ⟨42, [.ptr 27 0, .int .i64 (.ofNat 0)], ⟨hst43, 307⟩, [(.tup [.nils, .int .i64 (.ofNat 0)], ⟨hst44, 352⟩)]⟩
theorem ce29_run : chkE callT ce29 = true := by kernel_rfl
theorem ce29_ok {a0 : Nat → Value} : CeOk a0 Tryz.prog ce29 := chkE_ok (ready.call S4_ok (mergeOf_ok _) 60) ce29_run
-- hostlerlaw19 said
noncomputable def ce30 : CE := ⟨17, [.ptr 27 0, .agg [.int .i64 (.ofNat 1), .str [102], .str [120], .str [], .int .i64 (.ofNat 0), .int .i64 (.ofNat 0), .int .i64 (.ofNat 0), .int .i64 (.ofNat 0), .slc 138 0 1 none 2], .int .i64 (.ofNat 0), .slc 140 0 1 (some 1) 0], ⟨hst45, 141⟩, [(.bool true, ⟨hst46, 313⟩)]⟩
theorem ce30_run : chkE callT ce30 = true := by kernel_rfl
theorem ce30_ok {a0 : Nat → Value} : CeOk a0 Tryz.prog ce30 := chkE_ok (ready.call S4_ok (mergeOf_ok _) 60) ce30_run
-- agent Agent) Tick
noncomputable def ce31 : CE := ⟨42, [.ptr 27 0, .int .i64 (.ofNat 0)], ⟨hst46, 313⟩, [(.tup [.nils, .int .i64 (.ofNat 0)], ⟨hst47, 358⟩)]⟩
theorem ce31_run : chkE callT ce31 = true := by kernel_rfl
theorem ce31_ok {a0 : Nat → Value} : CeOk a0 Tryz.prog ce31 := chkE_ok (ready.call S4_ok (mergeOf_ok _) 60) ce31_run
-- agent Agent) Tick
noncomputable def ce33 : CE := ⟨42, [.ptr 27 0, .int .i64 (.ofNat 0)], ⟨hst49, 319⟩, [(.tup [.nils, .int .i64 (.ofNat 0)], ⟨hst50, 364⟩)]⟩
theorem ce33_run : chkE callT ce33 = true := by kernel_rfl
theorem ce33_ok {a0 : Nat → Value} : CeOk a0 Tryz.prog ce33 := chkE_ok (ready.call S4_ok (mergeOf_ok _) 60) ce33_run
-- agent Agent) Tick
noncomputable def ce35 : CE := ⟨42, [.ptr 27 0, .int .i64 (.ofNat 0)], ⟨hst52, 325⟩, [(.tup [.nils, .int .i64 (.ofNat 0)], ⟨hst53, 370⟩)]⟩
theorem ce35_run : chkE callT ce35 = true := by kernel_rfl
theorem ce35_ok {a0 : Nat → Value} : CeOk a0 Tryz.prog ce35 := chkE_ok (ready.call S4_ok (mergeOf_ok _) 60) ce35_run
end Go.AX

