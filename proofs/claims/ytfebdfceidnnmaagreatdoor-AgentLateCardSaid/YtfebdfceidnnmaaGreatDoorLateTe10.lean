/- AgentLate, calls. -/
import Derived.Test.YtfebdfceidnnmaaGreatDoorLateTb
import Derived.Test.YtfebdfceidnnmaaGreatDoorLateTs0
set_option autoImplicit false
set_option linter.unusedVariables false
set_option maxRecDepth 1000000
namespace Go.AX
open Go.Proofs
-- hostlerlaw19 said
noncomputable def ce78 : CE := ⟨17, [.ptr 29 0, .agg [.int .i64 (.ofNat 1), .str [102], .str [120], .str [], .int .i64 (.ofNat 0), .int .i64 (.ofNat 0), .int .i64 (.ofNat 0), .int .i64 (.ofNat 0), .slc 39 0 1 none 2], .int .i64 (.ofNat 0), .slc 41 0 1 (some 1) 0], ⟨hst93, 42⟩, [(.bool true, ⟨hst94, 214⟩)]⟩
theorem ce78_run : chkE callT ce78 = true := by kernel_rfl
theorem ce78_ok {a0 : Nat → Value} : CeOk a0 Tryz.prog ce78 := chkE_ok (ready.call S4_ok (mergeOf_ok _) 60) ce78_run
-- agent Agent) Tick
noncomputable def ce79 : CE := ⟨42, [.ptr 29 0, .int .i64 (.ofNat 0)], ⟨hst94, 214⟩, [(.tup [.nils, .int .i64 (.ofNat 0)], ⟨hst95, 259⟩)]⟩
theorem ce79_run : chkE callT ce79 = true := by kernel_rfl
theorem ce79_ok {a0 : Nat → Value} : CeOk a0 Tryz.prog ce79 := chkE_ok (ready.call S4_ok (mergeOf_ok _) 60) ce79_run
-- agent Agent) Tick
noncomputable def ce80 : CE := ⟨42, [.ptr 29 0, .int .i64 (.ofNat 0)], ⟨hst95, 259⟩, [(.tup [.nils, .int .i64 (.ofNat 0)], ⟨hst96, 304⟩)]⟩
theorem ce80_run : chkE callT ce80 = true := by kernel_rfl
theorem ce80_ok {a0 : Nat → Value} : CeOk a0 Tryz.prog ce80 := chkE_ok (ready.call S4_ok (mergeOf_ok _) 60) ce80_run
-- agent Agent) Tick
noncomputable def ce81 : CE := ⟨42, [.ptr 29 0, .int .i64 (.ofNat 0)], ⟨hst96, 304⟩, [(.tup [.nils, .int .i64 (.ofNat 0)], ⟨hst97, 349⟩)]⟩
theorem ce81_run : chkE callT ce81 = true := by kernel_rfl
theorem ce81_ok {a0 : Nat → Value} : CeOk a0 Tryz.prog ce81 := chkE_ok (ready.call S4_ok (mergeOf_ok _) 60) ce81_run
-- agent Agent) Tick
noncomputable def ce82 : CE := ⟨42, [.ptr 29 0, .int .i64 (.ofNat 0)], ⟨hst97, 349⟩, [(.tup [.nils, .int .i64 (.ofNat 0)], ⟨hst98, 394⟩)]⟩
theorem ce82_run : chkE callT ce82 = true := by kernel_rfl
theorem ce82_ok {a0 : Nat → Value} : CeOk a0 Tryz.prog ce82 := chkE_ok (ready.call S4_ok (mergeOf_ok _) 60) ce82_run
-- agent Agent) Tick
noncomputable def ce83 : CE := ⟨42, [.ptr 29 0, .int .i64 (.ofNat 0)], ⟨hst98, 394⟩, [(.tup [.nils, .int .i64 (.ofNat 0)], ⟨hst99, 439⟩)]⟩
theorem ce83_run : chkE callT ce83 = true := by kernel_rfl
theorem ce83_ok {a0 : Nat → Value} : CeOk a0 Tryz.prog ce83 := chkE_ok (ready.call S4_ok (mergeOf_ok _) 60) ce83_run
-- agent Agent) Tick
noncomputable def ce84 : CE := ⟨42, [.ptr 29 0, .int .i64 (.ofNat 0)], ⟨hst99, 439⟩, [(.tup [.nils, .int .i64 (.ofNat 0)], ⟨hst100, 484⟩)]⟩
theorem ce84_run : chkE callT ce84 = true := by kernel_rfl
theorem ce84_ok {a0 : Nat → Value} : CeOk a0 Tryz.prog ce84 := chkE_ok (ready.call S4_ok (mergeOf_ok _) 60) ce84_run
-- agent Agent) Tick
noncomputable def ce85 : CE := ⟨42, [.ptr 29 0, .int .i64 (.ofNat 0)], ⟨hst100, 484⟩, [(.tup [.nils, .int .i64 (.ofNat 0)], ⟨hst101, 529⟩)]⟩
theorem ce85_run : chkE callT ce85 = true := by kernel_rfl
theorem ce85_ok {a0 : Nat → Value} : CeOk a0 Tryz.prog ce85 := chkE_ok (ready.call S4_ok (mergeOf_ok _) 60) ce85_run
-- hostlerlaw19 said
noncomputable def ce87 : CE := ⟨17, [.ptr 29 0, .agg [.int .i64 (.ofNat 7), .str [102], .str [120], .str [], .int .i64 (.ofNat 1), .int .i64 (.ofNat 0), .int .i64 (.ofNat 0), .int .i64 (.ofNat 0), .nils], .int .i64 (.ofNat 3), .nils], ⟨hst103, 649⟩, [(.bool true, ⟨hst103, 655⟩)]⟩
theorem ce87_run : chkE callT ce87 = true := by kernel_rfl
theorem ce87_ok {a0 : Nat → Value} : CeOk a0 Tryz.prog ce87 := chkE_ok (ready.call S4_ok (mergeOf_ok _) 60) ce87_run
-- hostlerlaw19 said
noncomputable def ce88 : CE := ⟨17, [.ptr 29 0, .agg [.int .i64 (.ofNat 9), .str [102], .str [120], .str [], .int .i64 (.ofNat 1), .int .i64 (.ofNat 0), .int .i64 (.ofNat 0), .int .i64 (.ofNat 0), .nils], .int .i64 (.ofNat 3), .nils], ⟨hst103, 656⟩, [(.bool true, ⟨hst103, 662⟩)]⟩
theorem ce88_run : chkE callT ce88 = true := by kernel_rfl
theorem ce88_ok {a0 : Nat → Value} : CeOk a0 Tryz.prog ce88 := chkE_ok (ready.call S4_ok (mergeOf_ok _) 60) ce88_run
end Go.AX

