/- AgentTicks, calls. -/
import Derived.Test.YtfebdfceidnnmaaGreatDoorTicksTb
import Derived.Test.YtfebdfceidnnmaaGreatDoorTicksTs0
set_option autoImplicit false
set_option linter.unusedVariables false
set_option maxRecDepth 1000000
namespace Go.AX
open Go.Proofs
-- agent Agent) Tick
noncomputable def ce5 : CE := ⟨42, [.ptr 27 0, .int .i64 (.ofNat 0)], ⟨hst7, 235⟩, [(.tup [.nils, .int .i64 (.ofNat 0)], ⟨hst8, 280⟩)]⟩
theorem ce5_run : chkE callT ce5 = true := by kernel_rfl
theorem ce5_ok {a0 : Nat → Value} : CeOk a0 Tryz.prog ce5 := chkE_ok (ready.call S4_ok (mergeOf_ok _) 60) ce5_run
-- hostlerlaw19 said
noncomputable def ce6 : CE := ⟨17, [.ptr 27 0, .agg [.int .i64 (.ofNat 1), .str [102], .str [120], .str [], .int .i64 (.ofNat 0), .int .i64 (.ofNat 0), .int .i64 (.ofNat 0), .int .i64 (.ofNat 0), .slc 66 0 1 none 2], .int .i64 (.ofNat 0), .slc 68 0 1 (some 1) 0], ⟨hst9, 69⟩, [(.bool true, ⟨hst10, 241⟩)]⟩
theorem ce6_run : chkE callT ce6 = true := by kernel_rfl
theorem ce6_ok {a0 : Nat → Value} : CeOk a0 Tryz.prog ce6 := chkE_ok (ready.call S4_ok (mergeOf_ok _) 60) ce6_run
-- agent Agent) Tick
noncomputable def ce7 : CE := ⟨42, [.ptr 27 0, .int .i64 (.ofNat 0)], ⟨hst10, 241⟩, [(.tup [.nils, .int .i64 (.ofNat 0)], ⟨hst11, 286⟩)]⟩
theorem ce7_run : chkE callT ce7 = true := by kernel_rfl
theorem ce7_ok {a0 : Nat → Value} : CeOk a0 Tryz.prog ce7 := chkE_ok (ready.call S4_ok (mergeOf_ok _) 60) ce7_run
-- hostlerlaw19 said
noncomputable def ce8 : CE := ⟨17, [.ptr 27 0, .agg [.int .i64 (.ofNat 1), .str [102], .str [120], .str [], .int .i64 (.ofNat 0), .int .i64 (.ofNat 0), .int .i64 (.ofNat 0), .int .i64 (.ofNat 0), .slc 72 0 1 none 2], .int .i64 (.ofNat 0), .slc 74 0 1 (some 1) 0], ⟨hst12, 75⟩, [(.bool true, ⟨hst13, 247⟩)]⟩
theorem ce8_run : chkE callT ce8 = true := by kernel_rfl
theorem ce8_ok {a0 : Nat → Value} : CeOk a0 Tryz.prog ce8 := chkE_ok (ready.call S4_ok (mergeOf_ok _) 60) ce8_run
-- agent Agent) Tick
noncomputable def ce9 : CE := ⟨42, [.ptr 27 0, .int .i64 (.ofNat 0)], ⟨hst13, 247⟩, [(.tup [.nils, .int .i64 (.ofNat 0)], ⟨hst14, 292⟩)]⟩
theorem ce9_run : chkE callT ce9 = true := by kernel_rfl
theorem ce9_ok {a0 : Nat → Value} : CeOk a0 Tryz.prog ce9 := chkE_ok (ready.call S4_ok (mergeOf_ok _) 60) ce9_run
-- agent Agent) Tick
noncomputable def ce11 : CE := ⟨42, [.ptr 27 0, .int .i64 (.ofNat 0)], ⟨hst16, 253⟩, [(.tup [.nils, .int .i64 (.ofNat 0)], ⟨hst17, 298⟩)]⟩
theorem ce11_run : chkE callT ce11 = true := by kernel_rfl
theorem ce11_ok {a0 : Nat → Value} : CeOk a0 Tryz.prog ce11 := chkE_ok (ready.call S4_ok (mergeOf_ok _) 60) ce11_run
-- agent Agent) Tick
noncomputable def ce13 : CE := ⟨42, [.ptr 27 0, .int .i64 (.ofNat 0)], ⟨hst19, 259⟩, [(.tup [.nils, .int .i64 (.ofNat 0)], ⟨hst20, 304⟩)]⟩
theorem ce13_run : chkE callT ce13 = true := by kernel_rfl
theorem ce13_ok {a0 : Nat → Value} : CeOk a0 Tryz.prog ce13 := chkE_ok (ready.call S4_ok (mergeOf_ok _) 60) ce13_run
end Go.AX

