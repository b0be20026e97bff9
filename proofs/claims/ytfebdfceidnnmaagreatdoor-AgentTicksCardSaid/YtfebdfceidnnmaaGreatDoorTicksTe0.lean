/- AgentTicks, calls. -/
import Derived.Test.YtfebdfceidnnmaaGreatDoorTicksTb
import Derived.Test.YtfebdfceidnnmaaGreatDoorTicksTs0
set_option autoImplicit false
set_option linter.unusedVariables false
set_option maxRecDepth 1000000
namespace Go.AX
open Go.Proofs
-- hostlerlaw19 said
noncomputable def ce0 : CE := ⟨17, [.ptr 27 0, .agg [.int .i64 (.ofNat 1), .str [102], .str [120], .str [], .int .i64 (.ofNat 0), .int .i64 (.ofNat 0), .int .i64 (.ofNat 0), .int .i64 (.ofNat 0), .slc 48 0 1 none 2], .int .i64 (.ofNat 0), .slc 50 0 1 (some 1) 0], ⟨hst0, 51⟩, [(.bool true, ⟨hst1, 223⟩)]⟩
theorem ce0_run : chkE callT ce0 = true := by kernel_rfl
theorem ce0_ok {a0 : Nat → Value} : CeOk a0 Tryz.prog ce0 := chkE_ok (ready.call S4_ok (mergeOf_ok _) 60) ce0_run
-- agent Agent) Tick
noncomputable def ce1 : CE := ⟨42, [.ptr 27 0, .int .i64 (.ofNat 0)], ⟨hst1, 223⟩, [(.tup [.nils, .int .i64 (.ofNat 0)], ⟨hst2, 268⟩)]⟩
theorem ce1_run : chkE callT ce1 = true := by kernel_rfl
theorem ce1_ok {a0 : Nat → Value} : CeOk a0 Tryz.prog ce1 := chkE_ok (ready.call S4_ok (mergeOf_ok _) 60) ce1_run
-- hostlerlaw19 said
noncomputable def ce2 : CE := ⟨17, [.ptr 27 0, .agg [.int .i64 (.ofNat 1), .str [102], .str [120], .str [], .int .i64 (.ofNat 0), .int .i64 (.ofNat 0), .int .i64 (.ofNat 0), .int .i64 (.ofNat 0), .slc 54 0 1 none 2], .int .i64 (.ofNat 0), .slc 56 0 1 (some 1) 0], ⟨hst3, 57⟩, [(.bool true, ⟨hst4, 229⟩)]⟩
theorem ce2_run : chkE callT ce2 = true := by kernel_rfl
theorem ce2_ok {a0 : Nat → Value} : CeOk a0 Tryz.prog ce2 := chkE_ok (ready.call S4_ok (mergeOf_ok _) 60) ce2_run
-- agent Agent) Tick
noncomputable def ce3 : CE := ⟨42, [.ptr 27 0, .int .i64 (.ofNat 0)], ⟨hst4, 229⟩, [(.tup [.nils, .int .i64 (.ofNat 0)], ⟨hst5, 274⟩)]⟩
theorem ce3_run : chkE callT ce3 = true := by kernel_rfl
theorem ce3_ok {a0 : Nat → Value} : CeOk a0 Tryz.prog ce3 := chkE_ok (ready.call S4_ok (mergeOf_ok _) 60) ce3_run
-- hostlerlaw19 said
noncomputable def ce4 : CE := ⟨17, [.ptr 27 0, .agg [.int .i64 (.ofNat 1), .str [102], .str [120], .str [], .int .i64 (.ofNat 0), .int .i64 (.ofNat 0), .int .i64 (.ofNat 0), .int .i64 (.ofNat 0), .slc 60 0 1 none 2], .int .i64 (.ofNat 0), .slc 62 0 1 (some 1) 0], ⟨hst6, 63⟩, [(.bool true, ⟨hst7, 235⟩)]⟩
theorem ce4_run : chkE callT ce4 = true := by kernel_rfl
theorem ce4_ok {a0 : Nat → Value} : CeOk a0 Tryz.prog ce4 := chkE_ok (ready.call S4_ok (mergeOf_ok _) 60) ce4_run
end Go.AX

