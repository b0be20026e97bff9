/- AgentTicks, calls. -/
import Derived.Test.YtfebdfceidnnmaaGreatDoorTicksTb
import Derived.Test.YtfebdfceidnnmaaGreatDoorTicksTs0
set_option autoImplicit false
set_option linter.unusedVariables false
set_option maxRecDepth 1000000
namespace Go.AX
open Go.Proofs
-- hostlerlaw19 said
noncomputable def ce10 : CE := ⟨17, [.ptr 27 0, .agg [.int .i64 (.ofNat 1), .str [102], .str [120], .str [], .int .i64 (.ofNat 0), .int .i64 (.ofNat 0), .int .i64 (.ofNat 0), .int .i64 (.ofNat 0), .slc 78 0 1 none 2], .int .i64 (.ofNat 0), .slc 80 0 1 (some 1) 0], ⟨hst15, 81⟩, [(.bool true, ⟨hst16, 253⟩)]⟩
theorem ce10_run : chkE callT ce10 = true := by kernel_rfl
theorem ce10_ok {a0 : Nat → Value} : CeOk a0 Tryz.prog ce10 := chkE_ok (ready.call S4_ok (mergeOf_ok _) 60) ce10_run
-- hostlerlaw19 said
noncomputable def ce12 : CE := ⟨17, [.ptr 27 0, .agg [.int .i64 (.ofNat 1), .str [102], .str [120], .str [], .int .i64 (.ofNat 0), .int .i64 (.ofNat 0), .int .i64 (.ofNat 0), .int .i64 (.ofNat 0), .slc 84 0 1 none 2], .int .i64 (.ofNat 0), .slc 86 0 1 (some 1) 0], ⟨hst18, 87⟩, [(.bool true, ⟨hst19, 259⟩)]⟩
theorem ce12_run : chkE callT ce12 = true := by kernel_rfl
theorem ce12_ok {a0 : Nat → Value} : CeOk a0 Tryz.prog ce12 := chkE_ok (ready.call S4_ok (mergeOf_ok _) 60) ce12_run
-- hostlerlaw19 said
noncomputable def ce14 : CE := ⟨17, [.ptr 27 0, .agg [.int .i64 (.ofNat 1), .str [102], .str [120], .str [], .int .i64 (.ofNat 0), .int .i64 (.ofNat 0), .int .i64 (.ofNat 0), .int .i64 (.ofNat 0), .slc 90 0 1 none 2], .int .i64 (.ofNat 0), .slc 92 0 1 (some 1) 0], ⟨hst21, 93⟩, [(.bool true, ⟨hst22, 265⟩)]⟩
theorem ce14_run : chkE callT ce14 = true := by kernel_rfl
theorem ce14_ok {a0 : Nat → Value} : CeOk a0 Tryz.prog ce14 := chkE_ok (ready.call S4_ok (mergeOf_ok _) 60) ce14_run
-- agent Agent) Tick
noncomputable def ce15 : CE := ⟨42, [.ptr 27 0, .int .i64 (.ofNat 0)], ⟨hst22, 265⟩, [(.tup [.nils, .int .i64 (.ofNat 0)], ⟨hst23, 310⟩)]⟩
theorem ce15_run : chkE callT ce15 = true := by kernel_rfl
theorem ce15_ok {a0 : Nat → Value} : CeOk a0 Tryz.prog ce15 := chkE_ok (ready.call S4_ok (mergeOf_ok _) 60) ce15_run
-- agent Agent) Tick
noncomputable def ce17 : CE := ⟨42, [.ptr 27 0, .int .i64 (.ofNat 0)], ⟨hst25, 271⟩, [(.tup [.nils, .int .i64 (.ofNat 0)], ⟨hst26, 316⟩)]⟩
theorem ce17_run : chkE callT ce17 = true := by kernel_rfl
theorem ce17_ok {a0 : Nat → Value} : CeOk a0 Tryz.prog ce17 := chkE_ok (ready.call S4_ok (mergeOf_ok _) 60) ce17_run
end Go.AX

