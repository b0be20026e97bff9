/- AgentTicks, calls. -/
import Derived.Test.YtfebdfceidnnmaaGreatDoorTicksTb
import Derived.Test.YtfebdfceidnnmaaGreatDoorTicksTs0
set_option autoImplicit false
set_option linter.unusedVariables false
set_option maxRecDepth 1000000
namespace Go.AX
open Go.Proofs
-- hostlerlaw19 said
noncomputable def ce32 : CE := ⟨17, [.ptr 27 0, .agg [.int .i64 (.ofNat 1), .str [102], .str [120], .str [], .int .i64 (.ofNat 0), .int .i64 (.ofNat 0), .int .i64 (.ofNat 0), .int .i64 (.ofNat 0), .slc 144 0 1 none 2], .int .i64 (.ofNat 0), .slc 146 0 1 (some 1) 0], ⟨hst48, 147⟩, [(.bool true, ⟨hst49, 319⟩)]⟩
theorem ce32_run : chkE callT ce32 = true := by kernel_rfl
theorem ce32_ok {a0 : Nat → Value} : CeOk a0 Tryz.prog ce32 := chkE_ok (ready.call S4_ok (mergeOf_ok _) 60) ce32_run
-- hostlerlaw19 said
noncomputable def ce34 : CE := ⟨17, [.ptr 27 0, .agg [.int .i64 (.ofNat 1), .str [102], .str [120], .str [], .int .i64 (.ofNat 0), .int .i64 (.ofNat 0), .int .i64 (.ofNat 0), .int .i64 (.ofNat 0), .slc 150 0 1 none 2], .int .i64 (.ofNat 0), .slc 152 0 1 (some 1) 0], ⟨hst51, 153⟩, [(.bool true, ⟨hst52, 325⟩)]⟩
theorem ce34_run : chkE callT ce34 = true := by kernel_rfl
theorem ce34_ok {a0 : Nat → Value} : CeOk a0 Tryz.prog ce34 := chkE_ok (ready.call S4_ok (mergeOf_ok _) 60) ce34_run
-- hostlerlaw19 said
noncomputable def ce36 : CE := ⟨17, [.ptr 27 0, .agg [.int .i64 (.ofNat 1), .str [102], .str [120], .str [], .int .i64 (.ofNat 0), .int .i64 (.ofNat 0), .int .i64 (.ofNat 0), .int .i64 (.ofNat 0), .slc 156 0 1 none 2], .int .i64 (.ofNat 0), .slc 158 0 1 (some 1) 0], ⟨hst54, 159⟩, [(.bool true, ⟨hst55, 331⟩)]⟩
theorem ce36_run : chkE callT ce36 = true := by kernel_rfl
theorem ce36_ok {a0 : Nat → Value} : CeOk a0 Tryz.prog ce36 := chkE_ok (ready.call S4_ok (mergeOf_ok _) 60) ce36_run
-- agent Agent) Tick
noncomputable def ce37 : CE := ⟨42, [.ptr 27 0, .int .i64 (.ofNat 0)], ⟨hst55, 331⟩, [(.tup [.nils, .int .i64 (.ofNat 0)], ⟨hst56, 376⟩)]⟩
theorem ce37_run : chkE callT ce37 = true := by kernel_rfl
theorem ce37_ok {a0 : Nat → Value} : CeOk a0 Tryz.prog ce37 := chkE_ok (ready.call S4_ok (mergeOf_ok _) 60) ce37_run
-- agent Agent) Tick
noncomputable def ce39 : CE := ⟨42, [.ptr 27 0, .int .i64 (.ofNat 0)], ⟨hst58, 337⟩, [(.tup [.nils, .int .i64 (.ofNat 0)], ⟨hst59, 382⟩)]⟩
theorem ce39_run : chkE callT ce39 = true := by kernel_rfl
theorem ce39_ok {a0 : Nat → Value} : CeOk a0 Tryz.prog ce39 := chkE_ok (ready.call S4_ok (mergeOf_ok _) 60) ce39_run
end Go.AX

