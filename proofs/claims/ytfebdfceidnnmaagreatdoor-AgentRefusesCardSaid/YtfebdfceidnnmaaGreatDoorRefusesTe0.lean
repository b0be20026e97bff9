/- AgentRefuses, calls. -/
import Derived.Test.YtfebdfceidnnmaaGreatDoorRefusesTb
import Derived.Test.YtfebdfceidnnmaaGreatDoorRefusesTs0
set_option autoImplicit false
set_option linter.unusedVariables false
set_option maxRecDepth 1000000
namespace Go.AX
open Go.Proofs
-- hostlerlaw19 up
noncomputable def ce0 : CE := ⟨15, [.agg [.cplx 4621819117588971520 4621819117588971520, .int .i64 (.ofNat 4), .int .i64 (.ofNat 3), .int .i64 (.ofNat 5), .int .i64 (.ofNat 2), .int .i64 (.ofNat 8), .int .i64 (.ofNat 4000)]], ⟨hst0, 1⟩, [(.tup [.ptr 28 0, .ptr 3 0, .bool true], ⟨hst1, 34⟩)]⟩
theorem ce0_run : chkE callT ce0 = true := by kernel_rfl
theorem ce0_ok {a0 : Nat → Value} : CeOk a0 Tryz.prog ce0 := chkE_ok (ready.call S4_ok (mergeOf_ok _) 60) ce0_run
-- hostlerlaw19 said
noncomputable def ce1 : CE := ⟨17, [.ptr 28 0, .agg [.int .i64 (.ofNat 1), .str [102], .str [120], .str [], .int .i64 (.ofNat 0), .int .i64 (.ofNat 0), .int .i64 (.ofNat 0), .int .i64 (.ofNat 0), .slc 38 0 1 none 2], .int .i64 (.ofNat 0), .slc 40 0 1 (some 1) 0], ⟨hst2, 41⟩, [(.bool true, ⟨hst3, 213⟩)]⟩
theorem ce1_run : chkE callT ce1 = true := by kernel_rfl
theorem ce1_ok {a0 : Nat → Value} : CeOk a0 Tryz.prog ce1 := chkE_ok (ready.call S4_ok (mergeOf_ok _) 60) ce1_run
-- hostlerlaw19 said
noncomputable def ce2 : CE := ⟨17, [.ptr 28 0, .agg [.int .i64 (.ofNat 1), .str [102], .str [121], .str [], .int .i64 (.ofNat 0), .int .i64 (.ofNat 0), .int .i64 (.ofNat 0), .int .i64 (.ofNat 0), .slc 217 0 1 none 2], .int .i64 (.ofNat 0), .slc 219 0 1 (some 1) 0], ⟨hst4, 220⟩, [(.bool true, ⟨hst5, 459⟩)]⟩
theorem ce2_run : chkE callT ce2 = true := by kernel_rfl
theorem ce2_ok {a0 : Nat → Value} : CeOk a0 Tryz.prog ce2 := chkE_ok (ready.call S4_ok (mergeOf_ok _) 60) ce2_run
-- hostlerlaw19 said
noncomputable def ce3 : CE := ⟨17, [.ptr 28 0, .agg [.int .i64 (.ofNat 1), .str [102], .str [121], .str [], .int .i64 (.ofNat 0), .int .i64 (.ofNat 0), .int .i64 (.ofNat 0), .int .i64 (.ofNat 0), .slc 465 0 2 none 2], .int .i64 (.ofNat 0), .slc 468 0 2 (some 2) 0], ⟨hst6, 469⟩, [(.bool true, ⟨hst7, 842⟩)]⟩
theorem ce3_run : chkE callT ce3 = true := by kernel_rfl
theorem ce3_ok {a0 : Nat → Value} : CeOk a0 Tryz.prog ce3 := chkE_ok (ready.call S4_ok (mergeOf_ok _) 60) ce3_run
end Go.AX

