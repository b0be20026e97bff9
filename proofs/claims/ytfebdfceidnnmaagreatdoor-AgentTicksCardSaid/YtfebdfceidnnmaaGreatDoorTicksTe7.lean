/- AgentTicks, calls. -/
import Derived.Test.YtfebdfceidnnmaaGreatDoorTicksTb
import Derived.Test.YtfebdfceidnnmaaGreatDoorTicksTs0
set_option autoImplicit false
set_option linter.unusedVariables false
set_option maxRecDepth 1000000
namespace Go.AX
open Go.Proofs
-- hostlerlaw19 said
noncomputable def ce38 : CE := ⟨17, [.ptr 27 0, .agg [.int .i64 (.ofNat 1), .str [102], .str [120], .str [], .int .i64 (.ofNat 0), .int .i64 (.ofNat 0), .int .i64 (.ofNat 0), .int .i64 (.ofNat 0), .slc 162 0 1 none 2], .int .i64 (.ofNat 0), .slc 164 0 1 (some 1) 0], ⟨hst57, 165⟩, [(.bool true, ⟨hst58, 337⟩)]⟩
theorem ce38_run : chkE callT ce38 = true := by kernel_rfl
theorem ce38_ok {a0 : Nat → Value} : CeOk a0 Tryz.prog ce38 := chkE_ok (ready.call S4_ok (mergeOf_ok _) 60) ce38_run
end Go.AX

