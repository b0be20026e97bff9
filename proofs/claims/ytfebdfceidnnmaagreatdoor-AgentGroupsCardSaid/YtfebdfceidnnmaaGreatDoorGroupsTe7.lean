/- AgentGroups, calls. -/
import Derived.Test.YtfebdfceidnnmaaGreatDoorGroupsTb
import Derived.Test.YtfebdfceidnnmaaGreatDoorGroupsTs0
set_option autoImplicit false
set_option linter.unusedVariables false
set_option maxRecDepth 1000000
namespace Go.AX
open Go.Proofs
-- hostlerlaw19 said
noncomputable def ce24 : CE := ⟨17, [.ptr 28 0, .agg [.int .i64 (.ofNat 1), .str [102], .str [120], .str [], .int .i64 (.ofNat 0), .int .i64 (.ofNat 0), .int .i64 (.ofNat 0), .int .i64 (.ofNat 0), .slc 572 0 2 none 2], .int .i64 (.ofNat 0), .slc 581 0 2 (some 2) 0], ⟨hst41, 582⟩, [(.bool true, ⟨hst42, 929⟩)]⟩
theorem ce24_run : chkE callT ce24 = true := by kernel_rfl
theorem ce24_ok {a0 : Nat → Value} : CeOk a0 Tryz.prog ce24 := chkE_ok (ready.call S4_ok (mergeOf_ok _) 60) ce24_run
-- hostlerlaw19 said
noncomputable def ce25 : CE := ⟨17, [.ptr 28 0, .agg [.int .i64 (.ofNat 8), .str [102], .str [120], .str [112], .int .i64 (.ofNat 1), .int .i64 (.ofNat 2), .int .i64 (.ofNat 0), .int .i64 (.ofNat 0), .nils], .int .i64 (.ofNat 0), .slc 933 0 1 (some 1) 0], ⟨hst43, 934⟩, [(.bool true, ⟨hst44, 1205⟩)]⟩
theorem ce25_run : chkE callT ce25 = true := by kernel_rfl
theorem ce25_ok {a0 : Nat → Value} : CeOk a0 Tryz.prog ce25 := chkE_ok (ready.call S4_ok (mergeOf_ok _) 60) ce25_run
-- hostlerlaw19 said
noncomputable def ce29 : CE := ⟨17, [.ptr 28 0, .agg [.int .i64 (.ofNat 8), .str [102], .str [120], .str [99], .int .i64 (.ofNat 1), .int .i64 (.ofNat 3), .int .i64 (.ofNat 0), .int .i64 (.ofNat 0), .nils], .int .i64 (.ofNat 0), .slc 2156 0 1 (some 1) 0], ⟨hst50, 2157⟩, [(.bool true, ⟨hst51, 2417⟩)]⟩
theorem ce29_run : chkE callT ce29 = true := by kernel_rfl
theorem ce29_ok {a0 : Nat → Value} : CeOk a0 Tryz.prog ce29 := chkE_ok (ready.call S4_ok (mergeOf_ok _) 60) ce29_run
end Go.AX

