/- AgentGroups, calls. -/
import Derived.Test.YtfebdfceidnnmaaGreatDoorGroupsTb
import Derived.Test.YtfebdfceidnnmaaGreatDoorGroupsTs0
set_option autoImplicit false
set_option linter.unusedVariables false
set_option maxRecDepth 1000000
namespace Go.AX
open Go.Proofs
-- hostlerlaw19 said
noncomputable def ce12 : CE := ⟨17, [.ptr 28 0, .agg [.int .i64 (.ofNat 8), .str [102], .str [120], .str [97], .int .i64 (.ofNat 1), .int .i64 (.ofNat 3), .int .i64 (.ofNat 0), .int .i64 (.ofNat 0), .nils], .int .i64 (.ofNat 0), .slc 1125 0 1 (some 1) 0], ⟨hst20, 1126⟩, [(.bool true, ⟨hst21, 1336⟩)]⟩
theorem ce12_run : chkE callT ce12 = true := by kernel_rfl
theorem ce12_ok {a0 : Nat → Value} : CeOk a0 Tryz.prog ce12 := chkE_ok (ready.call S4_ok (mergeOf_ok _) 60) ce12_run
-- hostlerlaw19 said
noncomputable def ce13 : CE := ⟨17, [.ptr 28 0, .agg [.int .i64 (.ofNat 8), .str [102], .str [120], .str [98], .int .i64 (.ofNat 1), .int .i64 (.ofNat 3), .int .i64 (.ofNat 0), .int .i64 (.ofNat 0), .nils], .int .i64 (.ofNat 0), .slc 1387 0 1 (some 1) 0], ⟨hst22, 1388⟩, [(.bool true, ⟨hst23, 1596⟩)]⟩
theorem ce13_run : chkE callT ce13 = true := by kernel_rfl
theorem ce13_ok {a0 : Nat → Value} : CeOk a0 Tryz.prog ce13 := chkE_ok (ready.call S4_ok (mergeOf_ok _) 60) ce13_run
-- hostlerlaw19 said
noncomputable def ce14 : CE := ⟨17, [.ptr 28 0, .agg [.int .i64 (.ofNat 1), .str [102], .str [120], .str [], .int .i64 (.ofNat 0), .int .i64 (.ofNat 0), .int .i64 (.ofNat 0), .int .i64 (.ofNat 0), .slc 60 0 3 none 2], .int .i64 (.ofNat 0), .slc 62 0 1 (some 1) 0], ⟨hst24, 63⟩, [(.bool true, ⟨hst25, 327⟩)]⟩
theorem ce14_run : chkE callT ce14 = true := by kernel_rfl
theorem ce14_ok {a0 : Nat → Value} : CeOk a0 Tryz.prog ce14 := chkE_ok (ready.call S4_ok (mergeOf_ok _) 60) ce14_run
end Go.AX

