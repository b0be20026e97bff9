/- AgentRefuses, calls. -/
import Derived.Test.YtfebdfceidnnmaaGreatDoorRefusesTb
import Derived.Test.YtfebdfceidnnmaaGreatDoorRefusesTs0
set_option autoImplicit false
set_option linter.unusedVariables false
set_option maxRecDepth 1000000
namespace Go.AX
open Go.Proofs
-- hostlerlaw19 said
noncomputable def ce36 : CE := ⟨17, [.ptr 28 0, .agg [.int .i64 (.ofNat 1), .str [102], .str [121], .str [], .int .i64 (.ofNat 0), .int .i64 (.ofNat 0), .int .i64 (.ofNat 0), .int .i64 (.ofNat 0), .slc 980 0 1 none 2], .int .i64 (.ofNat 0), .slc 982 0 1 (some 1) 0], ⟨hst58, 983⟩, [(.bool true, ⟨hst59, 1313⟩)]⟩
theorem ce36_run : chkE callT ce36 = true := by kernel_rfl
theorem ce36_ok {a0 : Nat → Value} : CeOk a0 Tryz.prog ce36 := chkE_ok (ready.call S4_ok (mergeOf_ok _) 60) ce36_run
-- hostlerlaw19 said
noncomputable def ce37 : CE := ⟨17, [.ptr 28 0, .agg [.int .i64 (.ofNat 2), .str [102], .str [], .str [97], .int .i64 (.ofNat 0), .int .i64 (.ofNat 0), .int .i64 (.ofNat 0), .int .i64 (.ofNat 0), .nils], .int .i64 (.ofNat 0), .slc 1315 0 1 (some 1) 0], ⟨hst60, 1316⟩, [(.bool true, ⟨hst61, 1527⟩)]⟩
theorem ce37_run : chkE callT ce37 = true := by kernel_rfl
theorem ce37_ok {a0 : Nat → Value} : CeOk a0 Tryz.prog ce37 := chkE_ok (ready.call S4_ok (mergeOf_ok _) 60) ce37_run
-- hostlerlaw19 said
noncomputable def ce38 : CE := ⟨17, [.ptr 28 0, .agg [.int .i64 (.ofNat 2), .str [102], .str [], .str [97], .int .i64 (.ofNat 0), .int .i64 (.ofNat 0), .int .i64 (.ofNat 0), .int .i64 (.ofNat 0), .nils], .int .i64 (.ofNat 0), .nils], ⟨hst61, 1527⟩, [(.bool true, ⟨hst61, 1696⟩)]⟩
theorem ce38_run : chkE callT ce38 = true := by kernel_rfl
theorem ce38_ok {a0 : Nat → Value} : CeOk a0 Tryz.prog ce38 := chkE_ok (ready.call S4_ok (mergeOf_ok _) 60) ce38_run
-- hostlerlaw19 said
noncomputable def ce39 : CE := ⟨17, [.ptr 28 0, .agg [.int .i64 (.ofNat 1), .str [102], .str [122], .str [], .int .i64 (.ofNat 0), .int .i64 (.ofNat 0), .int .i64 (.ofNat 0), .int .i64 (.ofNat 0), .slc 1700 0 1 none 2], .int .i64 (.ofNat 0), .slc 1702 0 1 (some 1) 0], ⟨hst62, 1703⟩, [(.bool true, ⟨hst63, 2078⟩)]⟩
theorem ce39_run : chkE callT ce39 = true := by kernel_rfl
theorem ce39_ok {a0 : Nat → Value} : CeOk a0 Tryz.prog ce39 := chkE_ok (ready.call S4_ok (mergeOf_ok _) 60) ce39_run
end Go.AX

