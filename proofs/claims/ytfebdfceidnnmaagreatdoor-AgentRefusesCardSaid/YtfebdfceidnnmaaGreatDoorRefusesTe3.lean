/- AgentRefuses, calls. -/
import Derived.Test.YtfebdfceidnnmaaGreatDoorRefusesTb
import Derived.Test.YtfebdfceidnnmaaGreatDoorRefusesTs0
set_option autoImplicit false
set_option linter.unusedVariables false
set_option maxRecDepth 1000000
namespace Go.AX
open Go.Proofs
-- hostlerlaw19 said
noncomputable def ce13 : CE := ⟨17, [.ptr 28 0, .agg [.int .i64 (.ofNat 1), .str [102], .str [121], .str [], .int .i64 (.ofNat 0), .int .i64 (.ofNat 0), .int .i64 (.ofNat 0), .int .i64 (.ofNat 0), .slc 465 0 2 none 2], .int .i64 (.ofNat 0), .slc 468 0 2 (some 2) 0], ⟨hst22, 469⟩, [(.bool true, ⟨hst23, 842⟩)]⟩
theorem ce13_run : chkE callT ce13 = true := by kernel_rfl
theorem ce13_ok {a0 : Nat → Value} : CeOk a0 Tryz.prog ce13 := chkE_ok (ready.call S4_ok (mergeOf_ok _) 60) ce13_run
-- hostlerlaw19 said
noncomputable def ce15 : CE := ⟨17, [.ptr 28 0, .agg [.int .i64 (.ofNat 1), .str [102], .str [121], .str [], .int .i64 (.ofNat 0), .int .i64 (.ofNat 0), .int .i64 (.ofNat 0), .int .i64 (.ofNat 0), .slc 891 0 2 none 2], .int .i64 (.ofNat 4), .nils], ⟨hst25, 892⟩, [(.bool true, ⟨hst25, 935⟩)]⟩
theorem ce15_run : chkE callT ce15 = true := by kernel_rfl
theorem ce15_ok {a0 : Nat → Value} : CeOk a0 Tryz.prog ce15 := chkE_ok (ready.call S4_ok (mergeOf_ok _) 60) ce15_run
-- hostlerlaw19 said
noncomputable def ce16 : CE := ⟨17, [.ptr 28 0, .agg [.int .i64 (.ofNat 1), .str [102], .str [121], .str [], .int .i64 (.ofNat 0), .int .i64 (.ofNat 0), .int .i64 (.ofNat 0), .int .i64 (.ofNat 0), .slc 980 0 1 none 2], .int .i64 (.ofNat 0), .slc 982 0 1 (some 1) 0], ⟨hst26, 983⟩, [(.bool true, ⟨hst27, 1313⟩)]⟩
theorem ce16_run : chkE callT ce16 = true := by kernel_rfl
theorem ce16_ok {a0 : Nat → Value} : CeOk a0 Tryz.prog ce16 := chkE_ok (ready.call S4_ok (mergeOf_ok _) 60) ce16_run
-- hostlerlaw19 said
noncomputable def ce17 : CE := ⟨17, [.ptr 28 0, .agg [.int .i64 (.ofNat 2), .str [102], .str [], .str [97], .int .i64 (.ofNat 0), .int .i64 (.ofNat 0), .int .i64 (.ofNat 0), .int .i64 (.ofNat 0), .nils], .int .i64 (.ofNat 0), .slc 1315 0 1 (some 1) 0], ⟨hst28, 1316⟩, [(.bool true, ⟨hst29, 1527⟩)]⟩
theorem ce17_run : chkE callT ce17 = true := by kernel_rfl
theorem ce17_ok {a0 : Nat → Value} : CeOk a0 Tryz.prog ce17 := chkE_ok (ready.call S4_ok (mergeOf_ok _) 60) ce17_run
end Go.AX

