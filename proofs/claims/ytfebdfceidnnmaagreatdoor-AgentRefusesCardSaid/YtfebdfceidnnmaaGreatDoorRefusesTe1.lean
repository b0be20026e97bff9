/- AgentRefuses, calls. -/
import Derived.Test.YtfebdfceidnnmaaGreatDoorRefusesTb
import Derived.Test.YtfebdfceidnnmaaGreatDoorRefusesTs0
set_option autoImplicit false
set_option linter.unusedVariables false
set_option maxRecDepth 1000000
namespace Go.AX
open Go.Proofs
-- hostlerlaw19 said
noncomputable def ce4 : CE := ⟨17, [.ptr 28 0, .agg [.int .i64 (.ofNat 1), .str [102], .str [121], .str [], .int .i64 (.ofNat 0), .int .i64 (.ofNat 0), .int .i64 (.ofNat 0), .int .i64 (.ofNat 0), .slc 846 0 1 none 2], .int .i64 (.ofNat 4), .nils], ⟨hst8, 847⟩, [(.bool true, ⟨hst8, 885⟩)]⟩
theorem ce4_run : chkE callT ce4 = true := by kernel_rfl
theorem ce4_ok {a0 : Nat → Value} : CeOk a0 Tryz.prog ce4 := chkE_ok (ready.call S4_ok (mergeOf_ok _) 60) ce4_run
-- hostlerlaw19 said
noncomputable def ce5 : CE := ⟨17, [.ptr 28 0, .agg [.int .i64 (.ofNat 1), .str [102], .str [121], .str [], .int .i64 (.ofNat 0), .int .i64 (.ofNat 0), .int .i64 (.ofNat 0), .int .i64 (.ofNat 0), .slc 891 0 2 none 2], .int .i64 (.ofNat 4), .nils], ⟨hst9, 892⟩, [(.bool true, ⟨hst9, 935⟩)]⟩
theorem ce5_run : chkE callT ce5 = true := by kernel_rfl
theorem ce5_ok {a0 : Nat → Value} : CeOk a0 Tryz.prog ce5 := chkE_ok (ready.call S4_ok (mergeOf_ok _) 60) ce5_run
-- hostlerlaw19 said
noncomputable def ce6 : CE := ⟨17, [.ptr 28 0, .agg [.int .i64 (.ofNat 1), .str [102], .str [121], .str [], .int .i64 (.ofNat 0), .int .i64 (.ofNat 0), .int .i64 (.ofNat 0), .int .i64 (.ofNat 0), .slc 980 0 1 none 2], .int .i64 (.ofNat 0), .slc 982 0 1 (some 1) 0], ⟨hst10, 983⟩, [(.bool true, ⟨hst11, 1313⟩)]⟩
theorem ce6_run : chkE callT ce6 = true := by kernel_rfl
theorem ce6_ok {a0 : Nat → Value} : CeOk a0 Tryz.prog ce6 := chkE_ok (ready.call S4_ok (mergeOf_ok _) 60) ce6_run
-- hostlerlaw19 said
noncomputable def ce7 : CE := ⟨17, [.ptr 28 0, .agg [.int .i64 (.ofNat 2), .str [102], .str [], .str [97], .int .i64 (.ofNat 0), .int .i64 (.ofNat 0), .int .i64 (.ofNat 0), .int .i64 (.ofNat 0), .nils], .int .i64 (.ofNat 0), .slc 1315 0 1 (some 1) 0], ⟨hst12, 1316⟩, [(.bool true, ⟨hst13, 1527⟩)]⟩
theorem ce7_run : chkE callT ce7 = true := by kernel_rfl
theorem ce7_ok {a0 : Nat → Value} : CeOk a0 Tryz.prog ce7 := chkE_ok (ready.call S4_ok (mergeOf_ok _) 60) ce7_run
-- hostlerlaw19 said
noncomputable def ce8 : CE := ⟨17, [.ptr 28 0, .agg [.int .i64 (.ofNat 2), .str [102], .str [], .str [97], .int .i64 (.ofNat 0), .int .i64 (.ofNat 0), .int .i64 (.ofNat 0), .int .i64 (.ofNat 0), .nils], .int .i64 (.ofNat 0), .nils], ⟨hst13, 1527⟩, [(.bool true, ⟨hst13, 1696⟩)]⟩
theorem ce8_run : chkE callT ce8 = true := by kernel_rfl
theorem ce8_ok {a0 : Nat → Value} : CeOk a0 Tryz.prog ce8 := chkE_ok (ready.call S4_ok (mergeOf_ok _) 60) ce8_run
-- hostlerlaw19 said
noncomputable def ce10 : CE := ⟨17, [.ptr 28 0, .agg [.int .i64 (.ofNat 7), .str [102], .str [120], .str [], .int .i64 (.ofNat 1), .int .i64 (.ofNat 0), .int .i64 (.ofNat 0), .int .i64 (.ofNat 0), .nils], .int .i64 (.ofNat 0), .slc 2080 0 1 (some 1) 0], ⟨hst16, 2081⟩, [(.bool true, ⟨hst17, 2364⟩)]⟩
theorem ce10_run : chkE callT ce10 = true := by kernel_rfl
theorem ce10_ok {a0 : Nat → Value} : CeOk a0 Tryz.prog ce10 := chkE_ok (ready.call S4_ok (mergeOf_ok _) 60) ce10_run
end Go.AX

