/- AgentRefuses, calls. -/
import Derived.Test.YtfebdfceidnnmaaGreatDoorRefusesTb
import Derived.Test.YtfebdfceidnnmaaGreatDoorRefusesTs0
set_option autoImplicit false
set_option linter.unusedVariables false
set_option maxRecDepth 1000000
namespace Go.AX
open Go.Proofs
-- hostlerlaw19 said
noncomputable def ce9 : CE := ⟨17, [.ptr 28 0, .agg [.int .i64 (.ofNat 1), .str [102], .str [122], .str [], .int .i64 (.ofNat 0), .int .i64 (.ofNat 0), .int .i64 (.ofNat 0), .int .i64 (.ofNat 0), .slc 1700 0 1 none 2], .int .i64 (.ofNat 0), .slc 1702 0 1 (some 1) 0], ⟨hst14, 1703⟩, [(.bool true, ⟨hst15, 2078⟩)]⟩
theorem ce9_run : chkE callT ce9 = true := by kernel_rfl
theorem ce9_ok {a0 : Nat → Value} : CeOk a0 Tryz.prog ce9 := chkE_ok (ready.call S4_ok (mergeOf_ok _) 60) ce9_run
-- hostlerlaw19 said
noncomputable def ce11 : CE := ⟨17, [.ptr 28 0, .agg [.int .i64 (.ofNat 1), .str [102], .str [120], .str [], .int .i64 (.ofNat 0), .int .i64 (.ofNat 0), .int .i64 (.ofNat 0), .int .i64 (.ofNat 0), .slc 38 0 1 none 2], .int .i64 (.ofNat 0), .slc 40 0 1 (some 1) 0], ⟨hst18, 41⟩, [(.bool true, ⟨hst19, 213⟩)]⟩
theorem ce11_run : chkE callT ce11 = true := by kernel_rfl
theorem ce11_ok {a0 : Nat → Value} : CeOk a0 Tryz.prog ce11 := chkE_ok (ready.call S4_ok (mergeOf_ok _) 60) ce11_run
-- hostlerlaw19 said
noncomputable def ce12 : CE := ⟨17, [.ptr 28 0, .agg [.int .i64 (.ofNat 1), .str [102], .str [121], .str [], .int .i64 (.ofNat 0), .int .i64 (.ofNat 0), .int .i64 (.ofNat 0), .int .i64 (.ofNat 0), .slc 217 0 1 none 2], .int .i64 (.ofNat 0), .slc 219 0 1 (some 1) 0], ⟨hst20, 220⟩, [(.bool true, ⟨hst21, 459⟩)]⟩
theorem ce12_run : chkE callT ce12 = true := by kernel_rfl
theorem ce12_ok {a0 : Nat → Value} : CeOk a0 Tryz.prog ce12 := chkE_ok (ready.call S4_ok (mergeOf_ok _) 60) ce12_run
-- hostlerlaw19 said
noncomputable def ce14 : CE := ⟨17, [.ptr 28 0, .agg [.int .i64 (.ofNat 1), .str [102], .str [121], .str [], .int .i64 (.ofNat 0), .int .i64 (.ofNat 0), .int .i64 (.ofNat 0), .int .i64 (.ofNat 0), .slc 846 0 1 none 2], .int .i64 (.ofNat 4), .nils], ⟨hst24, 847⟩, [(.bool true, ⟨hst24, 885⟩)]⟩
theorem ce14_run : chkE callT ce14 = true := by kernel_rfl
theorem ce14_ok {a0 : Nat → Value} : CeOk a0 Tryz.prog ce14 := chkE_ok (ready.call S4_ok (mergeOf_ok _) 60) ce14_run
end Go.AX

