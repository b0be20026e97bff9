/- AgentRuns, calls. -/
import Derived.Test.YtfebdfceidnnmaaGreatDoorRunsTb
import Derived.Test.YtfebdfceidnnmaaGreatDoorRunsTs0
set_option autoImplicit false
set_option linter.unusedVariables false
set_option maxRecDepth 1000000
namespace Go.AX
open Go.Proofs
-- hostlerlaw19 said
noncomputable def ce9 : CE := ⟨17, [.ptr 28 0, .agg [.int .i64 (.ofNat 1), .str [102], .str [120], .str [], .int .i64 (.ofNat 0), .int .i64 (.ofNat 0), .int .i64 (.ofNat 0), .int .i64 (.ofNat 0), .slc 39 0 1 none 2], .int .i64 (.ofNat 0), .slc 41 0 1 (some 1) 0], ⟨hst14, 42⟩, [(.bool true, ⟨hst15, 214⟩)]⟩
theorem ce9_run : chkE callT ce9 = true := by kernel_rfl
theorem ce9_ok {a0 : Nat → Value} : CeOk a0 Tryz.prog ce9 := chkE_ok (ready.call S4_ok (mergeOf_ok _) 60) ce9_run
-- hostlerlaw19 said
noncomputable def ce11 : CE := ⟨17, [.ptr 28 0, .agg [.int .i64 (.ofNat 8), .str [102], .str [120], .str [97], .int .i64 (.ofNat 1), .int .i64 (.ofNat 2), .int .i64 (.ofNat 0), .int .i64 (.ofNat 0), .nils], .int .i64 (.ofNat 0), .slc 313 0 1 (some 1) 0], ⟨hst18, 314⟩, [(.bool true, ⟨hst19, 422⟩)]⟩
theorem ce11_run : chkE callT ce11 = true := by kernel_rfl
theorem ce11_ok {a0 : Nat → Value} : CeOk a0 Tryz.prog ce11 := chkE_ok (ready.call S4_ok (mergeOf_ok _) 60) ce11_run
-- hostlerlaw19 said
noncomputable def ce12 : CE := ⟨17, [.ptr 28 0, .agg [.int .i64 (.ofNat 4), .str [102], .str [], .str [97], .int .i64 (.ofNat 0), .int .i64 (.ofNat 0), .int .i64 (.ofNat 1), .int .i64 (.ofNat 1), .nils], .int .i64 (.ofNat 0), .nils], ⟨hst19, 423⟩, [(.bool true, ⟨hst20, 491⟩)]⟩
theorem ce12_run : chkE callT ce12 = true := by kernel_rfl
theorem ce12_ok {a0 : Nat → Value} : CeOk a0 Tryz.prog ce12 := chkE_ok (ready.call S4_ok (mergeOf_ok _) 60) ce12_run
-- hostlerlaw19 said
noncomputable def ce14 : CE := ⟨17, [.ptr 28 0, .agg [.int .i64 (.ofNat 8), .str [102], .str [120], .str [97], .int .i64 (.ofNat 1), .int .i64 (.ofNat 3), .int .i64 (.ofNat 0), .int .i64 (.ofNat 0), .nils], .int .i64 (.ofNat 0), .slc 502 0 2 (some 2) 0], ⟨hst21, 503⟩, [(.bool true, ⟨hst22, 616⟩)]⟩
theorem ce14_run : chkE callT ce14 = true := by kernel_rfl
theorem ce14_ok {a0 : Nat → Value} : CeOk a0 Tryz.prog ce14 := chkE_ok (ready.call S4_ok (mergeOf_ok _) 60) ce14_run
-- hostlerlaw19 said
noncomputable def ce15 : CE := ⟨17, [.ptr 28 0, .agg [.int .i64 (.ofNat 9), .str [102], .str [120], .str [], .int .i64 (.ofNat 1), .int .i64 (.ofNat 0), .int .i64 (.ofNat 0), .int .i64 (.ofNat 0), .nils], .int .i64 (.ofNat 0), .nils], ⟨hst22, 628⟩, [(.bool true, ⟨hst23, 682⟩)]⟩
theorem ce15_run : chkE callT ce15 = true := by kernel_rfl
theorem ce15_ok {a0 : Nat → Value} : CeOk a0 Tryz.prog ce15 := chkE_ok (ready.call S4_ok (mergeOf_ok _) 60) ce15_run
-- hostlerlaw19 said
noncomputable def ce16 : CE := ⟨17, [.ptr 28 0, .agg [.int .i64 (.ofNat 4), .str [102], .str [], .str [97], .int .i64 (.ofNat 0), .int .i64 (.ofNat 0), .int .i64 (.ofNat 2), .int .i64 (.ofNat 1), .nils], .int .i64 (.ofNat 0), .nils], ⟨hst24, 685⟩, [(.bool true, ⟨hst25, 752⟩)]⟩
theorem ce16_run : chkE callT ce16 = true := by kernel_rfl
theorem ce16_ok {a0 : Nat → Value} : CeOk a0 Tryz.prog ce16 := chkE_ok (ready.call S4_ok (mergeOf_ok _) 60) ce16_run
-- hostlerlaw19 said
noncomputable def ce17 : CE := ⟨17, [.ptr 28 0, .agg [.int .i64 (.ofNat 1), .str [102], .str [120], .str [], .int .i64 (.ofNat 0), .int .i64 (.ofNat 0), .int .i64 (.ofNat 0), .int .i64 (.ofNat 0), .slc 39 0 1 none 2], .int .i64 (.ofNat 0), .slc 41 0 1 (some 1) 0], ⟨hst26, 42⟩, [(.bool true, ⟨hst27, 214⟩)]⟩
theorem ce17_run : chkE callT ce17 = true := by kernel_rfl
theorem ce17_ok {a0 : Nat → Value} : CeOk a0 Tryz.prog ce17 := chkE_ok (ready.call S4_ok (mergeOf_ok _) 60) ce17_run
-- hostlerlaw19 said
noncomputable def ce18 : CE := ⟨17, [.ptr 28 0, .agg [.int .i64 (.ofNat 7), .str [102], .str [120], .str [], .int .i64 (.ofNat 1), .int .i64 (.ofNat 0), .int .i64 (.ofNat 0), .int .i64 (.ofNat 0), .nils], .int .i64 (.ofNat 0), .slc 235 0 1 (some 1) 0], ⟨hst28, 236⟩, [(.bool true, ⟨hst29, 309⟩)]⟩
theorem ce18_run : chkE callT ce18 = true := by kernel_rfl
theorem ce18_ok {a0 : Nat → Value} : CeOk a0 Tryz.prog ce18 := chkE_ok (ready.call S4_ok (mergeOf_ok _) 60) ce18_run
-- hostlerlaw19 said
noncomputable def ce21 : CE := ⟨17, [.ptr 28 0, .agg [.int .i64 (.ofNat 4), .str [102], .str [], .str [97], .int .i64 (.ofNat 0), .int .i64 (.ofNat 0), .int .i64 (.ofNat 1), .int .i64 (.ofNat 1), .nils], .int .i64 (.ofNat 3), .nils], ⟨hst32, 492⟩, [(.bool true, ⟨hst32, 497⟩)]⟩
theorem ce21_run : chkE callT ce21 = true := by kernel_rfl
theorem ce21_ok {a0 : Nat → Value} : CeOk a0 Tryz.prog ce21 := chkE_ok (ready.call S4_ok (mergeOf_ok _) 60) ce21_run
end Go.AX

