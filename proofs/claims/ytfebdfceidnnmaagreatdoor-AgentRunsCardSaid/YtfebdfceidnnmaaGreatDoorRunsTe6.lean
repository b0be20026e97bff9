/- AgentRuns, calls. -/
import Derived.Test.YtfebdfceidnnmaaGreatDoorRunsTb
import Derived.Test.YtfebdfceidnnmaaGreatDoorRunsTs0
set_option autoImplicit false
set_option linter.unusedVariables false
set_option maxRecDepth 1000000
namespace Go.AX
open Go.Proofs
-- hostlerlaw19 said
noncomputable def ce58 : CE := ⟨17, [.ptr 28 0, .agg [.int .i64 (.ofNat 7), .str [102], .str [120], .str [], .int .i64 (.ofNat 1), .int .i64 (.ofNat 0), .int .i64 (.ofNat 0), .int .i64 (.ofNat 0), .nils], .int .i64 (.ofNat 0), .slc 235 0 1 (some 1) 0], ⟨hst88, 236⟩, [(.bool true, ⟨hst89, 309⟩)]⟩
theorem ce58_run : chkE callT ce58 = true := by kernel_rfl
theorem ce58_ok {a0 : Nat → Value} : CeOk a0 Tryz.prog ce58 := chkE_ok (ready.call S4_ok (mergeOf_ok _) 60) ce58_run
-- hostlerlaw19 said
noncomputable def ce59 : CE := ⟨17, [.ptr 28 0, .agg [.int .i64 (.ofNat 8), .str [102], .str [120], .str [97], .int .i64 (.ofNat 1), .int .i64 (.ofNat 2), .int .i64 (.ofNat 0), .int .i64 (.ofNat 0), .nils], .int .i64 (.ofNat 0), .slc 313 0 1 (some 1) 0], ⟨hst90, 314⟩, [(.bool true, ⟨hst91, 422⟩)]⟩
theorem ce59_run : chkE callT ce59 = true := by kernel_rfl
theorem ce59_ok {a0 : Nat → Value} : CeOk a0 Tryz.prog ce59 := chkE_ok (ready.call S4_ok (mergeOf_ok _) 60) ce59_run
-- hostlerlaw19 said
noncomputable def ce60 : CE := ⟨17, [.ptr 28 0, .agg [.int .i64 (.ofNat 4), .str [102], .str [], .str [97], .int .i64 (.ofNat 0), .int .i64 (.ofNat 0), .int .i64 (.ofNat 1), .int .i64 (.ofNat 1), .nils], .int .i64 (.ofNat 0), .nils], ⟨hst91, 423⟩, [(.bool true, ⟨hst92, 491⟩)]⟩
theorem ce60_run : chkE callT ce60 = true := by kernel_rfl
theorem ce60_ok {a0 : Nat → Value} : CeOk a0 Tryz.prog ce60 := chkE_ok (ready.call S4_ok (mergeOf_ok _) 60) ce60_run
-- hostlerlaw19 said
noncomputable def ce62 : CE := ⟨17, [.ptr 28 0, .agg [.int .i64 (.ofNat 8), .str [102], .str [120], .str [97], .int .i64 (.ofNat 1), .int .i64 (.ofNat 3), .int .i64 (.ofNat 0), .int .i64 (.ofNat 0), .nils], .int .i64 (.ofNat 0), .slc 502 0 2 (some 2) 0], ⟨hst93, 503⟩, [(.bool true, ⟨hst94, 616⟩)]⟩
theorem ce62_run : chkE callT ce62 = true := by kernel_rfl
theorem ce62_ok {a0 : Nat → Value} : CeOk a0 Tryz.prog ce62 := chkE_ok (ready.call S4_ok (mergeOf_ok _) 60) ce62_run
-- hostlerlaw19 said
noncomputable def ce63 : CE := ⟨17, [.ptr 28 0, .agg [.int .i64 (.ofNat 9), .str [102], .str [120], .str [], .int .i64 (.ofNat 1), .int .i64 (.ofNat 0), .int .i64 (.ofNat 0), .int .i64 (.ofNat 0), .nils], .int .i64 (.ofNat 0), .nils], ⟨hst94, 628⟩, [(.bool true, ⟨hst95, 682⟩)]⟩
theorem ce63_run : chkE callT ce63 = true := by kernel_rfl
theorem ce63_ok {a0 : Nat → Value} : CeOk a0 Tryz.prog ce63 := chkE_ok (ready.call S4_ok (mergeOf_ok _) 60) ce63_run
-- hostlerlaw19 said
noncomputable def ce64 : CE := ⟨17, [.ptr 28 0, .agg [.int .i64 (.ofNat 4), .str [102], .str [], .str [97], .int .i64 (.ofNat 0), .int .i64 (.ofNat 0), .int .i64 (.ofNat 2), .int .i64 (.ofNat 1), .nils], .int .i64 (.ofNat 0), .nils], ⟨hst96, 685⟩, [(.bool true, ⟨hst97, 752⟩)]⟩
theorem ce64_run : chkE callT ce64 = true := by kernel_rfl
theorem ce64_ok {a0 : Nat → Value} : CeOk a0 Tryz.prog ce64 := chkE_ok (ready.call S4_ok (mergeOf_ok _) 60) ce64_run
-- hostlerlaw19 said
noncomputable def ce65 : CE := ⟨17, [.ptr 28 0, .agg [.int .i64 (.ofNat 1), .str [102], .str [120], .str [], .int .i64 (.ofNat 0), .int .i64 (.ofNat 0), .int .i64 (.ofNat 0), .int .i64 (.ofNat 0), .slc 39 0 1 none 2], .int .i64 (.ofNat 0), .slc 41 0 1 (some 1) 0], ⟨hst98, 42⟩, [(.bool true, ⟨hst99, 214⟩)]⟩
theorem ce65_run : chkE callT ce65 = true := by kernel_rfl
theorem ce65_ok {a0 : Nat → Value} : CeOk a0 Tryz.prog ce65 := chkE_ok (ready.call S4_ok (mergeOf_ok _) 60) ce65_run
-- hostlerlaw19 said
noncomputable def ce66 : CE := ⟨17, [.ptr 28 0, .agg [.int .i64 (.ofNat 7), .str [102], .str [120], .str [], .int .i64 (.ofNat 1), .int .i64 (.ofNat 0), .int .i64 (.ofNat 0), .int .i64 (.ofNat 0), .nils], .int .i64 (.ofNat 0), .slc 235 0 1 (some 1) 0], ⟨hst100, 236⟩, [(.bool true, ⟨hst101, 309⟩)]⟩
theorem ce66_run : chkE callT ce66 = true := by kernel_rfl
theorem ce66_ok {a0 : Nat → Value} : CeOk a0 Tryz.prog ce66 := chkE_ok (ready.call S4_ok (mergeOf_ok _) 60) ce66_run
-- hostlerlaw19 said
noncomputable def ce67 : CE := ⟨17, [.ptr 28 0, .agg [.int .i64 (.ofNat 8), .str [102], .str [120], .str [97], .int .i64 (.ofNat 1), .int .i64 (.ofNat 2), .int .i64 (.ofNat 0), .int .i64 (.ofNat 0), .nils], .int .i64 (.ofNat 0), .slc 313 0 1 (some 1) 0], ⟨hst102, 314⟩, [(.bool true, ⟨hst103, 422⟩)]⟩
theorem ce67_run : chkE callT ce67 = true := by kernel_rfl
theorem ce67_ok {a0 : Nat → Value} : CeOk a0 Tryz.prog ce67 := chkE_ok (ready.call S4_ok (mergeOf_ok _) 60) ce67_run
-- hostlerlaw19 said
noncomputable def ce69 : CE := ⟨17, [.ptr 28 0, .agg [.int .i64 (.ofNat 4), .str [102], .str [], .str [97], .int .i64 (.ofNat 0), .int .i64 (.ofNat 0), .int .i64 (.ofNat 1), .int .i64 (.ofNat 1), .nils], .int .i64 (.ofNat 3), .nils], ⟨hst104, 492⟩, [(.bool true, ⟨hst104, 497⟩)]⟩
theorem ce69_run : chkE callT ce69 = true := by kernel_rfl
theorem ce69_ok {a0 : Nat → Value} : CeOk a0 Tryz.prog ce69 := chkE_ok (ready.call S4_ok (mergeOf_ok _) 60) ce69_run
end Go.AX

