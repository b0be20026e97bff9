/- AgentLate, calls. -/
import Derived.Test.YtfebdfceidnnmaaGreatDoorLateTb
import Derived.Test.YtfebdfceidnnmaaGreatDoorLateTs0
set_option autoImplicit false
set_option linter.unusedVariables false
set_option maxRecDepth 1000000
namespace Go.AX
open Go.Proofs
-- hostlerlaw19 said
noncomputable def ce14 : CE := ⟨17, [.ptr 29 0, .agg [.int .i64 (.ofNat 8), .str [102], .str [120], .str [97], .int .i64 (.ofNat 1), .int .i64 (.ofNat 2), .int .i64 (.ofNat 0), .int .i64 (.ofNat 0), .nils], .int .i64 (.ofNat 3), .nils], ⟨hst16, 395⟩, [(.bool true, ⟨hst16, 402⟩)]⟩
theorem ce14_run : chkE callT ce14 = true := by kernel_rfl
theorem ce14_ok {a0 : Nat → Value} : CeOk a0 Tryz.prog ce14 := chkE_ok (ready.call S4_ok (mergeOf_ok _) 60) ce14_run
-- hostlerlaw19 said
noncomputable def ce15 : CE := ⟨17, [.ptr 29 0, .agg [.int .i64 (.ofNat 1), .str [102], .str [120], .str [], .int .i64 (.ofNat 0), .int .i64 (.ofNat 0), .int .i64 (.ofNat 0), .int .i64 (.ofNat 0), .slc 406 0 1 none 2], .int .i64 (.ofNat 0), .slc 408 0 1 (some 1) 0], ⟨hst17, 409⟩, [(.bool true, ⟨hst18, 625⟩)]⟩
theorem ce15_run : chkE callT ce15 = true := by kernel_rfl
theorem ce15_ok {a0 : Nat → Value} : CeOk a0 Tryz.prog ce15 := chkE_ok (ready.call S4_ok (mergeOf_ok _) 60) ce15_run
-- hostlerlaw19 said
noncomputable def ce16 : CE := ⟨17, [.ptr 29 0, .agg [.int .i64 (.ofNat 7), .str [102], .str [120], .str [], .int .i64 (.ofNat 2), .int .i64 (.ofNat 0), .int .i64 (.ofNat 0), .int .i64 (.ofNat 0), .nils], .int .i64 (.ofNat 0), .slc 630 0 1 (some 1) 0], ⟨hst19, 631⟩, [(.bool true, ⟨hst20, 752⟩)]⟩
theorem ce16_run : chkE callT ce16 = true := by kernel_rfl
theorem ce16_ok {a0 : Nat → Value} : CeOk a0 Tryz.prog ce16 := chkE_ok (ready.call S4_ok (mergeOf_ok _) 60) ce16_run
-- hostlerlaw19 said
noncomputable def ce18 : CE := ⟨17, [.ptr 29 0, .agg [.int .i64 (.ofNat 1), .str [102], .str [120], .str [], .int .i64 (.ofNat 0), .int .i64 (.ofNat 0), .int .i64 (.ofNat 0), .int .i64 (.ofNat 0), .slc 39 0 1 none 2], .int .i64 (.ofNat 0), .slc 41 0 1 (some 1) 0], ⟨hst23, 42⟩, [(.bool true, ⟨hst24, 214⟩)]⟩
theorem ce18_run : chkE callT ce18 = true := by kernel_rfl
theorem ce18_ok {a0 : Nat → Value} : CeOk a0 Tryz.prog ce18 := chkE_ok (ready.call S4_ok (mergeOf_ok _) 60) ce18_run
-- agent Agent) Tick
noncomputable def ce19 : CE := ⟨42, [.ptr 29 0, .int .i64 (.ofNat 0)], ⟨hst24, 214⟩, [(.tup [.nils, .int .i64 (.ofNat 0)], ⟨hst25, 259⟩)]⟩
theorem ce19_run : chkE callT ce19 = true := by kernel_rfl
theorem ce19_ok {a0 : Nat → Value} : CeOk a0 Tryz.prog ce19 := chkE_ok (ready.call S4_ok (mergeOf_ok _) 60) ce19_run
-- agent Agent) Tick
noncomputable def ce20 : CE := ⟨42, [.ptr 29 0, .int .i64 (.ofNat 0)], ⟨hst25, 259⟩, [(.tup [.nils, .int .i64 (.ofNat 0)], ⟨hst26, 304⟩)]⟩
theorem ce20_run : chkE callT ce20 = true := by kernel_rfl
theorem ce20_ok {a0 : Nat → Value} : CeOk a0 Tryz.prog ce20 := chkE_ok (ready.call S4_ok (mergeOf_ok _) 60) ce20_run
-- hostlerlaw19 said
noncomputable def ce22 : CE := ⟨17, [.ptr 29 0, .agg [.int .i64 (.ofNat 7), .str [102], .str [120], .str [], .int .i64 (.ofNat 1), .int .i64 (.ofNat 0), .int .i64 (.ofNat 0), .int .i64 (.ofNat 0), .nils], .int .i64 (.ofNat 3), .nils], ⟨hst28, 424⟩, [(.bool true, ⟨hst28, 430⟩)]⟩
theorem ce22_run : chkE callT ce22 = true := by kernel_rfl
theorem ce22_ok {a0 : Nat → Value} : CeOk a0 Tryz.prog ce22 := chkE_ok (ready.call S4_ok (mergeOf_ok _) 60) ce22_run
end Go.AX

