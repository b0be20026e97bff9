/- AgentLate, calls. -/
import Derived.Test.YtfebdfceidnnmaaGreatDoorLateTb
import Derived.Test.YtfebdfceidnnmaaGreatDoorLateTs0
set_option autoImplicit false
set_option linter.unusedVariables false
set_option maxRecDepth 1000000
namespace Go.AX
open Go.Proofs
-- hostlerlaw19 said
noncomputable def ce36 : CE := ⟨17, [.ptr 29 0, .agg [.int .i64 (.ofNat 1), .str [102], .str [120], .str [], .int .i64 (.ofNat 0), .int .i64 (.ofNat 0), .int .i64 (.ofNat 0), .int .i64 (.ofNat 0), .slc 496 0 1 none 2], .int .i64 (.ofNat 0), .slc 498 0 1 (some 1) 0], ⟨hst42, 499⟩, [(.bool true, ⟨hst43, 715⟩)]⟩
theorem ce36_run : chkE callT ce36 = true := by kernel_rfl
theorem ce36_ok {a0 : Nat → Value} : CeOk a0 Tryz.prog ce36 := chkE_ok (ready.call S4_ok (mergeOf_ok _) 60) ce36_run
-- hostlerlaw19 said
noncomputable def ce39 : CE := ⟨17, [.ptr 29 0, .agg [.int .i64 (.ofNat 1), .str [102], .str [120], .str [], .int .i64 (.ofNat 0), .int .i64 (.ofNat 0), .int .i64 (.ofNat 0), .int .i64 (.ofNat 0), .slc 39 0 1 none 2], .int .i64 (.ofNat 0), .slc 41 0 1 (some 1) 0], ⟨hst48, 42⟩, [(.bool true, ⟨hst49, 214⟩)]⟩
theorem ce39_run : chkE callT ce39 = true := by kernel_rfl
theorem ce39_ok {a0 : Nat → Value} : CeOk a0 Tryz.prog ce39 := chkE_ok (ready.call S4_ok (mergeOf_ok _) 60) ce39_run
-- agent Agent) Tick
noncomputable def ce40 : CE := ⟨42, [.ptr 29 0, .int .i64 (.ofNat 0)], ⟨hst49, 214⟩, [(.tup [.nils, .int .i64 (.ofNat 0)], ⟨hst50, 259⟩)]⟩
theorem ce40_run : chkE callT ce40 = true := by kernel_rfl
theorem ce40_ok {a0 : Nat → Value} : CeOk a0 Tryz.prog ce40 := chkE_ok (ready.call S4_ok (mergeOf_ok _) 60) ce40_run
-- agent Agent) Tick
noncomputable def ce41 : CE := ⟨42, [.ptr 29 0, .int .i64 (.ofNat 0)], ⟨hst50, 259⟩, [(.tup [.nils, .int .i64 (.ofNat 0)], ⟨hst51, 304⟩)]⟩
theorem ce41_run : chkE callT ce41 = true := by kernel_rfl
theorem ce41_ok {a0 : Nat → Value} : CeOk a0 Tryz.prog ce41 := chkE_ok (ready.call S4_ok (mergeOf_ok _) 60) ce41_run
-- agent Agent) Tick
noncomputable def ce42 : CE := ⟨42, [.ptr 29 0, .int .i64 (.ofNat 0)], ⟨hst51, 304⟩, [(.tup [.nils, .int .i64 (.ofNat 0)], ⟨hst52, 349⟩)]⟩
theorem ce42_run : chkE callT ce42 = true := by kernel_rfl
theorem ce42_ok {a0 : Nat → Value} : CeOk a0 Tryz.prog ce42 := chkE_ok (ready.call S4_ok (mergeOf_ok _) 60) ce42_run
-- agent Agent) Tick
noncomputable def ce43 : CE := ⟨42, [.ptr 29 0, .int .i64 (.ofNat 0)], ⟨hst52, 349⟩, [(.tup [.nils, .int .i64 (.ofNat 0)], ⟨hst53, 394⟩)]⟩
theorem ce43_run : chkE callT ce43 = true := by kernel_rfl
theorem ce43_ok {a0 : Nat → Value} : CeOk a0 Tryz.prog ce43 := chkE_ok (ready.call S4_ok (mergeOf_ok _) 60) ce43_run
-- hostlerlaw19 said
noncomputable def ce45 : CE := ⟨17, [.ptr 29 0, .agg [.int .i64 (.ofNat 7), .str [102], .str [120], .str [], .int .i64 (.ofNat 1), .int .i64 (.ofNat 0), .int .i64 (.ofNat 0), .int .i64 (.ofNat 0), .nils], .int .i64 (.ofNat 3), .nils], ⟨hst55, 514⟩, [(.bool true, ⟨hst55, 520⟩)]⟩
theorem ce45_run : chkE callT ce45 = true := by kernel_rfl
theorem ce45_ok {a0 : Nat → Value} : CeOk a0 Tryz.prog ce45 := chkE_ok (ready.call S4_ok (mergeOf_ok _) 60) ce45_run
-- hostlerlaw19 said
noncomputable def ce46 : CE := ⟨17, [.ptr 29 0, .agg [.int .i64 (.ofNat 9), .str [102], .str [120], .str [], .int .i64 (.ofNat 1), .int .i64 (.ofNat 0), .int .i64 (.ofNat 0), .int .i64 (.ofNat 0), .nils], .int .i64 (.ofNat 3), .nils], ⟨hst55, 521⟩, [(.bool true, ⟨hst55, 527⟩)]⟩
theorem ce46_run : chkE callT ce46 = true := by kernel_rfl
theorem ce46_ok {a0 : Nat → Value} : CeOk a0 Tryz.prog ce46 := chkE_ok (ready.call S4_ok (mergeOf_ok _) 60) ce46_run
end Go.AX

