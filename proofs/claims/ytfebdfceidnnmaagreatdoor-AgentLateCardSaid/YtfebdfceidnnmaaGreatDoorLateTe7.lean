/- AgentLate, calls. -/
import Derived.Test.YtfebdfceidnnmaaGreatDoorLateTb
import Derived.Test.YtfebdfceidnnmaaGreatDoorLateTs0
set_option autoImplicit false
set_option linter.unusedVariables false
set_option maxRecDepth 1000000
namespace Go.AX
open Go.Proofs
-- agent Agent) Tick
noncomputable def ce52 : CE := ⟨42, [.ptr 29 0, .int .i64 (.ofNat 0)], ⟨hst63, 214⟩, [(.tup [.nils, .int .i64 (.ofNat 0)], ⟨hst64, 259⟩)]⟩
theorem ce52_run : chkE callT ce52 = true := by kernel_rfl
theorem ce52_ok {a0 : Nat → Value} : CeOk a0 Tryz.prog ce52 := chkE_ok (ready.call S4_ok (mergeOf_ok _) 60) ce52_run
-- agent Agent) Tick
noncomputable def ce53 : CE := ⟨42, [.ptr 29 0, .int .i64 (.ofNat 0)], ⟨hst64, 259⟩, [(.tup [.nils, .int .i64 (.ofNat 0)], ⟨hst65, 304⟩)]⟩
theorem ce53_run : chkE callT ce53 = true := by kernel_rfl
theorem ce53_ok {a0 : Nat → Value} : CeOk a0 Tryz.prog ce53 := chkE_ok (ready.call S4_ok (mergeOf_ok _) 60) ce53_run
-- agent Agent) Tick
noncomputable def ce54 : CE := ⟨42, [.ptr 29 0, .int .i64 (.ofNat 0)], ⟨hst65, 304⟩, [(.tup [.nils, .int .i64 (.ofNat 0)], ⟨hst66, 349⟩)]⟩
theorem ce54_run : chkE callT ce54 = true := by kernel_rfl
theorem ce54_ok {a0 : Nat → Value} : CeOk a0 Tryz.prog ce54 := chkE_ok (ready.call S4_ok (mergeOf_ok _) 60) ce54_run
-- agent Agent) Tick
noncomputable def ce55 : CE := ⟨42, [.ptr 29 0, .int .i64 (.ofNat 0)], ⟨hst66, 349⟩, [(.tup [.nils, .int .i64 (.ofNat 0)], ⟨hst67, 394⟩)]⟩
theorem ce55_run : chkE callT ce55 = true := by kernel_rfl
theorem ce55_ok {a0 : Nat → Value} : CeOk a0 Tryz.prog ce55 := chkE_ok (ready.call S4_ok (mergeOf_ok _) 60) ce55_run
-- agent Agent) Tick
noncomputable def ce56 : CE := ⟨42, [.ptr 29 0, .int .i64 (.ofNat 0)], ⟨hst67, 394⟩, [(.tup [.nils, .int .i64 (.ofNat 0)], ⟨hst68, 439⟩)]⟩
theorem ce56_run : chkE callT ce56 = true := by kernel_rfl
theorem ce56_ok {a0 : Nat → Value} : CeOk a0 Tryz.prog ce56 := chkE_ok (ready.call S4_ok (mergeOf_ok _) 60) ce56_run
-- agent Agent) Tick
noncomputable def ce57 : CE := ⟨42, [.ptr 29 0, .int .i64 (.ofNat 0)], ⟨hst68, 439⟩, [(.tup [.slc 536 0 2 none 9, .int .i64 (.ofNat 0)], ⟨hst69, 555⟩)]⟩
theorem ce57_run : chkE callT ce57 = true := by kernel_rfl
theorem ce57_ok {a0 : Nat → Value} : CeOk a0 Tryz.prog ce57 := chkE_ok (ready.call S4_ok (mergeOf_ok _) 60) ce57_run
-- hostlerlaw19 said
noncomputable def ce58 : CE := ⟨17, [.ptr 29 0, .agg [.int .i64 (.ofNat 7), .str [102], .str [120], .str [], .int .i64 (.ofNat 1), .int .i64 (.ofNat 0), .int .i64 (.ofNat 0), .int .i64 (.ofNat 0), .nils], .int .i64 (.ofNat 3), .nils], ⟨hst70, 559⟩, [(.bool true, ⟨hst70, 565⟩)]⟩
theorem ce58_run : chkE callT ce58 = true := by kernel_rfl
theorem ce58_ok {a0 : Nat → Value} : CeOk a0 Tryz.prog ce58 := chkE_ok (ready.call S4_ok (mergeOf_ok _) 60) ce58_run
-- hostlerlaw19 said
noncomputable def ce59 : CE := ⟨17, [.ptr 29 0, .agg [.int .i64 (.ofNat 9), .str [102], .str [120], .str [], .int .i64 (.ofNat 1), .int .i64 (.ofNat 0), .int .i64 (.ofNat 0), .int .i64 (.ofNat 0), .nils], .int .i64 (.ofNat 3), .nils], ⟨hst70, 566⟩, [(.bool true, ⟨hst70, 572⟩)]⟩
theorem ce59_run : chkE callT ce59 = true := by kernel_rfl
theorem ce59_ok {a0 : Nat → Value} : CeOk a0 Tryz.prog ce59 := chkE_ok (ready.call S4_ok (mergeOf_ok _) 60) ce59_run
-- hostlerlaw19 said
noncomputable def ce60 : CE := ⟨17, [.ptr 29 0, .agg [.int .i64 (.ofNat 8), .str [102], .str [120], .str [97], .int .i64 (.ofNat 1), .int .i64 (.ofNat 2), .int .i64 (.ofNat 0), .int .i64 (.ofNat 0), .nils], .int .i64 (.ofNat 3), .nils], ⟨hst70, 575⟩, [(.bool true, ⟨hst70, 582⟩)]⟩
theorem ce60_run : chkE callT ce60 = true := by kernel_rfl
theorem ce60_ok {a0 : Nat → Value} : CeOk a0 Tryz.prog ce60 := chkE_ok (ready.call S4_ok (mergeOf_ok _) 60) ce60_run
-- hostlerlaw19 said
noncomputable def ce62 : CE := ⟨17, [.ptr 29 0, .agg [.int .i64 (.ofNat 7), .str [102], .str [120], .str [], .int .i64 (.ofNat 2), .int .i64 (.ofNat 0), .int .i64 (.ofNat 0), .int .i64 (.ofNat 0), .nils], .int .i64 (.ofNat 0), .slc 810 0 1 (some 1) 0], ⟨hst73, 811⟩, [(.bool true, ⟨hst74, 932⟩)]⟩
theorem ce62_run : chkE callT ce62 = true := by kernel_rfl
theorem ce62_ok {a0 : Nat → Value} : CeOk a0 Tryz.prog ce62 := chkE_ok (ready.call S4_ok (mergeOf_ok _) 60) ce62_run
end Go.AX

