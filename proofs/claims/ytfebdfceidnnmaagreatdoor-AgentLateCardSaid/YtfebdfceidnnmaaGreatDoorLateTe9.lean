/- AgentLate, calls. -/
import Derived.Test.YtfebdfceidnnmaaGreatDoorLateTb
import Derived.Test.YtfebdfceidnnmaaGreatDoorLateTs0
set_option autoImplicit false
set_option linter.unusedVariables false
set_option maxRecDepth 1000000
namespace Go.AX
open Go.Proofs
-- agent Agent) Tick
noncomputable def ce69 : CE := ⟨42, [.ptr 29 0, .int .i64 (.ofNat 0)], ⟨hst82, 394⟩, [(.tup [.nils, .int .i64 (.ofNat 0)], ⟨hst83, 439⟩)]⟩
theorem ce69_run : chkE callT ce69 = true := by kernel_rfl
theorem ce69_ok {a0 : Nat → Value} : CeOk a0 Tryz.prog ce69 := chkE_ok (ready.call S4_ok (mergeOf_ok _) 60) ce69_run
-- agent Agent) Tick
noncomputable def ce70 : CE := ⟨42, [.ptr 29 0, .int .i64 (.ofNat 0)], ⟨hst83, 439⟩, [(.tup [.nils, .int .i64 (.ofNat 0)], ⟨hst84, 484⟩)]⟩
theorem ce70_run : chkE callT ce70 = true := by kernel_rfl
theorem ce70_ok {a0 : Nat → Value} : CeOk a0 Tryz.prog ce70 := chkE_ok (ready.call S4_ok (mergeOf_ok _) 60) ce70_run
-- agent Agent) Tick
noncomputable def ce71 : CE := ⟨42, [.ptr 29 0, .int .i64 (.ofNat 0)], ⟨hst84, 484⟩, [(.tup [.slc 581 0 2 none 9, .int .i64 (.ofNat 0)], ⟨hst85, 600⟩)]⟩
theorem ce71_run : chkE callT ce71 = true := by kernel_rfl
theorem ce71_ok {a0 : Nat → Value} : CeOk a0 Tryz.prog ce71 := chkE_ok (ready.call S4_ok (mergeOf_ok _) 60) ce71_run
-- hostlerlaw19 said
noncomputable def ce73 : CE := ⟨17, [.ptr 29 0, .agg [.int .i64 (.ofNat 9), .str [102], .str [120], .str [], .int .i64 (.ofNat 1), .int .i64 (.ofNat 0), .int .i64 (.ofNat 0), .int .i64 (.ofNat 0), .nils], .int .i64 (.ofNat 3), .nils], ⟨hst86, 611⟩, [(.bool true, ⟨hst86, 617⟩)]⟩
theorem ce73_run : chkE callT ce73 = true := by kernel_rfl
theorem ce73_ok {a0 : Nat → Value} : CeOk a0 Tryz.prog ce73 := chkE_ok (ready.call S4_ok (mergeOf_ok _) 60) ce73_run
-- hostlerlaw19 said
noncomputable def ce74 : CE := ⟨17, [.ptr 29 0, .agg [.int .i64 (.ofNat 8), .str [102], .str [120], .str [97], .int .i64 (.ofNat 1), .int .i64 (.ofNat 2), .int .i64 (.ofNat 0), .int .i64 (.ofNat 0), .nils], .int .i64 (.ofNat 3), .nils], ⟨hst86, 620⟩, [(.bool true, ⟨hst86, 627⟩)]⟩
theorem ce74_run : chkE callT ce74 = true := by kernel_rfl
theorem ce74_ok {a0 : Nat → Value} : CeOk a0 Tryz.prog ce74 := chkE_ok (ready.call S4_ok (mergeOf_ok _) 60) ce74_run
-- hostlerlaw19 said
noncomputable def ce75 : CE := ⟨17, [.ptr 29 0, .agg [.int .i64 (.ofNat 1), .str [102], .str [120], .str [], .int .i64 (.ofNat 0), .int .i64 (.ofNat 0), .int .i64 (.ofNat 0), .int .i64 (.ofNat 0), .slc 631 0 1 none 2], .int .i64 (.ofNat 0), .slc 633 0 1 (some 1) 0], ⟨hst87, 634⟩, [(.bool true, ⟨hst88, 850⟩)]⟩
theorem ce75_run : chkE callT ce75 = true := by kernel_rfl
theorem ce75_ok {a0 : Nat → Value} : CeOk a0 Tryz.prog ce75 := chkE_ok (ready.call S4_ok (mergeOf_ok _) 60) ce75_run
-- hostlerlaw19 said
noncomputable def ce76 : CE := ⟨17, [.ptr 29 0, .agg [.int .i64 (.ofNat 7), .str [102], .str [120], .str [], .int .i64 (.ofNat 2), .int .i64 (.ofNat 0), .int .i64 (.ofNat 0), .int .i64 (.ofNat 0), .nils], .int .i64 (.ofNat 0), .slc 855 0 1 (some 1) 0], ⟨hst89, 856⟩, [(.bool true, ⟨hst90, 977⟩)]⟩
theorem ce76_run : chkE callT ce76 = true := by kernel_rfl
theorem ce76_ok {a0 : Nat → Value} : CeOk a0 Tryz.prog ce76 := chkE_ok (ready.call S4_ok (mergeOf_ok _) 60) ce76_run
-- hostlerlaw19 up
noncomputable def ce77 : CE := ⟨15, [.agg [.cplx 4621819117588971520 4621819117588971520, .int .i64 (.ofNat 8), .int .i64 (.ofNat 3), .int .i64 (.ofNat 5), .int .i64 (.ofNat 1000), .int .i64 (.ofNat 1000), .int .i64 (.ofNat 4000)]], ⟨hst91, 2⟩, [(.tup [.ptr 29 0, .ptr 4 0, .bool true], ⟨hst92, 35⟩)]⟩
theorem ce77_run : chkE callT ce77 = true := by kernel_rfl
theorem ce77_ok {a0 : Nat → Value} : CeOk a0 Tryz.prog ce77 := chkE_ok (ready.call S4_ok (mergeOf_ok _) 60) ce77_run
end Go.AX

