/- AgentLate, calls. -/
import Derived.Test.YtfebdfceidnnmaaGreatDoorLateTb
import Derived.Test.YtfebdfceidnnmaaGreatDoorLateTs0
set_option autoImplicit false
set_option linter.unusedVariables false
set_option maxRecDepth 1000000
namespace Go.AX
open Go.Proofs
-- hostlerlaw19 said
noncomputable def ce61 : CE := ⟨17, [.ptr 29 0, .agg [.int .i64 (.ofNat 1), .str [102], .str [120], .str [], .int .i64 (.ofNat 0), .int .i64 (.ofNat 0), .int .i64 (.ofNat 0), .int .i64 (.ofNat 0), .slc 586 0 1 none 2], .int .i64 (.ofNat 0), .slc 588 0 1 (some 1) 0], ⟨hst71, 589⟩, [(.bool true, ⟨hst72, 805⟩)]⟩
theorem ce61_run : chkE callT ce61 = true := by kernel_rfl
theorem ce61_ok {a0 : Nat → Value} : CeOk a0 Tryz.prog ce61 := chkE_ok (ready.call S4_ok (mergeOf_ok _) 60) ce61_run
-- hostlerlaw19 up
noncomputable def ce63 : CE := ⟨15, [.agg [.cplx 4621819117588971520 4621819117588971520, .int .i64 (.ofNat 7), .int .i64 (.ofNat 3), .int .i64 (.ofNat 5), .int .i64 (.ofNat 1000), .int .i64 (.ofNat 1000), .int .i64 (.ofNat 4000)]], ⟨hst75, 2⟩, [(.tup [.ptr 29 0, .ptr 4 0, .bool true], ⟨hst76, 35⟩)]⟩
theorem ce63_run : chkE callT ce63 = true := by kernel_rfl
theorem ce63_ok {a0 : Nat → Value} : CeOk a0 Tryz.prog ce63 := chkE_ok (ready.call S4_ok (mergeOf_ok _) 60) ce63_run
-- hostlerlaw19 said
noncomputable def ce64 : CE := ⟨17, [.ptr 29 0, .agg [.int .i64 (.ofNat 1), .str [102], .str [120], .str [], .int .i64 (.ofNat 0), .int .i64 (.ofNat 0), .int .i64 (.ofNat 0), .int .i64 (.ofNat 0), .slc 39 0 1 none 2], .int .i64 (.ofNat 0), .slc 41 0 1 (some 1) 0], ⟨hst77, 42⟩, [(.bool true, ⟨hst78, 214⟩)]⟩
theorem ce64_run : chkE callT ce64 = true := by kernel_rfl
theorem ce64_ok {a0 : Nat → Value} : CeOk a0 Tryz.prog ce64 := chkE_ok (ready.call S4_ok (mergeOf_ok _) 60) ce64_run
-- agent Agent) Tick
noncomputable def ce65 : CE := ⟨42, [.ptr 29 0, .int .i64 (.ofNat 0)], ⟨hst78, 214⟩, [(.tup [.nils, .int .i64 (.ofNat 0)], ⟨hst79, 259⟩)]⟩
theorem ce65_run : chkE callT ce65 = true := by kernel_rfl
theorem ce65_ok {a0 : Nat → Value} : CeOk a0 Tryz.prog ce65 := chkE_ok (ready.call S4_ok (mergeOf_ok _) 60) ce65_run
-- agent Agent) Tick
noncomputable def ce66 : CE := ⟨42, [.ptr 29 0, .int .i64 (.ofNat 0)], ⟨hst79, 259⟩, [(.tup [.nils, .int .i64 (.ofNat 0)], ⟨hst80, 304⟩)]⟩
theorem ce66_run : chkE callT ce66 = true := by kernel_rfl
theorem ce66_ok {a0 : Nat → Value} : CeOk a0 Tryz.prog ce66 := chkE_ok (ready.call S4_ok (mergeOf_ok _) 60) ce66_run
-- agent Agent) Tick
noncomputable def ce67 : CE := ⟨42, [.ptr 29 0, .int .i64 (.ofNat 0)], ⟨hst80, 304⟩, [(.tup [.nils, .int .i64 (.ofNat 0)], ⟨hst81, 349⟩)]⟩
theorem ce67_run : chkE callT ce67 = true := by kernel_rfl
theorem ce67_ok {a0 : Nat → Value} : CeOk a0 Tryz.prog ce67 := chkE_ok (ready.call S4_ok (mergeOf_ok _) 60) ce67_run
-- agent Agent) Tick
noncomputable def ce68 : CE := ⟨42, [.ptr 29 0, .int .i64 (.ofNat 0)], ⟨hst81, 349⟩, [(.tup [.nils, .int .i64 (.ofNat 0)], ⟨hst82, 394⟩)]⟩
theorem ce68_run : chkE callT ce68 = true := by kernel_rfl
theorem ce68_ok {a0 : Nat → Value} : CeOk a0 Tryz.prog ce68 := chkE_ok (ready.call S4_ok (mergeOf_ok _) 60) ce68_run
-- hostlerlaw19 said
noncomputable def ce72 : CE := ⟨17, [.ptr 29 0, .agg [.int .i64 (.ofNat 7), .str [102], .str [120], .str [], .int .i64 (.ofNat 1), .int .i64 (.ofNat 0), .int .i64 (.ofNat 0), .int .i64 (.ofNat 0), .nils], .int .i64 (.ofNat 3), .nils], ⟨hst86, 604⟩, [(.bool true, ⟨hst86, 610⟩)]⟩
theorem ce72_run : chkE callT ce72 = true := by kernel_rfl
theorem ce72_ok {a0 : Nat → Value} : CeOk a0 Tryz.prog ce72 := chkE_ok (ready.call S4_ok (mergeOf_ok _) 60) ce72_run
end Go.AX

