/- AgentTicks, calls. -/
import Derived.Test.YtfebdfceidnnmaaGreatDoorTicksTb
import Derived.Test.YtfebdfceidnnmaaGreatDoorTicksTs0
set_option autoImplicit false
set_option linter.unusedVariables false
set_option maxRecDepth 1000000
namespace Go.AX
open Go.Proofs
-- hostlerlaw19 said
noncomputable def ce16 : CE := ⟨17, [.ptr 27 0, .agg [.int .i64 (.ofNat 1), .str [102], .str [120], .str [], .int .i64 (.ofNat 0), .int .i64 (.ofNat 0), .int .i64 (.ofNat 0), .int .i64 (.ofNat 0), .slc 96 0 1 none 2], .int .i64 (.ofNat 0), .slc 98 0 1 (some 1) 0], ⟨hst24, 99⟩, [(.bool true, ⟨hst25, 271⟩)]⟩
theorem ce16_run : chkE callT ce16 = true := by kernel_rfl
theorem ce16_ok {a0 : Nat → Value} : CeOk a0 Tryz.prog ce16 := chkE_ok (ready.call S4_ok (mergeOf_ok _) 60) ce16_run
-- hostlerlaw19 said
noncomputable def ce18 : CE := ⟨17, [.ptr 27 0, .agg [.int .i64 (.ofNat 1), .str [102], .str [120], .str [], .int .i64 (.ofNat 0), .int .i64 (.ofNat 0), .int .i64 (.ofNat 0), .int .i64 (.ofNat 0), .slc 102 0 1 none 2], .int .i64 (.ofNat 0), .slc 104 0 1 (some 1) 0], ⟨hst27, 105⟩, [(.bool true, ⟨hst28, 277⟩)]⟩
theorem ce18_run : chkE callT ce18 = true := by kernel_rfl
theorem ce18_ok {a0 : Nat → Value} : CeOk a0 Tryz.prog ce18 := chkE_ok (ready.call S4_ok (mergeOf_ok _) 60) ce18_run
-- agent Agent) Tick
noncomputable def ce19 : CE := ⟨42, [.ptr 27 0, .int .i64 (.ofNat 0)], ⟨hst28, 277⟩, [(.tup [.nils, .int .i64 (.ofNat 0)], ⟨hst29, 322⟩)]⟩
theorem ce19_run : chkE callT ce19 = true := by kernel_rfl
theorem ce19_ok {a0 : Nat → Value} : CeOk a0 Tryz.prog ce19 := chkE_ok (ready.call S4_ok (mergeOf_ok _) 60) ce19_run
-- hostlerlaw19 said
noncomputable def ce20 : CE := ⟨17, [.ptr 27 0, .agg [.int .i64 (.ofNat 1), .str [102], .str [120], .str [], .int .i64 (.ofNat 0), .int .i64 (.ofNat 0), .int .i64 (.ofNat 0), .int .i64 (.ofNat 0), .slc 108 0 1 none 2], .int .i64 (.ofNat 0), .slc 110 0 1 (some 1) 0], ⟨hst30, 111⟩, [(.bool true, ⟨hst31, 283⟩)]⟩
theorem ce20_run : chkE callT ce20 = true := by kernel_rfl
theorem ce20_ok {a0 : Nat → Value} : CeOk a0 Tryz.prog ce20 := chkE_ok (ready.call S4_ok (mergeOf_ok _) 60) ce20_run
-- agent Agent) Tick
noncomputable def ce21 : CE := ⟨42, [.ptr 27 0, .int .i64 (.ofNat 0)], ⟨hst31, 283⟩, [(.tup [.nils, .int .i64 (.ofNat 0)], ⟨hst32, 328⟩)]⟩
theorem ce21_run : chkE callT ce21 = true := by kernel_rfl
theorem ce21_ok {a0 : Nat → Value} : CeOk a0 Tryz.prog ce21 := chkE_ok (ready.call S4_ok (mergeOf_ok _) 60) ce21_run
end Go.AX

