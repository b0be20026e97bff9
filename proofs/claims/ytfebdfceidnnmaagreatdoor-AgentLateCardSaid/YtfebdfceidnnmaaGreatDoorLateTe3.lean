/- AgentLate, calls. -/
import Derived.Test.YtfebdfceidnnmaaGreatDoorLateTb
import Derived.Test.YtfebdfceidnnmaaGreatDoorLateTs0
set_option autoImplicit false
set_option linter.unusedVariables false
set_option maxRecDepth 1000000
namespace Go.AX
open Go.Proofs
-- agent Agent) Tick
noncomputable def ce21 : CE := ⟨42, [.ptr 29 0, .int .i64 (.ofNat 0)], ⟨hst26, 304⟩, [(.tup [.slc 401 0 2 none 9, .int .i64 (.ofNat 0)], ⟨hst27, 420⟩)]⟩
theorem ce21_run : chkE callT ce21 = true := by kernel_rfl
theorem ce21_ok {a0 : Nat → Value} : CeOk a0 Tryz.prog ce21 := chkE_ok (ready.call S4_ok (mergeOf_ok _) 60) ce21_run
-- hostlerlaw19 said
noncomputable def ce23 : CE := ⟨17, [.ptr 29 0, .agg [.int .i64 (.ofNat 9), .str [102], .str [120], .str [], .int .i64 (.ofNat 1), .int .i64 (.ofNat 0), .int .i64 (.ofNat 0), .int .i64 (.ofNat 0), .nils], .int .i64 (.ofNat 3), .nils], ⟨hst28, 431⟩, [(.bool true, ⟨hst28, 437⟩)]⟩
theorem ce23_run : chkE callT ce23 = true := by kernel_rfl
theorem ce23_ok {a0 : Nat → Value} : CeOk a0 Tryz.prog ce23 := chkE_ok (ready.call S4_ok (mergeOf_ok _) 60) ce23_run
-- hostlerlaw19 said
noncomputable def ce24 : CE := ⟨17, [.ptr 29 0, .agg [.int .i64 (.ofNat 8), .str [102], .str [120], .str [97], .int .i64 (.ofNat 1), .int .i64 (.ofNat 2), .int .i64 (.ofNat 0), .int .i64 (.ofNat 0), .nils], .int .i64 (.ofNat 3), .nils], ⟨hst28, 440⟩, [(.bool true, ⟨hst28, 447⟩)]⟩
theorem ce24_run : chkE callT ce24 = true := by kernel_rfl
theorem ce24_ok {a0 : Nat → Value} : CeOk a0 Tryz.prog ce24 := chkE_ok (ready.call S4_ok (mergeOf_ok _) 60) ce24_run
-- hostlerlaw19 said
noncomputable def ce25 : CE := ⟨17, [.ptr 29 0, .agg [.int .i64 (.ofNat 1), .str [102], .str [120], .str [], .int .i64 (.ofNat 0), .int .i64 (.ofNat 0), .int .i64 (.ofNat 0), .int .i64 (.ofNat 0), .slc 451 0 1 none 2], .int .i64 (.ofNat 0), .slc 453 0 1 (some 1) 0], ⟨hst29, 454⟩, [(.bool true, ⟨hst30, 670⟩)]⟩
theorem ce25_run : chkE callT ce25 = true := by kernel_rfl
theorem ce25_ok {a0 : Nat → Value} : CeOk a0 Tryz.prog ce25 := chkE_ok (ready.call S4_ok (mergeOf_ok _) 60) ce25_run
-- hostlerlaw19 said
noncomputable def ce26 : CE := ⟨17, [.ptr 29 0, .agg [.int .i64 (.ofNat 7), .str [102], .str [120], .str [], .int .i64 (.ofNat 2), .int .i64 (.ofNat 0), .int .i64 (.ofNat 0), .int .i64 (.ofNat 0), .nils], .int .i64 (.ofNat 0), .slc 675 0 1 (some 1) 0], ⟨hst31, 676⟩, [(.bool true, ⟨hst32, 797⟩)]⟩
theorem ce26_run : chkE callT ce26 = true := by kernel_rfl
theorem ce26_ok {a0 : Nat → Value} : CeOk a0 Tryz.prog ce26 := chkE_ok (ready.call S4_ok (mergeOf_ok _) 60) ce26_run
-- hostlerlaw19 up
noncomputable def ce27 : CE := ⟨15, [.agg [.cplx 4621819117588971520 4621819117588971520, .int .i64 (.ofNat 4), .int .i64 (.ofNat 3), .int .i64 (.ofNat 5), .int .i64 (.ofNat 1000), .int .i64 (.ofNat 1000), .int .i64 (.ofNat 4000)]], ⟨hst33, 2⟩, [(.tup [.ptr 29 0, .ptr 4 0, .bool true], ⟨hst34, 35⟩)]⟩
theorem ce27_run : chkE callT ce27 = true := by kernel_rfl
theorem ce27_ok {a0 : Nat → Value} : CeOk a0 Tryz.prog ce27 := chkE_ok (ready.call S4_ok (mergeOf_ok _) 60) ce27_run
-- agent Agent) Tick
noncomputable def ce29 : CE := ⟨42, [.ptr 29 0, .int .i64 (.ofNat 0)], ⟨hst36, 214⟩, [(.tup [.nils, .int .i64 (.ofNat 0)], ⟨hst37, 259⟩)]⟩
theorem ce29_run : chkE callT ce29 = true := by kernel_rfl
theorem ce29_ok {a0 : Nat → Value} : CeOk a0 Tryz.prog ce29 := chkE_ok (ready.call S4_ok (mergeOf_ok _) 60) ce29_run
-- agent Agent) Tick
noncomputable def ce30 : CE := ⟨42, [.ptr 29 0, .int .i64 (.ofNat 0)], ⟨hst37, 259⟩, [(.tup [.nils, .int .i64 (.ofNat 0)], ⟨hst38, 304⟩)]⟩
theorem ce30_run : chkE callT ce30 = true := by kernel_rfl
theorem ce30_ok {a0 : Nat → Value} : CeOk a0 Tryz.prog ce30 := chkE_ok (ready.call S4_ok (mergeOf_ok _) 60) ce30_run
end Go.AX

