/- AgentRuns, calls. -/
import Derived.Test.YtfebdfceidnnmaaGreatDoorRunsTb
import Derived.Test.YtfebdfceidnnmaaGreatDoorRunsTs0
set_option autoImplicit false
set_option linter.unusedVariables false
set_option maxRecDepth 1000000
namespace Go.AX
open Go.Proofs
-- hostlerlaw19 said
noncomputable def ce19 : CE := ⟨17, [.ptr 28 0, .agg [.int .i64 (.ofNat 8), .str [102], .str [120], .str [97], .int .i64 (.ofNat 1), .int .i64 (.ofNat 2), .int .i64 (.ofNat 0), .int .i64 (.ofNat 0), .nils], .int .i64 (.ofNat 0), .slc 313 0 1 (some 1) 0], ⟨hst30, 314⟩, [(.bool true, ⟨hst31, 422⟩)]⟩
theorem ce19_run : chkE callT ce19 = true := by kernel_rfl
theorem ce19_ok {a0 : Nat → Value} : CeOk a0 Tryz.prog ce19 := chkE_ok (ready.call S4_ok (mergeOf_ok _) 60) ce19_run
-- hostlerlaw19 said
noncomputable def ce20 : CE := ⟨17, [.ptr 28 0, .agg [.int .i64 (.ofNat 4), .str [102], .str [], .str [97], .int .i64 (.ofNat 0), .int .i64 (.ofNat 0), .int .i64 (.ofNat 1), .int .i64 (.ofNat 1), .nils], .int .i64 (.ofNat 0), .nils], ⟨hst31, 423⟩, [(.bool true, ⟨hst32, 491⟩)]⟩
theorem ce20_run : chkE callT ce20 = true := by kernel_rfl
theorem ce20_ok {a0 : Nat → Value} : CeOk a0 Tryz.prog ce20 := chkE_ok (ready.call S4_ok (mergeOf_ok _) 60) ce20_run
-- hostlerlaw19 said
noncomputable def ce22 : CE := ⟨17, [.ptr 28 0, .agg [.int .i64 (.ofNat 8), .str [102], .str [120], .str [97], .int .i64 (.ofNat 1), .int .i64 (.ofNat 3), .int .i64 (.ofNat 0), .int .i64 (.ofNat 0), .nils], .int .i64 (.ofNat 0), .slc 502 0 2 (some 2) 0], ⟨hst33, 503⟩, [(.bool true, ⟨hst34, 616⟩)]⟩
theorem ce22_run : chkE callT ce22 = true := by kernel_rfl
theorem ce22_ok {a0 : Nat → Value} : CeOk a0 Tryz.prog ce22 := chkE_ok (ready.call S4_ok (mergeOf_ok _) 60) ce22_run
-- hostlerlaw19 said
noncomputable def ce23 : CE := ⟨17, [.ptr 28 0, .agg [.int .i64 (.ofNat 9), .str [102], .str [120], .str [], .int .i64 (.ofNat 1), .int .i64 (.ofNat 0), .int .i64 (.ofNat 0), .int .i64 (.ofNat 0), .nils], .int .i64 (.ofNat 0), .nils], ⟨hst34, 628⟩, [(.bool true, ⟨hst35, 682⟩)]⟩
theorem ce23_run : chkE callT ce23 = true := by kernel_rfl
theorem ce23_ok {a0 : Nat → Value} : CeOk a0 Tryz.prog ce23 := chkE_ok (ready.call S4_ok (mergeOf_ok _) 60) ce23_run
-- hostlerlaw19 said
noncomputable def ce24 : CE := ⟨17, [.ptr 28 0, .agg [.int .i64 (.ofNat 4), .str [102], .str [], .str [97], .int .i64 (.ofNat 0), .int .i64 (.ofNat 0), .int .i64 (.ofNat 2), .int .i64 (.ofNat 1), .nils], .int .i64 (.ofNat 0), .nils], ⟨hst36, 685⟩, [(.bool true, ⟨hst37, 752⟩)]⟩
theorem ce24_run : chkE callT ce24 = true := by kernel_rfl
theorem ce24_ok {a0 : Nat → Value} : CeOk a0 Tryz.prog ce24 := chkE_ok (ready.call S4_ok (mergeOf_ok _) 60) ce24_run
-- hostlerlaw19 said
noncomputable def ce25 : CE := ⟨17, [.ptr 28 0, .agg [.int .i64 (.ofNat 1), .str [102], .str [120], .str [], .int .i64 (.ofNat 0), .int .i64 (.ofNat 0), .int .i64 (.ofNat 0), .int .i64 (.ofNat 0), .slc 39 0 1 none 2], .int .i64 (.ofNat 0), .slc 41 0 1 (some 1) 0], ⟨hst38, 42⟩, [(.bool true, ⟨hst39, 214⟩)]⟩
theorem ce25_run : chkE callT ce25 = true := by kernel_rfl
theorem ce25_ok {a0 : Nat → Value} : CeOk a0 Tryz.prog ce25 := chkE_ok (ready.call S4_ok (mergeOf_ok _) 60) ce25_run
-- hostlerlaw19 said
noncomputable def ce26 : CE := ⟨17, [.ptr 28 0, .agg [.int .i64 (.ofNat 7), .str [102], .str [120], .str [], .int .i64 (.ofNat 1), .int .i64 (.ofNat 0), .int .i64 (.ofNat 0), .int .i64 (.ofNat 0), .nils], .int .i64 (.ofNat 0), .slc 235 0 1 (some 1) 0], ⟨hst40, 236⟩, [(.bool true, ⟨hst41, 309⟩)]⟩
theorem ce26_run : chkE callT ce26 = true := by kernel_rfl
theorem ce26_ok {a0 : Nat → Value} : CeOk a0 Tryz.prog ce26 := chkE_ok (ready.call S4_ok (mergeOf_ok _) 60) ce26_run
-- hostlerlaw19 said
noncomputable def ce27 : CE := ⟨17, [.ptr 28 0, .agg [.int .i64 (.ofNat 8), .str [102], .str [120], .str [97], .int .i64 (.ofNat 1), .int .i64 (.ofNat 2), .int .i64 (.ofNat 0), .int .i64 (.ofNat 0), .nils], .int .i64 (.ofNat 0), .slc 313 0 1 (some 1) 0], ⟨hst42, 314⟩, [(.bool true, ⟨hst43, 422⟩)]⟩
theorem ce27_run : chkE callT ce27 = true := by kernel_rfl
theorem ce27_ok {a0 : Nat → Value} : CeOk a0 Tryz.prog ce27 := chkE_ok (ready.call S4_ok (mergeOf_ok _) 60) ce27_run
-- hostlerlaw19 said
noncomputable def ce28 : CE := ⟨17, [.ptr 28 0, .agg [.int .i64 (.ofNat 4), .str [102], .str [], .str [97], .int .i64 (.ofNat 0), .int .i64 (.ofNat 0), .int .i64 (.ofNat 1), .int .i64 (.ofNat 1), .nils], .int .i64 (.ofNat 0), .nils], ⟨hst43, 423⟩, [(.bool true, ⟨hst44, 491⟩)]⟩
theorem ce28_run : chkE callT ce28 = true := by kernel_rfl
theorem ce28_ok {a0 : Nat → Value} : CeOk a0 Tryz.prog ce28 := chkE_ok (ready.call S4_ok (mergeOf_ok _) 60) ce28_run
end Go.AX

