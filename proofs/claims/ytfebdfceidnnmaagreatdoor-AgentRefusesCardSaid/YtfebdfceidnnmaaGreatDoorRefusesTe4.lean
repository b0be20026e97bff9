/- AgentRefuses, calls. -/
import Derived.Test.YtfebdfceidnnmaaGreatDoorRefusesTb
import Derived.Test.YtfebdfceidnnmaaGreatDoorRefusesTs0
set_option autoImplicit false
set_option linter.unusedVariables false
set_option maxRecDepth 1000000
namespace Go.AX
open Go.Proofs
-- hostlerlaw19 said
noncomputable def ce18 : CE := ⟨17, [.ptr 28 0, .agg [.int .i64 (.ofNat 2), .str [102], .str [], .str [97], .int .i64 (.ofNat 0), .int .i64 (.ofNat 0), .int .i64 (.ofNat 0), .int .i64 (.ofNat 0), .nils], .int .i64 (.ofNat 0), .nils], ⟨hst29, 1527⟩, [(.bool true, ⟨hst29, 1696⟩)]⟩
theorem ce18_run : chkE callT ce18 = true := by kernel_rfl
theorem ce18_ok {a0 : Nat → Value} : CeOk a0 Tryz.prog ce18 := chkE_ok (ready.call S4_ok (mergeOf_ok _) 60) ce18_run
-- hostlerlaw19 said
noncomputable def ce19 : CE := ⟨17, [.ptr 28 0, .agg [.int .i64 (.ofNat 1), .str [102], .str [122], .str [], .int .i64 (.ofNat 0), .int .i64 (.ofNat 0), .int .i64 (.ofNat 0), .int .i64 (.ofNat 0), .slc 1700 0 1 none 2], .int .i64 (.ofNat 0), .slc 1702 0 1 (some 1) 0], ⟨hst30, 1703⟩, [(.bool true, ⟨hst31, 2078⟩)]⟩
theorem ce19_run : chkE callT ce19 = true := by kernel_rfl
theorem ce19_ok {a0 : Nat → Value} : CeOk a0 Tryz.prog ce19 := chkE_ok (ready.call S4_ok (mergeOf_ok _) 60) ce19_run
-- hostlerlaw19 said
noncomputable def ce20 : CE := ⟨17, [.ptr 28 0, .agg [.int .i64 (.ofNat 7), .str [102], .str [120], .str [], .int .i64 (.ofNat 1), .int .i64 (.ofNat 0), .int .i64 (.ofNat 0), .int .i64 (.ofNat 0), .nils], .int .i64 (.ofNat 0), .slc 2080 0 1 (some 1) 0], ⟨hst32, 2081⟩, [(.bool true, ⟨hst33, 2364⟩)]⟩
theorem ce20_run : chkE callT ce20 = true := by kernel_rfl
theorem ce20_ok {a0 : Nat → Value} : CeOk a0 Tryz.prog ce20 := chkE_ok (ready.call S4_ok (mergeOf_ok _) 60) ce20_run
-- hostlerlaw19 said
noncomputable def ce21 : CE := ⟨17, [.ptr 28 0, .agg [.int .i64 (.ofNat 1), .str [102], .str [120], .str [], .int .i64 (.ofNat 0), .int .i64 (.ofNat 0), .int .i64 (.ofNat 0), .int .i64 (.ofNat 0), .slc 38 0 1 none 2], .int .i64 (.ofNat 0), .slc 40 0 1 (some 1) 0], ⟨hst34, 41⟩, [(.bool true, ⟨hst35, 213⟩)]⟩
theorem ce21_run : chkE callT ce21 = true := by kernel_rfl
theorem ce21_ok {a0 : Nat → Value} : CeOk a0 Tryz.prog ce21 := chkE_ok (ready.call S4_ok (mergeOf_ok _) 60) ce21_run
-- hostlerlaw19 said
noncomputable def ce24 : CE := ⟨17, [.ptr 28 0, .agg [.int .i64 (.ofNat 1), .str [102], .str [121], .str [], .int .i64 (.ofNat 0), .int .i64 (.ofNat 0), .int .i64 (.ofNat 0), .int .i64 (.ofNat 0), .slc 846 0 1 none 2], .int .i64 (.ofNat 4), .nils], ⟨hst40, 847⟩, [(.bool true, ⟨hst40, 885⟩)]⟩
theorem ce24_run : chkE callT ce24 = true := by kernel_rfl
theorem ce24_ok {a0 : Nat → Value} : CeOk a0 Tryz.prog ce24 := chkE_ok (ready.call S4_ok (mergeOf_ok _) 60) ce24_run
end Go.AX

