/- AgentGroups, calls. -/
import Derived.Test.YtfebdfceidnnmaaGreatDoorGroupsTb
import Derived.Test.YtfebdfceidnnmaaGreatDoorGroupsTs0
set_option autoImplicit false
set_option linter.unusedVariables false
set_option maxRecDepth 1000000
namespace Go.AX
open Go.Proofs
-- hostlerlaw19 said
noncomputable def ce15 : CE := ⟨17, [.ptr 28 0, .agg [.int .i64 (.ofNat 7), .str [102], .str [120], .str [], .int .i64 (.ofNat 1), .int .i64 (.ofNat 0), .int .i64 (.ofNat 0), .int .i64 (.ofNat 0), .nils], .int .i64 (.ofNat 0), .slc 52 0 3 none 9], ⟨hst25, 328⟩, [(.bool true, ⟨hst26, 475⟩)]⟩
theorem ce15_run : chkE callT ce15 = true := by kernel_rfl
theorem ce15_ok {a0 : Nat → Value} : CeOk a0 Tryz.prog ce15 := chkE_ok (ready.call S4_ok (mergeOf_ok _) 60) ce15_run
-- hostlerlaw19 said
noncomputable def ce16 : CE := ⟨17, [.ptr 28 0, .agg [.int .i64 (.ofNat 1), .str [102], .str [120], .str [], .int .i64 (.ofNat 0), .int .i64 (.ofNat 0), .int .i64 (.ofNat 0), .int .i64 (.ofNat 0), .slc 481 0 2 none 2], .int .i64 (.ofNat 0), .slc 490 0 2 (some 2) 0], ⟨hst27, 491⟩, [(.bool true, ⟨hst28, 811⟩)]⟩
theorem ce16_run : chkE callT ce16 = true := by kernel_rfl
theorem ce16_ok {a0 : Nat → Value} : CeOk a0 Tryz.prog ce16 := chkE_ok (ready.call S4_ok (mergeOf_ok _) 60) ce16_run
-- hostlerlaw19 said
noncomputable def ce17 : CE := ⟨17, [.ptr 28 0, .agg [.int .i64 (.ofNat 8), .str [102], .str [120], .str [112], .int .i64 (.ofNat 1), .int .i64 (.ofNat 2), .int .i64 (.ofNat 0), .int .i64 (.ofNat 0), .nils], .int .i64 (.ofNat 0), .slc 815 0 1 (some 1) 0], ⟨hst29, 816⟩, [(.bool true, ⟨hst30, 1059⟩)]⟩
theorem ce17_run : chkE callT ce17 = true := by kernel_rfl
theorem ce17_ok {a0 : Nat → Value} : CeOk a0 Tryz.prog ce17 := chkE_ok (ready.call S4_ok (mergeOf_ok _) 60) ce17_run
end Go.AX

