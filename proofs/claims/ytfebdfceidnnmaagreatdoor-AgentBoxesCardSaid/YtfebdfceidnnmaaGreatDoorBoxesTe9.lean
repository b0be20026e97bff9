/- AgentBoxes, calls. -/
import Derived.Test.YtfebdfceidnnmaaGreatDoorBoxesTb
import Derived.Test.YtfebdfceidnnmaaGreatDoorBoxesTs1
set_option autoImplicit false
set_option linter.unusedVariables false
set_option maxRecDepth 1000000
namespace Go.AX
open Go.Proofs
-- hostlerlaw19 said
noncomputable def ce163 : CE := ⟨17, [.ptr 29 0, .agg [.int .i64 (.ofNat 1), .str [102], .str [120], .str [], .int .i64 (.ofNat 0), .int .i64 (.ofNat 0), .int .i64 (.ofNat 0), .int .i64 (.ofNat 0), .slc 39 0 1 none 2], .int .i64 (.ofNat 0), .slc 41 0 1 (some 1) 0], ⟨hst242, 42⟩, [(.bool true, ⟨hst243, 214⟩)]⟩
theorem ce163_run : chkE callT ce163 = true := by kernel_rfl
theorem ce163_ok {a0 : Nat → Value} : CeOk a0 Tryz.prog ce163 := chkE_ok (ready.call S4_ok (mergeOf_ok _) 60) ce163_run
-- hostlerlaw19 said
noncomputable def ce165 : CE := ⟨17, [.ptr 29 0, .agg [.int .i64 (.ofNat 9), .str [102], .str [120], .str [], .int .i64 (.ofNat 1), .int .i64 (.ofNat 0), .int .i64 (.ofNat 0), .int .i64 (.ofNat 0), .nils], .int .i64 (.ofNat 0), .slc 298 0 1 (some 1) 0], ⟨hst246, 299⟩, [(.bool true, ⟨hst247, 396⟩)]⟩
theorem ce165_run : chkE callT ce165 = true := by kernel_rfl
theorem ce165_ok {a0 : Nat → Value} : CeOk a0 Tryz.prog ce165 := chkE_ok (ready.call S4_ok (mergeOf_ok _) 60) ce165_run
-- hostlerlaw19 said
noncomputable def ce166 : CE := ⟨17, [.ptr 29 0, .agg [.int .i64 (.ofNat 4), .str [102], .str [], .str [97], .int .i64 (.ofNat 0), .int .i64 (.ofNat 0), .int .i64 (.ofNat 1), .int .i64 (.ofNat 1), .nils], .int .i64 (.ofNat 0), .nils], ⟨hst247, 397⟩, [(.bool true, ⟨hst248, 464⟩)]⟩
theorem ce166_run : chkE callT ce166 = true := by kernel_rfl
theorem ce166_ok {a0 : Nat → Value} : CeOk a0 Tryz.prog ce166 := chkE_ok (ready.call S4_ok (mergeOf_ok _) 60) ce166_run
-- agent Agent) Tick
noncomputable def ce167 : CE := ⟨42, [.ptr 29 0, .int .i64 (.ofNat 0)], ⟨hst249, 777⟩, [(.tup [.nils, .int .i64 (.ofNat 0)], ⟨hst250, 833⟩)]⟩
theorem ce167_run : chkE callT ce167 = true := by kernel_rfl
theorem ce167_ok {a0 : Nat → Value} : CeOk a0 Tryz.prog ce167 := chkE_ok (ready.call S4_ok (mergeOf_ok _) 60) ce167_run
-- hostlerlaw19 said
noncomputable def ce168 : CE := ⟨17, [.ptr 29 0, .agg [.int .i64 (.ofNat 1), .str [102], .str [120], .str [], .int .i64 (.ofNat 0), .int .i64 (.ofNat 0), .int .i64 (.ofNat 0), .int .i64 (.ofNat 0), .slc 849 0 1 none 2], .int .i64 (.ofNat 4), .nils], ⟨hst251, 850⟩, [(.bool true, ⟨hst251, 876⟩)]⟩
theorem ce168_run : chkE callT ce168 = true := by kernel_rfl
theorem ce168_ok {a0 : Nat → Value} : CeOk a0 Tryz.prog ce168 := chkE_ok (ready.call S4_ok (mergeOf_ok _) 60) ce168_run
-- agent Agent) Tick
noncomputable def ce169 : CE := ⟨42, [.ptr 29 0, .int .i64 (.ofNat 0)], ⟨hst245, 293⟩, [(.tup [.nils, .int .i64 (.ofNat 0)], ⟨hst252, 338⟩)]⟩
theorem ce169_run : chkE callT ce169 = true := by kernel_rfl
theorem ce169_ok {a0 : Nat → Value} : CeOk a0 Tryz.prog ce169 := chkE_ok (ready.call S4_ok (mergeOf_ok _) 60) ce169_run
-- hostlerlaw19 said
noncomputable def ce170 : CE := ⟨17, [.ptr 29 0, .agg [.int .i64 (.ofNat 9), .str [102], .str [120], .str [], .int .i64 (.ofNat 1), .int .i64 (.ofNat 0), .int .i64 (.ofNat 0), .int .i64 (.ofNat 0), .nils], .int .i64 (.ofNat 0), .slc 343 0 1 (some 1) 0], ⟨hst253, 344⟩, [(.bool true, ⟨hst254, 441⟩)]⟩
theorem ce170_run : chkE callT ce170 = true := by kernel_rfl
theorem ce170_ok {a0 : Nat → Value} : CeOk a0 Tryz.prog ce170 := chkE_ok (ready.call S4_ok (mergeOf_ok _) 60) ce170_run
-- hostlerlaw19 said
noncomputable def ce171 : CE := ⟨17, [.ptr 29 0, .agg [.int .i64 (.ofNat 4), .str [102], .str [], .str [97], .int .i64 (.ofNat 0), .int .i64 (.ofNat 0), .int .i64 (.ofNat 1), .int .i64 (.ofNat 1), .nils], .int .i64 (.ofNat 0), .nils], ⟨hst254, 442⟩, [(.bool true, ⟨hst255, 509⟩)]⟩
theorem ce171_run : chkE callT ce171 = true := by kernel_rfl
theorem ce171_ok {a0 : Nat → Value} : CeOk a0 Tryz.prog ce171 := chkE_ok (ready.call S4_ok (mergeOf_ok _) 60) ce171_run
-- agent Agent) Tick
noncomputable def ce172 : CE := ⟨42, [.ptr 29 0, .int .i64 (.ofNat 0)], ⟨hst256, 822⟩, [(.tup [.nils, .int .i64 (.ofNat 0)], ⟨hst257, 878⟩)]⟩
theorem ce172_run : chkE callT ce172 = true := by kernel_rfl
theorem ce172_ok {a0 : Nat → Value} : CeOk a0 Tryz.prog ce172 := chkE_ok (ready.call S4_ok (mergeOf_ok _) 60) ce172_run
-- hostlerlaw19 said
noncomputable def ce173 : CE := ⟨17, [.ptr 29 0, .agg [.int .i64 (.ofNat 1), .str [102], .str [120], .str [], .int .i64 (.ofNat 0), .int .i64 (.ofNat 0), .int .i64 (.ofNat 0), .int .i64 (.ofNat 0), .slc 894 0 1 none 2], .int .i64 (.ofNat 4), .nils], ⟨hst258, 895⟩, [(.bool true, ⟨hst258, 921⟩)]⟩
theorem ce173_run : chkE callT ce173 = true := by kernel_rfl
theorem ce173_ok {a0 : Nat → Value} : CeOk a0 Tryz.prog ce173 := chkE_ok (ready.call S4_ok (mergeOf_ok _) 60) ce173_run
-- agent Agent) Tick
noncomputable def ce174 : CE := ⟨42, [.ptr 29 0, .int .i64 (.ofNat 0)], ⟨hst252, 338⟩, [(.tup [.nils, .int .i64 (.ofNat 0)], ⟨hst259, 383⟩)]⟩
theorem ce174_run : chkE callT ce174 = true := by kernel_rfl
theorem ce174_ok {a0 : Nat → Value} : CeOk a0 Tryz.prog ce174 := chkE_ok (ready.call S4_ok (mergeOf_ok _) 60) ce174_run
-- hostlerlaw19 said
noncomputable def ce175 : CE := ⟨17, [.ptr 29 0, .agg [.int .i64 (.ofNat 9), .str [102], .str [120], .str [], .int .i64 (.ofNat 1), .int .i64 (.ofNat 0), .int .i64 (.ofNat 0), .int .i64 (.ofNat 0), .nils], .int .i64 (.ofNat 0), .slc 388 0 1 (some 1) 0], ⟨hst260, 389⟩, [(.bool true, ⟨hst261, 486⟩)]⟩
theorem ce175_run : chkE callT ce175 = true := by kernel_rfl
theorem ce175_ok {a0 : Nat → Value} : CeOk a0 Tryz.prog ce175 := chkE_ok (ready.call S4_ok (mergeOf_ok _) 60) ce175_run
-- hostlerlaw19 said
noncomputable def ce176 : CE := ⟨17, [.ptr 29 0, .agg [.int .i64 (.ofNat 4), .str [102], .str [], .str [97], .int .i64 (.ofNat 0), .int .i64 (.ofNat 0), .int .i64 (.ofNat 1), .int .i64 (.ofNat 1), .nils], .int .i64 (.ofNat 0), .nils], ⟨hst261, 487⟩, [(.bool true, ⟨hst262, 554⟩)]⟩
theorem ce176_run : chkE callT ce176 = true := by kernel_rfl
theorem ce176_ok {a0 : Nat → Value} : CeOk a0 Tryz.prog ce176 := chkE_ok (ready.call S4_ok (mergeOf_ok _) 60) ce176_run
-- agent Agent) Tick
noncomputable def ce177 : CE := ⟨42, [.ptr 29 0, .int .i64 (.ofNat 0)], ⟨hst263, 867⟩, [(.tup [.nils, .int .i64 (.ofNat 0)], ⟨hst264, 923⟩)]⟩
theorem ce177_run : chkE callT ce177 = true := by kernel_rfl
theorem ce177_ok {a0 : Nat → Value} : CeOk a0 Tryz.prog ce177 := chkE_ok (ready.call S4_ok (mergeOf_ok _) 60) ce177_run
-- hostlerlaw19 said
noncomputable def ce178 : CE := ⟨17, [.ptr 29 0, .agg [.int .i64 (.ofNat 1), .str [102], .str [120], .str [], .int .i64 (.ofNat 0), .int .i64 (.ofNat 0), .int .i64 (.ofNat 0), .int .i64 (.ofNat 0), .slc 939 0 1 none 2], .int .i64 (.ofNat 4), .nils], ⟨hst265, 940⟩, [(.bool true, ⟨hst265, 966⟩)]⟩
theorem ce178_run : chkE callT ce178 = true := by kernel_rfl
theorem ce178_ok {a0 : Nat → Value} : CeOk a0 Tryz.prog ce178 := chkE_ok (ready.call S4_ok (mergeOf_ok _) 60) ce178_run
-- agent Agent) Tick
noncomputable def ce179 : CE := ⟨42, [.ptr 29 0, .int .i64 (.ofNat 0)], ⟨hst259, 383⟩, [(.tup [.nils, .int .i64 (.ofNat 0)], ⟨hst266, 428⟩)]⟩
theorem ce179_run : chkE callT ce179 = true := by kernel_rfl
theorem ce179_ok {a0 : Nat → Value} : CeOk a0 Tryz.prog ce179 := chkE_ok (ready.call S4_ok (mergeOf_ok _) 60) ce179_run
-- hostlerlaw19 said
noncomputable def ce180 : CE := ⟨17, [.ptr 29 0, .agg [.int .i64 (.ofNat 9), .str [102], .str [120], .str [], .int .i64 (.ofNat 1), .int .i64 (.ofNat 0), .int .i64 (.ofNat 0), .int .i64 (.ofNat 0), .nils], .int .i64 (.ofNat 0), .slc 433 0 1 (some 1) 0], ⟨hst267, 434⟩, [(.bool true, ⟨hst268, 531⟩)]⟩
theorem ce180_run : chkE callT ce180 = true := by kernel_rfl
theorem ce180_ok {a0 : Nat → Value} : CeOk a0 Tryz.prog ce180 := chkE_ok (ready.call S4_ok (mergeOf_ok _) 60) ce180_run
end Go.AX

