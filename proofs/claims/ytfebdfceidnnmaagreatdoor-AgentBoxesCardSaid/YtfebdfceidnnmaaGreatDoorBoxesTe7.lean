/- AgentBoxes, calls. -/
import Derived.Test.YtfebdfceidnnmaaGreatDoorBoxesTb
import Derived.Test.YtfebdfceidnnmaaGreatDoorBoxesTs1
set_option autoImplicit false
set_option linter.unusedVariables false
set_option maxRecDepth 1000000
namespace Go.AX
open Go.Proofs
-- hostlerlaw19 said
noncomputable def ce126 : CE := ⟨17, [.ptr 29 0, .agg [.int .i64 (.ofNat 9), .str [102], .str [120], .str [], .int .i64 (.ofNat 1), .int .i64 (.ofNat 0), .int .i64 (.ofNat 0), .int .i64 (.ofNat 0), .nils], .int .i64 (.ofNat 0), .slc 433 0 1 (some 1) 0], ⟨hst187, 434⟩, [(.bool true, ⟨hst188, 531⟩)]⟩
theorem ce126_run : chkE callT ce126 = true := by kernel_rfl
theorem ce126_ok {a0 : Nat → Value} : CeOk a0 Tryz.prog ce126 := chkE_ok (ready.call S4_ok (mergeOf_ok _) 60) ce126_run
-- agent Agent) Tick
noncomputable def ce128 : CE := ⟨42, [.ptr 29 0, .int .i64 (.ofNat 0)], ⟨hst190, 810⟩, [(.tup [.nils, .int .i64 (.ofNat 0)], ⟨hst191, 866⟩)]⟩
theorem ce128_run : chkE callT ce128 = true := by kernel_rfl
theorem ce128_ok {a0 : Nat → Value} : CeOk a0 Tryz.prog ce128 := chkE_ok (ready.call S4_ok (mergeOf_ok _) 60) ce128_run
-- hostlerlaw19 said
noncomputable def ce129 : CE := ⟨17, [.ptr 29 0, .agg [.int .i64 (.ofNat 1), .str [102], .str [120], .str [], .int .i64 (.ofNat 0), .int .i64 (.ofNat 0), .int .i64 (.ofNat 0), .int .i64 (.ofNat 0), .slc 882 0 1 none 2], .int .i64 (.ofNat 4), .nils], ⟨hst192, 883⟩, [(.bool true, ⟨hst192, 909⟩)]⟩
theorem ce129_run : chkE callT ce129 = true := by kernel_rfl
theorem ce129_ok {a0 : Nat → Value} : CeOk a0 Tryz.prog ce129 := chkE_ok (ready.call S4_ok (mergeOf_ok _) 60) ce129_run
-- agent Agent) Tick
noncomputable def ce130 : CE := ⟨42, [.ptr 29 0, .int .i64 (.ofNat 0)], ⟨hst186, 428⟩, [(.tup [.nils, .int .i64 (.ofNat 0)], ⟨hst193, 473⟩)]⟩
theorem ce130_run : chkE callT ce130 = true := by kernel_rfl
theorem ce130_ok {a0 : Nat → Value} : CeOk a0 Tryz.prog ce130 := chkE_ok (ready.call S4_ok (mergeOf_ok _) 60) ce130_run
-- hostlerlaw19 said
noncomputable def ce131 : CE := ⟨17, [.ptr 29 0, .agg [.int .i64 (.ofNat 9), .str [102], .str [120], .str [], .int .i64 (.ofNat 1), .int .i64 (.ofNat 0), .int .i64 (.ofNat 0), .int .i64 (.ofNat 0), .nils], .int .i64 (.ofNat 0), .slc 478 0 1 (some 1) 0], ⟨hst194, 479⟩, [(.bool true, ⟨hst195, 576⟩)]⟩
theorem ce131_run : chkE callT ce131 = true := by kernel_rfl
theorem ce131_ok {a0 : Nat → Value} : CeOk a0 Tryz.prog ce131 := chkE_ok (ready.call S4_ok (mergeOf_ok _) 60) ce131_run
-- hostlerlaw19 said
noncomputable def ce132 : CE := ⟨17, [.ptr 29 0, .agg [.int .i64 (.ofNat 4), .str [102], .str [], .str [97], .int .i64 (.ofNat 0), .int .i64 (.ofNat 0), .int .i64 (.ofNat 1), .int .i64 (.ofNat 1), .nils], .int .i64 (.ofNat 0), .nils], ⟨hst195, 577⟩, [(.bool true, ⟨hst196, 644⟩)]⟩
theorem ce132_run : chkE callT ce132 = true := by kernel_rfl
theorem ce132_ok {a0 : Nat → Value} : CeOk a0 Tryz.prog ce132 := chkE_ok (ready.call S4_ok (mergeOf_ok _) 60) ce132_run
-- agent Agent) Tick
noncomputable def ce133 : CE := ⟨42, [.ptr 29 0, .int .i64 (.ofNat 0)], ⟨hst197, 855⟩, [(.tup [.nils, .int .i64 (.ofNat 0)], ⟨hst198, 911⟩)]⟩
theorem ce133_run : chkE callT ce133 = true := by kernel_rfl
theorem ce133_ok {a0 : Nat → Value} : CeOk a0 Tryz.prog ce133 := chkE_ok (ready.call S4_ok (mergeOf_ok _) 60) ce133_run
-- hostlerlaw19 said
noncomputable def ce134 : CE := ⟨17, [.ptr 29 0, .agg [.int .i64 (.ofNat 1), .str [102], .str [120], .str [], .int .i64 (.ofNat 0), .int .i64 (.ofNat 0), .int .i64 (.ofNat 0), .int .i64 (.ofNat 0), .slc 927 0 1 none 2], .int .i64 (.ofNat 4), .nils], ⟨hst199, 928⟩, [(.bool true, ⟨hst199, 954⟩)]⟩
theorem ce134_run : chkE callT ce134 = true := by kernel_rfl
theorem ce134_ok {a0 : Nat → Value} : CeOk a0 Tryz.prog ce134 := chkE_ok (ready.call S4_ok (mergeOf_ok _) 60) ce134_run
-- hostlerlaw19 said
noncomputable def ce136 : CE := ⟨17, [.ptr 29 0, .agg [.int .i64 (.ofNat 1), .str [102], .str [120], .str [], .int .i64 (.ofNat 0), .int .i64 (.ofNat 0), .int .i64 (.ofNat 0), .int .i64 (.ofNat 0), .slc 39 0 1 none 2], .int .i64 (.ofNat 0), .slc 41 0 1 (some 1) 0], ⟨hst202, 42⟩, [(.bool true, ⟨hst203, 214⟩)]⟩
theorem ce136_run : chkE callT ce136 = true := by kernel_rfl
theorem ce136_ok {a0 : Nat → Value} : CeOk a0 Tryz.prog ce136 := chkE_ok (ready.call S4_ok (mergeOf_ok _) 60) ce136_run
-- hostlerlaw19 said
noncomputable def ce137 : CE := ⟨17, [.ptr 29 0, .agg [.int .i64 (.ofNat 7), .str [102], .str [120], .str [], .int .i64 (.ofNat 1), .int .i64 (.ofNat 0), .int .i64 (.ofNat 0), .int .i64 (.ofNat 0), .nils], .int .i64 (.ofNat 0), .slc 219 0 1 (some 1) 0], ⟨hst204, 220⟩, [(.bool true, ⟨hst205, 293⟩)]⟩
theorem ce137_run : chkE callT ce137 = true := by kernel_rfl
theorem ce137_ok {a0 : Nat → Value} : CeOk a0 Tryz.prog ce137 := chkE_ok (ready.call S4_ok (mergeOf_ok _) 60) ce137_run
-- hostlerlaw19 said
noncomputable def ce138 : CE := ⟨17, [.ptr 29 0, .agg [.int .i64 (.ofNat 9), .str [102], .str [120], .str [], .int .i64 (.ofNat 1), .int .i64 (.ofNat 0), .int .i64 (.ofNat 0), .int .i64 (.ofNat 0), .nils], .int .i64 (.ofNat 0), .slc 298 0 1 (some 1) 0], ⟨hst206, 299⟩, [(.bool true, ⟨hst207, 396⟩)]⟩
theorem ce138_run : chkE callT ce138 = true := by kernel_rfl
theorem ce138_ok {a0 : Nat → Value} : CeOk a0 Tryz.prog ce138 := chkE_ok (ready.call S4_ok (mergeOf_ok _) 60) ce138_run
-- hostlerlaw19 said
noncomputable def ce139 : CE := ⟨17, [.ptr 29 0, .agg [.int .i64 (.ofNat 4), .str [102], .str [], .str [97], .int .i64 (.ofNat 0), .int .i64 (.ofNat 0), .int .i64 (.ofNat 1), .int .i64 (.ofNat 1), .nils], .int .i64 (.ofNat 0), .nils], ⟨hst207, 397⟩, [(.bool true, ⟨hst208, 464⟩)]⟩
theorem ce139_run : chkE callT ce139 = true := by kernel_rfl
theorem ce139_ok {a0 : Nat → Value} : CeOk a0 Tryz.prog ce139 := chkE_ok (ready.call S4_ok (mergeOf_ok _) 60) ce139_run
-- agent Agent) Tick
noncomputable def ce140 : CE := ⟨42, [.ptr 29 0, .int .i64 (.ofNat 0)], ⟨hst209, 726⟩, [(.tup [.nils, .int .i64 (.ofNat 0)], ⟨hst210, 782⟩)]⟩
theorem ce140_run : chkE callT ce140 = true := by kernel_rfl
theorem ce140_ok {a0 : Nat → Value} : CeOk a0 Tryz.prog ce140 := chkE_ok (ready.call S4_ok (mergeOf_ok _) 60) ce140_run
-- hostlerlaw19 said
noncomputable def ce141 : CE := ⟨17, [.ptr 29 0, .agg [.int .i64 (.ofNat 1), .str [102], .str [120], .str [], .int .i64 (.ofNat 0), .int .i64 (.ofNat 0), .int .i64 (.ofNat 0), .int .i64 (.ofNat 0), .slc 798 0 1 none 2], .int .i64 (.ofNat 4), .nils], ⟨hst211, 799⟩, [(.bool true, ⟨hst211, 825⟩)]⟩
theorem ce141_run : chkE callT ce141 = true := by kernel_rfl
theorem ce141_ok {a0 : Nat → Value} : CeOk a0 Tryz.prog ce141 := chkE_ok (ready.call S4_ok (mergeOf_ok _) 60) ce141_run
-- agent Agent) Tick
noncomputable def ce142 : CE := ⟨42, [.ptr 29 0, .int .i64 (.ofNat 0)], ⟨hst205, 293⟩, [(.tup [.nils, .int .i64 (.ofNat 0)], ⟨hst212, 338⟩)]⟩
theorem ce142_run : chkE callT ce142 = true := by kernel_rfl
theorem ce142_ok {a0 : Nat → Value} : CeOk a0 Tryz.prog ce142 := chkE_ok (ready.call S4_ok (mergeOf_ok _) 60) ce142_run
-- hostlerlaw19 said
noncomputable def ce143 : CE := ⟨17, [.ptr 29 0, .agg [.int .i64 (.ofNat 9), .str [102], .str [120], .str [], .int .i64 (.ofNat 1), .int .i64 (.ofNat 0), .int .i64 (.ofNat 0), .int .i64 (.ofNat 0), .nils], .int .i64 (.ofNat 0), .slc 343 0 1 (some 1) 0], ⟨hst213, 344⟩, [(.bool true, ⟨hst214, 441⟩)]⟩
theorem ce143_run : chkE callT ce143 = true := by kernel_rfl
theorem ce143_ok {a0 : Nat → Value} : CeOk a0 Tryz.prog ce143 := chkE_ok (ready.call S4_ok (mergeOf_ok _) 60) ce143_run
-- hostlerlaw19 said
noncomputable def ce146 : CE := ⟨17, [.ptr 29 0, .agg [.int .i64 (.ofNat 1), .str [102], .str [120], .str [], .int .i64 (.ofNat 0), .int .i64 (.ofNat 0), .int .i64 (.ofNat 0), .int .i64 (.ofNat 0), .slc 843 0 1 none 2], .int .i64 (.ofNat 4), .nils], ⟨hst218, 844⟩, [(.bool true, ⟨hst218, 870⟩)]⟩
theorem ce146_run : chkE callT ce146 = true := by kernel_rfl
theorem ce146_ok {a0 : Nat → Value} : CeOk a0 Tryz.prog ce146 := chkE_ok (ready.call S4_ok (mergeOf_ok _) 60) ce146_run
end Go.AX

