/- AgentBoxes, calls. -/
import Derived.Test.YtfebdfceidnnmaaGreatDoorBoxesTb
import Derived.Test.YtfebdfceidnnmaaGreatDoorBoxesTs1
set_option autoImplicit false
set_option linter.unusedVariables false
set_option maxRecDepth 1000000
namespace Go.AX
open Go.Proofs
-- hostlerlaw19 said
noncomputable def ce217 : CE := ⟨17, [.ptr 29 0, .agg [.int .i64 (.ofNat 1), .str [102], .str [120], .str [], .int .i64 (.ofNat 0), .int .i64 (.ofNat 0), .int .i64 (.ofNat 0), .int .i64 (.ofNat 0), .slc 39 0 1 none 2], .int .i64 (.ofNat 0), .slc 41 0 1 (some 1) 0], ⟨hst322, 42⟩, [(.bool true, ⟨hst323, 214⟩)]⟩
theorem ce217_run : chkE callT ce217 = true := by kernel_rfl
theorem ce217_ok {a0 : Nat → Value} : CeOk a0 Tryz.prog ce217 := chkE_ok (ready.call S4_ok (mergeOf_ok _) 60) ce217_run
-- hostlerlaw19 said
noncomputable def ce219 : CE := ⟨17, [.ptr 29 0, .agg [.int .i64 (.ofNat 9), .str [102], .str [120], .str [], .int .i64 (.ofNat 1), .int .i64 (.ofNat 0), .int .i64 (.ofNat 0), .int .i64 (.ofNat 0), .nils], .int .i64 (.ofNat 0), .slc 298 0 1 (some 1) 0], ⟨hst326, 299⟩, [(.bool true, ⟨hst327, 396⟩)]⟩
theorem ce219_run : chkE callT ce219 = true := by kernel_rfl
theorem ce219_ok {a0 : Nat → Value} : CeOk a0 Tryz.prog ce219 := chkE_ok (ready.call S4_ok (mergeOf_ok _) 60) ce219_run
-- hostlerlaw19 said
noncomputable def ce220 : CE := ⟨17, [.ptr 29 0, .agg [.int .i64 (.ofNat 4), .str [102], .str [], .str [97], .int .i64 (.ofNat 0), .int .i64 (.ofNat 0), .int .i64 (.ofNat 1), .int .i64 (.ofNat 1), .nils], .int .i64 (.ofNat 0), .nils], ⟨hst327, 397⟩, [(.bool true, ⟨hst328, 464⟩)]⟩
theorem ce220_run : chkE callT ce220 = true := by kernel_rfl
theorem ce220_ok {a0 : Nat → Value} : CeOk a0 Tryz.prog ce220 := chkE_ok (ready.call S4_ok (mergeOf_ok _) 60) ce220_run
-- agent Agent) Tick
noncomputable def ce221 : CE := ⟨42, [.ptr 29 0, .int .i64 (.ofNat 0)], ⟨hst329, 879⟩, [(.tup [.nils, .int .i64 (.ofNat 0)], ⟨hst330, 935⟩)]⟩
theorem ce221_run : chkE callT ce221 = true := by kernel_rfl
theorem ce221_ok {a0 : Nat → Value} : CeOk a0 Tryz.prog ce221 := chkE_ok (ready.call S4_ok (mergeOf_ok _) 60) ce221_run
-- agent Agent) Tick
noncomputable def ce223 : CE := ⟨42, [.ptr 29 0, .int .i64 (.ofNat 0)], ⟨hst325, 293⟩, [(.tup [.nils, .int .i64 (.ofNat 0)], ⟨hst332, 338⟩)]⟩
theorem ce223_run : chkE callT ce223 = true := by kernel_rfl
theorem ce223_ok {a0 : Nat → Value} : CeOk a0 Tryz.prog ce223 := chkE_ok (ready.call S4_ok (mergeOf_ok _) 60) ce223_run
-- hostlerlaw19 said
noncomputable def ce224 : CE := ⟨17, [.ptr 29 0, .agg [.int .i64 (.ofNat 9), .str [102], .str [120], .str [], .int .i64 (.ofNat 1), .int .i64 (.ofNat 0), .int .i64 (.ofNat 0), .int .i64 (.ofNat 0), .nils], .int .i64 (.ofNat 0), .slc 343 0 1 (some 1) 0], ⟨hst333, 344⟩, [(.bool true, ⟨hst334, 441⟩)]⟩
theorem ce224_run : chkE callT ce224 = true := by kernel_rfl
theorem ce224_ok {a0 : Nat → Value} : CeOk a0 Tryz.prog ce224 := chkE_ok (ready.call S4_ok (mergeOf_ok _) 60) ce224_run
-- hostlerlaw19 said
noncomputable def ce225 : CE := ⟨17, [.ptr 29 0, .agg [.int .i64 (.ofNat 4), .str [102], .str [], .str [97], .int .i64 (.ofNat 0), .int .i64 (.ofNat 0), .int .i64 (.ofNat 1), .int .i64 (.ofNat 1), .nils], .int .i64 (.ofNat 0), .nils], ⟨hst334, 442⟩, [(.bool true, ⟨hst335, 509⟩)]⟩
theorem ce225_run : chkE callT ce225 = true := by kernel_rfl
theorem ce225_ok {a0 : Nat → Value} : CeOk a0 Tryz.prog ce225 := chkE_ok (ready.call S4_ok (mergeOf_ok _) 60) ce225_run
-- agent Agent) Tick
noncomputable def ce226 : CE := ⟨42, [.ptr 29 0, .int .i64 (.ofNat 0)], ⟨hst336, 924⟩, [(.tup [.nils, .int .i64 (.ofNat 0)], ⟨hst337, 980⟩)]⟩
theorem ce226_run : chkE callT ce226 = true := by kernel_rfl
theorem ce226_ok {a0 : Nat → Value} : CeOk a0 Tryz.prog ce226 := chkE_ok (ready.call S4_ok (mergeOf_ok _) 60) ce226_run
-- hostlerlaw19 said
noncomputable def ce227 : CE := ⟨17, [.ptr 29 0, .agg [.int .i64 (.ofNat 1), .str [102], .str [120], .str [], .int .i64 (.ofNat 0), .int .i64 (.ofNat 0), .int .i64 (.ofNat 0), .int .i64 (.ofNat 0), .slc 996 0 1 none 2], .int .i64 (.ofNat 4), .nils], ⟨hst338, 997⟩, [(.bool true, ⟨hst338, 1023⟩)]⟩
theorem ce227_run : chkE callT ce227 = true := by kernel_rfl
theorem ce227_ok {a0 : Nat → Value} : CeOk a0 Tryz.prog ce227 := chkE_ok (ready.call S4_ok (mergeOf_ok _) 60) ce227_run
-- agent Agent) Tick
noncomputable def ce228 : CE := ⟨42, [.ptr 29 0, .int .i64 (.ofNat 0)], ⟨hst332, 338⟩, [(.tup [.nils, .int .i64 (.ofNat 0)], ⟨hst339, 383⟩)]⟩
theorem ce228_run : chkE callT ce228 = true := by kernel_rfl
theorem ce228_ok {a0 : Nat → Value} : CeOk a0 Tryz.prog ce228 := chkE_ok (ready.call S4_ok (mergeOf_ok _) 60) ce228_run
-- hostlerlaw19 said
noncomputable def ce229 : CE := ⟨17, [.ptr 29 0, .agg [.int .i64 (.ofNat 9), .str [102], .str [120], .str [], .int .i64 (.ofNat 1), .int .i64 (.ofNat 0), .int .i64 (.ofNat 0), .int .i64 (.ofNat 0), .nils], .int .i64 (.ofNat 0), .slc 388 0 1 (some 1) 0], ⟨hst340, 389⟩, [(.bool true, ⟨hst341, 486⟩)]⟩
theorem ce229_run : chkE callT ce229 = true := by kernel_rfl
theorem ce229_ok {a0 : Nat → Value} : CeOk a0 Tryz.prog ce229 := chkE_ok (ready.call S4_ok (mergeOf_ok _) 60) ce229_run
-- hostlerlaw19 said
noncomputable def ce230 : CE := ⟨17, [.ptr 29 0, .agg [.int .i64 (.ofNat 4), .str [102], .str [], .str [97], .int .i64 (.ofNat 0), .int .i64 (.ofNat 0), .int .i64 (.ofNat 1), .int .i64 (.ofNat 1), .nils], .int .i64 (.ofNat 0), .nils], ⟨hst341, 487⟩, [(.bool true, ⟨hst342, 554⟩)]⟩
theorem ce230_run : chkE callT ce230 = true := by kernel_rfl
theorem ce230_ok {a0 : Nat → Value} : CeOk a0 Tryz.prog ce230 := chkE_ok (ready.call S4_ok (mergeOf_ok _) 60) ce230_run
-- agent Agent) Tick
noncomputable def ce231 : CE := ⟨42, [.ptr 29 0, .int .i64 (.ofNat 0)], ⟨hst343, 969⟩, [(.tup [.nils, .int .i64 (.ofNat 0)], ⟨hst344, 1025⟩)]⟩
theorem ce231_run : chkE callT ce231 = true := by kernel_rfl
theorem ce231_ok {a0 : Nat → Value} : CeOk a0 Tryz.prog ce231 := chkE_ok (ready.call S4_ok (mergeOf_ok _) 60) ce231_run
-- hostlerlaw19 said
noncomputable def ce232 : CE := ⟨17, [.ptr 29 0, .agg [.int .i64 (.ofNat 1), .str [102], .str [120], .str [], .int .i64 (.ofNat 0), .int .i64 (.ofNat 0), .int .i64 (.ofNat 0), .int .i64 (.ofNat 0), .slc 1041 0 1 none 2], .int .i64 (.ofNat 4), .nils], ⟨hst345, 1042⟩, [(.bool true, ⟨hst345, 1068⟩)]⟩
theorem ce232_run : chkE callT ce232 = true := by kernel_rfl
theorem ce232_ok {a0 : Nat → Value} : CeOk a0 Tryz.prog ce232 := chkE_ok (ready.call S4_ok (mergeOf_ok _) 60) ce232_run
-- agent Agent) Tick
noncomputable def ce233 : CE := ⟨42, [.ptr 29 0, .int .i64 (.ofNat 0)], ⟨hst339, 383⟩, [(.tup [.nils, .int .i64 (.ofNat 0)], ⟨hst346, 428⟩)]⟩
theorem ce233_run : chkE callT ce233 = true := by kernel_rfl
theorem ce233_ok {a0 : Nat → Value} : CeOk a0 Tryz.prog ce233 := chkE_ok (ready.call S4_ok (mergeOf_ok _) 60) ce233_run
-- hostlerlaw19 said
noncomputable def ce234 : CE := ⟨17, [.ptr 29 0, .agg [.int .i64 (.ofNat 9), .str [102], .str [120], .str [], .int .i64 (.ofNat 1), .int .i64 (.ofNat 0), .int .i64 (.ofNat 0), .int .i64 (.ofNat 0), .nils], .int .i64 (.ofNat 0), .slc 433 0 1 (some 1) 0], ⟨hst347, 434⟩, [(.bool true, ⟨hst348, 531⟩)]⟩
theorem ce234_run : chkE callT ce234 = true := by kernel_rfl
theorem ce234_ok {a0 : Nat → Value} : CeOk a0 Tryz.prog ce234 := chkE_ok (ready.call S4_ok (mergeOf_ok _) 60) ce234_run
-- hostlerlaw19 said
noncomputable def ce237 : CE := ⟨17, [.ptr 29 0, .agg [.int .i64 (.ofNat 1), .str [102], .str [120], .str [], .int .i64 (.ofNat 0), .int .i64 (.ofNat 0), .int .i64 (.ofNat 0), .int .i64 (.ofNat 0), .slc 1086 0 1 none 2], .int .i64 (.ofNat 4), .nils], ⟨hst352, 1087⟩, [(.bool true, ⟨hst352, 1113⟩)]⟩
theorem ce237_run : chkE callT ce237 = true := by kernel_rfl
theorem ce237_ok {a0 : Nat → Value} : CeOk a0 Tryz.prog ce237 := chkE_ok (ready.call S4_ok (mergeOf_ok _) 60) ce237_run
end Go.AX

