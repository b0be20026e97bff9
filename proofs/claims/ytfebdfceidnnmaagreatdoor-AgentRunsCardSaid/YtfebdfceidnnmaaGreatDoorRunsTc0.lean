/- AgentRuns, runs. -/
import Derived.Test.YtfebdfceidnnmaaGreatDoorRunsTe0
import Derived.Test.YtfebdfceidnnmaaGreatDoorRunsTe1
import Derived.Test.YtfebdfceidnnmaaGreatDoorRunsTe2
import Derived.Test.YtfebdfceidnnmaaGreatDoorRunsTe3
import Derived.Test.YtfebdfceidnnmaaGreatDoorRunsTe4
import Derived.Test.YtfebdfceidnnmaaGreatDoorRunsTe5
import Derived.Test.YtfebdfceidnnmaaGreatDoorRunsTe6
import Derived.Test.YtfebdfceidnnmaaGreatDoorRunsTe7
import Derived.Test.YtfebdfceidnnmaaGreatDoorRunsTe8
import Derived.Test.YtfebdfceidnnmaaGreatDoorRunsTe9
import Derived.Test.YtfebdfceidnnmaaGreatDoorRunsTe10
import Derived.Test.YtfebdfceidnnmaaGreatDoorRunsTe11
import Derived.Test.YtfebdfceidnnmaaGreatDoorRunsTe12
set_option autoImplicit false
set_option linter.unusedVariables false
set_option maxRecDepth 1000000
namespace Go.AX
open Go.Proofs
noncomputable def tl_0_0 : List CE := [ce0, ce1, ce2, ce3, ce4, ce5, ce6, ce7, ce8]
noncomputable def call_0_0 : CallF := fCall E CC mkT (orS (withinS 23 1 9 0) (orS (withinS 23 0 3 0) (orS (tabS tl_0_0) S4))) (mergeOf []) 60
theorem run_0_0 : allT (call_0_0 9 [.sym 0, .sym 1] ⟨T.nil, 0⟩) = true := by kernel_rfl
theorem walk_0_0 {n0 n1 : Int} (hn0 : (Lit.int .i64 n0).wf = true) (hn1 : (Lit.int .i64 n1).wf = true) (h0 : within n0 3 = (0 : Nat)) (h1 : within n1 9 = (0 : Nat)) (w : World) : Calls Tryz.prog 9 #[.int .i64 n0, .int .i64 n1] w fun e w' => e = .returned (.bool true) ∧ Same w w' := by
  have hc : CallOk (A0 n0 n1) Tryz.prog call_0_0 := ready.call (orS_ok (withinS_ok YtfebdfceidnnmaaGreatDoor.within_walk (by decide) (by decide) (a0 := A0 n0 n1) (i := 1) rfl hn1 h1) (orS_ok (withinS_ok YtfebdfceidnnmaaGreatDoor.within_walk (by decide) (by decide) (a0 := A0 n0 n1) (i := 0) rfl hn0 h0) (orS_ok (tabS_ok (tab_cons ce0_ok (tab_cons ce1_ok (tab_cons ce2_ok (tab_cons ce3_ok (tab_cons ce4_ok (tab_cons ce5_ok (tab_cons ce6_ok (tab_cons ce7_ok (tab_cons ce8_ok tab_nil)))))))))) S4_ok))) (mergeOf_ok _) 60
  exact walk_run hc run_0_0 (xs := [.int .i64 n0, .int .i64 n1]) (fun ρ => .cons _ _ _ _ (.sym 0 rfl) (.cons _ _ _ _ (.sym 1 rfl) (.nil)))
noncomputable def tl_0_1 : List CE := [ce0, ce9, ce10, ce11, ce12, ce13, ce14, ce15, ce16]
noncomputable def call_0_1 : CallF := fCall E CC mkT (orS (withinS 23 1 9 1) (orS (withinS 23 0 3 0) (orS (tabS tl_0_1) S4))) (mergeOf []) 60
theorem run_0_1 : allT (call_0_1 9 [.sym 0, .sym 1] ⟨T.nil, 0⟩) = true := by kernel_rfl
theorem walk_0_1 {n0 n1 : Int} (hn0 : (Lit.int .i64 n0).wf = true) (hn1 : (Lit.int .i64 n1).wf = true) (h0 : within n0 3 = (0 : Nat)) (h1 : within n1 9 = (1 : Nat)) (w : World) : Calls Tryz.prog 9 #[.int .i64 n0, .int .i64 n1] w fun e w' => e = .returned (.bool true) ∧ Same w w' := by
  have hc : CallOk (A0 n0 n1) Tryz.prog call_0_1 := ready.call (orS_ok (withinS_ok YtfebdfceidnnmaaGreatDoor.within_walk (by decide) (by decide) (a0 := A0 n0 n1) (i := 1) rfl hn1 h1) (orS_ok (withinS_ok YtfebdfceidnnmaaGreatDoor.within_walk (by decide) (by decide) (a0 := A0 n0 n1) (i := 0) rfl hn0 h0) (orS_ok (tabS_ok (tab_cons ce0_ok (tab_cons ce9_ok (tab_cons ce10_ok (tab_cons ce11_ok (tab_cons ce12_ok (tab_cons ce13_ok (tab_cons ce14_ok (tab_cons ce15_ok (tab_cons ce16_ok tab_nil)))))))))) S4_ok))) (mergeOf_ok _) 60
  exact walk_run hc run_0_1 (xs := [.int .i64 n0, .int .i64 n1]) (fun ρ => .cons _ _ _ _ (.sym 0 rfl) (.cons _ _ _ _ (.sym 1 rfl) (.nil)))
noncomputable def tl_0_2 : List CE := [ce0, ce17, ce18, ce19, ce20, ce21, ce22, ce23, ce24]
noncomputable def call_0_2 : CallF := fCall E CC mkT (orS (withinS 23 1 9 2) (orS (withinS 23 0 3 0) (orS (tabS tl_0_2) S4))) (mergeOf []) 60
theorem run_0_2 : allT (call_0_2 9 [.sym 0, .sym 1] ⟨T.nil, 0⟩) = true := by kernel_rfl
theorem walk_0_2 {n0 n1 : Int} (hn0 : (Lit.int .i64 n0).wf = true) (hn1 : (Lit.int .i64 n1).wf = true) (h0 : within n0 3 = (0 : Nat)) (h1 : within n1 9 = (2 : Nat)) (w : World) : Calls Tryz.prog 9 #[.int .i64 n0, .int .i64 n1] w fun e w' => e = .returned (.bool true) ∧ Same w w' := by
  have hc : CallOk (A0 n0 n1) Tryz.prog call_0_2 := ready.call (orS_ok (withinS_ok YtfebdfceidnnmaaGreatDoor.within_walk (by decide) (by decide) (a0 := A0 n0 n1) (i := 1) rfl hn1 h1) (orS_ok (withinS_ok YtfebdfceidnnmaaGreatDoor.within_walk (by decide) (by decide) (a0 := A0 n0 n1) (i := 0) rfl hn0 h0) (orS_ok (tabS_ok (tab_cons ce0_ok (tab_cons ce17_ok (tab_cons ce18_ok (tab_cons ce19_ok (tab_cons ce20_ok (tab_cons ce21_ok (tab_cons ce22_ok (tab_cons ce23_ok (tab_cons ce24_ok tab_nil)))))))))) S4_ok))) (mergeOf_ok _) 60
  exact walk_run hc run_0_2 (xs := [.int .i64 n0, .int .i64 n1]) (fun ρ => .cons _ _ _ _ (.sym 0 rfl) (.cons _ _ _ _ (.sym 1 rfl) (.nil)))
noncomputable def tl_0_3 : List CE := [ce0, ce25, ce26, ce27, ce28, ce29, ce30, ce31, ce32]
noncomputable def call_0_3 : CallF := fCall E CC mkT (orS (withinS 23 1 9 3) (orS (withinS 23 0 3 0) (orS (tabS tl_0_3) S4))) (mergeOf []) 60
theorem run_0_3 : allT (call_0_3 9 [.sym 0, .sym 1] ⟨T.nil, 0⟩) = true := by kernel_rfl
theorem walk_0_3 {n0 n1 : Int} (hn0 : (Lit.int .i64 n0).wf = true) (hn1 : (Lit.int .i64 n1).wf = true) (h0 : within n0 3 = (0 : Nat)) (h1 : within n1 9 = (3 : Nat)) (w : World) : Calls Tryz.prog 9 #[.int .i64 n0, .int .i64 n1] w fun e w' => e = .returned (.bool true) ∧ Same w w' := by
  have hc : CallOk (A0 n0 n1) Tryz.prog call_0_3 := ready.call (orS_ok (withinS_ok YtfebdfceidnnmaaGreatDoor.within_walk (by decide) (by decide) (a0 := A0 n0 n1) (i := 1) rfl hn1 h1) (orS_ok (withinS_ok YtfebdfceidnnmaaGreatDoor.within_walk (by decide) (by decide) (a0 := A0 n0 n1) (i := 0) rfl hn0 h0) (orS_ok (tabS_ok (tab_cons ce0_ok (tab_cons ce25_ok (tab_cons ce26_ok (tab_cons ce27_ok (tab_cons ce28_ok (tab_cons ce29_ok (tab_cons ce30_ok (tab_cons ce31_ok (tab_cons ce32_ok tab_nil)))))))))) S4_ok))) (mergeOf_ok _) 60
  exact walk_run hc run_0_3 (xs := [.int .i64 n0, .int .i64 n1]) (fun ρ => .cons _ _ _ _ (.sym 0 rfl) (.cons _ _ _ _ (.sym 1 rfl) (.nil)))
noncomputable def tl_0_4 : List CE := [ce0, ce33, ce34, ce35, ce36, ce37, ce38, ce39, ce40]
noncomputable def call_0_4 : CallF := fCall E CC mkT (orS (withinS 23 1 9 4) (orS (withinS 23 0 3 0) (orS (tabS tl_0_4) S4))) (mergeOf []) 60
theorem run_0_4 : allT (call_0_4 9 [.sym 0, .sym 1] ⟨T.nil, 0⟩) = true := by kernel_rfl
theorem walk_0_4 {n0 n1 : Int} (hn0 : (Lit.int .i64 n0).wf = true) (hn1 : (Lit.int .i64 n1).wf = true) (h0 : within n0 3 = (0 : Nat)) (h1 : within n1 9 = (4 : Nat)) (w : World) : Calls Tryz.prog 9 #[.int .i64 n0, .int .i64 n1] w fun e w' => e = .returned (.bool true) ∧ Same w w' := by
  have hc : CallOk (A0 n0 n1) Tryz.prog call_0_4 := ready.call (orS_ok (withinS_ok YtfebdfceidnnmaaGreatDoor.within_walk (by decide) (by decide) (a0 := A0 n0 n1) (i := 1) rfl hn1 h1) (orS_ok (withinS_ok YtfebdfceidnnmaaGreatDoor.within_walk (by decide) (by decide) (a0 := A0 n0 n1) (i := 0) rfl hn0 h0) (orS_ok (tabS_ok (tab_cons ce0_ok (tab_cons ce33_ok (tab_cons ce34_ok (tab_cons ce35_ok (tab_cons ce36_ok (tab_cons ce37_ok (tab_cons ce38_ok (tab_cons ce39_ok (tab_cons ce40_ok tab_nil)))))))))) S4_ok))) (mergeOf_ok _) 60
  exact walk_run hc run_0_4 (xs := [.int .i64 n0, .int .i64 n1]) (fun ρ => .cons _ _ _ _ (.sym 0 rfl) (.cons _ _ _ _ (.sym 1 rfl) (.nil)))
noncomputable def tl_0_5 : List CE := [ce0, ce41, ce42, ce43, ce44, ce45, ce46, ce47, ce48]
noncomputable def call_0_5 : CallF := fCall E CC mkT (orS (withinS 23 1 9 5) (orS (withinS 23 0 3 0) (orS (tabS tl_0_5) S4))) (mergeOf []) 60
theorem run_0_5 : allT (call_0_5 9 [.sym 0, .sym 1] ⟨T.nil, 0⟩) = true := by kernel_rfl
theorem walk_0_5 {n0 n1 : Int} (hn0 : (Lit.int .i64 n0).wf = true) (hn1 : (Lit.int .i64 n1).wf = true) (h0 : within n0 3 = (0 : Nat)) (h1 : within n1 9 = (5 : Nat)) (w : World) : Calls Tryz.prog 9 #[.int .i64 n0, .int .i64 n1] w fun e w' => e = .returned (.bool true) ∧ Same w w' := by
  have hc : CallOk (A0 n0 n1) Tryz.prog call_0_5 := ready.call (orS_ok (withinS_ok YtfebdfceidnnmaaGreatDoor.within_walk (by decide) (by decide) (a0 := A0 n0 n1) (i := 1) rfl hn1 h1) (orS_ok (withinS_ok YtfebdfceidnnmaaGreatDoor.within_walk (by decide) (by decide) (a0 := A0 n0 n1) (i := 0) rfl hn0 h0) (orS_ok (tabS_ok (tab_cons ce0_ok (tab_cons ce41_ok (tab_cons ce42_ok (tab_cons ce43_ok (tab_cons ce44_ok (tab_cons ce45_ok (tab_cons ce46_ok (tab_cons ce47_ok (tab_cons ce48_ok tab_nil)))))))))) S4_ok))) (mergeOf_ok _) 60
  exact walk_run hc run_0_5 (xs := [.int .i64 n0, .int .i64 n1]) (fun ρ => .cons _ _ _ _ (.sym 0 rfl) (.cons _ _ _ _ (.sym 1 rfl) (.nil)))
noncomputable def tl_0_6 : List CE := [ce0, ce49, ce50, ce51, ce52, ce53, ce54, ce55, ce56]
noncomputable def call_0_6 : CallF := fCall E CC mkT (orS (withinS 23 1 9 6) (orS (withinS 23 0 3 0) (orS (tabS tl_0_6) S4))) (mergeOf []) 60
theorem run_0_6 : allT (call_0_6 9 [.sym 0, .sym 1] ⟨T.nil, 0⟩) = true := by kernel_rfl
theorem walk_0_6 {n0 n1 : Int} (hn0 : (Lit.int .i64 n0).wf = true) (hn1 : (Lit.int .i64 n1).wf = true) (h0 : within n0 3 = (0 : Nat)) (h1 : within n1 9 = (6 : Nat)) (w : World) : Calls Tryz.prog 9 #[.int .i64 n0, .int .i64 n1] w fun e w' => e = .returned (.bool true) ∧ Same w w' := by
  have hc : CallOk (A0 n0 n1) Tryz.prog call_0_6 := ready.call (orS_ok (withinS_ok YtfebdfceidnnmaaGreatDoor.within_walk (by decide) (by decide) (a0 := A0 n0 n1) (i := 1) rfl hn1 h1) (orS_ok (withinS_ok YtfebdfceidnnmaaGreatDoor.within_walk (by decide) (by decide) (a0 := A0 n0 n1) (i := 0) rfl hn0 h0) (orS_ok (tabS_ok (tab_cons ce0_ok (tab_cons ce49_ok (tab_cons ce50_ok (tab_cons ce51_ok (tab_cons ce52_ok (tab_cons ce53_ok (tab_cons ce54_ok (tab_cons ce55_ok (tab_cons ce56_ok tab_nil)))))))))) S4_ok))) (mergeOf_ok _) 60
  exact walk_run hc run_0_6 (xs := [.int .i64 n0, .int .i64 n1]) (fun ρ => .cons _ _ _ _ (.sym 0 rfl) (.cons _ _ _ _ (.sym 1 rfl) (.nil)))
noncomputable def tl_0_7 : List CE := [ce0, ce57, ce58, ce59, ce60, ce61, ce62, ce63, ce64]
noncomputable def call_0_7 : CallF := fCall E CC mkT (orS (withinS 23 1 9 7) (orS (withinS 23 0 3 0) (orS (tabS tl_0_7) S4))) (mergeOf []) 60
theorem run_0_7 : allT (call_0_7 9 [.sym 0, .sym 1] ⟨T.nil, 0⟩) = true := by kernel_rfl
theorem walk_0_7 {n0 n1 : Int} (hn0 : (Lit.int .i64 n0).wf = true) (hn1 : (Lit.int .i64 n1).wf = true) (h0 : within n0 3 = (0 : Nat)) (h1 : within n1 9 = (7 : Nat)) (w : World) : Calls Tryz.prog 9 #[.int .i64 n0, .int .i64 n1] w fun e w' => e = .returned (.bool true) ∧ Same w w' := by
  have hc : CallOk (A0 n0 n1) Tryz.prog call_0_7 := ready.call (orS_ok (withinS_ok YtfebdfceidnnmaaGreatDoor.within_walk (by decide) (by decide) (a0 := A0 n0 n1) (i := 1) rfl hn1 h1) (orS_ok (withinS_ok YtfebdfceidnnmaaGreatDoor.within_walk (by decide) (by decide) (a0 := A0 n0 n1) (i := 0) rfl hn0 h0) (orS_ok (tabS_ok (tab_cons ce0_ok (tab_cons ce57_ok (tab_cons ce58_ok (tab_cons ce59_ok (tab_cons ce60_ok (tab_cons ce61_ok (tab_cons ce62_ok (tab_cons ce63_ok (tab_cons ce64_ok tab_nil)))))))))) S4_ok))) (mergeOf_ok _) 60
  exact walk_run hc run_0_7 (xs := [.int .i64 n0, .int .i64 n1]) (fun ρ => .cons _ _ _ _ (.sym 0 rfl) (.cons _ _ _ _ (.sym 1 rfl) (.nil)))
noncomputable def tl_0_8 : List CE := [ce0, ce65, ce66, ce67, ce68, ce69, ce70, ce71, ce72]
noncomputable def call_0_8 : CallF := fCall E CC mkT (orS (withinS 23 1 9 8) (orS (withinS 23 0 3 0) (orS (tabS tl_0_8) S4))) (mergeOf []) 60
theorem run_0_8 : allT (call_0_8 9 [.sym 0, .sym 1] ⟨T.nil, 0⟩) = true := by kernel_rfl
theorem walk_0_8 {n0 n1 : Int} (hn0 : (Lit.int .i64 n0).wf = true) (hn1 : (Lit.int .i64 n1).wf = true) (h0 : within n0 3 = (0 : Nat)) (h1 : within n1 9 = (8 : Nat)) (w : World) : Calls Tryz.prog 9 #[.int .i64 n0, .int .i64 n1] w fun e w' => e = .returned (.bool true) ∧ Same w w' := by
  have hc : CallOk (A0 n0 n1) Tryz.prog call_0_8 := ready.call (orS_ok (withinS_ok YtfebdfceidnnmaaGreatDoor.within_walk (by decide) (by decide) (a0 := A0 n0 n1) (i := 1) rfl hn1 h1) (orS_ok (withinS_ok YtfebdfceidnnmaaGreatDoor.within_walk (by decide) (by decide) (a0 := A0 n0 n1) (i := 0) rfl hn0 h0) (orS_ok (tabS_ok (tab_cons ce0_ok (tab_cons ce65_ok (tab_cons ce66_ok (tab_cons ce67_ok (tab_cons ce68_ok (tab_cons ce69_ok (tab_cons ce70_ok (tab_cons ce71_ok (tab_cons ce72_ok tab_nil)))))))))) S4_ok))) (mergeOf_ok _) 60
  exact walk_run hc run_0_8 (xs := [.int .i64 n0, .int .i64 n1]) (fun ρ => .cons _ _ _ _ (.sym 0 rfl) (.cons _ _ _ _ (.sym 1 rfl) (.nil)))
end Go.AX

