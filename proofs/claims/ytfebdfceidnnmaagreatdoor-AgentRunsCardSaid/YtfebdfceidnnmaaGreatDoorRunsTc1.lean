/- AgentRuns, runs. -/
import Derived.Test.YtfebdfceidnnmaaGreatDoorRunsTe0
import Derived.Test.YtfebdfceidnnmaaGreatDoorRunsTe1
import Derived.Test.YtfebdfceidnnmaaGreatDoorRunsTe2
import Derived.Test.YtfebdfceidnnmaaGreatDoorRunsTe3
import Derived.Test.YtfebdfceidnnmaaGreatDoorRunsTe4
import Derived.Test.YtfebdfceidnnmaaGreatDoorRunsTe5
import Derived.Test.YtfebdfceidnnmaaGreatDoorRunsTe6
import Derived.Test.YtfebdfceidnnmaaGreatDoorRunsTe7
import Derived.Test.YtfebdfceidnnmaaGreatDoorRunsTe8
import Derived.Test.YtfebdfceidnnmaaGreatDoorRunsTe9
import Derived.Test.YtfebdfceidnnmaaGreatDoorRunsTe10
import Derived.Test.YtfebdfceidnnmaaGreatDoorRunsTe11
import Derived.Test.YtfebdfceidnnmaaGreatDoorRunsTe12
set_option autoImplicit false
set_option linter.unusedVariables false
set_option maxRecDepth 1000000
namespace Go.AX
open Go.Proofs
noncomputable def tl_1_0 : List CE := [ce0, ce1, ce2, ce3, ce4, ce5, ce73, ce74, ce75]
noncomputable def call_1_0 : CallF := fCall E CC mkT (orS (withinS 23 1 9 0) (orS (withinS 23 0 3 1) (orS (tabS tl_1_0) S4))) (mergeOf []) 60
theorem run_1_0 : allT (call_1_0 9 [.sym 0, .sym 1] ⟨T.nil, 0⟩) = true := by kernel_rfl
theorem walk_1_0 {n0 n1 : Int} (hn0 : (Lit.int .i64 n0).wf = true) (hn1 : (Lit.int .i64 n1).wf = true) (h0 : within n0 3 = (1 : Nat)) (h1 : within n1 9 = (0 : Nat)) (w : World) : Calls Tryz.prog 9 #[.int .i64 n0, .int .i64 n1] w fun e w' => e = .returned (.bool true) ∧ Same w w' := by
  have hc : CallOk (A0 n0 n1) Tryz.prog call_1_0 := ready.call (orS_ok (withinS_ok YtfebdfceidnnmaaGreatDoor.within_walk (by decide) (by decide) (a0 := A0 n0 n1) (i := 1) rfl hn1 h1) (orS_ok (withinS_ok YtfebdfceidnnmaaGreatDoor.within_walk (by decide) (by decide) (a0 := A0 n0 n1) (i := 0) rfl hn0 h0) (orS_ok (tabS_ok (tab_cons ce0_ok (tab_cons ce1_ok (tab_cons ce2_ok (tab_cons ce3_ok (tab_cons ce4_ok (tab_cons ce5_ok (tab_cons ce73_ok (tab_cons ce74_ok (tab_cons ce75_ok tab_nil)))))))))) S4_ok))) (mergeOf_ok _) 60
  exact walk_run hc run_1_0 (xs := [.int .i64 n0, .int .i64 n1]) (fun ρ => .cons _ _ _ _ (.sym 0 rfl) (.cons _ _ _ _ (.sym 1 rfl) (.nil)))
noncomputable def tl_1_1 : List CE := [ce0, ce9, ce10, ce11, ce12, ce13, ce76, ce77, ce78]
noncomputable def call_1_1 : CallF := fCall E CC mkT (orS (withinS 23 1 9 1) (orS (withinS 23 0 3 1) (orS (tabS tl_1_1) S4))) (mergeOf []) 60
theorem run_1_1 : allT (call_1_1 9 [.sym 0, .sym 1] ⟨T.nil, 0⟩) = true := by kernel_rfl
theorem walk_1_1 {n0 n1 : Int} (hn0 : (Lit.int .i64 n0).wf = true) (hn1 : (Lit.int .i64 n1).wf = true) (h0 : within n0 3 = (1 : Nat)) (h1 : within n1 9 = (1 : Nat)) (w : World) : Calls Tryz.prog 9 #[.int .i64 n0, .int .i64 n1] w fun e w' => e = .returned (.bool true) ∧ Same w w' := by
  have hc : CallOk (A0 n0 n1) Tryz.prog call_1_1 := ready.call (orS_ok (withinS_ok YtfebdfceidnnmaaGreatDoor.within_walk (by decide) (by decide) (a0 := A0 n0 n1) (i := 1) rfl hn1 h1) (orS_ok (withinS_ok YtfebdfceidnnmaaGreatDoor.within_walk (by decide) (by decide) (a0 := A0 n0 n1) (i := 0) rfl hn0 h0) (orS_ok (tabS_ok (tab_cons ce0_ok (tab_cons ce9_ok (tab_cons ce10_ok (tab_cons ce11_ok (tab_cons ce12_ok (tab_cons ce13_ok (tab_cons ce76_ok (tab_cons ce77_ok (tab_cons ce78_ok tab_nil)))))))))) S4_ok))) (mergeOf_ok _) 60
  exact walk_run hc run_1_1 (xs := [.int .i64 n0, .int .i64 n1]) (fun ρ => .cons _ _ _ _ (.sym 0 rfl) (.cons _ _ _ _ (.sym 1 rfl) (.nil)))
noncomputable def tl_1_2 : List CE := [ce0, ce17, ce18, ce19, ce20, ce21, ce79, ce80, ce81]
noncomputable def call_1_2 : CallF := fCall E CC mkT (orS (withinS 23 1 9 2) (orS (withinS 23 0 3 1) (orS (tabS tl_1_2) S4))) (mergeOf []) 60
theorem run_1_2 : allT (call_1_2 9 [.sym 0, .sym 1] ⟨T.nil, 0⟩) = true := by kernel_rfl
theorem walk_1_2 {n0 n1 : Int} (hn0 : (Lit.int .i64 n0).wf = true) (hn1 : (Lit.int .i64 n1).wf = true) (h0 : within n0 3 = (1 : Nat)) (h1 : within n1 9 = (2 : Nat)) (w : World) : Calls Tryz.prog 9 #[.int .i64 n0, .int .i64 n1] w fun e w' => e = .returned (.bool true) ∧ Same w w' := by
  have hc : CallOk (A0 n0 n1) Tryz.prog call_1_2 := ready.call (orS_ok (withinS_ok YtfebdfceidnnmaaGreatDoor.within_walk (by decide) (by decide) (a0 := A0 n0 n1) (i := 1) rfl hn1 h1) (orS_ok (withinS_ok YtfebdfceidnnmaaGreatDoor.within_walk (by decide) (by decide) (a0 := A0 n0 n1) (i := 0) rfl hn0 h0) (orS_ok (tabS_ok (tab_cons ce0_ok (tab_cons ce17_ok (tab_cons ce18_ok (tab_cons ce19_ok (tab_cons ce20_ok (tab_cons ce21_ok (tab_cons ce79_ok (tab_cons ce80_ok (tab_cons ce81_ok tab_nil)))))))))) S4_ok))) (mergeOf_ok _) 60
  exact walk_run hc run_1_2 (xs := [.int .i64 n0, .int .i64 n1]) (fun ρ => .cons _ _ _ _ (.sym 0 rfl) (.cons _ _ _ _ (.sym 1 rfl) (.nil)))
noncomputable def tl_1_3 : List CE := [ce0, ce25, ce26, ce27, ce28, ce29, ce82, ce83, ce84]
noncomputable def call_1_3 : CallF := fCall E CC mkT (orS (withinS 23 1 9 3) (orS (withinS 23 0 3 1) (orS (tabS tl_1_3) S4))) (mergeOf []) 60
theorem run_1_3 : allT (call_1_3 9 [.sym 0, .sym 1] ⟨T.nil, 0⟩) = true := by kernel_rfl
theorem walk_1_3 {n0 n1 : Int} (hn0 : (Lit.int .i64 n0).wf = true) (hn1 : (Lit.int .i64 n1).wf = true) (h0 : within n0 3 = (1 : Nat)) (h1 : within n1 9 = (3 : Nat)) (w : World) : Calls Tryz.prog 9 #[.int .i64 n0, .int .i64 n1] w fun e w' => e = .returned (.bool true) ∧ Same w w' := by
  have hc : CallOk (A0 n0 n1) Tryz.prog call_1_3 := ready.call (orS_ok (withinS_ok YtfebdfceidnnmaaGreatDoor.within_walk (by decide) (by decide) (a0 := A0 n0 n1) (i := 1) rfl hn1 h1) (orS_ok (withinS_ok YtfebdfceidnnmaaGreatDoor.within_walk (by decide) (by decide) (a0 := A0 n0 n1) (i := 0) rfl hn0 h0) (orS_ok (tabS_ok (tab_cons ce0_ok (tab_cons ce25_ok (tab_cons ce26_ok (tab_cons ce27_ok (tab_cons ce28_ok (tab_cons ce29_ok (tab_cons ce82_ok (tab_cons ce83_ok (tab_cons ce84_ok tab_nil)))))))))) S4_ok))) (mergeOf_ok _) 60
  exact walk_run hc run_1_3 (xs := [.int .i64 n0, .int .i64 n1]) (fun ρ => .cons _ _ _ _ (.sym 0 rfl) (.cons _ _ _ _ (.sym 1 rfl) (.nil)))
noncomputable def tl_1_4 : List CE := [ce0, ce33, ce34, ce35, ce36, ce37, ce85, ce86, ce87]
noncomputable def call_1_4 : CallF := fCall E CC mkT (orS (withinS 23 1 9 4) (orS (withinS 23 0 3 1) (orS (tabS tl_1_4) S4))) (mergeOf []) 60
theorem run_1_4 : allT (call_1_4 9 [.sym 0, .sym 1] ⟨T.nil, 0⟩) = true := by kernel_rfl
theorem walk_1_4 {n0 n1 : Int} (hn0 : (Lit.int .i64 n0).wf = true) (hn1 : (Lit.int .i64 n1).wf = true) (h0 : within n0 3 = (1 : Nat)) (h1 : within n1 9 = (4 : Nat)) (w : World) : Calls Tryz.prog 9 #[.int .i64 n0, .int .i64 n1] w fun e w' => e = .returned (.bool true) ∧ Same w w' := by
  have hc : CallOk (A0 n0 n1) Tryz.prog call_1_4 := ready.call (orS_ok (withinS_ok YtfebdfceidnnmaaGreatDoor.within_walk (by decide) (by decide) (a0 := A0 n0 n1) (i := 1) rfl hn1 h1) (orS_ok (withinS_ok YtfebdfceidnnmaaGreatDoor.within_walk (by decide) (by decide) (a0 := A0 n0 n1) (i := 0) rfl hn0 h0) (orS_ok (tabS_ok (tab_cons ce0_ok (tab_cons ce33_ok (tab_cons ce34_ok (tab_cons ce35_ok (tab_cons ce36_ok (tab_cons ce37_ok (tab_cons ce85_ok (tab_cons ce86_ok (tab_cons ce87_ok tab_nil)))))))))) S4_ok))) (mergeOf_ok _) 60
  exact walk_run hc run_1_4 (xs := [.int .i64 n0, .int .i64 n1]) (fun ρ => .cons _ _ _ _ (.sym 0 rfl) (.cons _ _ _ _ (.sym 1 rfl) (.nil)))
noncomputable def tl_1_5 : List CE := [ce0, ce41, ce42, ce43, ce44, ce45, ce88, ce89, ce90]
noncomputable def call_1_5 : CallF := fCall E CC mkT (orS (withinS 23 1 9 5) (orS (withinS 23 0 3 1) (orS (tabS tl_1_5) S4))) (mergeOf []) 60
theorem run_1_5 : allT (call_1_5 9 [.sym 0, .sym 1] ⟨T.nil, 0⟩) = true := by kernel_rfl
theorem walk_1_5 {n0 n1 : Int} (hn0 : (Lit.int .i64 n0).wf = true) (hn1 : (Lit.int .i64 n1).wf = true) (h0 : within n0 3 = (1 : Nat)) (h1 : within n1 9 = (5 : Nat)) (w : World) : Calls Tryz.prog 9 #[.int .i64 n0, .int .i64 n1] w fun e w' => e = .returned (.bool true) ∧ Same w w' := by
  have hc : CallOk (A0 n0 n1) Tryz.prog call_1_5 := ready.call (orS_ok (withinS_ok YtfebdfceidnnmaaGreatDoor.within_walk (by decide) (by decide) (a0 := A0 n0 n1) (i := 1) rfl hn1 h1) (orS_ok (withinS_ok YtfebdfceidnnmaaGreatDoor.within_walk (by decide) (by decide) (a0 := A0 n0 n1) (i := 0) rfl hn0 h0) (orS_ok (tabS_ok (tab_cons ce0_ok (tab_cons ce41_ok (tab_cons ce42_ok (tab_cons ce43_ok (tab_cons ce44_ok (tab_cons ce45_ok (tab_cons ce88_ok (tab_cons ce89_ok (tab_cons ce90_ok tab_nil)))))))))) S4_ok))) (mergeOf_ok _) 60
  exact walk_run hc run_1_5 (xs := [.int .i64 n0, .int .i64 n1]) (fun ρ => .cons _ _ _ _ (.sym 0 rfl) (.cons _ _ _ _ (.sym 1 rfl) (.nil)))
noncomputable def tl_1_6 : List CE := [ce0, ce49, ce50, ce51, ce52, ce53, ce91, ce92, ce93]
noncomputable def call_1_6 : CallF := fCall E CC mkT (orS (withinS 23 1 9 6) (orS (withinS 23 0 3 1) (orS (tabS tl_1_6) S4))) (mergeOf []) 60
theorem run_1_6 : allT (call_1_6 9 [.sym 0, .sym 1] ⟨T.nil, 0⟩) = true := by kernel_rfl
theorem walk_1_6 {n0 n1 : Int} (hn0 : (Lit.int .i64 n0).wf = true) (hn1 : (Lit.int .i64 n1).wf = true) (h0 : within n0 3 = (1 : Nat)) (h1 : within n1 9 = (6 : Nat)) (w : World) : Calls Tryz.prog 9 #[.int .i64 n0, .int .i64 n1] w fun e w' => e = .returned (.bool true) ∧ Same w w' := by
  have hc : CallOk (A0 n0 n1) Tryz.prog call_1_6 := ready.call (orS_ok (withinS_ok YtfebdfceidnnmaaGreatDoor.within_walk (by decide) (by decide) (a0 := A0 n0 n1) (i := 1) rfl hn1 h1) (orS_ok (withinS_ok YtfebdfceidnnmaaGreatDoor.within_walk (by decide) (by decide) (a0 := A0 n0 n1) (i := 0) rfl hn0 h0) (orS_ok (tabS_ok (tab_cons ce0_ok (tab_cons ce49_ok (tab_cons ce50_ok (tab_cons ce51_ok (tab_cons ce52_ok (tab_cons ce53_ok (tab_cons ce91_ok (tab_cons ce92_ok (tab_cons ce93_ok tab_nil)))))))))) S4_ok))) (mergeOf_ok _) 60
  exact walk_run hc run_1_6 (xs := [.int .i64 n0, .int .i64 n1]) (fun ρ => .cons _ _ _ _ (.sym 0 rfl) (.cons _ _ _ _ (.sym 1 rfl) (.nil)))
noncomputable def tl_1_7 : List CE := [ce0, ce57, ce58, ce59, ce60, ce61, ce94, ce95, ce96]
noncomputable def call_1_7 : CallF := fCall E CC mkT (orS (withinS 23 1 9 7) (orS (withinS 23 0 3 1) (orS (tabS tl_1_7) S4))) (mergeOf []) 60
theorem run_1_7 : allT (call_1_7 9 [.sym 0, .sym 1] ⟨T.nil, 0⟩) = true := by kernel_rfl
theorem walk_1_7 {n0 n1 : Int} (hn0 : (Lit.int .i64 n0).wf = true) (hn1 : (Lit.int .i64 n1).wf = true) (h0 : within n0 3 = (1 : Nat)) (h1 : within n1 9 = (7 : Nat)) (w : World) : Calls Tryz.prog 9 #[.int .i64 n0, .int .i64 n1] w fun e w' => e = .returned (.bool true) ∧ Same w w' := by
  have hc : CallOk (A0 n0 n1) Tryz.prog call_1_7 := ready.call (orS_ok (withinS_ok YtfebdfceidnnmaaGreatDoor.within_walk (by decide) (by decide) (a0 := A0 n0 n1) (i := 1) rfl hn1 h1) (orS_ok (withinS_ok YtfebdfceidnnmaaGreatDoor.within_walk (by decide) (by decide) (a0 := A0 n0 n1) (i := 0) rfl hn0 h0) (orS_ok (tabS_ok (tab_cons ce0_ok (tab_cons ce57_ok (tab_cons ce58_ok (tab_cons ce59_ok (tab_cons ce60_ok (tab_cons ce61_ok (tab_cons ce94_ok (tab_cons ce95_ok (tab_cons ce96_ok tab_nil)))))))))) S4_ok))) (mergeOf_ok _) 60
  exact walk_run hc run_1_7 (xs := [.int .i64 n0, .int .i64 n1]) (fun ρ => .cons _ _ _ _ (.sym 0 rfl) (.cons _ _ _ _ (.sym 1 rfl) (.nil)))
noncomputable def tl_1_8 : List CE := [ce0, ce65, ce66, ce67, ce68, ce69, ce97, ce98, ce99]
noncomputable def call_1_8 : CallF := fCall E CC mkT (orS (withinS 23 1 9 8) (orS (withinS 23 0 3 1) (orS (tabS tl_1_8) S4))) (mergeOf []) 60
theorem run_1_8 : allT (call_1_8 9 [.sym 0, .sym 1] ⟨T.nil, 0⟩) = true := by kernel_rfl
theorem walk_1_8 {n0 n1 : Int} (hn0 : (Lit.int .i64 n0).wf = true) (hn1 : (Lit.int .i64 n1).wf = true) (h0 : within n0 3 = (1 : Nat)) (h1 : within n1 9 = (8 : Nat)) (w : World) : Calls Tryz.prog 9 #[.int .i64 n0, .int .i64 n1] w fun e w' => e = .returned (.bool true) ∧ Same w w' := by
  have hc : CallOk (A0 n0 n1) Tryz.prog call_1_8 := ready.call (orS_ok (withinS_ok YtfebdfceidnnmaaGreatDoor.within_walk (by decide) (by decide) (a0 := A0 n0 n1) (i := 1) rfl hn1 h1) (orS_ok (withinS_ok YtfebdfceidnnmaaGreatDoor.within_walk (by decide) (by decide) (a0 := A0 n0 n1) (i := 0) rfl hn0 h0) (orS_ok (tabS_ok (tab_cons ce0_ok (tab_cons ce65_ok (tab_cons ce66_ok (tab_cons ce67_ok (tab_cons ce68_ok (tab_cons ce69_ok (tab_cons ce97_ok (tab_cons ce98_ok (tab_cons ce99_ok tab_nil)))))))))) S4_ok))) (mergeOf_ok _) 60
  exact walk_run hc run_1_8 (xs := [.int .i64 n0, .int .i64 n1]) (fun ρ => .cons _ _ _ _ (.sym 0 rfl) (.cons _ _ _ _ (.sym 1 rfl) (.nil)))
end Go.AX

