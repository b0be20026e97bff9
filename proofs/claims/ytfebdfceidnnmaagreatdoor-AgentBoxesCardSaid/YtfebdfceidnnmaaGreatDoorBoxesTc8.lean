/- AgentBoxes, runs. -/
import Derived.Test.YtfebdfceidnnmaaGreatDoorBoxesTe0
import Derived.Test.YtfebdfceidnnmaaGreatDoorBoxesTe1
import Derived.Test.YtfebdfceidnnmaaGreatDoorBoxesTe2
import Derived.Test.YtfebdfceidnnmaaGreatDoorBoxesTe3
import Derived.Test.YtfebdfceidnnmaaGreatDoorBoxesTe4
import Derived.Test.YtfebdfceidnnmaaGreatDoorBoxesTe5
import Derived.Test.YtfebdfceidnnmaaGreatDoorBoxesTe6
import Derived.Test.YtfebdfceidnnmaaGreatDoorBoxesTe7
import Derived.Test.YtfebdfceidnnmaaGreatDoorBoxesTe8
import Derived.Test.YtfebdfceidnnmaaGreatDoorBoxesTe9
import Derived.Test.YtfebdfceidnnmaaGreatDoorBoxesTe10
import Derived.Test.YtfebdfceidnnmaaGreatDoorBoxesTe11
import Derived.Test.YtfebdfceidnnmaaGreatDoorBoxesTe12
import Derived.Test.YtfebdfceidnnmaaGreatDoorBoxesTe13
set_option autoImplicit false
set_option linter.unusedVariables false
set_option maxRecDepth 1000000
namespace Go.AX
open Go.Proofs
noncomputable def tl_8_0 : List CE := [ce216, ce217, ce218, ce219, ce220, ce221, ce222]
noncomputable def call_8_0 : CallF := fCall E CC mkT (orS (withinS 23 1 5 0) (orS (withinS 23 0 9 8) (orS (tabS tl_8_0) S4))) (mergeOf []) 60
theorem run_8_0 : allT (call_8_0 14 [.sym 0, .sym 1] ⟨T.nil, 0⟩) = true := by kernel_rfl
theorem walk_8_0 {n0 n1 : Int} (hn0 : (Lit.int .i64 n0).wf = true) (hn1 : (Lit.int .i64 n1).wf = true) (h0 : within n0 9 = (8 : Nat)) (h1 : within n1 5 = (0 : Nat)) (w : World) : Calls Tryz.prog 14 #[.int .i64 n0, .int .i64 n1] w fun e w' => e = .returned (.bool true) ∧ Same w w' := by
  have hc : CallOk (A0 n0 n1) Tryz.prog call_8_0 := ready.call (orS_ok (withinS_ok YtfebdfceidnnmaaGreatDoor.within_walk (by decide) (by decide) (a0 := A0 n0 n1) (i := 1) rfl hn1 h1) (orS_ok (withinS_ok YtfebdfceidnnmaaGreatDoor.within_walk (by decide) (by decide) (a0 := A0 n0 n1) (i := 0) rfl hn0 h0) (orS_ok (tabS_ok (tab_cons ce216_ok (tab_cons ce217_ok (tab_cons ce218_ok (tab_cons ce219_ok (tab_cons ce220_ok (tab_cons ce221_ok (tab_cons ce222_ok tab_nil)))))))) S4_ok))) (mergeOf_ok _) 60
  exact walk_run hc run_8_0 (xs := [.int .i64 n0, .int .i64 n1]) (fun ρ => .cons _ _ _ _ (.sym 0 rfl) (.cons _ _ _ _ (.sym 1 rfl) (.nil)))
noncomputable def tl_8_1 : List CE := [ce216, ce217, ce218, ce223, ce224, ce225, ce226, ce227]
noncomputable def call_8_1 : CallF := fCall E CC mkT (orS (withinS 23 1 5 1) (orS (withinS 23 0 9 8) (orS (tabS tl_8_1) S4))) (mergeOf []) 60
theorem run_8_1 : allT (call_8_1 14 [.sym 0, .sym 1] ⟨T.nil, 0⟩) = true := by kernel_rfl
theorem walk_8_1 {n0 n1 : Int} (hn0 : (Lit.int .i64 n0).wf = true) (hn1 : (Lit.int .i64 n1).wf = true) (h0 : within n0 9 = (8 : Nat)) (h1 : within n1 5 = (1 : Nat)) (w : World) : Calls Tryz.prog 14 #[.int .i64 n0, .int .i64 n1] w fun e w' => e = .returned (.bool true) ∧ Same w w' := by
  have hc : CallOk (A0 n0 n1) Tryz.prog call_8_1 := ready.call (orS_ok (withinS_ok YtfebdfceidnnmaaGreatDoor.within_walk (by decide) (by decide) (a0 := A0 n0 n1) (i := 1) rfl hn1 h1) (orS_ok (withinS_ok YtfebdfceidnnmaaGreatDoor.within_walk (by decide) (by decide) (a0 := A0 n0 n1) (i := 0) rfl hn0 h0) (orS_ok (tabS_ok (tab_cons ce216_ok (tab_cons ce217_ok (tab_cons ce218_ok (tab_cons ce223_ok (tab_cons ce224_ok (tab_cons ce225_ok (tab_cons ce226_ok (tab_cons ce227_ok tab_nil))))))))) S4_ok))) (mergeOf_ok _) 60
  exact walk_run hc run_8_1 (xs := [.int .i64 n0, .int .i64 n1]) (fun ρ => .cons _ _ _ _ (.sym 0 rfl) (.cons _ _ _ _ (.sym 1 rfl) (.nil)))
noncomputable def tl_8_2 : List CE := [ce216, ce217, ce218, ce223, ce228, ce229, ce230, ce231, ce232]
noncomputable def call_8_2 : CallF := fCall E CC mkT (orS (withinS 23 1 5 2) (orS (withinS 23 0 9 8) (orS (tabS tl_8_2) S4))) (mergeOf []) 60
theorem run_8_2 : allT (call_8_2 14 [.sym 0, .sym 1] ⟨T.nil, 0⟩) = true := by kernel_rfl
theorem walk_8_2 {n0 n1 : Int} (hn0 : (Lit.int .i64 n0).wf = true) (hn1 : (Lit.int .i64 n1).wf = true) (h0 : within n0 9 = (8 : Nat)) (h1 : within n1 5 = (2 : Nat)) (w : World) : Calls Tryz.prog 14 #[.int .i64 n0, .int .i64 n1] w fun e w' => e = .returned (.bool true) ∧ Same w w' := by
  have hc : CallOk (A0 n0 n1) Tryz.prog call_8_2 := ready.call (orS_ok (withinS_ok YtfebdfceidnnmaaGreatDoor.within_walk (by decide) (by decide) (a0 := A0 n0 n1) (i := 1) rfl hn1 h1) (orS_ok (withinS_ok YtfebdfceidnnmaaGreatDoor.within_walk (by decide) (by decide) (a0 := A0 n0 n1) (i := 0) rfl hn0 h0) (orS_ok (tabS_ok (tab_cons ce216_ok (tab_cons ce217_ok (tab_cons ce218_ok (tab_cons ce223_ok (tab_cons ce228_ok (tab_cons ce229_ok (tab_cons ce230_ok (tab_cons ce231_ok (tab_cons ce232_ok tab_nil)))))))))) S4_ok))) (mergeOf_ok _) 60
  exact walk_run hc run_8_2 (xs := [.int .i64 n0, .int .i64 n1]) (fun ρ => .cons _ _ _ _ (.sym 0 rfl) (.cons _ _ _ _ (.sym 1 rfl) (.nil)))
noncomputable def tl_8_3 : List CE := [ce216, ce217, ce218, ce223, ce228, ce233, ce234, ce235, ce236, ce237]
noncomputable def call_8_3 : CallF := fCall E CC mkT (orS (withinS 23 1 5 3) (orS (withinS 23 0 9 8) (orS (tabS tl_8_3) S4))) (mergeOf []) 60
theorem run_8_3 : allT (call_8_3 14 [.sym 0, .sym 1] ⟨T.nil, 0⟩) = true := by kernel_rfl
theorem walk_8_3 {n0 n1 : Int} (hn0 : (Lit.int .i64 n0).wf = true) (hn1 : (Lit.int .i64 n1).wf = true) (h0 : within n0 9 = (8 : Nat)) (h1 : within n1 5 = (3 : Nat)) (w : World) : Calls Tryz.prog 14 #[.int .i64 n0, .int .i64 n1] w fun e w' => e = .returned (.bool true) ∧ Same w w' := by
  have hc : CallOk (A0 n0 n1) Tryz.prog call_8_3 := ready.call (orS_ok (withinS_ok YtfebdfceidnnmaaGreatDoor.within_walk (by decide) (by decide) (a0 := A0 n0 n1) (i := 1) rfl hn1 h1) (orS_ok (withinS_ok YtfebdfceidnnmaaGreatDoor.within_walk (by decide) (by decide) (a0 := A0 n0 n1) (i := 0) rfl hn0 h0) (orS_ok (tabS_ok (tab_cons ce216_ok (tab_cons ce217_ok (tab_cons ce218_ok (tab_cons ce223_ok (tab_cons ce228_ok (tab_cons ce233_ok (tab_cons ce234_ok (tab_cons ce235_ok (tab_cons ce236_ok (tab_cons ce237_ok tab_nil))))))))))) S4_ok))) (mergeOf_ok _) 60
  exact walk_run hc run_8_3 (xs := [.int .i64 n0, .int .i64 n1]) (fun ρ => .cons _ _ _ _ (.sym 0 rfl) (.cons _ _ _ _ (.sym 1 rfl) (.nil)))
noncomputable def tl_8_4 : List CE := [ce216, ce217, ce218, ce223, ce228, ce233, ce238, ce239, ce240, ce241, ce242]
noncomputable def call_8_4 : CallF := fCall E CC mkT (orS (withinS 23 1 5 4) (orS (withinS 23 0 9 8) (orS (tabS tl_8_4) S4))) (mergeOf []) 60
theorem run_8_4 : allT (call_8_4 14 [.sym 0, .sym 1] ⟨T.nil, 0⟩) = true := by kernel_rfl
theorem walk_8_4 {n0 n1 : Int} (hn0 : (Lit.int .i64 n0).wf = true) (hn1 : (Lit.int .i64 n1).wf = true) (h0 : within n0 9 = (8 : Nat)) (h1 : within n1 5 = (4 : Nat)) (w : World) : Calls Tryz.prog 14 #[.int .i64 n0, .int .i64 n1] w fun e w' => e = .returned (.bool true) ∧ Same w w' := by
  have hc : CallOk (A0 n0 n1) Tryz.prog call_8_4 := ready.call (orS_ok (withinS_ok YtfebdfceidnnmaaGreatDoor.within_walk (by decide) (by decide) (a0 := A0 n0 n1) (i := 1) rfl hn1 h1) (orS_ok (withinS_ok YtfebdfceidnnmaaGreatDoor.within_walk (by decide) (by decide) (a0 := A0 n0 n1) (i := 0) rfl hn0 h0) (orS_ok (tabS_ok (tab_cons ce216_ok (tab_cons ce217_ok (tab_cons ce218_ok (tab_cons ce223_ok (tab_cons ce228_ok (tab_cons ce233_ok (tab_cons ce238_ok (tab_cons ce239_ok (tab_cons ce240_ok (tab_cons ce241_ok (tab_cons ce242_ok tab_nil)))))))))))) S4_ok))) (mergeOf_ok _) 60
  exact walk_run hc run_8_4 (xs := [.int .i64 n0, .int .i64 n1]) (fun ρ => .cons _ _ _ _ (.sym 0 rfl) (.cons _ _ _ _ (.sym 1 rfl) (.nil)))
end Go.AX

