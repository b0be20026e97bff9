/- AgentBoxes, runs. -/
import Derived.Test.YtfebdfceidnnmaaGreatDoorBoxesTe0
import Derived.Test.YtfebdfceidnnmaaGreatDoorBoxesTe1
import Derived.Test.YtfebdfceidnnmaaGreatDoorBoxesTe2
import Derived.Test.YtfebdfceidnnmaaGreatDoorBoxesTe3
import Derived.Test.YtfebdfceidnnmaaGreatDoorBoxesTe4
import Derived.Test.YtfebdfceidnnmaaGreatDoorBoxesTe5
import Derived.Test.YtfebdfceidnnmaaGreatDoorBoxesTe6
import Derived.Test.YtfebdfceidnnmaaGreatDoorBoxesTe7
import Derived.Test.YtfebdfceidnnmaaGreatDoorBoxesTe8
import Derived.Test.YtfebdfceidnnmaaGreatDoorBoxesTe9
import Derived.Test.YtfebdfceidnnmaaGreatDoorBoxesTe10
import Derived.Test.YtfebdfceidnnmaaGreatDoorBoxesTe11
import Derived.Test.YtfebdfceidnnmaaGreatDoorBoxesTe12
import Derived.Test.YtfebdfceidnnmaaGreatDoorBoxesTe13
set_option autoImplicit false
set_option linter.unusedVariables false
set_option maxRecDepth 1000000
namespace Go.AX
open Go.Proofs
noncomputable def tl_0_0 : List CE := [ce0, ce1, ce2, ce3, ce4, ce5, ce6]
noncomputable def call_0_0 : CallF := fCall E CC mkT (orS (withinS 23 1 5 0) (orS (withinS 23 0 9 0) (orS (tabS tl_0_0) S4))) (mergeOf []) 60
theorem run_0_0 : allT (call_0_0 14 [.sym 0, .sym 1] ⟨T.nil, 0⟩) = true := by kernel_rfl
theorem walk_0_0 {n0 n1 : Int} (hn0 : (Lit.int .i64 n0).wf = true) (hn1 : (Lit.int .i64 n1).wf = true) (h0 : within n0 9 = (0 : Nat)) (h1 : within n1 5 = (0 : Nat)) (w : World) : Calls Tryz.prog 14 #[.int .i64 n0, .int .i64 n1] w fun e w' => e = .returned (.bool true) ∧ Same w w' := by
  have hc : CallOk (A0 n0 n1) Tryz.prog call_0_0 := ready.call (orS_ok (withinS_ok YtfebdfceidnnmaaGreatDoor.within_walk (by decide) (by decide) (a0 := A0 n0 n1) (i := 1) rfl hn1 h1) (orS_ok (withinS_ok YtfebdfceidnnmaaGreatDoor.within_walk (by decide) (by decide) (a0 := A0 n0 n1) (i := 0) rfl hn0 h0) (orS_ok (tabS_ok (tab_cons ce0_ok (tab_cons ce1_ok (tab_cons ce2_ok (tab_cons ce3_ok (tab_cons ce4_ok (tab_cons ce5_ok (tab_cons ce6_ok tab_nil)))))))) S4_ok))) (mergeOf_ok _) 60
  exact walk_run hc run_0_0 (xs := [.int .i64 n0, .int .i64 n1]) (fun ρ => .cons _ _ _ _ (.sym 0 rfl) (.cons _ _ _ _ (.sym 1 rfl) (.nil)))
noncomputable def tl_0_1 : List CE := [ce0, ce1, ce2, ce7, ce8, ce9, ce10, ce11]
noncomputable def call_0_1 : CallF := fCall E CC mkT (orS (withinS 23 1 5 1) (orS (withinS 23 0 9 0) (orS (tabS tl_0_1) S4))) (mergeOf []) 60
theorem run_0_1 : allT (call_0_1 14 [.sym 0, .sym 1] ⟨T.nil, 0⟩) = true := by kernel_rfl
theorem walk_0_1 {n0 n1 : Int} (hn0 : (Lit.int .i64 n0).wf = true) (hn1 : (Lit.int .i64 n1).wf = true) (h0 : within n0 9 = (0 : Nat)) (h1 : within n1 5 = (1 : Nat)) (w : World) : Calls Tryz.prog 14 #[.int .i64 n0, .int .i64 n1] w fun e w' => e = .returned (.bool true) ∧ Same w w' := by
  have hc : CallOk (A0 n0 n1) Tryz.prog call_0_1 := ready.call (orS_ok (withinS_ok YtfebdfceidnnmaaGreatDoor.within_walk (by decide) (by decide) (a0 := A0 n0 n1) (i := 1) rfl hn1 h1) (orS_ok (withinS_ok YtfebdfceidnnmaaGreatDoor.within_walk (by decide) (by decide) (a0 := A0 n0 n1) (i := 0) rfl hn0 h0) (orS_ok (tabS_ok (tab_cons ce0_ok (tab_cons ce1_ok (tab_cons ce2_ok (tab_cons ce7_ok (tab_cons ce8_ok (tab_cons ce9_ok (tab_cons ce10_ok (tab_cons ce11_ok tab_nil))))))))) S4_ok))) (mergeOf_ok _) 60
  exact walk_run hc run_0_1 (xs := [.int .i64 n0, .int .i64 n1]) (fun ρ => .cons _ _ _ _ (.sym 0 rfl) (.cons _ _ _ _ (.sym 1 rfl) (.nil)))
noncomputable def tl_0_2 : List CE := [ce0, ce1, ce2, ce7, ce12, ce13, ce14, ce15, ce16]
noncomputable def call_0_2 : CallF := fCall E CC mkT (orS (withinS 23 1 5 2) (orS (withinS 23 0 9 0) (orS (tabS tl_0_2) S4))) (mergeOf []) 60
theorem run_0_2 : allT (call_0_2 14 [.sym 0, .sym 1] ⟨T.nil, 0⟩) = true := by kernel_rfl
theorem walk_0_2 {n0 n1 : Int} (hn0 : (Lit.int .i64 n0).wf = true) (hn1 : (Lit.int .i64 n1).wf = true) (h0 : within n0 9 = (0 : Nat)) (h1 : within n1 5 = (2 : Nat)) (w : World) : Calls Tryz.prog 14 #[.int .i64 n0, .int .i64 n1] w fun e w' => e = .returned (.bool true) ∧ Same w w' := by
  have hc : CallOk (A0 n0 n1) Tryz.prog call_0_2 := ready.call (orS_ok (withinS_ok YtfebdfceidnnmaaGreatDoor.within_walk (by decide) (by decide) (a0 := A0 n0 n1) (i := 1) rfl hn1 h1) (orS_ok (withinS_ok YtfebdfceidnnmaaGreatDoor.within_walk (by decide) (by decide) (a0 := A0 n0 n1) (i := 0) rfl hn0 h0) (orS_ok (tabS_ok (tab_cons ce0_ok (tab_cons ce1_ok (tab_cons ce2_ok (tab_cons ce7_ok (tab_cons ce12_ok (tab_cons ce13_ok (tab_cons ce14_ok (tab_cons ce15_ok (tab_cons ce16_ok tab_nil)))))))))) S4_ok))) (mergeOf_ok _) 60
  exact walk_run hc run_0_2 (xs := [.int .i64 n0, .int .i64 n1]) (fun ρ => .cons _ _ _ _ (.sym 0 rfl) (.cons _ _ _ _ (.sym 1 rfl) (.nil)))
noncomputable def tl_0_3 : List CE := [ce0, ce1, ce2, ce7, ce12, ce17, ce18, ce19, ce20, ce21]
noncomputable def call_0_3 : CallF := fCall E CC mkT (orS (withinS 23 1 5 3) (orS (withinS 23 0 9 0) (orS (tabS tl_0_3) S4))) (mergeOf []) 60
theorem run_0_3 : allT (call_0_3 14 [.sym 0, .sym 1] ⟨T.nil, 0⟩) = true := by kernel_rfl
theorem walk_0_3 {n0 n1 : Int} (hn0 : (Lit.int .i64 n0).wf = true) (hn1 : (Lit.int .i64 n1).wf = true) (h0 : within n0 9 = (0 : Nat)) (h1 : within n1 5 = (3 : Nat)) (w : World) : Calls Tryz.prog 14 #[.int .i64 n0, .int .i64 n1] w fun e w' => e = .returned (.bool true) ∧ Same w w' := by
  have hc : CallOk (A0 n0 n1) Tryz.prog call_0_3 := ready.call (orS_ok (withinS_ok YtfebdfceidnnmaaGreatDoor.within_walk (by decide) (by decide) (a0 := A0 n0 n1) (i := 1) rfl hn1 h1) (orS_ok (withinS_ok YtfebdfceidnnmaaGreatDoor.within_walk (by decide) (by decide) (a0 := A0 n0 n1) (i := 0) rfl hn0 h0) (orS_ok (tabS_ok (tab_cons ce0_ok (tab_cons ce1_ok (tab_cons ce2_ok (tab_cons ce7_ok (tab_cons ce12_ok (tab_cons ce17_ok (tab_cons ce18_ok (tab_cons ce19_ok (tab_cons ce20_ok (tab_cons ce21_ok tab_nil))))))))))) S4_ok))) (mergeOf_ok _) 60
  exact walk_run hc run_0_3 (xs := [.int .i64 n0, .int .i64 n1]) (fun ρ => .cons _ _ _ _ (.sym 0 rfl) (.cons _ _ _ _ (.sym 1 rfl) (.nil)))
noncomputable def tl_0_4 : List CE := [ce0, ce1, ce2, ce7, ce12, ce17, ce22, ce23, ce24, ce25, ce26]
noncomputable def call_0_4 : CallF := fCall E CC mkT (orS (withinS 23 1 5 4) (orS (withinS 23 0 9 0) (orS (tabS tl_0_4) S4))) (mergeOf []) 60
theorem run_0_4 : allT (call_0_4 14 [.sym 0, .sym 1] ⟨T.nil, 0⟩) = true := by kernel_rfl
theorem walk_0_4 {n0 n1 : Int} (hn0 : (Lit.int .i64 n0).wf = true) (hn1 : (Lit.int .i64 n1).wf = true) (h0 : within n0 9 = (0 : Nat)) (h1 : within n1 5 = (4 : Nat)) (w : World) : Calls Tryz.prog 14 #[.int .i64 n0, .int .i64 n1] w fun e w' => e = .returned (.bool true) ∧ Same w w' := by
  have hc : CallOk (A0 n0 n1) Tryz.prog call_0_4 := ready.call (orS_ok (withinS_ok YtfebdfceidnnmaaGreatDoor.within_walk (by decide) (by decide) (a0 := A0 n0 n1) (i := 1) rfl hn1 h1) (orS_ok (withinS_ok YtfebdfceidnnmaaGreatDoor.within_walk (by decide) (by decide) (a0 := A0 n0 n1) (i := 0) rfl hn0 h0) (orS_ok (tabS_ok (tab_cons ce0_ok (tab_cons ce1_ok (tab_cons ce2_ok (tab_cons ce7_ok (tab_cons ce12_ok (tab_cons ce17_ok (tab_cons ce22_ok (tab_cons ce23_ok (tab_cons ce24_ok (tab_cons ce25_ok (tab_cons ce26_ok tab_nil)))))))))))) S4_ok))) (mergeOf_ok _) 60
  exact walk_run hc run_0_4 (xs := [.int .i64 n0, .int .i64 n1]) (fun ρ => .cons _ _ _ _ (.sym 0 rfl) (.cons _ _ _ _ (.sym 1 rfl) (.nil)))
end Go.AX

