/- AgentRefuses, runs. -/
import Derived.Test.YtfebdfceidnnmaaGreatDoorRefusesTe0
import Derived.Test.YtfebdfceidnnmaaGreatDoorRefusesTe1
import Derived.Test.YtfebdfceidnnmaaGreatDoorRefusesTe2
import Derived.Test.YtfebdfceidnnmaaGreatDoorRefusesTe3
import Derived.Test.YtfebdfceidnnmaaGreatDoorRefusesTe4
import Derived.Test.YtfebdfceidnnmaaGreatDoorRefusesTe5
import Derived.Test.YtfebdfceidnnmaaGreatDoorRefusesTe6
import Derived.Test.YtfebdfceidnnmaaGreatDoorRefusesTe7
import Derived.Test.YtfebdfceidnnmaaGreatDoorRefusesTe8
import Derived.Test.YtfebdfceidnnmaaGreatDoorRefusesTe9
import Derived.Test.YtfebdfceidnnmaaGreatDoorRefusesTe10
set_option autoImplicit false
set_option linter.unusedVariables false
set_option maxRecDepth 1000000
namespace Go.AX
open Go.Proofs
noncomputable def tl_0 : List CE := [ce0, ce1, ce2, ce3, ce4, ce5, ce6, ce7, ce8, ce9, ce10]
noncomputable def call_0 : CallF := fCall E CC mkT (orS (withinS 23 0 5 0) (orS (tabS tl_0) S4)) (mergeOf []) 60
theorem run_0 : allT (call_0 4 [.sym 0] ⟨T.nil, 0⟩) = true := by kernel_rfl
theorem walk_0 {n0 : Int} (hn0 : (Lit.int .i64 n0).wf = true) (h0 : within n0 5 = (0 : Nat)) (w : World) : Calls Tryz.prog 4 #[.int .i64 n0] w fun e w' => e = .returned (.bool true) ∧ Same w w' := by
  have hx : ∀ i, ∃ n, A0 n0 i = .int .i64 n ∧ (Lit.int .i64 n).wf = true := fun i => match i with | _ => ⟨n0, rfl, hn0⟩
  have hc : CallOk (A0 n0) Tryz.prog call_0 := ready.call (orS_ok (withinS_ok YtfebdfceidnnmaaGreatDoor.within_walk (by decide) (by decide) (a0 := A0 n0) (i := 0) rfl hn0 h0) (orS_ok (tabS_ok (tab_cons ce0_ok (tab_cons ce1_ok (tab_cons ce2_ok (tab_cons ce3_ok (tab_cons ce4_ok (tab_cons ce5_ok (tab_cons ce6_ok (tab_cons ce7_ok (tab_cons ce8_ok (tab_cons ce9_ok (tab_cons ce10_ok tab_nil)))))))))))) S4_ok)) (mergeOf_ok _) 60
  exact walk_run hc run_0 (xs := [.int .i64 n0]) (fun ρ => .cons _ _ _ _ (.sym 0 rfl) (.nil))
noncomputable def tl_1 : List CE := [ce0, ce11, ce12, ce13, ce14, ce15, ce16, ce17, ce18, ce19, ce20]
noncomputable def call_1 : CallF := fCall E CC mkT (orS (withinS 23 0 5 1) (orS (tabS tl_1) S4)) (mergeOf []) 60
theorem run_1 : allT (call_1 4 [.sym 0] ⟨T.nil, 0⟩) = true := by kernel_rfl
theorem walk_1 {n0 : Int} (hn0 : (Lit.int .i64 n0).wf = true) (h0 : within n0 5 = (1 : Nat)) (w : World) : Calls Tryz.prog 4 #[.int .i64 n0] w fun e w' => e = .returned (.bool true) ∧ Same w w' := by
  have hx : ∀ i, ∃ n, A0 n0 i = .int .i64 n ∧ (Lit.int .i64 n).wf = true := fun i => match i with | _ => ⟨n0, rfl, hn0⟩
  have hc : CallOk (A0 n0) Tryz.prog call_1 := ready.call (orS_ok (withinS_ok YtfebdfceidnnmaaGreatDoor.within_walk (by decide) (by decide) (a0 := A0 n0) (i := 0) rfl hn0 h0) (orS_ok (tabS_ok (tab_cons ce0_ok (tab_cons ce11_ok (tab_cons ce12_ok (tab_cons ce13_ok (tab_cons ce14_ok (tab_cons ce15_ok (tab_cons ce16_ok (tab_cons ce17_ok (tab_cons ce18_ok (tab_cons ce19_ok (tab_cons ce20_ok tab_nil)))))))))))) S4_ok)) (mergeOf_ok _) 60
  exact walk_run hc run_1 (xs := [.int .i64 n0]) (fun ρ => .cons _ _ _ _ (.sym 0 rfl) (.nil))
noncomputable def tl_2 : List CE := [ce0, ce21, ce22, ce23, ce24, ce25, ce26, ce27, ce28, ce29, ce30]
noncomputable def call_2 : CallF := fCall E CC mkT (orS (withinS 23 0 5 2) (orS (tabS tl_2) S4)) (mergeOf []) 60
theorem run_2 : allT (call_2 4 [.sym 0] ⟨T.nil, 0⟩) = true := by kernel_rfl
theorem walk_2 {n0 : Int} (hn0 : (Lit.int .i64 n0).wf = true) (h0 : within n0 5 = (2 : Nat)) (w : World) : Calls Tryz.prog 4 #[.int .i64 n0] w fun e w' => e = .returned (.bool true) ∧ Same w w' := by
  have hx : ∀ i, ∃ n, A0 n0 i = .int .i64 n ∧ (Lit.int .i64 n).wf = true := fun i => match i with | _ => ⟨n0, rfl, hn0⟩
  have hc : CallOk (A0 n0) Tryz.prog call_2 := ready.call (orS_ok (withinS_ok YtfebdfceidnnmaaGreatDoor.within_walk (by decide) (by decide) (a0 := A0 n0) (i := 0) rfl hn0 h0) (orS_ok (tabS_ok (tab_cons ce0_ok (tab_cons ce21_ok (tab_cons ce22_ok (tab_cons ce23_ok (tab_cons ce24_ok (tab_cons ce25_ok (tab_cons ce26_ok (tab_cons ce27_ok (tab_cons ce28_ok (tab_cons ce29_ok (tab_cons ce30_ok tab_nil)))))))))))) S4_ok)) (mergeOf_ok _) 60
  exact walk_run hc run_2 (xs := [.int .i64 n0]) (fun ρ => .cons _ _ _ _ (.sym 0 rfl) (.nil))
noncomputable def tl_3 : List CE := [ce0, ce31, ce32, ce33, ce34, ce35, ce36, ce37, ce38, ce39, ce40]
noncomputable def call_3 : CallF := fCall E CC mkT (orS (withinS 23 0 5 3) (orS (tabS tl_3) S4)) (mergeOf []) 60
theorem run_3 : allT (call_3 4 [.sym 0] ⟨T.nil, 0⟩) = true := by kernel_rfl
theorem walk_3 {n0 : Int} (hn0 : (Lit.int .i64 n0).wf = true) (h0 : within n0 5 = (3 : Nat)) (w : World) : Calls Tryz.prog 4 #[.int .i64 n0] w fun e w' => e = .returned (.bool true) ∧ Same w w' := by
  have hx : ∀ i, ∃ n, A0 n0 i = .int .i64 n ∧ (Lit.int .i64 n).wf = true := fun i => match i with | _ => ⟨n0, rfl, hn0⟩
  have hc : CallOk (A0 n0) Tryz.prog call_3 := ready.call (orS_ok (withinS_ok YtfebdfceidnnmaaGreatDoor.within_walk (by decide) (by decide) (a0 := A0 n0) (i := 0) rfl hn0 h0) (orS_ok (tabS_ok (tab_cons ce0_ok (tab_cons ce31_ok (tab_cons ce32_ok (tab_cons ce33_ok (tab_cons ce34_ok (tab_cons ce35_ok (tab_cons ce36_ok (tab_cons ce37_ok (tab_cons ce38_ok (tab_cons ce39_ok (tab_cons ce40_ok tab_nil)))))))))))) S4_ok)) (mergeOf_ok _) 60
  exact walk_run hc run_3 (xs := [.int .i64 n0]) (fun ρ => .cons _ _ _ _ (.sym 0 rfl) (.nil))
end Go.AX

