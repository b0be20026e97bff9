/- AgentTicks, runs. -/
import Derived.Test.YtfebdfceidnnmaaGreatDoorTicksTe0
import Derived.Test.YtfebdfceidnnmaaGreatDoorTicksTe1
import Derived.Test.YtfebdfceidnnmaaGreatDoorTicksTe2
import Derived.Test.YtfebdfceidnnmaaGreatDoorTicksTe3
import Derived.Test.YtfebdfceidnnmaaGreatDoorTicksTe4
import Derived.Test.YtfebdfceidnnmaaGreatDoorTicksTe5
import Derived.Test.YtfebdfceidnnmaaGreatDoorTicksTe6
import Derived.Test.YtfebdfceidnnmaaGreatDoorTicksTe7
set_option autoImplicit false
set_option linter.unusedVariables false
set_option maxRecDepth 1000000
namespace Go.AX
open Go.Proofs
noncomputable def tl_0 : List CE := [ce0, ce1]
noncomputable def call_0 : CallF := fCall E CC mkT (orS (withinS 23 0 20 0) (orS (tabS tl_0) S4)) (mergeOf []) 60
theorem run_0 : allT (call_0 13 [.sym 0] ⟨T.nil, 0⟩) = true := by kernel_rfl
theorem walk_0 {n0 : Int} (hn0 : (Lit.int .i64 n0).wf = true) (h0 : within n0 20 = (0 : Nat)) (w : World) : Calls Tryz.prog 13 #[.int .i64 n0] w fun e w' => e = .returned (.bool true) ∧ Same w w' := by
  have hx : ∀ i, ∃ n, A0 n0 i = .int .i64 n ∧ (Lit.int .i64 n).wf = true := fun i => match i with | _ => ⟨n0, rfl, hn0⟩
  have hc : CallOk (A0 n0) Tryz.prog call_0 := ready.call (orS_ok (withinS_ok YtfebdfceidnnmaaGreatDoor.within_walk (by decide) (by decide) (a0 := A0 n0) (i := 0) rfl hn0 h0) (orS_ok (tabS_ok (tab_cons ce0_ok (tab_cons ce1_ok tab_nil))) S4_ok)) (mergeOf_ok _) 60
  exact walk_run hc run_0 (xs := [.int .i64 n0]) (fun ρ => .cons _ _ _ _ (.sym 0 rfl) (.nil))
noncomputable def tl_1 : List CE := [ce2, ce3]
noncomputable def call_1 : CallF := fCall E CC mkT (orS (withinS 23 0 20 1) (orS (tabS tl_1) S4)) (mergeOf []) 60
theorem run_1 : allT (call_1 13 [.sym 0] ⟨T.nil, 0⟩) = true := by kernel_rfl
theorem walk_1 {n0 : Int} (hn0 : (Lit.int .i64 n0).wf = true) (h0 : within n0 20 = (1 : Nat)) (w : World) : Calls Tryz.prog 13 #[.int .i64 n0] w fun e w' => e = .returned (.bool true) ∧ Same w w' := by
  have hx : ∀ i, ∃ n, A0 n0 i = .int .i64 n ∧ (Lit.int .i64 n).wf = true := fun i => match i with | _ => ⟨n0, rfl, hn0⟩
  have hc : CallOk (A0 n0) Tryz.prog call_1 := ready.call (orS_ok (withinS_ok YtfebdfceidnnmaaGreatDoor.within_walk (by decide) (by decide) (a0 := A0 n0) (i := 0) rfl hn0 h0) (orS_ok (tabS_ok (tab_cons ce2_ok (tab_cons ce3_ok tab_nil))) S4_ok)) (mergeOf_ok _) 60
  exact walk_run hc run_1 (xs := [.int .i64 n0]) (fun ρ => .cons _ _ _ _ (.sym 0 rfl) (.nil))
noncomputable def tl_2 : List CE := [ce4, ce5]
noncomputable def call_2 : CallF := fCall E CC mkT (orS (withinS 23 0 20 2) (orS (tabS tl_2) S4)) (mergeOf []) 60
theorem run_2 : allT (call_2 13 [.sym 0] ⟨T.nil, 0⟩) = true := by kernel_rfl
theorem walk_2 {n0 : Int} (hn0 : (Lit.int .i64 n0).wf = true) (h0 : within n0 20 = (2 : Nat)) (w : World) : Calls Tryz.prog 13 #[.int .i64 n0] w fun e w' => e = .returned (.bool true) ∧ Same w w' := by
  have hx : ∀ i, ∃ n, A0 n0 i = .int .i64 n ∧ (Lit.int .i64 n).wf = true := fun i => match i with | _ => ⟨n0, rfl, hn0⟩
  have hc : CallOk (A0 n0) Tryz.prog call_2 := ready.call (orS_ok (withinS_ok YtfebdfceidnnmaaGreatDoor.within_walk (by decide) (by decide) (a0 := A0 n0) (i := 0) rfl hn0 h0) (orS_ok (tabS_ok (tab_cons ce4_ok (tab_cons ce5_ok tab_nil))) S4_ok)) (mergeOf_ok _) 60
  exact walk_run hc run_2 (xs := [.int .i64 n0]) (fun ρ => .cons _ _ _ _ (.sym 0 rfl) (.nil))
noncomputable def tl_3 : List CE := [ce6, ce7]
noncomputable def call_3 : CallF := fCall E CC mkT (orS (withinS 23 0 20 3) (orS (tabS tl_3) S4)) (mergeOf []) 60
theorem run_3 : allT (call_3 13 [.sym 0] ⟨T.nil, 0⟩) = true := by kernel_rfl
theorem walk_3 {n0 : Int} (hn0 : (Lit.int .i64 n0).wf = true) (h0 : within n0 20 = (3 : Nat)) (w : World) : Calls Tryz.prog 13 #[.int .i64 n0] w fun e w' => e = .returned (.bool true) ∧ Same w w' := by
  have hx : ∀ i, ∃ n, A0 n0 i = .int .i64 n ∧ (Lit.int .i64 n).wf = true := fun i => match i with | _ => ⟨n0, rfl, hn0⟩
  have hc : CallOk (A0 n0) Tryz.prog call_3 := ready.call (orS_ok (withinS_ok YtfebdfceidnnmaaGreatDoor.within_walk (by decide) (by decide) (a0 := A0 n0) (i := 0) rfl hn0 h0) (orS_ok (tabS_ok (tab_cons ce6_ok (tab_cons ce7_ok tab_nil))) S4_ok)) (mergeOf_ok _) 60
  exact walk_run hc run_3 (xs := [.int .i64 n0]) (fun ρ => .cons _ _ _ _ (.sym 0 rfl) (.nil))
end Go.AX

