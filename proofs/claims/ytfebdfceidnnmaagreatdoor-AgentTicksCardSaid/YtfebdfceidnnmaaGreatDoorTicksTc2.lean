/- AgentTicks, runs. -/
import Derived.Test.YtfebdfceidnnmaaGreatDoorTicksTe0
import Derived.Test.YtfebdfceidnnmaaGreatDoorTicksTe1
import Derived.Test.YtfebdfceidnnmaaGreatDoorTicksTe2
import Derived.Test.YtfebdfceidnnmaaGreatDoorTicksTe3
import Derived.Test.YtfebdfceidnnmaaGreatDoorTicksTe4
import Derived.Test.YtfebdfceidnnmaaGreatDoorTicksTe5
import Derived.Test.YtfebdfceidnnmaaGreatDoorTicksTe6
import Derived.Test.YtfebdfceidnnmaaGreatDoorTicksTe7
set_option autoImplicit false
set_option linter.unusedVariables false
set_option maxRecDepth 1000000
namespace Go.AX
open Go.Proofs
noncomputable def tl_8 : List CE := [ce16, ce17]
noncomputable def call_8 : CallF := fCall E CC mkT (orS (withinS 23 0 20 8) (orS (tabS tl_8) S4)) (mergeOf []) 60
theorem run_8 : allT (call_8 13 [.sym 0] ⟨T.nil, 0⟩) = true := by kernel_rfl
theorem walk_8 {n0 : Int} (hn0 : (Lit.int .i64 n0).wf = true) (h0 : within n0 20 = (8 : Nat)) (w : World) : Calls Tryz.prog 13 #[.int .i64 n0] w fun e w' => e = .returned (.bool true) ∧ Same w w' := by
  have hx : ∀ i, ∃ n, A0 n0 i = .int .i64 n ∧ (Lit.int .i64 n).wf = true := fun i => match i with | _ => ⟨n0, rfl, hn0⟩
  have hc : CallOk (A0 n0) Tryz.prog call_8 := ready.call (orS_ok (withinS_ok YtfebdfceidnnmaaGreatDoor.within_walk (by decide) (by decide) (a0 := A0 n0) (i := 0) rfl hn0 h0) (orS_ok (tabS_ok (tab_cons ce16_ok (tab_cons ce17_ok tab_nil))) S4_ok)) (mergeOf_ok _) 60
  exact walk_run hc run_8 (xs := [.int .i64 n0]) (fun ρ => .cons _ _ _ _ (.sym 0 rfl) (.nil))
noncomputable def tl_9 : List CE := [ce18, ce19]
noncomputable def call_9 : CallF := fCall E CC mkT (orS (withinS 23 0 20 9) (orS (tabS tl_9) S4)) (mergeOf []) 60
theorem run_9 : allT (call_9 13 [.sym 0] ⟨T.nil, 0⟩) = true := by kernel_rfl
theorem walk_9 {n0 : Int} (hn0 : (Lit.int .i64 n0).wf = true) (h0 : within n0 20 = (9 : Nat)) (w : World) : Calls Tryz.prog 13 #[.int .i64 n0] w fun e w' => e = .returned (.bool true) ∧ Same w w' := by
  have hx : ∀ i, ∃ n, A0 n0 i = .int .i64 n ∧ (Lit.int .i64 n).wf = true := fun i => match i with | _ => ⟨n0, rfl, hn0⟩
  have hc : CallOk (A0 n0) Tryz.prog call_9 := ready.call (orS_ok (withinS_ok YtfebdfceidnnmaaGreatDoor.within_walk (by decide) (by decide) (a0 := A0 n0) (i := 0) rfl hn0 h0) (orS_ok (tabS_ok (tab_cons ce18_ok (tab_cons ce19_ok tab_nil))) S4_ok)) (mergeOf_ok _) 60
  exact walk_run hc run_9 (xs := [.int .i64 n0]) (fun ρ => .cons _ _ _ _ (.sym 0 rfl) (.nil))
noncomputable def tl_10 : List CE := [ce20, ce21]
noncomputable def call_10 : CallF := fCall E CC mkT (orS (withinS 23 0 20 10) (orS (tabS tl_10) S4)) (mergeOf []) 60
theorem run_10 : allT (call_10 13 [.sym 0] ⟨T.nil, 0⟩) = true := by kernel_rfl
theorem walk_10 {n0 : Int} (hn0 : (Lit.int .i64 n0).wf = true) (h0 : within n0 20 = (10 : Nat)) (w : World) : Calls Tryz.prog 13 #[.int .i64 n0] w fun e w' => e = .returned (.bool true) ∧ Same w w' := by
  have hx : ∀ i, ∃ n, A0 n0 i = .int .i64 n ∧ (Lit.int .i64 n).wf = true := fun i => match i with | _ => ⟨n0, rfl, hn0⟩
  have hc : CallOk (A0 n0) Tryz.prog call_10 := ready.call (orS_ok (withinS_ok YtfebdfceidnnmaaGreatDoor.within_walk (by decide) (by decide) (a0 := A0 n0) (i := 0) rfl hn0 h0) (orS_ok (tabS_ok (tab_cons ce20_ok (tab_cons ce21_ok tab_nil))) S4_ok)) (mergeOf_ok _) 60
  exact walk_run hc run_10 (xs := [.int .i64 n0]) (fun ρ => .cons _ _ _ _ (.sym 0 rfl) (.nil))
noncomputable def tl_11 : List CE := [ce22, ce23]
noncomputable def call_11 : CallF := fCall E CC mkT (orS (withinS 23 0 20 11) (orS (tabS tl_11) S4)) (mergeOf []) 60
theorem run_11 : allT (call_11 13 [.sym 0] ⟨T.nil, 0⟩) = true := by kernel_rfl
theorem walk_11 {n0 : Int} (hn0 : (Lit.int .i64 n0).wf = true) (h0 : within n0 20 = (11 : Nat)) (w : World) : Calls Tryz.prog 13 #[.int .i64 n0] w fun e w' => e = .returned (.bool true) ∧ Same w w' := by
  have hx : ∀ i, ∃ n, A0 n0 i = .int .i64 n ∧ (Lit.int .i64 n).wf = true := fun i => match i with | _ => ⟨n0, rfl, hn0⟩
  have hc : CallOk (A0 n0) Tryz.prog call_11 := ready.call (orS_ok (withinS_ok YtfebdfceidnnmaaGreatDoor.within_walk (by decide) (by decide) (a0 := A0 n0) (i := 0) rfl hn0 h0) (orS_ok (tabS_ok (tab_cons ce22_ok (tab_cons ce23_ok tab_nil))) S4_ok)) (mergeOf_ok _) 60
  exact walk_run hc run_11 (xs := [.int .i64 n0]) (fun ρ => .cons _ _ _ _ (.sym 0 rfl) (.nil))
end Go.AX

