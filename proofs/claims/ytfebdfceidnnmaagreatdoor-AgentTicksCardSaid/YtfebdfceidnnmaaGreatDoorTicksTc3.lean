/- AgentTicks, runs. -/
import Derived.Test.YtfebdfceidnnmaaGreatDoorTicksTe0
import Derived.Test.YtfebdfceidnnmaaGreatDoorTicksTe1
import Derived.Test.YtfebdfceidnnmaaGreatDoorTicksTe2
import Derived.Test.YtfebdfceidnnmaaGreatDoorTicksTe3
import Derived.Test.YtfebdfceidnnmaaGreatDoorTicksTe4
import Derived.Test.YtfebdfceidnnmaaGreatDoorTicksTe5
import Derived.Test.YtfebdfceidnnmaaGreatDoorTicksTe6
import Derived.Test.YtfebdfceidnnmaaGreatDoorTicksTe7
set_option autoImplicit false
set_option linter.unusedVariables false
set_option maxRecDepth 1000000
namespace Go.AX
open Go.Proofs
noncomputable def tl_12 : List CE := [ce24, ce25]
noncomputable def call_12 : CallF := fCall E CC mkT (orS (withinS 23 0 20 12) (orS (tabS tl_12) S4)) (mergeOf []) 60
theorem run_12 : allT (call_12 13 [.sym 0] ⟨T.nil, 0⟩) = true := by kernel_rfl
theorem walk_12 {n0 : Int} (hn0 : (Lit.int .i64 n0).wf = true) (h0 : within n0 20 = (12 : Nat)) (w : World) : Calls Tryz.prog 13 #[.int .i64 n0] w fun e w' => e = .returned (.bool true) ∧ Same w w' := by
  have hx : ∀ i, ∃ n, A0 n0 i = .int .i64 n ∧ (Lit.int .i64 n).wf = true := fun i => match i with | _ => ⟨n0, rfl, hn0⟩
  have hc : CallOk (A0 n0) Tryz.prog call_12 := ready.call (orS_ok (withinS_ok YtfebdfceidnnmaaGreatDoor.within_walk (by decide) (by decide) (a0 := A0 n0) (i := 0) rfl hn0 h0) (orS_ok (tabS_ok (tab_cons ce24_ok (tab_cons ce25_ok tab_nil))) S4_ok)) (mergeOf_ok _) 60
  exact walk_run hc run_12 (xs := [.int .i64 n0]) (fun ρ => .cons _ _ _ _ (.sym 0 rfl) (.nil))
noncomputable def tl_13 : List CE := [ce26, ce27]
noncomputable def call_13 : CallF := fCall E CC mkT (orS (withinS 23 0 20 13) (orS (tabS tl_13) S4)) (mergeOf []) 60
theorem run_13 : allT (call_13 13 [.sym 0] ⟨T.nil, 0⟩) = true := by kernel_rfl
theorem walk_13 {n0 : Int} (hn0 : (Lit.int .i64 n0).wf = true) (h0 : within n0 20 = (13 : Nat)) (w : World) : Calls Tryz.prog 13 #[.int .i64 n0] w fun e w' => e = .returned (.bool true) ∧ Same w w' := by
  have hx : ∀ i, ∃ n, A0 n0 i = .int .i64 n ∧ (Lit.int .i64 n).wf = true := fun i => match i with | _ => ⟨n0, rfl, hn0⟩
  have hc : CallOk (A0 n0) Tryz.prog call_13 := ready.call (orS_ok (withinS_ok YtfebdfceidnnmaaGreatDoor.within_walk (by decide) (by decide) (a0 := A0 n0) (i := 0) rfl hn0 h0) (orS_ok (tabS_ok (tab_cons ce26_ok (tab_cons ce27_ok tab_nil))) S4_ok)) (mergeOf_ok _) 60
  exact walk_run hc run_13 (xs := [.int .i64 n0]) (fun ρ => .cons _ _ _ _ (.sym 0 rfl) (.nil))
noncomputable def tl_14 : List CE := [ce28, ce29]
noncomputable def call_14 : CallF := fCall E CC mkT (orS (withinS 23 0 20 14) (orS (tabS tl_14) S4)) (mergeOf []) 60
theorem run_14 : allT (call_14 13 [.sym 0] ⟨T.nil, 0⟩) = true := by kernel_rfl
theorem walk_14 {n0 : Int} (hn0 : (Lit.int .i64 n0).wf = true) (h0 : within n0 20 = (14 : Nat)) (w : World) : Calls Tryz.prog 13 #[.int .i64 n0] w fun e w' => e = .returned (.bool true) ∧ Same w w' := by
  have hx : ∀ i, ∃ n, A0 n0 i = .int .i64 n ∧ (Lit.int .i64 n).wf = true := fun i => match i with | _ => ⟨n0, rfl, hn0⟩
  have hc : CallOk (A0 n0) Tryz.prog call_14 := ready.call (orS_ok (withinS_ok YtfebdfceidnnmaaGreatDoor.within_walk (by decide) (by decide) (a0 := A0 n0) (i := 0) rfl hn0 h0) (orS_ok (tabS_ok (tab_cons ce28_ok (tab_cons ce29_ok tab_nil))) S4_ok)) (mergeOf_ok _) 60
  exact walk_run hc run_14 (xs := [.int .i64 n0]) (fun ρ => .cons _ _ _ _ (.sym 0 rfl) (.nil))
noncomputable def tl_15 : List CE := [ce30, ce31]
noncomputable def call_15 : CallF := fCall E CC mkT (orS (withinS 23 0 20 15) (orS (tabS tl_15) S4)) (mergeOf []) 60
theorem run_15 : allT (call_15 13 [.sym 0] ⟨T.nil, 0⟩) = true := by kernel_rfl
theorem walk_15 {n0 : Int} (hn0 : (Lit.int .i64 n0).wf = true) (h0 : within n0 20 = (15 : Nat)) (w : World) : Calls Tryz.prog 13 #[.int .i64 n0] w fun e w' => e = .returned (.bool true) ∧ Same w w' := by
  have hx : ∀ i, ∃ n, A0 n0 i = .int .i64 n ∧ (Lit.int .i64 n).wf = true := fun i => match i with | _ => ⟨n0, rfl, hn0⟩
  have hc : CallOk (A0 n0) Tryz.prog call_15 := ready.call (orS_ok (withinS_ok YtfebdfceidnnmaaGreatDoor.within_walk (by decide) (by decide) (a0 := A0 n0) (i := 0) rfl hn0 h0) (orS_ok (tabS_ok (tab_cons ce30_ok (tab_cons ce31_ok tab_nil))) S4_ok)) (mergeOf_ok _) 60
  exact walk_run hc run_15 (xs := [.int .i64 n0]) (fun ρ => .cons _ _ _ _ (.sym 0 rfl) (.nil))
end Go.AX

