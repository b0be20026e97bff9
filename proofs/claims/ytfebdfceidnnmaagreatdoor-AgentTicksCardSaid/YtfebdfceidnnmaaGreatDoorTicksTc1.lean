/- AgentTicks, runs. -/
import Derived.Test.YtfebdfceidnnmaaGreatDoorTicksTe0
import Derived.Test.YtfebdfceidnnmaaGreatDoorTicksTe1
import Derived.Test.YtfebdfceidnnmaaGreatDoorTicksTe2
import Derived.Test.YtfebdfceidnnmaaGreatDoorTicksTe3
import Derived.Test.YtfebdfceidnnmaaGreatDoorTicksTe4
import Derived.Test.YtfebdfceidnnmaaGreatDoorTicksTe5
import Derived.Test.YtfebdfceidnnmaaGreatDoorTicksTe6
import Derived.Test.YtfebdfceidnnmaaGreatDoorTicksTe7
set_option autoImplicit false
set_option linter.unusedVariables false
set_option maxRecDepth 1000000
namespace Go.AX
open Go.Proofs
noncomputable def tl_4 : List CE := [ce8, ce9]
noncomputable def call_4 : CallF := fCall E CC mkT (orS (withinS 23 0 20 4) (orS (tabS tl_4) S4)) (mergeOf []) 60
theorem run_4 : allT (call_4 13 [.sym 0] ⟨T.nil, 0⟩) = true := by kernel_rfl
theorem walk_4 {n0 : Int} (hn0 : (Lit.int .i64 n0).wf = true) (h0 : within n0 20 = (4 : Nat)) (w : World) : Calls Tryz.prog 13 #[.int .i64 n0] w fun e w' => e = .returned (.bool true) ∧ Same w w' := by
  have hx : ∀ i, ∃ n, A0 n0 i = .int .i64 n ∧ (Lit.int .i64 n).wf = true := fun i => match i with | _ => ⟨n0, rfl, hn0⟩
  have hc : CallOk (A0 n0) Tryz.prog call_4 := ready.call (orS_ok (withinS_ok YtfebdfceidnnmaaGreatDoor.within_walk (by decide) (by decide) (a0 := A0 n0) (i := 0) rfl hn0 h0) (orS_ok (tabS_ok (tab_cons ce8_ok (tab_cons ce9_ok tab_nil))) S4_ok)) (mergeOf_ok _) 60
  exact walk_run hc run_4 (xs := [.int .i64 n0]) (fun ρ => .cons _ _ _ _ (.sym 0 rfl) (.nil))
noncomputable def tl_5 : List CE := [ce10, ce11]
noncomputable def call_5 : CallF := fCall E CC mkT (orS (withinS 23 0 20 5) (orS (tabS tl_5) S4)) (mergeOf []) 60
theorem run_5 : allT (call_5 13 [.sym 0] ⟨T.nil, 0⟩) = true := by kernel_rfl
theorem walk_5 {n0 : Int} (hn0 : (Lit.int .i64 n0).wf = true) (h0 : within n0 20 = (5 : Nat)) (w : World) : Calls Tryz.prog 13 #[.int .i64 n0] w fun e w' => e = .returned (.bool true) ∧ Same w w' := by
  have hx : ∀ i, ∃ n, A0 n0 i = .int .i64 n ∧ (Lit.int .i64 n).wf = true := fun i => match i with | _ => ⟨n0, rfl, hn0⟩
  have hc : CallOk (A0 n0) Tryz.prog call_5 := ready.call (orS_ok (withinS_ok YtfebdfceidnnmaaGreatDoor.within_walk (by decide) (by decide) (a0 := A0 n0) (i := 0) rfl hn0 h0) (orS_ok (tabS_ok (tab_cons ce10_ok (tab_cons ce11_ok tab_nil))) S4_ok)) (mergeOf_ok _) 60
  exact walk_run hc run_5 (xs := [.int .i64 n0]) (fun ρ => .cons _ _ _ _ (.sym 0 rfl) (.nil))
noncomputable def tl_6 : List CE := [ce12, ce13]
noncomputable def call_6 : CallF := fCall E CC mkT (orS (withinS 23 0 20 6) (orS (tabS tl_6) S4)) (mergeOf []) 60
theorem run_6 : allT (call_6 13 [.sym 0] ⟨T.nil, 0⟩) = true := by kernel_rfl
theorem walk_6 {n0 : Int} (hn0 : (Lit.int .i64 n0).wf = true) (h0 : within n0 20 = (6 : Nat)) (w : World) : Calls Tryz.prog 13 #[.int .i64 n0] w fun e w' => e = .returned (.bool true) ∧ Same w w' := by
  have hx : ∀ i, ∃ n, A0 n0 i = .int .i64 n ∧ (Lit.int .i64 n).wf = true := fun i => match i with | _ => ⟨n0, rfl, hn0⟩
  have hc : CallOk (A0 n0) Tryz.prog call_6 := ready.call (orS_ok (withinS_ok YtfebdfceidnnmaaGreatDoor.within_walk (by decide) (by decide) (a0 := A0 n0) (i := 0) rfl hn0 h0) (orS_ok (tabS_ok (tab_cons ce12_ok (tab_cons ce13_ok tab_nil))) S4_ok)) (mergeOf_ok _) 60
  exact walk_run hc run_6 (xs := [.int .i64 n0]) (fun ρ => .cons _ _ _ _ (.sym 0 rfl) (.nil))
noncomputable def tl_7 : List CE := [ce14, ce15]
noncomputable def call_7 : CallF := fCall E CC mkT (orS (withinS 23 0 20 7) (orS (tabS tl_7) S4)) (mergeOf []) 60
theorem run_7 : allT (call_7 13 [.sym 0] ⟨T.nil, 0⟩) = true := by kernel_rfl
theorem walk_7 {n0 : Int} (hn0 : (Lit.int .i64 n0).wf = true) (h0 : within n0 20 = (7 : Nat)) (w : World) : Calls Tryz.prog 13 #[.int .i64 n0] w fun e w' => e = .returned (.bool true) ∧ Same w w' := by
  have hx : ∀ i, ∃ n, A0 n0 i = .int .i64 n ∧ (Lit.int .i64 n).wf = true := fun i => match i with | _ => ⟨n0, rfl, hn0⟩
  have hc : CallOk (A0 n0) Tryz.prog call_7 := ready.call (orS_ok (withinS_ok YtfebdfceidnnmaaGreatDoor.within_walk (by decide) (by decide) (a0 := A0 n0) (i := 0) rfl hn0 h0) (orS_ok (tabS_ok (tab_cons ce14_ok (tab_cons ce15_ok tab_nil))) S4_ok)) (mergeOf_ok _) 60
  exact walk_run hc run_7 (xs := [.int .i64 n0]) (fun ρ => .cons _ _ _ _ (.sym 0 rfl) (.nil))
end Go.AX

