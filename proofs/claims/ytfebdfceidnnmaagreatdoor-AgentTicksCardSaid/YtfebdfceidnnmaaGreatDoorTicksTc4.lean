/- AgentTicks, runs. -/
import Derived.Test.YtfebdfceidnnmaaGreatDoorTicksTe0
import Derived.Test.YtfebdfceidnnmaaGreatDoorTicksTe1
import Derived.Test.YtfebdfceidnnmaaGreatDoorTicksTe2
import Derived.Test.YtfebdfceidnnmaaGreatDoorTicksTe3
import Derived.Test.YtfebdfceidnnmaaGreatDoorTicksTe4
import Derived.Test.YtfebdfceidnnmaaGreatDoorTicksTe5
import Derived.Test.YtfebdfceidnnmaaGreatDoorTicksTe6
import Derived.Test.YtfebdfceidnnmaaGreatDoorTicksTe7
set_option autoImplicit false
set_option linter.unusedVariables false
set_option maxRecDepth 1000000
namespace Go.AX
open Go.Proofs
noncomputable def tl_16 : List CE := [ce32, ce33]
noncomputable def call_16 : CallF := fCall E CC mkT (orS (withinS 23 0 20 16) (orS (tabS tl_16) S4)) (mergeOf []) 60
theorem run_16 : allT (call_16 13 [.sym 0] ⟨T.nil, 0⟩) = true := by kernel_rfl
theorem walk_16 {n0 : Int} (hn0 : (Lit.int .i64 n0).wf = true) (h0 : within n0 20 = (16 : Nat)) (w : World) : Calls Tryz.prog 13 #[.int .i64 n0] w fun e w' => e = .returned (.bool true) ∧ Same w w' := by
  have hx : ∀ i, ∃ n, A0 n0 i = .int .i64 n ∧ (Lit.int .i64 n).wf = true := fun i => match i with | _ => ⟨n0, rfl, hn0⟩
  have hc : CallOk (A0 n0) Tryz.prog call_16 := ready.call (orS_ok (withinS_ok YtfebdfceidnnmaaGreatDoor.within_walk (by decide) (by decide) (a0 := A0 n0) (i := 0) rfl hn0 h0) (orS_ok (tabS_ok (tab_cons ce32_ok (tab_cons ce33_ok tab_nil))) S4_ok)) (mergeOf_ok _) 60
  exact walk_run hc run_16 (xs := [.int .i64 n0]) (fun ρ => .cons _ _ _ _ (.sym 0 rfl) (.nil))
noncomputable def tl_17 : List CE := [ce34, ce35]
noncomputable def call_17 : CallF := fCall E CC mkT (orS (withinS 23 0 20 17) (orS (tabS tl_17) S4)) (mergeOf []) 60
theorem run_17 : allT (call_17 13 [.sym 0] ⟨T.nil, 0⟩) = true := by kernel_rfl
theorem walk_17 {n0 : Int} (hn0 : (Lit.int .i64 n0).wf = true) (h0 : within n0 20 = (17 : Nat)) (w : World) : Calls Tryz.prog 13 #[.int .i64 n0] w fun e w' => e = .returned (.bool true) ∧ Same w w' := by
  have hx : ∀ i, ∃ n, A0 n0 i = .int .i64 n ∧ (Lit.int .i64 n).wf = true := fun i => match i with | _ => ⟨n0, rfl, hn0⟩
  have hc : CallOk (A0 n0) Tryz.prog call_17 := ready.call (orS_ok (withinS_ok YtfebdfceidnnmaaGreatDoor.within_walk (by decide) (by decide) (a0 := A0 n0) (i := 0) rfl hn0 h0) (orS_ok (tabS_ok (tab_cons ce34_ok (tab_cons ce35_ok tab_nil))) S4_ok)) (mergeOf_ok _) 60
  exact walk_run hc run_17 (xs := [.int .i64 n0]) (fun ρ => .cons _ _ _ _ (.sym 0 rfl) (.nil))
noncomputable def tl_18 : List CE := [ce36, ce37]
noncomputable def call_18 : CallF := fCall E CC mkT (orS (withinS 23 0 20 18) (orS (tabS tl_18) S4)) (mergeOf []) 60
theorem run_18 : allT (call_18 13 [.sym 0] ⟨T.nil, 0⟩) = true := by kernel_rfl
theorem walk_18 {n0 : Int} (hn0 : (Lit.int .i64 n0).wf = true) (h0 : within n0 20 = (18 : Nat)) (w : World) : Calls Tryz.prog 13 #[.int .i64 n0] w fun e w' => e = .returned (.bool true) ∧ Same w w' := by
  have hx : ∀ i, ∃ n, A0 n0 i = .int .i64 n ∧ (Lit.int .i64 n).wf = true := fun i => match i with | _ => ⟨n0, rfl, hn0⟩
  have hc : CallOk (A0 n0) Tryz.prog call_18 := ready.call (orS_ok (withinS_ok YtfebdfceidnnmaaGreatDoor.within_walk (by decide) (by decide) (a0 := A0 n0) (i := 0) rfl hn0 h0) (orS_ok (tabS_ok (tab_cons ce36_ok (tab_cons ce37_ok tab_nil))) S4_ok)) (mergeOf_ok _) 60
  exact walk_run hc run_18 (xs := [.int .i64 n0]) (fun ρ => .cons _ _ _ _ (.sym 0 rfl) (.nil))
noncomputable def tl_19 : List CE := [ce38, ce39]
noncomputable def call_19 : CallF := fCall E CC mkT (orS (withinS 23 0 20 19) (orS (tabS tl_19) S4)) (mergeOf []) 60
theorem run_19 : allT (call_19 13 [.sym 0] ⟨T.nil, 0⟩) = true := by kernel_rfl
theorem walk_19 {n0 : Int} (hn0 : (Lit.int .i64 n0).wf = true) (h0 : within n0 20 = (19 : Nat)) (w : World) : Calls Tryz.prog 13 #[.int .i64 n0] w fun e w' => e = .returned (.bool true) ∧ Same w w' := by
  have hx : ∀ i, ∃ n, A0 n0 i = .int .i64 n ∧ (Lit.int .i64 n).wf = true := fun i => match i with | _ => ⟨n0, rfl, hn0⟩
  have hc : CallOk (A0 n0) Tryz.prog call_19 := ready.call (orS_ok (withinS_ok YtfebdfceidnnmaaGreatDoor.within_walk (by decide) (by decide) (a0 := A0 n0) (i := 0) rfl hn0 h0) (orS_ok (tabS_ok (tab_cons ce38_ok (tab_cons ce39_ok tab_nil))) S4_ok)) (mergeOf_ok _) 60
  exact walk_run hc run_19 (xs := [.int .i64 n0]) (fun ρ => .cons _ _ _ _ (.sym 0 rfl) (.nil))
end Go.AX

