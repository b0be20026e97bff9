/- AgentOwn, runs. -/
import Derived.Test.YtfebdfceidnnmaaGreatDoorOwnTb
set_option autoImplicit false
set_option linter.unusedVariables false
set_option maxRecDepth 1000000
namespace Go.AX
open Go.Proofs
noncomputable def call_0 : CallF := fCall E CC mkT (orS (withinS 23 0 4 0) S4) (mergeOf []) 60
theorem run_0 : allT (call_0 6 [.sym 0] ⟨T.nil, 0⟩) = true := by kernel_rfl
theorem walk_0 {a0 : Nat → Int} (hx : ∀ i, (Lit.int .i64 (a0 i)).wf = true) (h0 : within (a0 0) 4 = (0 : Nat)) (w : World) : Calls Tryz.prog 6 #[.int .i64 (a0 0)] w fun e w' => e = .returned (.bool true) ∧ Same w w' := by
  have hc : CallOk a0 Tryz.prog call_0 := ready.call (orS_ok (withinS_ok YtfebdfceidnnmaaGreatDoor.within_walk (by decide) (by decide) (hx 0) h0) S4_ok) (mergeOf_ok _) 60
  exact walk_run hc run_0 (xs := [.int .i64 (a0 0)]) (fun ρ => .cons _ _ _ _ (.sym 0) (.nil))
noncomputable def call_1 : CallF := fCall E CC mkT (orS (withinS 23 0 4 1) S4) (mergeOf []) 60
theorem run_1 : allT (call_1 6 [.sym 0] ⟨T.nil, 0⟩) = true := by kernel_rfl
theorem walk_1 {a0 : Nat → Int} (hx : ∀ i, (Lit.int .i64 (a0 i)).wf = true) (h0 : within (a0 0) 4 = (1 : Nat)) (w : World) : Calls Tryz.prog 6 #[.int .i64 (a0 0)] w fun e w' => e = .returned (.bool true) ∧ Same w w' := by
  have hc : CallOk a0 Tryz.prog call_1 := ready.call (orS_ok (withinS_ok YtfebdfceidnnmaaGreatDoor.within_walk (by decide) (by decide) (hx 0) h0) S4_ok) (mergeOf_ok _) 60
  exact walk_run hc run_1 (xs := [.int .i64 (a0 0)]) (fun ρ => .cons _ _ _ _ (.sym 0) (.nil))
noncomputable def call_2 : CallF := fCall E CC mkT (orS (withinS 23 0 4 2) S4) (mergeOf []) 60
theorem run_2 : allT (call_2 6 [.sym 0] ⟨T.nil, 0⟩) = true := by kernel_rfl
theorem walk_2 {a0 : Nat → Int} (hx : ∀ i, (Lit.int .i64 (a0 i)).wf = true) (h0 : within (a0 0) 4 = (2 : Nat)) (w : World) : Calls Tryz.prog 6 #[.int .i64 (a0 0)] w fun e w' => e = .returned (.bool true) ∧ Same w w' := by
  have hc : CallOk a0 Tryz.prog call_2 := ready.call (orS_ok (withinS_ok YtfebdfceidnnmaaGreatDoor.within_walk (by decide) (by decide) (hx 0) h0) S4_ok) (mergeOf_ok _) 60
  exact walk_run hc run_2 (xs := [.int .i64 (a0 0)]) (fun ρ => .cons _ _ _ _ (.sym 0) (.nil))
end Go.AX

