/- AgentOwn, runs. -/
import Derived.Test.YtfebdfceidnnmaaGreatDoorOwnTb
set_option autoImplicit false
set_option linter.unusedVariables false
set_option maxRecDepth 1000000
namespace Go.AX
open Go.Proofs
noncomputable def call_3 : CallF := fCall E CC mkT (orS (withinS 23 0 4 3) S4) (mergeOf []) 60
theorem run_3 : allT (call_3 6 [.sym 0] ⟨T.nil, 0⟩) = true := by kernel_rfl
theorem walk_3 {a0 : Nat → Int} (hx : ∀ i, (Lit.int .i64 (a0 i)).wf = true) (h0 : within (a0 0) 4 = (3 : Nat)) (w : World) : Calls Tryz.prog 6 #[.int .i64 (a0 0)] w fun e w' => e = .returned (.bool true) ∧ Same w w' := by
  have hc : CallOk a0 Tryz.prog call_3 := ready.call (orS_ok (withinS_ok YtfebdfceidnnmaaGreatDoor.within_walk (by decide) (by decide) (hx 0) h0) S4_ok) (mergeOf_ok _) 60
  exact walk_run hc run_3 (xs := [.int .i64 (a0 0)]) (fun ρ => .cons _ _ _ _ (.sym 0) (.nil))
end Go.AX

