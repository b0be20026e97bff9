/- AgentErrors, runs. -/
import Derived.Test.YtfebdfceidnnmaaGreatDoorErrorsTb
set_option autoImplicit false
set_option linter.unusedVariables false
set_option maxRecDepth 1000000
namespace Go.AX
open Go.Proofs
noncomputable def call_0 : CallF := fCall E CC mkT (orS (withinR 23 50) S4) (mergeOf []) 60
theorem run_0 : allT (call_0 8 [.sym 0] ⟨T.nil, 0⟩) = true := by kernel_rfl
theorem walk_0 {a0 : Nat → Int} (hx : ∀ i, (Lit.int .i64 (a0 i)).wf = true) (w : World) : Calls Tryz.prog 8 #[.int .i64 (a0 0)] w fun e w' => e = .returned (.bool true) ∧ Same w w' := by
  have hc : CallOk a0 Tryz.prog call_0 := ready.call (orS_ok (withinR_ok YtfebdfceidnnmaaGreatDoor.within_walk (by decide) (by decide) hx) S4_ok) (mergeOf_ok _) 60
  exact walk_run hc run_0 (xs := [.int .i64 (a0 0)]) (fun ρ => .cons _ _ _ _ (.sym 0) (.nil))
end Go.AX

