/- AgentErrors, for whatever numbers. -/
import Derived.Test.YtfebdfceidnnmaaGreatDoorErrorsTc0
set_option autoImplicit false
set_option linter.unusedVariables false
set_option maxRecDepth 1000000
namespace Go.AX
open Go.Proofs
theorem walk5 (n0 : Int) (hn0 : (Lit.int .i64 n0).wf = true) (w : World) : Calls Tryz.prog 8 #[.int .i64 n0] w fun e w' => e = .returned (.bool true) ∧ Same w w' := by
  have hx : ∀ i, (Lit.int .i64 ((fun i : Nat => n0) i)).wf = true := fun i => by
    exact hn0
  exact walk_0 (a0 := (fun i : Nat => n0)) hx w
end Go.AX

