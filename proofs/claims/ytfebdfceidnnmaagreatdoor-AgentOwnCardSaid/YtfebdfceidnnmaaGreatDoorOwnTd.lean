/- AgentOwn, for whatever numbers. -/
import Derived.Test.YtfebdfceidnnmaaGreatDoorOwnTc0
import Derived.Test.YtfebdfceidnnmaaGreatDoorOwnTc1
set_option autoImplicit false
set_option linter.unusedVariables false
set_option maxRecDepth 1000000
namespace Go.AX
open Go.Proofs
theorem walk5 (n0 : Int) (hn0 : (Lit.int .i64 n0).wf = true) (w : World) : Calls Tryz.prog 6 #[.int .i64 n0] w fun e w' => e = .returned (.bool true) ∧ Same w w' := by
  have hx : ∀ i, (Lit.int .i64 ((fun i : Nat => n0) i)).wf = true := fun i => by
    exact hn0
  have b0 := within_lt n0 (c := 4) (by decide)
  have e0 : within n0 4 = 0 ∨ within n0 4 = 1 ∨ within n0 4 = 2 ∨ within n0 4 = 3 := by omega
  rcases e0 with h0 | h0 | h0 | h0
  · exact walk_0 (a0 := (fun i : Nat => n0)) hx h0 w
  · exact walk_1 (a0 := (fun i : Nat => n0)) hx h0 w
  · exact walk_2 (a0 := (fun i : Nat => n0)) hx h0 w
  · exact walk_3 (a0 := (fun i : Nat => n0)) hx h0 w
end Go.AX

