/- AgentRefuses, for whatever numbers. -/
import Derived.Test.YtfebdfceidnnmaaGreatDoorRefusesTc0
import Derived.Test.YtfebdfceidnnmaaGreatDoorRefusesTc1
set_option autoImplicit false
set_option linter.unusedVariables false
set_option maxRecDepth 1000000
namespace Go.AX
open Go.Proofs
theorem walk5 (n0 : Int) (hn0 : (Lit.int .i64 n0).wf = true) (w : World) : Calls Tryz.prog 4 #[.int .i64 n0] w fun e w' => e = .returned (.bool true) ∧ Same w w' := by
  have b0 := within_lt n0 (c := 5) (by decide)
  have e0 : within n0 5 = 0 ∨ within n0 5 = 1 ∨ within n0 5 = 2 ∨ within n0 5 = 3 ∨ within n0 5 = 4 := by omega
  rcases e0 with h0 | h0 | h0 | h0 | h0
  · exact walk_0 hn0 h0 w
  · exact walk_1 hn0 h0 w
  · exact walk_2 hn0 h0 w
  · exact walk_3 hn0 h0 w
  · exact walk_4 hn0 h0 w
end Go.AX

