/- AgentRuns, for whatever numbers. -/
import Derived.Test.YtfebdfceidnnmaaGreatDoorRunsTc0
import Derived.Test.YtfebdfceidnnmaaGreatDoorRunsTc1
import Derived.Test.YtfebdfceidnnmaaGreatDoorRunsTc2
set_option autoImplicit false
set_option linter.unusedVariables false
set_option maxRecDepth 1000000
namespace Go.AX
open Go.Proofs
theorem walk5 (n0 : Int) (n1 : Int) (hn0 : (Lit.int .i64 n0).wf = true) (hn1 : (Lit.int .i64 n1).wf = true) (w : World) : Calls Tryz.prog 9 #[.int .i64 n0, .int .i64 n1] w fun e w' => e = .returned (.bool true) ∧ Same w w' := by
  have b0 := within_lt n0 (c := 3) (by decide)
  have e0 : within n0 3 = 0 ∨ within n0 3 = 1 ∨ within n0 3 = 2 := by omega
  have b1 := within_lt n1 (c := 9) (by decide)
  have e1 : within n1 9 = 0 ∨ within n1 9 = 1 ∨ within n1 9 = 2 ∨ within n1 9 = 3 ∨ within n1 9 = 4 ∨ within n1 9 = 5 ∨ within n1 9 = 6 ∨ within n1 9 = 7 ∨ within n1 9 = 8 := by omega
  rcases e0 with h0 | h0 | h0
  · rcases e1 with h1 | h1 | h1 | h1 | h1 | h1 | h1 | h1 | h1
    · exact walk_0_0 hn0 hn1 h0 h1 w
    · exact walk_0_1 hn0 hn1 h0 h1 w
    · exact walk_0_2 hn0 hn1 h0 h1 w
    · exact walk_0_3 hn0 hn1 h0 h1 w
    · exact walk_0_4 hn0 hn1 h0 h1 w
    · exact walk_0_5 hn0 hn1 h0 h1 w
    · exact walk_0_6 hn0 hn1 h0 h1 w
    · exact walk_0_7 hn0 hn1 h0 h1 w
    · exact walk_0_8 hn0 hn1 h0 h1 w
  · rcases e1 with h1 | h1 | h1 | h1 | h1 | h1 | h1 | h1 | h1
    · exact walk_1_0 hn0 hn1 h0 h1 w
    · exact walk_1_1 hn0 hn1 h0 h1 w
    · exact walk_1_2 hn0 hn1 h0 h1 w
    · exact walk_1_3 hn0 hn1 h0 h1 w
    · exact walk_1_4 hn0 hn1 h0 h1 w
    · exact walk_1_5 hn0 hn1 h0 h1 w
    · exact walk_1_6 hn0 hn1 h0 h1 w
    · exact walk_1_7 hn0 hn1 h0 h1 w
    · exact walk_1_8 hn0 hn1 h0 h1 w
  · rcases e1 with h1 | h1 | h1 | h1 | h1 | h1 | h1 | h1 | h1
    · exact walk_2_0 hn0 hn1 h0 h1 w
    · exact walk_2_1 hn0 hn1 h0 h1 w
    · exact walk_2_2 hn0 hn1 h0 h1 w
    · exact walk_2_3 hn0 hn1 h0 h1 w
    · exact walk_2_4 hn0 hn1 h0 h1 w
    · exact walk_2_5 hn0 hn1 h0 h1 w
    · exact walk_2_6 hn0 hn1 h0 h1 w
    · exact walk_2_7 hn0 hn1 h0 h1 w
    · exact walk_2_8 hn0 hn1 h0 h1 w
end Go.AX

