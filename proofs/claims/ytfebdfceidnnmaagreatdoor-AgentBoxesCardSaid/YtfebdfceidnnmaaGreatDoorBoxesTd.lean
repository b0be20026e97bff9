/- AgentBoxes, for whatever numbers. -/
import Derived.Test.YtfebdfceidnnmaaGreatDoorBoxesTc0
import Derived.Test.YtfebdfceidnnmaaGreatDoorBoxesTc1
import Derived.Test.YtfebdfceidnnmaaGreatDoorBoxesTc2
import Derived.Test.YtfebdfceidnnmaaGreatDoorBoxesTc3
import Derived.Test.YtfebdfceidnnmaaGreatDoorBoxesTc4
import Derived.Test.YtfebdfceidnnmaaGreatDoorBoxesTc5
import Derived.Test.YtfebdfceidnnmaaGreatDoorBoxesTc6
import Derived.Test.YtfebdfceidnnmaaGreatDoorBoxesTc7
import Derived.Test.YtfebdfceidnnmaaGreatDoorBoxesTc8
set_option autoImplicit false
set_option linter.unusedVariables false
set_option maxRecDepth 1000000
namespace Go.AX
open Go.Proofs
theorem walk5 (n0 : Int) (n1 : Int) (hn0 : (Lit.int .i64 n0).wf = true) (hn1 : (Lit.int .i64 n1).wf = true) (w : World) : Calls Tryz.prog 14 #[.int .i64 n0, .int .i64 n1] w fun e w' => e = .returned (.bool true) ∧ Same w w' := by
  have b0 := within_lt n0 (c := 9) (by decide)
  have e0 : within n0 9 = 0 ∨ within n0 9 = 1 ∨ within n0 9 = 2 ∨ within n0 9 = 3 ∨ within n0 9 = 4 ∨ within n0 9 = 5 ∨ within n0 9 = 6 ∨ within n0 9 = 7 ∨ within n0 9 = 8 := by omega
  have b1 := within_lt n1 (c := 5) (by decide)
  have e1 : within n1 5 = 0 ∨ within n1 5 = 1 ∨ within n1 5 = 2 ∨ within n1 5 = 3 ∨ within n1 5 = 4 := by omega
  rcases e0 with h0 | h0 | h0 | h0 | h0 | h0 | h0 | h0 | h0
  · rcases e1 with h1 | h1 | h1 | h1 | h1
    · exact walk_0_0 hn0 hn1 h0 h1 w
    · exact walk_0_1 hn0 hn1 h0 h1 w
    · exact walk_0_2 hn0 hn1 h0 h1 w
    · exact walk_0_3 hn0 hn1 h0 h1 w
    · exact walk_0_4 hn0 hn1 h0 h1 w
  · rcases e1 with h1 | h1 | h1 | h1 | h1
    · exact walk_1_0 hn0 hn1 h0 h1 w
    · exact walk_1_1 hn0 hn1 h0 h1 w
    · exact walk_1_2 hn0 hn1 h0 h1 w
    · exact walk_1_3 hn0 hn1 h0 h1 w
    · exact walk_1_4 hn0 hn1 h0 h1 w
  · rcases e1 with h1 | h1 | h1 | h1 | h1
    · exact walk_2_0 hn0 hn1 h0 h1 w
    · exact walk_2_1 hn0 hn1 h0 h1 w
    · exact walk_2_2 hn0 hn1 h0 h1 w
    · exact walk_2_3 hn0 hn1 h0 h1 w
    · exact walk_2_4 hn0 hn1 h0 h1 w
  · rcases e1 with h1 | h1 | h1 | h1 | h1
    · exact walk_3_0 hn0 hn1 h0 h1 w
    · exact walk_3_1 hn0 hn1 h0 h1 w
    · exact walk_3_2 hn0 hn1 h0 h1 w
    · exact walk_3_3 hn0 hn1 h0 h1 w
    · exact walk_3_4 hn0 hn1 h0 h1 w
  · rcases e1 with h1 | h1 | h1 | h1 | h1
    · exact walk_4_0 hn0 hn1 h0 h1 w
    · exact walk_4_1 hn0 hn1 h0 h1 w
    · exact walk_4_2 hn0 hn1 h0 h1 w
    · exact walk_4_3 hn0 hn1 h0 h1 w
    · exact walk_4_4 hn0 hn1 h0 h1 w
  · rcases e1 with h1 | h1 | h1 | h1 | h1
    · exact walk_5_0 hn0 hn1 h0 h1 w
    · exact walk_5_1 hn0 hn1 h0 h1 w
    · exact walk_5_2 hn0 hn1 h0 h1 w
    · exact walk_5_3 hn0 hn1 h0 h1 w
    · exact walk_5_4 hn0 hn1 h0 h1 w
  · rcases e1 with h1 | h1 | h1 | h1 | h1
    · exact walk_6_0 hn0 hn1 h0 h1 w
    · exact walk_6_1 hn0 hn1 h0 h1 w
    · exact walk_6_2 hn0 hn1 h0 h1 w
    · exact walk_6_3 hn0 hn1 h0 h1 w
    · exact walk_6_4 hn0 hn1 h0 h1 w
  · rcases e1 with h1 | h1 | h1 | h1 | h1
    · exact walk_7_0 hn0 hn1 h0 h1 w
    · exact walk_7_1 hn0 hn1 h0 h1 w
    · exact walk_7_2 hn0 hn1 h0 h1 w
    · exact walk_7_3 hn0 hn1 h0 h1 w
    · exact walk_7_4 hn0 hn1 h0 h1 w
  · rcases e1 with h1 | h1 | h1 | h1 | h1
    · exact walk_8_0 hn0 hn1 h0 h1 w
    · exact walk_8_1 hn0 hn1 h0 h1 w
    · exact walk_8_2 hn0 hn1 h0 h1 w
    · exact walk_8_3 hn0 hn1 h0 h1 w
    · exact walk_8_4 hn0 hn1 h0 h1 w
end Go.AX

