/- AgentTicks, for whatever numbers. -/
import Derived.Test.YtfebdfceidnnmaaGreatDoorTicksTc0
import Derived.Test.YtfebdfceidnnmaaGreatDoorTicksTc1
import Derived.Test.YtfebdfceidnnmaaGreatDoorTicksTc2
import Derived.Test.YtfebdfceidnnmaaGreatDoorTicksTc3
import Derived.Test.YtfebdfceidnnmaaGreatDoorTicksTc4
set_option autoImplicit false
set_option linter.unusedVariables false
set_option maxRecDepth 1000000
namespace Go.AX
open Go.Proofs
theorem walk5 (n0 : Int) (hn0 : (Lit.int .i64 n0).wf = true) (w : World) : Calls Tryz.prog 13 #[.int .i64 n0] w fun e w' => e = .returned (.bool true) ∧ Same w w' := by
  have b0 := within_lt n0 (c := 20) (by decide)
  have e0 : within n0 20 = 0 ∨ within n0 20 = 1 ∨ within n0 20 = 2 ∨ within n0 20 = 3 ∨ within n0 20 = 4 ∨ within n0 20 = 5 ∨ within n0 20 = 6 ∨ within n0 20 = 7 ∨ within n0 20 = 8 ∨ within n0 20 = 9 ∨ within n0 20 = 10 ∨ within n0 20 = 11 ∨ within n0 20 = 12 ∨ within n0 20 = 13 ∨ within n0 20 = 14 ∨ within n0 20 = 15 ∨ within n0 20 = 16 ∨ within n0 20 = 17 ∨ within n0 20 = 18 ∨ within n0 20 = 19 := by omega
  rcases e0 with h0 | h0 | h0 | h0 | h0 | h0 | h0 | h0 | h0 | h0 | h0 | h0 | h0 | h0 | h0 | h0 | h0 | h0 | h0 | h0
  · exact walk_0 hn0 h0 w
  · exact walk_1 hn0 h0 w
  · exact walk_2 hn0 h0 w
  · exact walk_3 hn0 h0 w
  · exact walk_4 hn0 h0 w
  · exact walk_5 hn0 h0 w
  · exact walk_6 hn0 h0 w
  · exact walk_7 hn0 h0 w
  · exact walk_8 hn0 h0 w
  · exact walk_9 hn0 h0 w
  · exact walk_10 hn0 h0 w
  · exact walk_11 hn0 h0 w
  · exact walk_12 hn0 h0 w
  · exact walk_13 hn0 h0 w
  · exact walk_14 hn0 h0 w
  · exact walk_15 hn0 h0 w
  · exact walk_16 hn0 h0 w
  · exact walk_17 hn0 h0 w
  · exact walk_18 hn0 h0 w
  · exact walk_19 hn0 h0 w
end Go.AX

