/-
  The law AgentRefuses answers true for every input, and its arguments read as they did. No condition.
-/
import Derived.Test.YtfebdfceidnnmaaGreatDoorRefusesUb
import Derived.Test.YtfebdfceidnnmaaGreatDoorRefusesUc
import Derived.Test.YtfebdfceidnnmaaGreatDoorTie
import Derived.Test.YtfebdfceidnnmaaGreatDoorCards
import Derived.SevenTiedAt
namespace Go.Proofs.YtfebdfceidnnmaaGreatDoor.agentRefuses
open Go.ChangeShapes Go.WideShapes Go.ChangeAt Go.RowKit
set_option linter.unusedVariables false
set_option linter.unusedSimpArgs false
set_option maxRecDepth 100000

theorem proved : Rows.AgentRefusesCardSaid :=
  Claim7.holds_tied_plain_at .later [] _ _ _ _ said (fun _ h => by cases h) c_wf (fun _ h => by cases h) agentRefuses_row_tie rfl ⟨rfl, rfl⟩ c_main rfl plain c_goes
#print axioms proved
end Go.Proofs.YtfebdfceidnnmaaGreatDoor.agentRefuses

