/-
  The law AgentWaits answers true for every number, and what was there stays: no condition.
-/
import Derived.Test.YtfebdfceidnnmaaGreatDoorUb
import Derived.Test.YtfebdfceidnnmaaGreatDoorUc
import Derived.Test.YtfebdfceidnnmaaGreatDoorZ2
import Derived.Test.YtfebdfceidnnmaaGreatDoorTie
import Derived.Test.YtfebdfceidnnmaaGreatDoorCards
import Derived.SevenTiedAt
namespace Go.Proofs.YtfebdfceidnnmaaGreatDoor.agentWaits
open Go.ChangeShapes Go.WideShapes Go.ChangeAt Go.RowKit
set_option linter.unusedVariables false
set_option maxRecDepth 100000

theorem c_wf : OpenClaim.wfByText (OpenSpec.ofChange Rows.agentWaitsSpec) Rows.agentWaitsRow = true := by kernel_rfl
theorem c_main : Tryz.pinned.checked.prog.mainIs = some (true, "0b36fe67fb6a9005b6b52284bcf9cdfa2b4110b71617fa7b4a530cbad24cc2fa".toList) := by kernel_rfl
theorem c_goes : false = Rows.agentWaitsRow.goesBy Tryz.pinned.checked.prog := by kernel_rfl
theorem proved : Rows.AgentWaitsCardSaid :=
  Claim7.holds_tied_plain_at .later [] _ _ _ _ said (fun _ h => by cases h) c_wf (fun _ h => by cases h) agentWaits_row_tie rfl ⟨rfl, rfl⟩ c_main rfl plain c_goes
#print axioms proved
end Go.Proofs.YtfebdfceidnnmaaGreatDoor.agentWaits

