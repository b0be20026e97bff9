/-
  The law AgentWaits answers true for every number, and what was there stays: no condition.
-/
import Derived.Test.YtfebdfceidnnmaaGreatDoorUa
import Derived.Test.YtfebdfceidnnmaaGreatDoorZ2
import Derived.Test.YtfebdfceidnnmaaGreatDoorTie
import Derived.Test.YtfebdfceidnnmaaGreatDoorCards
import Derived.SevenTiedAt
namespace Go.Proofs.YtfebdfceidnnmaaGreatDoor.agentWaits
open Go.ChangeShapes Go.WideShapes Go.ChangeAt Go.RowKit
set_option linter.unusedVariables false
set_option maxRecDepth 100000

theorem c_name : Tryz.pinned.checked.prog.funcNamed Rows.agentWaitsRow.func = some 3 := by kernel_rfl
theorem c_place : (Rows.agentWaitsRow.inPlace == Tryz.pinned.checked.prog.inPlace 3) = true := by kernel_rfl
theorem c_unf : (Rows.agentWaitsRow.unfollowed == Tryz.pinned.checked.prog.unfollowed 3) = true := by kernel_rfl
theorem c_rec : (Rows.agentWaitsRow.recurses == Tryz.pinned.checked.prog.recurses 3) = true := by kernel_rfl
theorem c_nam : (Rows.agentWaitsRow.named == Tryz.pinned.checked.prog.varsNamed 3) = true := by kernel_rfl
theorem c_heard : Tryz.pinned.checked.prog.stopsHeard = true := by kernel_rfl
theorem c_may : Tryz.pinned.checked.prog.mayEnter = true := by kernel_rfl
theorem c_laid : laidOutB Tryz.pinned.checked.prog = true := by kernel_rfl
theorem c_maps : mapsRowed Tryz.pinned.checked.prog = true := by kernel_rfl
theorem closed : joinedFacts Tryz.pinned.checked.prog 3 Tryz.f3 (OpenSpec.ofChange Rows.agentWaitsSpec).bare Rows.agentWaitsRow = true := by
  unfold joinedFacts
  rw [c_place, c_unf, c_rec, c_nam, c_heard, c_may, c_laid, c_maps]
  kernel_rfl
theorem inst : Func.isInstance Tryz.pinned.checked.prog Tryz.f3 Rows.agentWaitsRow.origin Rows.agentWaitsRow.targs := of_decide_eq_true (by kernel_rfl)
theorem wrap : Func.isWrapper Tryz.pinned.checked.prog Tryz.f3 Rows.agentWaitsRow.wrapper Rows.agentWaitsRow.mainSum := by
  unfold Func.isWrapper
  first
  | (rw [if_pos (by decide +kernel)]; kernel_rfl)
  | (rw [if_neg (by decide +kernel)]; exact ⟨rfl, rfl⟩)
theorem said : Rows.AgentWaitsSaid :=
  OpenClaim.holds_of_cond 3 Tryz.f3 rfl rfl rfl rfl rfl rfl rfl ⟨rfl, rfl, rfl, rfl, rfl⟩ rfl rfl rfl rfl rfl c_name Tryz.func3 closed inst wrap
    (fun os started H enc _ F => by rw [OpenClaim.pre_eq_preRow]; exact lifted os started H enc F)
end Go.Proofs.YtfebdfceidnnmaaGreatDoor.agentWaits

