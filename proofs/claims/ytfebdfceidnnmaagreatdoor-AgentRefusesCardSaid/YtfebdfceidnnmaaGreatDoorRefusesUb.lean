/- AgentRefuses: the closed facts of its row; the row. -/
import Derived.Test.YtfebdfceidnnmaaGreatDoorRefusesUa
import Derived.Test.YtfebdfceidnnmaaGreatDoorTie
import Derived.Test.YtfebdfceidnnmaaGreatDoorCards
import Derived.SevenTiedAt
namespace Go.Proofs.YtfebdfceidnnmaaGreatDoor.agentRefuses
open Go.ChangeShapes Go.WideShapes Go.ChangeAt Go.RowKit
set_option linter.unusedVariables false
set_option linter.unusedSimpArgs false
set_option maxRecDepth 100000

theorem c_name : Tryz.pinned.checked.prog.funcNamed Rows.agentRefusesRow.func = some 4 := by kernel_rfl
theorem c_place : (Rows.agentRefusesRow.inPlace == Tryz.pinned.checked.prog.inPlace 4) = true := by kernel_rfl
theorem c_unf : (Rows.agentRefusesRow.unfollowed == Tryz.pinned.checked.prog.unfollowed 4) = true := by kernel_rfl
theorem c_rec : (Rows.agentRefusesRow.recurses == Tryz.pinned.checked.prog.recurses 4) = true := by kernel_rfl
theorem c_nam : (Rows.agentRefusesRow.named == Tryz.pinned.checked.prog.varsNamed 4) = true := by kernel_rfl
theorem c_heard : Tryz.pinned.checked.prog.stopsHeard = true := by kernel_rfl
theorem c_may : Tryz.pinned.checked.prog.mayEnter = true := by kernel_rfl
theorem c_laid : laidOutB Tryz.pinned.checked.prog = true := by kernel_rfl
theorem c_maps : mapsRowed Tryz.pinned.checked.prog = true := by kernel_rfl
theorem closed : joinedFacts Tryz.pinned.checked.prog 4 Tryz.f4 (OpenSpec.ofChange Rows.agentRefusesSpec).bare Rows.agentRefusesRow = true := by
  unfold joinedFacts
  rw [c_place, c_unf, c_rec, c_nam, c_heard, c_may, c_laid, c_maps]
  kernel_rfl
theorem inst : Func.isInstance Tryz.pinned.checked.prog Tryz.f4 Rows.agentRefusesRow.origin Rows.agentRefusesRow.targs := of_decide_eq_true (by kernel_rfl)
theorem wrap : Func.isWrapper Tryz.pinned.checked.prog Tryz.f4 Rows.agentRefusesRow.wrapper Rows.agentRefusesRow.mainSum := by
  unfold Func.isWrapper
  first
  | (rw [if_pos (by decide +kernel)]; kernel_rfl)
  | (rw [if_neg (by decide +kernel)]; exact ⟨rfl, rfl⟩)
theorem said : Rows.AgentRefusesSaid :=
  OpenClaim.holds_of_cond 4 Tryz.f4 rfl rfl rfl rfl rfl rfl rfl ⟨rfl, rfl, rfl, rfl, rfl⟩ rfl rfl rfl rfl rfl c_name Tryz.func4 closed inst wrap
    (fun os started H enc _ F => by rw [OpenClaim.pre_eq_preRow]; exact lifted os started H enc F)
end Go.Proofs.YtfebdfceidnnmaaGreatDoor.agentRefuses

