/- AgentTicks: the closed facts of its row; the row. -/
import Derived.Test.YtfebdfceidnnmaaGreatDoorTicksUa
import Derived.Test.YtfebdfceidnnmaaGreatDoorTie
import Derived.Test.YtfebdfceidnnmaaGreatDoorCards
import Derived.SevenTiedAt
namespace Go.Proofs.YtfebdfceidnnmaaGreatDoor.agentTicks
open Go.ChangeShapes Go.WideShapes Go.ChangeAt Go.RowKit
set_option linter.unusedVariables false
set_option linter.unusedSimpArgs false
set_option maxRecDepth 100000

theorem c_name : Tryz.pinned.checked.prog.funcNamed Rows.agentTicksRow.func = some 13 := by kernel_rfl
theorem c_place : (Rows.agentTicksRow.inPlace == Tryz.pinned.checked.prog.inPlace 13) = true := by kernel_rfl
theorem c_unf : (Rows.agentTicksRow.unfollowed == Tryz.pinned.checked.prog.unfollowed 13) = true := by kernel_rfl
theorem c_rec : (Rows.agentTicksRow.recurses == Tryz.pinned.checked.prog.recurses 13) = true := by kernel_rfl
theorem c_nam : (Rows.agentTicksRow.named == Tryz.pinned.checked.prog.varsNamed 13) = true := by kernel_rfl
theorem c_heard : Tryz.pinned.checked.prog.stopsHeard = true := by kernel_rfl
theorem c_may : Tryz.pinned.checked.prog.mayEnter = true := by kernel_rfl
theorem c_laid : laidOutB Tryz.pinned.checked.prog = true := by kernel_rfl
theorem c_maps : mapsRowed Tryz.pinned.checked.prog = true := by kernel_rfl
theorem closed : joinedFacts Tryz.pinned.checked.prog 13 Tryz.f13 (OpenSpec.ofChange Rows.agentTicksSpec).bare Rows.agentTicksRow = true := by
  unfold joinedFacts
  rw [c_place, c_unf, c_rec, c_nam, c_heard, c_may, c_laid, c_maps]
  kernel_rfl
theorem inst : Func.isInstance Tryz.pinned.checked.prog Tryz.f13 Rows.agentTicksRow.origin Rows.agentTicksRow.targs := of_decide_eq_true (by kernel_rfl)
theorem wrap : Func.isWrapper Tryz.pinned.checked.prog Tryz.f13 Rows.agentTicksRow.wrapper Rows.agentTicksRow.mainSum := by
  unfold Func.isWrapper
  first
  | (rw [if_pos (by decide +kernel)]; kernel_rfl)
  | (rw [if_neg (by decide +kernel)]; exact ⟨rfl, rfl⟩)
theorem said : Rows.AgentTicksSaid :=
  OpenClaim.holds_of_cond 13 Tryz.f13 rfl rfl rfl rfl rfl rfl rfl ⟨rfl, rfl, rfl, rfl, rfl⟩ rfl rfl rfl rfl rfl c_name Tryz.func13 closed inst wrap
    (fun os started H enc _ F => by rw [OpenClaim.pre_eq_preRow]; exact lifted os started H enc F)
end Go.Proofs.YtfebdfceidnnmaaGreatDoor.agentTicks

