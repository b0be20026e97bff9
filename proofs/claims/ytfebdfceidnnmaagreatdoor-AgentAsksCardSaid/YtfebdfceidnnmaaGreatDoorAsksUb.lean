/- AgentAsks: the closed facts of its row; the row. -/
import Derived.Test.YtfebdfceidnnmaaGreatDoorAsksUa
import Derived.Test.YtfebdfceidnnmaaGreatDoorTie
import Derived.Test.YtfebdfceidnnmaaGreatDoorCards
import Derived.SevenTiedAt
namespace Go.Proofs.YtfebdfceidnnmaaGreatDoor.agentAsks
open Go.ChangeShapes Go.WideShapes Go.ChangeAt Go.RowKit
set_option linter.unusedVariables false
set_option linter.unusedSimpArgs false
set_option maxRecDepth 100000

theorem c_name : Tryz.pinned.checked.prog.funcNamed Rows.agentAsksRow.func = some 12 := by kernel_rfl
theorem c_place : (Rows.agentAsksRow.inPlace == Tryz.pinned.checked.prog.inPlace 12) = true := by kernel_rfl
theorem c_unf : (Rows.agentAsksRow.unfollowed == Tryz.pinned.checked.prog.unfollowed 12) = true := by kernel_rfl
theorem c_rec : (Rows.agentAsksRow.recurses == Tryz.pinned.checked.prog.recurses 12) = true := by kernel_rfl
theorem c_nam : (Rows.agentAsksRow.named == Tryz.pinned.checked.prog.varsNamed 12) = true := by kernel_rfl
theorem c_heard : Tryz.pinned.checked.prog.stopsHeard = true := by kernel_rfl
theorem c_may : Tryz.pinned.checked.prog.mayEnter = true := by kernel_rfl
theorem c_laid : laidOutB Tryz.pinned.checked.prog = true := by kernel_rfl
theorem c_maps : mapsRowed Tryz.pinned.checked.prog = true := by kernel_rfl
theorem closed : joinedFacts Tryz.pinned.checked.prog 12 Tryz.f12 (OpenSpec.ofChange Rows.agentAsksSpec).bare Rows.agentAsksRow = true := by
  unfold joinedFacts
  rw [c_place, c_unf, c_rec, c_nam, c_heard, c_may, c_laid, c_maps]
  kernel_rfl
theorem inst : Func.isInstance Tryz.pinned.checked.prog Tryz.f12 Rows.agentAsksRow.origin Rows.agentAsksRow.targs := of_decide_eq_true (by kernel_rfl)
theorem wrap : Func.isWrapper Tryz.pinned.checked.prog Tryz.f12 Rows.agentAsksRow.wrapper Rows.agentAsksRow.mainSum := by
  unfold Func.isWrapper
  first
  | (rw [if_pos (by decide +kernel)]; kernel_rfl)
  | (rw [if_neg (by decide +kernel)]; exact ⟨rfl, rfl⟩)
theorem said : Rows.AgentAsksSaid :=
  OpenClaim.holds_of_cond 12 Tryz.f12 rfl rfl rfl rfl rfl rfl rfl ⟨rfl, rfl, rfl, rfl, rfl⟩ rfl rfl rfl rfl rfl c_name Tryz.func12 closed inst wrap
    (fun os started H enc _ F => by rw [OpenClaim.pre_eq_preRow]; exact lifted os started H enc F)
end Go.Proofs.YtfebdfceidnnmaaGreatDoor.agentAsks

