/- AgentRuns: the closed facts of its row; the row. -/
import Derived.Test.YtfebdfceidnnmaaGreatDoorRunsUa
import Derived.Test.YtfebdfceidnnmaaGreatDoorTie
import Derived.Test.YtfebdfceidnnmaaGreatDoorCards
import Derived.SevenTiedAt
namespace Go.Proofs.YtfebdfceidnnmaaGreatDoor.agentRuns
open Go.ChangeShapes Go.WideShapes Go.ChangeAt Go.RowKit
set_option linter.unusedVariables false
set_option linter.unusedSimpArgs false
set_option maxRecDepth 100000

theorem c_name : Tryz.pinned.checked.prog.funcNamed Rows.agentRunsRow.func = some 9 := by kernel_rfl
theorem c_place : (Rows.agentRunsRow.inPlace == Tryz.pinned.checked.prog.inPlace 9) = true := by kernel_rfl
theorem c_unf : (Rows.agentRunsRow.unfollowed == Tryz.pinned.checked.prog.unfollowed 9) = true := by kernel_rfl
theorem c_rec : (Rows.agentRunsRow.recurses == Tryz.pinned.checked.prog.recurses 9) = true := by kernel_rfl
theorem c_nam : (Rows.agentRunsRow.named == Tryz.pinned.checked.prog.varsNamed 9) = true := by kernel_rfl
theorem c_heard : Tryz.pinned.checked.prog.stopsHeard = true := by kernel_rfl
theorem c_may : Tryz.pinned.checked.prog.mayEnter = true := by kernel_rfl
theorem c_laid : laidOutB Tryz.pinned.checked.prog = true := by kernel_rfl
theorem c_maps : mapsRowed Tryz.pinned.checked.prog = true := by kernel_rfl
theorem closed : joinedFacts Tryz.pinned.checked.prog 9 Tryz.f9 (OpenSpec.ofChange Rows.agentRunsSpec).bare Rows.agentRunsRow = true := by
  unfold joinedFacts
  rw [c_place, c_unf, c_rec, c_nam, c_heard, c_may, c_laid, c_maps]
  kernel_rfl
theorem inst : Func.isInstance Tryz.pinned.checked.prog Tryz.f9 Rows.agentRunsRow.origin Rows.agentRunsRow.targs := of_decide_eq_true (by kernel_rfl)
theorem wrap : Func.isWrapper Tryz.pinned.checked.prog Tryz.f9 Rows.agentRunsRow.wrapper Rows.agentRunsRow.mainSum := by
  unfold Func.isWrapper
  first
  | (rw [if_pos (by decide +kernel)]; kernel_rfl)
  | (rw [if_neg (by decide +kernel)]; exact ⟨rfl, rfl⟩)
theorem said : Rows.AgentRunsSaid :=
  OpenClaim.holds_of_cond 9 Tryz.f9 rfl rfl rfl rfl rfl rfl rfl ⟨rfl, rfl, rfl, rfl, rfl⟩ rfl rfl rfl rfl rfl c_name Tryz.func9 closed inst wrap
    (fun os started H enc _ F => by rw [OpenClaim.pre_eq_preRow]; exact lifted os started H enc F)
end Go.Proofs.YtfebdfceidnnmaaGreatDoor.agentRuns

