/- AgentRefuses: what its card asks besides. -/
import Derived.Test.YtfebdfceidnnmaaGreatDoorZ2
import Derived.Test.YtfebdfceidnnmaaGreatDoorTie
import Derived.Test.YtfebdfceidnnmaaGreatDoorCards
import Derived.SevenTiedAt
namespace Go.Proofs.YtfebdfceidnnmaaGreatDoor.agentRefuses
open Go.ChangeShapes Go.WideShapes Go.ChangeAt Go.RowKit
set_option linter.unusedVariables false
set_option linter.unusedSimpArgs false
set_option maxRecDepth 100000

theorem plain (f : FuncId) (fn : Func) (hf : Tryz.pinned.checked.prog.funcNamed "hostler/hostlerlaw19.AgentRefuses" = some f) (hfn : Tryz.pinned.checked.prog.funcs[f]? = some fn) :
    false = Tryz.pinned.checked.prog.looks [] ∧ ∀ (j : Nat) t, fn.params[j]? = some t → Tryz.pinned.checked.prog.wantsStandIn t = false := by
  obtain rfl : f = 4 := Option.some.inj ((show Tryz.prog.funcNamed "hostler/hostlerlaw19.AgentRefuses" = some 4 by kernel_rfl).symm.trans hf) |>.symm
  obtain rfl : fn = Tryz.f4 := (Option.some.inj (Tryz.func4.symm.trans hfn)).symm
  refine ⟨by kernel_rfl, fun j t ht => ?_⟩
  rw [Tryz.params4] at ht
  obtain rfl : t = 3 := by simpa using Array.mem_of_getElem? ht
  exact (show Tryz.prog.wantsStandIn 3 = false by kernel_rfl)
theorem c_wf : OpenClaim.wfByText (OpenSpec.ofChange Rows.agentRefusesSpec) Rows.agentRefusesRow = true := by kernel_rfl
theorem c_main : Tryz.pinned.checked.prog.mainIs = some (true, "0b36fe67fb6a9005b6b52284bcf9cdfa2b4110b71617fa7b4a530cbad24cc2fa".toList) := by kernel_rfl
theorem c_goes : false = Rows.agentRefusesRow.goesBy Tryz.pinned.checked.prog := by kernel_rfl
end Go.Proofs.YtfebdfceidnnmaaGreatDoor.agentRefuses

