/- Parts of the proof. -/
import Derived.Test.YtfebdfceidnnmaaGreatDoorG5
import Derived.Test.YtfebdfceidnnmaaGreatDoorRows
import Derived.WalkKit
import Derived.ProofKit
import Derived.OpenShut
namespace Go.Proofs.YtfebdfceidnnmaaGreatDoor
open Go.ChangeShapes Go.WideShapes Go.ChangeAt Go.RowKit Go.AX
set_option maxHeartbeats 400000 in
theorem within_walk : WithinOk Tryz.prog 23 := by
  intro x c w hc hc2 hx
  have b1 := Int.tmod_lt_of_pos x (show 0 < c by omega)
  have b2 := Int.lt_tmod_of_pos x (show 0 < c by omega)
  unfold within
  go_enter Tryz.func23, Tryz.ntmps23
  go_wp2
  · go_ret
    exact ⟨rfl, rfl⟩
  · go_ret
    exact ⟨rfl, rfl⟩
end Go.Proofs.YtfebdfceidnnmaaGreatDoor

