/- AgentRefuses, runs. -/
import Derived.Test.YtfebdfceidnnmaaGreatDoorRefusesTe0
import Derived.Test.YtfebdfceidnnmaaGreatDoorRefusesTe1
import Derived.Test.YtfebdfceidnnmaaGreatDoorRefusesTe2
import Derived.Test.YtfebdfceidnnmaaGreatDoorRefusesTe3
import Derived.Test.YtfebdfceidnnmaaGreatDoorRefusesTe4
import Derived.Test.YtfebdfceidnnmaaGreatDoorRefusesTe5
import Derived.Test.YtfebdfceidnnmaaGreatDoorRefusesTe6
import Derived.Test.YtfebdfceidnnmaaGreatDoorRefusesTe7
import Derived.Test.YtfebdfceidnnmaaGreatDoorRefusesTe8
import Derived.Test.YtfebdfceidnnmaaGreatDoorRefusesTe9
import Derived.Test.YtfebdfceidnnmaaGreatDoorRefusesTe10
set_option autoImplicit false
set_option linter.unusedVariables false
set_option maxRecDepth 1000000
namespace Go.AX
open Go.Proofs
noncomputable def tl_4 : List CE := [ce0, ce41, ce42, ce43, ce44, ce45, ce46, ce47, ce48, ce49]
noncomputable def call_4 : CallF := fCall E CC mkT (orS (withinS 23 0 5 4) (orS (tabS tl_4) S4)) (mergeOf []) 60
theorem run_4 : allT (call_4 4 [.sym 0] ⟨T.nil, 0⟩) = true := by kernel_rfl
theorem walk_4 {n0 : Int} (hn0 : (Lit.int .i64 n0).wf = true) (h0 : within n0 5 = (4 : Nat)) (w : World) : Calls Tryz.prog 4 #[.int .i64 n0] w fun e w' => e = .returned (.bool true) ∧ Same w w' := by
  have hx : ∀ i, ∃ n, A0 n0 i = .int .i64 n ∧ (Lit.int .i64 n).wf = true := fun i => match i with | _ => ⟨n0, rfl, hn0⟩
  have hc : CallOk (A0 n0) Tryz.prog call_4 := ready.call (orS_ok (withinS_ok YtfebdfceidnnmaaGreatDoor.within_walk (by decide) (by decide) (a0 := A0 n0) (i := 0) rfl hn0 h0) (orS_ok (tabS_ok (tab_cons ce0_ok (tab_cons ce41_ok (tab_cons ce42_ok (tab_cons ce43_ok (tab_cons ce44_ok (tab_cons ce45_ok (tab_cons ce46_ok (tab_cons ce47_ok (tab_cons ce48_ok (tab_cons ce49_ok tab_nil))))))))))) S4_ok)) (mergeOf_ok _) 60
  exact walk_run hc run_4 (xs := [.int .i64 n0]) (fun ρ => .cons _ _ _ _ (.sym 0 rfl) (.nil))
end Go.AX

