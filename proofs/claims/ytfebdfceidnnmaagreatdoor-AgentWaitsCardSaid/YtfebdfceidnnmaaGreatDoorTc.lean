/- AgentWaits: for whatever number the law answers true. -/
import Derived.Test.YtfebdfceidnnmaaGreatDoorTb
set_option autoImplicit false
set_option maxRecDepth 1000000
namespace Go.AX
open Go.Proofs
noncomputable def S5 : Sum := orS (withinR 23 50) S4
noncomputable def call5 : CallF := fCall E CC mkT S5 (mergeOf []) 60
theorem run5 : allT (call5 3 [.sym 0] ⟨T.nil, 0⟩) = true := by kernel_rfl
theorem walk5 (n : Int) (hn : (Lit.int .i64 n).wf = true) (w : World) : Calls Tryz.prog 3 #[.int .i64 n] w fun e w' => e = .returned (.bool true) ∧ Same w w' := by
  have hc : CallOk (fun _ => n) Tryz.prog call5 := ready.call (orS_ok (withinR_ok YtfebdfceidnnmaaGreatDoor.within_walk (by decide) (by decide) (fun _ => hn)) S4_ok) (mergeOf_ok _) 60
  exact walk_run hc run5 (xs := [.int .i64 n]) (fun ρ => .cons _ _ _ _ (.sym 0) .nil)
end Go.AX

