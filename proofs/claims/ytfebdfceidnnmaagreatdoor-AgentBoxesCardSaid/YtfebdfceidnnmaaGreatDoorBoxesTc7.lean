/- AgentBoxes, runs. -/
import Derived.Test.YtfebdfceidnnmaaGreatDoorBoxesTe0
import Derived.Test.YtfebdfceidnnmaaGreatDoorBoxesTe1
import Derived.Test.YtfebdfceidnnmaaGreatDoorBoxesTe2
import Derived.Test.YtfebdfceidnnmaaGreatDoorBoxesTe3
import Derived.Test.YtfebdfceidnnmaaGreatDoorBoxesTe4
import Derived.Test.YtfebdfceidnnmaaGreatDoorBoxesTe5
import Derived.Test.YtfebdfceidnnmaaGreatDoorBoxesTe6
import Derived.Test.YtfebdfceidnnmaaGreatDoorBoxesTe7
import Derived.Test.YtfebdfceidnnmaaGreatDoorBoxesTe8
import Derived.Test.YtfebdfceidnnmaaGreatDoorBoxesTe9
import Derived.Test.YtfebdfceidnnmaaGreatDoorBoxesTe10
import Derived.Test.YtfebdfceidnnmaaGreatDoorBoxesTe11
import Derived.Test.YtfebdfceidnnmaaGreatDoorBoxesTe12
import Derived.Test.YtfebdfceidnnmaaGreatDoorBoxesTe13
set_option autoImplicit false
set_option linter.unusedVariables false
set_option maxRecDepth 1000000
namespace Go.AX
open Go.Proofs
noncomputable def tl_7_0 : List CE := [ce189, ce190, ce191, ce192, ce193, ce194, ce195]
noncomputable def call_7_0 : CallF := fCall E CC mkT (orS (withinS 23 1 5 0) (orS (withinS 23 0 9 7) (orS (tabS tl_7_0) S4))) (mergeOf []) 60
theorem run_7_0 : allT (call_7_0 14 [.sym 0, .sym 1] ⟨T.nil, 0⟩) = true := by kernel_rfl
theorem walk_7_0 {n0 n1 : Int} (hn0 : (Lit.int .i64 n0).wf = true) (hn1 : (Lit.int .i64 n1).wf = true) (h0 : within n0 9 = (7 : Nat)) (h1 : within n1 5 = (0 : Nat)) (w : World) : Calls Tryz.prog 14 #[.int .i64 n0, .int .i64 n1] w fun e w' => e = .returned (.bool true) ∧ Same w w' := by
  have hc : CallOk (A0 n0 n1) Tryz.prog call_7_0 := ready.call (orS_ok (withinS_ok YtfebdfceidnnmaaGreatDoor.within_walk (by decide) (by decide) (a0 := A0 n0 n1) (i := 1) rfl hn1 h1) (orS_ok (withinS_ok YtfebdfceidnnmaaGreatDoor.within_walk (by decide) (by decide) (a0 := A0 n0 n1) (i := 0) rfl hn0 h0) (orS_ok (tabS_ok (tab_cons ce189_ok (tab_cons ce190_ok (tab_cons ce191_ok (tab_cons ce192_ok (tab_cons ce193_ok (tab_cons ce194_ok (tab_cons ce195_ok tab_nil)))))))) S4_ok))) (mergeOf_ok _) 60
  exact walk_run hc run_7_0 (xs := [.int .i64 n0, .int .i64 n1]) (fun ρ => .cons _ _ _ _ (.sym 0 rfl) (.cons _ _ _ _ (.sym 1 rfl) (.nil)))
noncomputable def tl_7_1 : List CE := [ce189, ce190, ce191, ce196, ce197, ce198, ce199, ce200]
noncomputable def call_7_1 : CallF := fCall E CC mkT (orS (withinS 23 1 5 1) (orS (withinS 23 0 9 7) (orS (tabS tl_7_1) S4))) (mergeOf []) 60
theorem run_7_1 : allT (call_7_1 14 [.sym 0, .sym 1] ⟨T.nil, 0⟩) = true := by kernel_rfl
theorem walk_7_1 {n0 n1 : Int} (hn0 : (Lit.int .i64 n0).wf = true) (hn1 : (Lit.int .i64 n1).wf = true) (h0 : within n0 9 = (7 : Nat)) (h1 : within n1 5 = (1 : Nat)) (w : World) : Calls Tryz.prog 14 #[.int .i64 n0, .int .i64 n1] w fun e w' => e = .returned (.bool true) ∧ Same w w' := by
  have hc : CallOk (A0 n0 n1) Tryz.prog call_7_1 := ready.call (orS_ok (withinS_ok YtfebdfceidnnmaaGreatDoor.within_walk (by decide) (by decide) (a0 := A0 n0 n1) (i := 1) rfl hn1 h1) (orS_ok (withinS_ok YtfebdfceidnnmaaGreatDoor.within_walk (by decide) (by decide) (a0 := A0 n0 n1) (i := 0) rfl hn0 h0) (orS_ok (tabS_ok (tab_cons ce189_ok (tab_cons ce190_ok (tab_cons ce191_ok (tab_cons ce196_ok (tab_cons ce197_ok (tab_cons ce198_ok (tab_cons ce199_ok (tab_cons ce200_ok tab_nil))))))))) S4_ok))) (mergeOf_ok _) 60
  exact walk_run hc run_7_1 (xs := [.int .i64 n0, .int .i64 n1]) (fun ρ => .cons _ _ _ _ (.sym 0 rfl) (.cons _ _ _ _ (.sym 1 rfl) (.nil)))
noncomputable def tl_7_2 : List CE := [ce189, ce190, ce191, ce196, ce201, ce202, ce203, ce204, ce205]
noncomputable def call_7_2 : CallF := fCall E CC mkT (orS (withinS 23 1 5 2) (orS (withinS 23 0 9 7) (orS (tabS tl_7_2) S4))) (mergeOf []) 60
theorem run_7_2 : allT (call_7_2 14 [.sym 0, .sym 1] ⟨T.nil, 0⟩) = true := by kernel_rfl
theorem walk_7_2 {n0 n1 : Int} (hn0 : (Lit.int .i64 n0).wf = true) (hn1 : (Lit.int .i64 n1).wf = true) (h0 : within n0 9 = (7 : Nat)) (h1 : within n1 5 = (2 : Nat)) (w : World) : Calls Tryz.prog 14 #[.int .i64 n0, .int .i64 n1] w fun e w' => e = .returned (.bool true) ∧ Same w w' := by
  have hc : CallOk (A0 n0 n1) Tryz.prog call_7_2 := ready.call (orS_ok (withinS_ok YtfebdfceidnnmaaGreatDoor.within_walk (by decide) (by decide) (a0 := A0 n0 n1) (i := 1) rfl hn1 h1) (orS_ok (withinS_ok YtfebdfceidnnmaaGreatDoor.within_walk (by decide) (by decide) (a0 := A0 n0 n1) (i := 0) rfl hn0 h0) (orS_ok (tabS_ok (tab_cons ce189_ok (tab_cons ce190_ok (tab_cons ce191_ok (tab_cons ce196_ok (tab_cons ce201_ok (tab_cons ce202_ok (tab_cons ce203_ok (tab_cons ce204_ok (tab_cons ce205_ok tab_nil)))))))))) S4_ok))) (mergeOf_ok _) 60
  exact walk_run hc run_7_2 (xs := [.int .i64 n0, .int .i64 n1]) (fun ρ => .cons _ _ _ _ (.sym 0 rfl) (.cons _ _ _ _ (.sym 1 rfl) (.nil)))
noncomputable def tl_7_3 : List CE := [ce189, ce190, ce191, ce196, ce201, ce206, ce207, ce208, ce209, ce210]
noncomputable def call_7_3 : CallF := fCall E CC mkT (orS (withinS 23 1 5 3) (orS (withinS 23 0 9 7) (orS (tabS tl_7_3) S4))) (mergeOf []) 60
theorem run_7_3 : allT (call_7_3 14 [.sym 0, .sym 1] ⟨T.nil, 0⟩) = true := by kernel_rfl
theorem walk_7_3 {n0 n1 : Int} (hn0 : (Lit.int .i64 n0).wf = true) (hn1 : (Lit.int .i64 n1).wf = true) (h0 : within n0 9 = (7 : Nat)) (h1 : within n1 5 = (3 : Nat)) (w : World) : Calls Tryz.prog 14 #[.int .i64 n0, .int .i64 n1] w fun e w' => e = .returned (.bool true) ∧ Same w w' := by
  have hc : CallOk (A0 n0 n1) Tryz.prog call_7_3 := ready.call (orS_ok (withinS_ok YtfebdfceidnnmaaGreatDoor.within_walk (by decide) (by decide) (a0 := A0 n0 n1) (i := 1) rfl hn1 h1) (orS_ok (withinS_ok YtfebdfceidnnmaaGreatDoor.within_walk (by decide) (by decide) (a0 := A0 n0 n1) (i := 0) rfl hn0 h0) (orS_ok (tabS_ok (tab_cons ce189_ok (tab_cons ce190_ok (tab_cons ce191_ok (tab_cons ce196_ok (tab_cons ce201_ok (tab_cons ce206_ok (tab_cons ce207_ok (tab_cons ce208_ok (tab_cons ce209_ok (tab_cons ce210_ok tab_nil))))))))))) S4_ok))) (mergeOf_ok _) 60
  exact walk_run hc run_7_3 (xs := [.int .i64 n0, .int .i64 n1]) (fun ρ => .cons _ _ _ _ (.sym 0 rfl) (.cons _ _ _ _ (.sym 1 rfl) (.nil)))
noncomputable def tl_7_4 : List CE := [ce189, ce190, ce191, ce196, ce201, ce206, ce211, ce212, ce213, ce214, ce215]
noncomputable def call_7_4 : CallF := fCall E CC mkT (orS (withinS 23 1 5 4) (orS (withinS 23 0 9 7) (orS (tabS tl_7_4) S4))) (mergeOf []) 60
theorem run_7_4 : allT (call_7_4 14 [.sym 0, .sym 1] ⟨T.nil, 0⟩) = true := by kernel_rfl
theorem walk_7_4 {n0 n1 : Int} (hn0 : (Lit.int .i64 n0).wf = true) (hn1 : (Lit.int .i64 n1).wf = true) (h0 : within n0 9 = (7 : Nat)) (h1 : within n1 5 = (4 : Nat)) (w : World) : Calls Tryz.prog 14 #[.int .i64 n0, .int .i64 n1] w fun e w' => e = .returned (.bool true) ∧ Same w w' := by
  have hc : CallOk (A0 n0 n1) Tryz.prog call_7_4 := ready.call (orS_ok (withinS_ok YtfebdfceidnnmaaGreatDoor.within_walk (by decide) (by decide) (a0 := A0 n0 n1) (i := 1) rfl hn1 h1) (orS_ok (withinS_ok YtfebdfceidnnmaaGreatDoor.within_walk (by decide) (by decide) (a0 := A0 n0 n1) (i := 0) rfl hn0 h0) (orS_ok (tabS_ok (tab_cons ce189_ok (tab_cons ce190_ok (tab_cons ce191_ok (tab_cons ce196_ok (tab_cons ce201_ok (tab_cons ce206_ok (tab_cons ce211_ok (tab_cons ce212_ok (tab_cons ce213_ok (tab_cons ce214_ok (tab_cons ce215_ok tab_nil)))))))))))) S4_ok))) (mergeOf_ok _) 60
  exact walk_run hc run_7_4 (xs := [.int .i64 n0, .int .i64 n1]) (fun ρ => .cons _ _ _ _ (.sym 0 rfl) (.cons _ _ _ _ (.sym 1 rfl) (.nil)))
end Go.AX

