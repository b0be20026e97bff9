/- AgentBoxes, runs. -/
import Derived.Test.YtfebdfceidnnmaaGreatDoorBoxesTe0
import Derived.Test.YtfebdfceidnnmaaGreatDoorBoxesTe1
import Derived.Test.YtfebdfceidnnmaaGreatDoorBoxesTe2
import Derived.Test.YtfebdfceidnnmaaGreatDoorBoxesTe3
import Derived.Test.YtfebdfceidnnmaaGreatDoorBoxesTe4
import Derived.Test.YtfebdfceidnnmaaGreatDoorBoxesTe5
import Derived.Test.YtfebdfceidnnmaaGreatDoorBoxesTe6
import Derived.Test.YtfebdfceidnnmaaGreatDoorBoxesTe7
import Derived.Test.YtfebdfceidnnmaaGreatDoorBoxesTe8
import Derived.Test.YtfebdfceidnnmaaGreatDoorBoxesTe9
import Derived.Test.YtfebdfceidnnmaaGreatDoorBoxesTe10
import Derived.Test.YtfebdfceidnnmaaGreatDoorBoxesTe11
import Derived.Test.YtfebdfceidnnmaaGreatDoorBoxesTe12
import Derived.Test.YtfebdfceidnnmaaGreatDoorBoxesTe13
set_option autoImplicit false
set_option linter.unusedVariables false
set_option maxRecDepth 1000000
namespace Go.AX
open Go.Proofs
noncomputable def tl_4_0 : List CE := [ce108, ce109, ce110, ce111, ce112, ce113, ce114]
noncomputable def call_4_0 : CallF := fCall E CC mkT (orS (withinS 23 1 5 0) (orS (withinS 23 0 9 4) (orS (tabS tl_4_0) S4))) (mergeOf []) 60
theorem run_4_0 : allT (call_4_0 14 [.sym 0, .sym 1] ⟨T.nil, 0⟩) = true := by kernel_rfl
theorem walk_4_0 {n0 n1 : Int} (hn0 : (Lit.int .i64 n0).wf = true) (hn1 : (Lit.int .i64 n1).wf = true) (h0 : within n0 9 = (4 : Nat)) (h1 : within n1 5 = (0 : Nat)) (w : World) : Calls Tryz.prog 14 #[.int .i64 n0, .int .i64 n1] w fun e w' => e = .returned (.bool true) ∧ Same w w' := by
  have hc : CallOk (A0 n0 n1) Tryz.prog call_4_0 := ready.call (orS_ok (withinS_ok YtfebdfceidnnmaaGreatDoor.within_walk (by decide) (by decide) (a0 := A0 n0 n1) (i := 1) rfl hn1 h1) (orS_ok (withinS_ok YtfebdfceidnnmaaGreatDoor.within_walk (by decide) (by decide) (a0 := A0 n0 n1) (i := 0) rfl hn0 h0) (orS_ok (tabS_ok (tab_cons ce108_ok (tab_cons ce109_ok (tab_cons ce110_ok (tab_cons ce111_ok (tab_cons ce112_ok (tab_cons ce113_ok (tab_cons ce114_ok tab_nil)))))))) S4_ok))) (mergeOf_ok _) 60
  exact walk_run hc run_4_0 (xs := [.int .i64 n0, .int .i64 n1]) (fun ρ => .cons _ _ _ _ (.sym 0 rfl) (.cons _ _ _ _ (.sym 1 rfl) (.nil)))
noncomputable def tl_4_1 : List CE := [ce108, ce109, ce110, ce115, ce116, ce117, ce118, ce119]
noncomputable def call_4_1 : CallF := fCall E CC mkT (orS (withinS 23 1 5 1) (orS (withinS 23 0 9 4) (orS (tabS tl_4_1) S4))) (mergeOf []) 60
theorem run_4_1 : allT (call_4_1 14 [.sym 0, .sym 1] ⟨T.nil, 0⟩) = true := by kernel_rfl
theorem walk_4_1 {n0 n1 : Int} (hn0 : (Lit.int .i64 n0).wf = true) (hn1 : (Lit.int .i64 n1).wf = true) (h0 : within n0 9 = (4 : Nat)) (h1 : within n1 5 = (1 : Nat)) (w : World) : Calls Tryz.prog 14 #[.int .i64 n0, .int .i64 n1] w fun e w' => e = .returned (.bool true) ∧ Same w w' := by
  have hc : CallOk (A0 n0 n1) Tryz.prog call_4_1 := ready.call (orS_ok (withinS_ok YtfebdfceidnnmaaGreatDoor.within_walk (by decide) (by decide) (a0 := A0 n0 n1) (i := 1) rfl hn1 h1) (orS_ok (withinS_ok YtfebdfceidnnmaaGreatDoor.within_walk (by decide) (by decide) (a0 := A0 n0 n1) (i := 0) rfl hn0 h0) (orS_ok (tabS_ok (tab_cons ce108_ok (tab_cons ce109_ok (tab_cons ce110_ok (tab_cons ce115_ok (tab_cons ce116_ok (tab_cons ce117_ok (tab_cons ce118_ok (tab_cons ce119_ok tab_nil))))))))) S4_ok))) (mergeOf_ok _) 60
  exact walk_run hc run_4_1 (xs := [.int .i64 n0, .int .i64 n1]) (fun ρ => .cons _ _ _ _ (.sym 0 rfl) (.cons _ _ _ _ (.sym 1 rfl) (.nil)))
noncomputable def tl_4_2 : List CE := [ce108, ce109, ce110, ce115, ce120, ce121, ce122, ce123, ce124]
noncomputable def call_4_2 : CallF := fCall E CC mkT (orS (withinS 23 1 5 2) (orS (withinS 23 0 9 4) (orS (tabS tl_4_2) S4))) (mergeOf []) 60
theorem run_4_2 : allT (call_4_2 14 [.sym 0, .sym 1] ⟨T.nil, 0⟩) = true := by kernel_rfl
theorem walk_4_2 {n0 n1 : Int} (hn0 : (Lit.int .i64 n0).wf = true) (hn1 : (Lit.int .i64 n1).wf = true) (h0 : within n0 9 = (4 : Nat)) (h1 : within n1 5 = (2 : Nat)) (w : World) : Calls Tryz.prog 14 #[.int .i64 n0, .int .i64 n1] w fun e w' => e = .returned (.bool true) ∧ Same w w' := by
  have hc : CallOk (A0 n0 n1) Tryz.prog call_4_2 := ready.call (orS_ok (withinS_ok YtfebdfceidnnmaaGreatDoor.within_walk (by decide) (by decide) (a0 := A0 n0 n1) (i := 1) rfl hn1 h1) (orS_ok (withinS_ok YtfebdfceidnnmaaGreatDoor.within_walk (by decide) (by decide) (a0 := A0 n0 n1) (i := 0) rfl hn0 h0) (orS_ok (tabS_ok (tab_cons ce108_ok (tab_cons ce109_ok (tab_cons ce110_ok (tab_cons ce115_ok (tab_cons ce120_ok (tab_cons ce121_ok (tab_cons ce122_ok (tab_cons ce123_ok (tab_cons ce124_ok tab_nil)))))))))) S4_ok))) (mergeOf_ok _) 60
  exact walk_run hc run_4_2 (xs := [.int .i64 n0, .int .i64 n1]) (fun ρ => .cons _ _ _ _ (.sym 0 rfl) (.cons _ _ _ _ (.sym 1 rfl) (.nil)))
noncomputable def tl_4_3 : List CE := [ce108, ce109, ce110, ce115, ce120, ce125, ce126, ce127, ce128, ce129]
noncomputable def call_4_3 : CallF := fCall E CC mkT (orS (withinS 23 1 5 3) (orS (withinS 23 0 9 4) (orS (tabS tl_4_3) S4))) (mergeOf []) 60
theorem run_4_3 : allT (call_4_3 14 [.sym 0, .sym 1] ⟨T.nil, 0⟩) = true := by kernel_rfl
theorem walk_4_3 {n0 n1 : Int} (hn0 : (Lit.int .i64 n0).wf = true) (hn1 : (Lit.int .i64 n1).wf = true) (h0 : within n0 9 = (4 : Nat)) (h1 : within n1 5 = (3 : Nat)) (w : World) : Calls Tryz.prog 14 #[.int .i64 n0, .int .i64 n1] w fun e w' => e = .returned (.bool true) ∧ Same w w' := by
  have hc : CallOk (A0 n0 n1) Tryz.prog call_4_3 := ready.call (orS_ok (withinS_ok YtfebdfceidnnmaaGreatDoor.within_walk (by decide) (by decide) (a0 := A0 n0 n1) (i := 1) rfl hn1 h1) (orS_ok (withinS_ok YtfebdfceidnnmaaGreatDoor.within_walk (by decide) (by decide) (a0 := A0 n0 n1) (i := 0) rfl hn0 h0) (orS_ok (tabS_ok (tab_cons ce108_ok (tab_cons ce109_ok (tab_cons ce110_ok (tab_cons ce115_ok (tab_cons ce120_ok (tab_cons ce125_ok (tab_cons ce126_ok (tab_cons ce127_ok (tab_cons ce128_ok (tab_cons ce129_ok tab_nil))))))))))) S4_ok))) (mergeOf_ok _) 60
  exact walk_run hc run_4_3 (xs := [.int .i64 n0, .int .i64 n1]) (fun ρ => .cons _ _ _ _ (.sym 0 rfl) (.cons _ _ _ _ (.sym 1 rfl) (.nil)))
noncomputable def tl_4_4 : List CE := [ce108, ce109, ce110, ce115, ce120, ce125, ce130, ce131, ce132, ce133, ce134]
noncomputable def call_4_4 : CallF := fCall E CC mkT (orS (withinS 23 1 5 4) (orS (withinS 23 0 9 4) (orS (tabS tl_4_4) S4))) (mergeOf []) 60
theorem run_4_4 : allT (call_4_4 14 [.sym 0, .sym 1] ⟨T.nil, 0⟩) = true := by kernel_rfl
theorem walk_4_4 {n0 n1 : Int} (hn0 : (Lit.int .i64 n0).wf = true) (hn1 : (Lit.int .i64 n1).wf = true) (h0 : within n0 9 = (4 : Nat)) (h1 : within n1 5 = (4 : Nat)) (w : World) : Calls Tryz.prog 14 #[.int .i64 n0, .int .i64 n1] w fun e w' => e = .returned (.bool true) ∧ Same w w' := by
  have hc : CallOk (A0 n0 n1) Tryz.prog call_4_4 := ready.call (orS_ok (withinS_ok YtfebdfceidnnmaaGreatDoor.within_walk (by decide) (by decide) (a0 := A0 n0 n1) (i := 1) rfl hn1 h1) (orS_ok (withinS_ok YtfebdfceidnnmaaGreatDoor.within_walk (by decide) (by decide) (a0 := A0 n0 n1) (i := 0) rfl hn0 h0) (orS_ok (tabS_ok (tab_cons ce108_ok (tab_cons ce109_ok (tab_cons ce110_ok (tab_cons ce115_ok (tab_cons ce120_ok (tab_cons ce125_ok (tab_cons ce130_ok (tab_cons ce131_ok (tab_cons ce132_ok (tab_cons ce133_ok (tab_cons ce134_ok tab_nil)))))))))))) S4_ok))) (mergeOf_ok _) 60
  exact walk_run hc run_4_4 (xs := [.int .i64 n0, .int .i64 n1]) (fun ρ => .cons _ _ _ _ (.sym 0 rfl) (.cons _ _ _ _ (.sym 1 rfl) (.nil)))
end Go.AX

