/- AgentBoxes, runs. -/
import Derived.Test.YtfebdfceidnnmaaGreatDoorBoxesTe0
import Derived.Test.YtfebdfceidnnmaaGreatDoorBoxesTe1
import Derived.Test.YtfebdfceidnnmaaGreatDoorBoxesTe2
import Derived.Test.YtfebdfceidnnmaaGreatDoorBoxesTe3
import Derived.Test.YtfebdfceidnnmaaGreatDoorBoxesTe4
import Derived.Test.YtfebdfceidnnmaaGreatDoorBoxesTe5
import Derived.Test.YtfebdfceidnnmaaGreatDoorBoxesTe6
import Derived.Test.YtfebdfceidnnmaaGreatDoorBoxesTe7
import Derived.Test.YtfebdfceidnnmaaGreatDoorBoxesTe8
import Derived.Test.YtfebdfceidnnmaaGreatDoorBoxesTe9
import Derived.Test.YtfebdfceidnnmaaGreatDoorBoxesTe10
import Derived.Test.YtfebdfceidnnmaaGreatDoorBoxesTe11
import Derived.Test.YtfebdfceidnnmaaGreatDoorBoxesTe12
import Derived.Test.YtfebdfceidnnmaaGreatDoorBoxesTe13
set_option autoImplicit false
set_option linter.unusedVariables false
set_option maxRecDepth 1000000
namespace Go.AX
open Go.Proofs
noncomputable def tl_6_0 : List CE := [ce162, ce163, ce164, ce165, ce166, ce167, ce168]
noncomputable def call_6_0 : CallF := fCall E CC mkT (orS (withinS 23 1 5 0) (orS (withinS 23 0 9 6) (orS (tabS tl_6_0) S4))) (mergeOf []) 60
theorem run_6_0 : allT (call_6_0 14 [.sym 0, .sym 1] ⟨T.nil, 0⟩) = true := by kernel_rfl
theorem walk_6_0 {n0 n1 : Int} (hn0 : (Lit.int .i64 n0).wf = true) (hn1 : (Lit.int .i64 n1).wf = true) (h0 : within n0 9 = (6 : Nat)) (h1 : within n1 5 = (0 : Nat)) (w : World) : Calls Tryz.prog 14 #[.int .i64 n0, .int .i64 n1] w fun e w' => e = .returned (.bool true) ∧ Same w w' := by
  have hc : CallOk (A0 n0 n1) Tryz.prog call_6_0 := ready.call (orS_ok (withinS_ok YtfebdfceidnnmaaGreatDoor.within_walk (by decide) (by decide) (a0 := A0 n0 n1) (i := 1) rfl hn1 h1) (orS_ok (withinS_ok YtfebdfceidnnmaaGreatDoor.within_walk (by decide) (by decide) (a0 := A0 n0 n1) (i := 0) rfl hn0 h0) (orS_ok (tabS_ok (tab_cons ce162_ok (tab_cons ce163_ok (tab_cons ce164_ok (tab_cons ce165_ok (tab_cons ce166_ok (tab_cons ce167_ok (tab_cons ce168_ok tab_nil)))))))) S4_ok))) (mergeOf_ok _) 60
  exact walk_run hc run_6_0 (xs := [.int .i64 n0, .int .i64 n1]) (fun ρ => .cons _ _ _ _ (.sym 0 rfl) (.cons _ _ _ _ (.sym 1 rfl) (.nil)))
noncomputable def tl_6_1 : List CE := [ce162, ce163, ce164, ce169, ce170, ce171, ce172, ce173]
noncomputable def call_6_1 : CallF := fCall E CC mkT (orS (withinS 23 1 5 1) (orS (withinS 23 0 9 6) (orS (tabS tl_6_1) S4))) (mergeOf []) 60
theorem run_6_1 : allT (call_6_1 14 [.sym 0, .sym 1] ⟨T.nil, 0⟩) = true := by kernel_rfl
theorem walk_6_1 {n0 n1 : Int} (hn0 : (Lit.int .i64 n0).wf = true) (hn1 : (Lit.int .i64 n1).wf = true) (h0 : within n0 9 = (6 : Nat)) (h1 : within n1 5 = (1 : Nat)) (w : World) : Calls Tryz.prog 14 #[.int .i64 n0, .int .i64 n1] w fun e w' => e = .returned (.bool true) ∧ Same w w' := by
  have hc : CallOk (A0 n0 n1) Tryz.prog call_6_1 := ready.call (orS_ok (withinS_ok YtfebdfceidnnmaaGreatDoor.within_walk (by decide) (by decide) (a0 := A0 n0 n1) (i := 1) rfl hn1 h1) (orS_ok (withinS_ok YtfebdfceidnnmaaGreatDoor.within_walk (by decide) (by decide) (a0 := A0 n0 n1) (i := 0) rfl hn0 h0) (orS_ok (tabS_ok (tab_cons ce162_ok (tab_cons ce163_ok (tab_cons ce164_ok (tab_cons ce169_ok (tab_cons ce170_ok (tab_cons ce171_ok (tab_cons ce172_ok (tab_cons ce173_ok tab_nil))))))))) S4_ok))) (mergeOf_ok _) 60
  exact walk_run hc run_6_1 (xs := [.int .i64 n0, .int .i64 n1]) (fun ρ => .cons _ _ _ _ (.sym 0 rfl) (.cons _ _ _ _ (.sym 1 rfl) (.nil)))
noncomputable def tl_6_2 : List CE := [ce162, ce163, ce164, ce169, ce174, ce175, ce176, ce177, ce178]
noncomputable def call_6_2 : CallF := fCall E CC mkT (orS (withinS 23 1 5 2) (orS (withinS 23 0 9 6) (orS (tabS tl_6_2) S4))) (mergeOf []) 60
theorem run_6_2 : allT (call_6_2 14 [.sym 0, .sym 1] ⟨T.nil, 0⟩) = true := by kernel_rfl
theorem walk_6_2 {n0 n1 : Int} (hn0 : (Lit.int .i64 n0).wf = true) (hn1 : (Lit.int .i64 n1).wf = true) (h0 : within n0 9 = (6 : Nat)) (h1 : within n1 5 = (2 : Nat)) (w : World) : Calls Tryz.prog 14 #[.int .i64 n0, .int .i64 n1] w fun e w' => e = .returned (.bool true) ∧ Same w w' := by
  have hc : CallOk (A0 n0 n1) Tryz.prog call_6_2 := ready.call (orS_ok (withinS_ok YtfebdfceidnnmaaGreatDoor.within_walk (by decide) (by decide) (a0 := A0 n0 n1) (i := 1) rfl hn1 h1) (orS_ok (withinS_ok YtfebdfceidnnmaaGreatDoor.within_walk (by decide) (by decide) (a0 := A0 n0 n1) (i := 0) rfl hn0 h0) (orS_ok (tabS_ok (tab_cons ce162_ok (tab_cons ce163_ok (tab_cons ce164_ok (tab_cons ce169_ok (tab_cons ce174_ok (tab_cons ce175_ok (tab_cons ce176_ok (tab_cons ce177_ok (tab_cons ce178_ok tab_nil)))))))))) S4_ok))) (mergeOf_ok _) 60
  exact walk_run hc run_6_2 (xs := [.int .i64 n0, .int .i64 n1]) (fun ρ => .cons _ _ _ _ (.sym 0 rfl) (.cons _ _ _ _ (.sym 1 rfl) (.nil)))
noncomputable def tl_6_3 : List CE := [ce162, ce163, ce164, ce169, ce174, ce179, ce180, ce181, ce182, ce183]
noncomputable def call_6_3 : CallF := fCall E CC mkT (orS (withinS 23 1 5 3) (orS (withinS 23 0 9 6) (orS (tabS tl_6_3) S4))) (mergeOf []) 60
theorem run_6_3 : allT (call_6_3 14 [.sym 0, .sym 1] ⟨T.nil, 0⟩) = true := by kernel_rfl
theorem walk_6_3 {n0 n1 : Int} (hn0 : (Lit.int .i64 n0).wf = true) (hn1 : (Lit.int .i64 n1).wf = true) (h0 : within n0 9 = (6 : Nat)) (h1 : within n1 5 = (3 : Nat)) (w : World) : Calls Tryz.prog 14 #[.int .i64 n0, .int .i64 n1] w fun e w' => e = .returned (.bool true) ∧ Same w w' := by
  have hc : CallOk (A0 n0 n1) Tryz.prog call_6_3 := ready.call (orS_ok (withinS_ok YtfebdfceidnnmaaGreatDoor.within_walk (by decide) (by decide) (a0 := A0 n0 n1) (i := 1) rfl hn1 h1) (orS_ok (withinS_ok YtfebdfceidnnmaaGreatDoor.within_walk (by decide) (by decide) (a0 := A0 n0 n1) (i := 0) rfl hn0 h0) (orS_ok (tabS_ok (tab_cons ce162_ok (tab_cons ce163_ok (tab_cons ce164_ok (tab_cons ce169_ok (tab_cons ce174_ok (tab_cons ce179_ok (tab_cons ce180_ok (tab_cons ce181_ok (tab_cons ce182_ok (tab_cons ce183_ok tab_nil))))))))))) S4_ok))) (mergeOf_ok _) 60
  exact walk_run hc run_6_3 (xs := [.int .i64 n0, .int .i64 n1]) (fun ρ => .cons _ _ _ _ (.sym 0 rfl) (.cons _ _ _ _ (.sym 1 rfl) (.nil)))
noncomputable def tl_6_4 : List CE := [ce162, ce163, ce164, ce169, ce174, ce179, ce184, ce185, ce186, ce187, ce188]
noncomputable def call_6_4 : CallF := fCall E CC mkT (orS (withinS 23 1 5 4) (orS (withinS 23 0 9 6) (orS (tabS tl_6_4) S4))) (mergeOf []) 60
theorem run_6_4 : allT (call_6_4 14 [.sym 0, .sym 1] ⟨T.nil, 0⟩) = true := by kernel_rfl
theorem walk_6_4 {n0 n1 : Int} (hn0 : (Lit.int .i64 n0).wf = true) (hn1 : (Lit.int .i64 n1).wf = true) (h0 : within n0 9 = (6 : Nat)) (h1 : within n1 5 = (4 : Nat)) (w : World) : Calls Tryz.prog 14 #[.int .i64 n0, .int .i64 n1] w fun e w' => e = .returned (.bool true) ∧ Same w w' := by
  have hc : CallOk (A0 n0 n1) Tryz.prog call_6_4 := ready.call (orS_ok (withinS_ok YtfebdfceidnnmaaGreatDoor.within_walk (by decide) (by decide) (a0 := A0 n0 n1) (i := 1) rfl hn1 h1) (orS_ok (withinS_ok YtfebdfceidnnmaaGreatDoor.within_walk (by decide) (by decide) (a0 := A0 n0 n1) (i := 0) rfl hn0 h0) (orS_ok (tabS_ok (tab_cons ce162_ok (tab_cons ce163_ok (tab_cons ce164_ok (tab_cons ce169_ok (tab_cons ce174_ok (tab_cons ce179_ok (tab_cons ce184_ok (tab_cons ce185_ok (tab_cons ce186_ok (tab_cons ce187_ok (tab_cons ce188_ok tab_nil)))))))))))) S4_ok))) (mergeOf_ok _) 60
  exact walk_run hc run_6_4 (xs := [.int .i64 n0, .int .i64 n1]) (fun ρ => .cons _ _ _ _ (.sym 0 rfl) (.cons _ _ _ _ (.sym 1 rfl) (.nil)))
end Go.AX

