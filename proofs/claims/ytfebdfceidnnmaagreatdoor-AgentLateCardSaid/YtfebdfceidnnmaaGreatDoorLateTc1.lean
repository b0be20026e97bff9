/- AgentLate, runs. -/
import Derived.Test.YtfebdfceidnnmaaGreatDoorLateTe0
import Derived.Test.YtfebdfceidnnmaaGreatDoorLateTe1
import Derived.Test.YtfebdfceidnnmaaGreatDoorLateTe2
import Derived.Test.YtfebdfceidnnmaaGreatDoorLateTe3
import Derived.Test.YtfebdfceidnnmaaGreatDoorLateTe4
import Derived.Test.YtfebdfceidnnmaaGreatDoorLateTe5
import Derived.Test.YtfebdfceidnnmaaGreatDoorLateTe6
import Derived.Test.YtfebdfceidnnmaaGreatDoorLateTe7
import Derived.Test.YtfebdfceidnnmaaGreatDoorLateTe8
import Derived.Test.YtfebdfceidnnmaaGreatDoorLateTe9
import Derived.Test.YtfebdfceidnnmaaGreatDoorLateTe10
import Derived.Test.YtfebdfceidnnmaaGreatDoorLateTe11
set_option autoImplicit false
set_option linter.unusedVariables false
set_option maxRecDepth 1000000
namespace Go.AX
open Go.Proofs
noncomputable def tl_4 : List CE := [ce38, ce39, ce40, ce41, ce42, ce43, ce44, ce45, ce46, ce47, ce48, ce49]
noncomputable def call_4 : CallF := fCall E CC mkT (orS (withinS 23 0 8 4) (orS (tabS tl_4) S4)) (mergeOf []) 60
theorem run_4 : allT (call_4 11 [.sym 0] ⟨T.nil, 0⟩) = true := by kernel_rfl
theorem walk_4 {n0 : Int} (hn0 : (Lit.int .i64 n0).wf = true) (h0 : within n0 8 = (4 : Nat)) (w : World) : Calls Tryz.prog 11 #[.int .i64 n0] w fun e w' => e = .returned (.bool true) ∧ Same w w' := by
  have hx : ∀ i, ∃ n, A0 n0 i = .int .i64 n ∧ (Lit.int .i64 n).wf = true := fun i => match i with | _ => ⟨n0, rfl, hn0⟩
  have hc : CallOk (A0 n0) Tryz.prog call_4 := ready.call (orS_ok (withinS_ok YtfebdfceidnnmaaGreatDoor.within_walk (by decide) (by decide) (a0 := A0 n0) (i := 0) rfl hn0 h0) (orS_ok (tabS_ok (tab_cons ce38_ok (tab_cons ce39_ok (tab_cons ce40_ok (tab_cons ce41_ok (tab_cons ce42_ok (tab_cons ce43_ok (tab_cons ce44_ok (tab_cons ce45_ok (tab_cons ce46_ok (tab_cons ce47_ok (tab_cons ce48_ok (tab_cons ce49_ok tab_nil))))))))))))) S4_ok)) (mergeOf_ok _) 60
  exact walk_run hc run_4 (xs := [.int .i64 n0]) (fun ρ => .cons _ _ _ _ (.sym 0 rfl) (.nil))
noncomputable def tl_5 : List CE := [ce50, ce51, ce52, ce53, ce54, ce55, ce56, ce57, ce58, ce59, ce60, ce61, ce62]
noncomputable def call_5 : CallF := fCall E CC mkT (orS (withinS 23 0 8 5) (orS (tabS tl_5) S4)) (mergeOf []) 60
theorem run_5 : allT (call_5 11 [.sym 0] ⟨T.nil, 0⟩) = true := by kernel_rfl
theorem walk_5 {n0 : Int} (hn0 : (Lit.int .i64 n0).wf = true) (h0 : within n0 8 = (5 : Nat)) (w : World) : Calls Tryz.prog 11 #[.int .i64 n0] w fun e w' => e = .returned (.bool true) ∧ Same w w' := by
  have hx : ∀ i, ∃ n, A0 n0 i = .int .i64 n ∧ (Lit.int .i64 n).wf = true := fun i => match i with | _ => ⟨n0, rfl, hn0⟩
  have hc : CallOk (A0 n0) Tryz.prog call_5 := ready.call (orS_ok (withinS_ok YtfebdfceidnnmaaGreatDoor.within_walk (by decide) (by decide) (a0 := A0 n0) (i := 0) rfl hn0 h0) (orS_ok (tabS_ok (tab_cons ce50_ok (tab_cons ce51_ok (tab_cons ce52_ok (tab_cons ce53_ok (tab_cons ce54_ok (tab_cons ce55_ok (tab_cons ce56_ok (tab_cons ce57_ok (tab_cons ce58_ok (tab_cons ce59_ok (tab_cons ce60_ok (tab_cons ce61_ok (tab_cons ce62_ok tab_nil)))))))))))))) S4_ok)) (mergeOf_ok _) 60
  exact walk_run hc run_5 (xs := [.int .i64 n0]) (fun ρ => .cons _ _ _ _ (.sym 0 rfl) (.nil))
noncomputable def tl_6 : List CE := [ce63, ce64, ce65, ce66, ce67, ce68, ce69, ce70, ce71, ce72, ce73, ce74, ce75, ce76]
noncomputable def call_6 : CallF := fCall E CC mkT (orS (withinS 23 0 8 6) (orS (tabS tl_6) S4)) (mergeOf []) 60
theorem run_6 : allT (call_6 11 [.sym 0] ⟨T.nil, 0⟩) = true := by kernel_rfl
theorem walk_6 {n0 : Int} (hn0 : (Lit.int .i64 n0).wf = true) (h0 : within n0 8 = (6 : Nat)) (w : World) : Calls Tryz.prog 11 #[.int .i64 n0] w fun e w' => e = .returned (.bool true) ∧ Same w w' := by
  have hx : ∀ i, ∃ n, A0 n0 i = .int .i64 n ∧ (Lit.int .i64 n).wf = true := fun i => match i with | _ => ⟨n0, rfl, hn0⟩
  have hc : CallOk (A0 n0) Tryz.prog call_6 := ready.call (orS_ok (withinS_ok YtfebdfceidnnmaaGreatDoor.within_walk (by decide) (by decide) (a0 := A0 n0) (i := 0) rfl hn0 h0) (orS_ok (tabS_ok (tab_cons ce63_ok (tab_cons ce64_ok (tab_cons ce65_ok (tab_cons ce66_ok (tab_cons ce67_ok (tab_cons ce68_ok (tab_cons ce69_ok (tab_cons ce70_ok (tab_cons ce71_ok (tab_cons ce72_ok (tab_cons ce73_ok (tab_cons ce74_ok (tab_cons ce75_ok (tab_cons ce76_ok tab_nil))))))))))))))) S4_ok)) (mergeOf_ok _) 60
  exact walk_run hc run_6 (xs := [.int .i64 n0]) (fun ρ => .cons _ _ _ _ (.sym 0 rfl) (.nil))
noncomputable def tl_7 : List CE := [ce77, ce78, ce79, ce80, ce81, ce82, ce83, ce84, ce85, ce86, ce87, ce88, ce89, ce90, ce91]
noncomputable def call_7 : CallF := fCall E CC mkT (orS (withinS 23 0 8 7) (orS (tabS tl_7) S4)) (mergeOf []) 60
theorem run_7 : allT (call_7 11 [.sym 0] ⟨T.nil, 0⟩) = true := by kernel_rfl
theorem walk_7 {n0 : Int} (hn0 : (Lit.int .i64 n0).wf = true) (h0 : within n0 8 = (7 : Nat)) (w : World) : Calls Tryz.prog 11 #[.int .i64 n0] w fun e w' => e = .returned (.bool true) ∧ Same w w' := by
  have hx : ∀ i, ∃ n, A0 n0 i = .int .i64 n ∧ (Lit.int .i64 n).wf = true := fun i => match i with | _ => ⟨n0, rfl, hn0⟩
  have hc : CallOk (A0 n0) Tryz.prog call_7 := ready.call (orS_ok (withinS_ok YtfebdfceidnnmaaGreatDoor.within_walk (by decide) (by decide) (a0 := A0 n0) (i := 0) rfl hn0 h0) (orS_ok (tabS_ok (tab_cons ce77_ok (tab_cons ce78_ok (tab_cons ce79_ok (tab_cons ce80_ok (tab_cons ce81_ok (tab_cons ce82_ok (tab_cons ce83_ok (tab_cons ce84_ok (tab_cons ce85_ok (tab_cons ce86_ok (tab_cons ce87_ok (tab_cons ce88_ok (tab_cons ce89_ok (tab_cons ce90_ok (tab_cons ce91_ok tab_nil)))))))))))))))) S4_ok)) (mergeOf_ok _) 60
  exact walk_run hc run_7 (xs := [.int .i64 n0]) (fun ρ => .cons _ _ _ _ (.sym 0 rfl) (.nil))
end Go.AX

