/- (*Disk).Used: the sum of the files' lengths, in whatever order. -/
import Derived.Test.YtfebdfceidnnmaaGreatDoorG6
import Derived.Test.YtfebdfceidnnmaaGreatDoorProg
import Derived.WalkKit
namespace Go.Proofs.YtfebdfceidnnmaaGreatDoor
open Go.RowKit Go.WideElems Go.WideShapes Go.Maps Go.AX
set_option linter.unusedVariables false

theorem keyed9 : Keyed Tryz.prog 9 := string_keyed Tryz.underlying9

set_option maxRecDepth 100000 in
set_option maxHeartbeats 1000000 in
theorem used_walk : UsedAt Tryz.prog 67 9 := by
  intro bd bm nn es0 w hcell hown hap hkeys
  go_enter Tryz.func67, Tryz.ntmps67
  go_wp2_with (first
    | (at_range; refine wpList_range_own _ rfl _ 111 rfl 9 115 keyed9 Tryz.underlying111 _ bm nn _ rfl hown ?_; intro w0 hrg0 hg0 hs0)
    | go_in)
  go_frame
  go_loopw [3] (fun v wr => ∃ (left : Lit → Bool) (cnt : Nat), wr.ranges Tryz.prog 9 lenR bm w.heap.size nn (.map es0) left cnt ∧ w.grownBy wr none ∧ v = .int .i64 (wrap64 (seenS left es0)))
    (fun _ wr => wr.rangeLeft bm w.heap.size)
  case atStart => exact ⟨_, _, hrg0, hg0, by rw [start_zero hkeys, wrap_zero]⟩
  case round =>
    obtain ⟨left, cnt, hrg, hgw, rfl⟩ := hrel
    go_wp2_with (first
      | (at_next; refine wpList_next_ranges (α := Value) _ rfl _ rfl 9 keyed9 lenR id mkF (fun k _ _ => ⟨k, rfl⟩) lenR_inv bm w.heap.size nn _ _ _ rfl hrg ?_ ?_)
      | go_in)
    · intro _ hl0
      go_wp2
      go_ret
      have hl1 : left = fun _ => false := funext hl0
      rw [← hl1]
      exact ⟨rfl, hgw⟩
    · intro x c kl d ps w1 cnt1 hkx hlk hRy hat hrg1 hlt hg1 hs1 hen
      have hgw1 := hgw.andThen hg1 (fun j hj => by cases hj; exact Or.inl (Nat.le_refl _))
      obtain ⟨fp, fn, fc, fx, fy⟩ := c
      simp only [mkF] at *
      have hmem : (kl, d) ∈ es0 := by
        obtain ⟨es, clock, since, seen, c0, _, _, _, hD, _, _, _, _, hl2, _⟩ := hrg
        obtain ⟨e, he, hek⟩ := hl2 kl hlk
        have h1 : rg Tryz.prog 9 lenR e ∈ es0 := by
          have h2 : es0 = (es.toList.map (rg Tryz.prog 9 lenR)).foldr DataW.insert [] := by injection hD
          rw [h2]
          exact mem_sorted.2 (List.mem_map.2 ⟨e, he, rfl⟩)
        have h3 : (kl, (rg Tryz.prog 9 lenR e).2) ∈ es0 := by rw [← hek]; exact h1
        have h4 := (WideAt.atKey_mem .nil (hkeys _ h3) hap h3).symm.trans (hat .nil)
        rw [← h4]
        exact h3
      have hnum : num d = fn := by
        have h5 : d = .lit (.int .i64 fn) := by
          simp only [lenR, Option.some.injEq, Prod.mk.injEq] at hRy
          exact hRy.1.symm
        rw [h5]; rfl
      go_wp2
      refine ⟨⟨_, cnt1, hrg1.alloc _, hgw1.andThen (World.grownBy_alloc w1 _ none) (fun j hj => by cases hj), ?_⟩, ?_⟩
      · rw [seenS_add hap (hkeys _ hmem) hlk hmem, hnum, wrap_add]
      · rw [(hrg1.alloc _).left_eq, hrg.left_eq]
        exact hlt
end Go.Proofs.YtfebdfceidnnmaaGreatDoor

