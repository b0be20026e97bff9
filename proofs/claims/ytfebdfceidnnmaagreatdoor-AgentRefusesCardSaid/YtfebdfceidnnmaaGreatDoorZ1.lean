/- This seat's library contracts, as summaries. -/
import Derived.Test.YtfebdfceidnnmaaGreatDoorZ0
import Derived.Test.YtfebdfceidnnmaaGreatDoorG5
import Derived.Test.YtfebdfceidnnmaaGreatDoorLp
import Derived.Test.YtfebdfceidnnmaaGreatDoorW
import Derived.Test.YtfebdfceidnnmaaGreatDoorUs
set_option autoImplicit false
namespace Go.Proofs
open Go.RowKit Go.Maps Go.Sort Go.Shelf

theorem Tryz.sorts192 (m : Nat) : AnyZ.SortsIn Tryz.prog Tryz.sorted192_ren Fence.wide m :=
  ⟨fun blk off cap ss W hH hblk hsz => callsIn_wide.2 (AnyM.slices_Sort_string Tryz.sort264 blk off cap ss W hH hblk hsz),
   fun p cap W => callsIn_wide.2 (AnyM.slices_Sort_string_none Tryz.sort264 p cap W)⟩

theorem Tryz.sortedAt : Go.AX.SortedAt Tryz.prog 192 265 9 := by
  intro Bm b nn D0 R w h1 h2 h3 h4 h5
  refine (callsIn_wide (n := 6)).1 ?_
  have hseq : SeqGives Fence.wide 3 Tryz.prog 265 #[.pointer (some ⟨Bm, 0, none⟩)] encStr (fun ss => ss.Perm (strKeys D0)) (Maps.size D0) w :=
    AnyZ.keys_gives (ρ := Tryz.keys193_ren) { Tryz.keys193 with } Fence.wide _ trivial rfl (by omega) Bm b nn D0 w h1 h2 h3
  exact AnyZ.sorted_in Tryz.sorted192 Fence.wide 6 trivial trivial trivial trivial rfl (by omega) (Tryz.sorts192 _) Tryz.call264 265 #[.pointer (some ⟨Bm, 0, none⟩)] trivial Tryz.call265 _ _ h4 h5 w hseq
end Go.Proofs
namespace Go.AX
open Go.Proofs
theorem sorted_ok {a0 : Nat → Value} : SumOk a0 Tryz.prog (sortedS 192 265 9) := sortedS_ok Tryz.sortedAt Tryz.underlying9
theorem used_ok {a0 : Nat → Value} : SumOk a0 Tryz.prog (usedS 67) := usedS_ok YtfebdfceidnnmaaGreatDoor.used_walk Tryz.underlying9
end Go.AX

