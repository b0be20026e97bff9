/- (*Disk).Used as a summary: the sum of the lengths of a map's values. -/
import Derived.Test.YtfebdfceidnnmaaGreatDoorG5
import Derived.Maps.RangeWalk
import Derived.Maps.Keyed
import Derived.RowKit
set_option autoImplicit false
set_option linter.unusedSimpArgs false
set_option linter.unusedVariables false
namespace Go.AX
noncomputable section
open Go.RowKit Go.WideElems Go.WideShapes Go.Maps

def lenR (v : Value) : Option (DataW Unit × List MemPlace) := match v with
  | .agg cs => match cs.toList with
    | [.slice _ n _, .int .i64 _, .bool _] => some (.lit (.int .i64 n), [])
    | _ => none
  | _ => none

def num : DataW Unit → Int
  | .lit (.int _ n) => n
  | _ => 0

/-- what has been counted -/
def seenS (left : Lit → Bool) : List (Lit × DataW Unit) → Int
  | [] => 0
  | p :: l => (if left p.1 then 0 else num p.2) + seenS left l

structure File where
  p : Option Addr
  n : Nat
  c : Nat
  x : Int
  y : Bool
def mkF (f : File) : Value := .agg #[.slice f.p f.n f.c, .int .i64 f.x, .bool f.y]

theorem lenR_inv (v : Value) (y : DataW Unit × List MemPlace) (h : lenR v = some y) : ∃ c, v = mkF c := by
  unfold lenR at h
  split at h
  · next cs =>
    split at h
    · next p n c x y hcs =>
      refine ⟨⟨p, n, c, x, y⟩, ?_⟩
      unfold mkF
      congr 1
      apply Array.ext'
      exact hcs
    · cases h
  · cases h

theorem wrap_add (a b : Int) : wrap64 (wrap64 a + b) = wrap64 (a + b) := by unfold wrap64; omega

theorem seenS_off {left : Lit → Bool} {kl : Lit} : ∀ {l : List (Lit × DataW Unit)}, (∀ p ∈ l, p.1 ≠ kl) → seenS (fun z => left z && !z.sameKey kl) l = seenS left l
  | [], _ => rfl
  | p :: l, h => by
    have hp : p.1.sameKey kl = false := by
      cases hs : p.1.sameKey kl with
      | false => rfl
      | true => exact absurd (WideAt.sameKey_eq hs) (h p (List.mem_cons_self ..))
    simp only [seenS, hp, Bool.not_false, Bool.and_true, seenS_off (fun q hq => h q (List.mem_cons_of_mem _ hq))]

theorem seenS_add {left : Lit → Bool} {kl : Lit} {d : DataW Unit} : ∀ {l : List (Lit × DataW Unit)}, l.Pairwise (fun p q => p.1 ≠ q.1) → WideAt.IsKeyLit kl → left kl = true → (kl, d) ∈ l →
    seenS (fun z => left z && !z.sameKey kl) l = seenS left l + num d
  | [], _, _, _, h => by simp at h
  | p :: l, hap, hk, hl, h => by
    obtain ⟨h1, h2⟩ := List.pairwise_cons.1 hap
    rcases List.mem_cons.1 h with h | h
    · subst h
      have := seenS_off (left := left) (kl := kl) (l := l) (fun q hq e => h1 q hq e.symm)
      simp only [seenS, hl, WideAt.sameKey_self hk, Bool.not_true, Bool.and_false, this]
      simp
      omega
    · have hne : p.1 ≠ kl := h1 _ h
      have hp : p.1.sameKey kl = false := by
        cases hs : p.1.sameKey kl with
        | false => rfl
        | true => exact absurd (WideAt.sameKey_eq hs) hne
      simp only [seenS, hp, Bool.not_false, Bool.and_true, seenS_add h2 hk hl h]
      omega

theorem wrap_zero : wrap64 0 = 0 := by unfold wrap64; omega

theorem start_zero {es0 : List (Lit × DataW Unit)} (hkeys : ∀ p ∈ es0, WideAt.IsKeyLit p.1) : seenS (Maps.has (.map es0)) es0 = 0 := by
  have h : ∀ l : List (Lit × DataW Unit), (∀ p ∈ l, Maps.has (.map es0) p.1 = true) → seenS (Maps.has (.map es0)) l = 0 := by
    intro l
    induction l with
    | nil => intro _; rfl
    | cons p l ih =>
      intro h
      simp only [seenS, h p (List.mem_cons_self ..), if_true, ih (fun q hq => h q (List.mem_cons_of_mem _ hq))]
      rfl
  exact h es0 (fun p hp => List.any_eq_true.2 ⟨p, hp, WideAt.sameKey_self (hkeys p hp)⟩)

theorem seenS_perm {l l' : List (Lit × DataW Unit)} (h : l.Perm l') : seenS (fun _ => false) l = seenS (fun _ => false) l' := by
  induction h with
  | nil => rfl
  | cons x _ ih => simp only [seenS, ih]
  | swap x y l => simp only [seenS]; omega
  | trans _ _ h1 h2 => exact h1.trans h2

/-- what is proved of the function that sums up -/
def UsedAt (P : Program) (id kt : Nat) : Prop := ∀ (bd bm nn : Nat) (es0 : List (Lit × DataW Unit)) (w : World), w.cell? ⟨bd, 0, none⟩ = some (.map (some bm)) →
    w.ownsMap P kt lenR bm nn (.map es0) → es0.Pairwise (fun p q => p.1 ≠ q.1) → (∀ p ∈ es0, WideAt.IsKeyLit p.1) →
    Calls P id #[.pointer (some ⟨bd, 0, none⟩)] w fun e w' => e = .returned (.int .i64 (wrap64 (seenS (fun _ => false) es0))) ∧ w.grownBy w' none

def len1 : AV → Option Nat
  | .slc _ _ n _ _ => some n
  | .nils => some 0
  | .slz => some 0
  | _ => none

def lens : List (AV × AV) → Option Nat
  | [] => some 0
  | (_, .agg [a, .int .i64 _, .bool _]) :: l => match len1 a, lens l with
    | some n, some m => some (Nat.add n m)
    | _, _ => none
  | _ => none

def usedS (id : Nat) : Sum := fun f args h =>
  Bool.rec (motive := fun _ => Option (R (List (AV × H)))) none
    (match args with
    | [.ptr b 0] => match h.hp.get b with
        | some (.cells (.map m :: _) _ _ _) => match h.hp.get m with
          | some (.map es _ _) => match strsOf es, lens es with
            | some ks, some n => bif Nat.ble ks.length 1000 && ks.all (fun k => Nat.ble k.length 1000) && incP (srt ks) && Nat.ble n 1000000 then some (.ok [(.int .i64 (.ofNat n), h)]) else none
            | _, _ => none
          | _ => none
        | _ => none
    | _ => none) (Nat.beq f id)

theorem len1_ok {a0 : Nat → Value} {ρ : Ren a0} {a : AV} {v : Value} {n : Nat} (h : len1 a = some n) (hv : VR ρ a v) : ∃ p c, v = .slice p n c := by
  cases a <;> simp only [len1] at h <;> first | (cases h; done) | skip
  · cases h; cases hv; exact ⟨_, _, rfl⟩
  · cases h; cases hv; exact ⟨_, _, rfl⟩
  · cases h; cases hv; exact ⟨_, _, rfl⟩

/-- the sum over a map's entries -/
def valS : List MapEntry → Int
  | [] => 0
  | e :: l => (match lenR e.val with | some y => num y.1 | none => 0) + valS l

theorem lens_ok {a0 : Nat → Value} {ρ : Ren a0} : ∀ {es : List (AV × AV)} {ms : List MapEntry} {n : Nat}, lens es = some n → VRs ρ (es.map (·.2)) (ms.map (·.val)) → (∀ e ∈ ms, ∃ y, lenR e.val = some y) ∧ valS ms = n
  | [], ms, n, h, hv => by
    cases ms with
    | nil => cases h; exact ⟨by simp, rfl⟩
    | cons m ms => cases hv
  | (k, v) :: es, ms, n, h, hv => by
    cases ms with
    | nil => cases hv
    | cons m ms =>
    obtain ⟨mk, mv, mb⟩ := m
    cases hv with | cons _ _ _ _ h1 h2 =>
    simp only at h1
    unfold lens at h
    split at h
    · next heq => cases heq
    · next a i b l heq =>
      cases heq
      split at h
      · next x y hx hy =>
        cases h
        obtain ⟨g1, g2⟩ := lens_ok hy h2
        generalize hq : AV.agg [a, .int .i64 i, .bool b] = q at h1
        cases h1 <;> cases hq
        next vs hvs =>
        cases hvs with | cons _ va _ vs q1 q2 =>
        cases q2 with | cons _ vi _ vs q3 q4 =>
        cases q4 with | cons _ vb _ vs q5 q6 =>
        cases q6; cases q3; cases q5
        obtain ⟨p, c, rfl⟩ := len1_ok hx q1
        refine ⟨fun e' he => ?_, ?_⟩
        · rcases List.mem_cons.1 he with rfl | he
          · exact ⟨(.lit (.int .i64 x), []), rfl⟩
          · exact g1 e' he
        · simp only [valS, g2]
          show (x : Int) + (y : Int) = ((x + y : Nat) : Int)
          omega
      · cases h
    · cases h

theorem owns_lens {P : Program} {kt : Nat} (hk : P.underlying kt = some .string) {w : World} {x : Nat} {ms : Array MapEntry} {ck : Nat} (hb : w.heap[x]? = some (.map ms ck))
    {us : List (List UInt8)} (hkeys : (ms.toList.map (·.key)).Perm (us.map encS)) (hnd : us.Nodup) (hlen : ∀ u ∈ us, u.length ≤ maxLen) (hsz : us.length ≤ maxLen)
    (hborn : (ms.toList.map (·.born)).Nodup) (hlt : ∀ e ∈ ms.toList, e.born < ck) (hval : ∀ e ∈ ms.toList, ∃ y, lenR e.val = some y) :
    ∃ es0 : List (Lit × DataW Unit), w.ownsMap P kt lenR x ms.size (.map es0) ∧ es0.Pairwise (fun p q => p.1 ≠ q.1) ∧ (∀ p ∈ es0, WideAt.IsKeyLit p.1) ∧ seenS (fun _ => false) es0 = valS ms.toList := by
  obtain ⟨D0, ⟨es, clock, hb2, F, hs, _⟩, _, _⟩ := owns_of hk hb hkeys hnd hlen hsz hborn hlt
  have hee : es = ms ∧ clock = ck := by rw [hb] at hb2; cases hb2; exact ⟨rfl, rfl⟩
  obtain ⟨rfl, rfl⟩ := hee
  have F' : Fit P kt lenR es clock := ⟨F.size, F.stamped, fun e he => by
    obtain ⟨y, hy⟩ := F.reads e he
    obtain ⟨z, hz⟩ := hval e he
    exact ⟨(y.1, z.1), by simp [rd, rd_key hy, hz]⟩⟩
  have hown : w.ownsMap P kt lenR x es.size (.map ((es.toList.map (rg P kt lenR)).foldr DataW.insert [])) := ⟨es, clock, hb, F', Nat.le_refl _, rfl⟩
  obtain ⟨es1, e1, e2, e3⟩ := hown.entries (string_keyed hk)
  have e4 : es1 = (es.toList.map (rg P kt lenR)).foldr DataW.insert [] := by injection e1 with e; exact e.symm
  subst e4
  refine ⟨_, hown, e2, e3, ?_⟩
  rw [seenS_perm (sorted_perm _)]
  have : ∀ l : List MapEntry, (∀ e ∈ l, e ∈ es.toList) → seenS (fun _ => false) (l.map (rg P kt lenR)) = valS l := by
    intro l
    induction l with
    | nil => intro _; rfl
    | cons e l ih =>
      intro h
      obtain ⟨y, hy⟩ := F'.reads e (h e (List.mem_cons_self ..))
      obtain ⟨z, hz⟩ := hval e (h e (List.mem_cons_self ..))
      have hy2 : (rg P kt lenR e).2 = z.1 := by
        have hk2 := rd_key hy
        have hy0 := hy
        simp only [rd, hk2, hz, Option.bind_some, Option.map_some, Option.some.injEq] at hy
        rw [rg_of hy0, ← hy]
      simp only [List.map_cons, seenS, valS, hz, hy2, ih (fun q hq => h q (List.mem_cons_of_mem _ hq))]
      rfl
  exact this _ (fun _ h => h)

theorem valS_perm {l l' : List MapEntry} (h : l.Perm l') : valS l = valS l' := by
  induction h with
  | nil => rfl
  | cons x _ ih => simp only [valS, ih]
  | swap x y l => simp only [valS]; omega
  | trans _ _ h1 h2 => exact h1.trans h2

theorem wrap64_nat {n : Nat} (h : n ≤ 1000000) : wrap64 (n : Int) = n := by unfold wrap64; omega

theorem lless_irrefl : ∀ l : List Nat, lless l l = false
  | [] => rfl
  | a :: l => by
    have hb : Nat.blt a a = false := by
      cases hb : Nat.blt a a with
      | false => rfl
      | true => have := blt_iff.1 hb; omega
    show (Nat.blt a a || (Nat.beq a a && lless l l)) = false
    rw [hb, lless_irrefl l]; simp

theorem nodup_of_inc {ks : List (List Nat)} (h : incP (srt ks) = true) : ks.Nodup := by
  refine (srt_perm ks).nodup_iff.1 ?_
  rw [List.nodup_iff_pairwise_ne]
  refine (incP_ok h).imp (fun {a b} hab e => ?_)
  subst e
  rw [lless_irrefl] at hab; cases hab

theorem usedS_ok {a0 : Nat → Value} {P : Program} {id kt : Nat} (hs : UsedAt P id kt) (hk : P.underlying kt = some .string) : SumOk a0 P (usedS id) := by
  intro f args h outs hx
  unfold usedS at hx
  cases hf : Nat.beq f id with
  | false => rw [hf] at hx; cases hx
  | true =>
  rw [hf] at hx
  simp only at hx
  split at hx
  case h_2 => cases hx
  next b =>
  split at hx
  case h_2 => cases hx
  next m cs mo me mf hcell =>
  split at hx
  case h_2 => cases hx
  next es ck vr hmap =>
  split at hx
  case h_2 => cases hx
  next ks n hks hn =>
  cases hchk : (Nat.ble ks.length 1000 && ks.all (fun k => Nat.ble k.length 1000) && incP (srt ks) && Nat.ble n 1000000) with
  | false => rw [hchk] at hx; cases hx
  | true =>
  rw [hchk] at hx
  simp only [cond_true] at hx
  cases hx
  simp only [Bool.and_eq_true, List.all_eq_true] at hchk
  obtain ⟨⟨⟨c1, c2⟩, c3⟩, c4⟩ := hchk
  have hkl := Nat.le_of_ble_eq_true c1
  have hnl := Nat.le_of_ble_eq_true c4
  rw [Nat.eq_of_beq_eq_true hf]
  intro hi hbd ρ w xs hwr hfree hxs
  refine ⟨by simp, ?_⟩
  cases hxs with | cons _ xv _ _ hv1 hv2 =>
  cases hv2
  cases hv1 with | ptr _ _ xb hxb =>
  obtain ⟨xb', ob1, q1, q2, q3, _⟩ := hwr.obj b _ hcell
  rw [hxb] at q1; cases q1
  obtain ⟨xm, ob2, r1, r2, r3, _⟩ := hwr.obj m _ hmap
  cases q3 with | cells _ _ _ _ vs rest z hvs hrest hfrz =>
  cases hvs with | cons _ mv _ vs' hm1 hm2 =>
  cases hm1 with | map _ xm' hxm =>
  rw [r1] at hxm; cases hxm
  cases r3 with | map _ _ _ ms ms' p1 p2 p3 p4 p5 =>
  rw [strsOf_ok hks] at p2
  obtain ⟨us, u1, u2⟩ := vrs_strs p2
  have hnd : us.Nodup := by
    have h2 := nodup_of_inc c3
    rw [← u1] at h2
    rw [List.nodup_iff_pairwise_ne] at h2 ⊢
    exact (List.pairwise_map.1 h2).imp (fun hne e => hne (by rw [e]))
  have hul : us.length = ks.length := by rw [← u1]; simp
  have hbig : 1000 ≤ maxLen := by decide
  obtain ⟨l1, l2⟩ := lens_ok hn p3
  obtain ⟨es0, o1, o2, o3, o4⟩ := owns_lens hk r2 (us := us) ((p1.map _).trans (by rw [u2])) hnd
    (fun u hu => by
      have : u.map UInt8.toNat ∈ ks := by rw [← u1]; exact List.mem_map.2 ⟨u, hu, rfl⟩
      have := Nat.le_of_ble_eq_true (c2 _ this)
      simp only [List.length_map] at this
      omega) (by omega) ((p1.map _).nodup_iff.2 p4) (fun e he => p5 e (p1.mem_iff.1 he)) (fun e he => l1 e (p1.mem_iff.1 he))
  have hcell2 : w.cell? ⟨xb, 0, none⟩ = some (.map (some xm)) := by
    simp [World.cell?, q2]
  refine (hs xb xm _ es0 w hcell2 o1 o2 o3).mono ?_
  rintro e w' ⟨rfl, hg⟩
  have hsum : seenS (fun _ => false) es0 = n := by rw [o4, valS_perm p1, l2]
  rw [hsum, wrap64_nat hnl]
  have hb : Below w.heap.size w w' := ⟨hg.os, hg.tape, hg.output, hg.size, fun k hk => hg.block k hk (by simp)⟩
  exact ⟨_, h, List.mem_singleton.2 rfl, _, ρ, rfl, .int _ _, ⟨hwr.below hb, ⟨.refl _, hb.size, fun x hx _ => hb.block x hx, fun b x hb _ => ⟨b, hb⟩, hb.os, hb.output, hb.tape⟩, Nat.le_refl _, fun _ _ => rfl⟩⟩

end
end Go.AX

