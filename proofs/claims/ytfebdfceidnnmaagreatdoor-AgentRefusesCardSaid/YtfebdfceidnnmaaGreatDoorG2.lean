/- Operations: append, copy, make, and the small builtins. -/
import Derived.Test.YtfebdfceidnnmaaGreatDoorG1
import Derived.Laws.Cover3
import Derived.Lib.UnsafeStr
import Derived.Lib.Builder
set_option autoImplicit false
set_option linter.unusedSimpArgs false
set_option linter.unusedVariables false
namespace Go.AX
noncomputable section
variable {a0 : Nat → Value}

section
variable {P : Program} {E : Env} {C : List Nat}

def xLen1 : AV → R Nat
  | .slc _ _ n _ _ => .ok n
  | .nils => .ok 0
  | .slz => .ok 0
  | .str l => .ok l.length
  | _ => .error "len"

theorem xLen1_ok {ρ : Ren a0} {w : World} {a : AV} {x : Value} {n : Nat} (h : xLen1 a = .ok n) (hx : VR ρ a x) : (Builtin.lenOf x).run P w = .ok n w := by
  unfold xLen1 at h
  split at h
  · cases h; cases hx; simp [Builtin.lenOf]
  · cases h; cases hx; simp [Builtin.lenOf]
  · cases h; cases hx; simp [Builtin.lenOf]
  · cases h; cases hx with | str _ s hs => simp [Builtin.lenOf, bytes_len hs]
  · cases h

/-- the first n elements of a list, or bytes of a text -/
def xFirst (s : H) (size n : Nat) : AV → R (List AV)
  | .slc b off _ _ _ => loadN s b off (n * size)
  | .nils => bif Nat.beq n 0 then .ok [] else .error "first"
  | .slz => bif Nat.beq n 0 then .ok [] else .error "first"
  | .str l => bif Nat.ble n l.length && Nat.beq size 1 then .ok ((l.take n).map fun (n : Nat) => AV.int .u8 (Int.ofNat n)) else .error "first"
  | _ => .error "first"

theorem xFirst_ok {ρ : Ren a0} {s : H} {w : World} (hw : WR ρ s.hp w) {size n : Nat} {a : AV} {x : Value} {l : List AV} (h : xFirst s size n a = .ok l) (hx : VR ρ a x) :
    ∃ vs, (∀ w' : World, w'.heap = w.heap → (Builtin.firstCells size n x).run P w' = .ok vs.toArray w') ∧ VRs ρ l vs ∧ l.length = n * size := by
  unfold xFirst at h
  split at h
  · next b off _ _ _ =>
    obtain ⟨y, vs, h1, h2, h3, h4, h5⟩ := run_loadN' (P := P) hw h
    cases hx with
    | slc _ _ _ _ _ z c hz _ _ _ =>
      rw [hz] at h1; cases h1
      exact ⟨vs, fun w' hw' => by simp [Builtin.firstCells, h2 w' hw'], h3, h4⟩
  · replace h := bif_ok.1 h
    obtain ⟨h0, h⟩ := h
    cases h; cases hx
    obtain rfl := Nat.eq_of_beq_eq_true h0
    exact ⟨[], fun w' _ => by simp [Builtin.firstCells], .nil, by simp⟩
  · replace h := bif_ok.1 h
    obtain ⟨h0, h⟩ := h
    cases h; cases hx
    obtain rfl := Nat.eq_of_beq_eq_true h0
    exact ⟨[], fun w' _ => by simp [Builtin.firstCells, loadCells, loadCellsFrom], .nil, by simp⟩
  · replace h := bif_ok.1 h
    obtain ⟨h0, h⟩ := h
    simp only [Bool.and_eq_true] at h0
    obtain ⟨c1, c2⟩ := h0
    have c1' := Nat.le_of_ble_eq_true c1
    obtain rfl := Nat.eq_of_beq_eq_true c2
    cases h
    cases hx with
    | str _ t ht =>
      refine ⟨((t.extract 0 n).data.toList.map fun b => Value.int .u8 b.toNat), fun w' _ => ?_, ?_, by simp [Nat.min_eq_left c1']⟩
      · simp only [Builtin.firstCells, Sem.run_pure]
        congr 1
        apply Array.ext'
        simp
      · have e := bytesL_extract t 0 n (by rw [bytes_len ht]; exact c1')
        rw [ht, List.drop_zero] at e
        rw [← e]
        exact bytes_vals ρ _
  · cases h

theorem zeroCells_eq (z : Array Value) (n : Nat) : Builtin.zeroCells z n = (replV z.toList n).toArray := range_repl z n

theorem VRs.all_flat_len {ρ : Ren a0} {l : List AV} {vs : List Value} (h : VRs ρ l vs) : vs.length = l.length := h.length.symm

/-- what is appended: cells -/
def xNew (E : Env) (s : H) (e t2 : Nat) (y : AV) : R (Nat × List AV) := do
  let j ← ti E e
  let i2 ← ti E t2
  match i2.desc with
  | .int _ => match y with
    | .int _ (.ofNat n) => bif Nat.ble (n * (j.bytes + 1)) 100000 then .ok (n, repl j.zero n) else .error "append many"
    | _ => .error "append zeros"
  | _ => do
    let n ← xLen1 y
    .ok (n, ← xFirst s j.size n y)

theorem next_small {need old bytes : Nat} (h : need * (bytes + 1) ≤ 20000000) (h' : old < need) : ¬ (Builtin.nextslicecap need old * bytes > 2 ^ 48) := by
  have hn : Builtin.nextslicecap need old ≤ 2 * need + 1000 := by
    unfold Builtin.nextslicecap
    split
    · omega
    · split
      · omega
      · have gb : ∀ r c, c ≤ 2 * need + 1000 → c < need ∨ c ≤ 2 * need + 1000 → Builtin.growBy need r c ≤ 2 * need + 1000 := by
          intro r
          induction r with
          | zero => intro c h _; simpa [Builtin.growBy] using h
          | succ r ih =>
            intro c h _
            simp only [Builtin.growBy]
            split
            · exact h
            · exact ih _ (by omega) (by omega)
        exact gb 4 old (by omega) (by omega)
  have hb : bytes ≤ 20000000 := by
    rcases Nat.eq_zero_or_pos need with h0 | h0
    · omega
    · have : bytes + 1 ≤ need * (bytes + 1) := Nat.le_mul_of_pos_left _ h0
      omega
  have : need ≤ 20000000 := by
    have : need * 1 ≤ need * (bytes + 1) := Nat.mul_le_mul_left _ (by omega)
    omega
  have h2 : Builtin.nextslicecap need old * bytes ≤ (2 * need + 1000) * bytes := Nat.mul_le_mul_right _ hn
  have h3 : need * bytes ≤ 20000000 := by rw [Nat.mul_add] at h; omega
  have h4 : (2 * need + 1000) * bytes = 2 * (need * bytes) + 1000 * bytes := by rw [Nat.add_mul, Nat.mul_assoc]
  omega

end
end
end Go.AX

/- Operations: append. -/
set_option autoImplicit false
set_option linter.unusedSimpArgs false
set_option linter.unusedVariables false
namespace Go.AX
noncomputable section

section
variable {P : Program} {E : Env} {C : List Nat}

theorem app_room {w : World} {t t2 e ty : TypeId} {d2 : TypeDesc} {inf : TypeInfo} {base : Option Addr} {sLen sCap n : Nat} {x : Value} {new : Array Value} (h1 : P.underlying t = some (.slice e)) (h2 : P.underlying t2 = some d2) (hd : ∀ k, d2 ≠ .int k)
    (hi : P.info? e = some inf) (hn : (Builtin.lenOf x).run P w = .ok n w) (hr : sLen + n ≤ sCap) (ha : (Builtin.firstCells inf.size n x).run P w = .ok new w) :
    (Builtin.append_ #[t, t2] ty #[.slice base sLen sCap, x]).run P w = (match base with
      | some a => ((storeCells (a.add (sLen * inf.size)) new.toList).run P w).andThen fun _ w' => .ok (.slice base (sLen + n) sCap) w'
      | none => .ok (.slice base (sLen + n) sCap) w) := by
  have hz : (match (motive := TypeDesc → Bool) d2 with | .int _ => true | _ => false) = false := by
    cases d2 <;> first | rfl | (next k => exact absurd rfl (hd k))
  unfold Builtin.append_
  simp only [List.getElem?_toArray, List.getElem?_cons_zero, List.getElem?_cons_succ, Sem.run_bind, run_und h1, run_und h2, Result.andThen_ok, run_size hi, Sem.run_pure]
  simp only [Bool.false_eq_true, if_false, hn, Bool.not_false, if_true, Result.andThen_ok, if_pos hr, Sem.run_bind, ha]
  cases base with
  | none => simp
  | some a => simp

theorem app_room_z {w : World} {t t2 e ty : TypeId} {k k2 : IntKind} {inf : TypeInfo} {base : Option Addr} {sLen sCap n : Nat} {new : Array Value} (h1 : P.underlying t = some (.slice e)) (h2 : P.underlying t2 = some (.int k))
    (hi : P.info? e = some inf) (hn : n * (inf.bytes + 1) ≤ 100000) (hr : sLen + n ≤ sCap)
    (ha : (if n * inf.size = 0 then pure #[] else do pure (Builtin.zeroCells (← zeroValue e).cells n) : Sem (Array Value)).run P w = .ok new w) :
    (Builtin.append_ #[t, t2] ty #[.slice base sLen sCap, .int k2 (n : Int)]).run P w = (match base with
      | some a => ((storeCells (a.add (sLen * inf.size)) new.toList).run P w).andThen fun _ w' => .ok (.slice base (sLen + n) sCap) w'
      | none => .ok (.slice base (sLen + n) sCap) w) := by
  have hn1 : n ≤ 100000 := by
    have : n * 1 ≤ n * (inf.bytes + 1) := Nat.mul_le_mul_left _ (by omega)
    omega
  have hw : IntKind.i64.wrap (n : Int) = n := wrap_i64 (by omega) (by omega)
  have hneg : ¬ ((n : Int) < 0) := by omega
  have hnb : n * inf.bytes ≤ 100000 := by rw [Nat.mul_add] at hn; omega
  have hbig : ¬ ((n : Int) * (inf.bytes : Int) > 2 ^ 48) := by
    have : (n : Int) * (inf.bytes : Int) = ((n * inf.bytes : Nat) : Int) := by simp
    rw [this]; omega
  unfold Builtin.append_
  simp only [List.getElem?_toArray, List.getElem?_cons_zero, List.getElem?_cons_succ, Sem.run_bind, run_und h1, run_und h2, Result.andThen_ok, run_size hi, Sem.run_pure, Bool.not_true, Bool.false_eq_true, if_false, if_true, asInt, asIntOf, hw, hneg, run_tinfo hi, hbig, Int.toNat_natCast, if_pos hr, ha]
  cases base with
  | none => simp
  | some a => simp

theorem app_grow {w : World} {t t2 e ty : TypeId} {d2 : TypeDesc} {inf : TypeInfo} {z : Value} {base : Option Addr} {sLen sCap n : Nat} {x : Value} {old new : Array Value} (h1 : P.underlying t = some (.slice e)) (h2 : P.underlying t2 = some d2) (hd : ∀ k, d2 ≠ .int k)
    (hi : P.info? e = some inf) (hz : inf.zero = some z) (hn : (Builtin.lenOf x).run P w = .ok n w) (hr : sCap < sLen + n) (hsm : (sLen + n) * (inf.bytes + 1) ≤ 20000000)
    (ho : ∀ w' : World, w'.heap = w.heap → (Builtin.firstCells inf.size sLen (.slice base sLen sCap)).run P w' = .ok old w')
    (ha : ∀ w' : World, w'.heap = w.heap → (Builtin.firstCells inf.size n x).run P w' = .ok new w') :
    ∃ newCap, sLen + n ≤ newCap ∧ (Builtin.append_ #[t, t2] ty #[.slice base sLen sCap, x]).run P w =
      .ok (.slice (some ⟨w.heap.size, 0, none⟩) (sLen + n) newCap) { drewW w with heap := (drewW w).heap.push (.cells (old ++ new ++ (replV z.cells.toList (newCap - (sLen + n))).toArray) e) } := by
  refine ⟨(Question.appendCap (sLen + n) sCap e).cut (w.tape w.drawn (.appendCap (sLen + n) sCap e)), extF_cut _ _ _ _, ?_⟩
  have hzz : (match (motive := TypeDesc → Bool) d2 with | .int _ => true | _ => false) = false := by
    cases d2 <;> first | rfl | (next k => exact absurd rfl (hd k))
  have hr' : ¬ (sLen + n ≤ sCap) := by omega
  have hn1 : sLen + n ≤ 20000000 := by
    have : (sLen + n) * 1 ≤ (sLen + n) * (inf.bytes + 1) := Nat.mul_le_mul_left _ (by omega)
    omega
  have hmx : ¬ (((sLen + n : Nat) : Int) > IntKind.i64.max) := by
    have : IntKind.i64.max = 9223372036854775807 := by decide
    rw [this]; omega
  have h3 := next_small hsm hr
  unfold Builtin.append_
  simp only [List.getElem?_toArray, List.getElem?_cons_zero, List.getElem?_cons_succ, Sem.run_bind, run_und h1, run_und h2, Result.andThen_ok, run_size hi, Sem.run_pure]
  simp only [Bool.false_eq_true, if_false, hn, Bool.not_false, if_true, Result.andThen_ok, if_neg hr', Sem.run_bind, hmx, false_and, run_tinfo hi, h3, run_choose, Question.forced, run_askRoom]
  have e1 : ({ w with drawn := w.drawn + 1 } : World) = drewW w := rfl
  rw [e1]
  simp only [ho (drewW w) rfl, ha (drewW w) rfl, Result.andThen_ok, run_zeroValue hi hz, run_newRow, Sem.run_pure, zeroCells_eq]
  rfl

theorem app_grow_z {w : World} {t t2 e ty : TypeId} {k k2 : IntKind} {inf : TypeInfo} {z : Value} {base : Option Addr} {sLen sCap n : Nat} {old new : Array Value} (h1 : P.underlying t = some (.slice e)) (h2 : P.underlying t2 = some (.int k))
    (hi : P.info? e = some inf) (hz : inf.zero = some z) (hnb : n * (inf.bytes + 1) ≤ 100000) (hr : sCap < sLen + n) (hsm : (sLen + n) * (inf.bytes + 1) ≤ 20000000)
    (ho : ∀ w' : World, w'.heap = w.heap → (Builtin.firstCells inf.size sLen (.slice base sLen sCap)).run P w' = .ok old w')
    (ha : ∀ w' : World, w'.heap = w.heap → (if n * inf.size = 0 then pure #[] else do pure (Builtin.zeroCells (← zeroValue e).cells n) : Sem (Array Value)).run P w' = .ok new w') :
    ∃ newCap, sLen + n ≤ newCap ∧ (Builtin.append_ #[t, t2] ty #[.slice base sLen sCap, .int k2 (n : Int)]).run P w =
      .ok (.slice (some ⟨w.heap.size, 0, none⟩) (sLen + n) newCap) { drewW w with heap := (drewW w).heap.push (.cells (old ++ new ++ (replV z.cells.toList (newCap - (sLen + n))).toArray) e) } := by
  refine ⟨(Question.appendCap (sLen + n) sCap e).cut (w.tape w.drawn (.appendCap (sLen + n) sCap e)), extF_cut _ _ _ _, ?_⟩
  have hn0 : n ≤ 100000 := by
    have : n * 1 ≤ n * (inf.bytes + 1) := Nat.mul_le_mul_left _ (by omega)
    omega
  have hw : IntKind.i64.wrap (n : Int) = n := wrap_i64 (by omega) (by omega)
  have hneg : ¬ ((n : Int) < 0) := by omega
  have hnb' : n * inf.bytes ≤ 100000 := by rw [Nat.mul_add] at hnb; omega
  have hbig : ¬ ((n : Int) * (inf.bytes : Int) > 2 ^ 48) := by
    have : (n : Int) * (inf.bytes : Int) = ((n * inf.bytes : Nat) : Int) := by simp
    rw [this]; omega
  have hr' : ¬ (sLen + n ≤ sCap) := by omega
  have hn1 : sLen + n ≤ 20000000 := by
    have : (sLen + n) * 1 ≤ (sLen + n) * (inf.bytes + 1) := Nat.mul_le_mul_left _ (by omega)
    omega
  have hmx : ¬ (((sLen + n : Nat) : Int) > IntKind.i64.max) := by
    have : IntKind.i64.max = 9223372036854775807 := by decide
    rw [this]; omega
  have h3 := next_small hsm hr
  unfold Builtin.append_
  simp only [List.getElem?_toArray, List.getElem?_cons_zero, List.getElem?_cons_succ, Sem.run_bind, run_und h1, run_und h2, Result.andThen_ok, run_size hi, Sem.run_pure, Bool.not_true, Bool.false_eq_true, if_false, if_true, asInt, asIntOf, hw, hneg, run_tinfo hi, hbig, Int.toNat_natCast, if_neg hr', hmx, false_and, h3, run_choose, Question.forced, run_askRoom]
  have e1 : ({ w with drawn := w.drawn + 1 } : World) = drewW w := rfl
  rw [e1]
  rw [ho (drewW w) rfl]
  simp only [Result.andThen_ok]
  rw [ha (drewW w) rfl]
  simp only [Result.andThen_ok, run_zeroValue hi hz, run_newRow, Sem.run_pure, Sem.run_bind, zeroCells_eq]
  rfl

end
end
end Go.AX

/- Operations: append is so. -/
set_option autoImplicit false
set_option linter.unusedSimpArgs false
set_option linter.unusedVariables false
namespace Go.AX
noncomputable section
variable {a0 : Nat → Value}

/-- a list grows into new memory -/
def xGrow (E : Env) (s : H) (e : Nat) (j : TI) (old nw : List AV) (m : Nat) : R (AV × H) := do
  let (b, s) ← alloc s (.cells (old ++ nw) true e false)
  .ok (.slc b 0 m none j.size, s)

def xAppend (E : Env) (s : H) (t t2 : Nat) (x y : AV) : R (AV × H) := do
  let i ← ti E t
  match i.desc with
  | .slice e => do
    let j ← ti E e
    let (n, nw) ← xNew E s e t2 y
    bif Nat.beq j.zero.length j.size && Nat.blt 0 j.size && nw.all flat && Nat.ble (n * (j.bytes + 1)) 10000000 then
      match x with
      | .nils => bif Nat.beq n 0 then .ok (.nils, s) else xGrow E s e j [] nw n
      | .slc b off len cap es =>
        bif Nat.beq n 0 then .ok (x, s) else
        bif Nat.ble (len * (j.bytes + 1)) 10000000 then
          match cap with
          | some c =>
            bif Nat.ble (len + n) c then do .ok (.slc b off (len + n) cap es, ← storeN s b (off + len * j.size) nw)
            else do
              let old ← xFirst s j.size len x
              xGrow E s e j old nw (len + n)
          | none =>
            bif Nat.beq off 0 && Nat.beq es j.size then
              match s.hp.get b with
              | some (.cells c m e' f) =>
                bif f || !(Nat.beq e e') then .error "append frozen" else
                bif Nat.ble (len * j.size) c.length then
                  xGrow E ⟨s.hp.del b, s.nx⟩ e j (c.take (len * j.size)) nw (len + n)
                else .error "append cells"
              | _ => .error "append no cells"
            else .error "append at an offset"
        else .error "append long"
      | _ => .error "append"
    else .error "append type"
  | _ => .error "append"

section
variable {P : Program} {E : Env} {C : List Nat}

/-- what append does where there is room, and where there is none -/
structure AppRuns (P : Program) (w : World) (inf : TypeInfo) (z : Value) (e : TypeId) (n : Nat) (new : List Value) (run : Option Addr → Nat → Nat → Sem Value) : Prop where
  room : ∀ base sLen sCap, sLen + n ≤ sCap → (run base sLen sCap).run P w = (match base with
      | some a => ((storeCells (a.add (sLen * inf.size)) new).run P w).andThen fun _ w' => .ok (.slice base (sLen + n) sCap) w'
      | none => .ok (.slice base (sLen + n) sCap) w)
  grow : ∀ base sLen sCap (old : List Value), sCap < sLen + n → (sLen + n) * (inf.bytes + 1) ≤ 20000000 → (∀ w' : World, w'.heap = w.heap → (Builtin.firstCells inf.size sLen (.slice base sLen sCap)).run P w' = .ok old.toArray w') →
    ∃ newCap, sLen + n ≤ newCap ∧ (run base sLen sCap).run P w =
      .ok (.slice (some ⟨w.heap.size, 0, none⟩) (sLen + n) newCap) { drewW w with heap := (drewW w).heap.push (.cells (old ++ new ++ replV z.cells.toList (newCap - (sLen + n))).toArray e) }

theorem xNew_runs (hE : TyOk P E) {ρ : Ren a0} {s : H} {w : World} (hw : WR ρ s.hp w) {t t2 e ty : TypeId} {j : TI} {inf : TypeInfo} {z : Value} {n : Nat} {y : AV} {vy : Value} {nw : List AV}
    (h1 : P.underlying t = some (.slice e)) (hi : P.info? e = some inf) (hz : inf.zero = some z) (hj : ti E e = .ok j) (hzl : VRs ρ j.zero z.cells.toList) (hsz : inf.size = j.size) (hbz : inf.bytes = j.bytes) (hzz : j.zero.length = j.size)
    (h : xNew E s e t2 y = .ok (n, nw)) (hy : VR ρ y vy) :
    ∃ new, VRs ρ nw new ∧ nw.length = n * j.size ∧ AppRuns P w inf z e n new (fun base sLen sCap => Builtin.append_ #[t, t2] ty #[.slice base sLen sCap, vy]) := by
  simp only [xNew, bind_ok] at h
  obtain ⟨j', hj', i2, hi2, h⟩ := h
  rw [hj] at hj'
  cases hj'
  obtain ⟨inf2, m1, m2, m3, m4, m5⟩ := hE.find hi2
  split at h
  · next k ed =>
    rw [ed] at m2
    split at h
    · next k' n' =>
      replace h := bif_ok.1 h
      obtain ⟨hb, h⟩ := h
      cases h
      have hb' := Nat.le_of_ble_eq_true hb
      cases hy
      have hlen : z.cells.toList.length = j.size := by rw [← hzl.length, hzz]
      refine ⟨replV z.cells.toList n, repl_ok hzl n, by rw [(repl_ok hzl n).length, replV_length, hlen], ?_⟩
      have ha : ∀ w' : World, w'.heap = w.heap → (if n * inf.size = 0 then pure #[] else do pure (Builtin.zeroCells (← zeroValue e).cells n) : Sem (Array Value)).run P w' = .ok (replV z.cells.toList n).toArray w' := by
        intro w' _
        by_cases h0 : n * inf.size = 0
        · simp only [if_pos h0]
          have : replV z.cells.toList n = [] := by
            apply List.eq_nil_of_length_eq_zero
            rw [replV_length, hlen, ← hsz]
            exact h0
          rw [this]
          rfl
        · simp only [if_neg h0, Sem.run_bind, run_zeroValue hi hz, Result.andThen_ok, Sem.run_pure, zeroCells_eq]
      constructor
      · intro base sLen sCap hr
        exact app_room_z h1 m2 hi (by rw [hbz]; exact hb') hr (ha w rfl)
      · intro base sLen sCap old hr hsm ho
        obtain ⟨c, q1, q2⟩ := app_grow_z (base := base) (ty := ty) (k2 := k') h1 m2 hi hz (by rw [hbz]; exact hb') hr hsm ho ha
        refine ⟨c, q1, ?_⟩
        simpa using q2
    · cases h
  · next hne =>
    simp only [bind_ok] at h
    obtain ⟨n', hn, l, hl, h⟩ := h
    cases h
    have hl' := xLen1_ok (P := P) (w := w) hn hy
    obtain ⟨vs, g1, g2, g3⟩ := xFirst_ok (P := P) hw hl hy
    rw [← hsz] at g1
    refine ⟨vs, g2, g3, ?_⟩
    constructor
    · intro base sLen sCap hr
      exact app_room h1 m2 (fun k e => hne k e) hi hl' hr (g1 w rfl)
    · intro base sLen sCap old hr hsm ho
      obtain ⟨c, q1, q2⟩ := app_grow (base := base) (ty := ty) h1 m2 (fun k e => hne k e) hi hz hl' hr hsm ho g1
      refine ⟨c, q1, ?_⟩
      simpa using q2

/-- the new row -/
theorem xGrow_ok {ρ : Ren a0} {w : World} {s s1 s' : H} {e : TypeId} {j : TI} {z : Value} {old nw : List AV} {vo vn : List Value} {m newCap : Nat} {v : AV} (hw : WR ρ s.hp w) (hless : ∀ b o, s1.hp.get b = some o → s.hp.get b = some o) (hnx : s1.nx = s.nx)
    (h : xGrow E s1 e j old nw m = .ok (v, s')) (hf : Free ρ s.nx s'.nx) (ho : VRs ρ old vo) (hn : VRs ρ nw vn) (hm : m ≤ newCap) (hz : z.cells.toList.length = j.size) (hlen : vo.length + vn.length = m * j.size) :
    ∃ ρ', VR ρ' v (.slice (some ⟨w.heap.size, 0, none⟩) m newCap) ∧ On ρ w s ρ' { drewW w with heap := (drewW w).heap.push (.cells (vo ++ vn ++ replV z.cells.toList (newCap - m)).toArray e) } s' := by
  simp only [xGrow, bind_ok] at h
  obtain ⟨⟨b, s2⟩, ha, h⟩ := h
  cases h
  have hw1 := hw.less hless
  obtain ⟨ρ', q1, q2, q3, q4⟩ := new_row (rest := replV z.cells.toList (newCap - m)) (drew_heq w) hw1 ha (by rw [hnx]; exact hf) (ho.append hn) (fun e => by cases e)
  refine ⟨ρ', .slc b 0 m none j.size _ newCap q1 hm (fun _ e => by cases e) (fun _ => ?_), ⟨q3.wr, q3.ex, by rw [← hnx]; exact q3.nx, by rw [← hnx]; exact q3.same⟩⟩
  rw [q4, replV_length, hz, List.length_append, hlen, ← Nat.add_mul, Nat.zero_add]
  congr 1
  omega

theorem storeCells_at {w : World} (x off : Nat) (vs : List Value) (k : Nat) : (storeCells ((⟨x, off, none⟩ : Addr).add k) vs).run P w = (storeCells ⟨x, off + k, none⟩ vs).run P w := by
  rw [Addr.add_n]

theorem xAppend_ok (hE : TyOk P E) {ρ : Ren a0} {w : World} {s : H} (hw : WR ρ s.hp w) {t t2 ty : Nat} {x y : AV} {vx vy : Value} (hx : VR ρ x vx) (hy : VR ρ y vy) :
    Do P ρ w s (Builtin.append_ #[t, t2] ty #[vx, vy]) (xAppend E s t t2 x y) := by
  intro v s' h hf
  simp only [xAppend, bind_ok] at h
  obtain ⟨i, hi, h⟩ := h
  obtain ⟨inf0, h1, h2, h3, h4, h5⟩ := hE.find hi
  split at h
  case h_2 => cases h
  next e ed =>
  rw [ed] at h2
  simp only [bind_ok] at h
  obtain ⟨j, hj, ⟨n, nw⟩, hn, h⟩ := h
  replace h := bif_ok.1 h
  obtain ⟨hb, h⟩ := h
  simp only [Bool.and_eq_true] at hb
  obtain ⟨⟨⟨b1, b2⟩, b3⟩, b4⟩ := hb
  have b1' := Nat.eq_of_beq_eq_true b1
  have b2' := blt_iff.1 b2
  have b4' := Nat.le_of_ble_eq_true b4
  obtain ⟨inf, z, g1, g2, g3⟩ := zero_some (ρ := ρ) hE hj (by intro e; rw [e] at b1'; simp at b1'; omega)
  obtain ⟨inf', m1, m2, m3, m4, m5⟩ := hE.find hj
  rw [g1] at m1; cases m1
  obtain ⟨new, n1, n2, n3⟩ := xNew_runs (ty := ty) hE hw h2 g1 g2 hj g3 m3 m4 b1' hn hy
  have hzl : z.cells.toList.length = j.size := by rw [← g3.length, b1']
  have hnl : new.length = n * j.size := by rw [← n1.length, n2]
  split at h
  · -- a list that is nil
    cases hx
    cases h0 : Nat.beq n 0 with
    | true =>
      rw [h0] at h
      simp only [cond_true] at h
      cases h
      obtain rfl := Nat.eq_of_beq_eq_true h0
      exact ⟨_, w, ρ, n3.room none 0 0 (by omega), .nils, .refl hw⟩
    | false =>
      rw [h0] at h
      simp only [cond_false] at h
      have hpos : 0 < n := by
        rcases Nat.eq_zero_or_pos n with q | q
        · rw [q] at h0; simp at h0
        · exact q
      obtain ⟨nc, c1, c2⟩ := n3.grow none 0 0 [] (by omega) (by rw [Nat.zero_add, m4]; omega) (fun w' _ => by simp [Builtin.firstCells])
      rw [Nat.zero_add] at c1 c2
      obtain ⟨ρ', r1, r2⟩ := xGrow_ok (z := z) (newCap := nc) hw (fun _ _ h => h) rfl h hf .nil n1 c1 hzl (by simp [hnl])
      exact ⟨_, _, ρ', c2, r1, r2⟩
  · next b off len cap es =>
    cases hx with
    | slc _ _ _ _ _ q c hq hlc hcap htot =>
    cases h0 : Nat.beq n 0 with
    | true =>
      rw [h0] at h
      simp only [cond_true] at h
      cases h
      obtain rfl := Nat.eq_of_beq_eq_true h0
      have : new = [] := by apply List.eq_nil_of_length_eq_zero; rw [hnl]; simp
      subst this
      refine ⟨_, w, ρ, ?_, .slc _ _ _ _ _ _ _ hq hlc hcap htot, .refl hw⟩
      rw [n3.room (some ⟨q, off, none⟩) len c (by omega)]
      simp [storeCells]
    | false =>
      rw [h0] at h
      simp only [cond_false] at h
      have hpos : 0 < n := by
        rcases Nat.eq_zero_or_pos n with q | q
        · rw [q] at h0; simp at h0
        · exact q
      replace h := bif_ok.1 h
      obtain ⟨hb5, h⟩ := h
      have hb5' := Nat.le_of_ble_eq_true hb5
      have hsm : (len + n) * (inf.bytes + 1) ≤ 20000000 := by rw [m4, Nat.add_mul]; omega
      split at h
      · next c' =>
        obtain rfl := hcap c' rfl
        cases hr : Nat.ble (len + n) c with
        | true =>
          rw [hr] at h
          simp only [cond_true, bind_ok] at h
          obtain ⟨s2, hs, h⟩ := h
          cases h
          have hr' := Nat.le_of_ble_eq_true hr
          obtain ⟨x2, w', p1, p2, p3, p4, p5⟩ := run_storeN (P := P) hw hs n1 b3
          rw [hq] at p1; cases p1
          refine ⟨_, w', ρ, ?_, .slc b off (len + n) (some c) es q c hq hr' (fun _ e => by cases e; rfl) (fun e => by cases e), ⟨p3, p4, by rw [p5]; exact Nat.le_refl _, fun _ _ => rfl⟩⟩
          rw [n3.room (some ⟨q, off, none⟩) len c hr']
          simp only [storeCells_at, m3, p2, Result.andThen_ok]
        | false =>
          rw [hr] at h
          simp only [cond_false, bind_ok] at h
          obtain ⟨old, ho, h⟩ := h
          have hr' : c < len + n := by
            rcases Nat.lt_or_ge c (len + n) with q | q
            · exact q
            · rw [Nat.ble_eq_true_of_le q] at hr; cases hr
          obtain ⟨vo, o1, o2, o3⟩ := xFirst_ok (P := P) hw ho (x := .slice (some ⟨q, off, none⟩) len c) (.slc _ _ _ _ _ _ _ hq hlc hcap htot)
          obtain ⟨nc, c1, c2⟩ := n3.grow (some ⟨q, off, none⟩) len c vo hr' hsm (by rw [m3]; exact o1)
          obtain ⟨ρ', r1, r2⟩ := xGrow_ok (z := z) (newCap := nc) hw (fun _ _ h => h) rfl h hf o2 n1 c1 hzl (by rw [hnl, ← o2.length, o3, Nat.add_mul])
          exact ⟨_, _, ρ', c2, r1, r2⟩
      · next =>
        replace h := bif_ok.1 h
        obtain ⟨hb6, h⟩ := h
        simp only [Bool.and_eq_true] at hb6
        obtain ⟨c5, c6⟩ := hb6
        obtain rfl := Nat.eq_of_beq_eq_true c5
        obtain rfl := Nat.eq_of_beq_eq_true c6
        have htot' := htot rfl
        split at h
        · next cl m e' f hget =>
          replace h := bif_ok'.1 h
          obtain ⟨hfe, h⟩ := h
          simp only [Bool.or_eq_false_iff, Bool.not_eq_false'] at hfe
          obtain ⟨hfr, hee⟩ := hfe
          subst hfr
          obtain rfl := Nat.eq_of_beq_eq_true hee
          replace h := bif_ok.1 h
          obtain ⟨hcl, h⟩ := h
          have hcl' := Nat.le_of_ble_eq_true hcl
          obtain ⟨x2, ws, rest, zz, u1, u2, u3, u4, u5, u6, u7⟩ := cells_of hw hget
          rw [hq] at u1; cases u1
          have hwl := u4.length
          rcases Nat.lt_or_ge c (len + n) with hr | hr
          · -- new memory
            have ho : ∀ w' : World, w'.heap = w.heap → (Builtin.firstCells inf.size len (.slice (some ⟨q, 0, none⟩) len c)).run P w' = .ok (ws.take (len * j.size)).toArray w' := by
              intro w' hw'
              simp only [Builtin.firstCells, m3]
              have hln : (ws.take (len * j.size)).length = len * j.size := by rw [List.length_take]; omega
              have := run_loadCells_list (P := P) w' ⟨q, 0, none⟩ (ws.take (len * j.size)) (fun i v hv => by
                rw [Addr.add_n, Nat.zero_add, cell_at (by rw [hw']; exact u3)]
                rw [List.getElem?_take] at hv
                split at hv
                · rw [List.getElem?_append_left (by obtain ⟨q1, _⟩ := List.getElem?_eq_some_iff.1 hv; exact q1)]
                  exact hv
                · cases hv)
              rw [hln] at this
              exact this
            obtain ⟨nc, c1, c2⟩ := n3.grow (some ⟨q, 0, none⟩) len c _ hr hsm ho
            obtain ⟨ρ', r1, r2⟩ := xGrow_ok (z := z) (newCap := nc) (s := s) (s1 := ⟨s.hp.del b, s.nx⟩) hw (fun b' o hb' => by
              have := T.get_del s.hp b b'
              have hb2 : (T.del s.hp b).get b' = some o := hb'
              rw [this] at hb2
              split at hb2
              · cases hb2
              · exact hb2) rfl h hf (u4.take _) n1 c1 hzl (by
                have : (ws.take (len * j.size)).length = len * j.size := by rw [List.length_take]; omega
                rw [hnl, this, Nat.add_mul])
            exact ⟨_, _, ρ', c2, r1, r2⟩
          · -- in place
            simp only [xGrow, bind_ok] at h
            obtain ⟨⟨b', s2⟩, ha, h⟩ := h
            unfold alloc at ha
            replace ha := bif_ok.1 ha
            obtain ⟨hlim, ha⟩ := ha
            cases ha
            cases h
            have hfree : ρ s.nx = none := hf s.nx (Nat.le_refl _) (Nat.lt_succ_self _)
            have hsz : len * j.size + new.length ≤ (ws ++ rest).length := by
              rw [hnl, List.length_append, u7, ← htot', Nat.zero_add, ← Nat.add_mul]
              exact Nat.mul_le_mul_right _ hr
            obtain ⟨w', k1, k2⟩ := run_storeCells (P := P) q e zz new (ws ++ rest) (len * j.size) 0 w u3 (by simpa using hsz) (fun i _ hi => u6 rfl i (by simp only [List.length_append] at hsz; omega)) (VRs.flats n1 b3)
            rw [Nat.add_zero] at k2
            have hpl : putL (ws ++ rest) (len * j.size) new = (ws.take (len * j.size) ++ new) ++ (ws ++ rest).drop (len * j.size + new.length) := by
              unfold putL
              rw [List.take_append_of_le_length (by omega)]
            rw [hpl] at k2
            have hlt : (ws.take (len * j.size) ++ new).length + ((ws ++ rest).drop (len * j.size + new.length)).length = ws.length + rest.length := by
              simp only [List.length_append, List.length_take, List.length_drop] at hsz ⊢
              omega
            have hle := Ren.le_put (x := q) (n := ρ.tot b) hfree
            obtain ⟨y1, y2⟩ := hw.move hget hq hfree (Nat.le_of_ble_eq_true hlim) k2 (o := .cells (cl.take (len * j.size) ++ nw) true e false)
              (.cells _ _ _ _ _ _ _ (((u4.take _).append n1).mono hle) (fun e => by cases e) (fun _ i hi => u6 rfl i (by rw [hlt] at hi; exact hi)))
              (by simp only [ObSize, List.size_toArray, List.length_append (as := _ ++ _), hlt]; exact u7) (fun _ _ _ e => by cases e)
            refine ⟨_, w', _, ?_, .slc s.nx 0 (len + n) none j.size q c (Ren.put_same _ _ _ _) hr (fun _ e => by cases e) (fun _ => by rw [Ren.tot_same]; exact htot'), ⟨y1, y2, Nat.le_succ _, fun d hd => Ren.put_other _ _ _ ?_⟩⟩
            · rw [n3.room (some ⟨q, 0, none⟩) len c hr]
              simp only [storeCells_at, m3, Nat.zero_add, k1, Result.andThen_ok]
            · intro e
              subst e
              rcases hd with hd | hd
              · omega
              · simp at hd
                omega
        · cases h
  · cases h

/-- a list whose row is known to have room -/
def roomK (s : H) (x : AV) : Bool := match x with
  | .slc b off len none es => match s.hp.get b with
    | some (.cells c _ _ _) => Nat.blt (off + len * es) c.length
    | _ => false
  | _ => false

def xAppendK (E : Env) (s : H) (t t2 : Nat) (x y : AV) : R (AV × H) := do
  let i ← ti E t
  match i.desc, x with
  | .slice e, .slc b off len none es => do
    let j ← ti E e
    let (n, nw) ← xNew E s e t2 y
    match s.hp.get b with
    | some (.cells c m e' f) =>
      bif Nat.beq j.zero.length j.size && Nat.blt 0 j.size && nw.all flat && Nat.beq es j.size && Nat.ble (off + (len + n) * es) c.length then do
        let s2 ← storeN s b (off + len * es) nw
        .ok (.slc b off (len + n) none es, s2)
      else .error "append"
    | _ => .error "append"
  | _, _ => .error "append"

def xAppendH (E : Env) (s : H) (t t2 : Nat) (x y : AV) : R (AV × H) :=
  bif roomK s x then (match xAppendK E s t t2 x y with
    | .ok r => .ok r
    | .error _ => xAppend E s t t2 x y) else xAppend E s t t2 x y

theorem xAppendK_ok (hE : TyOk P E) {ρ : Ren a0} {w : World} {s : H} (hw : WR ρ s.hp w) {t t2 ty : Nat} {x y : AV} {vx vy : Value} (hx : VR ρ x vx) (hy : VR ρ y vy) :
    Do P ρ w s (Builtin.append_ #[t, t2] ty #[vx, vy]) (xAppendK E s t t2 x y) := by
  intro v s' h hf
  simp only [xAppendK, bind_ok] at h
  obtain ⟨i, hi, h⟩ := h
  obtain ⟨inf0, h1, h2, h3, h4, h5⟩ := hE.find hi
  split at h
  case h_2 => cases h
  next e b off len es ed =>
  rw [ed] at h2
  simp only [bind_ok] at h
  obtain ⟨j, hj, ⟨n, nw⟩, hn, h⟩ := h
  split at h
  case h_2 => cases h
  next cl m e' f hget =>
  replace h := bif_ok.1 h
  obtain ⟨hb, h⟩ := h
  simp only [Bool.and_eq_true] at hb
  obtain ⟨⟨⟨⟨b1, b2⟩, b3⟩, b4⟩, b5⟩ := hb
  have b1' := Nat.eq_of_beq_eq_true b1
  have b2' := blt_iff.1 b2
  obtain rfl := Nat.eq_of_beq_eq_true b4
  have b5' := Nat.le_of_ble_eq_true b5
  obtain ⟨inf, z, g1, g2, g3⟩ := zero_some (ρ := ρ) hE hj (by intro e; rw [e] at b1'; simp at b1'; omega)
  obtain ⟨inf', m1, m2, m3, m4, m5⟩ := hE.find hj
  rw [g1] at m1; cases m1
  obtain ⟨new, n1, n2, n3⟩ := xNew_runs (ty := ty) hE hw h2 g1 g2 hj g3 m3 m4 b1' hn hy
  cases hx with
  | slc _ _ _ _ _ q c hq hlc hcap htot =>
  obtain ⟨x2, ws, rest, zz, u1, u2, u3, u4, u5, u6, u7⟩ := cells_of hw hget
  have htot' := htot rfl
  have hl := u4.length
  have hcc : len + n ≤ c := by
    have : (len + n) * j.size ≤ c * j.size := by omega
    exact Nat.le_of_mul_le_mul_right this b2'
  simp only [bind_ok] at h
  obtain ⟨s2, hs, h⟩ := h
  cases h
  obtain ⟨x3, w', p1, p2, p3, p4, p5⟩ := run_storeN (P := P) hw hs n1 b3
  rw [hq] at p1; cases p1
  refine ⟨_, w', ρ, ?_, .slc b off (len + n) none j.size q c hq hcc (fun _ e => by cases e) (fun _ => htot'), ⟨p3, p4, by rw [p5]; exact Nat.le_refl _, fun _ _ => rfl⟩⟩
  rw [n3.room (some ⟨q, off, none⟩) len c hcc]
  simp only [storeCells_at, m3, p2, Result.andThen_ok]

theorem xAppendH_ok (hE : TyOk P E) {ρ : Ren a0} {w : World} {s : H} (hw : WR ρ s.hp w) {t t2 ty : Nat} {x y : AV} {vx vy : Value} (hx : VR ρ x vx) (hy : VR ρ y vy) :
    Do P ρ w s (Builtin.append_ #[t, t2] ty #[vx, vy]) (xAppendH E s t t2 x y) := by
  intro v s' h hf
  unfold xAppendH at h
  cases hr : roomK s x with
  | false => rw [hr] at h; exact xAppend_ok hE hw hx hy v s' h hf
  | true =>
    rw [hr] at h
    simp only [cond_true] at h
    split at h
    · next r hk => cases h; exact xAppendK_ok hE hw hx hy v s' hk hf
    · exact xAppend_ok hE hw hx hy v s' h hf

end
end
end Go.AX

/- Operations: maps. -/
set_option autoImplicit false
set_option linter.unusedSimpArgs false
set_option linter.unusedVariables false
namespace Go.AX
noncomputable section
variable {a0 : Nat → Value}

mutual
/-- the same value, and known wholly -/
def same : AV → AV → Bool
  | .int k a, .int l b => (match k, l with | .i64, .i64 => true | .i32, .i32 => true | .u8, .u8 => true | _, _ => false) && a == b
  | .bool a, .bool b => a == b
  | .str a, .str b => leq a b
  | .agg a, .agg b => sames a b
  | _, _ => false
def sames : List AV → List AV → Bool
  | [], [] => true
  | a :: l, b :: m => same a b && sames l m
  | _, _ => false
end

mutual
theorem same_val {ρ : Ren a0} : ∀ {a b : AV} {x y : Value}, same a b = true → VR ρ a x → VR ρ b y → x = y
  | .int k a, .int l b, _, _, h, hx, hy => by
    cases hx; cases hy
    simp only [same, Bool.and_eq_true, beq_iff_eq] at h
    obtain ⟨h1, rfl⟩ := h
    cases k <;> cases l <;> simp_all
  | .bool a, .bool b, _, _, h, hx, hy => by
    cases hx; cases hy
    simp only [same, beq_iff_eq] at h
    rw [h]
  | .str a, .str b, _, _, h, hx, hy => by
    cases hx with | str _ s hs =>
    cases hy with | str _ t ht =>
    simp only [same] at h
    rw [leq_iff] at h
    subst h
    have := toNat_inj s.data.toList t.data.toList (by
      have e1 : s.data.toList.map UInt8.toNat = a := hs
      have e2 : t.data.toList.map UInt8.toNat = a := ht
      rw [e1, e2])
    have e : s.data = t.data := Array.ext' this
    cases s; cases t
    simp only at e
    rw [e]
  | .agg a, .agg b, _, _, h, hx, hy => by
    cases hx with | agg _ xs hxs =>
    cases hy with | agg _ ys hys =>
    simp only [same] at h
    rw [sames_val h hxs hys]
  | .int .., .bool .., _, _, h, _, _ | .int .., .str .., _, _, h, _, _ | .int .., .flt .., _, _, h, _, _ | .int .., .cplx .., _, _, h, _, _ | .int .., .nilp, _, _, h, _, _ | .int .., .ptr .., _, _, h, _, _ | .int .., .nils, _, _, h, _, _ | .int .., .slz, _, _, h, _, _ | .int .., .slc .., _, _, h, _, _ | .int .., .nilm, _, _, h, _, _ | .int .., .map .., _, _, h, _, _ | .int .., .agg .., _, _, h, _, _ | .int .., .tup .., _, _, h, _, _ | .int .., .fn .., _, _, h, _, _ | .int .., .nilf, _, _, h, _, _ | .int .., .rng .., _, _, h, _, _ | .int .., .top, _, _, h, _, _ => by simp [same] at h
  | .bool .., .int .., _, _, h, _, _ | .bool .., .str .., _, _, h, _, _ | .bool .., .flt .., _, _, h, _, _ | .bool .., .cplx .., _, _, h, _, _ | .bool .., .nilp, _, _, h, _, _ | .bool .., .ptr .., _, _, h, _, _ | .bool .., .nils, _, _, h, _, _ | .bool .., .slz, _, _, h, _, _ | .bool .., .slc .., _, _, h, _, _ | .bool .., .nilm, _, _, h, _, _ | .bool .., .map .., _, _, h, _, _ | .bool .., .agg .., _, _, h, _, _ | .bool .., .tup .., _, _, h, _, _ | .bool .., .fn .., _, _, h, _, _ | .bool .., .nilf, _, _, h, _, _ | .bool .., .rng .., _, _, h, _, _ | .bool .., .top, _, _, h, _, _ => by simp [same] at h
  | .str .., .int .., _, _, h, _, _ | .str .., .bool .., _, _, h, _, _ | .str .., .flt .., _, _, h, _, _ | .str .., .cplx .., _, _, h, _, _ | .str .., .nilp, _, _, h, _, _ | .str .., .ptr .., _, _, h, _, _ | .str .., .nils, _, _, h, _, _ | .str .., .slz, _, _, h, _, _ | .str .., .slc .., _, _, h, _, _ | .str .., .nilm, _, _, h, _, _ | .str .., .map .., _, _, h, _, _ | .str .., .agg .., _, _, h, _, _ | .str .., .tup .., _, _, h, _, _ | .str .., .fn .., _, _, h, _, _ | .str .., .nilf, _, _, h, _, _ | .str .., .rng .., _, _, h, _, _ | .str .., .top, _, _, h, _, _ => by simp [same] at h
  | .agg .., .int .., _, _, h, _, _ | .agg .., .bool .., _, _, h, _, _ | .agg .., .flt .., _, _, h, _, _ | .agg .., .cplx .., _, _, h, _, _ | .agg .., .nilp, _, _, h, _, _ | .agg .., .ptr .., _, _, h, _, _ | .agg .., .nils, _, _, h, _, _ | .agg .., .slz, _, _, h, _, _ | .agg .., .slc .., _, _, h, _, _ | .agg .., .nilm, _, _, h, _, _ | .agg .., .map .., _, _, h, _, _ | .agg .., .str .., _, _, h, _, _ | .agg .., .tup .., _, _, h, _, _ | .agg .., .fn .., _, _, h, _, _ | .agg .., .nilf, _, _, h, _, _ | .agg .., .rng .., _, _, h, _, _ | .agg .., .top, _, _, h, _, _ => by simp [same] at h
  | .flt .., b, _, _, h, _, _ | .cplx .., b, _, _, h, _, _ | .nilp, b, _, _, h, _, _ | .ptr .., b, _, _, h, _, _ | .nils, b, _, _, h, _, _ | .slz, b, _, _, h, _, _ | .slc .., b, _, _, h, _, _ | .nilm, b, _, _, h, _, _ | .map .., b, _, _, h, _, _ | .tup .., b, _, _, h, _, _ | .fn .., b, _, _, h, _, _ | .nilf, b, _, _, h, _, _ | .rng .., b, _, _, h, _, _ | .sym _, b, _, _, h, _, _ | .top, b, _, _, h, _, _ => by cases b <;> simp [same] at h
theorem sames_val {ρ : Ren a0} : ∀ {a b : List AV} {x y : List Value}, sames a b = true → VRs ρ a x → VRs ρ b y → x = y
  | [], [], _, _, _, hx, hy => by cases hx; cases hy; rfl
  | a :: l, b :: m, _, _, h, hx, hy => by
    cases hx with | cons _ v _ vs h1 h2 =>
    cases hy with | cons _ u _ us h3 h4 =>
    simp only [sames, Bool.and_eq_true] at h
    rw [same_val h.1 h1 h3, sames_val h.2 h2 h4]
  | [], _ :: _, _, _, h, _, _ => by simp [sames] at h
  | _ :: _, [], _, _, h, _, _ => by simp [sames] at h
end

end
end Go.AX

/- Operations: maps, looked up and written. -/
set_option autoImplicit false
set_option linter.unusedSimpArgs false
set_option linter.unusedVariables false
namespace Go.AX
noncomputable section
variable {a0 : Nat → Value}

def flatKey : AV → Bool
  | .agg l => l.all flat
  | a => flat a

theorem bits_scalar {ρ : Ren a0} {a b : AV} {x : Value} (h : same a b = true) (hf : flat a = true) (hx : VR ρ a x) (n : Nat) : Instr.sameBits n x x = true := by
  cases hx with
  | int k m => cases n <;> simp [Instr.sameBits]
  | bool b => cases n <;> simp [Instr.sameBits]
  | str l s hs =>
    have : (s == s) = true := by rw [beq_toListBytes]; simp
    cases n <;> simp [Instr.sameBits, this]
  | _ => first | (cases b <;> simp [same] at h; done) | simp [flat] at hf

theorem bits_list {ρ : Ren a0} : ∀ {l m : List AV} {xs : List Value}, sames l m = true → l.all flat = true → VRs ρ l xs → ∀ n, (xs.zip xs).all (fun (x, y) => Instr.sameBits n x y) = true
  | [], _, _, _, _, h, n => by cases h; rfl
  | a :: l, [], _, h, _, _, _ => by simp [sames] at h
  | a :: l, b :: m, _, h, hf, hx, n => by
    cases hx with | cons _ v _ vs h1 h2 =>
    simp only [sames, Bool.and_eq_true] at h
    simp only [List.all_cons, Bool.and_eq_true] at hf
    simp only [List.zip_cons_cons, List.all_cons, bits_scalar h.1 hf.1 h1 n, Bool.true_and]
    exact bits_list h.2 hf.2 h2 n

theorem bits_same {ρ : Ren a0} {a b : AV} {x : Value} (h : same a b = true) (hf : flatKey a = true) (hx : VR ρ a x) : Instr.sameBits 10000 x x = true := by
  cases a with
  | agg l =>
    cases hx with | agg _ xs hxs =>
    cases b with
    | agg m =>
      simp only [same] at h
      have := bits_list h hf hxs 9999
      simp only [Instr.sameBits, beq_self_eq_true, Bool.true_and]
      exact this
    | _ => simp [same] at h
  | _ => exact bits_scalar h hf hx 10000

section
variable {P : Program} {E : Env} {C : List Nat}

mutual
/-- may it be a key of a map? -/
def ckT (E : Env) : Nat → Nat → AV → R Unit
  | 0, _, _ => .error "ckT"
  | n + 1, t, x => do
    let i ← ti E t
    match i.desc, x with
    | .string, .str _ => .ok ()
    | .int _, .int _ _ => .ok ()
    | .bool, .bool _ => .ok ()
    | .struct fs, .agg xs => ckFs E n fs.toList xs
    | _, _ => .error "ckT"
def ckFs (E : Env) : Nat → List Field → List AV → R Unit
  | _, [], _ => .ok ()
  | 0, _ :: _, _ => .error "ckFs"
  | n + 1, f :: fs, xs => if f.name = "_" then .error "ckFs" else do
    let a ← partA (E := E) f.type xs f.offset
    let _ ← ckT E n f.type a
    ckFs E n fs xs
end

def ckLoop (empty : Bool) (d : Nat) (cs : Array Value) : List Field → Sem Unit
  | [] => pure ()
  | f :: fs => do
    if f.name ≠ "_" then Instr.checkKey empty d f.type (← part f.type cs f.offset)
    ckLoop empty d cs fs

theorem ck_struct (empty : Bool) (d : Nat) {t : Nat} {fs : Array Field} (cs : Array Value) (w : World) (h : P.underlying t = some (.struct fs)) :
    (Instr.checkKey empty (d + 1) t (.agg cs)).run P w = (ckLoop empty d cs fs.toList).run P w := by
  simp only [Instr.checkKey, Sem.run_bind, run_und h, Result.andThen_ok]
  rw [← Array.forIn_toList]
  generalize fs.toList = l
  clear h
  induction l generalizing w with
  | nil => simp [ckLoop]
  | cons f l ih =>
    simp only [List.forIn_cons, ckLoop, Sem.run_bind, Sem.run_ite]
    split
    · generalize (part f.type cs f.offset).run P w = r1
      cases r1 with
      | ok a w1 =>
        simp only [Result.andThen_ok]
        generalize (Instr.checkKey empty d f.type a).run P w1 = r2
        cases r2 with
        | ok b w2 => simp only [Result.andThen_ok, Sem.run_pure]; exact ih w2
        | halt x w2 => simp [Result.andThen]
      | halt x w1 => simp [Result.andThen]
    · simp only [Sem.run_pure, Result.andThen_ok]
      exact ih w

mutual
theorem ckT_ok (hE : TyOk P E) {ρ : Ren a0} {w : World} (empty : Bool) : ∀ (n d t : Nat) (a : AV) (x : Value), n ≤ d → VR ρ a x → ckT E n t a = .ok () → (Instr.checkKey empty d t x).run P w = .ok () w
  | 0, _, _, _, _, _, _, h => by simp [ckT] at h
  | n + 1, 0, _, _, _, hd, _, _ => by omega
  | n + 1, d + 1, t, a, x, hd, hx, h => by
    simp only [ckT, bind_ok] at h
    obtain ⟨i, hi, h⟩ := h
    obtain ⟨inf, h1, h2, h3, h4, h5⟩ := hE.find hi
    split at h
    · next ed => rw [ed] at h2; cases hx; simp [Instr.checkKey, run_und h2]
    · next ed => rw [ed] at h2; cases hx; simp [Instr.checkKey, run_und h2]
    · next ed => rw [ed] at h2; cases hx; simp [Instr.checkKey, run_und h2]
    · next fs xs ed =>
      rw [ed] at h2
      cases hx with | agg _ vs hvs =>
      rw [ck_struct empty d vs.toArray w h2]
      exact ckFs_ok hE empty n d fs.toList xs vs (by omega) hvs h
    · cases h
theorem ckFs_ok (hE : TyOk P E) {ρ : Ren a0} {w : World} (empty : Bool) : ∀ (n d : Nat) (fs : List Field) (xs : List AV) (vs : List Value), n ≤ d → VRs ρ xs vs → ckFs E n fs xs = .ok () → (ckLoop empty d vs.toArray fs).run P w = .ok () w
  | n, d, [], xs, vs, _, _, h => by simp [ckLoop]
  | 0, _, _ :: _, _, _, _, _, h => by simp [ckFs] at h
  | n + 1, 0, _ :: _, _, _, hd, _, _ => by omega
  | n + 1, d + 1, f :: fs, xs, vs, hd, hv, h => by
    simp only [ckFs] at h
    split at h
    · cases h
    · next hne =>
      simp only [bind_ok] at h
      obtain ⟨a, ha, u, hu, h⟩ := h
      obtain ⟨va, g1, g2⟩ := part_ok hE (w := w) hv a ha
      cases u
      have k := ckT_ok hE (w := w) empty n (d + 1) f.type a va (by omega) g2 hu
      have ih := ckFs_ok hE (w := w) empty n (d + 1) fs xs vs (by omega) hv h
      simp only [ckLoop, ne_eq, hne, not_false_eq_true, if_true, Sem.run_bind, g1, Result.andThen_ok, k, ih]
end

/-- the one entry with that key -/
def findA (E : Env) (C : List Nat) (kt : Nat) (k : AV) : List (AV × AV) → Nat → R (Option (Nat × AV))
  | [], _ => .ok none
  | (a, v) :: es, i => do
    let r ← eqT E C 40 kt k a
    let rest ← findA E C kt k es (i + 1)
    bif r then match rest with
      | none => .ok (some (i, v))
      | some _ => .error "findA two"
    else .ok rest

/-- is the key equal? -/
def qOf (P : Program) (w : World) (kt : Nat) (x : Value) (e : MapEntry) : Bool :=
  match (Op.equal kt x e.key).run P w with
  | .ok r _ => r
  | _ => false

def firstIdx (q : MapEntry → Bool) : List MapEntry → Nat → Option (Nat × Value)
  | [], _ => none
  | e :: es, i => if q e then some (i, e.val) else firstIdx q es (i + 1)

theorem findA_ok (hE : TyOk P E) (hC : CmpOk P C) {ρ : Ren a0} {w : World} {kt : Nat} {k : AV} {x : Value} (hx : VR ρ k x) : ∀ (es : List (AV × AV)) (ms : List MapEntry) (i : Nat) (r : Option (Nat × AV)),
    VRs ρ (es.map (·.1)) (ms.map (·.key)) → VRs ρ (es.map (·.2)) (ms.map (·.val)) → findA E C kt k es i = .ok r →
    (∀ e ∈ ms, (Op.equal kt x e.key).run P w = .ok (qOf P w kt x e) w) ∧
    (match r with
      | none => ∀ e ∈ ms, qOf P w kt x e = false
      | some (j, v) => ∃ (l1 l2 : List MapEntry) (e : MapEntry), ms = l1 ++ e :: l2 ∧ j = i + l1.length ∧ qOf P w kt x e = true ∧ VR ρ v e.val ∧ (∀ e' ∈ l1 ++ l2, qOf P w kt x e' = false) ∧
          es[j - i]?.map (·.2) = some v)
  | [], ms, i, r, hk, hv, h => by
    cases ms with
    | nil =>
      simp only [findA] at h
      cases h
      simp
    | cons e ms => cases hk
  | (a, v) :: es, [], i, r, hk, hv, h => by cases hk
  | (a, v) :: es, e :: ms, i, r, hk, hv, h => by
    simp only [List.map_cons] at hk hv
    cases hk with | cons _ _ _ _ k1 k2 =>
    cases hv with | cons _ _ _ _ v1 v2 =>
    simp only [findA, bind_ok] at h
    obtain ⟨q, hq, rest, hrest, h⟩ := h
    obtain ⟨ih1, ih2⟩ := findA_ok hE hC hx es ms (i + 1) rest k2 v2 hrest
    have he := eqT_ok hE hC (w := w) 40 10000 kt k a x e.key q (by omega) hx k1 hq
    have he2 : (Op.equal kt x e.key).run P w = .ok q w := he
    have heq : qOf P w kt x e = q := by unfold qOf; rw [he2]
    refine ⟨fun e' he' => ?_, ?_⟩
    · rcases List.mem_cons.1 he' with rfl | he'
      · rw [heq]; exact he2
      · exact ih1 e' he'
    · cases q with
      | true =>
        simp only [cond_true] at h
        split at h
        · cases h
          simp only at ih2
          exact ⟨[], ms, e, rfl, by simp, heq, v1, by simpa using ih2, by simp⟩
        · cases h
      | false =>
        simp only [cond_false] at h
        cases h
        split at ih2
        · intro e' he'
          rcases List.mem_cons.1 he' with rfl | he'
          · exact heq
          · exact ih2 e' he'
        · next j v' =>
          obtain ⟨l1, l2, e0, g1, g2, g3, g4, g5, g6⟩ := ih2
          refine ⟨e :: l1, l2, e0, by rw [g1]; rfl, by rw [g2, List.length_cons]; omega, g3, g4, ?_, ?_⟩
          · intro e' he'
            simp only [List.cons_append] at he'
            rcases List.mem_cons.1 he' with rfl | he'
            · exact heq
            · exact g5 e' he'
          · have : j - i = (j - (i + 1)) + 1 := by omega
            rw [this, List.getElem?_cons_succ]
            exact g6

theorem asking_ok {w : World} {kt : Nat} {x : Value} : ∀ (ms : List MapEntry) (i : Nat), (∀ e ∈ ms, (Op.equal kt x e.key).run P w = .ok (qOf P w kt x e) w) →
    (Instr.findAsking kt x ms i).run P w = .ok (firstIdx (qOf P w kt x) ms i) w
  | [], i, _ => by simp [Instr.findAsking, firstIdx]
  | e :: ms, i, h => by
    have h1 := h e (List.mem_cons_self ..)
    have ih := asking_ok ms (i + 1) (fun e' he' => h e' (List.mem_cons_of_mem _ he'))
    simp only [Instr.findAsking, Sem.run_bind, h1, Result.andThen_ok, Sem.run_ite, firstIdx, ih, Sem.run_pure]
    split <;> rfl

theorem ok_inj {α : Type} {a b : α} {w : World} (h : Result.ok a w = Result.ok b w) : a = b := by cases h; rfl

theorem sameNow_ok {w : World} {kt : Nat} {d : TypeDesc} {x y : Value} {r r' : Bool} (hu : P.underlying kt = some d) (h : Instr.sameNow d x y = some r) (he : (Op.equal kt x y).run P w = .ok r' w) : r = r' := by
  unfold Instr.sameNow at h
  split at h
  · next k a k' b =>
    split at h
    · next hk =>
      subst hk
      injection h with h
      rw [← h]
      exact ok_inj ((run_equalIn_int w 9999 kt _ _ a b hu).symm.trans he)
    · cases h
  · next a b =>
    injection h with h
    rw [← h, beq_toListBytes]
    exact ok_inj ((run_equalIn_string w 9999 kt a b hu).symm.trans he)
  · next a b =>
    injection h with h
    rw [← h]
    exact ok_inj ((run_equalIn_bool' w 9999 kt a b hu).symm.trans he)
  · cases h

theorem now_ok {w : World} {kt : Nat} {d : TypeDesc} {x : Value} (hu : P.underlying kt = some d) : ∀ (ms : List MapEntry) (i : Nat), (∀ e ∈ ms, (Op.equal kt x e.key).run P w = .ok (qOf P w kt x e) w) →
    Instr.findNow d x ms i = some (firstIdx (qOf P w kt x) ms i) ∨ Instr.findNow d x ms i = none
  | [], i, _ => .inl rfl
  | e :: ms, i, h => by
    have h1 := h e (List.mem_cons_self ..)
    simp only [Instr.findNow, firstIdx]
    cases hs : Instr.sameNow d x e.key with
    | none => right; rfl
    | some r =>
      have := sameNow_ok hu hs h1
      rw [← this]
      cases r with
      | true => left; rfl
      | false => exact now_ok hu ms (i + 1) (fun e' he' => h e' (List.mem_cons_of_mem _ he'))

theorem findKey_ok {w : World} {kt : Nat} {d : TypeDesc} {x : Value} (hu : P.underlying kt = some d) (ms : List MapEntry) (h : ∀ e ∈ ms, (Op.equal kt x e.key).run P w = .ok (qOf P w kt x e) w) :
    (Instr.findKey kt x ms).run P w = .ok (firstIdx (qOf P w kt x) ms 0) w := by
  simp only [Instr.findKey, Sem.run_bind, run_und hu, Result.andThen_ok]
  rcases now_ok hu ms 0 h with h1 | h1
  · rw [h1]; rfl
  · rw [h1]; exact asking_ok ms 0 h

theorem firstIdx_none {q : MapEntry → Bool} : ∀ (ms : List MapEntry) (i : Nat), (∀ e ∈ ms, q e = false) → firstIdx q ms i = none
  | [], _, _ => rfl
  | e :: ms, i, h => by
    simp only [firstIdx, h e (List.mem_cons_self ..), Bool.false_eq_true, if_false]
    exact firstIdx_none ms (i + 1) (fun e' he' => h e' (List.mem_cons_of_mem _ he'))

theorem firstIdx_some {q : MapEntry → Bool} : ∀ (l1 l2 : List MapEntry) (e : MapEntry) (i : Nat), (∀ e ∈ l1, q e = false) → q e = true → firstIdx q (l1 ++ e :: l2) i = some (i + l1.length, e.val)
  | [], l2, e, i, _, h => by simp [firstIdx, h]
  | a :: l1, l2, e, i, h1, h => by
    simp only [List.cons_append, firstIdx, h1 a (List.mem_cons_self ..), Bool.false_eq_true, if_false]
    rw [firstIdx_some l1 l2 e (i + 1) (fun e' he' => h1 e' (List.mem_cons_of_mem _ he')) h]
    simp; omega

/-- the entry in the map's own order -/
theorem perm_find {ms ms' l1 l2 : List MapEntry} {e : MapEntry} {q : MapEntry → Bool} (hp : ms.Perm ms') (h : ms' = l1 ++ e :: l2) (hq : q e = true) (hn : ∀ e' ∈ l1 ++ l2, q e' = false) :
    ∃ a b, ms = a ++ e :: b ∧ (∀ e' ∈ a ++ b, q e' = false) ∧ (a ++ b).Perm (l1 ++ l2) := by
  have hm : e ∈ ms := hp.symm.subset (by rw [h]; simp)
  obtain ⟨a, b, hab⟩ := List.append_of_mem hm
  have hpp : (a ++ b).Perm (l1 ++ l2) := by
    have h1 : (a ++ e :: b).Perm (l1 ++ e :: l2) := by rw [← hab, ← h]; exact hp
    exact ((List.perm_middle.symm.trans h1).trans List.perm_middle).cons_inv
  exact ⟨a, b, hab, fun e' he' => hn e' (hpp.subset he'), hpp⟩

end
end
end Go.AX

/- Operations: maps. -/
set_option autoImplicit false
set_option linter.unusedSimpArgs false
set_option linter.unusedVariables false
namespace Go.AX
noncomputable section
variable {a0 : Nat → Value}

/-- the order in which an abstract map keeps its keys (any order would do) -/
def keyLe : AV → AV → Bool
  | .int _ a, .int _ b => decide (a ≤ b)
  | .str a, .str b => lless a b || leq a b
  | .agg (.str a :: .str b :: _), .agg (.str c :: .str d :: _) => lless a c || (leq a c && (lless b d || leq b d))
  | _, _ => true

def insK (k v : AV) : List (AV × AV) → List (AV × AV)
  | [] => [(k, v)]
  | (a, x) :: l => bif keyLe k a then (k, v) :: (a, x) :: l else (a, x) :: insK k v l

theorem insK_split (k v : AV) : ∀ (l : List (AV × AV)), ∃ a b, l = a ++ b ∧ insK k v l = a ++ (k, v) :: b
  | [] => ⟨[], [], rfl, rfl⟩
  | (c, x) :: l => by
    simp only [insK]
    cases keyLe k c with
    | true => exact ⟨[], (c, x) :: l, rfl, rfl⟩
    | false =>
      obtain ⟨a, b, h1, h2⟩ := insK_split k v l
      exact ⟨(c, x) :: a, b, by rw [h1]; rfl, by simp only [cond_false]; rw [h2]; rfl⟩

theorem VRs.split {ρ : Ren a0} {a b : List AV} {vs : List Value} (h : VRs ρ (a ++ b) vs) : ∃ x y, vs = x ++ y ∧ VRs ρ a x ∧ VRs ρ b y ∧ x.length = a.length :=
  ⟨vs.take a.length, vs.drop a.length, (List.take_append_drop _ _).symm, by simpa using h.take a.length, by simpa using h.drop a.length, by
    have := h.length
    simp only [List.length_append] at this
    rw [List.length_take]; omega⟩

theorem entries_split {ρ : Ren a0} {a b : List (AV × AV)} {ms : List MapEntry} (hk : VRs ρ ((a ++ b).map (·.1)) (ms.map (·.key))) (hv : VRs ρ ((a ++ b).map (·.2)) (ms.map (·.val))) :
    ∃ x y, ms = x ++ y ∧ VRs ρ (a.map (·.1)) (x.map (·.key)) ∧ VRs ρ (b.map (·.1)) (y.map (·.key)) ∧ VRs ρ (a.map (·.2)) (x.map (·.val)) ∧ VRs ρ (b.map (·.2)) (y.map (·.val)) ∧ x.length = a.length := by
  have hl := hk.length
  simp only [List.length_map, List.length_append] at hl
  refine ⟨ms.take a.length, ms.drop a.length, (List.take_append_drop _ _).symm, ?_, ?_, ?_, ?_, by rw [List.length_take]; omega⟩
  · have := hk.take a.length
    rw [← List.map_take, ← List.map_take, List.take_left] at this
    exact this
  · have := hk.drop a.length
    rw [← List.map_drop, ← List.map_drop, List.drop_left] at this
    exact this
  · have := hv.take a.length
    rw [← List.map_take, ← List.map_take, List.take_left] at this
    exact this
  · have := hv.drop a.length
    rw [← List.map_drop, ← List.map_drop, List.drop_left] at this
    exact this

section
variable {P : Program} {E : Env} {C : List Nat}

theorem map_of {ρ : Ren a0} {hp : Heap} {w : World} (h : WR ρ hp w) {b : Nat} {es : List (AV × AV)} {ck ver : Nat} (hb : hp.get b = some (.map es ck ver)) :
    ∃ x ms ms', ρ b = some x ∧ x < w.heap.size ∧ w.heap[x]? = some (.map ms ck) ∧ ms.toList.Perm ms' ∧ VRs ρ (es.map (·.1)) (ms'.map (·.key)) ∧ VRs ρ (es.map (·.2)) (ms'.map (·.val)) ∧
      (ms'.map (·.born)).Nodup ∧ (∀ e ∈ ms', e.born < ck) := by
  obtain ⟨x, ob, h1, h2, h3, _⟩ := h.obj b _ hb
  cases h3 with
  | map _ _ _ ms ms' a1 a2 a3 a4 a5 => exact ⟨x, ms, ms', h1, h.lt _ _ h1, h2, a1, a2, a3, a4, a5⟩

theorem run_getObj_map {w : World} {x : Nat} {ms : Array MapEntry} {ck : Nat} (h : w.heap[x]? = some (.map ms ck)) : (getObj x).run P w = .ok (.map ms ck) w := by
  simp [getObj, Sem.run, h]

theorem run_setObj_map {w : World} {x : Nat} {ms : Array MapEntry} {ck : Nat} (h : w.heap[x]? = some (.map ms ck)) (o : Obj) : (setObj x o).run P w = .ok () { w with heap := w.heap.setIfInBounds x o } := by
  simp [setObj, Sem.run, h]

-- makeMap
theorem makeMap_ok {ρ : Ren a0} {w : World} {s : H} (hw : WR ρ s.hp w) (t : Nat) : Do P ρ w s (Instr.makeMap t none) (do
    let (b, s) ← alloc s (.map [] 0 0)
    .ok (.map b, s)) := by
  intro v s' h hf
  simp only [bind_ok] at h
  obtain ⟨⟨b, s1⟩, ha, h⟩ := h
  cases h
  obtain ⟨ρ', q1, q2, q3, q4⟩ := new_obj (w := w) (w' := w) ⟨rfl, rfl, rfl, rfl⟩ hw ha hf (New.mk' w (.map #[] 0)) (fun ρ' hl => .map [] 0 0 #[] [] (List.Perm.refl _) .nil .nil (by simp) (by simp)) (fun _ _ _ e => by cases e) (n := 0) trivial
  exact ⟨_, _, ρ', by simp [Instr.makeMap], .map b _ q1, q3⟩

-- lookup
def xEnts (s : H) (m : AV) : R (List (AV × AV)) :=
  match m with
  | .nilm => .ok []
  | .map b => match s.hp.get b with
    | some (.map es _ _) => .ok es
    | _ => .error "no map"
  | _ => .error "no map"

/-- the entries of a map -/
def Ents (w : World) (vm : Value) (ms : Array MapEntry) : Prop := (vm = .map none ∧ ms = #[]) ∨ (∃ x ck, vm = .map (some x) ∧ w.heap[x]? = some (.map ms ck))

theorem xEnts_ok {ρ : Ren a0} {s : H} {w : World} (hw : WR ρ s.hp w) {m : AV} {vm : Value} {es : List (AV × AV)} (h : xEnts s m = .ok es) (hm : VR ρ m vm) :
    ∃ ms ms', Ents w vm ms ∧ ms.toList.Perm ms' ∧ VRs ρ (es.map (·.1)) (ms'.map (·.key)) ∧ VRs ρ (es.map (·.2)) (ms'.map (·.val)) := by
  cases m with
  | nilm =>
    simp only [xEnts] at h
    cases h; cases hm
    exact ⟨#[], [], .inl ⟨rfl, rfl⟩, List.Perm.refl _, .nil, .nil⟩
  | map b =>
    simp only [xEnts] at h
    split at h
    · next es' ck ver hget =>
      cases h
      obtain ⟨x, ms, ms', m1, m2, m3, m4, m5, m6, m7, m8⟩ := map_of hw hget
      cases hm with
      | map _ y hy =>
      rw [hy] at m1; cases m1
      exact ⟨ms, ms', .inr ⟨_, _, rfl, m3⟩, m4, m5, m6⟩
    · cases h
  | _ => simp [xEnts] at h

def xLookup (E : Env) (C : List Nat) (s : H) (t : Nat) (m k : AV) (ok : Bool) : R AV := do
  let i ← ti E t
  match i.desc with
  | .map kt et => do
    let _ ← ckT E 20 kt k
    let es ← xEnts s m
    let f ← findA E C kt k es 0
    match f with
    | some (_, v) => .ok (bif ok then .tup [v, .bool true] else v)
    | none => do
      let j ← ti E et
      match j.zv with
      | some z => .ok (bif ok then .tup [z, .bool false] else z)
      | none => .error "lookup zero"
  | _ => .error "lookup type"

theorem ck_desc (hE : TyOk P E) {n kt : Nat} {k : AV} (h : ckT E n kt k = .ok ()) : ∃ d, P.underlying kt = some d := by
  cases n with
  | zero => simp [ckT] at h
  | succ n =>
    simp only [ckT, bind_ok] at h
    obtain ⟨q, hq, _⟩ := h
    obtain ⟨inf', k1, k2, k3, k4, k5⟩ := hE.find hq
    exact ⟨_, k2⟩

/-- what a search for a key comes to -/
theorem find_ok (hE : TyOk P E) (hC : CmpOk P C) {ρ : Ren a0} {w : World} {kt : Nat} {k : AV} {vk : Value} {es : List (AV × AV)} {ms : Array MapEntry} {ms' : List MapEntry} {f : Option (Nat × AV)} (hk : VR ρ k vk) (hd : ∃ d, P.underlying kt = some d)
    (m4 : ms.toList.Perm ms') (m5 : VRs ρ (es.map (·.1)) (ms'.map (·.key))) (m6 : VRs ρ (es.map (·.2)) (ms'.map (·.val))) (hf : findA E C kt k es 0 = .ok f) :
    ∃ r, (Instr.findKey kt vk ms.toList).run P w = .ok r w ∧ (match f with
      | none => r = none
      | some (j, a) => ∃ (l1 l2 a' b' : List MapEntry) (e : MapEntry), ms' = l1 ++ e :: l2 ∧ j = l1.length ∧ ms.toList = a' ++ e :: b' ∧ (a' ++ b').Perm (l1 ++ l2) ∧ r = some (a'.length, e.val) ∧ VR ρ a e.val ∧ es[j]?.map (·.2) = some a) := by
  obtain ⟨d, hd⟩ := hd
  obtain ⟨g1, g2⟩ := findA_ok hE hC (w := w) hk es ms' 0 f m5 m6 hf
  have hall : ∀ e ∈ ms.toList, (Op.equal kt vk e.key).run P w = .ok (qOf P w kt vk e) w := fun e he => g1 e (m4.subset he)
  refine ⟨_, findKey_ok hd ms.toList hall, ?_⟩
  split at g2
  · exact firstIdx_none _ _ (fun e he => g2 e (m4.subset he))
  · next j a =>
    obtain ⟨l1, l2, e, q1, q2, q3, q4, q5, q6⟩ := g2
    obtain ⟨a', b', p1, p2, p3⟩ := perm_find m4 q1 q3 q5
    rw [Nat.zero_add] at q2
    refine ⟨l1, l2, a', b', e, q1, q2, p1, p3, ?_, q4, by simpa using q6⟩
    rw [p1]
    have := firstIdx_some a' b' e 0 (fun e' he' => p2 e' (List.mem_append_left _ he')) q3
    rw [this, Nat.zero_add]

theorem lookup_run {w : World} {t kt et : Nat} {vm vk : Value} {ms : Array MapEntry} {r : Option (Nat × Value)} (ok : Bool) (h2 : P.underlying t = some (.map kt et)) (he : Ents w vm ms)
    (hck : ∀ b, (Instr.checkKey b 10000 kt vk).run P w = .ok () w) (hr : (Instr.findKey kt vk ms.toList).run P w = .ok r w) :
    (Instr.lookup t vm vk ok).run P w = (match r with
      | some (_, v) => (.ok (if ok = true then .tuple #[v, .bool true] else v) w : Result Value)
      | none => ((zeroValue et).run P w).andThen fun z w' => .ok (if ok = true then .tuple #[z, .bool false] else z) w') := by
  rcases he with ⟨rfl, rfl⟩ | ⟨x, ck, rfl, hx⟩
  · simp only [Instr.lookup, Sem.run_bind, run_und h2, Result.andThen_ok, Sem.run_pure, hck, hr]
    cases r with
    | none => simp only [Sem.run_bind, Sem.run_pure]; cases (zeroValue et).run P w <;> simp [Result.andThen]
    | some jx => obtain ⟨j, x⟩ := jx; simp
  · simp only [Instr.lookup, Sem.run_bind, run_und h2, Result.andThen_ok, run_getObj_map hx, Sem.run_pure, hck, hr]
    cases r with
    | none => simp only [Sem.run_bind, Sem.run_pure]; cases (zeroValue et).run P w <;> simp [Result.andThen]
    | some jx => obtain ⟨j, x⟩ := jx; simp

theorem xLookup_ok (hE : TyOk P E) (hC : CmpOk P C) {ρ : Ren a0} {w : World} {s : H} (hw : WR ρ s.hp w) {t : Nat} {m k : AV} {vm vk : Value} (hm : VR ρ m vm) (hk : VR ρ k vk) (ok : Bool) :
    Pu P ρ w (Instr.lookup t vm vk ok) (xLookup E C s t m k ok) := by
  intro v h
  simp only [xLookup, bind_ok] at h
  obtain ⟨i, hi, h⟩ := h
  obtain ⟨inf, h1, h2, h3, h4, h5⟩ := hE.find hi
  split at h
  case h_2 => cases h
  next kt et ed =>
  rw [ed] at h2
  simp only [bind_ok] at h
  obtain ⟨u, hu, es, hes, f, hf, h⟩ := h
  cases u
  obtain ⟨ms, ms', e1, e2, e3, e4⟩ := xEnts_ok hw hes hm
  obtain ⟨r, r1, r2⟩ := find_ok hE hC (w := w) hk (ck_desc hE hu) e2 e3 e4 hf
  rw [lookup_run ok h2 e1 (fun b => ckT_ok hE (w := w) b 20 10000 kt k vk (by omega) hk hu) r1]
  cases f with
  | some ja =>
    obtain ⟨j, a⟩ := ja
    simp only at r2 h
    obtain ⟨l1, l2, a', b', e, _, _, _, _, rfl, hx, _⟩ := r2
    cases h
    cases ok with
    | true => exact ⟨_, rfl, .tup [a, .bool true] [e.val, .bool true] (.cons _ _ _ _ hx (.cons _ _ _ _ (.bool _) .nil))⟩
    | false => exact ⟨_, rfl, hx⟩
  | none =>
    simp only at r2 h
    subst r2
    simp only [bind_ok] at h
    obtain ⟨j, hj, h⟩ := h
    split at h
    · next z hz =>
      cases h
      obtain ⟨inf', zz, q1, q2, q3⟩ := hE.zv hj hz
      simp only [run_zeroValue q1 q2, Result.andThen_ok]
      cases ok with
      | true => exact ⟨_, rfl, .tup [z, .bool false] [zz, .bool false] (.cons _ _ _ _ (q3 ρ) (.cons _ _ _ _ (.bool _) .nil))⟩
      | false => exact ⟨_, rfl, q3 ρ⟩
    · cases h

end
end
end Go.AX

/- Operations: maps that are written. -/
set_option autoImplicit false
set_option linter.unusedSimpArgs false
set_option linter.unusedVariables false
namespace Go.AX
noncomputable section
variable {a0 : Nat → Value}

theorem VRs.set {ρ : Ren a0} {a : AV} {x : Value} (h : VR ρ a x) : ∀ {l : List AV} {vs : List Value} (j : Nat), VRs ρ l vs → VRs ρ (l.set j a) (vs.set j x)
  | [], _, j, hl => by cases hl; exact .nil
  | _ :: l, _, 0, hl => by cases hl with | cons _ _ _ _ h1 h2 => exact .cons _ _ _ _ h h2
  | _ :: l, _, j + 1, hl => by cases hl with | cons _ _ _ _ h1 h2 => exact .cons _ _ _ _ h1 (VRs.set h j h2)

theorem VRs.append' {ρ : Ren a0} {l l' : List AV} {vs vs' : List Value} {a : AV} {x : Value} (h : VRs ρ l vs) (ha : VR ρ a x) (h' : VRs ρ l' vs') : VRs ρ (l ++ a :: l') (vs ++ x :: vs') := h.append (.cons _ _ _ _ ha h')

theorem modify_mid {α : Type} (f : α → α) : ∀ (a b : List α) (e : α), (a ++ e :: b).modify a.length f = a ++ f e :: b
  | [], b, e => by simp
  | x :: a, b, e => by
    have := modify_mid f a b e
    simpa using this

theorem set_mid {α β : Type} (g : α → β) (l1 l2 : List α) (e e2 : α) : ((l1 ++ e :: l2).map g).set l1.length (g e2) = (l1 ++ e2 :: l2).map g := by
  simp [List.set_append]

theorem set_map {α β : Type} (g : α → β) (l : List α) (j : Nat) (x : α) : (l.set j x).map g = (l.map g).set j (g x) := by
  simp [List.map_set]

section
variable {P : Program} {E : Env} {C : List Nat}

def xMapUpd (E : Env) (C : List Nat) (s : H) (t : Nat) (m k v : AV) : R H := do
  let i ← ti E t
  match i.desc, m with
  | .map kt _, .map b => do
    let _ ← ckT E 20 kt k
    match s.hp.get b with
    | some (.map es ck ver) => do
      let f ← findA E C kt k es 0
      match f with
      | some (j, _) => match es[j]? with
        | some (a, _) => bif same k a && flatKey k then .ok (setO s b (.map (es.set j (k, v)) ck (ver + 1))) else .error "mapUpd key"
        | none => .error "mapUpd"
      | none => .ok (setO s b (.map (insK k v es) (ck + 1) (ver + 1)))
    | _ => .error "mapUpd no map"
  | _, _ => .error "mapUpd type"

theorem xMapUpd_ok (hE : TyOk P E) (hC : CmpOk P C) {ρ : Ren a0} {w : World} {s s' : H} (hw : WR ρ s.hp w) {t : Nat} {m k v : AV} {vm vk vv : Value} (hm : VR ρ m vm) (hk : VR ρ k vk) (hv : VR ρ v vv) (h : xMapUpd E C s t m k v = .ok s') :
    ∃ w', (Instr.mapUpdate t vm vk vv).run P w = .ok () w' ∧ On ρ w s ρ w' s' := by
  simp only [xMapUpd, bind_ok] at h
  obtain ⟨i, hi, h⟩ := h
  obtain ⟨inf, h1, h2, h3, h4, h5⟩ := hE.find hi
  split at h
  case h_2 => cases h
  next kt et b ed =>
  rw [ed] at h2
  simp only [bind_ok] at h
  obtain ⟨u, hu, h⟩ := h
  cases u
  split at h
  case h_2 => cases h
  next es ck ver hget =>
  simp only [bind_ok] at h
  obtain ⟨f, hf, h⟩ := h
  obtain ⟨x, ms, ms', m1, m2, m3, m4, m5, m6, m7, m8⟩ := map_of hw hget
  cases hm with
  | map _ y hy =>
  rw [hy] at m1; cases m1
  obtain ⟨r, r1, r2⟩ := find_ok hE hC (w := w) hk (ck_desc hE hu) m4 m5 m6 hf
  have hck := ckT_ok hE (w := w) false 20 10000 kt k vk (by omega) hk hu
  cases f with
  | some ja =>
    obtain ⟨j, a⟩ := ja
    simp only at r2 h
    obtain ⟨l1, l2, a', b', e, q1, q2, q3, q4, rfl, hx, q5⟩ := r2
    split at h
    case h_2 => cases h
    next ka va hesj =>
    replace h := bif_ok.1 h
    obtain ⟨hb, h⟩ := h
    simp only [Bool.and_eq_true] at hb
    cases h
    -- the key that stands there is the key
    have hke : VR ρ ka e.key := by
      have g1 : (es.map (·.1))[j]? = some ka := by rw [List.getElem?_map, hesj]; rfl
      obtain ⟨v1, v2, v3⟩ := m5.get g1
      have : (ms'.map (·.key))[j]? = some e.key := by rw [q1, q2]; simp
      rw [this] at v2; cases v2
      exact v3
    have hkk : vk = e.key := same_val hb.1 hk hke
    have hbits : Instr.sameBits 10000 e.key vk = true := by
      rw [← hkk]; exact bits_same hb.1 hb.2 hk
    let e2 : MapEntry := { e with key := vk, val := vv }
    have hmod : ms.modify a'.length (fun e => { e with key := vk, val := vv }) = (a' ++ e2 :: b').toArray := by
      apply Array.ext'
      rw [Array.toList_modify, q3, modify_mid]
    have hidx : ms[a'.length]? = some e := by
      rw [← Array.getElem?_toList, q3]; simp
    refine ⟨{ w with heap := w.heap.setIfInBounds x (.map (ms.modify a'.length (fun e => { e with key := vk, val := vv })) ck) }, ?_, ?_⟩
    · simp only [Instr.mapUpdate, Sem.run_bind, run_und h2, Result.andThen_ok, run_getObj_map m3, hck, r1, hidx, Option.map_some, Option.getD_some, Instr.keyThatStays, hbits, if_true, Sem.run_pure, run_setObj_map m3]
    · rw [hmod]
      have hu' := Upd.mk' w x (.map (a' ++ e2 :: b').toArray ck) m2
      have hborn : (l1 ++ e2 :: l2).map (·.born) = ms'.map (·.born) := by rw [q1]; simp [e2]
      obtain ⟨g1, g2⟩ := hw.upd hget hy hu' (o := .map (es.set j (k, v)) ck (ver + 1))
        (.map _ _ _ _ (l1 ++ e2 :: l2) (by
            show (a' ++ e2 :: b').Perm (l1 ++ e2 :: l2)
            exact (List.perm_middle.trans (q4.cons e2)).trans List.perm_middle.symm)
          (by rw [set_map]; have := m5.set (j := j) hk; rw [q1, q2] at this; rw [q2, ← set_mid (·.key) l1 l2 e e2]; exact this)
          (by rw [set_map]; have := m6.set (j := j) hv; rw [q1, q2] at this; rw [q2, ← set_mid (·.val) l1 l2 e e2]; exact this)
          (by rw [hborn]; exact m7)
          (by
            intro e' he'
            have : e'.born ∈ (l1 ++ e2 :: l2).map (·.born) := List.mem_map.2 ⟨e', he', rfl⟩
            rw [hborn] at this
            obtain ⟨e'', h1, h2⟩ := List.mem_map.1 this
            rw [← h2]; exact m8 e'' h1)) trivial
        (fun es2 ck2 v2 e => by cases e; exact ⟨_, _, _, rfl, Nat.lt_succ_self _⟩) (fun _ _ _ e => by cases e)
      exact ⟨g1, g2, Nat.le_refl _, fun _ _ => rfl⟩
  | none =>
    simp only at r2 h
    subst r2
    cases h
    let e2 : MapEntry := { key := vk, val := vv, born := ck }
    obtain ⟨A, B, hAB, hins⟩ := insK_split k v es
    have m5' := m5
    have m6' := m6
    rw [hAB] at m5' m6'
    obtain ⟨X, Y, hXY, k1, k2, k3, k4, k5⟩ := entries_split m5' m6'
    refine ⟨{ w with heap := w.heap.setIfInBounds x (.map (ms.push e2) (ck + 1)) }, ?_, ?_⟩
    · simp only [Instr.mapUpdate, Sem.run_bind, run_und h2, Result.andThen_ok, run_getObj_map m3, hck, r1, run_setObj_map m3]
      rfl
    · have hu' := Upd.mk' w x (.map (ms.push e2) (ck + 1)) m2
      obtain ⟨g1, g2⟩ := hw.upd hget hy hu' (o := .map (insK k v es) (ck + 1) (ver + 1))
        (.map _ _ _ _ (X ++ e2 :: Y) (by
            rw [Array.toList_push]
            refine (List.perm_append_singleton e2 ms.toList).trans ?_
            refine (m4.cons e2).trans ?_
            rw [hXY]
            exact List.perm_middle.symm)
          (by rw [hins, List.map_append, List.map_cons, List.map_append, List.map_cons]; exact VRs.append' k1 hk k2)
          (by rw [hins, List.map_append, List.map_cons, List.map_append, List.map_cons]; exact VRs.append' k3 hv k4)
          (by
            have hn : (ck :: ms'.map (·.born)).Nodup := List.nodup_cons.2 ⟨fun hc => by
              obtain ⟨e', g1, g2⟩ := List.mem_map.1 hc
              have := m8 e' g1
              omega, m7⟩
            have hp : (ck :: ms'.map (·.born)).Perm ((X ++ e2 :: Y).map (·.born)) := by
              rw [hXY, List.map_append, List.map_append, List.map_cons]
              exact List.perm_middle.symm
            exact hp.nodup_iff.1 hn)
          (by
            intro e' he'
            rcases List.mem_append.1 he' with h | h
            · have := m8 e' (by rw [hXY]; exact List.mem_append_left _ h); omega
            · rcases List.mem_cons.1 h with rfl | h
              · exact Nat.lt_succ_self _
              · have := m8 e' (by rw [hXY]; exact List.mem_append_right _ h); omega)) trivial
        (fun es2 ck2 v2 e => by cases e; exact ⟨_, _, _, rfl, Nat.lt_succ_self _⟩) (fun _ _ _ e => by cases e)
      exact ⟨g1, g2, Nat.le_refl _, fun _ _ => rfl⟩

end
end
end Go.AX

/- Operations: delete, range, next, entry. -/
set_option autoImplicit false
set_option linter.unusedSimpArgs false
set_option linter.unusedVariables false
namespace Go.AX
noncomputable section
variable {a0 : Nat → Value}

theorem erase_mid {α : Type} : ∀ (a b : List α) (e : α), (a ++ e :: b).eraseIdx a.length = a ++ b
  | [], b, e => by simp
  | x :: a, b, e => by
    have := erase_mid a b e
    simpa using this

theorem map_erase {α β : Type} (g : α → β) : ∀ (l : List α) (j : Nat), (l.eraseIdx j).map g = (l.map g).eraseIdx j
  | [], j => by simp
  | a :: l, 0 => by simp
  | a :: l, j + 1 => by simp [map_erase g l j]

theorem VRs.erase {ρ : Ren a0} : ∀ {l : List AV} {vs : List Value} (j : Nat), VRs ρ l vs → VRs ρ (l.eraseIdx j) (vs.eraseIdx j)
  | [], _, j, hl => by cases hl; exact .nil
  | _ :: l, _, 0, hl => by cases hl with | cons _ _ _ _ h1 h2 => exact h2
  | _ :: l, _, j + 1, hl => by cases hl with | cons _ _ _ _ h1 h2 => exact .cons _ _ _ _ h1 (VRs.erase j h2)

section
variable {P : Program} {E : Env} {C : List Nat}

def xDelete (E : Env) (C : List Nat) (s : H) (t : Nat) (m k : AV) : R H := do
  let i ← ti E t
  match i.desc, m with
  | .map kt _, .map b => do
    let _ ← ckT E 20 kt k
    match s.hp.get b with
    | some (.map es ck ver) => do
      let f ← findA E C kt k es 0
      match f with
      | some (j, _) => .ok (setO s b (.map (es.eraseIdx j) ck (ver + 1)))
      | none => .ok (setO s b (.map es ck (ver + 1)))
    | _ => .error "delete no map"
  | _, _ => .error "delete type"

theorem xDelete_ok (hE : TyOk P E) (hC : CmpOk P C) {ρ : Ren a0} {w : World} {s s' : H} (hw : WR ρ s.hp w) {t ty : Nat} {m k : AV} {vm vk : Value} (hm : VR ρ m vm) (hk : VR ρ k vk) (h : xDelete E C s t m k = .ok s') (ats : Array TypeId) (ha : ats[0]? = some t) :
    ∃ w', (Builtin.delete_ ats ty #[vm, vk]).run P w = .ok (.tuple #[]) w' ∧ On ρ w s ρ w' s' := by
  simp only [xDelete, bind_ok] at h
  obtain ⟨i, hi, h⟩ := h
  obtain ⟨inf, h1, h2, h3, h4, h5⟩ := hE.find hi
  split at h
  case h_2 => cases h
  next kt et b ed =>
  rw [ed] at h2
  simp only [bind_ok] at h
  obtain ⟨u, hu, h⟩ := h
  cases u
  split at h
  case h_2 => cases h
  next es ck ver hget =>
  simp only [bind_ok] at h
  obtain ⟨f, hf, h⟩ := h
  obtain ⟨x, ms, ms', m1, m2, m3, m4, m5, m6, m7, m8⟩ := map_of hw hget
  cases hm with
  | map _ y hy =>
  rw [hy] at m1; cases m1
  obtain ⟨r, r1, r2⟩ := find_ok hE hC (w := w) hk (ck_desc hE hu) m4 m5 m6 hf
  have hck := ckT_ok hE (w := w) ms.isEmpty 20 10000 kt k vk (by omega) hk hu
  cases f with
  | some ja =>
    obtain ⟨j, a⟩ := ja
    simp only at r2 h
    obtain ⟨l1, l2, a', b', e, q1, q2, q3, q4, rfl, hx, q5⟩ := r2
    cases h
    have her : ms.eraseIdxIfInBounds a'.length = (a' ++ b').toArray := by
      apply Array.ext'
      have hlt : a'.length < ms.size := by rw [← Array.length_toList, q3]; simp
      rw [Array.eraseIdxIfInBounds_eq, dif_pos hlt, Array.toList_eraseIdx, q3, erase_mid]
    refine ⟨{ w with heap := w.heap.setIfInBounds x (.map (ms.eraseIdxIfInBounds a'.length) ck) }, ?_, ?_⟩
    · unfold Builtin.delete_
      simp only [ha, List.getElem?_toArray, List.getElem?_cons_zero, List.getElem?_cons_succ, Sem.run_bind, run_und h2, Result.andThen_ok, run_getObj_map m3, hck, r1, run_setObj_map m3, Sem.run_pure]
    · rw [her]
      have hu' := Upd.mk' w x (.map (a' ++ b').toArray ck) m2
      have e1 : (ms'.map (·.key)).eraseIdx j = (l1 ++ l2).map (·.key) := by rw [q1, q2, List.map_append, List.map_cons, ← List.length_map (f := (·.key)) (as := l1), erase_mid, List.map_append]
      have e2 : (ms'.map (·.val)).eraseIdx j = (l1 ++ l2).map (·.val) := by rw [q1, q2, List.map_append, List.map_cons, ← List.length_map (f := (·.val)) (as := l1), erase_mid, List.map_append]
      obtain ⟨g1, g2⟩ := hw.upd hget hy hu' (o := .map (es.eraseIdx j) ck (ver + 1))
        (.map _ _ _ _ (l1 ++ l2) q4
          (by rw [← e1, map_erase]; exact m5.erase j)
          (by rw [← e2, map_erase]; exact m6.erase j)
          (by
            rw [q1, List.map_append, List.map_cons] at m7
            rw [List.map_append]
            exact (List.nodup_cons.1 (List.perm_middle.nodup_iff.1 m7)).2)
          (by
            intro e' he'
            refine m8 e' ?_
            rw [q1]
            rcases List.mem_append.1 he' with h | h
            · exact List.mem_append_left _ h
            · exact List.mem_append_right _ (List.mem_cons_of_mem _ h))) trivial
        (fun es2 ck2 v2 e => by cases e; exact ⟨_, _, _, rfl, Nat.lt_succ_self _⟩) (fun _ _ _ e => by cases e)
      exact ⟨g1, g2, Nat.le_refl _, fun _ _ => rfl⟩
  | none =>
    simp only at r2 h
    subst r2
    cases h
    refine ⟨{ w with heap := w.heap.setIfInBounds x (.map ms ck) }, ?_, ?_⟩
    · unfold Builtin.delete_
      simp only [ha, List.getElem?_toArray, List.getElem?_cons_zero, List.getElem?_cons_succ, Sem.run_bind, run_und h2, Result.andThen_ok, run_getObj_map m3, hck, r1, run_setObj_map m3, Sem.run_pure]
    · have hu' := Upd.mk' w x (.map ms ck) m2
      obtain ⟨g1, g2⟩ := hw.upd hget hy hu' (o := .map es ck (ver + 1)) (.map _ _ _ _ ms' m4 m5 m6 m7 m8) trivial
        (fun es2 ck2 v2 e => by cases e; exact ⟨_, _, _, rfl, Nat.lt_succ_self _⟩) (fun _ _ _ e => by cases e)
      exact ⟨g1, g2, Nat.le_refl _, fun _ _ => rfl⟩

-- range
def xRange (E : Env) (s : H) (t : Nat) (x : AV) : R (AV × H) := do
  let i ← ti E t
  match i.desc, x with
  | .string, .str l => do
    let (b, s) ← alloc s (.siter l 0)
    .ok (.ptr b 0, s)
  | .map _ _, .nilm => do
    let (b, s) ← alloc s .iterNil
    .ok (.ptr b 0, s)
  | .map _ _, .map m => match s.hp.get m with
    | some (.map _ _ ver) => do
      let (b, s) ← alloc s (.iter m ver [])
      .ok (.ptr b 0, s)
    | _ => .error "range no map"
  | _, _ => .error "range"

theorem xRange_ok (hE : TyOk P E) {ρ : Ren a0} {w : World} {s : H} (hw : WR ρ s.hp w) {t : Nat} {a : AV} {x : Value} (hx : VR ρ a x) : Do P ρ w s (Instr.range t x) (xRange E s t a) := by
  intro v s' h hf
  simp only [xRange, bind_ok] at h
  obtain ⟨i, hi, h⟩ := h
  obtain ⟨inf, h1, h2, h3, h4, h5⟩ := hE.find hi
  split at h
  · next l ed =>
    rw [ed] at h2
    simp only [bind_ok] at h
    obtain ⟨⟨b, s1⟩, ha, h⟩ := h
    cases h
    cases hx with | str _ t ht =>
    obtain ⟨ρ', q1, q2, q3, q4⟩ := new_obj (w := w) (w' := w) ⟨rfl, rfl, rfl, rfl⟩ hw ha hf (New.mk' w (.stringIter t 0)) (fun ρ' hl => .siter l t 0 ht) (fun _ _ _ e => by cases e) (n := 0) trivial
    exact ⟨_, _, ρ', by simp [Instr.range, run_und h2], .ptr b 0 _ q1, q3⟩
  · next k e ed =>
    rw [ed] at h2
    simp only [bind_ok] at h
    obtain ⟨⟨b, s1⟩, ha, h⟩ := h
    cases h
    cases hx
    obtain ⟨ρ', q1, q2, q3, q4⟩ := new_obj (w := w) (w' := w) ⟨rfl, rfl, rfl, rfl⟩ hw ha hf (New.mk' w (.mapIter none 0 #[] 0)) (fun ρ' hl => .iterNil) (fun _ _ _ e => by cases e) (n := 0) trivial
    exact ⟨_, _, ρ', by simp [Instr.range, run_und h2], .ptr b 0 _ q1, q3⟩
  · next k e m ed =>
    rw [ed] at h2
    split at h
    · next es ck ver hget =>
      simp only [bind_ok] at h
      obtain ⟨⟨b, s1⟩, ha, h⟩ := h
      cases h
      obtain ⟨x, ms, ms', m1, m2, m3, m4, m5, m6, m7, m8⟩ := map_of hw hget
      cases hx with
      | map _ y hy =>
      rw [hy] at m1; cases m1
      have hn := New.mk' w (.mapIter (some x) ck #[] ck)
      have hbnd : b = s.nx := by
        unfold alloc at ha
        replace ha := bif_ok.1 ha
        obtain ⟨_, ha⟩ := ha
        cases ha
        rfl
      obtain ⟨_, q1, q3⟩ := alloc_on hw ha hf hn (n := 0) (fun ρ' hl => .iter m ver [] x ck ck #[] (hl.to _ _ hy)) trivial (fun m' v' l' e es' ck' v'' hm' => by
        cases e
        rw [hget] at hm'
        cases hm'
        refine ⟨Nat.le_refl _, fun _ => ?_⟩
        have hfree : ρ s.nx = none := hf s.nx (Nat.le_refl _) (by
          unfold alloc at ha
          replace ha := bif_ok.1 ha
          obtain ⟨_, ha⟩ := ha
          cases ha
          exact Nat.lt_succ_self _)
        have hle := Ren.le_put (x := w.heap.size) (n := 0) hfree
        exact ⟨w.heap.size, x, ms, #[], ms', Ren.put_same _ _ _ _, hle.to _ _ hy, by rw [hn.get, if_pos rfl], by rw [hn.get, if_neg (by omega)]; exact m3, m4, m5.mono hle, m6.mono hle, m7, m8,
          (fun i e _ => by simp), (fun i l e => by cases e)⟩)
      exact ⟨_, _, _, by simp [Instr.range, run_und h2, run_getObj_map m3], .ptr b 0 _ q1, q3⟩
    · cases h
  · cases h

end
end
end Go.AX

/- Operations: next, entry. -/
set_option autoImplicit false
set_option linter.unusedSimpArgs false
set_option linter.unusedVariables false
namespace Go.AX
noncomputable section
variable {a0 : Nat → Value}

section
variable {P : Program} {E : Env} {C : List Nat}

/-- the entries that an iterator has not seen: their places -/
def leftA : List (AV × AV) → List Nat → Nat → List (Nat × AV × AV)
  | [], _, _ => []
  | (k, v) :: es, seen, i => bif seen.any (Nat.beq i) then leftA es seen (i + 1) else (i, k, v) :: leftA es seen (i + 1)

/-- one step of an iterator: each answer that may come -/
def xNextA (s : H) (b : Nat) : R (List (AV × H)) :=
  match s.hp.get b with
  | some (.siter l pos) => match l[pos]? with
    | some c => bif Nat.blt c 128 then .ok [(AV.tup [.bool true, .int .i64 (Int.ofNat pos), .int .i32 (Int.ofNat c)], setO s b (.siter l (pos + 1)))] else .error "next not ASCII"
    | none => .ok [(AV.tup [.bool false], s)]
  | some .iterNil => .ok [(AV.tup [.bool false], s)]
  | some (.iter m ver seen) => match s.hp.get m with
    | some (.map es _ ver') => bif Nat.beq ver ver' then
        (match leftA es seen 0 with
        | [] => .ok [(AV.tup [.bool false], s)]
        | l => .ok (l.map fun (i, k, v) => (AV.tup [.bool true, k, v], setO s b (.iter m ver (i :: seen)))))
      else .error "next the map has turned"
    | _ => .error "next no map"
  | _ => .error "next no iterator"

def xNext (s : H) (it : AV) : R (List (AV × H)) :=
  match it with
  | .ptr b off => bif Nat.beq off 0 then xNextA s b else .error "next"
  | _ => .error "next"

theorem leftA_mem : ∀ (es : List (AV × AV)) (seen : List Nat) (i j : Nat) (k v : AV), es[j]? = some (k, v) → (i + j) ∉ seen → (i + j, k, v) ∈ leftA es seen i
  | [], _, _, _, _, _, h, _ => by simp at h
  | (a, b) :: es, seen, i, 0, k, v, h, hn => by
    simp only [List.getElem?_cons_zero, Option.some.injEq] at h
    cases h
    simp only [leftA]
    have : seen.any (Nat.beq i) = false := by
      rw [List.any_eq_false]
      intro x hx hb
      have := Nat.eq_of_beq_eq_true hb
      subst this
      exact hn (by simpa using hx)
    rw [this]
    simp
  | (a, b) :: es, seen, i, j + 1, k, v, h, hn => by
    simp only [List.getElem?_cons_succ] at h
    have ih := leftA_mem es seen (i + 1) j k v h (by rw [show i + 1 + j = i + (j + 1) by omega]; exact hn)
    rw [show i + 1 + j = i + (j + 1) by omega] at ih
    simp only [leftA]
    cases seen.any (Nat.beq i) with
    | true => exact ih
    | false => exact List.mem_cons_of_mem _ ih

theorem leftA_nil : ∀ (es : List (AV × AV)) (seen : List Nat) (i j : Nat), leftA es seen i = [] → j < es.length → (i + j) ∈ seen
  | [], _, _, _, _, h => by simp at h
  | (a, b) :: es, seen, i, j, h, hj => by
    simp only [leftA] at h
    cases hs : seen.any (Nat.beq i) with
    | false => rw [hs] at h; simp at h
    | true =>
      rw [hs] at h
      simp only [cond_true] at h
      cases j with
      | zero =>
        rw [List.any_eq_true] at hs
        obtain ⟨x, hx, hb⟩ := hs
        have := Nat.eq_of_beq_eq_true hb
        subst this
        exact hx
      | succ j =>
        have := leftA_nil es seen (i + 1) j h (by simp at hj; omega)
        rw [show i + 1 + j = i + (j + 1) by omega] at this
        exact this

theorem leftA_cons : ∀ (es : List (AV × AV)) (seen : List Nat) (i : Nat), leftA es seen i ≠ [] → ∃ j kv, es[j]? = some kv ∧ (i + j) ∉ seen
  | [], _, _, h => by simp [leftA] at h
  | (a, b) :: es, seen, i, h => by
    simp only [leftA] at h
    cases hs : seen.any (Nat.beq i) with
    | false =>
      refine ⟨0, (a, b), rfl, fun hm => ?_⟩
      rw [List.any_eq_false] at hs
      exact hs i (by simpa using hm) (Nat.beq_refl i)
    | true =>
      rw [hs] at h
      obtain ⟨j, kv, h1, h2⟩ := leftA_cons es seen (i + 1) h
      exact ⟨j + 1, kv, by simpa using h1, by rw [show i + (j + 1) = i + 1 + j by omega]; exact h2⟩

theorem decode_ascii (s : ByteArray) (i : Nat) (h : i < s.size) (hc : (s.get! i).toNat < 128) : Utf8.decode s i = ((s.get! i).toNat, 1) := by
  simp only [Utf8.decode, Nat.add_zero, hc, if_true]

theorem get!_of {s : ByteArray} {i c : Nat} (h : (bytesL s)[i]? = some c) : i < s.size ∧ (s.get! i).toNat = c := by
  have hb := bytes_get (rfl : bytesL s = bytesL s) i
  rw [h] at hb
  by_cases hi : i < s.size
  · refine ⟨hi, ?_⟩
    rw [getElem?_pos s i hi] at hb
    simp only [Option.map_some, Option.some.injEq] at hb
    rw [← hb]
    congr 1
    have : s.get! i = s[i] := by
      show s.data[i]! = _
      rw [getElem!_pos s.data i hi]
      rfl
    exact this
  · rw [getElem?_neg s i hi] at hb; cases hb

theorem xNext_ok {ρ : Ren a0} {w : World} {s : H} (hw : WR ρ s.hp w) {a : AV} {x : Value} (hx : VR ρ a x) (str : Bool) (ty : TypeId) {outs : List (AV × H)} (h : xNext s a = .ok outs)
    (hs : ∀ b off, a = .ptr b off → (∀ l p, s.hp.get b = some (.siter l p) → str = true) ∧ (s.hp.get b = some .iterNil → str = false) ∧ (∀ m v l, s.hp.get b = some (.iter m v l) → str = false)) :
    ∃ v s', (v, s') ∈ outs ∧ ∃ y w', (Instr.next x str ty).run P w = .ok y w' ∧ VR ρ v y ∧ On ρ w s ρ w' s' := by
  unfold xNext at h
  split at h
  case h_2 => cases h
  next b off =>
  obtain ⟨hs1, hs2, hs3⟩ := hs b off rfl
  replace h := bif_ok.1 h
  obtain ⟨h0, h⟩ := h
  obtain rfl := Nat.eq_of_beq_eq_true h0
  cases hx with
  | ptr _ _ x hx =>
  unfold xNextA at h
  split at h
  · next l pos hget =>
    obtain rfl := hs1 l pos hget
    obtain ⟨x', ob, m1, m2, m3, _⟩ := hw.obj b _ hget
    rw [hx] at m1; cases m1
    cases m3 with
    | siter _ t _ ht =>
    have hgo : (getObj x).run P w = .ok (.stringIter t pos) w := by simp [getObj, Sem.run, m2]
    split at h
    · next c hc =>
      replace h := bif_ok.1 h
      obtain ⟨h1, h⟩ := h
      cases h
      have hlt := blt_iff.1 h1
      rw [← ht] at hc
      obtain ⟨g1, g2⟩ := get!_of hc
      have hd := decode_ascii t pos g1 (by rw [g2]; exact hlt)
      have hso : (setObj x (.stringIter t (pos + 1))).run P w = .ok () { w with heap := w.heap.setIfInBounds x (.stringIter t (pos + 1)) } := by simp [setObj, Sem.run, m2]
      refine ⟨_, _, List.mem_singleton.2 rfl, .tuple #[.bool true, goInt pos, .int .i32 c], { w with heap := w.heap.setIfInBounds x (.stringIter t (pos + 1)) }, ?_, ?_, ?_⟩
      · simp only [Instr.next, Sem.run_bind, hgo, Result.andThen_ok, if_pos g1, hd, hso, Sem.run_pure, g2]
      · exact .tup _ [_, _, _] (.cons _ _ _ _ (.bool _) (.cons _ _ _ _ (.int _ _) (.cons _ _ _ _ (.int _ _) .nil)))
      · obtain ⟨g3, g4⟩ := hw.upd hget hx (Upd.mk' w x (.stringIter t (pos + 1)) (hw.lt _ _ hx)) (o := .siter l (pos + 1)) (.siter l t (pos + 1) ht) trivial (fun _ _ _ e => by cases e) (fun _ _ _ e => by cases e)
        exact ⟨g3, g4, Nat.le_refl _, fun _ _ => rfl⟩
    · next hc =>
      cases h
      have hge : ¬ pos < t.size := by
        rw [bytes_len ht]
        intro q
        rw [List.getElem?_eq_getElem q] at hc; cases hc
      refine ⟨_, _, List.mem_singleton.2 rfl, .tuple #[.bool false], w, ?_, .tup _ [_] (.cons _ _ _ _ (.bool _) .nil), .refl hw⟩
      simp only [Instr.next, Sem.run_bind, hgo, Result.andThen_ok, if_neg hge, Sem.run_pure]
  · next hget =>
    obtain rfl := hs2 hget
    cases h
    obtain ⟨x', ob, m1, m2, m3, _⟩ := hw.obj b _ hget
    rw [hx] at m1; cases m1
    cases m3
    have hgo : (getObj x).run P w = .ok (.mapIter none 0 #[] 0) w := by simp [getObj, Sem.run, m2]
    refine ⟨_, _, List.mem_singleton.2 rfl, .tuple #[.bool false], w, ?_, .tup _ [_] (.cons _ _ _ _ (.bool _) .nil), .refl hw⟩
    simp only [Instr.next, Sem.run_bind, hgo, Result.andThen_ok, Sem.run_pure]
  · next m ver seen hget =>
    obtain rfl := hs3 m ver seen hget
    split at h
    case h_2 => cases h
    next es ck ver' hgm =>
    replace h := bif_ok.1 h
    obtain ⟨hv, h⟩ := h
    obtain rfl := Nat.eq_of_beq_eq_true hv
    obtain ⟨x', y, ms, sb, ms', i1, i2, i3, i4, i5, i6, i7, i8, i9, i10, i11⟩ := hw.itr b m ver seen hget es ck hgm
    rw [hx] at i1; cases i1
    have hgo : (getObj x).run P w = .ok (.mapIter (some y) ck sb ck) w := by simp [getObj, Sem.run, i3]
    have hgo2 := run_getObj_map (P := P) i4
    have hlen : es.length = ms'.length := by simpa using i6.length
    have hnot : (!sb.isEmpty && !ms.isEmpty && ms.all (fun e => decide (e.born ≥ ck))) = false := by
      by_cases hme : ms.isEmpty = true
      · simp [hme]
      · have : ms.all (fun e => decide (e.born ≥ ck)) = false := by
          have hne : ms.toList ≠ [] := by
            intro q
            apply hme
            simpa [Array.isEmpty_iff] using q
          obtain ⟨e, l, hel⟩ := List.exists_cons_of_ne_nil hne
          rw [← Array.all_toList, hel]
          have := i9 e (i5.subset (by rw [hel]; exact List.mem_cons_self ..))
          simp; omega
        rw [this]; simp
    -- who is left
    have hnew : (ms.filter (fun e => !sb.contains e.born)).filter (fun e => decide (e.born ≥ ck)) = #[] := by
      apply Array.eq_empty_of_size_eq_zero
      apply Nat.eq_zero_of_not_pos
      intro hp
      have hm := Array.getElem_mem hp
      obtain ⟨q1, q2⟩ := Array.mem_filter.1 hm
      obtain ⟨q3, q4⟩ := Array.mem_filter.1 q1
      have h9 := i9 _ (i5.subset (Array.mem_toList_iff.2 q3))
      have q2' := of_decide_eq_true q2
      exact absurd h9 (by omega)
    have hold : (ms.filter (fun e => !sb.contains e.born)).filter (fun e => decide (e.born < ck)) = ms.filter (fun e => !sb.contains e.born) := by
      rw [Array.filter_eq_self]
      intro e he
      obtain ⟨q3, q4⟩ := Array.mem_filter.1 he
      have := i9 _ (i5.subset (Array.mem_toList_iff.2 q3))
      simpa using this
    have hrun : (Instr.next (.pointer (some ⟨x, 0, none⟩)) false ty).run P w =
        (let L := ms.filter (fun e => !sb.contains e.born)
         let cands := (if L.isEmpty then #[none] else #[]) ++ (L.map some)
         ((choose (.mapNext cands.size)).run P w).andThen fun n w' =>
          (match cands[n]? with
           | some (some e) => (do setObj x (.mapIter (some y) ck (sb.push e.born) ck); pure (.tuple #[.bool true, e.key, e.val]) : Sem Value)
           | some none => pure (.tuple #[.bool false])
           | none => stuck "Next: no such candidate").run P w') := by
      simp only [Instr.next, Sem.run_bind, hgo, hgo2, Result.andThen_ok, hnot, Bool.false_eq_true, if_false, hnew, hold, Array.append_empty]
      rfl
    by_cases hl : leftA es seen 0 = []
    · rw [hl] at h
      cases h
      have hL : ms.filter (fun e => !sb.contains e.born) = #[] := by
        rw [Array.filter_eq_empty_iff]
        intro e he
        obtain ⟨j, hj⟩ := List.getElem?_of_mem (i5.subset (Array.mem_toList_iff.2 he))
        have hjl : j < es.length := by
          rw [hlen]; obtain ⟨q, _⟩ := List.getElem?_eq_some_iff.1 hj; exact q
        have := leftA_nil es seen 0 j hl hjl
        rw [Nat.zero_add] at this
        have := (i10 j e hj).2 this
        simpa using this
      refine ⟨_, _, List.mem_singleton.2 rfl, .tuple #[.bool false], w, ?_, .tup _ [_] (.cons _ _ _ _ (.bool _) .nil), .refl hw⟩
      rw [hrun, hL]
      simp [run_choose, Question.forced]
    · obtain ⟨c0, cl, hcl⟩ := List.exists_cons_of_ne_nil hl
      rw [hcl] at h
      simp only at h
      rw [← hcl] at h
      cases h
      let L := ms.filter (fun e => !sb.contains e.born)
      have hLne : L.isEmpty = false := by
        obtain ⟨j, kv, g1, g2⟩ := leftA_cons es seen 0 hl
        rw [Nat.zero_add] at g2
        have hj : j < ms'.length := by rw [← hlen]; obtain ⟨q, _⟩ := List.getElem?_eq_some_iff.1 g1; exact q
        have hmem : ms'[j] ∈ ms.toList := i5.symm.subset (List.getElem_mem hj)
        have hns : ¬ (ms'[j].born ∈ sb) := fun q => g2 ((i10 j _ (List.getElem?_eq_getElem hj)).1 q)
        have : ms'[j] ∈ L := Array.mem_filter.2 ⟨Array.mem_toList_iff.1 hmem, by simpa using hns⟩
        rw [Bool.eq_false_iff]
        intro q
        rw [Array.isEmpty_iff] at q
        rw [q] at this
        simp at this
      have hsz : 0 < L.size := by
        rcases Nat.eq_zero_or_pos L.size with q | q
        · rw [Array.isEmpty_eq_false_iff] at hLne
          exact absurd (Array.eq_empty_of_size_eq_zero q) hLne
        · exact q
      -- the drawn one
      have hdraw : ∃ n w1, ((choose (.mapNext L.size)).run P w) = .ok n w1 ∧ n < L.size ∧ Heq w w1 := by
        rw [run_choose]
        simp only [Question.forced]
        by_cases h1 : L.size ≤ 1
        · simp only [h1, decide_true, if_true]
          exact ⟨0, w, rfl, hsz, rfl, rfl, rfl, rfl⟩
        · simp only [h1, decide_false, Bool.false_eq_true, if_false]
          exact ⟨_, _, rfl, Nat.mod_lt _ hsz, rfl, rfl, rfl, rfl⟩
      obtain ⟨n, w1, d1, d2, d3⟩ := hdraw
      let e := L[n]
      have heL : e ∈ L := Array.getElem_mem d2
      obtain ⟨he1, he2⟩ := Array.mem_filter.1 heL
      have heb : ¬ (e.born ∈ sb) := by simpa using he2
      obtain ⟨j, hj⟩ := List.getElem?_of_mem (i5.subset (Array.mem_toList_iff.2 he1))
      have hjs : j ∉ seen := fun q => heb ((i10 j e hj).2 q)
      have hjl : j < es.length := by
        rw [hlen]; obtain ⟨q, _⟩ := List.getElem?_eq_some_iff.1 hj; exact q
      obtain ⟨k, v, hkv⟩ : ∃ k v, es[j]? = some (k, v) := ⟨es[j].1, es[j].2, List.getElem?_eq_getElem hjl⟩
      have hmem := leftA_mem es seen 0 j k v hkv (by rw [Nat.zero_add]; exact hjs)
      rw [Nat.zero_add] at hmem
      have hk : VR ρ k e.key := by
        obtain ⟨u, u1, u2⟩ := i6.get (show (es.map (·.1))[j]? = some k by rw [List.getElem?_map, hkv]; rfl)
        rw [List.getElem?_map, hj] at u1
        cases u1
        exact u2
      have hvv : VR ρ v e.val := by
        obtain ⟨u, u1, u2⟩ := i7.get (show (es.map (·.2))[j]? = some v by rw [List.getElem?_map, hkv]; rfl)
        rw [List.getElem?_map, hj] at u1
        cases u1
        exact u2
      have hw1 := hw.heq d3
      have hx1 : w1.heap[x]? = some (.mapIter (some y) ck sb ck) := by rw [d3.heap]; exact i3
      have hso : (setObj x (.mapIter (some y) ck (sb.push e.born) ck)).run P w1 = .ok () { w1 with heap := w1.heap.setIfInBounds x (.mapIter (some y) ck (sb.push e.born) ck) } := by simp [setObj, Sem.run, hx1]
      have hxl : x < w1.heap.size := by rw [d3.heap]; exact hw.lt _ _ hx
      have hxy : x ≠ y := by
        intro q
        subst q
        rw [i4] at i3
        cases i3
      have hu := Upd.mk' w1 x (.mapIter (some y) ck (sb.push e.born) ck) hxl
      refine ⟨.tup [.bool true, k, v], setO s b (.iter m ver (j :: seen)), List.mem_map.2 ⟨(j, k, v), hmem, rfl⟩, .tuple #[.bool true, e.key, e.val], { w1 with heap := w1.heap.setIfInBounds x (.mapIter (some y) ck (sb.push e.born) ck) }, ?_, .tup _ [_, _, _] (.cons _ _ _ _ (.bool _) (.cons _ _ _ _ hk (.cons _ _ _ _ hvv .nil))), ?_⟩
      · rw [hrun]
        have hc : ((if L.isEmpty = true then #[none] else #[]) ++ Array.map some L : Array (Option MapEntry)) = Array.map some L := by rw [hLne]; simp
        have hcn : (Array.map some L)[n]? = some (some e) := by rw [Array.getElem?_map, Array.getElem?_eq_getElem d2]; rfl
        show ((choose (.mapNext ((if L.isEmpty = true then #[none] else #[]) ++ Array.map some L : Array (Option MapEntry)).size)).run P w).andThen (fun n w' =>
          (match ((if L.isEmpty = true then #[none] else #[]) ++ Array.map some L : Array (Option MapEntry))[n]? with
           | some (some e) => (do setObj x (.mapIter (some y) ck (sb.push e.born) ck); pure (.tuple #[.bool true, e.key, e.val]) : Sem Value)
           | some none => pure (.tuple #[.bool false])
           | none => stuck "Next: no such candidate").run P w') = _
        rw [hc, Array.size_map, d1]
        simp only [Result.andThen_ok, hcn, Sem.run_bind, hso, Sem.run_pure]
      · obtain ⟨g3, g4⟩ := hw1.upd hget hx hu (o := .iter m ver (j :: seen)) (.iter m ver (j :: seen) y ck ck (sb.push e.born) i2) trivial (fun _ _ _ e => by cases e)
          (fun m' v' s' eq => by
            cases eq
            refine ⟨seen, rfl, fun es2 ck2 hm2 => ?_⟩
            rw [hgm] at hm2
            cases hm2
            refine ⟨x, y, ms, sb.push e.born, ms', hx, i2, by rw [hu.get, if_pos rfl], by rw [hu.get, if_neg (fun q => hxy q.symm), d3.heap]; exact i4, i5, i6, i7, i8, i9, ?_, ?_⟩
            · intro i' e' he'
              rw [Array.mem_push, List.mem_cons, i10 i' e' he']
              constructor
              · rintro (q | q)
                · exact .inr q
                · left
                  have hi' : i' < (ms'.map (·.born)).length := by
                    rw [List.length_map]; obtain ⟨q, _⟩ := List.getElem?_eq_some_iff.1 he'; exact q
                  have h1 : (ms'.map (·.born))[i']? = (ms'.map (·.born))[j]? := by
                    rw [List.getElem?_map, List.getElem?_map, he', hj]; simp [q]
                  exact (List.getElem?_inj hi' i8).1 h1
              · rintro (q | q)
                · right
                  subst q
                  rw [hj] at he'
                  cases he'
                  rfl
                · exact .inl q
            · intro i' l' eq
              cases eq
              exact fun _ => ⟨e, hj, by simp⟩)
        exact ⟨g3, (Ex1.heq d3).trans g4, Nat.le_refl _, fun _ _ => rfl⟩
  · cases h

end
end
end Go.AX

/- Builtins that are small; library functions without a Go body. -/
set_option autoImplicit false
set_option linter.unusedSimpArgs false
set_option linter.unusedVariables false
namespace Go.AX
noncomputable section
variable {a0 : Nat → Value}

section
variable {P : Program} {E : Env} {C : List Nat}

def xLen (E : Env) (s : H) (t : Nat) (a : AV) : R AV := do
  let i ← ti E t
  match i.desc, a with
  | .string, .str l => .ok (.int .i64 (Int.ofNat l.length))
  | .slice _, .nils => .ok (.int .i64 0)
  | .slice _, .slz => .ok (.int .i64 0)
  | .slice _, .slc _ _ n _ _ => .ok (.int .i64 (Int.ofNat n))
  | .map _ _, .nilm => .ok (.int .i64 0)
  | .map _ _, .map b => match s.hp.get b with
    | some (.map es _ _) => .ok (.int .i64 (Int.ofNat es.length))
    | _ => .error "len no map"
  | _, _ => .error "len"

theorem xLen_ok (hE : TyOk P E) {ρ : Ren a0} {w : World} {s : H} (hw : WR ρ s.hp w) {t ty : Nat} {a : AV} {x : Value} (hx : VR ρ a x) (ats : Array TypeId) (ha : ats[0]? = some t) : Pu P ρ w (Builtin.len_ ats ty #[x]) (xLen E s t a) := by
  intro v h
  simp only [xLen, bind_ok] at h
  obtain ⟨i, hi, h⟩ := h
  obtain ⟨inf, h1, h2, h3, h4, h5⟩ := hE.find hi
  split at h
  · next l ed =>
    rw [ed] at h2; cases h
    cases hx with | str _ s hs =>
    exact ⟨_, by simp [Builtin.len_, ha, run_und h2, goInt, bytes_len hs], .int _ _⟩
  · next ed => rw [ed] at h2; cases h; cases hx; exact ⟨_, by simp [Builtin.len_, ha, run_und h2, goInt], .int _ _⟩
  · next ed => rw [ed] at h2; cases h; cases hx; exact ⟨_, by simp [Builtin.len_, ha, run_und h2, goInt], .int _ _⟩
  · next ed => rw [ed] at h2; cases h; cases hx; exact ⟨_, by simp [Builtin.len_, ha, run_und h2, goInt], .int _ _⟩
  · next ed => rw [ed] at h2; cases h; cases hx; exact ⟨_, by simp [Builtin.len_, ha, run_und h2, goInt], .int _ _⟩
  · next b ed =>
    rw [ed] at h2
    split at h
    · next es ck ver hget =>
      cases h
      obtain ⟨x, ms, ms', m1, m2, m3, m4, m5, m6, m7, m8⟩ := map_of hw hget
      cases hx with | map _ y hy =>
      rw [hy] at m1; cases m1
      have : ms.size = es.length := by
        have h1 := m4.length_eq
        have h2 := m5.length
        simp only [List.length_map, Array.length_toList] at h1 h2
        omega
      exact ⟨_, by simp [Builtin.len_, ha, run_und h2, goInt, run_getObj_map m3, this], .int _ _⟩
    · cases h
  · cases h

def mm (mx : Bool) (k : IntKind) : Int → List AV → R AV
  | a, [] => .ok (.int k a)
  | a, .int _ b :: l => mm mx k (bif mx then (if b > a then b else a) else (if b < a then b else a)) l
  | _, _ => .error "minmax"

def xMM (mx : Bool) : List AV → R AV
  | .int k a :: l => mm mx k a l
  | _ => .error "minmax"

theorem mm_min {ρ : Ren a0} {w : World} (k : IntKind) : ∀ (l : List AV) (a : Int) (vs : List Value), VRs ρ l vs → Pu P ρ w (vs.foldlM Builtin.min2 (.int k a)) (mm false k a l)
  | [], a, _, h => by
    cases h
    intro v h
    simp only [mm] at h
    cases h
    exact ⟨_, by simp, .int _ _⟩
  | .int _ b :: l, a, _, h => by
    cases h with | cons _ x _ vs h1 h2 =>
    cases h1
    intro v h
    simp only [mm, cond_false] at h
    obtain ⟨y, g1, g2⟩ := mm_min k l _ vs h2 v h
    exact ⟨y, by simpa [Builtin.min2] using g1, g2⟩
  | .bool _ :: l, a, _, _ | .str _ :: l, a, _, _ | .flt _ :: l, a, _, _ | .cplx .. :: l, a, _, _ | .nilp :: l, a, _, _ | .ptr .. :: l, a, _, _ | .nils :: l, a, _, _ | .slz :: l, a, _, _ | .slc .. :: l, a, _, _ | .nilm :: l, a, _, _ | .map _ :: l, a, _, _ | .agg _ :: l, a, _, _ | .tup _ :: l, a, _, _ | .fn .. :: l, a, _, _ | .nilf :: l, a, _, _ | .rng .. :: l, a, _, _ | .sym _ :: l, a, _, _ | .top :: l, a, _, _ => by intro v h; simp [mm] at h

theorem mm_max {ρ : Ren a0} {w : World} (k : IntKind) : ∀ (l : List AV) (a : Int) (vs : List Value), VRs ρ l vs → Pu P ρ w (vs.foldlM Builtin.max2 (.int k a)) (mm true k a l)
  | [], a, _, h => by
    cases h
    intro v h
    simp only [mm] at h
    cases h
    exact ⟨_, by simp, .int _ _⟩
  | .int _ b :: l, a, _, h => by
    cases h with | cons _ x _ vs h1 h2 =>
    cases h1
    intro v h
    simp only [mm, cond_true] at h
    obtain ⟨y, g1, g2⟩ := mm_max k l _ vs h2 v h
    exact ⟨y, by simpa [Builtin.max2] using g1, g2⟩
  | .bool _ :: l, a, _, _ | .str _ :: l, a, _, _ | .flt _ :: l, a, _, _ | .cplx .. :: l, a, _, _ | .nilp :: l, a, _, _ | .ptr .. :: l, a, _, _ | .nils :: l, a, _, _ | .slz :: l, a, _, _ | .slc .. :: l, a, _, _ | .nilm :: l, a, _, _ | .map _ :: l, a, _, _ | .agg _ :: l, a, _, _ | .tup _ :: l, a, _, _ | .fn .. :: l, a, _, _ | .nilf :: l, a, _, _ | .rng .. :: l, a, _, _ | .sym _ :: l, a, _, _ | .top :: l, a, _, _ => by intro v h; simp [mm] at h

theorem xMM_min {ρ : Ren a0} {w : World} {l : List AV} {vs : List Value} (h : VRs ρ l vs) (ats : Array TypeId) (ty : TypeId) : Pu P ρ w (Builtin.min_ ats ty vs.toArray) (xMM false l) := by
  intro v hv
  unfold xMM at hv
  split at hv
  · next k a l =>
    cases h with | cons _ x _ vs h1 h2 =>
    cases h1
    exact mm_min k l a vs h2 v hv
  · cases hv

theorem xMM_max {ρ : Ren a0} {w : World} {l : List AV} {vs : List Value} (h : VRs ρ l vs) (ats : Array TypeId) (ty : TypeId) : Pu P ρ w (Builtin.max_ ats ty vs.toArray) (xMM true l) := by
  intro v hv
  unfold xMM at hv
  split at hv
  · next k a l =>
    cases h with | cons _ x _ vs h1 h2 =>
    cases h1
    exact mm_max k l a vs h2 v hv
  · cases hv

def mkR (k : IntKind) (lo hi : Int) : AV := if lo = hi then .int k lo else .rng k lo hi

theorem mkR_ok {ρ : Ren a0} {k : IntKind} {lo hi n : Int} (h1 : lo ≤ n) (h2 : n ≤ hi) : VR ρ (mkR k lo hi) (.int k n) := by
  unfold mkR
  split
  · next e =>
    obtain rfl : lo = n := by omega
    exact .int _ _
  · exact .rng _ _ _ _ h1 h2

/-- the least, or the greatest, of two numbers within bounds -/
def xMMr (mx : Bool) : List AV → R AV
  | [a, b] => match bnd a, bnd b with
    | some (k, lo, hi), some (l, lo', hi') => if k = l then .ok (bif mx then mkR k (if lo' > lo then lo' else lo) (if hi' > hi then hi' else hi) else mkR k (if lo' < lo then lo' else lo) (if hi' < hi then hi' else hi)) else .error "minmax"
    | _, _ => .error "minmax"
  | _ => .error "minmax"

def xMMx (mx : Bool) (l : List AV) : R AV := match xMM mx l with
  | .ok v => .ok v
  | .error _ => xMMr mx l

theorem xMMx_min {ρ : Ren a0} {w : World} {l : List AV} {vs : List Value} (h : VRs ρ l vs) (ats : Array TypeId) (ty : TypeId) : Pu P ρ w (Builtin.min_ ats ty vs.toArray) (xMMx false l) := by
  intro v hv
  unfold xMMx at hv
  split at hv
  · next v' hv' => cases hv; exact xMM_min h ats ty v hv'
  · unfold xMMr at hv
    split at hv
    · next a b =>
      cases h with | cons _ x _ vs h1 h2 =>
      cases h2 with | cons _ y _ vs h3 h4 =>
      cases h4
      split at hv
      · next k lo hi l lo' hi' ha hb =>
        split at hv
        · next hk =>
          subst hk
          cases hv
          obtain ⟨n, rfl, q1, q2⟩ := bnd_ok ha h1
          obtain ⟨m, rfl, q3, q4⟩ := bnd_ok hb h3
          refine ⟨.int k (if m < n then m else n), ?_, mkR_ok ?_ ?_⟩
          · show (([Value.int k m].foldlM Builtin.min2 (.int k n)) : Sem Value).run P w = _
            simp [Builtin.min2]
          · split <;> split <;> omega
          · split <;> split <;> omega
        · cases hv
      · cases hv
    · cases hv

theorem xMMx_max {ρ : Ren a0} {w : World} {l : List AV} {vs : List Value} (h : VRs ρ l vs) (ats : Array TypeId) (ty : TypeId) : Pu P ρ w (Builtin.max_ ats ty vs.toArray) (xMMx true l) := by
  intro v hv
  unfold xMMx at hv
  split at hv
  · next v' hv' => cases hv; exact xMM_max h ats ty v hv'
  · unfold xMMr at hv
    split at hv
    · next a b =>
      cases h with | cons _ x _ vs h1 h2 =>
      cases h2 with | cons _ y _ vs h3 h4 =>
      cases h4
      split at hv
      · next k lo hi l lo' hi' ha hb =>
        split at hv
        · next hk =>
          subst hk
          cases hv
          obtain ⟨n, rfl, q1, q2⟩ := bnd_ok ha h1
          obtain ⟨m, rfl, q3, q4⟩ := bnd_ok hb h3
          refine ⟨.int k (if m > n then m else n), ?_, mkR_ok ?_ ?_⟩
          · show (([Value.int k m].foldlM Builtin.max2 (.int k n)) : Sem Value).run P w = _
            simp [Builtin.max2]
          · split <;> split <;> omega
          · split <;> split <;> omega
        · cases hv
      · cases hv
    · cases hv

-- library functions without a Go body
def Ext.sem : Ext → Array Value → Sem Value
  | .indexByte => Extern.BytealgIndexByte.indexByte
  | .same => Extern.AbiNoEscape.same
  | .makeNoZero t => Extern.BytealgMakeNoZero.makeNoZero #[] #[t]

def idxOf (c : Nat) : List Nat → Nat → Int
  | [], _ => -1
  | b :: l, i => bif Nat.beq b c then Int.ofNat i else idxOf c l (i + 1)

def xExt (E : Env) (k : Ext) (s : H) (args : List AV) : R (AV × H) :=
  match k, args with
  | .same, [a] => .ok (a, s)
  | .indexByte, [.str l, .int .u8 (.ofNat c)] => bif Nat.blt c 256 then .ok (.int .i64 (idxOf c l 0), s) else .error "indexByte"
  | .makeNoZero t, [.int .i64 (.ofNat n)] => do
    let i ← ti E t
    match i.desc with
    | .slice e => bif Nat.ble n 100000 && Nat.blt 0 n then (do
        let (b, s) ← alloc s (.cells [] true e false)
        .ok (AV.slc b 0 n none 1, s)) else .error "makeNoZero"
    | _ => .error "makeNoZero"
  | _, _ => .error "extern"

theorem digits_size : ∀ (n t : Nat) (acc : Array Value), (Extern.BytealgMakeNoZero.digits n t acc).size = acc.size + n
  | 0, _, _ => by simp [Extern.BytealgMakeNoZero.digits]
  | n + 1, t, acc => by simp [Extern.BytealgMakeNoZero.digits, digits_size n]; omega

theorem idx_ok (s : ByteArray) (c : UInt8) : ∀ (n i : Nat) (l : List Nat), l.length = n → (∀ j, j < n → ∃ h : i + j < s.size, l[j]? = some (s[i + j]'h).toNat) →
    idxOf c.toNat l i = (match ((List.range' i n).find? fun j => s[j]! == c) with | some j => (j : Int) | none => -1)
  | 0, i, l, hl, _ => by
    have : l = [] := List.eq_nil_of_length_eq_zero hl
    subst this
    simp [idxOf]
  | n + 1, i, [], hl, _ => by simp at hl
  | n + 1, i, b :: l, hl, h => by
    obtain ⟨h0, h1⟩ := h 0 (by omega)
    simp only [Nat.add_zero, List.getElem?_cons_zero, Option.some.injEq] at h1
    have hb : s[i]! = s[i]'h0 := getElem!_pos s i h0
    simp only [idxOf, List.range'_succ, List.find?_cons, hb]
    by_cases hc : s[i]'h0 = c
    · have : Nat.beq b c.toNat = true := beq_t (by rw [h1, hc])
      rw [this]
      simp [hc]
    · have : Nat.beq b c.toNat = false := beq_f (by rw [h1]; intro q; exact hc (UInt8.toNat_inj.1 q))
      rw [this]
      have e : (s[i]'h0 == c) = false := by simpa using hc
      simp only [cond_false, e]
      exact idx_ok s c n (i + 1) l (by simpa using hl) (fun j hj => by
        obtain ⟨g0, g1⟩ := h (j + 1) (by omega)
        refine ⟨by omega, ?_⟩
        simp only [List.getElem?_cons_succ] at g1
        rw [g1]
        congr 2
        simp only [show i + (j + 1) = i + 1 + j by omega])

theorem xExt_ok (hE : TyOk P E) {ρ : Ren a0} {w : World} {s : H} (hw : WR ρ s.hp w) (k : Ext) {args : List AV} {vs : List Value} (ha : VRs ρ args vs) : Do P ρ w s (k.sem vs.toArray) (xExt E k s args) := by
  intro v s' h hf
  unfold xExt at h
  split at h
  · next a =>
    cases h
    cases ha with | cons _ x _ _ h1 h2 =>
    cases h2
    exact ⟨x, w, ρ, rfl, h1, .refl hw⟩
  · next l c =>
    replace h := bif_ok.1 h
    obtain ⟨hc, h⟩ := h
    cases h
    have hc' := blt_iff.1 hc
    cases ha with | cons _ x _ _ h1 h2 =>
    cases h2 with | cons _ y _ _ h3 h4 =>
    cases h4
    cases h1 with | str _ t ht =>
    cases h3
    refine ⟨.int .i64 (idxOf c l 0), w, ρ, ?_, .int _ _, .refl hw⟩
    have hl := bytes_len ht
    have hn : (UInt8.ofNat c).toNat = c := fits_toNat hc'
    have := idx_ok t (UInt8.ofNat c) t.size 0 l hl.symm (fun j hj => by
      have g := bytes_get ht j
      refine ⟨by omega, ?_⟩
      rw [getElem?_pos t j hj] at g
      simp only [Option.map_some] at g
      rw [← g]
      simp)
    rw [hn] at this
    rw [this]
    have e0 : Ext.sem .indexByte [Value.string t, Value.int .u8 (Int.ofNat c)].toArray = (match (List.range t.size).find? fun i => t[i]! == UInt8.ofNat c with
        | some i => (pure (goInt i) : Sem Value)
        | none => pure (goInt (-1))) := rfl
    rw [e0, List.range_eq_range']
    cases (List.range' 0 t.size).find? (fun j => t[j]! == UInt8.ofNat c) <;> rfl
  · next t n =>
    simp only [bind_ok] at h
    obtain ⟨i, hi, h⟩ := h
    obtain ⟨inf, h1, h2, h3, h4, h5⟩ := hE.find hi
    split at h
    · next e ed =>
      rw [ed] at h2
      replace h := bif_ok.1 h
      obtain ⟨hn, h⟩ := h
      simp only [Bool.and_eq_true] at hn
      have hn' := Nat.le_of_ble_eq_true hn.1
      simp only [bind_ok] at h
      obtain ⟨⟨b, s1⟩, hal, h⟩ := h
      cases h
      cases ha with | cons _ x _ _ h1 h2 =>
      cases h2
      cases h1
      let cap := (Question.appendCap n 0 e).cut (w.tape w.drawn (.appendCap n 0 e))
      let w1 := drewW w
      let bytes := (Question.extern "internal/bytealg.MakeNoZero.bytes" 0).cut (w1.tape w1.drawn (.extern "internal/bytealg.MakeNoZero.bytes" 0))
      let cs := Extern.BytealgMakeNoZero.digits cap bytes #[]
      have hcs : cs.toList.length = cap := by rw [Array.length_toList, digits_size]; simp
      have hq : Heq w (drewW w1) := ⟨rfl, rfl, rfl, rfl⟩
      obtain ⟨ρ', q1, q2, q3, q4⟩ := new_row (vs := []) (rest := cs.toList) hq hw hal hf .nil (fun e => by cases e)
      refine ⟨_, _, ρ', ?_, .slc b 0 n none 1 _ cap q1 (extF_cut _ _ _ _) (fun _ e => by cases e) (fun _ => by rw [q4, hcs]; simp), q3⟩
      have hneg : ¬ (Int.ofNat n < 0 ∨ Int.ofNat n > 2 ^ 48) := by
        rintro (q | q)
        · have := Int.natCast_nonneg n; simp at q; omega
        · have : (Int.ofNat n) = (n : Int) := rfl
          rw [this] at q; omega
      have hneg' : (decide (Int.ofNat n < 0) || decide (Int.ofNat n > 2 ^ 48)) = false := by
        simp only [Bool.or_eq_false_iff, decide_eq_false_iff_not]
        exact ⟨fun q => hneg (.inl q), fun q => hneg (.inr q)⟩
      have e0 : Ext.sem (.makeNoZero t) [Value.int .i64 (Int.ofNat n)].toArray = (do
          let .slice elem ← underlying t | stuck "bytealg.MakeNoZero: slice type expected"
          if (decide (Int.ofNat n < 0) || decide (Int.ofNat n > 2 ^ 48)) = true then runtimePanic (.error "makeslice: len out of range")
          let cap ← choose (.appendCap n 0 elem)
          askRoom cap
          let bytes ← choose (.extern "internal/bytealg.MakeNoZero.bytes" 0)
          let a ← newRow elem (Extern.BytealgMakeNoZero.digits cap bytes #[])
          pure (.slice (some a) n cap)) := rfl
      rw [e0]
      simp only [Sem.run_bind, run_und h2, Result.andThen_ok, hneg', Bool.false_eq_true, if_false, Sem.run_pure, run_choose, Question.forced, run_askRoom, run_newRow]
      simp only [show decide ((0 : Nat) = 1) = false from rfl, Bool.false_eq_true, if_false, Result.andThen_ok, run_newRow, Sem.run_pure]
      simp only [List.nil_append]
      rfl
    · cases h
  · cases h

end
end
end Go.AX

/- More operations: entry, cap, make of a slice, clear, copy. -/
set_option autoImplicit false
set_option linter.unusedSimpArgs false
set_option linter.unusedVariables false
namespace Go.AX
noncomputable section
variable {a0 : Nat → Value}

section
variable {P : Program} {E : Env} {C : List Nat}

def xEntryA (s : H) (b : Nat) : R AV :=
  match s.hp.get b with
  | some (.iter m ver (i :: _)) => bif Nat.beq i lim then .error "entry which" else match s.hp.get m with
    | some (.map es _ ver') => bif Nat.beq ver ver' then
        (match es[i]? with
        | some (k, v) => .ok (.tup [k, v])
        | none => .error "entry")
      else .error "entry the map has turned"
    | _ => .error "entry no map"
  | _ => .error "entry no iterator"

def xEntry (s : H) (it : AV) : R AV :=
  match it with
  | .ptr b off => bif Nat.beq off 0 then xEntryA s b else .error "entry"
  | _ => .error "entry"

theorem nodup_inj {α β : Type} (f : α → β) : ∀ (l : List α) (a b : α), (l.map f).Nodup → a ∈ l → b ∈ l → f a = f b → a = b
  | [], _, _, _, h, _, _ => by simp at h
  | c :: l, a, b, hn, ha, hb, he => by
    rw [List.map_cons, List.nodup_cons] at hn
    rcases List.mem_cons.1 ha with e1 | ha'
    · rcases List.mem_cons.1 hb with e2 | hb'
      · rw [e1, e2]
      · exact absurd (List.mem_map.2 ⟨b, hb', by rw [← he, e1]⟩) hn.1
    · rcases List.mem_cons.1 hb with e2 | hb'
      · exact absurd (List.mem_map.2 ⟨a, ha', by rw [he, e2]⟩) hn.1
      · exact nodup_inj f l a b hn.2 ha' hb' he

theorem xEntry_ok {ρ : Ren a0} {w : World} {s : H} (hw : WR ρ s.hp w) {a : AV} {x : Value} (hx : VR ρ a x) : Pu P ρ w (Instr.entry x) (xEntry s a) := by
  intro v h
  unfold xEntry at h
  split at h
  case h_2 => cases h
  next b off =>
  replace h := bif_ok.1 h
  obtain ⟨h0, h⟩ := h
  obtain rfl := Nat.eq_of_beq_eq_true h0
  cases hx with
  | ptr _ _ x hx =>
  unfold xEntryA at h
  split at h
  case h_2 => cases h
  next m ver i sn hget =>
  replace h := bif_ok'.1 h
  obtain ⟨hil, h⟩ := h
  have hil' : i ≠ lim := fun e => by rw [e, Nat.beq_refl] at hil; cases hil
  split at h
  case h_2 => cases h
  next es ck ver' hm =>
  replace h := bif_ok.1 h
  obtain ⟨hv, h⟩ := h
  obtain rfl := Nat.eq_of_beq_eq_true hv
  obtain ⟨x', y, ms, sb, ms', i1, i2, i3, i4, i5, i6, i7, i8, i9, i10, i11⟩ := hw.itr b m ver _ hget es ck hm
  rw [hx] at i1; cases i1
  obtain ⟨e, e1, e2⟩ := i11 i sn rfl hil'
  split at h
  case h_2 => cases h
  next k u hk =>
  cases h
  have hgo : (getObj x).run P w = .ok (.mapIter (some y) ck sb ck) w := by simp [getObj, Sem.run, i3]
  have hmem : e ∈ ms'  := List.mem_of_getElem? e1
  have hfind : ms.find? (fun q => q.born == e.born) = some e := by
    rw [← Array.find?_toList]
    cases hf : ms.toList.find? (fun q => q.born == e.born) with
    | none =>
      have := List.find?_eq_none.1 hf e (i5.mem_iff.2 hmem)
      simp at this
    | some q =>
      have h1 := List.find?_some hf
      have h2 := List.mem_of_find?_eq_some hf
      have := nodup_inj (·.born) ms' q e i8 (i5.mem_iff.1 h2) hmem (by simpa using h1)
      rw [this]
  obtain ⟨kv, g1, g2⟩ := i6.get (n := i) (a := k) (by rw [List.getElem?_map, hk]; rfl)
  obtain ⟨uv, g3, g4⟩ := i7.get (n := i) (a := u) (by rw [List.getElem?_map, hk]; rfl)
  rw [List.getElem?_map, e1] at g1 g3
  cases g1; cases g3
  refine ⟨.tuple #[e.key, e.val], ?_, .tup _ [_, _] (.cons _ _ _ _ g2 (.cons _ _ _ _ g4 .nil))⟩
  simp only [Instr.entry, Sem.run_bind, hgo, Result.andThen_ok, e2, run_getObj_map i4, bne_self_eq_false, Bool.false_eq_true, if_false, Sem.run_pure, hfind]

def xCap (E : Env) (t : Nat) (a : AV) : R AV := do
  let i ← ti E t
  match i.desc, a with
  | .slice _, .nils => .ok (.int .i64 0)
  | .slice _, .slc _ _ _ (some c) _ => .ok (.int .i64 (Int.ofNat c))
  | _, _ => .error "cap"

theorem xCap_ok (hE : TyOk P E) {ρ : Ren a0} {w : World} {t ty : Nat} {a : AV} {x : Value} (hx : VR ρ a x) (ats : Array TypeId) (ha : ats[0]? = some t) : Pu P ρ w (Builtin.cap_ ats ty #[x]) (xCap E t a) := by
  intro v h
  simp only [xCap, bind_ok] at h
  obtain ⟨i, hi, h⟩ := h
  obtain ⟨inf, h1, h2, h3, h4, h5⟩ := hE.find hi
  split at h
  · next ed => rw [ed] at h2; cases h; cases hx; exact ⟨_, by simp [Builtin.cap_, ha, run_und h2, goInt], .int _ _⟩
  · next c _ ed =>
    rw [ed] at h2; cases h
    cases hx with | slc _ _ _ _ _ y c' _ _ hc _ =>
    have := hc c rfl
    subst this
    exact ⟨_, by simp [Builtin.cap_, ha, run_und h2, goInt], .int _ _⟩
  · cases h

def xMakeSlice (E : Env) (s : H) (t : Nat) (l c : AV) : R (AV × H) := do
  let i ← ti E t
  match i.desc, l, c with
  | .slice e, .int _ (.ofNat n), .int _ (.ofNat m) => do
    let j ← ti E e
    bif Nat.beq j.zero.length j.size && Nat.blt 0 j.size && Nat.blt 0 m && Nat.ble n m && Nat.ble (m * (j.bytes + 1)) 100000 then (do
      let (b, s) ← alloc s (.cells (repl j.zero m) false e false)
      .ok (AV.slc b 0 n (some m) 0, s)) else .error "makeSlice"
  | _, _, _ => .error "makeSlice"

theorem xMakeSlice_ok (hE : TyOk P E) {ρ : Ren a0} {w : World} {s : H} (hw : WR ρ s.hp w) {t : Nat} {l c : AV} {vl vc : Value} (hl : VR ρ l vl) (hc : VR ρ c vc) :
    Do P ρ w s (Instr.makeSlice t vl vc) (xMakeSlice E s t l c) := by
  intro v s' h hf
  simp only [xMakeSlice, bind_ok] at h
  obtain ⟨i, hi, h⟩ := h
  obtain ⟨inf, h1, h2, h3, h4, h5⟩ := hE.find hi
  split at h
  case h_2 => cases h
  next e k1 n k2 m ed =>
  rw [ed] at h2
  simp only [bind_ok] at h
  obtain ⟨j, hj, h⟩ := h
  replace h := bif_ok.1 h
  obtain ⟨hb, h⟩ := h
  simp only [Bool.and_eq_true] at hb
  obtain ⟨⟨⟨⟨b1, b2⟩, b3⟩, b4⟩, b5⟩ := hb
  replace b1 := Nat.eq_of_beq_eq_true b1
  replace b2 := blt_iff.1 b2
  replace b3 := blt_iff.1 b3
  replace b4 := Nat.le_of_ble_eq_true b4
  replace b5 := Nat.le_of_ble_eq_true b5
  simp only [bind_ok] at h
  obtain ⟨⟨b, s1⟩, ha, h⟩ := h
  cases h
  obtain ⟨inf', z, g1, g2, g3⟩ := zero_some (ρ := ρ) hE hj (by intro e; rw [e] at b1; simp at b1; omega)
  obtain ⟨inf'', m1, m2, m3, m4, m5⟩ := hE.find hj
  rw [g1] at m1; cases m1
  have hz : z.cells.toList.length = j.size := by rw [← g3.length, b1]
  obtain ⟨ρ', p1, p2, p3, _⟩ := new_cells (rest := []) hw ha hf (repl_ok g3 m) (fun _ => rfl)
  refine ⟨_, _, ρ', ?_, .slc b 0 n (some m) 0 _ m p1 b4 (fun n e => by cases e; rfl) (fun e => by cases e), p3⟩
  cases hl; cases hc
  have hsz : z.cells.size = j.size := by simpa using hz
  have e1 : (Array.range (m * inf'.size)).map (fun i => z.cells[i % z.cells.size]!) = (replV z.cells.toList m).toArray := by
    rw [m3, ← hsz]; exact range_repl _ _
  have hm1 : m ≤ 100000 := by
    have : m * 1 ≤ m * (j.bytes + 1) := Nat.mul_le_mul_left _ (by omega)
    omega
  have hmb : m * inf'.bytes ≤ 100000 := by
    rw [m4]
    have : m * j.bytes ≤ m * (j.bytes + 1) := Nat.mul_le_mul_left _ (by omega)
    omega
  have hwl : IntKind.i64.wrap (Int.ofNat n) = n := wrap_i64 (by have := Int.natCast_nonneg n; simp only [Int.ofNat_eq_natCast]; omega) (by simp only [Int.ofNat_eq_natCast]; omega)
  have hwc : IntKind.i64.wrap (Int.ofNat m) = m := wrap_i64 (by have := Int.natCast_nonneg m; simp only [Int.ofNat_eq_natCast]; omega) (by simp only [Int.ofNat_eq_natCast]; omega)
  have hbig : ¬ ((inf'.bytes : Int) * (m : Int) > 2 ^ 48) := by
    have : (inf'.bytes : Int) * (m : Int) = ((m * inf'.bytes : Nat) : Int) := by simp [Int.mul_comm]
    rw [this]; omega
  have h0 : ¬ (m * inf'.size = 0) := by
    rw [m3]
    intro h
    rcases Nat.mul_eq_zero.1 h with h | h <;> omega
  have c1 : ¬ ((m : Int) < 0) := by omega
  have c2 : ¬ ((n : Int) < 0) := by omega
  have c3 : ¬ ((n : Int) > (m : Int)) := by omega
  simp only [Instr.makeSlice, Sem.run_bind, run_und h2, Result.andThen_ok, asInt, asIntOf, Sem.run_pure, run_tinfo g1, hwl, hwc]
  simp only [c1, c2, c3, hbig, decide_false, Bool.or_false, Bool.false_eq_true, or_self, if_false, Sem.run_bind, Int.toNat_natCast, run_askRoom, run_size g1, Result.andThen_ok, if_neg h0, run_zeroValue g1 g2, Sem.run_pure, e1]
  simp [run_newRow]

end
end
end Go.AX

/- More operations: clear, copy, unsafe.SliceData, unsafe.String. -/
set_option autoImplicit false
set_option linter.unusedSimpArgs false
set_option linter.unusedVariables false
namespace Go.AX
noncomputable section
variable {a0 : Nat → Value}

section
variable {P : Program} {E : Env} {C : List Nat}

def xClear (E : Env) (s : H) (t : Nat) (a : AV) : R H := do
  let i ← ti E t
  match i.desc, a with
  | .slice _, .nils => .ok s
  | .slice _, .slz => .ok s
  | .slice e, .slc b off n _ _ =>
    bif Nat.beq n 0 then .ok s else do
      let j ← ti E e
      bif Nat.beq j.zero.length j.size && Nat.blt 0 j.size && (repl j.zero n).all flat then storeN s b off (repl j.zero n) else .error "clear"
  | _, _ => .error "clear"

theorem xClear_ok (hE : TyOk P E) {ρ : Ren a0} {w : World} {s s' : H} (hw : WR ρ s.hp w) {t ty : Nat} {a : AV} {x : Value} (hx : VR ρ a x) (h : xClear E s t a = .ok s') (ats : Array TypeId) (ha : ats[0]? = some t) :
    ∃ w', (Builtin.clear_ ats ty #[x]).run P w = .ok (.tuple #[]) w' ∧ On ρ w s ρ w' s' := by
  simp only [xClear, bind_ok] at h
  obtain ⟨i, hi, h⟩ := h
  obtain ⟨inf, h1, h2, h3, h4, h5⟩ := hE.find hi
  split at h
  · next ed => rw [ed] at h2; cases h; cases hx; exact ⟨w, by simp [Builtin.clear_, ha, run_und h2], .refl hw⟩
  · next ed => rw [ed] at h2; cases h; cases hx; exact ⟨w, by simp [Builtin.clear_, ha, run_und h2], .refl hw⟩
  · next e b off n cp es ed =>
    rw [ed] at h2
    cases hx with | slc _ _ _ _ _ y c hy hc1 hc2 hc3 =>
    cases hn : Nat.beq n 0 with
    | true =>
      rw [hn] at h; cases h
      obtain rfl := Nat.eq_of_beq_eq_true hn
      exact ⟨w, by simp [Builtin.clear_, ha, run_und h2], .refl hw⟩
    | false =>
      rw [hn] at h
      simp only [cond_false, bind_ok] at h
      obtain ⟨j, hj, h⟩ := h
      replace h := bif_ok.1 h
      obtain ⟨hb, h⟩ := h
      simp only [Bool.and_eq_true] at hb
      obtain ⟨⟨b1, b2⟩, b3⟩ := hb
      replace b1 := Nat.eq_of_beq_eq_true b1
      replace b2 := blt_iff.1 b2
      obtain ⟨inf', z, g1, g2, g3⟩ := zero_some (ρ := ρ) hE hj (by intro e; rw [e] at b1; simp at b1; omega)
      obtain ⟨y', w', p1, p2, p3, p4, p5⟩ := run_storeN (P := P) hw h (repl_ok g3 n) b3
      rw [hy] at p1; cases p1
      refine ⟨w', ?_, ⟨p3, p4, by rw [p5]; exact Nat.le_refl _, fun _ _ => rfl⟩⟩
      obtain ⟨k, rfl⟩ : ∃ k, n = k + 1 := ⟨n - 1, by cases n with | zero => simp at hn | succ n => rfl⟩
      have e1 : (Builtin.zeroCells z.cells (k + 1)).toList = replV z.cells.toList (k + 1) := by
        unfold Builtin.zeroCells
        rw [range_repl]
      have e0 : Builtin.clear_ ats ty #[.slice (some ⟨y, off, none⟩) (k + 1) c] = (do
          let (some t, some x) := (ats[0]?, some (Value.slice (some ⟨y, off, none⟩) (k + 1) c)) | stuck "clear: one argument expected"
          match ← underlying t, x with
          | _, .map none | _, .slice none _ _ | _, .slice _ 0 _ => pure ()
          | _, .map (some r) =>
            let .map _ clock ← getObj r | stuck "clear: map expected"
            setObj r (.map #[] clock)
          | .slice elem, .slice (some a) n _ =>
            storeCells a (Builtin.zeroCells (← zeroValue elem).cells n).toList
          | _, _ => stuck "clear: map or slice expected"
          pure (.tuple #[])) := rfl
      rw [e0]
      simp only [ha, Sem.run_bind, run_und h2, Result.andThen_ok, run_zeroValue g1 g2, e1, p2, Sem.run_pure]
  · cases h

def xCopy (E : Env) (s : H) (t : Nat) (d x : AV) : R (AV × H) := do
  let i ← ti E t
  match i.desc with
  | .slice e => do
    let j ← ti E e
    let n1 ← xLen1 x
    let n2 ← xLen1 d
    let cells ← xFirst s j.size (Nat.min n1 n2) x
    match d with
    | .nils => .ok (.int .i64 (Int.ofNat (Nat.min n1 n2)), s)
    | .slc b off _ _ _ => bif cells.all flat then (do
        let s' ← storeN s b off cells
        .ok (.int .i64 (Int.ofNat (Nat.min n1 n2)), s')) else .error "copy"
    | _ => .error "copy"
  | _ => .error "copy"

theorem xCopy_ok (hE : TyOk P E) {ρ : Ren a0} {w : World} {s s' : H} (hw : WR ρ s.hp w) {t t2 ty : Nat} {d x v : AV} {vd vx : Value} (hd : VR ρ d vd) (hx : VR ρ x vx) (h : xCopy E s t d x = .ok (v, s')) (ats : Array TypeId) (ha : ats[0]? = some t) :
    ∃ y w', (Builtin.copy_ ats ty #[vd, vx]).run P w = .ok y w' ∧ VR ρ v y ∧ On ρ w s ρ w' s' := by
  simp only [xCopy, bind_ok] at h
  obtain ⟨i, hi, h⟩ := h
  obtain ⟨inf, h1, h2, h3, h4, h5⟩ := hE.find hi
  split at h
  case h_2 => cases h
  next e ed =>
  rw [ed] at h2
  simp only [bind_ok] at h
  obtain ⟨j, hj, n1, hn1, n2, hn2, cells, hcl, h⟩ := h
  obtain ⟨inf', m1, m2, m3, m4, m5⟩ := hE.find hj
  have q1 := xLen1_ok (P := P) (w := w) hn1 hx
  obtain ⟨vs, q2, q3, q4⟩ := xFirst_ok (P := P) hw hcl hx
  split at h
  · cases h
    cases hd
    simp only [xLen1] at hn2
    cases hn2
    refine ⟨.int .i64 (Int.ofNat (Nat.min n1 0)), w, ?_, .int _ _, .refl hw⟩
    have e0 : Builtin.copy_ ats ty #[.slice none 0 0, vx] = (do
        let (some dType, some dst, some src) := (ats[0]?, some (Value.slice none 0 0), some vx) | stuck "copy: two arguments expected"
        let .slice elem ← underlying dType | stuck "copy: slice type expected"
        let .slice base dLen _ := dst | stuck "copy: slice expected"
        let n := Nat.min (← Builtin.lenOf src) dLen
        let cells ← Builtin.firstCells (← sizeOf elem) n src
        if let some a := base then storeCells a cells.toList
        pure (goInt n)) := rfl
    rw [e0]
    simp only [ha, Sem.run_bind, run_und h2, Result.andThen_ok, q1, run_size m1, m3, q2 w rfl, Sem.run_pure]
    rfl
  · next b off len cp es =>
    replace h := bif_ok.1 h
    obtain ⟨hfl, h⟩ := h
    simp only [bind_ok] at h
    obtain ⟨s1, hst, h⟩ := h
    cases h
    cases hd with | slc _ _ _ _ _ y c hy hc1 hc2 hc3 =>
    simp only [xLen1] at hn2
    have hn3 : len = n2 := by injection hn2
    subst hn3
    obtain ⟨y', w', p1, p2, p3, p4, p5⟩ := run_storeN (P := P) hw hst q3 hfl
    rw [hy] at p1; cases p1
    refine ⟨.int .i64 (Int.ofNat (Nat.min n1 len)), w', ?_, .int _ _, ⟨p3, p4, by rw [p5]; exact Nat.le_refl _, fun _ _ => rfl⟩⟩
    have e0 : Builtin.copy_ ats ty #[.slice (some ⟨y, off, none⟩) len c, vx] = (do
        let (some dType, some dst, some src) := (ats[0]?, some (Value.slice (some ⟨y, off, none⟩) len c), some vx) | stuck "copy: two arguments expected"
        let .slice elem ← underlying dType | stuck "copy: slice type expected"
        let .slice base dLen _ := dst | stuck "copy: slice expected"
        let n := Nat.min (← Builtin.lenOf src) dLen
        let cells ← Builtin.firstCells (← sizeOf elem) n src
        if let some a := base then storeCells a cells.toList
        pure (goInt n)) := rfl
    rw [e0]
    simp only [ha, Sem.run_bind, run_und h2, Result.andThen_ok, q1, run_size m1, m3, q2 w rfl, p2, Sem.run_pure]
    rfl
  · cases h

def xSliceData (a : AV) : R AV :=
  match a with
  | .slc b off n cp _ => match cp with
    | some c => bif Nat.blt 0 c then .ok (.ptr b off) else .error "sliceData"
    | none => bif Nat.blt 0 n then .ok (.ptr b off) else .error "sliceData"
  | .nils => .ok .nilp
  | _ => .error "sliceData"

theorem xSliceData_ok {ρ : Ren a0} {w : World} {a : AV} {x : Value} (hx : VR ρ a x) (ats : Array TypeId) (ty : TypeId) : Pu P ρ w (Builtin.unsafeSliceData_ ats ty #[x]) (xSliceData a) := by
  intro v h
  unfold xSliceData at h
  split at h
  · next b off n cp es =>
    cases hx with | slc _ _ _ _ _ y c hy hc1 hc2 hc3 =>
    have key : 0 < c ∧ v = .ptr b off := by
      split at h
      · next c' =>
        replace h := bif_ok.1 h
        obtain ⟨h0, h⟩ := h
        cases h
        have := hc2 c' rfl
        exact ⟨by rw [this]; exact blt_iff.1 h0, rfl⟩
      · replace h := bif_ok.1 h
        obtain ⟨h0, h⟩ := h
        cases h
        have := blt_iff.1 h0
        exact ⟨by omega, rfl⟩
    obtain ⟨h0, rfl⟩ := key
    exact ⟨_, Lib.run_unsafeSliceData_row w ats ty _ n c (by omega), .ptr b off y hy⟩
  · cases h
    cases hx
    exact ⟨_, Lib.run_unsafeSliceData_nil w ats ty 0 0, .nilp⟩
  · cases h

def xUnsafeString (E : Env) (s : H) (pt : Nat) (p n : AV) : R (AV × H) :=
  match p, n with
  | .nilp, .int .i64 (.ofNat n) => bif Nat.beq n 0 then .ok (.str [], s) else .error "unsafeString"
  | .ptr b off, .int .i64 (.ofNat n) => bif Nat.blt 0 n && Nat.beq off 0 && Nat.ble n 100000 then (do
      let i ← ti E pt
      match i.desc, s.hp.get b with
      | .pointer e, some (.cells c m e' f) => do
        let j ← ti E e
        bif Nat.beq e e' && Nat.beq j.size 1 then (do
          let l ← loadN s b 0 n
          let bs ← bytesA l
          .ok (.str bs, setO s b (.cells c m e' true))) else .error "unsafeString"
      | _, _ => .error "unsafeString") else .error "unsafeString"
  | _, _ => .error "unsafeString"

theorem freeze_upd {w : World} {x : Nat} {l : List Value} {e : TypeId} {z : Nat × Nat} (h : w.heap[x]? = some (.cells l.toArray e z)) (n : Nat) (hn : n ≠ 0) :
    ∃ z', Upd w (w.freeze ⟨x, 0, none⟩ n) x (.cells l.toArray e z') := by
  obtain ⟨lo, hi⟩ := z
  refine ⟨if lo == hi then (0, 0 + n) else (min lo 0, max hi (0 + n)), ⟨by simp [World.freeze, hn], fun y => ?_, by simp [World.freeze, hn], by simp [World.freeze, hn], by simp [World.freeze, hn]⟩⟩
  simp only [World.freeze, if_neg hn, Array.getElem?_modify]
  by_cases hy : x = y
  · subst hy; simp [h]
  · rw [if_neg hy, if_neg (fun e => hy e.symm)]

theorem xUnsafeString_ok (hE : TyOk P E) {ρ : Ren a0} {w : World} {s s' : H} (hw : WR ρ s.hp w) {pt it ty : Nat} {p n v : AV} {vp vn : Value} (hp : VR ρ p vp) (hn : VR ρ n vn) (h : xUnsafeString E s pt p n = .ok (v, s')) :
    ∃ y w', (Builtin.unsafeString_ #[pt, it] ty #[vp, vn]).run P w = .ok y w' ∧ VR ρ v y ∧ On ρ w s ρ w' s' := by
  unfold xUnsafeString at h
  split at h
  · next n =>
    replace h := bif_ok.1 h
    obtain ⟨h0, h⟩ := h
    obtain rfl := Nat.eq_of_beq_eq_true h0
    cases h; cases hp; cases hn
    exact ⟨_, w, Lib.run_unsafeString_none w pt it ty none, .str _ _ rfl, .refl hw⟩
  · next b off n =>
    replace h := bif_ok.1 h
    obtain ⟨h0, h⟩ := h
    simp only [Bool.and_eq_true] at h0
    obtain ⟨⟨b1, b2⟩, b3⟩ := h0
    replace b1 := blt_iff.1 b1
    obtain rfl := Nat.eq_of_beq_eq_true b2
    replace b3 := Nat.le_of_ble_eq_true b3
    simp only [bind_ok] at h
    obtain ⟨i, hi, h⟩ := h
    obtain ⟨inf, h1, h2, h3, h4, h5⟩ := hE.find hi
    split at h
    case h_2 => cases h
    next e c m e' f ed hget =>
    rw [ed] at h2
    simp only [bind_ok] at h
    obtain ⟨j, hj, h⟩ := h
    replace h := bif_ok.1 h
    obtain ⟨h0, h⟩ := h
    simp only [Bool.and_eq_true] at h0
    obtain ⟨c1, c2⟩ := h0
    obtain rfl := Nat.eq_of_beq_eq_true c1
    replace c2 := Nat.eq_of_beq_eq_true c2
    simp only [bind_ok] at h
    obtain ⟨l, hl, bs, hbs, h⟩ := h
    cases h
    obtain ⟨inf', m1, m2, m3, m4, m5⟩ := hE.find hj
    obtain ⟨x, vs, rest, z, g1, g2, g3, g4, g5, g6, g7⟩ := cells_of hw hget
    cases hp with | ptr _ _ x' hx' =>
    rw [g1] at hx'; cases hx'
    cases hn
    -- what is read
    simp only [loadN, getO, bind_ok] at hl
    obtain ⟨o, ho, hl⟩ := hl
    rw [hget] at ho
    cases ho
    simp only at hl
    replace hl := bif_ok.1 hl
    obtain ⟨hlen, hl⟩ := hl
    cases hl
    replace hlen := Nat.eq_of_beq_eq_true hlen
    have hvs : VRs ρ ((c.drop 0).take n) ((vs.drop 0).take n) := (g4.drop 0).take n
    obtain ⟨e1, e2⟩ := bytesA_vals hvs hbs
    have hbl : bs.length = n := by
      have := congrArg List.length e1
      rw [List.length_map, ← hvs.length, hlen] at this
      exact this.symm
    let u : List UInt8 := bs.map UInt8.ofNat
    have hu : bs = u.map UInt8.toNat := by
      simp only [u, List.map_map]
      conv => lhs; rw [← List.map_id bs]
      apply List.map_congr_left
      intro k hk
      have := e2 k hk
      simp [Nat.mod_eq_of_lt this]
    have hul : u.length = n := by simp [u, hbl]
    have hsh : w.shape? x = some (e, (vs ++ rest).length) := by
      simp [World.shape?, g3]
    have hcell : ∀ j y, u[j]? = some y → w.cell? ((⟨x, 0, none⟩ : Addr).add j) = some (.int .u8 y.toNat) := by
      intro k y hy
      rw [Addr.add_n, Nat.zero_add, cell_at g3]
      have hk : k < n := by rw [← hul]; exact (List.getElem?_eq_some_iff.1 hy).1
      have hk2 : ((vs.drop 0).take n)[k]? = some (Value.int .u8 (Int.ofNat y.toNat)) := by
        rw [e1, hu, List.map_map, List.getElem?_map, hy]
        rfl
      rw [List.drop_zero, List.getElem?_take_of_lt hk] at hk2
      rw [List.getElem?_append_left (List.getElem?_eq_some_iff.1 hk2).1, hk2]
      rfl
    have hle : n ≤ vs.length := by
      have := hvs.length
      rw [hlen] at this
      simp only [List.drop_zero, List.length_take] at this
      omega
    have hcof : P.cellsOf e = 1 := by simp [Program.cellsOf, m1, m3, c2]
    have hrun := Lib.run_unsafeString_row (P := P) w pt it ty e h2 hcof x (vs ++ rest).length hsh u (by intro e; rw [e] at hul; simp at hul; omega) (by simp; omega) (by omega) hcell
    rw [hul] at hrun
    obtain ⟨z', hupd⟩ := freeze_upd g3 n (by omega)
    obtain ⟨q1, q2⟩ := hw.upd hget g1 hupd (o := .cells c m e true) (.cells _ _ _ _ _ _ _ g4 g5 (fun e => by cases e)) (by simp [ObSize]; omega) (fun _ _ _ e => by cases e) (fun _ _ _ e => by cases e)
    refine ⟨_, _, hrun, .str _ _ ?_, ⟨q1, q2, Nat.le_refl _, fun _ _ => rfl⟩⟩
    rw [hu]
    rfl
  · cases h

end
end
end Go.AX

/- Conversions to and from unsafe.Pointer. -/
set_option autoImplicit false
set_option linter.unusedSimpArgs false
set_option linter.unusedVariables false
namespace Go.AX
noncomputable section
variable {a0 : Nat → Value}

section
variable {P : Program} {E : Env} {C : List Nat}

theorem liesAt_self {e : TypeId} (hc : P.cellsOf e ≠ 0) (count : Nat) (hn : 1 ≤ count) : liesAt P P.depth e count 0 e 1 = true := by
  have hd : P.depth = (2 * (P.types.size + Made.depth) + 1) + 1 := rfl
  rw [hd]
  simp only [liesAt, Bool.or_eq_true]
  left
  rw [hd]
  simp [rowAt, hc, hn, sameLayout]

def xConvU (E : Env) (s : H) (src dst b off : Nat) : R AV := do
  let i ← ti E src
  let d ← ti E dst
  match s.hp.get b with
  | some (.cells c m e f) =>
    bif Nat.blt off c.length then
      (match i.desc, d.desc with
      | .pointer t, .unsafePointer => do
        let j ← ti E t
        bif Nat.blt 0 j.size then .ok (.ptr b off) else .error "convU"
      | .unsafePointer, .pointer u => do
        let j ← ti E u
        bif Nat.beq u e && Nat.beq off 0 && Nat.blt 0 j.size && Nat.ble j.size c.length then .ok (.ptr b off) else .error "convU"
      | _, _ => .error "convU")
    else .error "convU"
  | _ => .error "convU"

theorem xConvU_ok (hE : TyOk P E) {ρ : Ren a0} {w : World} {s : H} (hw : WR ρ s.hp w) {src dst b off : Nat} {x : Value} (hx : VR ρ (.ptr b off) x) : Pu P ρ w (convert src dst x) (xConvU E s src dst b off) := by
  intro v h
  simp only [xConvU, bind_ok] at h
  obtain ⟨i, hi, d, hd, h⟩ := h
  obtain ⟨inf, h1, h2, h3, h4, h5⟩ := hE.find hi
  obtain ⟨inf', k1, k2, k3, k4, k5⟩ := hE.find hd
  split at h
  case h_2 => cases h
  next c m e f hget =>
  replace h := bif_ok.1 h
  obtain ⟨hlt, h⟩ := h
  replace hlt := blt_iff.1 hlt
  obtain ⟨y, vs, rest, z, g1, g2, g3, g4, g5, g6, g7⟩ := cells_of hw hget
  cases hx with | ptr _ _ y' hy =>
  rw [g1] at hy; cases hy
  have hl := g4.length
  have hsh : w.shape? y = some (e, (vs ++ rest).length) := by simp [World.shape?, g3]
  split at h
  · next t ed1 ed2 =>
    rw [ed1] at h2; rw [ed2] at k2
    simp only [bind_ok] at h
    obtain ⟨j, hj, h⟩ := h
    replace h := bif_ok.1 h
    obtain ⟨h0, h⟩ := h
    replace h0 := blt_iff.1 h0
    cases h
    obtain ⟨inf'', m1, m2, m3, m4, m5⟩ := hE.find hj
    exact ⟨_, Lib.run_to_unsafe w ⟨y, off, none⟩ h2 k2 m1 (by omega) hsh (by simp; omega), .ptr b off y g1⟩
  · next u ed1 ed2 =>
    rw [ed1] at h2; rw [ed2] at k2
    simp only [bind_ok] at h
    obtain ⟨j, hj, h⟩ := h
    replace h := bif_ok.1 h
    obtain ⟨h0, h⟩ := h
    simp only [Bool.and_eq_true] at h0
    obtain ⟨⟨⟨c1, c2⟩, c3⟩, c4⟩ := h0
    obtain rfl := Nat.eq_of_beq_eq_true c1
    obtain rfl := Nat.eq_of_beq_eq_true c2
    replace c3 := blt_iff.1 c3
    replace c4 := Nat.le_of_ble_eq_true c4
    cases h
    obtain ⟨inf'', m1, m2, m3, m4, m5⟩ := hE.find hj
    have hcof : P.cellsOf u = j.size := by simp [Program.cellsOf, m1, m3]
    have hlies : liesAt P P.depth u ((vs ++ rest).length / P.cellsOf u) 0 u 1 = true := by
      refine liesAt_self (by omega) _ ?_
      rw [hcof]
      exact (Nat.le_div_iff_mul_le c3).2 (by simp; omega)
    exact ⟨_, Lib.run_from_unsafe w ⟨y, 0, none⟩ h2 k2 m1 hsh hlies, .ptr b 0 y g1⟩
  · cases h

end
end
end Go.AX

