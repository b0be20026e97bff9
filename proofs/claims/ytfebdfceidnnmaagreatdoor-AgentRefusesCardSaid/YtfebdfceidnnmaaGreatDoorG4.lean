/- Code. -/
import Derived.Test.YtfebdfceidnnmaaGreatDoorG3
import Derived.Scope
import Derived.LoopN
import Derived.Laws.Sem
set_option autoImplicit false
set_option linter.unusedSimpArgs false
set_option linter.unusedVariables false
namespace Go.AX
noncomputable section
variable {a0 : Nat → Value}

inductive Ex where
  | normal
  | exit (id : Nat)
  | goto (l : Nat)
  | ret

def Ex.out : Ex → Exit
  | .normal => .normal
  | .exit i => .exit i
  | .goto l => .goto l
  | .ret => .ret

abbrev Outs := List (Ex × St)

def contF (f : St → R Outs) (p : Ex × St) : R Outs :=
  match p with
  | (.normal, s) => f s
  | (.exit i, s) => .ok [(.exit i, s)]
  | (.goto l, s) => .ok [(.goto l, s)]
  | (.ret, s) => .ok [(.ret, s)]

def inBlockF (id : Nat) (p : Ex × St) : Ex × St :=
  match p with
  | (.exit i, s) => (bif Nat.beq i id then .normal else .exit i, s)
  | (.normal, s) => (.normal, s)
  | (.goto l, s) => (.goto l, s)
  | (.ret, s) => (.ret, s)

def norms : Outs → List St
  | [] => []
  | (.normal, s) :: l => s :: norms l
  | (.exit _, _) :: l => norms l
  | (.goto _, _) :: l => norms l
  | (.ret, _) :: l => norms l

def offs : Outs → Outs
  | [] => []
  | (.normal, _) :: l => offs l
  | (.exit i, s) :: l => (.exit i, s) :: offs l
  | (.goto i, s) :: l => (.goto i, s) :: offs l
  | (.ret, s) :: l => (.ret, s) :: offs l

/-- the rounds of a loop, all that stand together -/
def iterF (f : St → R Outs) (mg : Outs → Outs) : Nat → List St → R Outs
  | 0, _ => .error "rounds"
  | n + 1, ss =>
    match ss with
    | [] => .ok []
    | s :: l => do
      let o ← bindL f (s :: l)
      let r ← iterF f mg n (norms (mg o))
      .ok (offs (mg o) ++ r)

def landF (below : Code → Code → St → R Outs) (b : Code) (p : Ex × St) : R Outs :=
  match p with
  | (.goto l, s) => match findLabel b l with
    | some rest => below b rest s
    | none => .ok [(.goto l, s)]
  | (.normal, s) => .ok [(.normal, s)]
  | (.exit i, s) => .ok [(.exit i, s)]
  | (.ret, s) => .ok [(.ret, s)]

def rounds : Nat := 100000

section
variable (E : Env) (C : List Nat) (call : CallF) (N : Nat) (mg : Outs → Outs)

def regC (ops : Array Oper) (draw : Bool) (s : St) : R (List St) := bif draw then regE E C call N ops s else regF E C call N ops ops.toList s

def codeF (below : Code → Code → St → R Outs) : Code → St → R Outs
  | .skip, s => .ok [(.normal, s)]
  | .label _, s => .ok [(.normal, s)]
  | .region _ ops draw, s => do
    let l ← regC E C call N ops draw s
    .ok (l.map fun s => (.normal, s))
  | .seq a b, s => do
    let l ← codeF below a s
    bindL (contF (codeF below b)) l
  | .cond c a b, s => match ev s.tm c with
    | .bool t => bif t then codeF below a s else codeF below b s
    | _ => .error "cond"
  | .block id b, s => do
    let l ← codeF below b s
    .ok (l.map (inBlockF id))
  | .loop b, s => iterF (codeF below b) mg rounds [s]
  | .scope b, s => do
    let l ← codeF below b s
    bindL (landF below b) l
  | .exit id, s => .ok [(.exit id, s)]
  | .goto l, s => .ok [(.goto l, s)]
  | .ret, s => .ok [(.ret, s)]
  | .refuse _, _ => .error "refuse"
  | .rangeFunc .., _ => .error "rangeFunc"

def belowF : Nat → Code → Code → St → R Outs
  | 0 => fun _ _ _ => .error "gotos"
  | n + 1 => fun b rest s => do
    let l ← codeF E C call N mg (belowF n) rest s
    bindL (landF (belowF n) b) l

end

/-- the one heap says less than the other: objects are left out; of iterators it is forgotten where they stand -/
def Hw (hp hp' : Heap) : Prop := ∀ b o', hp'.get b = some o' → hp.get b = some o' ∨
  ∃ m ver seen sn, hp.get b = some (.iter m ver seen) ∧ o' = .iter m ver (lim :: sn) ∧ (∀ i, i ≠ lim → (i ∈ sn ↔ i ∈ seen)) ∧ ∃ es ck v, hp.get m = some (.map es ck v) ∧ es.length ≤ lim

theorem Hw.refl (hp : Heap) : Hw hp hp := fun _ _ h => .inl h

theorem Hw.less {hp hp' : Heap} (h : ∀ b o, hp'.get b = some o → hp.get b = some o) : Hw hp hp' := fun b o h' => .inl (h b o h')

theorem WR.hw {ρ : Ren a0} {hp hp' : Heap} {w : World} (h : WR ρ hp w) (hh : Hw hp hp') : WR ρ hp' w := by
  have hsome : ∀ b o', hp'.get b = some o' → ∃ o, hp.get b = some o := by
    intro b o' hb
    rcases hh b o' hb with h1 | ⟨m, ver, seen, sn, h1, _⟩
    · exact ⟨_, h1⟩
    · exact ⟨_, h1⟩
  have hmap : ∀ m es ck v, hp'.get m = some (.map es ck v) → hp.get m = some (.map es ck v) := by
    intro m es ck v hm
    rcases hh m _ hm with h1 | ⟨_, _, _, _, _, h2, _⟩
    · exact h1
    · cases h2
  refine ⟨?_, ?_, h.lt, h.bd, ?_, ?_⟩
  · intro b o' hb
    rcases hh b o' hb with h1 | ⟨m, ver, seen, sn, h1, rfl, _⟩
    · exact h.obj b _ h1
    · obtain ⟨x, ob, g1, g2, g3, g4⟩ := h.obj b _ h1
      refine ⟨x, ob, g1, g2, ?_, g4⟩
      cases g3 with
      | iter _ _ _ x since last sb hx => exact .iter _ _ _ _ _ _ _ hx
  · intro b b' o o' x hb hb' hx hx'
    obtain ⟨_, g1⟩ := hsome b o hb
    obtain ⟨_, g2⟩ := hsome b' o' hb'
    exact h.inj b b' _ _ x g1 g2 hx hx'
  · intro b m ver seen hb es ck hm
    have hm' := hmap m es ck ver hm
    rcases hh b _ hb with h1 | ⟨m', ver', seen', sn, h1, h2, h3, h4⟩
    · exact h.itr b m ver seen h1 es ck hm'
    · cases h2
      obtain ⟨x, y, ms, sb, ms', i1, i2, i3, i4, i5, i6, i7, i8, i9, i10, i11⟩ := h.itr b m ver seen' h1 es ck hm'
      have hlen : ms'.length ≤ lim := by
        have := i6.length
        simp only [List.length_map] at this
        rw [← this]
        obtain ⟨es2, ck2, v2, q1, q2⟩ := h4
        rw [hm'] at q1; cases q1
        exact q2
      refine ⟨x, y, ms, sb, ms', i1, i2, i3, i4, i5, i6, i7, i8, i9, fun i e hi => ?_, fun i l e hne => ?_⟩
      · have hne : i ≠ lim := by
          intro e'
          have := (List.getElem?_eq_some_iff.1 hi).1
          omega
        rw [i10 i e hi, ← h3 i hne]
        simp [hne]
      · cases e
        exact absurd rfl hne
  · intro b m ver seen es ck ver' hb hm
    have hm' := hmap m es ck ver' hm
    rcases hh b _ hb with h1 | ⟨m', ver'', seen', sn, h1, h2, h3, h4⟩
    · exact h.ver b m ver seen es ck ver' h1 hm'
    · cases h2
      exact h.ver b m ver seen' es ck ver' h1 hm'

/-- the one says less than the other -/
structure Wk (s s' : St) : Prop where
  tm : ∀ i v, s'.tm.get i = some v → s.tm.get i = some v
  hp : Hw s.h.hp s'.h.hp
  nx : s.h.nx ≤ s'.h.nx

def MgOk (mg : Outs → Outs) : Prop := ∀ l, ∀ o ∈ l, ∃ o' ∈ mg l, o'.1 = o.1 ∧ Wk o.2 o'.2

theorem MgOk.id : MgOk (fun l => l) := fun l o ho => ⟨o, ho, rfl, fun _ _ h => h, .refl _, Nat.le_refl _⟩

theorem On.wk {ρ ρ' : Ren a0} {w w' : World} {s s' s'' : H} (h : On ρ w s ρ' w' s') (hh : Hw s'.hp s''.hp) (hn : s'.nx ≤ s''.nx) : On ρ w s ρ' w' s'' where
  wr := h.wr.hw hh
  ex := h.ex
  nx := Nat.le_trans h.nx hn
  same := fun b hb => h.same b (by omega)

theorem FR.wk {ρ : Ren a0} {N : Nat} {tm tm' : V AV} {a : Act} (h : FR ρ N tm a) (ht : ∀ i v, tm'.get i = some v → tm.get i = some v) : FR ρ N tm' a :=
  ⟨h.def_, h.size, fun i v hi => h.get i v (ht i v hi)⟩

theorem On.heq {ρ ρ' : Ren a0} {w w1 w' : World} {s s' : H} (h : On ρ w1 s ρ' w' s') (e : Heq w w1) : On ρ w s ρ' w' s' where
  wr := h.wr
  ex := (Ex1.heq e).trans h.ex
  nx := h.nx
  same := h.same

def UpF (f : St → R Outs) : Prop := ∀ s outs, f s = .ok outs → ∃ o ∈ outs, s.h.nx ≤ o.2.h.nx

theorem mem_norms : ∀ (l : Outs) (s : St), (Ex.normal, s) ∈ l → s ∈ norms l
  | [], s, h => by simp at h
  | (e, t) :: l, s, h => by
    rcases List.mem_cons.1 h with h | h
    · cases h; exact List.mem_cons_self ..
    · have := mem_norms l s h
      cases e <;> simp [norms, this]

theorem mem_offs : ∀ (l : Outs) (o : Ex × St), o ∈ l → o.1 ≠ .normal → o ∈ offs l
  | [], s, h, _ => by simp at h
  | (e, t) :: l, o, h, hn => by
    rcases List.mem_cons.1 h with h | h
    · subst h; cases e <;> simp [offs] at hn ⊢
    · have := mem_offs l o h hn
      cases e <;> simp [offs, this]

theorem contF_up {f : St → R Outs} (hf : UpF f) {p : Ex × St} {outs : Outs} (h : contF f p = .ok outs) : ∃ o ∈ outs, p.2.h.nx ≤ o.2.h.nx := by
  obtain ⟨e, s⟩ := p
  cases e with
  | normal => exact hf s outs h
  | exit i => cases h; exact ⟨_, List.mem_singleton.2 rfl, Nat.le_refl _⟩
  | goto i => cases h; exact ⟨_, List.mem_singleton.2 rfl, Nat.le_refl _⟩
  | ret => cases h; exact ⟨_, List.mem_singleton.2 rfl, Nat.le_refl _⟩

theorem iterF_up {f : St → R Outs} {mg : Outs → Outs} (hmg : MgOk mg) (hf : UpF f) : ∀ (n : Nat) (ss : List St) (outs : Outs), iterF f mg n ss = .ok outs → ∀ s ∈ ss, ∃ o ∈ outs, s.h.nx ≤ o.2.h.nx
  | 0, ss, outs, h => by simp [iterF] at h
  | n + 1, [], outs, h => by simp
  | n + 1, s0 :: l, outs, h => by
    intro s hs
    simp only [iterF, bind_ok] at h
    obtain ⟨o, ho, r, hr, h⟩ := h
    cases h
    obtain ⟨_, hall⟩ := bindL_ok ho
    obtain ⟨x, hx, hsub⟩ := hall s hs
    obtain ⟨p, hp, hle⟩ := hf s x hx
    obtain ⟨p', hp', he, hwk⟩ := hmg o p (hsub p hp)
    have hle2 := Nat.le_trans hle hwk.nx
    obtain ⟨e, t⟩ := p'
    by_cases hn : e = .normal
    · subst hn
      obtain ⟨q, hq, hle3⟩ := iterF_up hmg hf n _ r hr t (mem_norms _ _ hp')
      exact ⟨q, List.mem_append_right _ hq, Nat.le_trans hle2 hle3⟩
    · exact ⟨(e, t), List.mem_append_left _ (mem_offs _ _ hp' hn), hle2⟩

theorem landF_up {below : Code → Code → St → R Outs} (hb : ∀ b rest, UpF (below b rest)) {b : Code} {p : Ex × St} {outs : Outs} (h : landF below b p = .ok outs) : ∃ o ∈ outs, p.2.h.nx ≤ o.2.h.nx := by
  obtain ⟨e, s⟩ := p
  cases e with
  | normal => cases h; exact ⟨_, List.mem_singleton.2 rfl, Nat.le_refl _⟩
  | exit i => cases h; exact ⟨_, List.mem_singleton.2 rfl, Nat.le_refl _⟩
  | ret => cases h; exact ⟨_, List.mem_singleton.2 rfl, Nat.le_refl _⟩
  | goto l =>
    simp only [landF] at h
    cases hl : findLabel b l with
    | none => rw [hl] at h; cases h; exact ⟨_, List.mem_singleton.2 rfl, Nat.le_refl _⟩
    | some rest => rw [hl] at h; exact hb b rest s outs h

theorem bindL_up {f : Ex × St → R Outs} (hf : ∀ p outs, f p = .ok outs → ∃ o ∈ outs, p.2.h.nx ≤ o.2.h.nx) {l outs : Outs} (h : bindL f l = .ok outs) {k : Nat} (hk : ∃ o ∈ l, k ≤ o.2.h.nx) : ∃ o ∈ outs, k ≤ o.2.h.nx := by
  obtain ⟨o, ho, hle⟩ := hk
  obtain ⟨_, hall⟩ := bindL_ok h
  obtain ⟨x, hx, hsub⟩ := hall o ho
  obtain ⟨q, hq, h2⟩ := hf o x hx
  exact ⟨q, hsub q hq, Nat.le_trans hle h2⟩

section
variable {P : Program} {E : Env} {C : List Nat} {call : CallF} {N : Nat} {mg : Outs → Outs}

theorem regC_up {ops : Array Oper} {draw : Bool} {s : St} {outs : List St} (h : regC E C call N ops draw s = .ok outs) : ∃ o ∈ outs, s.h.nx ≤ o.h.nx := by
  cases draw with
  | false =>
    obtain ⟨g1, g2⟩ := regF_up _ _ _ h
    obtain ⟨o, ho⟩ := List.exists_mem_of_ne_nil _ g1
    exact ⟨o, ho, g2 o ho⟩
  | true =>
    exact regE_up h

theorem codeF_up (hmg : MgOk mg) {below : Code → Code → St → R Outs} (hb : ∀ b rest, UpF (below b rest)) : ∀ c, UpF (codeF E C call N mg below c) := by
  intro c
  induction c with
  | skip => intro s outs h; simp only [codeF] at h; cases h; exact ⟨_, List.mem_singleton.2 rfl, Nat.le_refl _⟩
  | label l => intro s outs h; simp only [codeF] at h; cases h; exact ⟨_, List.mem_singleton.2 rfl, Nat.le_refl _⟩
  | exit l => intro s outs h; simp only [codeF] at h; cases h; exact ⟨_, List.mem_singleton.2 rfl, Nat.le_refl _⟩
  | goto l => intro s outs h; simp only [codeF] at h; cases h; exact ⟨_, List.mem_singleton.2 rfl, Nat.le_refl _⟩
  | ret => intro s outs h; simp only [codeF] at h; cases h; exact ⟨_, List.mem_singleton.2 rfl, Nat.le_refl _⟩
  | refuse w => intro s outs h; simp [codeF] at h
  | rangeFunc f ps as b _ _ => intro s outs h; simp [codeF] at h
  | region id ops draw =>
    intro s outs h
    simp only [codeF, bind_ok] at h
    obtain ⟨l, hl, h⟩ := h
    cases h
    obtain ⟨o, ho, hle⟩ := regC_up hl
    exact ⟨(.normal, o), List.mem_map.2 ⟨o, ho, rfl⟩, hle⟩
  | seq a b iha ihb =>
    intro s outs h
    simp only [codeF, bind_ok] at h
    obtain ⟨l, hl, h⟩ := h
    exact bindL_up (fun p outs => contF_up ihb) h (iha s l hl)
  | cond x a b iha ihb =>
    intro s outs h
    simp only [codeF] at h
    split at h
    · next t _ =>
      cases t with
      | true => exact iha s outs h
      | false => exact ihb s outs h
    · cases h
  | block id b ih =>
    intro s outs h
    simp only [codeF, bind_ok] at h
    obtain ⟨l, hl, h⟩ := h
    cases h
    obtain ⟨o, ho, hle⟩ := ih s l hl
    refine ⟨inBlockF id o, List.mem_map.2 ⟨o, ho, rfl⟩, ?_⟩
    obtain ⟨e, t⟩ := o
    cases e <;> exact hle
  | loop b ih =>
    intro s outs h
    simp only [codeF] at h
    exact iterF_up hmg ih _ _ _ h s (List.mem_singleton.2 rfl)
  | scope b ih =>
    intro s outs h
    simp only [codeF, bind_ok] at h
    obtain ⟨l, hl, h⟩ := h
    exact bindL_up (fun p outs => landF_up hb) h (ih s l hl)

theorem belowF_up (hmg : MgOk mg) : ∀ n b rest, UpF (belowF E C call N mg n b rest)
  | 0, b, rest => fun s outs h => by simp [belowF] at h
  | n + 1, b, rest => fun s outs h => by
    simp only [belowF, bind_ok] at h
    obtain ⟨l, hl, h⟩ := h
    exact bindL_up (fun p outs => landF_up (belowF_up hmg n)) h (codeF_up hmg (belowF_up hmg n) rest s l hl)

/-- what holds at an end -/
def AtO (ρ : Ren a0) (w : World) (s : H) (N : Nat) (o : Ex × St) (e : Exit) (a' : Act) (w' : World) : Prop :=
  e = o.1.out ∧ ∃ ρ', On ρ w s ρ' w' o.2.h ∧ FR ρ' N o.2.tm a'

/-- a text in a state, and its ends -/
def Good (a0 : Nat → Value) (P : Program) (N : Nat) (c : Code) (s : St) (outs : Outs) : Prop :=
  ∀ hi, (∀ o ∈ outs, o.2.h.nx ≤ hi) → ∀ (ρ : Ren a0) a w, WR ρ s.h.hp w → Free ρ s.h.nx hi → FR ρ N s.tm a →
    c.wp P (fun e a' w' => ∃ o ∈ outs, AtO ρ w s.h N o e a' w') a w

def GoodIn (a0 : Nat → Value) (P : Program) (N : Nat) (b rest : Code) (s : St) (outs : Outs) : Prop :=
  ∀ hi, (∀ o ∈ outs, o.2.h.nx ≤ hi) → ∀ (ρ : Ren a0) a w, WR ρ s.h.hp w → Free ρ s.h.nx hi → FR ρ N s.tm a →
    ∀ bf k cs, ∃ e a' w', (∃ o ∈ outs, AtO ρ w s.h N o e a' w') ∧ Arrives P (lone (bf.at a (.code rest :: .inScope b :: k)) cs w) bf k cs e a' w'

theorem AtO.after {ρ ρ1 : Ren a0} {w w1 w' : World} {s s1 : H} {o : Ex × St} {e : Exit} {a' : Act} (h : On ρ w s ρ1 w1 s1) (h' : AtO ρ1 w1 s1 N o e a' w') : AtO ρ w s N o e a' w' := by
  obtain ⟨he, ρ', g1, g2⟩ := h'
  exact ⟨he, ρ', h.trans g1, g2⟩

theorem iterF_good {c : Code} {f : St → R Outs} (hmg : MgOk mg) (hup : UpF f) (hf : ∀ s outs, f s = .ok outs → Good a0 P N c s outs) :
    ∀ (n : Nat) (ss : List St) (outs : Outs), iterF f mg n ss = .ok outs → ∀ s ∈ ss, ∀ hi, (∀ o ∈ outs, o.2.h.nx ≤ hi) → ∀ (ρ : Ren a0) a w, WR ρ s.h.hp w → Free ρ s.h.nx hi → FR ρ N s.tm a →
      ∀ Q : Exit → Act → World → Prop, (∀ e a' w', (∃ o ∈ outs, AtO ρ w s.h N o e a' w') → Q e a' w') → Code.rounds P c Q n a w
  | 0, ss, outs, h => by simp [iterF] at h
  | n + 1, [], outs, h => by simp
  | n + 1, s0 :: l, outs, h => by
    intro s hs hi hbd ρ a w hw hfree hfr Q hq
    simp only [iterF, bind_ok] at h
    obtain ⟨o, ho, r, hr, h⟩ := h
    cases h
    obtain ⟨_, hall⟩ := bindL_ok ho
    obtain ⟨x, hx, hsub⟩ := hall s hs
    have hxb : ∀ p ∈ x, p.2.h.nx ≤ hi := by
      intro p hp
      obtain ⟨⟨e, t⟩, hp', he, hwk⟩ := hmg o p (hsub p hp)
      by_cases hn : e = .normal
      · subst hn
        obtain ⟨q, hq, hle⟩ := iterF_up hmg hup n _ r hr t (mem_norms _ _ hp')
        exact Nat.le_trans hwk.nx (Nat.le_trans hle (hbd q (List.mem_append_right _ hq)))
      · exact Nat.le_trans hwk.nx (hbd (e, t) (List.mem_append_left _ (mem_offs _ _ hp' hn)))
    rw [rounds_succ]
    refine wp_mono (hf s x hx hi hxb ρ a w hw hfree hfr) ?_
    rintro e a' w' ⟨p, hp, he, ρ', hon, hfr'⟩
    obtain ⟨⟨e', t⟩, hp', he', hwk⟩ := hmg o p (hsub p hp)
    have hon' : On ρ w s.h ρ' w' t.h := hon.wk hwk.hp hwk.nx
    have hfr'' : FR ρ' N t.tm a' := hfr'.wk hwk.tm
    simp only at he'
    subst he'
    subst he
    by_cases hn : p.1 = .normal
    · rw [hn] at hp' ⊢
      have hm := mem_norms _ _ hp'
      obtain ⟨q, hq', hle⟩ := iterF_up hmg hup n _ r hr t hm
      exact iterF_good hmg hup hf n _ r hr t hm hi (fun o ho => hbd o (List.mem_append_right _ ho)) ρ' a' w' hon'.wr (hon'.free hfree) hfr'' Q
        (fun e a2 w2 ⟨o2, ho2, h2⟩ => hq e a2 w2 ⟨o2, List.mem_append_right _ ho2, h2.after hon'⟩)
    · have hm := mem_offs _ _ hp' hn
      have : Q p.1.out a' w' := hq _ _ _ ⟨(p.1, t), List.mem_append_left _ hm, rfl, ρ', hon', hfr''⟩
      generalize p.1 = e at hn this
      cases e with
      | normal => exact absurd rfl hn
      | exit i => exact this
      | goto i => exact this
      | ret => exact this

theorem land_good {b rest : Code} {s : St} {l outs : Outs} {below : Code → Code → St → R Outs} (hup : ∀ b rest, UpF (below b rest)) (hbelow : ∀ b rest s outs, below b rest s = .ok outs → GoodIn a0 P N b rest s outs)
    (hg : Good a0 P N rest s l) (h : bindL (landF below b) l = .ok outs) : GoodIn a0 P N b rest s outs := by
  intro hi hbd ρ a w hw hfree hfr bf k cs
  obtain ⟨_, hall⟩ := bindL_ok h
  have hlb : ∀ o ∈ l, o.2.h.nx ≤ hi := by
    intro o ho
    obtain ⟨x, hx, hsub⟩ := hall o ho
    obtain ⟨q, hq, hle⟩ := landF_up hup hx
    exact Nat.le_trans hle (hbd q (hsub q hq))
  obtain ⟨e, a₁, w₁, ⟨o, ho, he, ρ', hon, hfr'⟩, harr⟩ := hg hi hlb ρ a w hw hfree hfr bf (.inScope b :: k) cs
  obtain ⟨x, hx, hsub⟩ := hall o ho
  subst he
  obtain ⟨e, t⟩ := o
  cases e with
  | normal =>
    simp only [landF] at hx
    cases hx
    exact ⟨.normal, a₁, w₁, ⟨_, hsub _ (List.mem_singleton.2 rfl), rfl, ρ', hon, hfr'⟩, Steps.trans harr (.one step_inScope)⟩
  | exit id =>
    simp only [landF] at hx
    cases hx
    exact ⟨.exit id, a₁, w₁, ⟨_, hsub _ (List.mem_singleton.2 rfl), rfl, ρ', hon, hfr'⟩, fun k' hk => harr k' (by simp [exitTo, hk])⟩
  | ret =>
    simp only [landF] at hx
    cases hx
    exact ⟨.ret, a₁, w₁, ⟨_, hsub _ (List.mem_singleton.2 rfl), rfl, ρ', hon, hfr'⟩, harr⟩
  | goto j =>
    simp only [landF] at hx
    cases hl : findLabel b j with
    | none =>
      rw [hl] at hx
      cases hx
      exact ⟨.goto j, a₁, w₁, ⟨_, hsub _ (List.mem_singleton.2 rfl), rfl, ρ', hon, hfr'⟩, fun k' hk => harr k' (by simp [gotoIn, hl, hk])⟩
    | some rest' =>
      rw [hl] at hx
      obtain ⟨e, a2, w2, ⟨o2, ho2, h2⟩, harr2⟩ := hbelow b rest' t x hx hi (fun q hq => hbd q (hsub q hq)) ρ' a₁ w₁ hon.wr (hon.free hfree) hfr' bf k cs
      exact ⟨e, a2, w2, ⟨o2, hsub _ ho2, h2.after hon⟩, .of_steps (harr _ (by simp [gotoIn, hl])) harr2⟩

theorem codeF_good (hmix : P.follows .mixedOrders = true) (hE : TyOk P E) (hC : CmpOk P C) (hF : FnOk P E) (hent : Ent P E) (hcall : CallOk a0 P call) (hin : CallIn E call) (hmg : MgOk mg)
    {below : Code → Code → St → R Outs} (hup : ∀ b rest, UpF (below b rest)) (hbelow : ∀ b rest s outs, below b rest s = .ok outs → GoodIn a0 P N b rest s outs) :
    ∀ c s outs, codeF E C call N mg below c s = .ok outs → Good a0 P N c s outs := by
  intro c
  have hself : ∀ (e : Ex) (s : St) (ρ : Ren a0) a w, WR ρ s.h.hp w → FR ρ N s.tm a → ∃ o ∈ [(e, s)], AtO ρ w s.h N o e.out a w :=
    fun e s ρ a w hw hfr => ⟨(e, s), List.mem_singleton.2 rfl, rfl, ρ, .refl hw, hfr⟩
  induction c with
  | skip =>
    intro s outs h hi hbd ρ a w hw hfree hfr
    simp only [codeF] at h; cases h
    exact wp_skip (hself .normal s ρ a w hw hfr)
  | label l =>
    intro s outs h hi hbd ρ a w hw hfree hfr
    simp only [codeF] at h; cases h
    exact wp_label (hself .normal s ρ a w hw hfr)
  | exit l =>
    intro s outs h hi hbd ρ a w hw hfree hfr
    simp only [codeF] at h; cases h
    exact wp_exit (hself (.exit l) s ρ a w hw hfr)
  | goto l =>
    intro s outs h hi hbd ρ a w hw hfree hfr
    simp only [codeF] at h; cases h
    exact wp_goto (hself (.goto l) s ρ a w hw hfr)
  | ret =>
    intro s outs h hi hbd ρ a w hw hfree hfr
    simp only [codeF] at h; cases h
    exact wp_ret (hself .ret s ρ a w hw hfr)
  | refuse w => intro s outs h; simp [codeF] at h
  | rangeFunc f ps as b _ _ => intro s outs h; simp [codeF] at h
  | region id ops draw =>
    intro s outs h hi hbd ρ a w hw hfree hfr
    simp only [codeF, bind_ok] at h
    obtain ⟨l, hl, h⟩ := h
    cases h
    have hb' : ∀ o ∈ l, o.h.nx ≤ hi := fun o ho => hbd (.normal, o) (List.mem_map.2 ⟨o, ho, rfl⟩)
    cases draw with
    | false =>
      refine wp_region ?_
      rw [List.range_eq_range']
      exact regF_ok hE hC hF hent hcall hin 0 s l (Nat.zero_le _) hl hb' ρ a w hw hfree hfr
        (fun o ho ρ' a' w' hon hfr' => ⟨(.normal, o), List.mem_map.2 ⟨o, ho, rfl⟩, rfl, ρ', hon, hfr'⟩)
    | true =>
      refine wp_region_draw fun t => ?_
      simp only [Region.schedule, hmix, Bool.true_or, if_true]
      have hq : Heq w { w with drawn := w.drawn + 1 } := ⟨rfl, rfl, rfl, rfl⟩
      exact regE_ok hE hC hF hent hcall hin hl hb' (hw.heq hq) hfree hfr
        (fun o ho ρ' a' w' hon hfr' => ⟨(.normal, o), List.mem_map.2 ⟨o, ho, rfl⟩, rfl, ρ', hon.heq hq, hfr'⟩) t
  | seq x y iha ihb =>
    intro s outs h hi hbd ρ a w hw hfree hfr
    simp only [codeF, bind_ok] at h
    obtain ⟨l, hl, h⟩ := h
    obtain ⟨_, hall⟩ := bindL_ok h
    have hlb : ∀ o ∈ l, o.2.h.nx ≤ hi := by
      intro o ho
      obtain ⟨x, hx, hsub⟩ := hall o ho
      obtain ⟨q, hq, hle⟩ := contF_up (codeF_up hmg hup y) hx
      exact Nat.le_trans hle (hbd q (hsub q hq))
    refine wp_seq (wp_mono (iha s l hl hi hlb ρ a w hw hfree hfr) ?_)
    rintro e a' w' ⟨⟨e0, t⟩, ho, he, ρ', hon, hfr'⟩
    subst he
    obtain ⟨x, hx, hsub⟩ := hall _ ho
    cases e0 with
    | normal =>
      refine wp_mono (ihb t x hx hi (fun q hq => hbd q (hsub q hq)) ρ' a' w' hon.wr (hon.free hfree) hfr') ?_
      rintro e2 a2 w2 ⟨o2, ho2, h2⟩
      exact ⟨o2, hsub _ ho2, h2.after hon⟩
    | exit i =>
      simp only [contF] at hx; cases hx
      exact ⟨_, hsub _ (List.mem_singleton.2 rfl), rfl, ρ', hon, hfr'⟩
    | goto i =>
      simp only [contF] at hx; cases hx
      exact ⟨_, hsub _ (List.mem_singleton.2 rfl), rfl, ρ', hon, hfr'⟩
    | ret =>
      simp only [contF] at hx; cases hx
      exact ⟨_, hsub _ (List.mem_singleton.2 rfl), rfl, ρ', hon, hfr'⟩
  | cond x y z iha ihb =>
    intro s outs h hi hbd ρ a w hw hfree hfr
    simp only [codeF] at h
    split at h
    · next t ht =>
      have hv := hfr.ev x
      rw [ht] at hv
      have hc : a.eval x = .bool t := by
        generalize a.eval x = y at hv
        cases hv
        rfl
      refine wp_cond hc ?_
      cases t with
      | true => exact iha s outs h hi hbd ρ a w hw hfree hfr
      | false => exact ihb s outs h hi hbd ρ a w hw hfree hfr
    · cases h
  | block id b ih =>
    intro s outs h hi hbd ρ a w hw hfree hfr
    simp only [codeF, bind_ok] at h
    obtain ⟨l, hl, h⟩ := h
    cases h
    have hin : ∀ o : Ex × St, (inBlockF id o).2 = o.2 := by
      rintro ⟨e, t⟩
      cases e <;> rfl
    have hlb : ∀ o ∈ l, o.2.h.nx ≤ hi := fun o ho => by
      have := hbd _ (List.mem_map.2 ⟨o, ho, rfl⟩)
      rwa [hin] at this
    refine wp_block (wp_mono (ih s l hl hi hlb ρ a w hw hfree hfr) ?_)
    rintro e a' w' ⟨o, ho, he, ρ', hon, hfr'⟩
    subst he
    have key : ∀ e2, e2 = (inBlockF id o).1.out → ∃ o' ∈ l.map (inBlockF id), AtO ρ w s.h N o' e2 a' w' :=
      fun e2 h2 => ⟨inBlockF id o, List.mem_map.2 ⟨o, ho, rfl⟩, h2, ρ', by rw [hin]; exact hon, by rw [hin]; exact hfr'⟩
    obtain ⟨e, t⟩ := o
    cases e with
    | normal => exact key _ rfl
    | goto i => exact key _ rfl
    | ret => exact key _ rfl
    | exit i =>
      simp only [Ex.out, Exit.inBlock]
      by_cases hid : i = id
      · rw [if_pos hid]
        exact key _ (by subst hid; simp [inBlockF, Ex.out])
      · rw [if_neg hid]
        exact key _ (by simp [inBlockF, beq_f hid, Ex.out])
  | loop b ih =>
    intro s outs h hi hbd ρ a w hw hfree hfr
    simp only [codeF] at h
    exact wp_loop_rounds rounds (iterF_good hmg (codeF_up hmg hup b) ih _ _ _ h s (List.mem_singleton.2 rfl) hi hbd ρ a w hw hfree hfr _ (fun e a' w' h => h))
  | scope b ih =>
    intro s outs h hi hbd ρ a w hw hfree hfr bf k cs
    simp only [codeF, bind_ok] at h
    obtain ⟨l, hl, h⟩ := h
    obtain ⟨e, a', w', h1, h2⟩ := land_good hup hbelow (ih s l hl) h hi hbd ρ a w hw hfree hfr bf k cs
    exact ⟨e, a', w', h1, .of_steps (.one step_scope) h2⟩

theorem belowF_good (hmix : P.follows .mixedOrders = true) (hE : TyOk P E) (hC : CmpOk P C) (hF : FnOk P E) (hent : Ent P E) (hcall : CallOk a0 P call) (hin : CallIn E call) (hmg : MgOk mg) :
    ∀ n b rest s outs, belowF E C call N mg n b rest s = .ok outs → GoodIn a0 P N b rest s outs
  | 0, b, rest, s, outs, h => by simp [belowF] at h
  | n + 1, b, rest, s, outs, h => by
    simp only [belowF, bind_ok] at h
    obtain ⟨l, hl, h⟩ := h
    exact land_good (belowF_up hmg n) (belowF_good hmix hE hC hF hent hcall hin hmg n)
      (codeF_good hmix hE hC hF hent hcall hin hmg (belowF_up hmg n) (belowF_good hmix hE hC hF hent hcall hin hmg n) rest s l hl) h

end
end
end Go.AX

/- Calls. -/
set_option autoImplicit false
set_option linter.unusedSimpArgs false
set_option linter.unusedVariables false
namespace Go.AX
noncomputable section
variable {a0 : Nat → Value}

def setAll : List AV → Nat → V AV → V AV
  | [], _, t => t
  | a :: l, i, t => setAll l (i + 1) (t.set a i)

section
variable (E : Env) (C : List Nat)

def resF (s : H) (tm : V AV) : List ResultVar → R (List AV)
  | [] => .ok []
  | .tmp t :: l => do
    let r ← resF s tm l
    .ok ((tm.get t).getD .top :: r)
  | .cell a t :: l => do
    let v ← loadAt E s t ((tm.get a).getD .top)
    let r ← resF s tm l
    .ok (v :: r)

def one1 : List AV → AV
  | [v] => v
  | [] => .tup []
  | a :: b :: l => .tup (a :: b :: l)

def endF (fn : Func) (p : Ex × St) : R (List (AV × H)) :=
  match p with
  | (.normal, s) => do
    let l ← resF E s.h s.tm fn.results.toList
    .ok [(one1 l, s.h)]
  | (.ret, s) => do
    let l ← resF E s.h s.tm fn.results.toList
    .ok [(one1 l, s.h)]
  | _ => .error "end"

def jumps : Nat := 100000

/-- how outcomes are made fewer: at rounds, at returns -/
structure Merge where
  code : FuncId → Outs → Outs
  ret : FuncId → H → List (AV × H) → List (AV × H)

/-- functions whose answer is known beforehand -/
abbrev Sum := FuncId → List AV → H → Option (R (List (AV × H)))

def bodyF (M : Merge) (call : CallF) (f : FuncId) (fn : Func) (args : List AV) (h : H) : R (List (AV × H)) :=
  match fn.body with
  | none => .error "no body"
  | some c =>
    bif Nat.ble args.length tlim then do
      let l ← codeF E C call fn.ntmps (M.code f) (belowF E C call fn.ntmps (M.code f) jumps) c ⟨setAll args 0 V.nil, h⟩
      let r ← bindL (endF E fn) l
      .ok (M.ret f h r)
    else .error "arguments"

def callF (S : Sum) (M : Merge) : Nat → CallF
  | 0 => fun _ _ _ => .error "depth"
  | n + 1 => fun f args h =>
    match E.fn.get f with
    | none => .error "no function"
    | some fn =>
      match S f args h with
      | some r => r
      | none => bodyF E C M (callF S M n) f fn args h

end

structure Wk2 (p p' : AV × H) : Prop where
  v : p'.1 = p.1
  hp : Hw p.2.hp p'.2.hp
  nx : p.2.nx ≤ p'.2.nx

structure MergeOk (M : Merge) : Prop where
  code : ∀ f, MgOk (M.code f)
  ret : ∀ f h l, ∀ p ∈ l, ∃ p' ∈ M.ret f h l, Wk2 p p'

theorem setAll_get : ∀ (l : List AV) (i : Nat) (t : V AV) (k : Nat) (v : AV), i + l.length ≤ tlim → (setAll l i t).get k = some v → (i ≤ k ∧ l[k - i]? = some v) ∨ ((k < i ∨ i + l.length ≤ k) ∧ t.get k = some v)
  | [], i, t, k, v, _, h => by
    right
    exact ⟨by simp only [List.length_nil]; omega, h⟩
  | a :: l, i, t, k, v, hl, h => by
    simp only [List.length_cons] at hl
    rcases setAll_get l (i + 1) _ k v (by omega) h with ⟨h1, h2⟩ | ⟨h1, h2⟩
    · left
      refine ⟨by omega, ?_⟩
      rw [show k - i = (k - (i + 1)) + 1 by omega]
      exact h2
    · rw [V.get_set a t i k (by unfold tlim at hl; omega)] at h2
      split at h2
      · next e =>
        cases h2
        subst e
        left
        simp
      · next e =>
        right
        simp only [List.length_cons]
        exact ⟨by omega, h2⟩

section
variable {P : Program} {E : Env} {C : List Nat}

theorem run_loadVar (hE : TyOk P E) {ρ : Ren a0} {s : H} {w : World} (hw : WR ρ s.hp w) {t : Nat} {a r : AV} {x : Value} (hx : VR ρ a x) (h : loadAt E s t a = .ok r) :
    ∃ v, (do loadVar t (← asAddr x) : Sem Value).run P w = .ok v w ∧ VR ρ r v := by
  obtain ⟨v, h1, h2⟩ := run_loadAt (P := P) hE hw hx h
  refine ⟨v, ?_, h2⟩
  rw [← h1]
  unfold loadAt at h
  split at h
  · cases hx with
    | ptr _ _ y hy => simp only [Instr.loadAt, Instr.sureAddr, asAddr]
  · cases h

theorem FR.getD {ρ : Ren a0} {N : Nat} {tm : V AV} {a : Act} (h : FR ρ N tm a) (t : Nat) : VR ρ ((tm.get t).getD .top) (a.tmps.getD t undef) := by
  cases hi : tm.get t with
  | none => exact .top _
  | some v =>
    obtain ⟨y, g1, g2⟩ := h.get t v hi
    simp only [Option.getD_some, Array.getD_eq_getD_getElem?, g1]
    exact g2

theorem run_res (hE : TyOk P E) {ρ : Ren a0} {s : H} {w : World} {N : Nat} {tm : V AV} {a : Act} (hw : WR ρ s.hp w) (hfr : FR ρ N tm a) : ∀ (l : List ResultVar) (r : List AV), resF E s tm l = .ok r →
    ∃ vs, (l.mapM (m := Sem) fun
    | .tmp t => pure (a.tmps.getD t undef)
    | .cell x t => do loadVar t (← asAddr (a.tmps.getD x undef))).run P w = .ok vs w ∧ VRs ρ r vs
  | [], r, h => by
    simp only [resF] at h; cases h
    exact ⟨[], by simp [List.mapM_nil, Sem.run_pure], .nil⟩
  | .tmp t :: l, r, h => by
    simp only [resF, bind_ok] at h
    obtain ⟨r', h1, h⟩ := h
    cases h
    obtain ⟨vs, g1, g2⟩ := run_res hE hw hfr l r' h1
    refine ⟨a.tmps.getD t undef :: vs, ?_, .cons _ _ _ _ (hfr.getD t) g2⟩
    simp only [List.mapM_cons, Sem.run_bind, Sem.run_pure, Result.andThen_ok, g1]
  | .cell x t :: l, r, h => by
    simp only [resF, bind_ok] at h
    obtain ⟨v, hv, r', h1, h⟩ := h
    cases h
    obtain ⟨vs, g1, g2⟩ := run_res hE hw hfr l r' h1
    obtain ⟨y, q1, q2⟩ := run_loadVar (P := P) hE hw (hfr.getD x) hv
    refine ⟨y :: vs, ?_, .cons _ _ _ _ q2 g2⟩
    rw [List.mapM_cons, Sem.run_bind, q1, Result.andThen_ok, Sem.run_bind, g1, Result.andThen_ok, Sem.run_pure]

theorem one1_ok {ρ : Ren a0} {l : List AV} {vs : List Value} (h : VRs ρ l vs) : VR ρ (one1 l) (if h : vs.toArray.size = 1 then vs.toArray[0] else .tuple vs.toArray) := by
  cases h with
  | nil => exact .tup [] [] .nil
  | cons a v l vs ha hl =>
    cases hl with
    | nil => exact ha
    | cons b u l vs hb hl =>
      simp only [one1]
      rw [dif_neg (by simp)]
      exact .tup _ _ (.cons _ _ _ _ ha (.cons _ _ _ _ hb hl))

theorem run_results (hE : TyOk P E) {ρ : Ren a0} {s : H} {w : World} {N : Nat} {tm : V AV} {a : Act} (hw : WR ρ s.hp w) (hfr : FR ρ N tm a) {fn : Func} {r : List AV} (h : resF E s tm fn.results.toList = .ok r) :
    ∃ v, (results fn a.tmps).run P w = .ok v w ∧ VR ρ (one1 r) v := by
  obtain ⟨vs, g1, g2⟩ := run_res (P := P) hE hw hfr _ _ h
  refine ⟨_, ?_, one1_ok g2⟩
  unfold results
  rw [Array.mapM_eq_mapM_toList, Sem.run_bind, Sem.run_map]
  erw [g1]
  rfl

theorem endF_up {fn : Func} {p : Ex × St} {r : List (AV × H)} (h : endF E fn p = .ok r) : ∃ v, r = [(v, p.2.h)] ∧ (p.1 = .normal ∨ p.1 = .ret) ∧ ∃ l, resF E p.2.h p.2.tm fn.results.toList = .ok l ∧ v = one1 l := by
  obtain ⟨e, s⟩ := p
  cases e with
  | normal =>
    simp only [endF, bind_ok] at h
    obtain ⟨l, hl, h⟩ := h
    cases h
    exact ⟨_, rfl, .inl rfl, l, hl, rfl⟩
  | ret =>
    simp only [endF, bind_ok] at h
    obtain ⟨l, hl, h⟩ := h
    cases h
    exact ⟨_, rfl, .inr rfl, l, hl, rfl⟩
  | exit i => cases h
  | goto i => cases h

theorem callF_in {S : Sum} {M : Merge} : ∀ n, CallIn E (callF E C S M n)
  | 0 => fun f args h outs hx => by simp [callF] at hx
  | n + 1 => fun f args h outs hx => by
    simp only [callF] at hx
    cases hf : E.fn.get f with
    | none => rw [hf] at hx; cases hx
    | some fn => exact ⟨fn, rfl⟩

/-- what one call comes to -/
def CallAt (a0 : Nat → Value) (P : Program) (f : FuncId) (args : List AV) (h : H) (outs : List (AV × H)) : Prop :=
  ∀ hi, (∀ o ∈ outs, o.2.nx ≤ hi) → ∀ (ρ : Ren a0) w xs, WR ρ h.hp w → Free ρ h.nx hi → VRs ρ args xs →
    outs ≠ [] ∧ Calls P f xs.toArray w fun e w' => ∃ v h', (v, h') ∈ outs ∧ ∃ x ρ', e = .returned x ∧ VR ρ' v x ∧ On ρ w h ρ' w' h'

def SumOk (a0 : Nat → Value) (P : Program) (S : Sum) : Prop := ∀ f args h outs, S f args h = some (.ok outs) → CallAt a0 P f args h outs

theorem bodyF_ok (hmix : P.follows .mixedOrders = true) (hE : TyOk P E) (hC : CmpOk P C) (hF : FnOk P E) (hent : Ent P E) {M : Merge} (hM : MergeOk M) {call : CallF} (hcall : CallOk a0 P call) (hin : CallIn E call) {f : FuncId} {fn : Func} {args : List AV} {h : H} {outs : List (AV × H)}
    (hf : P.funcs[f]? = some fn) (hx : bodyF E C M call f fn args h = .ok outs) : CallAt a0 P f args h outs := by
  intro hi hbd ρ w xs hw hfree hxs
  unfold bodyF at hx
  cases hbody : fn.body with
  | none => rw [hbody] at hx; cases hx
  | some c =>
    rw [hbody] at hx
    simp only at hx
    replace hx := bif_ok.1 hx
    obtain ⟨hlen, hx⟩ := hx
    replace hlen := Nat.le_of_ble_eq_true hlen
    simp only [bind_ok] at hx
    obtain ⟨l, hl, r, hr, hx⟩ := hx
    cases hx
    have hco := hM.code f
    obtain ⟨_, hall⟩ := bindL_ok hr
    have hlb : ∀ o ∈ l, o.2.h.nx ≤ hi := by
      intro o ho
      obtain ⟨x, hx, hsub⟩ := hall o ho
      obtain ⟨v, rfl, _⟩ := endF_up hx
      obtain ⟨p', hp', hwk⟩ := hM.ret f h r (v, o.2.h) (hsub _ (List.mem_singleton.2 rfl))
      exact Nat.le_trans hwk.nx (hbd p' hp')
    have hup := belowF_up (E := E) (C := C) (call := call) (N := fn.ntmps) hco jumps
    have hgood := codeF_good hmix hE hC hF hent hcall hin hco hup (belowF_good hmix hE hC hF hent hcall hin hco jumps) c _ _ hl
    have hlx := hxs.length
    have hfr : FR ρ fn.ntmps (setAll args 0 V.nil) { tmps := xs.toArray ++ Array.replicate (fn.ntmps - xs.toArray.size) undef, defers := [] } := by
      refine ⟨rfl, by simp; omega, fun i v hi => ?_⟩
      rcases setAll_get args 0 .nil i v (by omega) hi with ⟨_, h1⟩ | ⟨_, h1⟩
      · obtain ⟨y, q1, q2⟩ := hxs.get (n := i) h1
        refine ⟨y, ?_, q2⟩
        have hlt : i < xs.length := (List.getElem?_eq_some_iff.1 q1).1
        rw [Array.getElem?_append_left (by simpa using hlt)]
        simpa using q1
      · rw [V.get_nil] at h1; cases h1
    have hrne : M.ret f h r ≠ [] := by
      obtain ⟨o, ho, _⟩ := codeF_up hco hup c _ _ hl
      obtain ⟨x, hx, hsub⟩ := hall o ho
      obtain ⟨v, rfl, _⟩ := endF_up hx
      obtain ⟨p', hp', _⟩ := hM.ret f h r (v, o.2.h) (hsub _ (List.mem_singleton.2 rfl))
      exact List.ne_nil_of_mem hp'
    refine ⟨hrne, calls_of_wp hf hbody (wp_mono (hgood hi hlb ρ _ w hw hfree hfr) ?_)⟩
    rintro e a' w' ⟨o, ho, he, ρ', hon, hfr'⟩
    obtain ⟨x, hx, hsub⟩ := hall o ho
    obtain ⟨v, rfl, hor, rl, hrl, rfl⟩ := endF_up hx
    obtain ⟨y, q1, q2⟩ := run_results (P := P) hE hon.wr hfr' hrl
    obtain ⟨⟨v', h''⟩, hp', hwk⟩ := hM.ret f h r _ (hsub _ (List.mem_singleton.2 rfl))
    have e1 := hwk.v
    simp only at e1
    subst e1
    have fin : a'.defers = [] ∧ ∃ v, (results fn a'.tmps).run P w' = .ok v w' ∧ ∃ v0 h0, (v0, h0) ∈ M.ret f h r ∧ ∃ x ρ', Ending.returned v = .returned x ∧ VR ρ' v0 x ∧ On ρ w h ρ' w' h0 :=
      ⟨hfr'.def_, y, q1, _, _, hp', y, ρ', rfl, q2, hon.wk hwk.hp hwk.nx⟩
    subst he
    obtain ⟨e, t⟩ := o
    rcases hor with h1 | h1 <;> (simp only at h1; subst h1; exact fin)

theorem callF_ok (hmix : P.follows .mixedOrders = true) (hE : TyOk P E) (hC : CmpOk P C) (hF : FnOk P E) (hent : Ent P E) {S : Sum} (hS : SumOk a0 P S) {M : Merge} (hM : MergeOk M) : ∀ n, CallOk a0 P (callF E C S M n)
  | 0 => fun f args h outs hx => by simp [callF] at hx
  | n + 1 => fun f args h outs hx => by
    simp only [callF] at hx
    cases hf : E.fn.get f with
    | none => rw [hf] at hx; cases hx
    | some fn =>
      rw [hf] at hx
      simp only at hx
      cases hs : S f args h with
      | some r =>
        rw [hs] at hx
        simp only at hx
        subst hx
        exact hS f args h outs hs
      | none =>
        rw [hs] at hx
        exact bodyF_ok hmix hE hC hF hent hM (callF_ok hmix hE hC hF hent hS hM n) (callF_in n) (hF.fn f fn hf) hx

/-- from the empty heap: all that stood before stays -/
theorem callAt_empty {f : FuncId} {args : List AV} {outs : List (AV × H)} (h : CallAt a0 P f args ⟨T.nil, 0⟩ outs) {w : World} {xs : List Value} (hxs : ∀ ρ : Ren a0, VRs ρ args xs) :
    outs ≠ [] ∧ Calls P f xs.toArray w fun e w' => ∃ v h', (v, h') ∈ outs ∧ ∃ x, ∃ ρ' : Ren a0, e = .returned x ∧ VR ρ' v x ∧
      w.heap.size ≤ w'.heap.size ∧ (∀ b, b < w.heap.size → w'.heap[b]? = w.heap[b]?) ∧ w'.os = w.os ∧ w'.output = w.output ∧ w'.tape = w.tape := by
  let ρ0 : Ren a0 := { at_ := fun _ => none, tot := fun _ => 0 }
  have hno : ∀ (b : Nat) (o : AO), (T.nil : Heap).get b = some o → False := fun b o h => by rw [T.get_nil] at h; cases h
  have hno2 : ∀ (b x : Nat), ρ0 b = some x → False := fun b x h => by cases h
  have hw : WR ρ0 (T.nil : Heap) w :=
    { obj := fun b o h => (hno b o h).elim
      inj := fun b b' o o' x h => (hno b o h).elim
      lt := fun b x h => (hno2 b x h).elim
      bd := fun b x h => (hno2 b x h).elim
      itr := fun b m v s h => (hno b _ h).elim
      ver := fun b m v s es ck v' h => (hno b _ h).elim }
  obtain ⟨h1, h2⟩ := h (outs.foldl (fun m o => max m o.2.nx) 0) (by
    have key : ∀ (l : List (AV × H)) (m : Nat), m ≤ l.foldl (fun m o => max m o.2.nx) m ∧ ∀ o ∈ l, o.2.nx ≤ l.foldl (fun m o => max m o.2.nx) m := by
      intro l
      induction l with
      | nil => intro m; simp
      | cons a l ih =>
        intro m
        simp only [List.foldl_cons]
        obtain ⟨g1, g2⟩ := ih (max m a.2.nx)
        refine ⟨by omega, fun o ho => ?_⟩
        rcases List.mem_cons.1 ho with rfl | ho
        · omega
        · exact g2 o ho
    exact (key outs 0).2) ρ0 w xs hw (fun _ _ _ => rfl) (hxs ρ0)
  refine ⟨h1, h2.mono ?_⟩
  rintro e w' ⟨v, h', hm, x, ρ', he, hv, hon⟩
  exact ⟨v, h', hm, x, ρ', he, hv, hon.ex.size, fun b hb => hon.ex.keep b hb (fun _ h => by cases h), hon.ex.os, hon.ex.out, hon.ex.tape⟩

end
end
end Go.AX

/- Calls that leave what stood before as it was. -/
set_option autoImplicit false
set_option linter.unusedSimpArgs false
set_option linter.unusedVariables false
namespace Go.AX
noncomputable section
variable {a0 : Nat → Value}

mutual
def addrs : AV → List Nat
  | .ptr b _ => [b]
  | .slc b _ _ _ _ => [b]
  | .map b => [b]
  | .agg l => addrsL l
  | .tup l => addrsL l
  | .fn _ a c => addrsL a ++ addrsL c
  | _ => []
def addrsL : List AV → List Nat
  | [] => []
  | a :: l => addrs a ++ addrsL l
end

mutual
theorem VR.move {ρ ρ' : Ren a0} : ∀ {a : AV} {v : Value}, VR ρ a v → (∀ b ∈ addrs a, ∀ x, ρ b = some x → ρ' b = some x ∧ ρ'.tot b = ρ.tot b) → VR ρ' a v
  | _, _, .int k n, _ => .int k n
  | _, _, .bool b, _ => .bool b
  | _, _, .str l s e, _ => .str l s e
  | _, _, .flt b, _ => .flt b
  | _, _, .cplx a b, _ => .cplx a b
  | _, _, .nilp, _ => .nilp
  | _, _, .ptr b o x e, h => .ptr b o x (h b (by simp [addrs]) x e).1
  | _, _, .nils, _ => .nils
  | _, _, .slz a c, _ => .slz a c
  | _, _, .slc b o l c es x d e f g i, h => .slc b o l c es x d (h b (by simp [addrs]) x e).1 f g (fun q => by rw [(h b (by simp [addrs]) x e).2]; exact i q)
  | _, _, .nilm, _ => .nilm
  | _, _, .map b x e, h => .map b x (h b (by simp [addrs]) x e).1
  | _, _, .agg l vs hl, h => .agg l vs (VRs.move hl (by simpa [addrs] using h))
  | _, _, .tup l vs hl, h => .tup l vs (VRs.move hl (by simpa [addrs] using h))
  | _, _, .fn f a c xs ys ha hc, h => .fn f a c xs ys (VRs.move ha (fun b hb => h b (by simp [addrs, hb]))) (VRs.move hc (fun b hb => h b (by simp [addrs, hb])))
  | _, _, .nilf, _ => .nilf
  | _, _, .rng k lo hi n a b, _ => .rng k lo hi n a b
  | _, _, .sym i h, _ => .sym i h
  | _, _, .top v, _ => .top v
theorem VRs.move {ρ ρ' : Ren a0} : ∀ {l : List AV} {vs : List Value}, VRs ρ l vs → (∀ b ∈ addrsL l, ∀ x, ρ b = some x → ρ' b = some x ∧ ρ'.tot b = ρ.tot b) → VRs ρ' l vs
  | _, _, .nil, _ => .nil
  | _, _, .cons a v l vs ha hl, h => .cons a v l vs (VR.move ha (fun b hb => h b (by simp [addrsL, hb]))) (VRs.move hl (fun b hb => h b (by simp [addrsL, hb])))
end

/-- the blocks that are reached -/
def reachF (hp : Heap) : Nat → List Nat → Heap → R Heap
  | 0, _, _ => .error "reach"
  | n + 1, todo, acc =>
    match todo with
    | [] => .ok acc
    | b :: l =>
      match acc.get b with
      | some _ => reachF hp n l acc
      | none =>
        match hp.get b with
        | some (.cells c m e f) => bif Nat.ble b lim then reachF hp n (addrsL c ++ l) (acc.set (.cells c m e f) b) else .error "reach"
        | some (.map es ck v) => bif Nat.ble b lim then reachF hp n ((addrsL (es.map (·.1)) ++ addrsL (es.map (·.2))) ++ l) (acc.set (.map es ck v) b) else .error "reach"
        | _ => .error "reach"

/-- what an object names -/
def Names : AO → List Nat → Prop
  | .cells c _ _ _, l => l = addrsL c
  | .map es _ _, l => l = addrsL (es.map (·.1)) ++ addrsL (es.map (·.2))
  | _, _ => False

theorem OR.move {ρ ρ' : Ren a0} {o : AO} {ob : Obj} {l : List Nat} (h : OR ρ o ob) (hn : Names o l) (hm : ∀ b ∈ l, ∀ x, ρ b = some x → ρ' b = some x ∧ ρ'.tot b = ρ.tot b) : OR ρ' o ob := by
  cases h with
  | cells c m e f us rest z a1 a2 a3 =>
    cases hn
    exact .cells _ _ _ _ us rest z (a1.move hm) a2 a3
  | map es ck v ms ms' a1 a2 a3 a4 a5 =>
    cases hn
    exact .map _ _ _ ms ms' a1 (a2.move (fun b hb => hm b (List.mem_append_left _ hb))) (a3.move (fun b hb => hm b (List.mem_append_right _ hb))) a4 a5
  | iterNil => cases hn
  | siter => cases hn
  | iter => cases hn

/-- no iterator over a map of the part -/
def offMap (small : Heap) : AO → Bool
  | .iter m _ _ => match small.get m with
    | some _ => false
    | none => true
  | _ => true

def noMap1 : AO → Bool
  | .map .. => false
  | _ => true

def noMaps (t : Heap) : Bool := T.all noMap1 t

/-- what stays: the iterators over maps of the part go -/
def keepH (small hp : Heap) : Heap := bif noMaps small then hp else T.filt (offMap small) hp

theorem noMaps_get (t : Heap) (n : Nat) (es : List (AV × AV)) (ck v : Nat) (h : noMaps t = true) : t.get n ≠ some (.map es ck v) := by
  intro e
  have := T.all_get _ t n _ h e
  cases this

theorem keepH_ok {small hp : Heap} {b : Nat} {o : AO} (h : (keepH small hp).get b = some o) : hp.get b = some o ∧ ∀ m v s, o = .iter m v s → ∀ es ck v', small.get m ≠ some (.map es ck v') := by
  unfold keepH at h
  cases hn : noMaps small with
  | true =>
    rw [hn] at h
    exact ⟨h, fun m v s _ es ck v' => noMaps_get small m es ck v' hn⟩
  | false =>
    rw [hn] at h
    obtain ⟨h1, h2⟩ := T.get_filt _ _ _ _ h
    refine ⟨h1, fun m v s e es ck v' hm => ?_⟩
    subst e
    simp only [offMap, hm] at h2
    cases h2

/-- a part of a heap: rows alone; what they name lies in it, or is still to do -/
structure Part (hp acc : Heap) (todo : List Nat) : Prop where
  sub : ∀ b o, acc.get b = some o → hp.get b = some o
  names : ∀ b o, acc.get b = some o → ∃ l, Names o l ∧ ∀ b' ∈ l, b' ∈ todo ∨ ∃ o', acc.get b' = some o'

theorem Part.put {hp acc : Heap} {todo l : List Nat} {b : Nat} {o : AO} {ns : List Nat} (h : Part hp acc (b :: l)) (hb : acc.get b = none) (hget : hp.get b = some o) (hl : b ≤ lim) (hn : Names o ns) : Part hp (acc.set o b) (ns ++ l) := by
  have hg : ∀ k, (acc.set o b).get k = if k = b then some o else acc.get k := fun k => T.get_set _ acc b k (lim_lt hl)
  refine ⟨fun b' o' h' => ?_, fun b' o' h' => ?_⟩
  · rw [hg] at h'
    split at h'
    · next e => cases h'; rw [e]; exact hget
    · exact h.sub _ _ h'
  · rw [hg] at h'
    split at h'
    · next e' =>
      cases h'
      exact ⟨ns, hn, fun b2 h2 => .inl (List.mem_append_left _ h2)⟩
    · obtain ⟨l', q1, q2⟩ := h.names b' o' h'
      refine ⟨l', q1, fun b2 h2 => ?_⟩
      rcases q2 b2 h2 with h3 | ⟨o2, h3⟩
      · rcases List.mem_cons.1 h3 with rfl | h3
        · exact .inr ⟨_, by rw [hg, if_pos rfl]⟩
        · exact .inl (List.mem_append_right _ h3)
      · exact .inr ⟨o2, by
          rw [hg]
          split
          · next e3 => rw [e3, hb] at h3; cases h3
          · exact h3⟩

theorem reachF_ok {hp : Heap} : ∀ (n : Nat) (todo : List Nat) (acc r : Heap), reachF hp n todo acc = .ok r → Part hp acc todo →
    Part hp r [] ∧ (∀ b ∈ todo, ∃ o, r.get b = some o) ∧ ∀ b o, acc.get b = some o → r.get b = some o
  | 0, _, _, _, h, _ => by simp [reachF] at h
  | n + 1, [], acc, r, h, hp' => by
    simp only [reachF] at h
    cases h
    exact ⟨hp', by simp, fun _ _ h => h⟩
  | n + 1, b :: l, acc, r, h, hp' => by
    simp only [reachF] at h
    cases hb : acc.get b with
    | some o =>
      rw [hb] at h
      simp only at h
      obtain ⟨g1, g2, g3⟩ := reachF_ok n l acc r h ⟨hp'.sub, fun b' o' h' => by
        obtain ⟨l', q1, q2⟩ := hp'.names b' o' h'
        refine ⟨l', q1, fun b2 h2 => ?_⟩
        rcases q2 b2 h2 with h3 | h3
        · rcases List.mem_cons.1 h3 with rfl | h3
          · exact .inr ⟨o, hb⟩
          · exact .inl h3
        · exact .inr h3⟩
      refine ⟨g1, fun b' hb' => ?_, g3⟩
      rcases List.mem_cons.1 hb' with rfl | hb'
      · exact ⟨o, g3 _ _ hb⟩
      · exact g2 b' hb'
    | none =>
      rw [hb] at h
      simp only at h
      have fin : ∀ (o : AO) (ns : List Nat), hp.get b = some o → Names o ns → b ≤ lim → reachF hp n (ns ++ l) (acc.set o b) = .ok r →
          Part hp r [] ∧ (∀ b' ∈ b :: l, ∃ o, r.get b' = some o) ∧ ∀ b' o', acc.get b' = some o' → r.get b' = some o' := by
        intro o ns hget hns hl hr
        have hg : ∀ k, (acc.set o b).get k = if k = b then some o else acc.get k := fun k => T.get_set _ acc b k (lim_lt hl)
        obtain ⟨g1, g2, g3⟩ := reachF_ok n _ _ r hr (hp'.put (todo := l) hb hget hl hns)
        refine ⟨g1, fun b' hb' => ?_, fun b' o' h' => g3 b' o' ?_⟩
        · rcases List.mem_cons.1 hb' with rfl | hb'
          · exact ⟨_, g3 _ _ (by rw [hg, if_pos rfl])⟩
          · exact g2 b' (List.mem_append_right _ hb')
        · rw [hg]
          split
          · next e3 => rw [e3, hb] at h'; cases h'
          · exact h'
      split at h
      · next c m e f hget =>
        replace h := bif_ok.1 h
        obtain ⟨hl, h⟩ := h
        exact fin _ _ hget rfl (Nat.le_of_ble_eq_true hl) h
      · next es ck v hget =>
        replace h := bif_ok.1 h
        obtain ⟨hl, h⟩ := h
        exact fin _ _ hget rfl (Nat.le_of_ble_eq_true hl) h
      · cases h

def maxNx : List (AV × H) → Nat → Nat
  | [], n => n
  | p :: l, n => maxNx l (bif Nat.ble n p.2.nx then p.2.nx else n)

def hasV (v : AV) : List AV → Bool
  | [] => false
  | a :: l => eqv v a || hasV v l

/-- the answers, each once; what is read must stay -/
def answers (small : Heap) : List (AV × H) → R (List AV)
  | [] => .ok []
  | p :: l =>
    match addrs p.1 with
    | [] => bif subH small p.2.hp then (do
      let r ← answers small l
      .ok (bif hasV p.1 r then r else p.1 :: r)) else .error "pure a write"
    | _ => .error "pure an address"

def pureF (call : CallF) (f : FuncId) (args : List AV) (h : H) : R (List (AV × H)) := do
  let small ← reachF h.hp 10000 (addrsL args) .nil
  let outs ← call f args ⟨small, h.nx⟩
  let vs ← answers small outs
  .ok (vs.map fun v => (v, ⟨keepH small h.hp, maxNx outs h.nx⟩))

theorem maxNx_ok : ∀ (l : List (AV × H)) (n : Nat), n ≤ maxNx l n ∧ ∀ p ∈ l, p.2.nx ≤ maxNx l n
  | [], n => ⟨Nat.le_refl _, by simp⟩
  | p :: l, n => by
    simp only [maxNx]
    obtain ⟨g1, g2⟩ := maxNx_ok l (bif Nat.ble n p.2.nx then p.2.nx else n)
    have hb : n ≤ (bif Nat.ble n p.2.nx then p.2.nx else n) ∧ p.2.nx ≤ (bif Nat.ble n p.2.nx then p.2.nx else n) := by
      cases h : Nat.ble n p.2.nx with
      | true => exact ⟨Nat.le_of_ble_eq_true h, Nat.le_refl _⟩
      | false =>
        have : ¬ n ≤ p.2.nx := fun q => by rw [Nat.ble_eq_true_of_le q] at h; cases h
        simp only [cond_false]
        omega
    refine ⟨by omega, fun q hq => ?_⟩
    rcases List.mem_cons.1 hq with rfl | hq
    · omega
    · exact g2 q hq

theorem hasV_ok {v : AV} : ∀ {l : List AV}, hasV v l = true → v ∈ l
  | [], h => by simp [hasV] at h
  | a :: l, h => by
    simp only [hasV, Bool.or_eq_true] at h
    rcases h with h | h
    · rw [eqv_eq _ _ h]; exact List.mem_cons_self ..
    · exact List.mem_cons_of_mem _ (hasV_ok h)

theorem answers_ok {small : Heap} : ∀ {l : List (AV × H)} {r : List AV}, answers small l = .ok r → ∀ p ∈ l, addrs p.1 = [] ∧ subH small p.2.hp = true ∧ p.1 ∈ r
  | [], r, h => by simp
  | p :: l, r, h => by
    simp only [answers] at h
    split at h
    · next ha =>
      replace h := bif_ok.1 h
      obtain ⟨hs, h⟩ := h
      simp only [bind_ok] at h
      obtain ⟨r', hr, h⟩ := h
      cases h
      have hsub : ∀ a ∈ r', a ∈ (bif hasV p.1 r' then r' else p.1 :: r') := fun a ha => by
        cases hasV p.1 r' with
        | true => exact ha
        | false => exact List.mem_cons_of_mem _ ha
      intro q hq
      rcases List.mem_cons.1 hq with rfl | hq
      · refine ⟨ha, hs, ?_⟩
        cases hv : hasV q.1 r' with
        | true => exact hasV_ok hv
        | false => exact List.mem_cons_self ..
      · obtain ⟨g1, g2, g3⟩ := answers_ok hr q hq
        exact ⟨g1, g2, hsub _ g3⟩
    · cases h

theorem pureF_ok {P : Program} {call : CallF} (hcall : CallOk a0 P call) {f : FuncId} {args : List AV} {h : H} {outs : List (AV × H)} (hx : pureF call f args h = .ok outs) : CallAt a0 P f args h outs := by
  intro hi hbd ρ w xs hw hfree hxs
  simp only [pureF, bind_ok] at hx
  obtain ⟨small, hsm, inner, hin, vs, hvs, hx⟩ := hx
  cases hx
  obtain ⟨hpart, hargs, _⟩ := reachF_ok _ _ _ _ hsm ⟨fun b o h => (by rw [T.get_nil] at h; cases h), fun b o h => (by rw [T.get_nil] at h; cases h)⟩
  let ρs : Ren a0 := { at_ := fun b => match small.get b with | some _ => ρ b | none => none, tot := ρ.tot }
  have hs1 : ∀ b o, small.get b = some o → ρs b = ρ b := fun b o h => by
    show (match small.get b with | some _ => ρ b | none => none) = ρ b
    rw [h]
  have hs2 : ∀ b x, ρs b = some x → (∃ o, small.get b = some o) ∧ ρ b = some x := fun b x h => by
    have h' : (match small.get b with | some _ => ρ b | none => none) = some x := h
    cases hb : small.get b with
    | none => rw [hb] at h'; cases h'
    | some o => rw [hb] at h'; exact ⟨⟨o, rfl⟩, h'⟩
  -- values over the part
  have mvs : ∀ (l : List AV) (us : List Value), VRs ρ l us → (∀ b ∈ addrsL l, ∃ o, small.get b = some o) → VRs ρs l us := fun l us h1 h2 => h1.move (fun b hb x hx => by
    obtain ⟨o, ho⟩ := h2 b hb
    exact ⟨by rw [hs1 b o ho]; exact hx, rfl⟩)
  have hws : WR ρs small w := by
    refine ⟨fun b o hb => ?_, fun b b' o o' x hb hb' hx hx' => ?_, fun b x hx => hw.lt b x (hs2 b x hx).2, fun b x hx => hw.bd b x (hs2 b x hx).2, fun b m ver seen hb => ?_, fun b m ver seen es ck v' hb => ?_⟩
    · obtain ⟨x, ob, g1, g2, g3, g4⟩ := hw.obj b o (hpart.sub b o hb)
      obtain ⟨ns, hns, hcl⟩ := hpart.names b o hb
      exact ⟨x, ob, by rw [hs1 b _ hb]; exact g1, g2, g3.move hns (fun b' hb' x' hx' => by
        obtain ⟨o', ho'⟩ := (hcl b' hb').resolve_left (by simp)
        exact ⟨by rw [hs1 b' o' ho']; exact hx', rfl⟩), g4⟩
    · exact hw.inj b b' o o' x (hpart.sub b o hb) (hpart.sub b' o' hb') (hs2 b x hx).2 (hs2 b' x hx').2
    · obtain ⟨ns, hns, _⟩ := hpart.names b _ hb
      cases hns
    · obtain ⟨ns, hns, _⟩ := hpart.names b _ hb
      cases hns
  have hfs : Free ρs h.nx hi := fun b h1 h2 => by
    cases hb : small.get b with
    | none =>
      show (match small.get b with | some _ => ρ b | none => none) = none
      rw [hb]
    | some o => rw [hs1 b o hb]; exact hfree b h1 h2
  have hxs' : VRs ρs args xs := mvs args xs hxs hargs
  obtain ⟨hmx1, hmx2⟩ := maxNx_ok inner h.nx
  have hne0 : inner ≠ [] := by
    intro e
    subst e
    exact (hcall f args ⟨small, h.nx⟩ [] hin 0 (by simp) ρs w xs hws (fun b _ h => by omega) hxs').1 rfl
  have hvne : vs ≠ [] := by
    obtain ⟨p, hp⟩ := List.exists_mem_of_ne_nil _ hne0
    exact List.ne_nil_of_mem (answers_ok hvs p hp).2.2
  have hN : maxNx inner h.nx ≤ hi := by
    obtain ⟨v, hv⟩ := List.exists_mem_of_ne_nil _ hvne
    exact hbd (v, ⟨keepH small h.hp, maxNx inner h.nx⟩) (List.mem_map.2 ⟨v, hv, rfl⟩)
  obtain ⟨_, hc⟩ := hcall f args ⟨small, h.nx⟩ inner hin hi (fun o ho => Nat.le_trans (hmx2 o ho) hN) ρs w xs hws hfs hxs'
  refine ⟨by simpa using hvne, hc.mono ?_⟩
  rintro e w' ⟨v, h', hm, x, ρ', he, hv, hon⟩
  obtain ⟨ha, hsub, hmem⟩ := answers_ok hvs _ hm
  simp only at ha hsub hmem
  refine ⟨v, ⟨keepH small h.hp, maxNx inner h.nx⟩, List.mem_map.2 ⟨v, hmem, rfl⟩, x, ρ, he, hv.move (fun b hb => by rw [ha] at hb; cases hb), ?_⟩
  have hin1 : ∀ b x, ρs b = some x → ρ' b = some x := hon.ex.le.to
  -- blocks outside the part stay
  have hout : ∀ b o x ob, h.hp.get b = some o → small.get b = none → ρ b = some x → w.heap[x]? = some ob → w'.heap[x]? = some ob := by
    intro b o x ob hb hbn hx hob
    rw [hon.ex.keep x (hw.lt b x hx) (fun b0 hb0 => by
      obtain ⟨⟨o0, h0⟩, h1⟩ := hs2 b0 x hb0
      have := hw.inj b b0 o o0 x hb (hpart.sub b0 o0 h0) hx h1
      subst this
      rw [hbn] at h0; cases h0)]
    exact hob
  have hback : ∀ b o x, small.get b = some o → ρ' b = some x → ρ b = some x ∧ ρ.tot b = ρ'.tot b := by
    intro b o x hb hx
    obtain ⟨y, ob, g1, _⟩ := hw.obj b o (hpart.sub b o hb)
    have h1 := hs1 b o hb
    have h2 := hin1 b y (by rw [h1]; exact g1)
    rw [hx] at h2; cases h2
    exact ⟨g1, (hon.ex.le.tot b x (by rw [h1]; exact g1)).symm⟩
  refine ⟨⟨?_, fun b b' o o' x hb hb' => hw.inj b b' o o' x (keepH_ok hb).1 (keepH_ok hb').1, ?_, hw.bd, ?_, fun b m ver seen es ck v' hb hm' => hw.ver b m ver seen es ck v' (keepH_ok hb).1 (keepH_ok hm').1⟩, ⟨.refl _, hon.ex.size, ?_, fun b x h _ => ⟨b, h⟩, hon.ex.os, hon.ex.out, hon.ex.tape⟩, hmx1, fun _ _ => rfl⟩
  · intro b o hb0
    obtain ⟨hb, _⟩ := keepH_ok hb0
    cases hbs : small.get b with
    | none =>
      obtain ⟨x, ob, g1, g2, g3, g4⟩ := hw.obj b o hb
      exact ⟨x, ob, g1, hout b o x ob hb hbs g1 g2, g3, g4⟩
    | some o2 =>
      have := hpart.sub b o2 hbs
      rw [hb] at this; cases this
      have h1 := subH_ok _ _ b o hsub hbs
      obtain ⟨x, ob, g1, g2, g3, g4⟩ := hon.wr.obj b o h1
      obtain ⟨q1, q2⟩ := hback b o x hbs g1
      refine ⟨x, ob, q1, g2, ?_, by rw [q2]; exact g4⟩
      obtain ⟨ns, hns, hcl⟩ := hpart.names b o hbs
      exact g3.move hns (fun b' hb' x' hx' => by
        obtain ⟨o', ho'⟩ := (hcl b' hb').resolve_left (by simp)
        exact hback b' o' x' ho' hx')
  · intro b x hx
    exact Nat.lt_of_lt_of_le (hw.lt b x hx) hon.ex.size
  · intro b m ver seen hb0 es ck hm0
    obtain ⟨hb, hoff⟩ := keepH_ok hb0
    obtain ⟨hm', _⟩ := keepH_ok hm0
    have hbn : small.get b = none := by
      cases hbs : small.get b with
      | none => rfl
      | some o2 =>
        have := hpart.sub b o2 hbs
        rw [hb] at this; cases this
        obtain ⟨ns, hns, _⟩ := hpart.names b _ hbs
        cases hns
    have hmn : small.get m = none := by
      cases hbs : small.get m with
      | none => rfl
      | some o2 =>
        have := hpart.sub m o2 hbs
        rw [hm'] at this; cases this
        exact absurd hbs (hoff m ver seen rfl es ck ver)
    refine (hw.itr b m ver seen hb es ck hm').mono (.refl _) (fun y ob hy hor => ?_)
    rcases hor with h1 | h1
    · exact hout b _ y ob hb hbn h1 hy
    · exact hout m _ y ob hm' hmn h1 hy
  · intro x hx hn
    exact hon.ex.keep x hx (fun b hb => hn b (hs2 b x hb).2)

end
end Go.AX

/- Outcomes made fewer. -/
set_option autoImplicit false
set_option linter.unusedSimpArgs false
set_option linter.unusedVariables false
namespace Go.AX
noncomputable section

def insN (n : Nat) : List Nat → List Nat
  | [] => [n]
  | a :: l => bif Nat.beq n a then a :: l else bif Nat.ble n a then n :: a :: l else a :: insN n l

def sortN : List Nat → List Nat
  | [] => []
  | a :: l => bif Nat.beq a lim then sortN l else insN a (sortN l)

theorem insN_mem (n i : Nat) : ∀ l, i ∈ insN n l ↔ i = n ∨ i ∈ l
  | [] => by simp [insN]
  | a :: l => by
    simp only [insN]
    cases h : Nat.beq n a with
    | true =>
      have := Nat.eq_of_beq_eq_true h
      subst this
      simp
    | false =>
      simp only [cond_false]
      cases Nat.ble n a with
      | true => simp
      | false =>
        simp only [cond_false, List.mem_cons, insN_mem n i l]
        constructor
        · rintro (h | h | h)
          · exact .inr (.inl h)
          · exact .inl h
          · exact .inr (.inr h)
        · rintro (h | h | h)
          · exact .inr (.inl h)
          · exact .inl h
          · exact .inr (.inr h)

theorem sortN_mem (i : Nat) (hi : i ≠ lim) : ∀ l, i ∈ sortN l ↔ i ∈ l
  | [] => by simp [sortN]
  | a :: l => by
    simp only [sortN]
    cases h : Nat.beq a lim with
    | true =>
      have := Nat.eq_of_beq_eq_true h
      subst this
      simp [sortN_mem i hi l, hi]
    | false =>
      simp only [cond_false, insN_mem, List.mem_cons, sortN_mem i hi l]

def lenOk (hp : Heap) (m : Nat) : Bool := match hp.get m with
  | some (.map es _ _) => Nat.ble es.length lim
  | _ => false

/-- an object that says no more than either of two -/
def meetO (hp hp' : Heap) (a b : AO) : Option AO :=
  bif eqo a b then some a else
  match a, b with
  | .iter m v s, .iter m' v' s' => bif Nat.beq m m' && Nat.beq v v' && leq (sortN s) (sortN s') && lenOk hp m && lenOk hp' m then some (.iter m v (lim :: sortN s)) else none
  | _, _ => none

def meetS (s s' : St) : St :=
  ⟨V.meet (fun a b => bif eqv a b then some a else none) s.tm s'.tm, ⟨T.meet (meetO s.h.hp s'.h.hp) s.h.hp s'.h.hp, bif Nat.ble s.h.nx s'.h.nx then s'.h.nx else s.h.nx⟩⟩

theorem lenOk_ok {hp : Heap} {m : Nat} (h : lenOk hp m = true) : ∃ es ck v, hp.get m = some (.map es ck v) ∧ es.length ≤ lim := by
  unfold lenOk at h
  split at h
  · next es ck v hm => exact ⟨es, ck, v, hm, Nat.le_of_ble_eq_true h⟩
  · cases h

theorem meetO_ok {hp hp' : Heap} {a b c : AO} (h : meetO hp hp' a b = some c) (n : Nat) (ha : hp.get n = some a) (hb : hp'.get n = some b) :
    (hp.get n = some c ∨ ∃ m ver seen sn, hp.get n = some (.iter m ver seen) ∧ c = .iter m ver (lim :: sn) ∧ (∀ i, i ≠ lim → (i ∈ sn ↔ i ∈ seen)) ∧ ∃ es ck v, hp.get m = some (.map es ck v) ∧ es.length ≤ lim) ∧
    (hp'.get n = some c ∨ ∃ m ver seen sn, hp'.get n = some (.iter m ver seen) ∧ c = .iter m ver (lim :: sn) ∧ (∀ i, i ≠ lim → (i ∈ sn ↔ i ∈ seen)) ∧ ∃ es ck v, hp'.get m = some (.map es ck v) ∧ es.length ≤ lim) := by
  unfold meetO at h
  cases he : eqo a b with
  | true =>
    rw [he] at h
    cases h
    have := eqo_eq he
    exact ⟨.inl ha, .inl (by rw [this]; exact hb)⟩
  | false =>
    rw [he] at h
    simp only [cond_false] at h
    split at h
    · next m v s m' v' s' =>
      cases hc : (Nat.beq m m' && Nat.beq v v' && leq (sortN s) (sortN s') && lenOk hp m && lenOk hp' m) with
      | false => rw [hc] at h; cases h
      | true =>
        rw [hc] at h
        cases h
        simp only [Bool.and_eq_true] at hc
        obtain ⟨⟨⟨⟨c1, c2⟩, c3⟩, c4⟩, c5⟩ := hc
        obtain rfl := Nat.eq_of_beq_eq_true c1
        obtain rfl := Nat.eq_of_beq_eq_true c2
        have c3' := (leq_iff _ _).1 c3
        exact ⟨.inr ⟨m, v, s, sortN s, ha, rfl, fun i hi => sortN_mem i hi s, lenOk_ok c4⟩,
          .inr ⟨m, v, s', sortN s, hb, rfl, fun i hi => by rw [c3']; exact sortN_mem i hi s', lenOk_ok c5⟩⟩
    · cases h

theorem meetS_ok (s s' : St) : Wk s (meetS s s') ∧ Wk s' (meetS s s') := by
  have htm : ∀ i v, (meetS s s').tm.get i = some v → s.tm.get i = some v ∧ s'.tm.get i = some v := by
    intro i v h
    obtain ⟨a, b, h1, h2, h3⟩ := V.get_meet _ _ _ _ _ h
    cases he : eqv a b with
    | false => rw [he] at h3; cases h3
    | true =>
      rw [he] at h3
      cases h3
      have := eqv_eq _ _ he
      subst this
      exact ⟨h1, h2⟩
  have hnx : s.h.nx ≤ (meetS s s').h.nx ∧ s'.h.nx ≤ (meetS s s').h.nx := by
    show s.h.nx ≤ (bif Nat.ble s.h.nx s'.h.nx then s'.h.nx else s.h.nx) ∧ s'.h.nx ≤ (bif Nat.ble s.h.nx s'.h.nx then s'.h.nx else s.h.nx)
    cases h : Nat.ble s.h.nx s'.h.nx with
    | true => exact ⟨Nat.le_of_ble_eq_true h, Nat.le_refl _⟩
    | false =>
      have : ¬ s.h.nx ≤ s'.h.nx := fun q => by rw [Nat.ble_eq_true_of_le q] at h; cases h
      simp only [cond_false]
      omega
  refine ⟨⟨fun i v h => (htm i v h).1, fun b o h => ?_, hnx.1⟩, ⟨fun i v h => (htm i v h).2, fun b o h => ?_, hnx.2⟩⟩
  · obtain ⟨a, c, h1, h2, h3⟩ := T.get_meet _ _ _ _ _ h
    exact (meetO_ok h3 b h1 h2).1
  · obtain ⟨a, c, h1, h2, h3⟩ := T.get_meet _ _ _ _ _ h
    exact (meetO_ok h3 b h1 h2).2

theorem Hw.trans {a b c : Heap} (h : Hw a b) (h' : Hw b c) : Hw a c := by
  have hmap : ∀ m es ck v, b.get m = some (.map es ck v) → a.get m = some (.map es ck v) := by
    intro m es ck v hm
    rcases h m _ hm with h1 | ⟨_, _, _, _, _, h2, _⟩
    · exact h1
    · cases h2
  intro n o hn
  rcases h' n o hn with h1 | ⟨m, ver, seen, sn, h1, rfl, h3, h4⟩
  · exact h n o h1
  · obtain ⟨es, ck, v, q1, q2⟩ := h4
    rcases h n _ h1 with g1 | ⟨m', ver', seen', sn', g1, g2, g3, g4⟩
    · exact .inr ⟨m, ver, seen, sn, g1, rfl, h3, es, ck, v, hmap _ _ _ _ q1, q2⟩
    · cases g2
      exact .inr ⟨m, ver, seen', sn, g1, rfl, fun i hi => by rw [h3 i hi, ← g3 i hi]; simp [hi], g4⟩

theorem Wk.refl (s : St) : Wk s s := ⟨fun _ _ h => h, .refl _, Nat.le_refl _⟩
theorem Wk.trans {a b c : St} (h : Wk a b) (h' : Wk b c) : Wk a c := ⟨fun i v q => h.tm i v (h'.tm i v q), h.hp.trans h'.hp, Nat.le_trans h.nx h'.nx⟩

/-- do all iterators stand alike? -/
def itersEq (a b : Heap) : Bool := T.all2 (fun v v' => match v, v' with
  | .iter _ _ s, some (.iter _ _ s') => leq (sortN s) (sortN s')
  | _, _ => true) a b

def mergeIn (s : St) : Outs → Outs
  | [] => [(.normal, s)]
  | (.normal, t) :: l => bif itersEq s.h.hp t.h.hp then (.normal, meetS s t) :: l else (.normal, t) :: mergeIn s l
  | (.exit i, t) :: l => (.exit i, t) :: mergeIn s l
  | (.goto i, t) :: l => (.goto i, t) :: mergeIn s l
  | (.ret, t) :: l => (.ret, t) :: mergeIn s l

def mergeAll : Outs → Outs
  | [] => []
  | (.normal, s) :: l => mergeIn s (mergeAll l)
  | (.exit i, t) :: l => (.exit i, t) :: mergeAll l
  | (.goto i, t) :: l => (.goto i, t) :: mergeAll l
  | (.ret, t) :: l => (.ret, t) :: mergeAll l

def mergeF : Outs → Outs
  | [] => []
  | [x] => [x]
  | a :: b :: l => mergeAll (a :: b :: l)

theorem mergeIn_ok (s : St) : ∀ (l : Outs), (∃ o' ∈ mergeIn s l, o'.1 = .normal ∧ Wk s o'.2) ∧ ∀ o ∈ l, ∃ o' ∈ mergeIn s l, o'.1 = o.1 ∧ Wk o.2 o'.2
  | [] => ⟨⟨_, List.mem_singleton.2 rfl, rfl, .refl s⟩, by simp⟩
  | (e, t) :: l => by
    obtain ⟨⟨p, p1, p2, p3⟩, ih⟩ := mergeIn_ok s l
    have step : mergeIn s ((e, t) :: l) = (e, t) :: mergeIn s l → (∃ o' ∈ mergeIn s ((e, t) :: l), o'.1 = .normal ∧ Wk s o'.2) ∧ ∀ o ∈ (e, t) :: l, ∃ o' ∈ mergeIn s ((e, t) :: l), o'.1 = o.1 ∧ Wk o.2 o'.2 := by
      intro h
      rw [h]
      refine ⟨⟨p, List.mem_cons_of_mem _ p1, p2, p3⟩, fun o ho => ?_⟩
      rcases List.mem_cons.1 ho with rfl | ho
      · exact ⟨_, List.mem_cons_self .., rfl, .refl _⟩
      · obtain ⟨q, q1, q2⟩ := ih o ho
        exact ⟨q, List.mem_cons_of_mem _ q1, q2⟩
    cases e with
    | exit i => exact step rfl
    | goto i => exact step rfl
    | ret => exact step rfl
    | normal =>
      cases hb : itersEq s.h.hp t.h.hp with
      | false => exact step (by simp only [mergeIn, hb, cond_false])
      | true =>
        have h : mergeIn s ((.normal, t) :: l) = (.normal, meetS s t) :: l := by simp only [mergeIn, hb, cond_true]
        rw [h]
        obtain ⟨k1, k2⟩ := meetS_ok s t
        refine ⟨⟨_, List.mem_cons_self .., rfl, k1⟩, fun o ho => ?_⟩
        rcases List.mem_cons.1 ho with rfl | ho
        · exact ⟨_, List.mem_cons_self .., rfl, k2⟩
        · exact ⟨o, List.mem_cons_of_mem _ ho, rfl, .refl _⟩

theorem mergeAll_ok : ∀ (l : Outs), ∀ o ∈ l, ∃ o' ∈ mergeAll l, o'.1 = o.1 ∧ Wk o.2 o'.2
  | [], o, ho => by simp at ho
  | (e, t) :: l, o, ho => by
    have ih := mergeAll_ok l
    have step : mergeAll ((e, t) :: l) = (e, t) :: mergeAll l → ∃ o' ∈ mergeAll ((e, t) :: l), o'.1 = o.1 ∧ Wk o.2 o'.2 := by
      intro h
      rw [h]
      rcases List.mem_cons.1 ho with rfl | ho
      · exact ⟨_, List.mem_cons_self .., rfl, .refl _⟩
      · obtain ⟨q, q1, q2⟩ := ih o ho
        exact ⟨q, List.mem_cons_of_mem _ q1, q2⟩
    cases e with
    | exit i => exact step rfl
    | goto i => exact step rfl
    | ret => exact step rfl
    | normal =>
      simp only [mergeAll]
      obtain ⟨⟨p, p1, p2, p3⟩, h2⟩ := mergeIn_ok t (mergeAll l)
      rcases List.mem_cons.1 ho with rfl | ho
      · exact ⟨p, p1, p2, p3⟩
      · obtain ⟨q, q1, q2, q3⟩ := ih o ho
        obtain ⟨u, u1, u2, u3⟩ := h2 q q1
        exact ⟨u, u1, u2.trans q2, q3.trans u3⟩

theorem mergeF_ok : MgOk mergeF := by
  intro l o ho
  cases l with
  | nil => simp at ho
  | cons a l =>
    cases l with
    | nil => exact ⟨o, ho, rfl, .refl _⟩
    | cons b l => exact mergeAll_ok (a :: b :: l) o ho

def hasN (n : Nat) : List Nat → Bool
  | [] => false
  | a :: l => Nat.beq n a || hasN n l

/-- fewer outcomes at the rounds of the loops of some functions -/
def mergeOf (fs : List Nat) : Merge where
  code := fun f => bif hasN f fs then mergeF else fun l => l
  ret := fun _ _ l => l

theorem mergeOf_ok (fs : List Nat) : MergeOk (mergeOf fs) where
  code := fun f => by
    show MgOk (bif hasN f fs then mergeF else fun l => l)
    cases hasN f fs with
    | true => exact mergeF_ok
    | false => exact .id
  ret := fun f h l p hp => ⟨p, hp, rfl, .refl _, Nat.le_refl _⟩

end
end Go.AX

