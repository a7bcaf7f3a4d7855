import Derived.Test.YtiobbiamnjapgaaDoorSim1
import Derived.Test.YtiobbiamnjapgaaDoorGw
namespace Go.Proofs.YtiobbiamnjapgaaDoor
open Go

/-- What an owned block holds: a slice's row, or one variable. -/
inductive Ct where
  | sl (E k : Nat) (ls : List Ly)
  | bx (E : Nat) (ly : Ly)
  | ob (o : Obj)
  | gone

def Ct.alive : Ct → Bool
  | .gone => false
  | _ => true

def lk {α : Type} : List (Nat × α) → Nat → Option α
  | [], _ => none
  | (i, a) :: l, j => cond (Nat.beq i j) (some a) (lk l j)

def up {α : Type} (st : Nat → Option α) (el : List (Nat × α)) : Nat → Option α := fun d => match lk el d with
  | some x => some x
  | none => st d

theorem up_nil {α : Type} (st : Nat → Option α) : up st [] = st := rfl

theorem up_lk {α : Type} (l el : List (Nat × α)) : up (lk l) el = lk (el ++ l) := by
  funext d
  induction el with
  | nil => rfl
  | cons e el ih =>
    obtain ⟨i, x⟩ := e
    simp only [up, lk, List.cons_append]
    cases Nat.beq i d
    · simpa [up] using ih
    · rfl

theorem up_one {α : Type} (st : Nat → Option α) (d : Nat) (x : α) (i : Nat) : up st [(d, x)] i = if d = i then some x else st i := by
  simp only [up, lk]
  by_cases h : d = i
  · subst h; simp
  · have : Nat.beq d i = false := by
      cases hb : Nat.beq d i
      · rfl
      · exact absurd (Nat.eq_of_beq_eq_true hb) h
    simp [this, h]

def Ow (γ : Nm) (mm : Nat → Option Ct) (b : Nat) : Prop := ∃ id c v, mm id = some c ∧ c.alive = true ∧ γ id = some v ∧ blkOf v = some b

def CtHold (w : World) (S : Nat → Prop) (γ : Nm) (id : Nat) : Ct → Prop
  | .sl E k ls => ∃ v cs, γ id = some v ∧ w.ownsRow 0 E k v ls.length cs ∧ Ly.holds w S γ ls cs ∧ ∀ ly ∈ ls, ly.sz = k
  | .bx E ly => ∃ g cur, γ id = some (.pointer (some ⟨g, 0, none⟩)) ∧ w.heap[g]? = some (.cells cur E (0, 0)) ∧ Ly.hold w S γ ly cur.toList
  | .ob o => ∃ g, γ id = some (.pointer (some ⟨g, 0, none⟩)) ∧ w.heap[g]? = some o
  | .gone => True

structure Cx where
  P : Program
  N : Nat
  w0 : World
  S0 : Nat → Prop
  M : Nat → Prop
  g0 : Nm

def Cx.S (X : Cx) (γ : Nm) (mm : Nat → Option Ct) (b : Nat) : Prop := X.S0 b ∨ Ow γ mm b

/-- The package's variables are there, and nobody who may write does. -/
def GwOk (w : World) (S : Nat → Prop) : Prop := (∀ b, b < gN → ¬ S b ∧ b < w.heap.size) ∧ GF w

structure Inv (X : Cx) (st : Nat → Option Ly) (mm : Nat → Option Ct) (a : Act) (w : World) (γ : Nm) : Prop where
  size : a.tmps.size = X.N
  defs : a.defers = []
  s0 : ∀ b, X.S0 b → b < X.w0.heap.size
  gx : GwOk X.w0 (fun b => X.S0 b ∨ X.M b)
  keep : Ng X.g0 γ
  os : w.os = X.w0.os
  tape : w.tape = X.w0.tape
  output : w.output = X.w0.output
  grow : X.w0.heap.size ≤ w.heap.size
  old : ∀ b, b < X.w0.heap.size → ¬ X.M b → w.heap[b]? = X.w0.heap[b]?
  fresh : ∀ id, mm id = none → γ id = none
  cts : ∀ id c, mm id = some c → CtHold w (X.S γ mm) γ id c
  apart : ∀ id id' c c' v v' b, mm id = some c → c.alive = true → mm id' = some c' → c'.alive = true → γ id = some v → γ id' = some v' → blkOf v = some b → blkOf v' = some b → id = id'
  mine : ∀ b, Ow γ mm b → (X.w0.heap.size ≤ b ∨ X.M b) ∧ b < w.heap.size ∧ ¬ X.S0 b
  sts : ∀ d ly, st d = some ly → ∃ v, a.tmps[d]? = some v ∧ ly.val w (X.S γ mm) γ v

/-- The judgement: from every state that is as l and m say, if the model comes to r, G. -/
def Sq {R : Type} (X : Cx) (l : List (Nat × Ly)) (m : List (Nat × Ct)) (md : Option R) (G : R → Act → World → Prop) : Prop :=
  ∀ r a w γ, md = some r → Inv X (lk l) (lk m) a w γ → G r a w

def OpOk (X : Cx) (st : Nat → Option Ly) (mm : Nat → Option Ct) (o : Oper) (el : List (Nat × Ly)) (em : List (Nat × Ct)) : Prop :=
  ∀ a w γ K Q, Inv X st mm a w γ → (∀ a' w' γ', Inv X (up st el) (up mm em) a' w' γ' → K a' w') → o.wp X.P a w K Q

theorem CtHold.mono {w w' : World} {S S' : Nat → Prop} {γ γ' : Nm} {id : Nat} {c : Ct} (h : CtHold w S γ id c) (hk : Kp S w w') (hs : ∀ b, S' b → S b ∨ w.heap.size ≤ b) (hg : Ng γ γ')
    (hb : ∀ v b, γ id = some v → blkOf v = some b → w'.heap[b]? = w.heap[b]?) : CtHold w' S' γ' id c := by
  cases c with
  | gone => trivial
  | sl E k ls =>
    obtain ⟨v, cs, hv, ho, hh, hz⟩ := h
    refine ⟨v, cs, hg _ _ hv, ?_, Ly.holds_mono hk hs hg ls cs hh, hz⟩
    obtain ⟨h1, h2⟩ := ho
    refine ⟨h1, ?_⟩
    rcases h2 with h2 | ⟨g, cap, cur, rfl, hg', hc, r⟩
    · exact .inl h2
    · exact .inr ⟨g, cap, cur, rfl, hg', by rw [hb _ g hv rfl]; exact hc, r⟩
  | bx E ly =>
    obtain ⟨g, cur, hv, hc, hh⟩ := h
    exact ⟨g, cur, hg _ _ hv, by rw [hb _ g hv rfl]; exact hc, Ly.hold_mono hk hs hg ly _ hh⟩
  | ob o =>
    obtain ⟨g, hv, hc⟩ := h
    exact ⟨g, hg _ _ hv, by rw [hb _ g hv rfl]; exact hc⟩

namespace Inv
variable {X : Cx} {st : Nat → Option Ly} {mm : Nat → Option Ct} {a : Act} {w : World} {γ : Nm}

theorem gw (h : Inv X st mm a w γ) {S : Nat → Prop} (hS : ∀ b, S b → X.S γ mm b) : GwOk w S :=
  ⟨fun b hb => ⟨fun hs => by
    obtain ⟨g1, g2⟩ := h.gx.1 b hb
    rcases hS b hs with h1 | h1
    · exact g1 (.inl h1)
    · rcases (h.mine b h1).1 with h2 | h2
      · omega
      · exact g1 (.inr h2), Nat.lt_of_lt_of_le (h.gx.1 b hb).2 h.grow⟩,
   GF_st h.gx.2 h.grow fun b hb => h.old b (h.gx.1 b hb).2 fun h2 => (h.gx.1 b hb).1 (.inr h2)⟩

theorem put (h : Inv X st mm a w γ) {d : Nat} {v : Value} {ly : Ly} (hd : d < X.N) (hv : ly.val w (X.S γ mm) γ v) :
    Inv X (up st [(d, ly)]) mm (a.put (some d) v) w γ :=
  { h with
    size := by simpa [Act.put] using h.size
    defs := by simpa [Act.put] using h.defs
    sts := by
      intro i ly' hi
      rw [up_one] at hi
      by_cases hdi : d = i
      · subst hdi
        simp at hi; subst hi
        exact ⟨v, by simp [Act.put, h.size, hd], hv⟩
      · simp [hdi] at hi
        obtain ⟨u, hu, hl⟩ := h.sts i ly' hi
        exact ⟨u, by simp [Act.put, Array.getElem?_setIfInBounds_ne hdi, hu], hl⟩ }

theorem put_none (h : Inv X st mm a w γ) (v : Value) : Inv X st mm (a.put none v) w γ := h

/-- Memory has grown; nothing that was there has turned. -/
theorem ext (h : Inv X st mm a w γ) {w' : World} (hos : w'.os = w.os) (ht : w'.tape = w.tape) (hout : w'.output = w.output) (hk : Kp (fun _ => False) w w') : Inv X st mm a w' γ := by
  have hk' : Kp (X.S γ mm) w w' := ⟨hk.1, fun b hb _ => hk.2 b hb (fun h => h)⟩
  refine { h with os := hos.trans h.os, tape := ht.trans h.tape, output := hout.trans h.output, grow := Nat.le_trans h.grow hk.1, old := ?_, cts := ?_, mine := ?_, sts := ?_ }
  · intro b hb hM
    rw [hk.2 b (Nat.lt_of_lt_of_le hb h.grow) (fun h => h)]; exact h.old b hb hM
  · intro id c hc
    by_cases hal : c.alive = true
    · refine (h.cts id c hc).mono hk' (fun b hb => .inl hb) (Ng.refl _) ?_
      intro v b hv hb
      exact hk.2 b (h.mine b ⟨id, c, v, hc, hal, hv, hb⟩).2.1 (fun h => h)
    · cases c <;> simp [Ct.alive] at hal
      trivial
  · intro b hb
    obtain ⟨h1, h2, h3⟩ := h.mine b hb
    exact ⟨h1, Nat.lt_of_lt_of_le h2 hk.1, h3⟩
  · intro d ly hd
    obtain ⟨v, hv, hl⟩ := h.sts d ly hd
    exact ⟨v, hv, Ly.val_mono hk' (fun b hb => .inl hb) (Ng.refl _) ly v hl⟩

theorem ext_below (h : Inv X st mm a w γ) {w' : World} (hb : RowKit.Below w.heap.size w w') : Inv X st mm a w' γ :=
  h.ext hb.os hb.tape hb.output ⟨hb.size, fun b hb' _ => hb.block b hb'⟩

def gset (γ : Nm) (y : Nat) (v : Value) : Nm := fun i => if y = i then some v else γ i

/-- A new owned block. -/
theorem new (h : Inv X st mm a w γ) {w' : World} (hos : w'.os = w.os) (ht : w'.tape = w.tape) (hout : w'.output = w.output) (hk : Kp (fun _ => False) w w')
    {y : Nat} {ct : Ct} {v : Value} (hy : mm y = none) (hal : ct.alive = true)
    (hct : ∀ S γ', (∀ b, X.S γ mm b → S b) → (∀ b, S b → X.S γ mm b ∨ w.heap.size ≤ b) → Ng γ γ' → γ' y = some v → CtHold w' S γ' y ct)
    (hb : ∀ b, blkOf v = some b → w.heap.size ≤ b ∧ b < w'.heap.size) :
    Inv X st (up mm [(y, ct)]) a w' (gset γ y v) := by
  have h' := h.ext hos ht hout hk
  have hgy : γ y = none := h.fresh y hy
  have hng : Ng γ (gset γ y v) := by
    intro i u hu
    by_cases hyi : y = i
    · subst hyi; rw [hgy] at hu; cases hu
    · simp [gset, hyi, hu]
  have how : ∀ b, Ow (gset γ y v) (up mm [(y, ct)]) b ↔ Ow γ mm b ∨ blkOf v = some b := by
    intro b
    constructor
    · rintro ⟨id, c, u, h1, h2, h3, h4⟩
      rw [up_one] at h1
      by_cases hid : y = id
      · subst hid
        simp [gset] at h3; subst h3
        exact .inr h4
      · simp [hid] at h1
        simp [gset, hid] at h3
        exact .inl ⟨id, c, u, h1, h2, h3, h4⟩
    · rintro (⟨id, c, u, h1, h2, h3, h4⟩ | h4)
      · have hid : y ≠ id := by rintro rfl; rw [hy] at h1; cases h1
        exact ⟨id, c, u, by rw [up_one]; simp [hid, h1], h2, by simp [gset, hid, h3], h4⟩
      · exact ⟨y, ct, v, by rw [up_one]; simp, hal, by simp [gset], h4⟩
  have hS : ∀ b, X.S (gset γ y v) (up mm [(y, ct)]) b → X.S γ mm b ∨ w.heap.size ≤ b := by
    rintro b (hb' | hb')
    · exact .inl (.inl hb')
    · rcases (how b).1 hb' with h1 | h1
      · exact .inl (.inr h1)
      · exact .inr (hb b h1).1
  have hS' : ∀ b, X.S γ mm b → X.S (gset γ y v) (up mm [(y, ct)]) b := by
    rintro b (hb' | hb')
    · exact .inl hb'
    · exact .inr ((how b).2 (.inl hb'))
  have hk' : Kp (X.S γ mm) w w' := ⟨hk.1, fun b hb _ => hk.2 b hb (fun h => h)⟩
  refine { h' with keep := fun i u hu => hng i u (h.keep i u hu), fresh := ?_, cts := ?_, apart := ?_, mine := ?_, sts := ?_ }
  · intro id hid
    rw [up_one] at hid
    by_cases hyi : y = id
    · simp [hyi] at hid
    · simp [hyi] at hid
      simp [gset, hyi, h.fresh id hid]
  · intro id c hc
    rw [up_one] at hc
    by_cases hyi : y = id
    · subst hyi
      simp at hc; subst hc
      exact hct _ _ hS' hS hng (by simp [gset])
    · simp [hyi] at hc
      by_cases hal' : c.alive = true
      · refine (h.cts id c hc).mono hk' hS hng ?_
        intro u b hu hb'
        exact hk.2 b (h.mine b ⟨id, c, u, hc, hal', hu, hb'⟩).2.1 (fun h => h)
      · cases c <;> simp [Ct.alive] at hal'
        trivial
  · intro id id' c c' u u' b h1 h2 h3 h4 h5 h6 h7 h8
    rw [up_one] at h1 h3
    by_cases e1 : y = id <;> by_cases e2 : y = id'
    · exact e1.symm.trans e2
    · subst e1
      simp [e2] at h3
      simp [gset] at h5; subst h5
      simp [gset, e2] at h6
      have := (hb b h7).1
      have := (h.mine b ⟨id', c', u', h3, h4, h6, h8⟩).2.1
      omega
    · subst e2
      simp [e1] at h1
      simp [gset] at h6; subst h6
      simp [gset, e1] at h5
      have := (hb b h8).1
      have := (h.mine b ⟨id, c, u, h1, h2, h5, h7⟩).2.1
      omega
    · simp [e1] at h1
      simp [e2] at h3
      simp [gset, e1] at h5
      simp [gset, e2] at h6
      exact h.apart id id' c c' u u' b h1 h2 h3 h4 h5 h6 h7 h8
  · intro b hb'
    rcases (how b).1 hb' with h1 | h1
    · exact h'.mine b h1
    · obtain ⟨g1, g2⟩ := hb b h1
      exact ⟨.inl (Nat.le_trans h.grow g1), g2, fun hs => by have := h.s0 b hs; have := h.grow; omega⟩
  · intro d ly hd
    obtain ⟨u, hu, hl⟩ := h.sts d ly hd
    exact ⟨u, hu, Ly.val_mono hk' hS hng ly u hl⟩

/-- The content of an owned block has turned, and nothing else. -/
theorem setc (h : Inv X st mm a w γ) {w' : World} (hos : w'.os = w.os) (ht : w'.tape = w.tape) (hout : w'.output = w.output) {id : Nat} {c ct : Ct} (hid : mm id = some c) (hc : c.alive = true)
    {v : Value} (hv : γ id = some v) {b0 : Nat} (hb0 : blkOf v = some b0) (hk : Kp (fun b => b = b0) w w')
    (hal : ct.alive = true) (hct : CtHold w' (X.S γ mm) γ id ct) : Inv X st (up mm [(id, ct)]) a w' γ := by
  have hmine := h.mine b0 ⟨id, c, v, hid, hc, hv, hb0⟩
  have how : ∀ b, Ow γ (up mm [(id, ct)]) b ↔ Ow γ mm b := by
    intro b
    constructor
    · rintro ⟨i, c', u, h1, h2, h3, h4⟩
      rw [up_one] at h1
      by_cases e : id = i
      · subst e
        exact ⟨id, c, u, hid, hc, h3, h4⟩
      · simp [e] at h1
        exact ⟨i, c', u, h1, h2, h3, h4⟩
    · rintro ⟨i, c', u, h1, h2, h3, h4⟩
      by_cases e : id = i
      · subst e
        exact ⟨id, ct, u, by rw [up_one]; simp, hal, h3, h4⟩
      · exact ⟨i, c', u, by rw [up_one]; simp [e, h1], h2, h3, h4⟩
  have hSe : X.S γ (up mm [(id, ct)]) = X.S γ mm := by
    funext b
    exact propext ⟨fun h => orM h (fun x => x) (how b).1, fun h => orM h (fun x => x) (how b).2⟩
  have hk' : Kp (X.S γ mm) w w' := ⟨hk.1, fun b hb hn => hk.2 b hb (fun e => hn (.inr ⟨id, c, v, hid, hc, hv, e ▸ hb0⟩))⟩
  refine { h with os := hos.trans h.os, tape := ht.trans h.tape, output := hout.trans h.output, grow := Nat.le_trans h.grow hk.1, old := ?_, fresh := ?_, cts := ?_, apart := ?_, mine := ?_, sts := ?_ }
  · intro b hb hM
    rw [hk.2 b (Nat.lt_of_lt_of_le hb h.grow) (fun e => by
      subst e
      rcases hmine.1 with h1 | h1
      · omega
      · exact hM h1)]
    exact h.old b hb hM
  · intro i hi
    rw [up_one] at hi
    by_cases e : id = i
    · simp [e] at hi
    · simp [e] at hi; exact h.fresh i hi
  · intro i c' hc'
    rw [hSe]
    rw [up_one] at hc'
    by_cases e : id = i
    · subst e
      simp at hc'; subst hc'; exact hct
    · simp [e] at hc'
      by_cases hal' : c'.alive = true
      · refine (h.cts i c' hc').mono hk' (fun b hb => .inl hb) (Ng.refl _) ?_
        intro u b hu hb
        refine hk.2 b (h.mine b ⟨i, c', u, hc', hal', hu, hb⟩).2.1 (fun hbe => e ?_)
        subst hbe
        exact h.apart id i c c' v u b hid hc hc' hal' hv hu hb0 hb
      · cases c' <;> simp [Ct.alive] at hal'
        trivial
  · intro i i' c1 c2 u u' b h1 h2 h3 h4 h5 h6 h7 h8
    rw [up_one] at h1 h3
    have g1 : ∃ c1', mm i = some c1' ∧ c1'.alive = true := by
      by_cases e : id = i
      · subst e; exact ⟨c, hid, hc⟩
      · simp [e] at h1; exact ⟨c1, h1, h2⟩
    have g2 : ∃ c2', mm i' = some c2' ∧ c2'.alive = true := by
      by_cases e : id = i'
      · subst e; exact ⟨c, hid, hc⟩
      · simp [e] at h3; exact ⟨c2, h3, h4⟩
    obtain ⟨c1', m1, a1⟩ := g1
    obtain ⟨c2', m2, a2⟩ := g2
    exact h.apart i i' c1' c2' u u' b m1 a1 m2 a2 h5 h6 h7 h8
  · intro b hb
    obtain ⟨h1, h2, h3⟩ := h.mine b ((how b).1 hb)
    exact ⟨h1, Nat.lt_of_lt_of_le h2 hk.1, h3⟩
  · intro d ly hd
    rw [hSe]
    obtain ⟨u, hu, hl⟩ := h.sts d ly hd
    exact ⟨u, hu, Ly.val_mono hk' (fun b hb => .inl hb) (Ng.refl _) ly u hl⟩

/-- An owned block is given up: nobody writes to it any more. -/
theorem drop (h : Inv X st mm a w γ) (id : Nat) : Inv X st (up mm [(id, .gone)]) a w γ := by
  have how : ∀ b, Ow γ (up mm [(id, .gone)]) b → Ow γ mm b := by
    rintro b ⟨i, c', u, h1, h2, h3, h4⟩
    rw [up_one] at h1
    by_cases e : id = i
    · simp [e] at h1; subst h1; simp [Ct.alive] at h2
    · simp [e] at h1
      exact ⟨i, c', u, h1, h2, h3, h4⟩
  have hS : ∀ b, X.S γ (up mm [(id, .gone)]) b → X.S γ mm b := fun b h => orM h (fun x => x) (how b)
  refine { h with fresh := ?_, cts := ?_, apart := ?_, mine := ?_, sts := ?_ }
  · intro i hi
    rw [up_one] at hi
    by_cases e : id = i
    · simp [e] at hi
    · simp [e] at hi; exact h.fresh i hi
  · intro i c' hc'
    rw [up_one] at hc'
    by_cases e : id = i
    · simp [e] at hc'; subst hc'; trivial
    · simp [e] at hc'
      exact (h.cts i c' hc').mono (Kp.refl _ _) (fun b hb => .inl (hS b hb)) (Ng.refl _) (fun _ _ _ _ => rfl)
  · intro i i' c1 c2 u u' b h1 h2 h3 h4
    rw [up_one] at h1 h3
    by_cases e : id = i
    · simp [e] at h1; subst h1; simp [Ct.alive] at h2
    · by_cases e' : id = i'
      · simp [e'] at h3; subst h3; simp [Ct.alive] at h4
      · simp [e] at h1; simp [e'] at h3
        exact h.apart i i' c1 c2 u u' b h1 h2 h3 h4
  · intro b hb
    exact h.mine b (how b hb)
  · intro d ly hd
    obtain ⟨u, hu, hl⟩ := h.sts d ly hd
    exact ⟨u, hu, Ly.val_mono (Kp.refl _ _) (fun b hb => .inl (hS b hb)) (Ng.refl _) ly u hl⟩

end Inv
end Go.Proofs.YtiobbiamnjapgaaDoor
