import Derived.Test.YtiobbiamnjapgaaDoorSim7
namespace Go.Proofs.YtiobbiamnjapgaaDoor
open Go Go.RowKit

/-! ### What a new variable holds -/
def Zr (ly : Ly) (cs : List Value) : Prop := ∀ w S γ, ly.hold w S γ cs
def Zrs (l : List Ly) (cs : List Value) : Prop := ∀ w S γ, Ly.holds w S γ l cs
theorem zr_i64 : Zr (i64 0) [.int .i64 0] := fun _ _ _ => ⟨_, rfl, rfl, by decide, by decide⟩
theorem zr_i32 : Zr (i32 0) [.int .i32 0] := fun _ _ _ => ⟨_, rfl, rfl, by decide, by decide⟩
theorem zr_u8 : Zr (u8 0) [.int .u8 0] := fun _ _ _ => ⟨_, rfl, rfl, by decide, by decide⟩
theorem zr_u32 : Zr (u32 0) [.int .u32 0] := fun _ _ _ => ⟨_, rfl, rfl, by decide, by decide⟩
theorem zr_u64 : Zr (u64 0) [.int .u64 0] := fun _ _ _ => ⟨_, rfl, rfl, by decide, by decide⟩
theorem zr_bl : Zr (bl false) [.bool false] := fun _ _ _ => ⟨_, rfl, rfl⟩
theorem zr_str : Zr (str []) [.string ⟨#[]⟩] := fun _ _ _ => ⟨_, rfl, rfl, by decide⟩
theorem zr_sli {k} : Zr (sli k []) [.slice none 0 0] := fun _ _ _ => ⟨_, rfl, .inl ⟨rfl, rfl⟩⟩
theorem zr_x {v h} : Zr (.cell (cpX v h)) [v] := fun _ _ _ => ⟨_, rfl, rfl⟩
theorem zr_agg {l cs} (h : Zrs l cs) : Zr (.agg l) cs := fun w S γ => by simp only [Ly.hold]; exact h w S γ
theorem zrs_nil : Zrs [] [] := fun _ _ _ => rfl
theorem zrs_cons {ly l c1 c2} (h1 : Zr ly c1) (h2 : Zrs l c2) : Zrs (ly :: l) (c1 ++ c2) := fun w S γ => ⟨c1, c2, rfl, h1 w S γ, h2 w S γ⟩
theorem zrs_replicate {ly c} (h : Zr ly c) : ∀ n, Zrs (List.replicate n ly) ((List.replicate n c).flatten)
  | 0 => zrs_nil
  | n + 1 => by
    simp only [List.replicate_succ, List.flatten_cons]
    exact zrs_cons h (zrs_replicate h n)

namespace Inv
variable {X : Cx} {st : Nat → Option Ly} {mm : Nat → Option Ct} {a : Act} {w : World} {γ : Nm}

/-- An owned slice gives way to another one, which may lie in the same block. -/
theorem replace (h : Inv X st mm a w γ) {w' : World} (hos : w'.os = w.os) (ht : w'.tape = w.tape) (hout : w'.output = w.output) {id : Nat} {c : Ct} (hid : mm id = some c) (hc : c.alive = true)
    {v : Value} (hv : γ id = some v) (hk : Kp (fun b => blkOf v = some b) w w')
    {y : Nat} {ct : Ct} {v' : Value} (hy : mm y = none) (_ : ct.alive = true)
    (hct : ∀ S γ', (∀ b, S b → X.S γ mm b ∨ w.heap.size ≤ b) → Ng γ γ' → γ' y = some v' → CtHold w' S γ' y ct)
    (hb : ∀ b, blkOf v' = some b → (blkOf v = some b ∨ w.heap.size ≤ b) ∧ b < w'.heap.size) :
    Inv X st (up mm [(y, ct), (id, .gone)]) a w' (gset γ y v') := by
  have hgy : γ y = none := h.fresh y hy
  have hyid : y ≠ id := by rintro rfl; rw [hy] at hid; cases hid
  have hng : Ng γ (gset γ y v') := by
    intro i u hu
    by_cases hyi : y = i
    · subst hyi; rw [hgy] at hu; cases hu
    · simp [gset, hyi, hu]
  have hup : ∀ i, up mm [(y, ct), (id, .gone)] i = if y = i then some ct else if id = i then some .gone else mm i := by
    intro i
    have : up mm [(y, ct), (id, .gone)] = up (up mm [(id, .gone)]) [(y, ct)] := by
      funext j
      rw [up_one]
      by_cases hj : y = j
      · subst hj; simp [up, lk]
      · have e : Nat.beq y j = false := by
          cases hb : Nat.beq y j
          · rfl
          · exact absurd (Nat.eq_of_beq_eq_true hb) hj
        simp [up, lk, e, hj]
    rw [this, up_one, up_one]
  have how : ∀ b, Ow (gset γ y v') (up mm [(y, ct), (id, .gone)]) b → (∃ i c' u, i ≠ id ∧ i ≠ y ∧ mm i = some c' ∧ c'.alive = true ∧ γ i = some u ∧ blkOf u = some b) ∨ blkOf v' = some b := by
    rintro b ⟨i, c', u, h1, h2, h3, h4⟩
    rw [hup] at h1
    by_cases hyi : y = i
    · subst hyi; simp [gset] at h3; subst h3; exact .inr h4
    · by_cases hii : id = i
      · simp [hyi, hii] at h1; subst h1; simp [Ct.alive] at h2
      · simp [hyi, hii] at h1
        simp [gset, hyi] at h3
        exact .inl ⟨i, c', u, fun e => hii e.symm, fun e => hyi e.symm, h1, h2, h3, h4⟩
  have hvb : ∀ b, blkOf v = some b → X.S γ mm b := fun b hb' => .inr ⟨id, c, v, hid, hc, hv, hb'⟩
  have hS : ∀ b, X.S (gset γ y v') (up mm [(y, ct), (id, .gone)]) b → X.S γ mm b ∨ w.heap.size ≤ b := by
    rintro b (hb' | hb')
    · exact .inl (.inl hb')
    · rcases how b hb' with ⟨i, c', u, h1, h2, h3, h4, h5, h6⟩ | h1
      · exact .inl (.inr ⟨i, c', u, h3, h4, h5, h6⟩)
      · rcases (hb b h1).1 with h2 | h2
        · exact .inl (hvb b h2)
        · exact .inr h2
  have hk' : Kp (X.S γ mm) w w' := ⟨hk.1, fun b hb' hn => hk.2 b hb' (fun e => hn (hvb b e))⟩
  refine { h with keep := fun i u hu => hng i u (h.keep i u hu), os := hos.trans h.os, tape := ht.trans h.tape, output := hout.trans h.output, grow := Nat.le_trans h.grow hk.1, old := ?_, fresh := ?_, cts := ?_, apart := ?_, mine := ?_, sts := ?_ }
  · intro b hb' hM
    rw [hk.2 b (Nat.lt_of_lt_of_le hb' h.grow) (fun e => by
      rcases (h.mine b ⟨id, c, v, hid, hc, hv, e⟩).1 with h1 | h1
      · omega
      · exact hM h1)]
    exact h.old b hb' hM
  · intro i hi
    rw [hup] at hi
    by_cases hyi : y = i
    · simp [hyi] at hi
    · by_cases hii : id = i
      · simp [hyi, hii] at hi
      · simp [hyi, hii] at hi
        simp [gset, hyi, h.fresh i hi]
  · intro i c' hc'
    rw [hup] at hc'
    by_cases hyi : y = i
    · subst hyi
      simp at hc'; subst hc'
      exact hct _ _ hS hng (by simp [gset])
    · by_cases hii : id = i
      · simp [hyi, hii] at hc'; subst hc'; trivial
      · simp [hyi, hii] at hc'
        by_cases hal' : c'.alive = true
        · refine (h.cts i c' hc').mono hk' hS hng ?_
          intro u b hu hb'
          refine hk.2 b (h.mine b ⟨i, c', u, hc', hal', hu, hb'⟩).2.1 (fun e => hii ?_)
          exact h.apart id i c c' v u b hid hc hc' hal' hv hu e hb'
        · cases c' <;> simp [Ct.alive] at hal'
          trivial
  · intro i i' c1 c2 u u' b h1 h2 h3 h4 h5 h6 h7 h8
    rw [hup] at h1 h3
    have key : ∀ i c1 u, y ≠ i → (if y = i then some ct else if id = i then some Ct.gone else mm i) = some c1 → c1.alive = true → gset γ y v' i = some u → blkOf u = some b → blkOf v' = some b → False := by
      intro i c1 u hyi h1 h2 h5 h7 h8
      simp only [hyi, if_false] at h1
      by_cases hii : id = i
      · simp [hii] at h1; subst h1; simp [Ct.alive] at h2
      · simp [hii] at h1
        simp [gset, hyi] at h5
        have hm := h.mine b ⟨i, c1, u, h1, h2, h5, h7⟩
        rcases (hb b h8).1 with e | e
        · exact hii (h.apart id i c c1 v u b hid hc h1 h2 hv h5 e h7)
        · omega
    by_cases e1 : y = i <;> by_cases e2 : y = i'
    · exact e1.symm.trans e2
    · subst e1
      simp [gset] at h5; subst h5
      exact (key i' c2 u' e2 h3 h4 h6 h8 h7).elim
    · subst e2
      simp [gset] at h6; subst h6
      exact (key i c1 u e1 h1 h2 h5 h7 h8).elim
    · simp only [e1, if_false] at h1
      simp only [e2, if_false] at h3
      by_cases g1 : id = i
      · simp [g1] at h1; subst h1; simp [Ct.alive] at h2
      · by_cases g2 : id = i'
        · simp [g2] at h3; subst h3; simp [Ct.alive] at h4
        · simp [g1] at h1; simp [g2] at h3
          simp [gset, e1] at h5
          simp [gset, e2] at h6
          exact h.apart i i' c1 c2 u u' b h1 h2 h3 h4 h5 h6 h7 h8
  · intro b hb'
    rcases how b hb' with ⟨i, c', u, h1, h2, h3, h4, h5, h6⟩ | h1
    · obtain ⟨g1, g2, g3⟩ := h.mine b ⟨i, c', u, h3, h4, h5, h6⟩
      exact ⟨g1, Nat.lt_of_lt_of_le g2 hk.1, g3⟩
    · obtain ⟨g1, g2⟩ := hb b h1
      rcases g1 with g1 | g1
      · obtain ⟨k1, k2, k3⟩ := h.mine b ⟨id, c, v, hid, hc, hv, g1⟩
        exact ⟨k1, g2, k3⟩
      · exact ⟨.inl (Nat.le_trans h.grow g1), g2, fun hs => by have := h.s0 b hs; have := h.grow; omega⟩
  · intro d ly hd
    obtain ⟨u, hu, hl⟩ := h.sts d ly hd
    exact ⟨u, hu, Ly.val_mono hk' hS hng ly u hl⟩
end Inv

section ops
variable {X : Cx} {st : Nat → Option Ly} {mm : Nat → Option Ct}

theorem Kp_alloc (S : Nat → Prop) (w : World) (o : Obj) : Kp S w (w.alloc o) := ⟨by simp, fun b hb _ => Below.heap_alloc w o b hb⟩
theorem heap_new (w : World) (o : Obj) : (w.alloc o).heap[w.heap.size]? = some o := by
  show (w.heap.push o)[w.heap.size]? = _; simp

/-- An operation that makes a block. -/
theorem new_ok {d op ty pos af y ct} (hd : Nat.blt d X.N = true) (hy : mm y = none) (hal : ct.alive = true)
    (h : ∀ a w γ, Inv X st mm a w γ → ∃ v w', (execOp a.eval ⟨some d, op, ty, pos, af, none⟩).run X.P w = .ok (.value v) w' ∧ w'.os = w.os ∧ w'.tape = w.tape ∧ w'.output = w.output ∧ Kp (fun _ => False) w w' ∧ v.oneCell' = true ∧
      (∀ S γ', (∀ b, S b → X.S γ mm b ∨ w.heap.size ≤ b) → Ng γ γ' → γ' y = some v → CtHold w' S γ' y ct) ∧ (∀ b, blkOf v = some b → w.heap.size ≤ b ∧ b < w'.heap.size)) :
    OpOk X st mm ⟨some d, op, ty, pos, af, none⟩ [(d, .own y)] [(y, ct)] := by
  intro a w γ K Q hi hK
  obtain ⟨v, w', hr, h1, h2, h3, h4, h5, h6, h7⟩ := h a w γ hi
  unfold Oper.wp
  rw [hr]
  have hi' := hi.new h1 h2 h3 h4 hy hal (fun S γ' _ h => h6 S γ' h) h7
  exact hK _ _ _ (hi'.put (d := d) (v := v) (ly := .own y) (by simpa using hd) ⟨by simp [Inv.gset], h5⟩)

/-- A new variable, at its zero. -/
theorem al {d T ty pos af y k b z ly} (hT : TyI X.P T k b z) (hz : Zr ly z.cells.toList) (hy : mm y = none) (hd : Nat.blt d X.N = true) :
    OpOk X st mm ⟨some d, .alloc T, ty, pos, af, none⟩ [(d, .own y)] [(y, .bx T ly)] :=
  new_ok hd hy rfl fun a w γ hi =>
    ⟨.pointer (some ⟨w.heap.size, 0, none⟩), w.alloc (.cells z.cells T), by
      simp only [execOp]; simp [Instr.alloc, run_zeroValue hT, newVar, newRow], rfl, rfl, rfl, Kp_alloc _ _ _, rfl,
      fun S γ' hS hg hy' => ⟨w.heap.size, z.cells, hy', heap_new _ _, hz _ _ _⟩, fun b hb => by simp [blkOf] at hb; subst hb; simp⟩
/-- A new variable that holds a value. -/
theorem box {d T x ty pos af y ly} (hl : ly.lies = true) (hx : OpdF st x ly) (hy : mm y = none) (hd : Nat.blt d X.N = true) :
    OpOk X st mm ⟨some d, .box T x, ty, pos, af, none⟩ [(d, .own y)] [(y, .bx T ly)] :=
  new_ok hd hy rfl fun a w γ hi => by
    have hv := Ly.hold_of_val hl (hx.val hi)
    refine ⟨.pointer (some ⟨w.heap.size, 0, none⟩), w.alloc (.cells (a.eval x).cells T), by
      simp only [execOp]; simp [Instr.box, newVar, newRow], rfl, rfl, rfl, Kp_alloc _ _ _, rfl,
      fun S γ' hS hg hy' => ⟨w.heap.size, _, hy', heap_new _ _, Ly.hold_mono (Kp_alloc _ _ _) hS hg _ _ hv⟩, fun b hb => by simp [blkOf] at hb; subst hb; simp⟩

/-- A slice that is nil, owned. -/
theorem asgN {d ty pos af y E k} (hd : Nat.blt d X.N = true) (hy : mm y = none) :
    OpOk X st mm ⟨some d, .assign (.const (.slice none 0 0)), ty, pos, af, none⟩ [(d, .own y)] [(y, .sl E k [])] :=
  new_ok hd hy rfl fun a w γ hi => ⟨.slice none 0 0, w, rfl, rfl, rfl, rfl, Kp.refl _ _, rfl, fun S γ' _ _ hy' => ⟨_, [], hy', ⟨by simp, .inl ⟨rfl, rfl⟩⟩, rfl, fun _ h => by cases h⟩, fun b hb => by simp [blkOf] at hb⟩
theorem mvN {d ty pos af y E k} (hd : Nat.blt d X.N = true) (hy : mm y = none) :
    OpOk X st mm ⟨some d, .move (.const (.slice none 0 0)), ty, pos, af, none⟩ [(d, .own y)] [(y, .sl E k [])] :=
  new_ok hd hy rfl fun a w γ hi => ⟨.slice none 0 0, w, rfl, rfl, rfl, rfl, Kp.refl _ _, rfl, fun S γ' _ _ hy' => ⟨_, [], hy', ⟨by simp, .inl ⟨rfl, rfl⟩⟩, rfl, fun _ h => by cases h⟩, fun b hb => by simp [blkOf] at hb⟩

/-! ### Owned slices -/
theorem slI {id E k ls} {a w γ} (hI : Inv X st mm a w γ) (hm : mm id = some (.sl E k ls)) : ∃ v cs, γ id = some v ∧ w.ownsRow 0 E k v ls.length cs ∧ Ly.holds w (X.S γ mm) γ ls cs ∧ ∀ ly ∈ ls, ly.sz = k := hI.cts id _ hm

/-- The address of an element of an owned slice. -/
theorem ixO {kk : IntKind} {d x i T ty pos af E E' k k' b z p id} {α : Type} {f : α → Ly} {xs : List α} {y : α} (hm : mm id = some (.sl E' k (xs.map f))) (hT : X.P.underlying T = some (.slice E)) (hE : TyI X.P E k' b z) (hg : getI xs p = some y)
    (hd : Nat.blt d X.N = true) (hx : OpdF st x (.own id)) (hi : OpdF st i (.cell (cpI kk p))) :
    OpOk X st mm ⟨some d, .indexAddr T x i, ty, pos, af, none⟩ [(d, .ptr id (p.toNat * k'))] [] :=
  ok_val hd fun a w γ hI => by
    obtain ⟨h0, hg⟩ := getI_some hg
    obtain ⟨g1, _⟩ := hi.val hI
    have hlt : p.toNat < xs.length := by
      rcases Nat.lt_or_ge p.toNat xs.length with h | h
      · exact h
      · simp [List.getElem?_eq_none h] at hg
    obtain ⟨v, cs, e1, e2, e3, e4⟩ := slI hI hm
    obtain ⟨hv, _⟩ := hx.val hI
    rw [hv] at e1; simp at e1; subst e1
    obtain ⟨_, e5⟩ := e2
    rcases e5 with ⟨h1, hn⟩ | ⟨g, cap, cur, h1, _, h2, h3, h4, h5, h6⟩
    · have : xs = [] := by simpa using hn
      subst this; simp at hlt
    · have hpl : p < (xs.length : Int) := by omega
      refine ⟨.pointer (some ⟨g, p.toNat * k', none⟩), ?_, _, g, hv, by rw [h1]; rfl, rfl⟩
      simp only [execOp, h1, g1]
      simp [Instr.indexAt, asIntOf, underlying, hT, h0, hpl, run_sizeOf' hE, add0]

theorem elem_cells {w : World} {S γ} {E k : Nat} {v : Value} {α : Type} {f : α → Ly} {xs : List α} {cs : List Value} {i : Nat} {y : α} (ho : w.ownsRow 0 E k v xs.length cs) (hh : Ly.holds w S γ (xs.map f) cs) (hz : ∀ ly ∈ xs.map f, ly.sz = k) (hy : xs[i]? = some y) :
    ∃ g cap cur a u b, v = .slice (some ⟨g, 0, none⟩) xs.length cap ∧ w.heap[g]? = some (.cells cur E (0, 0)) ∧ xs.length ≤ cap ∧ cap ≤ maxLen ∧ cur.size = cap * k ∧ cur.toList = (a ++ u ++ b) ++ cur.toList.drop (xs.length * k) ∧ cs = a ++ u ++ b ∧ a.length = i * k ∧ Ly.hold w S γ (f y) u ∧
      ∀ (n : Ly) (u' : List Value), Ly.hold w S γ n u' → Ly.holds w S γ ((xs.map f).set i n) (a ++ u' ++ b) := by
  obtain ⟨hl, ho⟩ := ho
  rcases ho with ⟨_, hn⟩ | ⟨g, cap, cur, rfl, _, h2, h3, h4, h5, h6⟩
  · have : xs = [] := by simpa using hn
    subst this; simp at hy
  · have hmap : (xs.map f)[i]? = some (f y) := by simp [hy]
    have hlt : i < xs.length := by
      rcases Nat.lt_or_ge i xs.length with h | h
      · exact h
      · simp [List.getElem?_eq_none h] at hy
    obtain ⟨a1, u, b1, rfl, e1, e2, e3⟩ := holds_split hh hmap
    rw [szs_take hz (by simp; omega)] at e1
    refine ⟨g, cap, cur, a1, u, b1, rfl, h2, h3, h4, h5, ?_, rfl, e1, e2, e3⟩
    rw [← h6, List.take_append_drop]

/-- An element, or a part of one, of an owned slice is read. -/
theorem ldO {d x T ty pos af ag k kk id E lz off c i} {α : Type} {f : α → Ly} {xs : List α} {y : α} (p : List Nat) (hm : mm id = some (.sl E k (xs.map f))) (hy : xs[i]? = some y) (hg : Ly.go p (f y) = some (lz, c)) (hoff : off = i * k + c)
    (hT : Shp X.P T ag kk) (hn : lz.isN = ag) (hz : lz.sz = kk) (hd : Nat.blt d X.N = true) (hx : OpdF st x (.ptr id off)) :
    OpOk X st mm ⟨some d, .load T x, ty, pos, af, none⟩ [(d, lz)] [] :=
  ok_val hd fun a w γ hI => by
    subst hoff
    obtain ⟨v, cs, e1, e2, e3, e4⟩ := slI hI hm
    rw [List.length_map] at e2
    obtain ⟨g, cap, cur, a1, u, b1, rfl, h2, h3, h4, h5, h6, rfl, h7, h8, _⟩ := elem_cells e2 e3 e4 hy
    obtain ⟨v0, g', k1, k2, k3⟩ := hx.val hI
    rw [e1] at k1; simp at k1; subst k1; simp [blkOf] at k2; subst k2
    obtain ⟨a2, u2, b2, hc, hl, hh, _⟩ := go_hold p hg h8
    obtain ⟨v, hr, hv⟩ := run_loadVar (P := X.P) (b := g) (o := i * k + c) hT hn hz (us := u2) (w := w) (fun j v hj => by
      have hj' : j < u2.length := by
        rcases Nat.lt_or_ge j u2.length with h | h
        · exact h
        · simp [List.getElem?_eq_none h] at hj
      rw [cell_of_heap h2, ← Array.getElem?_toList, h6, hc]
      have : a1 ++ (a2 ++ u2 ++ b2) ++ b1 ++ cur.toList.drop (xs.length * k) = (a1 ++ a2) ++ (u2 ++ (b2 ++ b1 ++ cur.toList.drop (xs.length * k))) := by simp
      rw [this, List.getElem?_append_right (by simp; omega), List.getElem?_append_left (by simp; omega)]
      rw [← hj]; congr 1; simp; omega) hh
    exact ⟨v, by simp only [execOp, k3]; simp [Instr.loadAt, Instr.sureAddr, hr], hv⟩

/-- An element, or a part of one, of an owned slice is written. -/
theorem stO {x y T ty pos af ag k kk id E lz ln off c i} {α : Type} {f : α → Ly} {xs : List α} {e : α} (e' : α) (p : List Nat) (hm : mm id = some (.sl E k (xs.map f))) (he : xs[i]? = some e) (hg : Ly.go p (f e) = some (lz, c)) (hoff : off = i * k + c)
    (hpu : Ly.pu ln p (f e) = f e') (hsz : (f e').sz = k) (hT : Shp X.P T ag kk) (hz : lz.sz = kk) (hnz : ln.sz = kk) (hnl : ln.lies = true) (hx : OpdF st x (.ptr id off)) (hy : OpdF st y ln) :
    OpOk X st mm ⟨none, .store T x y, ty, pos, af, none⟩ [] [(id, .sl E k ((xs.set i e').map f))] := by
  intro a w γ K Q hI hK
  subst hoff
  obtain ⟨v, cs, e1, e2, e3, e4⟩ := slI hI hm
  rw [List.length_map] at e2
  obtain ⟨g, cap, cur, a1, u, b1, rfl, h2, h3, h4, h5, h6, rfl, h7, h8, h9⟩ := elem_cells e2 e3 e4 he
  obtain ⟨v0, g', k1, k2, k3⟩ := hx.val hI
  rw [e1] at k1; simp at k1; subst k1; simp [blkOf] at k2; subst k2
  obtain ⟨a2, u2, b2, rfl, hl, hh, hp⟩ := go_hold p hg h8
  have hv := Ly.hold_of_val hnl (hy.val hI)
  have hvl := Ly.hold_sz _ _ hv
  have hul := Ly.hold_sz _ _ hh
  have hvl' : (a.eval y).cells.size = ln.sz := by simpa using hvl
  have hlen := congrArg List.length h6
  have hcl := e2.1
  simp only [List.length_append, Array.length_toList, List.length_drop] at hlen hcl
  obtain ⟨w', cur', r1, r2, r3, r4, r5, r6, r7⟩ := store_run (P := X.P) (o := i * k + c) (v := a.eval y) hT h2 rfl (by rw [hvl, hnz]) (by omega) (Ly.oneCell_of_hold _ _ hv)
  have hrun : (execOp a.eval ⟨none, .store T x y, ty, pos, af, none⟩).run X.P w = .ok .skip w' := by
    simp only [execOp, k3]; simp [r1]
  unfold Oper.wp
  rw [hrun]
  have hkS : Kp (X.S γ mm) w w' := ⟨r4.1, fun b hb hn => r4.2 b hb (fun ee => hn (.inr ⟨id, _, _, hm, rfl, e1, by rw [ee]; rfl⟩))⟩
  have hhold := h9 _ _ (hp _ _ hv)
  rw [hpu] at hhold
  have hmapset : (xs.map f).set i (f e') = (xs.set i e').map f := by rw [List.map_set]
  rw [hmapset] at hhold
  have hcur' : cur'.toList = (a1 ++ (a2 ++ (a.eval y).cells.toList ++ b2) ++ b1) ++ cur.toList.drop (xs.length * k) := by
    rw [r3]
    have : cur.toList = (a1 ++ a2) ++ u2 ++ (b2 ++ b1 ++ cur.toList.drop (xs.length * k)) := by
      have := h6
      simpa using this
    rw [this, show i * k + c = (a1 ++ a2).length by simp; omega, splice_eq (by rw [hvl, hul, hnz, hz])]
    have hd : (a1 ++ a2 ++ u2 ++ (b2 ++ b1 ++ cur.toList.drop (xs.length * k))).drop (xs.length * k) = cur.toList.drop (xs.length * k) := by rw [← this]
    rw [hd]; simp
  have hct : CtHold w' (X.S γ mm) γ id (.sl E k ((xs.set i e').map f)) := by
    refine ⟨_, a1 ++ (a2 ++ (a.eval y).cells.toList ++ b2) ++ b1, e1, ⟨?_, .inr ⟨g, cap, cur', by simp, Nat.zero_le _, r2, by simpa using h3, h4, ?_, ?_⟩⟩, Ly.holds_mono hkS (fun b hb => .inl hb) (Ng.refl _) _ _ hhold, ?_⟩
    · simp only [List.length_append, List.length_map, List.length_set]; omega
    · have := congrArg List.length hcur'
      simp only [List.length_append, Array.length_toList, List.length_drop] at this
      omega
    · rw [hcur', List.length_map, List.length_set, List.take_append_of_le_length (by simp only [List.length_append]; omega), List.take_of_length_le (by simp only [List.length_append]; omega)]
    · intro ly hly
      simp only [List.mem_map] at hly
      obtain ⟨q, hq, rfl⟩ := hly
      rcases List.mem_or_eq_of_mem_set hq with hq | rfl
      · exact e4 _ (List.mem_map.2 ⟨q, hq, rfl⟩)
      · exact hsz
  exact hK _ _ γ (hI.setc r5 r6 r7 hm rfl e1 rfl r4 rfl hct)

end ops
end Go.Proofs.YtiobbiamnjapgaaDoor
