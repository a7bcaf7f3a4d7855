import Derived.Test.YtiobbiamnjapgaaDoorSim12
namespace Go.Proofs.YtiobbiamnjapgaaDoor
open Go Go.RowKit

section ops
variable {X : Cx} {st : Nat → Option Ly} {mm : Nat → Option Ct}

/-- A slice's literal. -/
theorem bsl {d T len parts ty pos af y E k b z ls} (hT : X.P.underlying T = some (.slice E)) (hE : TyI X.P E k b z) (_ : z.cells.size = k) (hlen : parts.length = len) (hll : ls.length = len) (hle : Nat.ble (len * k) 16777216 = true) (hk0 : Nat.blt 0 k = true)
    (hp : Parts st k 0 parts ls) (hy : mm y = none) (hd : Nat.blt d X.N = true) :
    OpOk X st mm ⟨some d, .buildSlice T len ⟨parts⟩, ty, pos, af, none⟩ [(d, .own y)] [(y, .sl E k ls)] := by
  have hle' := Nat.le_of_ble_eq_true hle
  have hk0' : 0 < k := by simpa using hk0
  refine new_ok hd hy rfl fun a w γ hI => ?_
  have hEw := hE
  obtain ⟨i, hi, hz0, hsz, hby⟩ := hE
  let zc : Array Value := if len * k = 0 then #[] else z.cells
  let cells0 : Array Value := (Array.range (len * k)).map (fun x => zc[x % zc.size]!)
  obtain ⟨cells', cs, g1, g2, g3, g4, g5⟩ := fill_parts hI parts ls 0 cells0 hp (by simp [cells0, hlen])
  have hcs : cells'.toList = cs := by
    rw [g5]; simp only [Nat.zero_mul, List.take_zero, List.nil_append, Nat.zero_add]
    rw [List.drop_of_length_le (by simp [cells0, hlen])]; simp
  refine ⟨.slice (some ⟨w.heap.size, 0, none⟩) len len, w.alloc (.cells cells' E), ?_, rfl, rfl, rfl, Kp_alloc _ _ _, rfl, fun S γ' hS hg hy' => ?_, fun bb hb => by simp [blkOf] at hb; subst hb; simp⟩
  · have hn : ¬ 16777216 < len * k := by omega
    simp only [execOp]
    have hzero : ∀ w : World, (if len * k = 0 then (pure #[] : Sem (Array Value)) else do pure (← zeroValue E).cells).run X.P w = .ok zc w := by
      intro w
      by_cases h0 : len * k = 0
      · simp [h0, zc]
      · simp [h0, zc, run_zeroValue hEw]
    have hfill : Instr.fill (fun i => some (i * k, k)) cells0 (parts.map fun (i, x) => (i, a.eval x)) = some cells' := g1
    by_cases h0 : len * k = 0
    · have hz0 : zc = #[] := by simp [zc, h0]
      simp [Instr.buildSlice, underlying, hT, run_sizeOf' hEw, h0]
      have e0 : cells0 = #[] := by simp [cells0, h0]
      have g1' : Instr.fill (fun i => some (i * k, k)) (Array.map (fun _ => (default : Value)) (Array.range 0)) (List.map (fun x => (x.fst, a.eval x.snd)) parts) = some cells' := by
        rw [show Array.map (fun _ => (default : Value)) (Array.range 0) = cells0 by rw [e0]; simp]; exact g1
      rw [g1']; simp [newRow]
    · have hz0 : zc = z.cells := by simp [zc, h0]
      simp [Instr.buildSlice, underlying, hT, run_sizeOf' hEw, run_zeroValue hEw, hn, h0]
      have g1' : Instr.fill (fun i => some (i * k, k)) (Array.map (fun x => z.cells[x % z.cells.size]!) (Array.range (len * k))) (List.map (fun x => (x.fst, a.eval x.snd)) parts) = some cells' := by
        rw [← hz0]; exact g1
      rw [g1']; simp [newRow]
  · refine ⟨_, cs, hy', ⟨by rw [g4, hlen, hll], .inr ⟨w.heap.size, len, cells', by rw [hll], Nat.zero_le _, heap_new _ _, by omega, ?_, ?_, ?_⟩⟩, Ly.holds_mono (Kp_alloc _ _ _) hS hg _ _ g3, ?_⟩
    · unfold maxLen
      have : len ≤ len * k := Nat.le_mul_of_pos_right _ hk0'
      omega
    · have := congrArg List.length hcs
      simp only [Array.length_toList] at this
      rw [this, g4, hlen]
    · rw [hcs, hll, List.take_of_length_le (by rw [g4, hlen]; exact Nat.le_refl _)]
    · clear g1 g2 g3 g4 g5 hcs hll hlen
      have : ∀ (ps : List (Nat × Operand)) (ls : List Ly) (j : Nat), Parts st k j ps ls → ∀ ly ∈ ls, ly.sz = k := by
        intro ps
        induction ps with
        | nil => intro ls j h ly hly; cases ls with | nil => cases hly | cons _ _ => exact h.elim
        | cons p ps ih =>
          intro ls j h ly hly
          obtain ⟨i, x⟩ := p
          cases ls with
          | nil => exact h.elim
          | cons l ls =>
            obtain ⟨_, _, h3, _, h5⟩ := h
            rcases List.mem_cons.1 hly with rfl | hly
            · exact h3
            · exact ih ls (j + 1) h5 ly hly
      exact this parts ls 0 hp

/-! ### Slicing -/
theorem sub_some {α : Type} {l r : List α} {lo hi : Int} (h : sub l lo hi = some r) : 0 ≤ lo ∧ lo ≤ hi ∧ hi ≤ l.length ∧ r = (l.take hi.toNat).drop lo.toNat := by
  unfold sub at h; split at h
  · rename_i hh; exact ⟨hh.1, hh.2.1, hh.2.2, by simpa using h.symm⟩
  · cases h

/-- What a bound of a slice expression is. -/
def BndF (st : Nat → Option Ly) (p : Int) : Option Operand → Int → Prop
  | none, q => q = p
  | some x, q => ∃ kk, OpdF st x (.cell (cpI kk q))

theorem bnd_val {a w γ p q o} (hI : Inv X st mm a w γ) (h : BndF st p o q) : (o = none ∧ q = p) ∨ ∃ x kk, o = some x ∧ a.eval x = .int kk q := by
  cases o with
  | none => exact .inl ⟨rfl, h⟩
  | some x => obtain ⟨kk, h⟩ := h; exact .inr ⟨x, kk, rfl, ((OpdF.val hI h : Ly.val _ _ _ _ _)).1⟩

theorem run_sliceBounds {P : Program} {w : World} {isS : Bool} {len cap : Nat} {lo hi : Option Value} {p q : Int} (hl : (lo = none ∧ p = 0) ∨ ∃ kk, lo = some (.int kk p)) (hh : (hi = none ∧ q = len) ∨ ∃ kk, hi = some (.int kk q))
    (h0 : 0 ≤ p) (h1 : p ≤ q) (h2 : q ≤ cap) : (Instr.sliceBounds isS len cap lo hi none).run P w = .ok (p.toNat, q.toNat, cap) w := by
  have e1 : (0 ≤ q ∧ q ≤ (cap : Int)) := ⟨by omega, h2⟩
  have e2 : (0 ≤ p ∧ p ≤ ((q.toNat : Nat) : Int)) := ⟨h0, by omega⟩
  rcases hl with ⟨rfl, rfl⟩ | ⟨kl, rfl⟩ <;> rcases hh with ⟨rfl, rfl⟩ | ⟨kh, rfl⟩ <;>
    simp_all [Instr.sliceBounds, Instr.sliceBound, asIntOf]

theorem holds_sub {w S γ k} : ∀ {l : List Ly} {cs : List Value} (i : Nat), Ly.holds w S γ l cs → (∀ ly ∈ l, ly.sz = k) → Ly.holds w S γ (l.take i) (cs.take (i * k)) ∧ Ly.holds w S γ (l.drop i) (cs.drop (i * k))
  | l, cs, 0, h, _ => by simpa [Ly.holds] using h
  | [], cs, i + 1, h, _ => by simp only [Ly.holds] at h; subst h; simp [Ly.holds]
  | ly :: l, cs, i + 1, h, hz => by
    obtain ⟨c1, c2, rfl, h1, h2⟩ := h
    obtain ⟨g1, g2⟩ := holds_sub i h2 (fun x hx => hz x (List.mem_cons_of_mem _ hx))
    have hc1 : c1.length = k := by rw [Ly.hold_sz _ _ h1, hz ly List.mem_cons_self]
    have e : (i + 1) * k = c1.length + i * k := by rw [hc1, Nat.succ_mul]; omega
    rw [e]
    simp only [List.take_succ_cons, List.drop_succ_cons, List.take_length_add_append, List.drop_length_add_append]
    exact ⟨⟨c1, _, rfl, h1, g1⟩, g2⟩

/-- A part of a slice that is read. -/
theorem slR {d x lo hi T ty pos af E k b z p q} {α : Type} {f : α → Ly} {xs ys : List α} (hs : sub xs p q = some ys) (hT : X.P.underlying T = some (.slice E)) (hE : TyI X.P E k b z)
    (hd : Nat.blt d X.N = true) (hx : OpdF st x (sli k (xs.map f))) (hlo : BndF st 0 lo p) (hhi : BndF st xs.length hi q) :
    OpOk X st mm ⟨some d, .slice T x lo hi none, ty, pos, af, none⟩ [(d, sli k (ys.map f))] [] :=
  ok_val hd fun a w γ hI => by
    obtain ⟨h0, h1, h2, rfl⟩ := sub_some hs
    have hlo' : (lo.map a.eval = none ∧ p = 0) ∨ ∃ kk, lo.map a.eval = some (.int kk p) := by
      rcases bnd_val hI hlo with ⟨rfl, h⟩ | ⟨x, kk, rfl, h⟩
      · exact .inl ⟨rfl, h⟩
      · exact .inr ⟨kk, by simp [h]⟩
    have hhi' : (hi.map a.eval = none ∧ q = (xs.length : Nat)) ∨ ∃ kk, hi.map a.eval = some (.int kk q) := by
      rcases bnd_val hI hhi with ⟨rfl, h⟩ | ⟨x, kk, rfl, h⟩
      · exact .inl ⟨rfl, h⟩
      · exact .inr ⟨kk, by simp [h]⟩
    rcases hx.val hI with ⟨hv, hn⟩ | ⟨bb, o, cap, cs, hv, k1, k2, k3, k4, k5, k6, k7⟩ | ⟨hn, ad, hv⟩
    rotate_left 2
    · have : xs = [] := by simpa using hn
      subst this
      simp only [List.length_nil] at h2
      obtain rfl : q = 0 := by simp at h2; omega
      obtain rfl : p = 0 := by omega
      refine ⟨.slice (some ad) 0 0, ?_, .inr (.inr ⟨by simp, ad, rfl⟩)⟩
      have := run_sliceBounds (P := X.P) (w := w) (isS := true) (len := 0) (cap := 0) hlo' hhi' (by omega) (by omega) (by omega)
      simp only [execOp, hv]
      simp [Instr.sliceAt, Instr.slice, underlying, hT, this, run_sizeOf' hE]
    · have : xs = [] := by simpa using hn
      subst this
      simp only [List.length_nil] at h2
      obtain rfl : q = 0 := by simp at h2; omega
      obtain rfl : p = 0 := by omega
      refine ⟨.slice none 0 0, ?_, .inl ⟨rfl, by simp⟩⟩
      have := run_sliceBounds (P := X.P) (w := w) (isS := true) (len := 0) (cap := 0) hlo' hhi' (by omega) (by omega) (by omega)
      simp only [execOp, hv]
      simp [Instr.sliceAt, Instr.slice, underlying, hT, this, run_sizeOf' hE]
    · rw [List.length_map] at hv k1
      have hb := run_sliceBounds (P := X.P) (w := w) (isS := true) (len := xs.length) (cap := cap) hlo' hhi' h0 h1 (by omega)
      have hlen : (((xs.take q.toNat).drop p.toNat).map f).length = q.toNat - p.toNat := by simp; omega
      by_cases hc : cap = p.toNat
      · subst hc
        refine ⟨.slice (some ⟨bb, o, none⟩) (q.toNat - p.toNat) (p.toNat - p.toNat), ?_, .inr (.inl ⟨bb, o, p.toNat - p.toNat, [], by rw [hlen], by rw [hlen]; omega, by omega, k3, k4, fun j u hj => by simp at hj, ?_, ?_⟩)⟩
        · simp only [execOp, hv]
          simp [Instr.sliceAt, Instr.slice, underlying, hT, hb, run_sizeOf' hE]
        · have : ((xs.take q.toNat).drop p.toNat).map f = [] := List.eq_nil_of_length_eq_zero (by rw [hlen]; omega)
          rw [this]; rfl
        · intro ly hly
          have : ((xs.take q.toNat).drop p.toNat).map f = [] := List.eq_nil_of_length_eq_zero (by rw [hlen]; omega)
          rw [this] at hly; cases hly
      · obtain ⟨g1, _⟩ := holds_sub q.toNat k6 k7
        obtain ⟨_, g2⟩ := holds_sub p.toNat g1 (fun ly h => k7 ly (List.mem_of_mem_take h))
        refine ⟨.slice (some ⟨bb, o + p.toNat * k, none⟩) (q.toNat - p.toNat) (cap - p.toNat), ?_, .inr (.inl ⟨bb, o + p.toNat * k, cap - p.toNat, _, by rw [hlen], by rw [hlen]; omega, by omega, k3, k4, fun j u hj => ?_, by rw [List.map_drop, List.map_take]; exact g2, ?_⟩)⟩
        · simp only [execOp, hv]
          simp [Instr.sliceAt, Instr.slice, underlying, hT, hb, run_sizeOf' hE, hc, add0]
        · rw [List.getElem?_drop, List.getElem?_take] at hj
          split at hj
          · rw [Nat.add_assoc]; exact k5 _ u hj
          · cases hj
        · intro ly hly
          rw [List.map_drop, List.map_take] at hly
          exact k7 ly (List.mem_of_mem_take (List.mem_of_mem_drop hly))

/-- A part of a string. -/
theorem slS {d x lo hi T ty pos af p q s t} (hs : sub s p q = some t) (hT : X.P.underlying T = some .string)
    (hd : Nat.blt d X.N = true) (hx : OpdF st x (str s)) (hlo : BndF st 0 lo p) (hhi : BndF st s.length hi q) :
    OpOk X st mm ⟨some d, .slice T x lo hi none, ty, pos, af, none⟩ [(d, str t)] [] :=
  ok_val hd fun a w γ hI => by
    obtain ⟨h0, h1, h2, rfl⟩ := sub_some hs
    have hlo' : (lo.map a.eval = none ∧ p = 0) ∨ ∃ kk, lo.map a.eval = some (.int kk p) := by
      rcases bnd_val hI hlo with ⟨rfl, h⟩ | ⟨x, kk, rfl, h⟩
      · exact .inl ⟨rfl, h⟩
      · exact .inr ⟨kk, by simp [h]⟩
    have hhi' : (hi.map a.eval = none ∧ q = (s.length : Nat)) ∨ ∃ kk, hi.map a.eval = some (.int kk q) := by
      rcases bnd_val hI hhi with ⟨rfl, h⟩ | ⟨x, kk, rfl, h⟩
      · exact .inl ⟨rfl, h⟩
      · exact .inr ⟨kk, by simp [h]⟩
    obtain ⟨hv, hl⟩ := hx.val hI
    have hb := run_sliceBounds (P := X.P) (w := w) (isS := false) (len := s.length) (cap := s.length) hlo' hhi' h0 h1 h2
    have e : (ByteArray.mk s.toArray).size = s.length := rfl
    refine ⟨.string ⟨((s.take q.toNat).drop p.toNat).toArray⟩, ?_, rfl, by simp; omega⟩
    have e2 : (ByteArray.mk s.toArray).extract p.toNat q.toNat = ⟨((s.take q.toNat).drop p.toNat).toArray⟩ := by
      apply ByteArray.ext
      rw [ByteArray.data_extract]
      apply Array.ext'
      simp [List.extract_eq_take_drop, List.drop_take]
    simp only [execOp, hv]
    simp [Instr.sliceAt, Instr.slice, underlying, hT, e, hb, e2]

end ops

/-! ### An owned slice that is written no more -/
def FzR (id k : Nat) (ls : List Ly) (ly ly' : Ly) : Prop := ∀ w S (γ : Nm) v, γ id = some v → (cpL k ls).p w S v → (∀ cs, ly.hold w S γ cs → ly'.hold w S γ cs) ∧ (∀ v, ly.val w S γ v → ly'.val w S γ v)
def FzRs (id k : Nat) (ls : List Ly) (l l' : List Ly) : Prop := ∀ w S (γ : Nm) v, γ id = some v → (cpL k ls).p w S v → (∀ cs, Ly.holds w S γ l cs → Ly.holds w S γ l' cs)
theorem fz_id {id k ls ly} : FzR id k ls ly ly := fun _ _ _ _ _ _ => ⟨fun _ h => h, fun _ h => h⟩
theorem fz_own {id k ls} : FzR id k ls (.own id) (sli k ls) := fun w S γ v hv hp =>
  ⟨fun cs h => by obtain ⟨u, rfl, h1, h2⟩ := h; rw [hv] at h1; simp at h1; subst h1; exact ⟨v, rfl, hp⟩,
   fun u h => by obtain ⟨h1, h2⟩ := h; rw [hv] at h1; simp at h1; subst h1; exact hp⟩
theorem fzs_nil {id k ls} : FzRs id k ls [] [] := fun _ _ _ _ _ _ _ h => h
theorem fzs_cons {id k ls ly ly' l l'} (h1 : FzR id k ls ly ly') (h2 : FzRs id k ls l l') : FzRs id k ls (ly :: l) (ly' :: l') := fun w S γ v hv hp cs h => by
  obtain ⟨c1, c2, rfl, g1, g2⟩ := h; exact ⟨c1, c2, rfl, (h1 w S γ v hv hp).1 _ g1, h2 w S γ v hv hp _ g2⟩
theorem fz_agg {id k ls l l'} (h : FzRs id k ls l l') : FzR id k ls (.agg l) (.agg l') := fun w S γ v hv hp =>
  ⟨fun cs g => by simp only [Ly.hold] at g ⊢; exact h w S γ v hv hp _ g, fun u g => by simp only [Ly.val] at g ⊢; obtain ⟨cs, rfl, g⟩ := g; exact ⟨cs, rfl, h w S γ v hv hp _ g⟩⟩

def FzL (id k : Nat) (ls : List Ly) (l : List (Nat × Ly)) : List (Nat × Ly) → Prop
  | [] => True
  | (d, ly') :: r => (∃ ly, lk l d = some ly ∧ FzR id k ls ly ly') ∧ FzL id k ls l r
def FzM (id k : Nat) (ls : List Ly) (m : List (Nat × Ct)) : List (Nat × Ct) → Prop
  | [] => True
  | (i, .bx E ly') :: r => (Nat.beq id i = false ∧ ∃ ly, lk m i = some (.bx E ly) ∧ FzR id k ls ly ly') ∧ FzM id k ls m r
  | _ :: _ => False
theorem FzL.get {id k ls l} : ∀ {r : List (Nat × Ly)}, FzL id k ls l r → ∀ d ly', lk r d = some ly' → ∃ ly, lk l d = some ly ∧ FzR id k ls ly ly'
  | [], _, d, ly', h => by cases h
  | (i, x) :: r, hh, d, ly', h => by
    simp only [lk] at h
    cases hb : Nat.beq i d
    · rw [hb] at h; exact FzL.get hh.2 d ly' h
    · rw [hb] at h
      have : i = d := Nat.eq_of_beq_eq_true hb
      subst this; simp at h; subst h; exact hh.1
theorem FzM.get {id k ls m} : ∀ {r : List (Nat × Ct)}, FzM id k ls m r → ∀ i c, lk r i = some c → ∃ E ly ly', id ≠ i ∧ c = .bx E ly' ∧ lk m i = some (.bx E ly) ∧ FzR id k ls ly ly'
  | [], _, d, ly', h => by cases h
  | (i, x) :: r, hh, d, c, h => by
    cases x with
    | bx E ly' =>
      simp only [lk] at h
      cases hb : Nat.beq i d
      · rw [hb] at h; exact FzM.get hh.2 d c h
      · rw [hb] at h
        have : i = d := Nat.eq_of_beq_eq_true hb
        subst this; simp at h; subst h
        obtain ⟨⟨h1, ly, h2, h3⟩, _⟩ := hh
        exact ⟨E, ly, ly', fun e => by subst e; simp at h1, rfl, h2, h3⟩
    | _ => exact hh.elim

theorem up_none' {α : Type} {st : Nat → Option α} {el i} (h : lk el i = none) : up st el i = st i := by simp [up, h]
theorem up_some' {α : Type} {st : Nat → Option α} {el i x} (h : lk el i = some x) : up st el i = some x := by simp [up, h]

theorem frz {R : Type} {X : Cx} {l : List (Nat × Ly)} {m : List (Nat × Ct)} {md : Option R} {G : R → Act → World → Prop} {id E k ls} (l1 : List (Nat × Ly)) (m1 : List (Nat × Ct)) (hm : lk m id = some (.sl E k ls)) (hif : IFs ls)
    (hl1 : FzL id k ls l l1) (hm1 : FzM id k ls m m1) (K : Sq X (l1 ++ l) (m1 ++ (id, .gone) :: m) md G) : Sq X l m md G := by
  intro r a w γ hr hi
  refine K r a w γ hr ?_
  obtain ⟨v, cs, e1, ⟨e2, e3⟩, e4, e5⟩ := slI hi hm
  have hd := hi.drop id
  have hS : ∀ b, X.S γ (up (lk m) [(id, .gone)]) b → X.S γ (lk m) b := by
    rintro b (h | ⟨i, c', u, h1, h2, h3, h4⟩)
    · exact .inl h
    · rw [up_one] at h1
      by_cases e : id = i
      · simp [e] at h1; subst h1; simp [Ct.alive] at h2
      · simp [e] at h1; exact .inr ⟨i, c', u, h1, h2, h3, h4⟩
  have hp : (cpL k ls).p w (X.S γ (up (lk m) [(id, .gone)])) v := by
    rcases e3 with ⟨rfl, hn⟩ | ⟨g, cap, cur, rfl, _, h2, h3, h4, h5, h6⟩
    · exact .inl ⟨rfl, List.eq_nil_of_length_eq_zero hn⟩
    · have hmine := hi.mine g ⟨id, _, _, hm, rfl, e1, rfl⟩
      refine .inr (.inl ⟨g, 0, cap, cs, rfl, h3, h4, hmine.2.1, ?_, fun j u hj => ?_, Ly.holds_mono (Kp.refl _ _) (fun b hb => .inl (hS b hb)) (Ng.refl _) _ _ ((hif w _ γ (fun _ => none)).1 _ e4), e5⟩)
      · rintro (h | ⟨i, c', u, k1, k2, k3, k4⟩)
        · exact hmine.2.2 h
        · rw [up_one] at k1
          by_cases e : id = i
          · simp [e] at k1; subst k1; simp [Ct.alive] at k2
          · simp [e] at k1
            exact e (hi.apart id i _ c' _ u g hm rfl k1 k2 e1 k3 rfl k4)
      · rw [cell_of_heap h2, ← Array.getElem?_toList, Nat.zero_add]
        rw [← h6, List.getElem?_take] at hj
        split at hj
        · exact hj
        · cases hj
  have hmm : lk (m1 ++ (id, .gone) :: m) = up (up (lk m) [(id, .gone)]) m1 := by rw [up_lk, up_lk]; rfl
  have hOw : ∀ b, Ow γ (lk (m1 ++ (id, .gone) :: m)) b ↔ Ow γ (up (lk m) [(id, .gone)]) b := by
    intro b
    rw [hmm]
    constructor
    · rintro ⟨i, c, u, h1, h2, h3, h4⟩
      simp only [up] at h1
      cases hq : lk m1 i with
      | none => rw [hq] at h1; exact ⟨i, c, u, h1, h2, h3, h4⟩
      | some c' =>
        rw [hq] at h1; simp at h1; subst h1
        obtain ⟨E', ly, ly', g0, g1, g2, g3⟩ := hm1.get i c' hq
        exact ⟨i, _, u, by rw [up_one, if_neg g0]; exact g2, rfl, h3, h4⟩
    · rintro ⟨i, c, u, h1, h2, h3, h4⟩
      cases hq : lk m1 i with
      | none => exact ⟨i, c, u, by simp only [up]; rw [hq]; exact h1, h2, h3, h4⟩
      | some c' =>
        obtain ⟨E', ly, ly', g0, g1, g2, g3⟩ := hm1.get i c' hq
        exact ⟨i, c', u, by simp only [up]; rw [hq], by rw [g1]; rfl, h3, h4⟩
  have hSS : X.S γ (lk (m1 ++ (id, .gone) :: m)) = X.S γ (up (lk m) [(id, .gone)]) := by
    funext b; exact propext ⟨fun h => orM h (fun x => x) (hOw b).1, fun h => orM h (fun x => x) (hOw b).2⟩
  refine { hd with fresh := ?_, cts := ?_, apart := ?_, mine := fun b hb => hd.mine b ((hOw b).1 hb), sts := ?_ }
  · intro i h
    rw [hmm] at h
    simp only [up] at h
    cases hq : lk m1 i with
    | none => rw [hq] at h; exact hd.fresh i h
    | some c' => rw [hq] at h; cases h
  · intro i c h
    rw [hSS]
    rw [hmm] at h
    cases hq : lk m1 i with
    | none => rw [up_none' hq] at h; exact hd.cts i c h
    | some c' =>
      rw [up_some' hq] at h; simp at h; subst h
      obtain ⟨E', ly, ly', g0, rfl, g2, g3⟩ := hm1.get i c' hq
      obtain ⟨g, cur, k1, k2, k3⟩ := hd.cts i (.bx E' ly) (by rw [up_one, if_neg g0]; exact g2)
      exact ⟨g, cur, k1, k2, (g3 w _ γ v e1 hp).1 _ k3⟩
  · intro i i' c1 c2 u u' b h1 h2 h3 h4 h5 h6 h7 h8
    have tr : ∀ i c, lk (m1 ++ (id, .gone) :: m) i = some c → c.alive = true → ∃ c', up (lk m) [(id, .gone)] i = some c' ∧ c'.alive = true := by
      intro i c h hal
      rw [hmm] at h
      cases hq : lk m1 i with
      | none => rw [up_none' hq] at h; exact ⟨c, h, hal⟩
      | some c' =>
        obtain ⟨E', ly, ly', g0, g1, g2, g3⟩ := hm1.get i c' hq
        exact ⟨_, by rw [up_one, if_neg g0]; exact g2, rfl⟩
    obtain ⟨d1, q1, q2⟩ := tr i c1 h1 h2
    obtain ⟨d2, q3, q4⟩ := tr i' c2 h3 h4
    exact hd.apart i i' d1 d2 u u' b q1 q2 q3 q4 h5 h6 h7 h8
  · intro d ly hd'
    rw [hSS]
    rw [← up_lk] at hd'
    cases hq : lk l1 d with
    | none => rw [up_none' hq] at hd'; exact hd.sts d ly hd'
    | some ly' =>
      rw [up_some' hq] at hd'; simp at hd'; subst hd'
      obtain ⟨ly0, g1, g2⟩ := hl1.get d ly' hq
      obtain ⟨u, k1, k2⟩ := hd.sts d ly0 g1
      exact ⟨u, k1, (g2 w _ γ v e1 hp).2 _ k2⟩
end Go.Proofs.YtiobbiamnjapgaaDoor
