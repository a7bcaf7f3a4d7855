import Derived.Test.YtiobbiamnjapgaaDoorSim18
namespace Go.Proofs.YtiobbiamnjapgaaDoor
open Go Go.RowKit

section
variable {R : Type} {X : Cx} {l : List (Nat × Ly)} {m : List (Nat × Ct)} {md : Option R} {Q : R → Exit → Act → World → Prop}
theorem yielded_un {ops : Array Oper} {j dj : Nat} {st mm a w γ} (hi : Inv X st mm a w γ) (hj : ((ops[j]?).bind (·.dst)) = some dj) (hv : st dj = some (.tup [])) : yielded ops a.tmps j = none := by
  obtain ⟨v, hv', hl⟩ := hi.sts dj _ hv
  simp only [Ly.val, Ly.vals] at hl
  obtain ⟨cs, rfl, _⟩ := hl
  unfold yielded
  simp [hj, hv']
theorem und_val {w S γ} : Ly.val w S γ (.tup []) undef := by
  simp only [Ly.val, Ly.vals]; exact ⟨#[], rfl, rfl⟩
/-- Passed by; what it would have yielded is no value. -/
theorem spB {d op ty pos after j b} {ops : Array Oper} {rest : List Oper} (dj : Nat) (hj : ((ops[j]?).bind (·.dst)) = some dj) (hv : lk l dj = some (bl (!b))) (hd : Nat.blt d X.N = true)
    (k : Sq X ((d, .tup []) :: l) m md (fun r => wpList X.P ops (Q r) rest)) : Sq X l m md (fun r => wpList X.P ops (Q r) (⟨some d, op, ty, pos, after, some (j, b)⟩ :: rest)) := by
  intro r a w γ hr hi
  refine wpList_step fun K hK => ?_
  rw [if_neg (by cases b <;> simp [Region.wanted, yielded_of hi hj hv])]
  refine hK _ w (k r _ w γ hr ?_)
  have := hi.put (d := d) (v := undef) (ly := .tup []) (by simpa using hd) und_val
  rw [up_lk] at this; exact this
theorem spU {d op ty pos after j b} {ops : Array Oper} {rest : List Oper} (dj : Nat) (hj : ((ops[j]?).bind (·.dst)) = some dj) (hv : lk l dj = some (.tup [])) (hd : Nat.blt d X.N = true)
    (k : Sq X ((d, .tup []) :: l) m md (fun r => wpList X.P ops (Q r) rest)) : Sq X l m md (fun r => wpList X.P ops (Q r) (⟨some d, op, ty, pos, after, some (j, b)⟩ :: rest)) := by
  intro r a w γ hr hi
  refine wpList_step fun K hK => ?_
  rw [if_neg (by simp [Region.wanted, yielded_un hi hj hv])]
  refine hK _ w (k r _ w γ hr ?_)
  have := hi.put (d := d) (v := undef) (ly := .tup []) (by simpa using hd) und_val
  rw [up_lk] at this; exact this
end
section
variable {X : Cx} {st : Nat → Option Ly} {mm : Nat → Option Ct} {ops : Array Oper}
theorem ogB {d op ty pos after j b} (dj : Nat) (hj : ((ops[j]?).bind (·.dst)) = some dj) (hv : st dj = some (bl (!b))) (hd : Nat.blt d X.N = true) : OpG X ops st mm ⟨some d, op, ty, pos, after, some (j, b)⟩ [(d, .tup [])] [] := by
  intro a w γ K Q hi hK
  rw [if_neg (by cases b <;> simp [Region.wanted, yielded_of hi hj hv])]
  exact hK _ _ _ (hi.put (d := d) (v := undef) (ly := .tup []) (by simpa using hd) und_val)
theorem ogU {d op ty pos after j b} (dj : Nat) (hj : ((ops[j]?).bind (·.dst)) = some dj) (hv : st dj = some (.tup [])) (hd : Nat.blt d X.N = true) : OpG X ops st mm ⟨some d, op, ty, pos, after, some (j, b)⟩ [(d, .tup [])] [] := by
  intro a w γ K Q hi hK
  rw [if_neg (by simp [Region.wanted, yielded_un hi hj hv])]
  exact hK _ _ _ (hi.put (d := d) (v := undef) (ly := .tup []) (by simpa using hd) und_val)

theorem frzI {a w γ d id E k ls} (hi : Inv X st mm a w γ) (hm : mm id = some (.sl E k ls)) (hif : IFs ls) (hd : st d = some (.own id)) : Inv X (up st [(d, sli k ls)]) (up mm [(id, .gone)]) a w γ := by
  obtain ⟨v, cs, e1, ⟨e2, e3⟩, e4, e5⟩ := slI hi hm
  have hdr := hi.drop id
  have hS : ∀ b, X.S γ (up mm [(id, .gone)]) b → X.S γ mm b := by
    rintro b (h | ⟨i, c', u, h1, h2, h3, h4⟩)
    · exact .inl h
    · rw [up_one] at h1
      by_cases e : id = i
      · simp [e] at h1; subst h1; simp [Ct.alive] at h2
      · simp [e] at h1; exact .inr ⟨i, c', u, h1, h2, h3, h4⟩
  have hp : (cpL k ls).p w (X.S γ (up mm [(id, .gone)])) v := by
    rcases e3 with ⟨rfl, hn⟩ | ⟨g, cap, cur, rfl, _, h2, h3, h4, h5, h6⟩
    · exact .inl ⟨rfl, List.eq_nil_of_length_eq_zero hn⟩
    · have hmine := hi.mine g ⟨id, _, _, hm, rfl, e1, rfl⟩
      refine .inr (.inl ⟨g, 0, cap, cs, rfl, h3, h4, hmine.2.1, ?_, fun j u hj => ?_, Ly.holds_mono (Kp.refl _ _) (fun b hb => .inl (hS b hb)) (Ng.refl _) _ _ ((hif w _ γ (fun _ => none)).1 _ e4), e5⟩)
      · rintro (h | ⟨i, c', u, k1, k2, k3, k4⟩)
        · exact hmine.2.2 h
        · rw [up_one] at k1
          by_cases e : id = i
          · simp [e] at k1; subst k1; simp [Ct.alive] at k2
          · simp [e] at k1
            exact e (hi.apart id i _ c' _ u g hm rfl k1 k2 e1 k3 rfl k4)
      · rw [cell_of_heap h2, ← Array.getElem?_toList, Nat.zero_add]
        rw [← h6, List.getElem?_take] at hj
        split at hj
        · exact hj
        · cases hj
  refine { hdr with sts := ?_ }
  intro i ly h
  rw [up_one] at h
  by_cases e : d = i
  · subst e
    simp at h; subst h
    obtain ⟨u, g1, g2, _⟩ := hi.sts d _ hd
    rw [e1] at g2; simp at g2; subst g2
    exact ⟨v, g1, hp⟩
  · simp [e] at h; exact hdr.sts i ly h

/-- What is made is read alone from then on. -/
theorem toV {o d y E k ls em} (h : OpOk X st mm o [(d, .own y)] ((y, .sl E k ls) :: em)) (hif : IFs ls) : OpOk X st mm o [(d, sli k ls)] ((y, .gone) :: em) := by
  intro a w γ K Q hi hK
  refine h a w γ K Q hi fun a' w' γ' hi' => hK a' w' γ' ?_
  have := frzI (d := d) (id := y) (E := E) (k := k) (ls := ls) hi' (by simp [up, lk]) hif (by simp [up, lk])
  have e1 : up (up st [(d, .own y)]) [(d, sli k ls)] = up st [(d, sli k ls)] := by
    funext i; simp only [up_one]; by_cases e : d = i <;> simp [e]
  have e2 : up (up mm ((y, .sl E k ls) :: em)) [(y, .gone)] = up mm ((y, .gone) :: em) := by
    funext i
    rw [up_one]
    by_cases e : y = i
    · subst e; simp [up, lk]
    · have hb : Nat.beq y i = false := by
        cases hb : Nat.beq y i
        · rfl
        · exact absurd (Nat.eq_of_beq_eq_true hb) e
      simp [e, up, lk, hb]
  rw [e1, e2] at this; exact this

/-- The first ones of an owned slice. -/
theorem slO {d x hi T ty pos af id y E E' k b z q} {α : Type} {f : α → Ly} {xs ys : List α} (hs : sub xs 0 q = some ys) (hm : mm id = some (.sl E' k (xs.map f))) (hT : X.P.underlying T = some (.slice E)) (hE : TyI X.P E k b z)
    (hd : Nat.blt d X.N = true) (hx : OpdF st x (.own id)) (hhi : BndF st xs.length hi q) (hy : mm y = none) :
    OpOk X st mm ⟨some d, .slice T x none hi none, ty, pos, af, none⟩ [(d, .own y)] [(y, .sl E' k (ys.map f)), (id, .gone)] := by
  intro a w γ K Q hI hK
  obtain ⟨h0, h1, h2, rfl⟩ := sub_some hs
  obtain ⟨v, cs, e1, ⟨hcl, e2⟩, e3, e4⟩ := slI hI hm
  obtain ⟨hv, _⟩ := hx.val hI
  have hvs : a.eval x = v := by rw [hv] at e1; simpa using e1
  have hhi' : (hi.map a.eval = none ∧ q = (xs.length : Nat)) ∨ ∃ kk, hi.map a.eval = some (.int kk q) := by
    rcases bnd_val hI hhi with ⟨rfl, h⟩ | ⟨x, kk, rfl, h⟩
    · exact .inl ⟨rfl, h⟩
    · exact .inr ⟨kk, by simp [h]⟩
  rw [List.length_map] at hcl e2
  have hcl2 : (cs.take (q.toNat * k)).length = q.toNat * k := by
    rw [List.length_take, hcl]
    exact Nat.min_eq_left (Nat.mul_le_mul_right k (by omega))
  have hylen : ((xs.take q.toNat).drop (0 : Int).toNat).length = q.toNat := by simp; omega
  have hold : Ly.holds w (X.S γ mm) γ (((xs.take q.toNat).drop (0 : Int).toNat).map f) (cs.take (q.toNat * k)) := by
    have := (holds_sub q.toNat e3 e4).1
    simpa [List.map_take] using this
  have hsz : ∀ ly ∈ ((xs.take q.toNat).drop (0 : Int).toNat).map f, ly.sz = k := fun ly h => e4 ly (by
    obtain ⟨u, hu, rfl⟩ := List.mem_map.1 h
    exact List.mem_map.2 ⟨u, List.mem_of_mem_take (by simpa using hu), rfl⟩)
  have fin : ∀ v', (execOp a.eval ⟨some d, .slice T x none hi none, ty, pos, af, none⟩).run X.P w = .ok (.value v') w → w.ownsRow 0 E' k v' q.toNat (cs.take (q.toNat * k)) → (∀ b, blkOf v' = some b → blkOf v = some b) →
      Oper.wp X.P ⟨some d, .slice T x none hi none, ty, pos, af, none⟩ a w K Q := by
    intro v' hr hown hb
    unfold Oper.wp
    rw [hr]
    have hone : v'.oneCell' = true := by rcases hown.2 with ⟨rfl, _⟩ | ⟨g, cap, cur, rfl, _⟩ <;> rfl
    have hinv := hI.replace (w' := w) rfl rfl rfl hm rfl e1 (Kp.refl _ _) (y := y) (ct := .sl E' k (((xs.take q.toNat).drop (0 : Int).toNat).map f)) (v' := v') hy rfl
      (fun S γ' hS hng hy' => ⟨v', cs.take (q.toNat * k), hy', by rw [List.length_map, hylen]; exact hown, Ly.holds_mono (Kp.refl _ _) hS hng _ _ hold, hsz⟩)
      (fun b hb' => ⟨.inl (hb b hb'), by
        rcases hown.2 with ⟨rfl, _⟩ | ⟨g, cap, cur, rfl, _, h2, _⟩
        · simp [blkOf] at hb'
        · simp [blkOf] at hb'; subst hb'
          rcases Nat.lt_or_ge g w.heap.size with h | h
          · exact h
          · simp [Array.getElem?_eq_none h] at h2⟩)
    exact hK _ _ _ (hinv.put (d := d) (v := v') (ly := .own y) (by simpa using hd) ⟨by simp [Inv.gset], hone⟩)
  rcases e2 with ⟨rfl, hn⟩ | ⟨g, cap, cur, rfl, hg, g2, g3, g4, g5, g6⟩
  · have hq : q = 0 := by omega
    subst hq
    refine fin (.slice none 0 0) ?_ ⟨by simp, .inl ⟨rfl, rfl⟩⟩ (fun b hb => hb)
    have := run_sliceBounds (P := X.P) (w := w) (isS := true) (len := 0) (cap := 0) (lo := none) (hi := hi.map a.eval) (p := 0) (q := 0) (.inl ⟨rfl, rfl⟩) (by rw [hn] at hhi'; exact hhi') (by omega) (by omega) (by omega)
    simp only [execOp, hvs]
    simp [Instr.sliceAt, Instr.slice, underlying, hT, this, run_sizeOf' hE]
  · have hb := run_sliceBounds (P := X.P) (w := w) (isS := true) (len := xs.length) (cap := cap) (lo := none) (hi := hi.map a.eval) (p := 0) (q := q) (.inl ⟨rfl, rfl⟩) hhi' (by omega) h1 (by omega)
    refine fin (.slice (some ⟨g, 0, none⟩) q.toNat cap) ?_ ⟨hcl2, .inr ⟨g, cap, cur, rfl, hg, g2, by omega, g4, g5, ?_⟩⟩ (fun b hb => by simpa [blkOf] using hb)
    · simp only [execOp, hvs]
      by_cases hc : cap = 0
      · subst hc
        simp [Instr.sliceAt, Instr.slice, underlying, hT, hb, run_sizeOf' hE]
      · simp [Instr.sliceAt, Instr.slice, underlying, hT, hb, run_sizeOf' hE, hc, add0]
    · rw [← g6, List.take_take, Nat.min_eq_left (Nat.mul_le_mul_right k (by omega))]
end
end Go.Proofs.YtiobbiamnjapgaaDoor
