import Derived.Test.YtcmhibdigkdjiaaGreatDoorPlQ4
import Derived.Test.YtcmhibdigkdjiaaGreatDoorPlTl
namespace Go.Proofs.YtcmhibdigkdjiaaGreatDoor
open Go Go.RowKit
/-! ### Which tapes may be -/
theorem list_iff {α : Type} {l : List α} {P : α → Prop} : (∀ (i : Nat) x, l[i]? = some x → P x) ↔ ∀ a ∈ l, P a := by
  constructor
  · intro h a ha
    obtain ⟨j, hj⟩ := List.getElem?_of_mem ha
    exact h j a hj
  · intro h i x hx; exact h x (mem_of_get hx)
noncomputable def dP (p : Prop) : Bool := @decide p (Classical.propDecidable p)
theorem decP {p : Prop} [Decidable p] : decide p = dP p := by unfold dP; congr
theorem dP_t {p : Prop} (h : p) : dP p = true := by unfold dP; exact @decide_eq_true p (Classical.propDecidable p) h
theorem dP_f {p : Prop} (h : ¬ p) : dP p = false := by unfold dP; exact @decide_eq_false p (Classical.propDecidable p) h
theorem dP_c {p q : Prop} (h : p ↔ q) : dP p = dP q := by rw [show p = q from propext h]
theorem dP_iff {p : Prop} : dP p = true ↔ p := ⟨fun h => by by_cases hp : p; exact hp; rw [dP_f hp] at h; exact absurd h (by decide), dP_t⟩
theorem some_dec {p q : Prop} [Decidable p] (h : p ↔ q) : some (decide p) = some (dP q) := by rw [decP, dP_c h]
theorem some_dP {p q : Prop} (h : p ↔ q) : some (dP p) = some (dP q) := by rw [dP_c h]
theorem ite_dec {p q r : Prop} [Decidable p] [Decidable q] (h : p ∧ q ↔ r) : (if p then some (decide q) else some false) = some (dP r) := by
  by_cases hp : p
  · rw [if_pos hp]; exact some_dec ⟨fun hq => h.1 ⟨hp, hq⟩, fun hr => (h.2 hr).2⟩
  · rw [if_neg hp, dP_f fun hr => hp (h.2 hr).1]
theorem ite_dP {p q r : Prop} [Decidable p] (h : p ∧ q ↔ r) : (if p then some (dP q) else some false) = some (dP r) := by
  by_cases hp : p
  · rw [if_pos hp]; exact some_dP ⟨fun hq => h.1 ⟨hp, hq⟩, fun hr => (h.2 hr).2⟩
  · rw [if_neg hp, dP_f fun hr => hp (h.2 hr).1]
def blankF (f : M_frac_Frac) : Prop := f.Num.Neg = false ∧ f.Num.Abs = [] ∧ f.Den = []
theorem m_tape_blank_eq (f : M_frac_Frac) : m_tape_blank f = some (dP (blankF f)) := by
  unfold m_tape_blank blankF
  obtain ⟨⟨s, a⟩, d⟩ := f
  simp only [jn_eq]
  cases s
  · simp only [Bool.not_false, bifT, bifd]
    refine ite_dec ⟨fun h => ⟨trivial, List.eq_nil_of_length_eq_zero (by omega), List.eq_nil_of_length_eq_zero (by omega)⟩, fun h => ?_⟩
    obtain ⟨_, rfl, rfl⟩ := h
    exact ⟨rfl, rfl⟩
  · simp only [Bool.not_true, bifF]
    rw [dP_f fun h => by cases h.1]
theorem bifP {α : Type} (p : Prop) (a b : α) : (bif dP p then a else b) = @ite _ p (Classical.propDecidable p) a b := by
  by_cases h : p
  · rw [dP_t h, if_pos h]; rfl
  · rw [dP_f h, if_neg h]; rfl
theorem bifnP {α : Type} (p : Prop) (a b : α) : (bif !dP p then a else b) = @ite _ p (Classical.propDecidable p) b a := by
  by_cases h : p
  · rw [dP_t h, if_pos h]; rfl
  · rw [dP_f h, if_neg h]; rfl
def mayR (t : M_tape_Tape) (i : Nat) (x : M_tape_Inst) : Prop :=
  if x.Op = 1 then x.A = 0 ∧ x.B = 0 ∧ x.N = toF (fv x.N) else
  blankF x.N ∧ (∀ r ∈ rdT x, 0 ≤ r ∧ r < (i : Int)) ∧
  if x.Op = 2 then x.A = 0 ∧ x.B = 0 else if x.Op = 3 then (0 ≤ x.A ∧ x.A < t.Dim) ∧ x.B = 0 else if x.Op = 4 then (0 ≤ x.A ∧ x.A < t.Par) ∧ x.B = 0 else
  if x.Op = 6 then x.B = 0 else if x.Op = 11 then -8 ≤ x.B ∧ x.B ≤ 8 else (rdT x).length = 2
theorem m_tape_may_eq {n : Nat} {t : M_tape_Tape} {i : Nat} {x : M_tape_Inst} (hn : big ≤ n) (ht : Fw x.N) (hx : t.Code[i]? = some x) : m_tape_may n t (i : Int) = some (dP (mayR t i x)) := by
  unfold m_tape_may mayR
  rw [getI_of hx, sbind, bifd]
  by_cases h1 : x.Op = 1
  · have e1 : (if x.Op = 1 then x.A = 0 ∧ x.B = 0 ∧ x.N = toF (fv x.N) else blankF x.N ∧ (∀ r ∈ rdT x, 0 ≤ r ∧ r < (i : Int)) ∧
      if x.Op = 2 then x.A = 0 ∧ x.B = 0 else if x.Op = 3 then (0 ≤ x.A ∧ x.A < t.Dim) ∧ x.B = 0 else if x.Op = 4 then (0 ≤ x.A ∧ x.A < t.Par) ∧ x.B = 0 else
      if x.Op = 6 then x.B = 0 else if x.Op = 11 then -8 ≤ x.B ∧ x.B ≤ 8 else (rdT x).length = 2) = (x.A = 0 ∧ x.B = 0 ∧ x.N = toF (fv x.N)) := if_pos h1
    simp only [e1]
    rw [if_pos h1]
    have hR := m_frac_Right_eq hn ht
    simp only [jn_eq, m_tape_of, sbind]
    have e2 : eqb_tape_numbers (⟨x.Op, x.A, x.B⟩ : M_tape_numbers) ⟨1, 0, 0⟩ = decide (x.A = 0 ∧ x.B = 0) := by
      unfold eqb_tape_numbers
      simp only [h1]
      by_cases a : x.A = 0 <;> by_cases b : x.B = 0 <;> simp [a, b]
    rw [e2, hR, sbind, bifd]
    rw [@decP _ (Classical.propDecidable _)]
    refine ite_dP ⟨fun h => ⟨h.1.1, h.1.2, h.2⟩, fun h => ⟨⟨h.1, h.2.1⟩, h.2.2⟩⟩
  · have e1 : (if x.Op = 1 then x.A = 0 ∧ x.B = 0 ∧ x.N = toF (fv x.N) else blankF x.N ∧ (∀ r ∈ rdT x, 0 ≤ r ∧ r < (i : Int)) ∧
      if x.Op = 2 then x.A = 0 ∧ x.B = 0 else if x.Op = 3 then (0 ≤ x.A ∧ x.A < t.Dim) ∧ x.B = 0 else if x.Op = 4 then (0 ≤ x.A ∧ x.A < t.Par) ∧ x.B = 0 else
      if x.Op = 6 then x.B = 0 else if x.Op = 11 then -8 ≤ x.B ∧ x.B ≤ 8 else (rdT x).length = 2) = (blankF x.N ∧ (∀ r ∈ rdT x, 0 ≤ r ∧ r < (i : Int)) ∧
      if x.Op = 2 then x.A = 0 ∧ x.B = 0 else if x.Op = 3 then (0 ≤ x.A ∧ x.A < t.Dim) ∧ x.B = 0 else if x.Op = 4 then (0 ≤ x.A ∧ x.A < t.Par) ∧ x.B = 0 else
      if x.Op = 6 then x.B = 0 else if x.Op = 11 then -8 ≤ x.B ∧ x.B ≤ 8 else (rdT x).length = 2) := if_neg h1
    simp only [e1]
    rw [if_neg h1, m_tape_blank_eq, sbind, bifnP]
    by_cases hb : blankF x.N
    · rw [if_pos hb, m_tape_Reads_eq, sbind, range_chk (fun _ (r : Int) => 0 ≤ r ∧ r < (i : Int)) (r := false)]
      · rw [list_iff]
        by_cases hr : ∀ r ∈ rdT x, 0 ≤ r ∧ r < (i : Int)
        · rw [if_pos hr]
          have fin : ∀ {o : Option Bool} {p : Prop}, o = some (dP p) → o = some (dP (blankF x.N ∧ (∀ r ∈ rdT x, 0 ≤ r ∧ r < (i : Int)) ∧ p)) := fun h => h.trans (some_dP ⟨fun g => ⟨hb, hr, g⟩, fun g => g.2.2⟩)
          refine fin ?_
          simp only [jn_eq, m_tape_of, sbind, m_tape_below_eq, m_tape_Reads_eq, bifd]
          by_cases g2 : x.Op = 2
          · simp only [if_pos g2]
            refine congrArg some ?_
            unfold eqb_tape_numbers
            simp only [g2]
            rw [← decP]
            by_cases a : x.A = 0 <;> by_cases b : x.B = 0 <;> simp [a, b]
          simp only [if_neg g2]
          by_cases g3 : x.Op = 3
          · simp only [if_pos g3]; exact ite_dec Iff.rfl
          simp only [if_neg g3]
          by_cases g4 : x.Op = 4
          · simp only [if_pos g4]; exact ite_dec Iff.rfl
          simp only [if_neg g4]
          by_cases g6 : x.Op = 6
          · simp only [if_pos g6]; exact some_dec Iff.rfl
          simp only [if_neg g6]
          by_cases g11 : x.Op = 11
          · simp only [if_pos g11]; exact ite_dec Iff.rfl
          simp only [if_neg g11]
          exact some_dec (by omega)
        · rw [if_neg hr, dP_f fun h => hr h.2.1]
      · intro j r _
        simp only [m_tape_below_eq, sbind]
        constructor
        · intro h; rw [decide_eq_true h]; rfl
        · intro h; rw [decide_eq_false h]; rfl
    · rw [if_neg hb, dP_f fun h => hb h.1]
/-- Which tapes may be. -/
def wholeR (t : M_tape_Tape) : Prop := (1 ≤ t.Dim ∧ t.Dim ≤ 6) ∧ (0 ≤ t.Par ∧ t.Par ≤ 6) ∧ (t.Outs.length : Int) = t.Dim ∧ t.Code.length ≤ 300
def tapeR (t : M_tape_Tape) : Prop := wholeR t ∧ (∀ (i : Nat) x, t.Code[i]? = some x → mayR t i x) ∧ ∀ o ∈ t.Outs, 0 ≤ o ∧ o < (t.Code.length : Int)
theorem m_tape_whole_eq (t : M_tape_Tape) (h : -9223372036854775808 ≤ t.Dim ∧ t.Dim ≤ 9223372036854775807) : m_tape_whole t = some (dP (wholeR t)) := by
  unfold m_tape_whole wholeR
  simp only [jn_eq, m_tape_below_eq, sbind, bifd]
  have hw : (0 ≤ wrap64 (t.Dim - 1) ∧ wrap64 (t.Dim - 1) < 6) ↔ (0 ≤ t.Dim - 1 ∧ t.Dim - 1 < 6) := by unfold wrap64; omega
  by_cases g1 : 0 ≤ t.Dim - 1 ∧ t.Dim - 1 < 6
  · rw [if_pos (hw.2 g1)]
    by_cases g2 : 0 ≤ t.Par ∧ t.Par < 7
    · rw [if_pos g2]
      by_cases g3 : (t.Outs.length : Int) = t.Dim
      · rw [if_pos g3]; exact some_dec (by omega)
      · rw [if_neg g3, dP_f (by omega)]
    · rw [if_neg g2, dP_f (by omega)]
  · rw [if_neg (fun h => g1 (hw.1 h)), dP_f (by omega)]
theorem range_fstI {R : Type} {f : Nat → M_tape_Inst → Unit → Option (Lp Unit R)} {K : Unit → Option R} {xs : List M_tape_Inst} (P : Nat → M_tape_Inst → Prop) (r : Nat → R)
    (hb : ∀ i x, xs[i]? = some x → (P i x → f i x () = some (.go ())) ∧ (¬ P i x → f i x () = some (.out (r i)))) :
    ((∀ (i : Nat) x, xs[i]? = some x → P i x) ∧ (rangeL f xs 0 ()).bind (lpK K) = K ()) ∨ (¬ (∀ (i : Nat) x, xs[i]? = some x → P i x) ∧ ∃ j, (rangeL f xs 0 ()).bind (lpK K) = some (r j)) := by
  have key : ∀ (xs : List M_tape_Inst) (k : Nat), (∀ i x, xs[i]? = some x → (P (k + i) x → f (k + i) x () = some (.go ())) ∧ (¬ P (k + i) x → f (k + i) x () = some (.out (r (k + i))))) →
      ((∀ (i : Nat) x, xs[i]? = some x → P (k + i) x) ∧ (rangeL f xs k ()).bind (lpK K) = K ()) ∨ (¬ (∀ (i : Nat) x, xs[i]? = some x → P (k + i) x) ∧ ∃ j, (rangeL f xs k ()).bind (lpK K) = some (r j)) := by
    intro xs
    induction xs with
    | nil => intro k _; exact .inl ⟨fun i x h => by simp at h, rfl⟩
    | cons x xs ih =>
      intro k hb
      have h0 := hb 0 x rfl
      simp only [Nat.add_zero] at h0
      by_cases hp : P k x
      · have := ih (k + 1) (fun i y hy => by have := hb (i + 1) y (by simpa using hy); rw [show k + (i + 1) = k + 1 + i by omega] at this; exact this)
        simp only [rangeL, h0.1 hp, sbind]
        rcases this with ⟨h3, h4⟩ | ⟨h3, h4⟩
        · refine .inl ⟨fun i y hy => ?_, h4⟩
          cases i with
          | zero => simp at hy; subst hy; exact hp
          | succ i => rw [show k + (i + 1) = k + 1 + i by omega]; exact h3 i y (by simpa using hy)
        · refine .inr ⟨fun h => h3 fun i y hy => ?_, h4⟩
          have := h (i + 1) y (by simpa using hy)
          rwa [show k + (i + 1) = k + 1 + i by omega] at this
      · refine .inr ⟨fun h => hp (h 0 x rfl), k, ?_⟩
        simp only [rangeL, h0.2 hp, sbind]; rfl
  have := key xs 0 (fun i x hx => by rw [Nat.zero_add]; exact hb i x hx)
  simp only [Nat.zero_add] at this
  exact this
theorem m_tape_Right_eq {n : Nat} {t : M_tape_Tape} (hn : big ≤ n) (ht : TW t) (hd : -9223372036854775808 ≤ t.Dim ∧ t.Dim ≤ 9223372036854775807) : m_tape_Right n t = some (dP (tapeR t)) := by
  unfold m_tape_Right m_tape_Wrong
  rw [m_tape_whole_eq t hd, sbind, bifnP]
  by_cases hw : wholeR t
  · rw [if_pos hw]
    have key := range_fstI (K := fun (_ : Unit) => (rangeL (fun (_ : Nat) (x26 : Int) (_ : Unit) =>
      (m_tape_below x26 (t.Code.length : Int)).bind fun r28 =>
      bif !r28 then (
        some (Lp.out ((t.Code.length : Int))))
      else (
        some (Lp.go ()))) t.Outs 0 ()).bind (lpK fun (_ : Unit) =>
    some (-1 : Int))) (f := fun (i11 : Nat) (_ : M_tape_Inst) (_ : Unit) =>
      (m_tape_may n t (i11 : Int)).bind fun r14 =>
      bif !r14 then (
        some (Lp.out ((i11 : Int))))
      else (
        some (Lp.go ()))) (xs := t.Code) (fun i x => mayR t i x) (fun i => (i : Int)) (fun i x hx => by
      rw [m_tape_may_eq hn (ht x (mem_of_get hx)) hx, sbind]
      constructor
      · intro h; rw [dP_t h]; rfl
      · intro h; rw [dP_f h]; rfl)
    rcases key with ⟨k1, k2⟩ | ⟨k1, j, k2⟩
    · rw [k2, range_chk (fun _ (o : Int) => 0 ≤ o ∧ o < (t.Code.length : Int)) (r := (t.Code.length : Int))]
      · rw [list_iff]
        by_cases ho : ∀ o ∈ t.Outs, 0 ≤ o ∧ o < (t.Code.length : Int)
        · rw [if_pos ho, sbind]; exact some_dec ⟨fun _ => ⟨hw, k1, ho⟩, fun _ => rfl⟩
        · rw [if_neg ho, sbind]; exact some_dec ⟨fun h => by omega, fun h => absurd h.2.2 ho⟩
      · intro i o _
        simp only [m_tape_below_eq, sbind]
        constructor
        · intro h; rw [decide_eq_true h]; rfl
        · intro h; rw [decide_eq_false h]; rfl
    · rw [k2, sbind]; exact some_dec ⟨fun h => by omega, fun h => absurd h.2.1 k1⟩
  · rw [if_neg hw, sbind]; exact some_dec ⟨fun h => by omega, fun h => absurd h.1 hw⟩
end Go.Proofs.YtcmhibdigkdjiaaGreatDoor
