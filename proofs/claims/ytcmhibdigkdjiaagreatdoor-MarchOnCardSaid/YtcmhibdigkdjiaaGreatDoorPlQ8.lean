import Derived.Test.YtcmhibdigkdjiaaGreatDoorPlQ7
namespace Go.Proofs.YtcmhibdigkdjiaaGreatDoor
open Go Go.RowKit
/-! ### Which schemes may be -/
def sumQ (l : List Rat) : Rat := l.foldl (fun o x => o + x) 0
theorem sum_bnd {k : Nat} : ∀ {l : List Rat} {b : Nat} {z : Rat}, QR k l → qw z ≤ b → qw (l.foldl (fun o x => o + x) z) ≤ b + l.length * (k + 1)
  | [], b, z, _, h => by simpa using h
  | x :: l, b, z, hl, h => by
    rw [List.foldl_cons]
    have := sum_bnd (l := l) (fun q hq => hl q (.tail _ hq)) (qw_add h (hl x (.head _)))
    rw [List.length_cons, Nat.succ_mul]; omega
theorem m_scheme_sum_eq {n k : Nat} {a : List M_frac_Frac} (hn : big ≤ n) (h1 : 1 ≤ k) (hk : k < 1048576) (ha : FR k a) (hl : a.length ≤ 1000) : m_scheme_sum n a = some (toF (sumQ (rv a))) := by
  unfold m_scheme_sum
  rw [m_frac_Of_zero hn, sbind, range_acc (fun i => toF ((rv (a.take i)).foldl (fun o x => o + x) 0)) a, lpK_go, List.take_length]
  · rfl
  · intro i x hx
    have hi := lt_of_get hx
    have e1 : a.take (i + 1) = a.take i ++ [x] := by rw [List.take_add_one, hx]; rfl
    have e3 : rv (a.take (i + 1)) = rv (a.take i) ++ [fv x] := by unfold rv; rw [e1, List.map_append]; rfl
    have hb := sum_bnd (l := rv (a.take i)) (b := 1) (z := 0) (QR_rv (fun y hy => ha y (List.mem_of_mem_take hy)) h1) (by rw [qw_zero]; exact Nat.le_refl _)
    have hc : (rv (a.take i)).length * (k + 1) ≤ 1000 * 1048576 := Nat.mul_le_mul (by rw [rv_len]; simp; omega) (by omega)
    rw [m_frac_Add_eq (k := 2000000000) hn (by omega) (by omega) (Fk_toF (by omega)) (Fk_mono (ha x (mem_of_get hx)) (by omega)), sbind, e3, List.foldl_append, fv_toF]
    rfl
  · rfl
def numR (x : M_frac_Frac) : Prop := x = toF (fv x) ∧ qz (fv x) ≤ 190
theorem num_one {n k : Nat} {x : M_frac_Frac} (hn : big ≤ n) (hk : k < 1048576) (hx : Fk k x) :
    ((m_frac_Right n x).bind fun r69 => bif !r69 then some true else (m_frac_Size n x).bind fun r71 => some (decide ((190 : Int) < r71))) = some (!dP (numR x)) := by
  rw [m_frac_Right_eq hn (Fk_Fw hx (by omega)), sbind, @decP _ (Classical.propDecidable _), bifnP]
  unfold numR
  by_cases h : x = toF (fv x)
  · have h1 : qw (fv x) < 1099511627776 := by
      rcases Nat.eq_zero_or_pos k with h0 | h0
      · subst h0
        have := qw_fv (Fk_mono hx (show 0 ≤ 1 by omega)) (Nat.le_refl 1); omega
      · have := qw_fv hx h0; omega
    have e : m_frac_Size n x = some (qz (fv x) : Int) := by
      conv => lhs; rw [h]
      exact m_frac_Size_toF hn h1
    rw [if_pos h, e, sbind]
    by_cases h2 : qz (fv x) ≤ 190
    · rw [dP_t ⟨h, h2⟩, decide_eq_false (by omega)]; rfl
    · rw [dP_f fun g => h2 g.2, decide_eq_true (by omega)]; rfl
  · rw [if_neg h, dP_f fun g => h g.1]; rfl
theorem m_scheme_numbers_eq {n k : Nat} {l : List (List M_frac_Frac)} (hn : big ≤ n) (hk : k < 1048576) (hl : ∀ r ∈ l, FR k r) : m_scheme_numbers n l = some (dP (∀ r ∈ l, ∀ x ∈ r, numR x)) := by
  unfold m_scheme_numbers
  rw [range_chk (fun _ (r : List M_frac_Frac) => ∀ x ∈ r, numR x) (r := false)]
  · rw [list_iff]
    by_cases h : ∀ r ∈ l, ∀ x ∈ r, numR x
    · rw [if_pos h, dP_t h]
    · rw [if_neg h, dP_f h]
  · intro i r hr
    have key : (rangeL (fun (_ : Nat) (x60 : M_frac_Frac) (_ : Unit) =>
      jn (fun (j66 : (Bool) → Option _) =>
        (m_frac_Right n x60).bind fun r69 =>
        bif !r69 then (
          j66 true)
        else (
          (m_frac_Size n x60).bind fun r71 =>
          j66 (decide ((190 : Int) < r71)))) (fun (s68 : Bool) =>
        bif s68 then (
          some (Lp.out (Lp.out (false))))
        else (
          some (Lp.go ())))) r 0 ()).bind (lpK fun (_ : Unit) => some (Lp.go ())) = @ite _ (∀ x ∈ r, numR x) (Classical.propDecidable _) (some (Lp.go ())) (some (Lp.out (σ := Unit) (τ := Bool) false)) := by
      rw [range_chk (fun _ (x : M_frac_Frac) => numR x) (r := Lp.out false), list_iff]
      intro j x hx
      have e := num_one hn hk (hl r (mem_of_get hr) x (mem_of_get hx))
      have e2 : (jn (fun (j66 : (Bool) → Option (Lp Unit (Lp Unit Bool))) =>
        (m_frac_Right n x).bind fun r69 =>
        bif !r69 then (
          j66 true)
        else (
          (m_frac_Size n x).bind fun r71 =>
          j66 (decide ((190 : Int) < r71)))) (fun (s68 : Bool) =>
        bif s68 then (
          some (Lp.out (Lp.out (false))))
        else (
          some (Lp.go ())))) = ((m_frac_Right n x).bind fun r69 => bif !r69 then some true else (m_frac_Size n x).bind fun r71 => some (decide ((190 : Int) < r71))).bind fun s68 => bif s68 then (
          some (Lp.out (Lp.out (false))))
        else (
          some (Lp.go ())) := by
        rw [jn_eq]
        cases m_frac_Right n x with
        | none => rfl
        | some b =>
          rw [sbind, sbind]
          cases b
          · rfl
          · rw [Bool.not_true, bifF, bifF]
            cases m_frac_Size n x with
            | none => rfl
            | some z => rfl
      rw [e2, e, sbind]
      constructor
      · intro h; rw [dP_t h]; rfl
      · intro h; rw [dP_f h]; rfl
    rw [key]
    constructor
    · intro h; rw [if_pos h]
    · intro h; rw [if_neg h]
def shapeR (s : M_scheme_Scheme) : Prop := (1 ≤ s.B.length ∧ s.B.length ≤ 8) ∧ s.C.length = s.B.length ∧ s.A.length = s.B.length ∧ (s.E.length = s.B.length ∨ s.E.length = 0) ∧ ∀ (i : Nat) r, s.A[i]? = some r → r.length = i
theorem m_scheme_shape_eq (s : M_scheme_Scheme) : m_scheme_shape s = some (dP (shapeR s)) := by
  unfold m_scheme_shape shapeR
  simp only [jn_eq, bifd, bifnd]
  by_cases c1 : (s.B.length : Int) < 1
  · rw [if_pos c1, bifT, dP_f (by omega)]
  rw [if_neg c1]
  by_cases c2 : (8 : Int) < (s.B.length : Int)
  · rw [if_pos c2, bifT, dP_f (by omega)]
  rw [if_neg c2]
  by_cases c3 : (s.C.length : Int) = (s.B.length : Int)
  case neg => rw [if_neg c3, bifT, dP_f (by omega)]
  rw [if_pos c3]
  by_cases c4 : (s.A.length : Int) = (s.B.length : Int)
  case neg => rw [if_neg c4, bifT, dP_f (by omega)]
  rw [if_pos c4]
  have hr := range_chk (f := fun (i10 : Nat) (x11 : List M_frac_Frac) (_ : Unit) => bif !decide ((x11.length : Int) = (i10 : Int)) then some (Lp.out false) else some (Lp.go ())) (K := fun _ => some true) (r := false) (fun i (r : List M_frac_Frac) => r.length = i) s.A (fun i x hx => by
    constructor
    · intro h; rw [decide_eq_true (by omega)]; rfl
    · intro h; rw [decide_eq_false (by omega)]; rfl)
  have hr' : (rangeL (fun (i10 : Nat) (x11 : List M_frac_Frac) (_ : Unit) => if (x11.length : Int) = (i10 : Int) then some (Lp.go ()) else some (Lp.out false)) s.A 0 ()).bind (lpK fun _ => some true) = (rangeL (fun (i10 : Nat) (x11 : List M_frac_Frac) (_ : Unit) => bif !decide ((x11.length : Int) = (i10 : Int)) then some (Lp.out false) else some (Lp.go ())) s.A 0 ()).bind (lpK fun _ => some true) := by simp only [bifnd]
  have fin : (s.E.length = s.B.length ∨ s.E.length = 0) → (rangeL (fun (i10 : Nat) (x11 : List M_frac_Frac) (_ : Unit) => if (x11.length : Int) = (i10 : Int) then some (Lp.go ()) else some (Lp.out false)) s.A 0 ()).bind (lpK fun _ => some true) = some (dP ((1 ≤ s.B.length ∧ s.B.length ≤ 8) ∧ s.C.length = s.B.length ∧ s.A.length = s.B.length ∧ (s.E.length = s.B.length ∨ s.E.length = 0) ∧ ∀ (i : Nat) r, s.A[i]? = some r → r.length = i)) := by
    intro hE
    rw [hr', hr]
    by_cases h : ∀ (i : Nat) r, s.A[i]? = some r → r.length = i
    · rw [if_pos h, dP_t ⟨by omega, by omega, by omega, hE, h⟩]
    · rw [if_neg h, dP_f fun g => h g.2.2.2.2]
  by_cases c5 : (s.E.length : Int) = (s.B.length : Int)
  · rw [if_pos c5, bifF]; exact fin (.inl (by omega))
  · rw [if_neg c5]
    by_cases c6 : (s.E.length : Int) = 0
    · rw [if_pos c6]; exact fin (.inr (by omega))
    · rw [if_neg c6, dP_f (by omega)]
/-- The sizes of a scheme's numbers. -/
structure SchW (k : Nat) (s : M_scheme_Scheme) : Prop where
  a : ∀ r ∈ s.A, FR k r
  b : FR k s.B
  c : FR k s.C
  e : FR k s.E
  n : s.Name.length ≤ 4611686018427387904
def rowsR (s : M_scheme_Scheme) : Prop := ∀ (i : Nat) r, s.A[i]? = some r → sumQ (rv r) = fv (s.C.getD i ⟨⟨false, []⟩, []⟩)
theorem m_scheme_rows_eq {n k : Nat} {s : M_scheme_Scheme} (hn : big ≤ n) (h1 : 1 ≤ k) (hk : k < 1048576) (hs : SchW k s) (hsh : shapeR s) : m_scheme_rows n s = some (dP (rowsR s)) := by
  unfold m_scheme_rows
  obtain ⟨⟨g1, g2⟩, g3, g4, g5, g6⟩ := hsh
  rw [range_chk (fun i (r : List M_frac_Frac) => sumQ (rv r) = fv (s.C.getD i ⟨⟨false, []⟩, []⟩)) (r := false)]
  · unfold rowsR
    by_cases h : ∀ (i : Nat) r, s.A[i]? = some r → sumQ (rv r) = fv (s.C.getD i ⟨⟨false, []⟩, []⟩)
    · rw [if_pos h, dP_t h]
    · rw [if_neg h, dP_f h]
  · intro i r hr
    have hi := lt_of_get hr
    have hc : s.C[i]? = some (s.C.getD i ⟨⟨false, []⟩, []⟩) := by
      rw [List.getD_eq_getElem?_getD, List.getElem?_eq_getElem (show i < s.C.length by omega)]; rfl
    have hrk := hs.a r (mem_of_get hr)
    have hrl := g6 i r hr
    have hck := hs.c _ (mem_of_get hc)
    have hb := sum_bnd (l := rv r) (b := 1) (z := 0) (QR_rv hrk h1) (by rw [qw_zero]; exact Nat.le_refl _)
    have hcc : (rv r).length * (k + 1) ≤ 8 * 1048576 := Nat.mul_le_mul (by rw [rv_len]; omega) (by omega)
    rw [m_scheme_sum_eq hn h1 hk hrk (by omega), sbind, getI_of hc, sbind, m_frac_Same_eq (k := 10000000) hn (by omega) (by omega) (Fk_toF (by unfold sumQ; omega)) (Fk_mono hck (by omega)), sbind, fv_toF]
    constructor
    · intro h; rw [decide_eq_true h]; rfl
    · intro h; rw [decide_eq_false h]; rfl
def schR (s : M_scheme_Scheme) : Prop := wdB 2 s.Name = true ∧ shapeR s ∧ ((∀ r ∈ s.A, ∀ x ∈ r, numR x) ∧ ∀ r ∈ [s.B, s.C, s.E], ∀ x ∈ r, numR x) ∧ rowsR s ∧ sumQ (rv s.B) = 1 ∧ (s.E ≠ [] → sumQ (rv s.E) = 1)
theorem m_sumsame {n k : Nat} {a : List M_frac_Frac} (hn : big ≤ n) (h1 : 1 ≤ k) (hk : k < 1048576) (ha : FR k a) (hl : a.length ≤ 8) {β : Type} (f : Bool → Option β) :
    ((m_scheme_sum n a).bind fun r20 => (m_frac_Same n r20 (toF 1)).bind f) = f (decide (sumQ (rv a) = 1)) := by
  have hb := sum_bnd (l := rv a) (b := 1) (z := 0) (QR_rv ha h1) (by rw [qw_zero]; exact Nat.le_refl _)
  have hcc : (rv a).length * (k + 1) ≤ 8 * 1048576 := Nat.mul_le_mul (by rw [rv_len]; omega) (by omega)
  have q1 : qw 1 ≤ 10000000 := by unfold qw; rw [show (1 : Rat).num = 1 from rfl, show (1 : Rat).den = 1 from rfl, show (1 : Int).natAbs = 1 from rfl, toL1]; omega
  rw [m_scheme_sum_eq hn h1 hk ha (by omega), sbind, m_frac_Same_eq (k := 10000000) hn (by omega) (by omega) (Fk_toF (by unfold sumQ; omega)) (Fk_toF q1), sbind, fv_toF, fv_toF]
theorem m_scheme_Wrong_ok {n k : Nat} {s : M_scheme_Scheme} (hn : big ≤ n) (h1 : 1 ≤ k) (hk : k < 1048576) (hs : SchW k s) : ∃ v, m_scheme_Wrong n s = some v ∧ (v = 0 ↔ schR s) := by
  unfold m_scheme_Wrong
  rw [m_frac_Of_one hn, sbind, m_lex_Right_eq (w := ⟨2, s.Name, 0⟩) hn hs.n, sbind]
  simp only []
  unfold schR
  cases hw : wdB 2 s.Name
  · exact ⟨1, rfl, by simp⟩
  rw [Bool.not_true, bifF, m_scheme_shape_eq, sbind, bifnP]
  by_cases hsh : shapeR s
  case neg => rw [if_neg hsh]; exact ⟨2, rfl, fun h => by omega, fun h => absurd h.2.1 hsh⟩
  rw [if_pos hsh]
  have hl := hsh
  obtain ⟨⟨g1, g2⟩, g3, g4, g5, g6⟩ := hl
  simp only [jn_eq]
  rw [m_scheme_numbers_eq hn hk hs.a, sbind, bifnP]
  have hs3 : ∀ r ∈ [s.B, s.C, s.E], FR k r := fun r hr => by
    rcases List.mem_cons.1 hr with rfl | hr
    · exact hs.b
    rcases List.mem_cons.1 hr with rfl | hr
    · exact hs.c
    rcases List.mem_cons.1 hr with rfl | hr
    · exact hs.e
    cases hr
  by_cases hA : ∀ r ∈ s.A, ∀ x ∈ r, numR x
  case neg => rw [if_neg hA, bifT]; exact ⟨3, rfl, fun h => by omega, fun h => absurd h.2.2.1.1 hA⟩
  rw [if_pos hA, m_scheme_numbers_eq hn hk hs3, sbind, bifnP]
  by_cases hB : ∀ r ∈ [s.B, s.C, s.E], ∀ x ∈ r, numR x
  case neg => rw [if_neg hB]; exact ⟨3, rfl, fun h => by omega, fun h => absurd h.2.2.1.2 hB⟩
  rw [if_pos hB, m_scheme_rows_eq hn h1 hk hs hsh, sbind, bifnP]
  by_cases hR : rowsR s
  case neg => rw [if_neg hR]; exact ⟨4, rfl, fun h => by omega, fun h => absurd h.2.2.2.1 hR⟩
  rw [if_pos hR, m_sumsame hn h1 hk hs.b (by omega), bifnd]
  by_cases h5 : sumQ (rv s.B) = 1
  case neg => rw [if_neg h5]; exact ⟨5, rfl, fun h => by omega, fun h => absurd h.2.2.2.2.1 h5⟩
  rw [if_pos h5, bifd]
  by_cases hE : (0 : Int) < (s.E.length : Int)
  · have hE' : s.E ≠ [] := fun h => by rw [h] at hE; simp at hE
    rw [if_pos hE, m_sumsame hn h1 hk hs.e (by omega), bifnd]
    by_cases h6 : sumQ (rv s.E) = 1
    · rw [if_pos h6]; exact ⟨0, rfl, fun _ => ⟨by trivial, hsh, ⟨hA, hB⟩, hR, h5, fun _ => h6⟩, fun _ => rfl⟩
    · rw [if_neg h6]; exact ⟨6, rfl, fun h => by omega, fun h => absurd (h.2.2.2.2.2 hE') h6⟩
  · have hE' : s.E = [] := List.eq_nil_of_length_eq_zero (by omega)
    rw [if_neg hE, bifF]; exact ⟨0, rfl, fun _ => ⟨by trivial, hsh, ⟨hA, hB⟩, hR, h5, fun h => absurd hE' h⟩, fun _ => rfl⟩
theorem m_scheme_Right_eq {n k : Nat} {s : M_scheme_Scheme} (hn : big ≤ n) (h1 : 1 ≤ k) (hk : k < 1048576) (hs : SchW k s) : m_scheme_Right n s = some (dP (schR s)) := by
  obtain ⟨v, e1, e2⟩ := m_scheme_Wrong_ok hn h1 hk hs
  unfold m_scheme_Right
  rw [e1, sbind]; exact some_dec e2
/-- What the companion tells. -/
def gapQ (s : M_scheme_Scheme) : List Rat := if s.E = [] then [] else addQ (rv s.B) (scaleQ (-1) (rv s.E))
theorem m_scheme_Gap_eq {n k : Nat} {s : M_scheme_Scheme} (hn : big ≤ n) (h1 : 1 ≤ k) (hk : k < 1048576) (hs : SchW k s) (hr : schR s) : m_scheme_Gap n s = some (toR (gapQ s)) := by
  unfold m_scheme_Gap gapQ
  simp only [jn_eq]
  rw [m_scheme_Right_eq hn h1 hk hs, sbind, dP_t hr, Bool.not_true, bifF]
  obtain ⟨⟨g1, g2⟩, g3, g4, g5, g6⟩ := hr.2.1
  by_cases hE : s.E = []
  · rw [if_pos hE, hE]; rfl
  · have hl : s.E.length ≠ 0 := fun h => hE (List.eq_nil_of_length_eq_zero h)
    have q1 : qw (((-1 : Int) : Int) : Rat) ≤ 1 := by unfold qw; rw [Rat.num_intCast, Rat.den_intCast, show (-1 : Int).natAbs = 1 from rfl, toL1]; omega
    have e1 : (((-1 : Int) : Int) : Rat) = -1 := rfl
    rw [if_neg hE, decide_eq_false (by omega), bifF]
    unfold m_row_Sub
    rw [m_frac_Of_eq hn (by decide) (by decide), sbind, m_row_Scale_eq (k := k + 1) hn (by omega) (by omega) (Fk_toF (by omega)) (FR_mono hs.e (by omega)) (by omega), sbind, fv_toF]
    rw [m_row_Add_eq (k := k + 1) hn (by omega) (by omega) (FR_mono hs.b (by omega)) (FR_toR (QR_mono (QR_scale q1 (QR_rv hs.e h1)) (by omega))) (by omega), sbind, toR_len, scaleQ_len, rv_len, if_pos (by omega), sbind, rv_toR, e1]
theorem QR_gap {k : Nat} {s : M_scheme_Scheme} (h1 : 1 ≤ k) (hs : SchW k s) : QR (2 * k + 2) (gapQ s) := by
  unfold gapQ
  split
  · intro x hx; cases hx
  · have q1 : qw (-1 : Rat) ≤ 1 := by unfold qw; rw [show (-1 : Rat).num = -1 from rfl, show (-1 : Rat).den = 1 from rfl, show (-1 : Int).natAbs = 1 from rfl, toL1]; omega
    exact QR_mono (QR_add (QR_rv hs.b h1) (QR_scale q1 (QR_rv hs.e h1))) (by omega)
end Go.Proofs.YtcmhibdigkdjiaaGreatDoor
