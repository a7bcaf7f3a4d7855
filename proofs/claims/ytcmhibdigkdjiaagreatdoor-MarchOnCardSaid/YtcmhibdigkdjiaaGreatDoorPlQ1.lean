import Derived.Test.YtcmhibdigkdjiaaGreatDoorPlRt
namespace Go.Proofs.YtcmhibdigkdjiaaGreatDoor
open Go Go.RowKit
/-! ### Fractions, the rest -/
/-- How many words a fraction's numbers have. -/
def qw (q : Rat) : Nat := max (toL q.num.natAbs).length (toL q.den).length
theorem Fk_mono {j k : Nat} {f : M_frac_Frac} (h : Fk j f) (hk : j ≤ k) : Fk k f := ⟨h.1, by have := h.2.1; omega, h.2.2.1, by have := h.2.2.2; omega⟩
theorem Fk_toF {q : Rat} {k : Nat} (h : qw q ≤ k) : Fk k (toF q) := by
  unfold qw at h
  exact ⟨toW_Wd _, by show (toL q.num.natAbs).length ≤ k; omega, Wd_toL _, by show (toL q.den).length ≤ k; omega⟩
theorem toL1 : (toL 1).length = 1 := by rw [toL_pos (by decide)]; simp [toL_zero]
theorem qw_mkRat {z : Int} {d k : Nat} (hd : d ≠ 0) (h1 : (toL z.natAbs).length ≤ k) (h2 : (toL d).length ≤ k) : qw (mkRat z d) ≤ k := by
  obtain ⟨e1, e2⟩ := mkRat_num_den (z := z) hd
  unfold qw
  rw [e1, e2]
  have g1 := toL_le_len (Int.natAbs_ediv_le_natAbs z (Nat.gcd z.natAbs d : Int))
  have g2 := toL_le_len (Nat.div_le_self d (Nat.gcd z.natAbs d))
  omega
theorem qw_zero : qw 0 = 1 := by
  unfold qw
  rw [show (0 : Rat).num = 0 from rfl, show (0 : Rat).den = 1 from rfl, toL1]
  simp [toL_zero]
theorem qw_pos (q : Rat) : 1 ≤ qw q := by
  have := (toL_len_pos (v := q.den)).2 q.den_nz
  unfold qw; omega
theorem qw_fv {f : M_frac_Frac} {k : Nat} (h : Fk k f) (h1 : 1 ≤ k) : qw (fv f) ≤ k := by
  unfold fv
  by_cases h0 : val f.Den = 0
  · rw [h0, Rat.mkRat_zero, qw_zero]; exact h1
  · refine qw_mkRat h0 ?_ ?_
    · rw [natAbs_wv]; exact Nat.le_trans (toL_len_le h.1) h.2.1
    · exact Nat.le_trans (toL_len_le h.2.2.1) h.2.2.2
theorem qw_num (q : Rat) : (toL q.num.natAbs).length ≤ qw q := by unfold qw; omega
theorem qw_den (q : Rat) : (toL q.den).length ≤ qw q := by unfold qw; omega
theorem qw_mul {a b : Rat} {j k : Nat} (ha : qw a ≤ j) (hb : qw b ≤ k) : qw (a * b) ≤ j + k := by
  rw [← Rat.mkRat_self a, ← Rat.mkRat_self b, Rat.mkRat_mul_mkRat]
  have n1 := qw_num a; have n2 := qw_num b; have d1 := qw_den a; have d2 := qw_den b
  have := @len_mul a.num.natAbs b.num.natAbs
  have := @len_mul a.den b.den
  exact qw_mkRat (Nat.mul_ne_zero a.den_nz b.den_nz) (by rw [Int.natAbs_mul]; omega) (by omega)
theorem qw_add {a b : Rat} {j k : Nat} (ha : qw a ≤ j) (hb : qw b ≤ k) : qw (a + b) ≤ j + k + 1 := by
  rw [← Rat.mkRat_self a, ← Rat.mkRat_self b, Rat.mkRat_add_mkRat _ _ a.den_nz b.den_nz]
  have n1 := qw_num a; have n2 := qw_num b; have d1 := qw_den a; have d2 := qw_den b
  have m1 := @len_mul a.num.natAbs b.den
  have m2 := @len_mul b.num.natAbs a.den
  have m3 := @len_mul a.den b.den
  refine qw_mkRat (Nat.mul_ne_zero a.den_nz b.den_nz) ?_ (by omega)
  refine Nat.le_trans (toL_le_len (Int.natAbs_add_le _ _)) ?_
  rw [Int.natAbs_mul, Int.natAbs_mul, Int.natAbs_natCast, Int.natAbs_natCast]
  exact len_add (by omega) (by omega)
theorem num_neg (a : Rat) : (-a).num = -a.num := rfl
theorem den_neg (a : Rat) : (-a).den = a.den := rfl
theorem qw_neg (a : Rat) : qw (-a) = qw a := by unfold qw; rw [num_neg, den_neg, Int.natAbs_neg]
theorem qw_sub {a b : Rat} {j k : Nat} (ha : qw a ≤ j) (hb : qw b ≤ k) : qw (a - b) ≤ j + k + 1 := by
  rw [Rat.sub_eq_add_neg]; exact qw_add ha (by rw [qw_neg]; exact hb)
theorem qw_inv {a : Rat} {j : Nat} (ha : qw a ≤ j) : qw a⁻¹ ≤ j := by
  have n1 := qw_num a; have d1 := qw_den a; have p := qw_pos a
  unfold qw
  rw [Rat.num_inv, Rat.den_inv]
  have h1 : (toL (a.num.sign * (a.den : Int)).natAbs).length ≤ j := by
    rw [Int.natAbs_mul, Int.natAbs_natCast]
    refine Nat.le_trans (toL_le_len (y := a.den) ?_) (by omega)
    have : a.num.sign.natAbs ≤ 1 := by rw [Int.natAbs_sign]; split <;> omega
    calc a.num.sign.natAbs * a.den ≤ 1 * a.den := Nat.mul_le_mul_right _ this
      _ = a.den := Nat.one_mul _
  have h2 : (toL (if a.num = 0 then 1 else a.num.natAbs)).length ≤ j := by
    split
    · rw [toL1]; omega
    · omega
  omega
theorem qw_div {a b : Rat} {j k : Nat} (ha : qw a ≤ j) (hb : qw b ≤ k) : qw (a / b) ≤ j + k := by
  rw [Rat.div_def]; exact qw_mul ha (qw_inv hb)
theorem qw_pow {a : Rat} {j : Nat} (ha : qw a ≤ j) : ∀ n : Nat, qw (a ^ n) ≤ n * j + 1
  | 0 => by rw [Rat.pow_zero]; unfold qw; rw [show (1 : Rat).num = 1 from rfl, show (1 : Rat).den = 1 from rfl, show (1 : Int).natAbs = 1 from rfl, toL1]; omega
  | n + 1 => by
    have := qw_mul (qw_pow ha n) ha
    rw [Rat.pow_succ, Nat.succ_mul]; omega
/-! the functions -/
theorem toF_int (x : Int) : toF (x : Rat) = ⟨toW x, toL 1⟩ := by unfold toF; rw [Rat.num_intCast, Rat.den_intCast]
theorem m_whole_Of_eq {n : Nat} {x : Int} (hn : big ≤ n) (h1 : -9223372036854775808 ≤ x) (h2 : x ≤ 9223372036854775807) : m_whole_Of n x = some (toW x) := by
  unfold m_whole_Of
  rw [bifd]
  split
  · rename_i h
    have e : (18446744073709551616 - Int.toNat (x % 18446744073709551616)) % 18446744073709551616 = x.natAbs := by omega
    rw [sbind, e, m_nat_Of_eq hn (by omega), sbind, m_whole_signed_eq, sbind, if_pos rfl, show -((x.natAbs : Nat) : Int) = x by omega]
  · rename_i h
    have e : Int.toNat (x % 18446744073709551616) = x.natAbs := by omega
    rw [e, m_nat_Of_eq hn (by omega), sbind, m_whole_signed_eq, sbind, if_neg (by decide), show ((x.natAbs : Nat) : Int) = x by omega]
theorem m_frac_Of_eq {n : Nat} {x : Int} (hn : big ≤ n) (h1 : -9223372036854775808 ≤ x) (h2 : x ≤ 9223372036854775807) : m_frac_Of n x = some (toF (x : Rat)) := by
  unfold m_frac_Of
  rw [m_whole_Of_eq hn h1 h2, sbind, m_nat_Of_eq hn (by decide), sbind, toF_int]
theorem m_frac_Of_zero {n : Nat} (hn : big ≤ n) : m_frac_Of n 0 = some (toF 0) := m_frac_Of_eq hn (by decide) (by decide)
theorem m_frac_Of_one {n : Nat} (hn : big ≤ n) : m_frac_Of n 1 = some (toF 1) := m_frac_Of_eq hn (by decide) (by decide)
theorem sign_mkRat {z : Int} {d : Nat} (hd : d ≠ 0) : (mkRat z d).num.sign = z.sign := by
  have := sign_mkRat_sub (a := z) (b := 0) hd (e := 1) (by decide)
  rw [Rat.zero_mkRat, show mkRat z d - 0 = mkRat z d by rw [Rat.sub_eq_add_neg, show (-0 : Rat) = 0 from rfl, Rat.add_zero]] at this
  rw [← this]; simp
theorem m_frac_Sign_eq {n k : Nat} {f : M_frac_Frac} (hn : big ≤ n) (h1 : 1 ≤ k) (hk : k < 1099511627776) (hf : Fk k f) : m_frac_Sign n f = some (fv f).num.sign := by
  obtain ⟨w, d, a1, a2, a3, a4, a5, a6, a7⟩ := parts_k hn hf h1 (by omega)
  unfold m_frac_Sign
  rw [a1, sbind, m_whole_Sign_eq hn ⟨a2, by omega⟩, sbind, ← a7, sign_mkRat a6]
theorem rat_sub_zero {a b : Rat} : (a - b).num = 0 ↔ a = b := by
  rw [Rat.num_eq_zero]; grind
theorem m_frac_Same_eq {n k : Nat} {f g : M_frac_Frac} (hn : big ≤ n) (h1 : 1 ≤ k) (hk : k < 1099511627776) (hf : Fk k f) (hg : Fk k g) : m_frac_Same n f g = some (decide (fv f = fv g)) := by
  unfold m_frac_Same
  rw [m_frac_Cmp_eq hn h1 hk hf hg, sbind]
  refine congrArg some (decide_eq_decide.2 ?_)
  rw [Int.sign_eq_zero_iff_zero, rat_sub_zero]
def absQ (q : Rat) : Rat := if q.num < 0 then -q else q
theorem toF_abs (q : Rat) : toF (absQ q) = ⟨⟨false, (toF q).Num.Abs⟩, (toF q).Den⟩ := by
  unfold absQ toF toW
  split
  · rw [num_neg, den_neg, Int.natAbs_neg, decide_eq_false (by omega)]
  · rw [decide_eq_false (by omega)]
theorem m_frac_Abs_eq {n k : Nat} {f : M_frac_Frac} (hn : big ≤ n) (hk : k < 1099511627776) (hf : Fk k f) : m_frac_Abs n f = some (toF (absQ (fv f))) := by
  unfold m_frac_Abs
  rw [m_frac_Norm_eq hn (Fk_Fw hf (by omega)), sbind, toF_abs]
/-- How many bits a fraction's numbers have. -/
def qz (q : Rat) : Nat := blen q.num.natAbs + blen q.den
theorem m_frac_Size_eq {n k : Nat} {f : M_frac_Frac} (hn : big ≤ n) (hk : k < 1099511627776) (hf : Fk k f) : m_frac_Size n f = some ((blen (val f.Num.Abs) + blen (val f.Den) : Nat) : Int) := by
  unfold m_frac_Size
  obtain ⟨h1, h2, h3, h4⟩ := hf
  have b1 := @blen_len (val f.Num.Abs)
  have b2 := @blen_len (val f.Den)
  have b3 := toL_len_le h1
  have b4 := toL_len_le h3
  rw [m_twos_Len_eq hn (by omega) h1, sbind, m_twos_Len_eq hn (by omega) h3, sbind, w64 (by omega) (by omega)]
  rfl
theorem m_frac_Size_toF {n : Nat} {q : Rat} (hn : big ≤ n) (hk : qw q < 1099511627776) : m_frac_Size n (toF q) = some (qz q : Int) := by
  rw [m_frac_Size_eq hn hk (Fk_toF (Nat.le_refl _))]
  unfold qz toF toW
  simp only [val_toL]
theorem blen_words {v b : Nat} (h : blen v ≤ b) : (toL v).length ≤ b / 32 + 1 := by
  refine toL_length ?_
  have h1 := @blen_le v
  rw [bp_two]
  exact Nat.lt_of_lt_of_le h1 (Nat.pow_le_pow_right (by decide) (by omega))
theorem qw_qz {q : Rat} {b : Nat} (h : qz q ≤ b) : qw q ≤ b / 32 + 1 := by
  unfold qz at h
  have h1 := @blen_words q.num.natAbs b (by omega)
  have h2 := @blen_words q.den b (by omega)
  unfold qw; omega
theorem sign_wv : ∀ {u : M_whole_Whole}, wv u ≠ 0 → (wv u).sign = if u.Neg then -1 else 1
  | ⟨false, a⟩, h => by
    have e : wv ⟨false, a⟩ = (val a : Int) := rfl
    rw [e] at h ⊢; rw [Int.sign_eq_one_of_pos (by omega)]; rfl
  | ⟨true, a⟩, h => by
    have e : wv ⟨true, a⟩ = -(val a : Int) := rfl
    rw [e] at h ⊢; rw [Int.sign_eq_neg_one_of_neg (by omega)]; rfl
theorem inv_mkRat {z : Int} {d : Nat} (hz : z ≠ 0) (hd : d ≠ 0) : (mkRat z d)⁻¹ = mkRat (z.sign * (d : Int)) z.natAbs := by
  have h0 : mkRat z d ≠ 0 := fun h => hz ((Rat.mkRat_eq_zero hd).1 h)
  have h1 : mkRat z d * mkRat (z.sign * (d : Int)) z.natAbs = 1 := by
    rw [Rat.mkRat_mul_mkRat, ← Int.mul_assoc, Int.mul_sign_self, show (1 : Rat) = mkRat 1 1 from rfl, Rat.mkRat_eq_iff (Nat.mul_ne_zero hd (by omega)) (by decide)]
    simp [Int.mul_comm]
  grind
theorem m_frac_Quo_eq {n k : Nat} {f g : M_frac_Frac} (hn : big ≤ n) (h1 : 1 ≤ k) (hk : k < 1099511627776) (hf : Fk k f) (hg : Fk k g) : m_frac_Quo n f g = some (if fv g = 0 then (toF 0, false) else (toF (fv f / fv g), true)) := by
  obtain ⟨w, d, a1, a2, a3, a4, a5, a6, a7⟩ := parts_k hn hf h1 (by omega)
  obtain ⟨u, e, b1, b2, b3, b4, b5, b6, b7⟩ := parts_k hn hg h1 (by omega)
  unfold m_frac_Quo
  rw [a1, sbind, b1, sbind, m_whole_Sign_eq hn ⟨b2, by omega⟩, sbind, bifd]
  have hz : (wv u).sign = 0 ↔ fv g = 0 := by rw [← b7, Rat.mkRat_eq_zero b6, Int.sign_eq_zero_iff_zero]
  by_cases h0 : fv g = 0
  · rw [if_pos (hz.2 h0), if_pos h0, m_frac_Of_zero hn, sbind]
  · rw [if_neg (fun h => h0 (hz.1 h)), if_neg h0, m_frac_cross_eq hn ⟨a2, by omega⟩ b4 (by omega), sbind, m_prod_Mul_eq hn (by omega) (by omega) a4 b2, sbind]
    have l1 := wlen_mul a2 a3 (Nat.le_trans (toL_len_le b4) b5)
    have l3 := @len_mul (val d) (val u.Abs)
    have l4 := toL_len_le a4
    have l5 := toL_len_le b2
    have hu0 : wv u ≠ 0 := fun h => h0 (by rw [← b7, h, Rat.zero_mkRat])
    have hv0 : val u.Abs ≠ 0 := by rw [← natAbs_wv]; omega
    rw [m_frac_cancel_eq (w := ⟨(toW (wv w * ↑(val e))).Neg != u.Neg, (toW (wv w * ↑(val e))).Abs⟩) hn ⟨toW_Wd (wv w * ↑(val e)), by show (toW (wv w * ↑(val e))).Abs.length < _; omega⟩ (Wd_toL _) (by omega) (by rw [val_toL]; exact Nat.mul_ne_zero a6 hv0), sbind, val_toL]
    refine congrArg some (Prod.ext ?_ rfl)
    refine congrArg toF ?_
    have e1 : wv (⟨((toW (wv w * ↑(val e))).Neg != u.Neg), (toW (wv w * ↑(val e))).Abs⟩ : M_whole_Whole) = (wv w * (val e : Int)) * (wv u).sign := by
      have t := wv_toW (wv w * ↑(val e))
      generalize toW (wv w * ↑(val e)) = x at t ⊢
      rw [← t]
      have hs := sign_wv hu0
      rw [hs]
      unfold wv
      cases x.Neg <;> cases u.Neg <;> simp
    rw [e1, ← a7, ← b7, Rat.div_def]
    have e2 := inv_mkRat hu0 b6
    rw [natAbs_wv] at e2
    rw [e2, Rat.mkRat_mul_mkRat]
    congr 1
    rw [Int.mul_assoc, Int.mul_comm (val e : Int)]
end Go.Proofs.YtcmhibdigkdjiaaGreatDoor
