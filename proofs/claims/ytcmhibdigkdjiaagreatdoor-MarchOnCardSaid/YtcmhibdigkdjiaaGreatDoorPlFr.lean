import Derived.Test.YtcmhibdigkdjiaaGreatDoorPlWh
namespace Go.Proofs.YtcmhibdigkdjiaaGreatDoor
open Go Go.RowKit
/-! ### Fractions -/
def fv (f : M_frac_Frac) : Rat := mkRat (wv f.Num) (val f.Den)
def toF (q : Rat) : M_frac_Frac := ⟨toW q.num, toL q.den⟩
theorem fv_toF (q : Rat) : fv (toF q) = q := by
  unfold fv toF
  rw [wv_toW, val_toL]; exact Rat.mkRat_self q
theorem mkRat_num_den {z : Int} {d : Nat} (hd : d ≠ 0) : (mkRat z d).num = z / (Nat.gcd z.natAbs d : Int) ∧ (mkRat z d).den = d / Nat.gcd z.natAbs d := by
  rw [← Rat.normalize_eq_mkRat hd, Rat.normalize_eq]
  exact ⟨rfl, rfl⟩
theorem sgn_div (s : Bool) (x g : Nat) (h : g ∣ x) : (if s then -((x / g : Nat) : Int) else ((x / g : Nat) : Int)) = (if s then -(x : Int) else (x : Int)) / (g : Int) := by
  cases s
  · simp
  · simp only [if_true]
    rw [Int.neg_ediv_of_dvd (Int.natCast_dvd_natCast.2 h)]; simp
theorem m_frac_cancel_eq {n : Nat} {w : M_whole_Whole} {d : List Nat} (hn : big ≤ n) (hw : Ww w) (hd : Wd d) (hl : d.length < 4398046511104) (h0 : val d ≠ 0) : m_frac_cancel n w d = some (toF (mkRat (wv w) (val d))) := by
  unfold m_frac_cancel
  have h1 := hw.2
  have hg : Nat.gcd (val w.Abs) (val d) ∣ val w.Abs := Nat.gcd_dvd_left _ _
  have hlw : (toL (val w.Abs / Nat.gcd (val w.Abs) (val d))).length < 4398046511104 := Nat.lt_of_le_of_lt (Nat.le_trans (toL_le_len (Nat.div_le_self _ _)) (toL_len_le hw.1)) h1
  rw [m_common_Cancel_eq hn h1 hl hw.1 hd, sbind, m_whole_Norm_eq hn ⟨Wd_toL _, hlw⟩, sbind]
  obtain ⟨e1, e2⟩ := mkRat_num_den (z := wv w) h0
  unfold toF
  rw [e1, e2, natAbs_wv]
  congr 2
  unfold wv
  rw [val_toL]
  congr 1
  exact sgn_div _ _ _ hg
def Fw (f : M_frac_Frac) : Prop := Ww f.Num ∧ Wd f.Den ∧ f.Den.length < 4398046511104
theorem m_frac_parts_eq {n : Nat} {f : M_frac_Frac} (hn : big ≤ n) (hf : Fw f) : ∃ p, m_frac_parts n f = some p ∧ Ww p.1 ∧ Wd p.2 ∧ p.2.length ≤ max 1 f.Den.length ∧ p.1.Abs.length ≤ f.Num.Abs.length ∧ val p.2 ≠ 0 ∧ mkRat (wv p.1) (val p.2) = fv f := by
  obtain ⟨h1, h2, h3⟩ := hf
  unfold m_frac_parts fv
  rw [m_nat_Zero_eq hn (by omega) h2, sbind, bifd]
  by_cases h0 : val f.Den = 0
  · rw [if_pos h0, m_nat_Of_eq hn (by omega), sbind]
    refine ⟨_, rfl, ⟨Wd_nil, by simp⟩, Wd_toL _, ?_, by simp, by simp only [val_toL]; decide, ?_⟩
    · have := toL_length (n := 1) (k := 1) (by rw [bp_succ, bp_zero]; omega)
      simp only []; omega
    · simp only [val_toL, h0, Rat.mkRat_zero]
      rfl
  · rw [if_neg h0]
    exact ⟨_, rfl, h1, h2, by simp only []; omega, Nat.le_refl _, h0, rfl⟩
theorem m_frac_Norm_eq {n : Nat} {f : M_frac_Frac} (hn : big ≤ n) (hf : Fw f) : m_frac_Norm n f = some (toF (fv f)) := by
  obtain ⟨p, h1, h2, h3, h4, h5, h6, h7⟩ := m_frac_parts_eq hn hf
  unfold m_frac_Norm
  rw [h1, sbind, m_frac_cancel_eq hn h2 h3 (by have := hf.2.2; omega) h6, sbind, h7]
theorem len_mul {x y : Nat} : (toL (x * y)).length ≤ (toL x).length + (toL y).length := by
  refine toL_length ?_
  have h1 := val_lt (Wd_toL x)
  have h2 := val_lt (Wd_toL y)
  rw [val_toL] at h1 h2
  rw [bp_add]
  exact Nat.mul_lt_mul'' h1 h2
theorem len_add {x y k : Nat} (h1 : (toL x).length ≤ k) (h2 : (toL y).length ≤ k) : (toL (x + y)).length ≤ k + 1 := by
  refine toL_length ?_
  have g1 := val_lt (Wd_toL x)
  have g2 := val_lt (Wd_toL y)
  rw [val_toL] at g1 g2
  have g3 := bp_le h1
  have g4 := bp_le h2
  rw [bp_succ]; omega
theorem m_frac_cross_eq {n : Nat} {w : M_whole_Whole} {d : List Nat} (hn : big ≤ n) (hw : Ww w) (hd : Wd d) (hl : d.length < 4398046511104) : m_frac_cross n w d = some (toW (wv w * (val d : Int))) := by
  unfold m_frac_cross
  rw [m_whole_Mul_eq hn hw ⟨hd, hl⟩, sbind]; rfl
/-- A fraction whose numbers have at most k words. -/
def Fk (k : Nat) (f : M_frac_Frac) : Prop := Wd f.Num.Abs ∧ f.Num.Abs.length ≤ k ∧ Wd f.Den ∧ f.Den.length ≤ k
theorem Fk_Fw {k : Nat} {f : M_frac_Frac} (h : Fk k f) (hk : k < 4398046511104) : Fw f := ⟨⟨h.1, by have := h.2.1; omega⟩, h.2.2.1, by have := h.2.2.2; omega⟩
theorem parts_k {n k : Nat} {f : M_frac_Frac} (hn : big ≤ n) (hf : Fk k f) (h1 : 1 ≤ k) (hk : k < 4398046511104) : ∃ w d, m_frac_parts n f = some (w, d) ∧ Wd w.Abs ∧ w.Abs.length ≤ k ∧ Wd d ∧ d.length ≤ k ∧ val d ≠ 0 ∧ mkRat (wv w) (val d) = fv f := by
  obtain ⟨⟨w, d⟩, h1, h2, h3, h4, h5, h6, h7⟩ := m_frac_parts_eq hn (Fk_Fw hf hk)
  exact ⟨w, d, h1, h2.1, Nat.le_trans h5 hf.2.1, h3, by have := hf.2.2.2; simp only at h4; omega, h6, h7⟩
theorem wlen_mul {w : M_whole_Whole} {y k j : Nat} (h1 : Wd w.Abs) (h2 : w.Abs.length ≤ k) (h3 : (toL y).length ≤ j) : (toW (wv w * (y : Int))).Abs.length ≤ k + j := by
  unfold toW
  simp only []
  rw [Int.natAbs_mul, natAbs_wv, Int.natAbs_natCast]
  have := @len_mul (val w.Abs) y
  have := toL_len_le h1
  omega
theorem m_frac_Add_eq {n k : Nat} {f g : M_frac_Frac} (hn : big ≤ n) (h1 : 1 ≤ k) (hk : k < 1099511627776) (hf : Fk k f) (hg : Fk k g) : m_frac_Add n f g = some (toF (fv f + fv g)) := by
  obtain ⟨w, d, a1, a2, a3, a4, a5, a6, a7⟩ := parts_k hn hf h1 (by omega)
  obtain ⟨u, e, b1, b2, b3, b4, b5, b6, b7⟩ := parts_k hn hg h1 (by omega)
  have l1 := wlen_mul a2 a3 (Nat.le_trans (toL_len_le b4) b5)
  have l2 := wlen_mul b2 b3 (Nat.le_trans (toL_len_le a4) a5)
  unfold m_frac_Add
  rw [a1, sbind, b1, sbind, m_frac_cross_eq hn ⟨a2, by omega⟩ b4 (by omega), sbind, m_frac_cross_eq hn ⟨b2, by omega⟩ a4 (by omega), sbind, m_whole_Add_eq hn ⟨toW_Wd _, by omega⟩ ⟨toW_Wd _, by omega⟩, sbind, m_prod_Mul_eq hn (by omega) (by omega) a4 b4, sbind]
  have l3 := @len_mul (val d) (val e)
  have l4 := toL_len_le a4
  have l5 := toL_len_le b4
  rw [wv_toW, wv_toW]
  have hs : (toW (wv w * ↑(val e) + wv u * ↑(val d))).Abs.length ≤ 2 * k + 1 := by
    unfold toW at l1 l2 ⊢
    simp only [] at l1 l2 ⊢
    have := Int.natAbs_add_le (wv w * ↑(val e)) (wv u * ↑(val d))
    exact Nat.le_trans (toL_le_len this) (len_add (by omega) (by omega))
  rw [m_frac_cancel_eq hn ⟨toW_Wd _, by omega⟩ (Wd_toL _) (by omega) (by rw [val_toL]; exact Nat.mul_ne_zero a6 b6), sbind, val_toL, wv_toW, ← a7, ← b7, Rat.mkRat_add_mkRat _ _ a6 b6]
theorem m_frac_Sub_eq {n k : Nat} {f g : M_frac_Frac} (hn : big ≤ n) (h1 : 1 ≤ k) (hk : k < 1099511627776) (hf : Fk k f) (hg : Fk k g) : m_frac_Sub n f g = some (toF (fv f - fv g)) := by
  obtain ⟨w, d, a1, a2, a3, a4, a5, a6, a7⟩ := parts_k hn hf h1 (by omega)
  obtain ⟨u, e, b1, b2, b3, b4, b5, b6, b7⟩ := parts_k hn hg h1 (by omega)
  have l1 := wlen_mul a2 a3 (Nat.le_trans (toL_len_le b4) b5)
  have l2 := wlen_mul b2 b3 (Nat.le_trans (toL_len_le a4) a5)
  unfold m_frac_Sub
  rw [a1, sbind, b1, sbind, m_frac_cross_eq hn ⟨a2, by omega⟩ b4 (by omega), sbind, m_frac_cross_eq hn ⟨b2, by omega⟩ a4 (by omega), sbind, m_whole_Sub_eq hn ⟨toW_Wd _, by omega⟩ ⟨toW_Wd _, by omega⟩, sbind, m_prod_Mul_eq hn (by omega) (by omega) a4 b4, sbind]
  have l3 := @len_mul (val d) (val e)
  have l4 := toL_len_le a4
  have l5 := toL_len_le b4
  rw [wv_toW, wv_toW]
  have hs : (toW (wv w * ↑(val e) - wv u * ↑(val d))).Abs.length ≤ 2 * k + 1 := by
    unfold toW at l1 l2 ⊢
    simp only [] at l1 l2 ⊢
    have := Int.natAbs_sub_le (wv w * ↑(val e)) (wv u * ↑(val d))
    exact Nat.le_trans (toL_le_len this) (len_add (by omega) (by omega))
  rw [m_frac_cancel_eq hn ⟨toW_Wd _, by omega⟩ (Wd_toL _) (by omega) (by rw [val_toL]; exact Nat.mul_ne_zero a6 b6), sbind, val_toL, wv_toW, ← a7, ← b7, Rat.sub_eq_add_neg, Rat.neg_mkRat, Rat.mkRat_add_mkRat _ _ a6 b6, Int.neg_mul, ← Int.sub_eq_add_neg]
theorem m_frac_Mul_eq {n k : Nat} {f g : M_frac_Frac} (hn : big ≤ n) (h1 : 1 ≤ k) (hk : k < 1099511627776) (hf : Fk k f) (hg : Fk k g) : m_frac_Mul n f g = some (toF (fv f * fv g)) := by
  obtain ⟨w, d, a1, a2, a3, a4, a5, a6, a7⟩ := parts_k hn hf h1 (by omega)
  obtain ⟨u, e, b1, b2, b3, b4, b5, b6, b7⟩ := parts_k hn hg h1 (by omega)
  unfold m_frac_Mul
  rw [a1, sbind, b1, sbind, m_whole_Mul_eq hn ⟨a2, by omega⟩ ⟨b2, by omega⟩, sbind, m_prod_Mul_eq hn (by omega) (by omega) a4 b4, sbind]
  have l3 := @len_mul (val d) (val e)
  have l4 := toL_len_le a4
  have l5 := toL_len_le b4
  have hs : (toW (wv w * wv u)).Abs.length ≤ 2 * k := by
    unfold toW
    simp only []
    rw [Int.natAbs_mul, natAbs_wv, natAbs_wv]
    have g1 := @len_mul (val w.Abs) (val u.Abs)
    have g2 := toL_len_le a2
    have g3 := toL_len_le b2
    omega
  rw [m_frac_cancel_eq hn ⟨toW_Wd _, by omega⟩ (Wd_toL _) (by omega) (by rw [val_toL]; exact Nat.mul_ne_zero a6 b6), sbind, val_toL, wv_toW, ← a7, ← b7, Rat.mkRat_mul_mkRat]
theorem toF_neg (q : Rat) : toF (-q) = ⟨toW (-q.num), toL q.den⟩ := rfl
theorem Ww_num {f : M_frac_Frac} (hf : Fw f) : Ww (toF (fv f)).Num := by
  refine ⟨toW_Wd _, ?_⟩
  show (toL (fv f).num.natAbs).length < _
  by_cases h0 : val f.Den = 0
  · unfold fv; rw [h0, Rat.mkRat_zero]; simp [toL_zero]
  · obtain ⟨e1, _⟩ := mkRat_num_den (z := wv f.Num) h0
    unfold fv
    rw [e1]
    have h1 : (wv f.Num / (Nat.gcd (wv f.Num).natAbs (val f.Den) : Int)).natAbs ≤ val f.Num.Abs := by
      rw [← natAbs_wv]; exact Int.natAbs_ediv_le_natAbs _ _
    exact Nat.lt_of_le_of_lt (Nat.le_trans (toL_le_len h1) (toL_len_le hf.1.1)) hf.1.2
theorem m_frac_Neg_eq {n : Nat} {f : M_frac_Frac} (hn : big ≤ n) (hf : Fw f) : m_frac_Neg n f = some (toF (-fv f)) := by
  unfold m_frac_Neg
  have h := Ww_num hf
  rw [m_frac_Norm_eq hn hf, sbind, m_whole_Neg_eq hn h, sbind, toF_neg]
  unfold toF
  simp only [wv_toW]
theorem sign_mkRat_sub {a b : Int} {d e : Nat} (hd : d ≠ 0) (he : e ≠ 0) : Int.sign (a * (e : Int) - b * (d : Int)) = Int.sign (mkRat a d - mkRat b e).num := by
  rw [Rat.sub_eq_add_neg, Rat.neg_mkRat, Rat.mkRat_add_mkRat _ _ hd he, Int.neg_mul, ← Int.sub_eq_add_neg]
  generalize a * (e : Int) - b * (d : Int) = z
  have h0 : d * e ≠ 0 := Nat.mul_ne_zero hd he
  obtain ⟨e1, _⟩ := mkRat_num_den (z := z) h0
  rw [e1]
  have hg : (Nat.gcd z.natAbs (d * e) : Int) ∣ z := Int.dvd_natAbs.1 (Int.natCast_dvd_natCast.2 (Nat.gcd_dvd_left _ _))
  obtain ⟨c, hc⟩ := hg
  have hp : 0 < Nat.gcd z.natAbs (d * e) := Nat.gcd_pos_of_pos_right _ (by omega)
  generalize Nat.gcd z.natAbs (d * e) = g at *
  subst hc
  rw [Int.mul_ediv_cancel_left _ (by omega), Int.sign_mul, Int.sign_eq_one_of_pos (by omega), Int.one_mul]
theorem m_frac_Cmp_eq {n k : Nat} {f g : M_frac_Frac} (hn : big ≤ n) (h1 : 1 ≤ k) (hk : k < 1099511627776) (hf : Fk k f) (hg : Fk k g) : m_frac_Cmp n f g = some (Int.sign (fv f - fv g).num) := by
  obtain ⟨w, d, a1, a2, a3, a4, a5, a6, a7⟩ := parts_k hn hf h1 (by omega)
  obtain ⟨u, e, b1, b2, b3, b4, b5, b6, b7⟩ := parts_k hn hg h1 (by omega)
  have l1 := wlen_mul a2 a3 (Nat.le_trans (toL_len_le b4) b5)
  have l2 := wlen_mul b2 b3 (Nat.le_trans (toL_len_le a4) a5)
  have hs : (toW (wv w * ↑(val e) - wv u * ↑(val d))).Abs.length ≤ 2 * k + 1 := by
    unfold toW at l1 l2 ⊢
    simp only [] at l1 l2 ⊢
    have := Int.natAbs_sub_le (wv w * ↑(val e)) (wv u * ↑(val d))
    exact Nat.le_trans (toL_le_len this) (len_add (by omega) (by omega))
  unfold m_frac_Cmp
  rw [a1, sbind, b1, sbind, m_frac_cross_eq hn ⟨a2, by omega⟩ b4 (by omega), sbind, m_frac_cross_eq hn ⟨b2, by omega⟩ a4 (by omega), sbind, m_whole_Cmp_eq hn ⟨toW_Wd _, by omega⟩ ⟨toW_Wd _, by omega⟩ (by rw [wv_toW, wv_toW]; exact ⟨toW_Wd _, by omega⟩), sbind, wv_toW, wv_toW, sign_mkRat_sub a6 b6, a7, b7]
end Go.Proofs.YtcmhibdigkdjiaaGreatDoor
