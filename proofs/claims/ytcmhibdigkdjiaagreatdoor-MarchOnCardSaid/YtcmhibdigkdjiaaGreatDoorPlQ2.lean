import Derived.Test.YtcmhibdigkdjiaaGreatDoorPlQ1
namespace Go.Proofs.YtcmhibdigkdjiaaGreatDoor
open Go Go.RowKit
/-! ### Powers, the greatest -/
theorem len_pow {v j : Nat} (h : (toL v).length ≤ j) : ∀ t, (toL (v ^ t)).length ≤ t * j + 1
  | 0 => by rw [Nat.pow_zero, toL1]; omega
  | t + 1 => by
    have := len_pow h t
    have := @len_mul (v ^ t) v
    rw [Nat.pow_succ, Nat.succ_mul]; omega
theorem m_frac_power_eq {n j t : Nat} {a : List Nat} (hn : big ≤ n) (ha : Wd a) (hl : a.length ≤ j) (hj : j < 1099511627776) (ht : t ≤ 7 + 1) : m_frac_power n a (t : Int) = some (toL (val a ^ t)) := by
  unfold m_frac_power
  rw [m_nat_Of_eq hn (by decide), sbind]
  rw [loop_acc (fun i => (toL (val a ^ i), (i : Int))) t (toL (val a ^ t))]
  · intro i hi
    have h1 := len_pow (Nat.le_trans (toL_len_le ha) hl) i
    have h2 : i * j ≤ 8 * j := Nat.mul_le_mul_right _ (by omega)
    simp only [bifd]
    rw [if_pos (by omega), m_prod_Mul_eq hn (by omega) (by omega) (Wd_toL _) ha, sbind, val_toL, w1 (by omega), Nat.pow_succ]
  · simp only [bifd]; rw [if_neg (by omega)]
  · unfold big at hn; omega
  · rfl
theorem sgn_pow (z : Int) (t : Nat) : (if (decide (z < 0) && decide (t % 2 = 1)) = true then -((z.natAbs ^ t : Nat) : Int) else ((z.natAbs ^ t : Nat) : Int)) = z ^ t := by
  rw [Int.natCast_pow]
  by_cases hz : z < 0
  · have e : (z.natAbs : Int) = -z := by omega
    rw [e, decide_eq_true hz, Bool.true_and]
    rcases Nat.mod_two_eq_zero_or_one t with h | h
    · rw [if_neg (by rw [h]; decide)]
      obtain ⟨m, rfl⟩ : ∃ m, t = 2 * m := ⟨t / 2, by omega⟩
      rw [Int.pow_mul, Int.pow_mul]; congr 1
      rw [Int.pow_succ, Int.pow_succ, Int.pow_succ, Int.pow_succ]; simp [Int.neg_mul_neg]
    · rw [if_pos (by rw [h]; decide)]
      obtain ⟨m, rfl⟩ : ∃ m, t = 2 * m + 1 := ⟨t / 2, by omega⟩
      rw [Int.pow_succ, Int.pow_succ, Int.pow_mul, Int.pow_mul]
      have : (-z) ^ 2 = z ^ 2 := by rw [Int.pow_succ, Int.pow_succ, Int.pow_succ, Int.pow_succ]; simp [Int.neg_mul_neg]
      rw [this, Int.mul_neg, Int.neg_neg]
  · have e : (z.natAbs : Int) = z := by omega
    rw [decide_eq_false hz, Bool.false_and, if_neg (by decide), e]
theorem m_frac_Pow_eq {n k : Nat} {f : M_frac_Frac} {e : Int} (hn : big ≤ n) (h1 : 1 ≤ k) (hk : k < 1099511627) (hf : Fk k f) :
    m_frac_Pow n f e = some (if e < -8 ∨ 8 < e ∨ (e < 0 ∧ fv f = 0) then (toF 0, false) else (toF (fv f ^ e), true)) := by
  unfold m_frac_Pow
  simp only [jn_eq]
  by_cases c1 : e < -8
  · rw [decide_eq_true c1, bifT, bifT, m_frac_Of_zero hn, sbind, if_pos (.inl c1)]
  rw [decide_eq_false c1, bifF]
  by_cases c2 : 8 < e
  · rw [decide_eq_true c2, bifT, bifT, m_frac_Of_zero hn, sbind, if_pos (.inr (.inl c2))]
  rw [decide_eq_false c2, bifF]
  have hS := m_frac_Sign_eq hn h1 (by omega) hf
  have hq := qw_fv hf h1
  have hF : Fk k (toF (fv f)) := Fk_toF hq
  obtain ⟨g1, g2, g3, g4⟩ := hF
  have hN := m_frac_Norm_eq hn (Fk_Fw hf (by omega))
  have ht : max e (wrap64 (-e)) = ((e.natAbs : Nat) : Int) := by rw [w64 (by omega) (by omega)]; omega
  have p1 := m_frac_power_eq (t := e.natAbs) hn g1 g2 (by omega) (by omega)
  have p2 := m_frac_power_eq (t := e.natAbs) hn g3 g4 (by omega) (by omega)
  have l1 := len_pow (Nat.le_trans (toL_len_le g1) g2) e.natAbs
  have l2 := len_pow (Nat.le_trans (toL_len_le g3) g4) e.natAbs
  have l3 : e.natAbs * k ≤ 8 * k := Nat.mul_le_mul_right _ (by omega)
  have hmod : decide (Int.tmod ((e.natAbs : Nat) : Int) 2 = 1) = decide (e.natAbs % 2 = 1) := by
    refine decide_eq_decide.2 ?_
    rw [Int.tmod_eq_emod_of_nonneg (by omega)]; omega
  have v1 : val (toF (fv f)).Num.Abs = (fv f).num.natAbs := val_toL _
  have v2 : val (toF (fv f)).Den = (fv f).den := val_toL _
  have v3 : (toF (fv f)).Num.Neg = decide ((fv f).num < 0) := rfl
  rw [v1] at p1 l1
  rw [v2] at p2 l2
  have fin : ∀ (u d : Nat), (toL u).length ≤ 8 * k + 1 → (if (toF (fv f)).Num.Neg = true then (m_whole_Norm n (⟨decide (Int.tmod (max e (wrap64 (-e))) 2 = 1), toL u⟩ : M_whole_Whole)).bind fun r26 => some ((⟨r26, toL d⟩ : M_frac_Frac), true) else (m_whole_Norm n (⟨false, toL u⟩ : M_whole_Whole)).bind fun r28 => some ((⟨r28, toL d⟩ : M_frac_Frac), true)) =
      some (⟨toW (if (decide ((fv f).num < 0) && decide (e.natAbs % 2 = 1)) = true then -(u : Int) else (u : Int)), toL d⟩, true) := by
    intro u d hu
    rw [ht, hmod, v3]
    by_cases hz : (fv f).num < 0
    · rw [if_pos (decide_eq_true hz), m_whole_Norm_eq hn ⟨Wd_toL _, by show (toL u).length < _; omega⟩, sbind, decide_eq_true hz, Bool.true_and]
      unfold wv
      simp only [val_toL]
    · rw [if_neg (by rw [decide_eq_false hz]; decide), m_whole_Norm_eq hn ⟨Wd_toL _, by show (toL u).length < _; omega⟩, sbind, decide_eq_false hz, Bool.false_and]
      unfold wv
      simp only [val_toL]
  have bifi : ∀ {α : Type} (b : Bool) (x y : α), (bif b then x else y) = if b = true then x else y := fun b x y => by cases b <;> rfl
  by_cases c3 : e < 0
  · rw [decide_eq_true c3, bifT, hS, sbind]
    by_cases c4 : fv f = 0
    · rw [c4, show ((0 : Rat).num.sign) = 0 from rfl, decide_eq_true rfl, bifT, m_frac_Of_zero hn, sbind, if_pos (.inr (.inr ⟨c3, c4 ▸ rfl⟩))]
    · have hn0 : (fv f).num ≠ 0 := fun h => c4 (Rat.num_eq_zero.1 h)
      rw [decide_eq_false (by rw [Int.sign_eq_zero_iff_zero]; exact hn0), bifF, hN, sbind, ht, p1, sbind, p2, sbind, bifT]
      rw [bifi, ← ht, fin _ _ (by omega), if_neg (c := e < -8 ∨ 8 < e ∨ (e < 0 ∧ fv f = 0)) (by rintro (h | h | h); exact c1 h; exact c2 h; exact c4 h.2)]
      refine congrArg some (Prod.ext ?_ rfl)
      have ee : e = -((e.natAbs : Nat) : Int) := by omega
      have es : fv f ^ e = (fv f ^ e.natAbs)⁻¹ := by
        rw [← Rat.zpow_natCast, ← Rat.zpow_neg, ← ee]
      rw [es]
      unfold toF
      rw [Rat.num_inv, Rat.den_inv, Rat.num_pow, Rat.den_pow]
      have hnp : (fv f).num ^ e.natAbs ≠ 0 := Int.pow_ne_zero hn0
      rw [if_neg hnp, Int.natAbs_pow]
      have hs := sgn_pow (fv f).num e.natAbs
      have hp : 0 < (fv f).num.natAbs ^ e.natAbs := Nat.pow_pos (by omega)
      congr 2
      rw [← hs]
      by_cases hc : (decide ((fv f).num < 0) && decide (e.natAbs % 2 = 1)) = true
      · rw [if_pos hc, if_pos hc, Int.sign_eq_neg_one_of_neg (by omega), Int.neg_mul, Int.one_mul]
      · rw [if_neg hc, if_neg hc, Int.sign_eq_one_of_pos (by omega), Int.one_mul]
  · rw [decide_eq_false c3, bifF, bifF, hN, sbind, ht, p1, sbind, p2, sbind, bifF]
    rw [bifi, ← ht, fin _ _ (by omega), if_neg (c := e < -8 ∨ 8 < e ∨ (e < 0 ∧ fv f = 0)) (by rintro (h | h | h); exact c1 h; exact c2 h; exact c3 h.1)]
    refine congrArg some (Prod.ext ?_ rfl)
    have es : fv f ^ e = fv f ^ e.natAbs := by
      rw [← Rat.zpow_natCast, show ((e.natAbs : Nat) : Int) = e by omega]
    rw [es]
    unfold toF
    rw [Rat.num_pow, Rat.den_pow, sgn_pow]
theorem qw_zpow {a : Rat} {j : Nat} (ha : qw a ≤ j) {e : Int} (h : e.natAbs ≤ 8) : qw (a ^ e) ≤ 8 * j + 1 := by
  have l3 : e.natAbs * j ≤ 8 * j := Nat.mul_le_mul_right _ (by omega)
  have h1 := qw_pow ha e.natAbs
  rcases Int.lt_or_le e 0 with c | c
  · have es : a ^ e = (a ^ e.natAbs)⁻¹ := by
      rw [← Rat.zpow_natCast, ← Rat.zpow_neg, show -((e.natAbs : Nat) : Int) = e by omega]
    rw [es]; exact qw_inv (by omega)
  · have es : a ^ e = a ^ e.natAbs := by
      rw [← Rat.zpow_natCast, show ((e.natAbs : Nat) : Int) = e by omega]
    rw [es]; omega
/-! the greatest -/
def maxQ (a b : Rat) : Rat := if 0 < (b - a).num.sign then b else a
theorem m_frac_Max2_eq {n k : Nat} {f g : M_frac_Frac} (hn : big ≤ n) (h1 : 1 ≤ k) (hk : k < 1099511627776) (hf : Fk k f) (hg : Fk k g) : m_frac_Max n [f, g] = some (toF (maxQ (fv f) (fv g))) := by
  unfold m_frac_Max
  simp only [jn_eq, rangeL]
  have hF : Fk k (toF (fv f)) := Fk_toF (qw_fv hf h1)
  rw [m_frac_Of_zero hn, sbind, show decide (((0 : Nat) : Int) = 0) = true from rfl, bifT, bifT, m_frac_Norm_eq hn (Fk_Fw hf (by omega)), sbind, sbind]
  simp only []
  rw [show decide (((0 + 1 : Nat) : Int) = 0) = false from rfl, bifF, m_frac_Cmp_eq hn h1 hk hg hF, sbind, fv_toF, bifd]
  unfold maxQ
  split
  · rw [m_frac_Norm_eq hn (Fk_Fw hg (by omega)), sbind]; rfl
  · rfl
end Go.Proofs.YtcmhibdigkdjiaaGreatDoor
