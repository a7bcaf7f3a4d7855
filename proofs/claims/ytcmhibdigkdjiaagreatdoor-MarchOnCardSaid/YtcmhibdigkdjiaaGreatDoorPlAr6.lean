import Derived.Test.YtcmhibdigkdjiaaGreatDoorPlAr5
namespace Go.Proofs.YtcmhibdigkdjiaaGreatDoor
open Go Go.RowKit
/-! ### Division -/
theorem blen32 {x : Nat} (h2 : x < 4294967296) : blen x ≤ 32 := by
  rcases Nat.lt_or_ge 32 (blen x) with h | h
  · have h0 : x ≠ 0 := by rintro rfl; rw [blen_zero] at h; omega
    have g1 := blen_ge h0
    have g2 : 2 ^ 32 ≤ 2 ^ (blen x - 1) := Nat.pow_le_pow_right (by decide) (by omega)
    rw [show (2 : Nat) ^ 32 = 4294967296 by decide] at g2
    omega
  · exact h
theorem toL_len_le {a : List Nat} (hw : Wd a) : (toL (val a)).length ≤ a.length := by rw [toL_val hw]; exact trimZ_length a
theorem toL_len_mul {v s : Nat} (hs : s ≤ 32) : (toL (v * 2 ^ s)).length ≤ (toL v).length + 1 := by
  refine toL_length ?_
  have h1 := val_lt (Wd_toL v)
  rw [val_toL] at h1
  rw [bp_succ]
  exact Nat.lt_of_lt_of_le (Nat.mul_lt_mul_of_pos_right h1 (Nat.two_pow_pos s)) (Nat.mul_le_mul_left _ (pow_le32 hs))
theorem len2 {v : Nat} (h : 4294967296 ≤ v) : ∃ vl v4 v3, toL v = vl ++ [v4, v3] ∧ v3 ≠ 0 := by
  have h0 : toL v ≠ [] := by rw [toL_pos (by omega)]; simp
  obtain ⟨p, x, h1, h2, h3, h4⟩ := toL_last h0
  rcases List.eq_nil_or_concat p with h5 | ⟨p', y, h5⟩
  · exfalso
    have := val_toL v
    rw [h1, h5] at this; simp [val] at this; omega
  · exact ⟨p', y, x, by rw [h1, h5, List.concat_eq_append]; simp, h2⟩
theorem toL_ge {v : Nat} (h : v ≠ 0) : bp ((toL v).length - 1) ≤ v := by
  have h0 : toL v ≠ [] := by rw [toL_pos h]; simp
  obtain ⟨p, x, h1, h2, h3, h4⟩ := toL_last h0
  have := val_toL v
  rw [h1, val_snoc] at this
  rw [h1, List.length_append, List.length_singleton, Nat.add_sub_cancel, ← this]
  have : bp p.length * 1 ≤ bp p.length * x := Nat.mul_le_mul_left _ (by omega)
  omega
theorem m_quot_Div_eq {n : Nat} {a b : List Nat} (hn : big ≤ n) (ha : a.length < 4398046511104) (hb : b.length < 4398046511104) (hwa : Wd a) (hwb : Wd b) :
    m_quot_Div n a b = some (if val b = 0 then ([], [], false) else (toL (val a / val b), toL (val a % val b), true)) := by
  unfold m_quot_Div
  have hlb := toL_len_le hwb
  have hla := toL_len_le hwa
  rw [m_nat_Norm_eq hn (by omega), sbind, ← toL_val hwb, bifd]
  by_cases h0 : val b = 0
  · rw [h0, toL_zero, if_pos (by rfl), if_pos rfl]
  · have hne : toL (val b) ≠ [] := by rw [toL_pos h0]; simp
    have hl0 : (toL (val b)).length ≠ 0 := fun h => hne (List.eq_nil_of_length_eq_zero h)
    rw [if_neg (by omega), if_neg h0, m_nat_Cmp_eq hn (by omega) (by omega) hwa (Wd_toL _), sbind, val_toL, bifd]
    by_cases hlt : val a < val b
    · rw [if_pos (by rw [cmpI, if_pos hlt]; decide), m_nat_Norm_eq hn (by omega), sbind, Nat.div_eq_of_lt hlt, Nat.mod_eq_of_lt hlt, toL_zero, toL_val hwa]
    · rw [if_neg (by rw [cmpI, if_neg hlt]; split <;> decide), bifd]
      by_cases h1 : (toL (val b)).length = 1
      · rw [if_pos (by omega)]
        obtain ⟨y, hy⟩ := List.length_eq_one_iff.1 h1
        have hv := val_toL (val b)
        have hw := Wd_toL (val b)
        rw [hy] at hv hw
        simp only [val, Nat.mul_zero, Nat.add_zero] at hv
        have hyw := (Wd_cons.1 hw).1
        rw [hy, show getI [y] (0 : Int) = some y by rfl, sbind, m_quot_Word_eq hn (by omega) hwa (by omega) hyw, sbind]
        simp only []
        have := Nat.mod_lt (val a) (show y > 0 by omega)
        rw [m_nat_Of_eq hn (by omega), sbind, ← hv]
      · rw [if_neg (by omega)]
        have hbig : 4294967296 ≤ val b := by
          rcases Nat.lt_or_ge (val b) 4294967296 with h | h
          · have := toL_length (n := val b) (k := 1) (by rw [bp_succ, bp_zero]; omega)
            omega
          · exact h
        obtain ⟨bl, b4, b3, e1, e2⟩ := len2 hbig
        have hwb' := Wd_toL (val b)
        have hb3 : b3 < 4294967296 := by rw [e1] at hwb'; exact (Wd_cons.1 (Wd_cons.1 (Wd_append.1 hwb').2).2).1
        have hbl : (toL (val b)).length = bl.length + 2 := by rw [e1]; simp
        rw [w64 (x := ((toL (val b)).length : Int) - 1) (by omega) (by omega), show ((toL (val b)).length : Int) - 1 = ((bl.length + 1 : Nat) : Int) by omega]
        rw [show getI (toL (val b)) ((bl.length + 1 : Nat) : Int) = some b3 by rw [e1, show bl ++ [b4, b3] = (bl ++ [b4]) ++ b3 :: [] by simp]; exact get_mid' (by simp), sbind, m_limb_Len_eq hn hb3, sbind]
        have hs := blen32 hb3
        rw [w64 (x := (32 : Int) - (blen b3 : Int)) (by omega) (by omega), show (32 : Int) - (blen b3 : Int) = ((32 - blen b3 : Nat) : Int) by omega]
        have hs' : 32 - blen b3 ≤ 32 := by omega
        generalize 32 - blen b3 = s at *
        have hS := Nat.two_pow_pos s
        rw [m_twos_Up_eq hn (by omega) hwa (by omega), sbind]
        have l1 := toL_len_mul (v := val a) hs'
        have l2 := toL_len_mul (v := val b) hs'
        rw [appM_ok (by simp; omega) (by simp; omega), sbind, m_twos_Up_eq hn (by omega) hwb' (by omega), sbind, val_toL]
        have hbs : val b ≤ val b * 2 ^ s := Nat.le_mul_of_pos_right _ hS
        obtain ⟨vl, v4, v3, f1, f2⟩ := len2 (v := val b * 2 ^ s) (by omega)
        have hab : val b * 2 ^ s ≤ val a * 2 ^ s := Nat.mul_le_mul_right _ (by omega)
        have hll := toL_le_len hab
        have hge := toL_ge (v := val b * 2 ^ s) (by omega)
        have hvl : (toL (val b * 2 ^ s)).length = vl.length + 2 := by rw [f1]; simp
        have hwu : Wd (toL (val a * 2 ^ s) ++ [0]) := Wd_append.2 ⟨Wd_toL _, Wd_cons.2 ⟨by omega, Wd_nil⟩⟩
        obtain ⟨⟨q, r⟩, g1, g2, g3, g4, g5, g6, g7⟩ := m_quot_long_eq (u := toL (val a * 2 ^ s) ++ [0]) (v := toL (val b * 2 ^ s)) hn f1 f2 hwu (Wd_toL _) (by simp; omega) (by simp; omega) (by
          rw [List.length_append, List.length_singleton, List.drop_append_of_le_length (by omega), val_snoc, Nat.mul_zero, Nat.add_zero, val_toL]
          have := val_lt (Wd_drop (k := (toL (val a * 2 ^ s)).length + 1 - (toL (val b * 2 ^ s)).length) (Wd_toL (val a * 2 ^ s)))
          rw [List.length_drop] at this
          exact Nat.lt_of_lt_of_le this (Nat.le_trans (bp_le (by omega)) hge))
        simp only at g2 g3 g4 g5 g6 g7
        rw [val_snoc, Nat.mul_zero, Nat.add_zero, val_toL, val_toL] at g6
        rw [val_toL] at g7
        rw [List.length_append, List.length_singleton] at g2 g4
        rw [g1, sbind]
        simp only []
        rw [m_nat_Norm_eq hn (by omega), sbind, m_twos_Down_eq hn (by omega) g5 (by omega), sbind, ← toL_val g3]
        obtain ⟨d1, d2⟩ := dm_of (U := val a * 2 ^ s) (V := val b * 2 ^ s) (q := val q) (r := val r) (by rw [g6, Nat.mul_comm (val q)]; omega) g7
        rw [Nat.mul_div_mul_right _ _ hS] at d1
        rw [Nat.mul_mod_mul_right] at d2
        rw [← d1, ← d2, Nat.mul_div_cancel _ hS]
end Go.Proofs.YtcmhibdigkdjiaaGreatDoor
