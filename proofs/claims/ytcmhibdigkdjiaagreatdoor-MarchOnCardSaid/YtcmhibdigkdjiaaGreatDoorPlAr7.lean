import Derived.Test.YtcmhibdigkdjiaaGreatDoorPlAr6
namespace Go.Proofs.YtcmhibdigkdjiaaGreatDoor
open Go Go.RowKit
/-! ### Common divisors -/
theorem m_common_small_eq {n x y : Nat} (hn : big ≤ n) (hy : y < 18446744073709551616) : m_common_small n x y = some (Nat.gcd x y) := by
  unfold m_common_small
  unfold big at hn
  refine loop_bind (fun s => s.2) (fun s => s.2 < 18446744073709551616 ∧ Nat.gcd s.1 s.2 = Nat.gcd x y) (fun t => t = Nat.gcd x y) ⟨hy, rfl⟩ (by simp only []; omega) ?_ (fun t ht => by rw [ht])
  rintro ⟨u, v⟩ ⟨h1, h2⟩
  simp only at h1 h2
  simp only [bifnd]
  by_cases h0 : v = 0
  · right
    rw [if_pos h0]
    exact ⟨_, rfl, by rw [← h2, h0, Nat.gcd_zero_right]⟩
  · left
    rw [if_neg h0, grd_t (by simp [h0]), sbind]
    have := Nat.mod_lt u (show v > 0 by omega)
    exact ⟨_, rfl, ⟨by simp only []; omega, by rw [← h2, Nat.gcd_comm u v, Nat.gcd_rec v u, Nat.gcd_comm]⟩, this⟩
theorem m_common_one_eq {v : Nat} : m_common_one (toL v) = some (decide (v = 1)) := by
  unfold m_common_one
  simp only [jn_eq, bifd]
  by_cases h : (toL v).length = 1
  · obtain ⟨x, hx⟩ := List.length_eq_one_iff.1 h
    have := val_toL v
    rw [hx] at this; simp [val] at this
    rw [hx, if_pos (by simp), show getI [x] (0 : Int) = some x by rfl, sbind, this]
  · rw [if_neg (by omega)]
    have : v ≠ 1 := by
      rintro rfl; apply h; rw [toL_pos (by decide), show 1 / 4294967296 = 0 by decide, toL_zero]; rfl
    rw [decide_eq_false this]
theorem blen_bd {v k : Nat} (h : v < 2 ^ k) : blen v ≤ k := by
  rcases Nat.lt_or_ge k (blen v) with h1 | h1
  · have h0 : v ≠ 0 := by rintro rfl; rw [blen_zero] at h1; omega
    have g1 := blen_ge h0
    have g2 : 2 ^ k ≤ 2 ^ (blen v - 1) := Nat.pow_le_pow_right (by decide) (by omega)
    omega
  · exact h1
theorem blen_lt {r u : Nat} (h : 2 * r < u) : blen r < blen u := by
  have hu := blen_le (x := u)
  by_cases h0 : r = 0
  · subst h0
    rw [blen_zero]; exact blen_pos (by omega)
  · have g1 := blen_ge h0
    have g2 := blen_pos h0
    have g3 : 2 ^ blen r = 2 ^ (blen r - 1) * 2 := by rw [← Nat.pow_succ, show (blen r - 1).succ = blen r by omega]
    have g4 : 2 ^ blen r < 2 ^ blen u := by omega
    exact (Nat.pow_lt_pow_iff_right (by decide)).1 g4
theorem blen_len {v : Nat} : blen v ≤ 32 * (toL v).length := by
  refine blen_bd ?_
  rw [← bp_two]
  have := val_lt (Wd_toL v)
  rwa [val_toL] at this
theorem gcd_step {u v : Nat} (h0 : v ≠ 0) : blen v + blen (u % v) + (if v < u % v then 1 else 0) < blen u + blen v + (if u < v then 1 else 0) := by
  have hm := Nat.mod_lt u (show v > 0 by omega)
  rw [if_neg (by omega)]
  by_cases h : u < v
  · rw [if_pos h, Nat.mod_eq_of_lt h]; omega
  · rw [if_neg h]
    have h1 : 2 * (u % v) < u := by
      have e1 := Nat.div_add_mod u v
      have e2 : 1 ≤ u / v := (Nat.le_div_iff_mul_le (by omega)).2 (by omega)
      have e3 : v * 1 ≤ v * (u / v) := Nat.mul_le_mul_left _ e2
      omega
    have := blen_lt h1
    omega
theorem m_common_Gcd_eq {n : Nat} {a b : List Nat} (hn : big ≤ n) (ha : a.length < 4398046511104) (hb : b.length < 4398046511104) (hwa : Wd a) (hwb : Wd b) : m_common_Gcd n a b = some (toL (Nat.gcd (val a) (val b))) := by
  unfold m_common_Gcd
  have hla := toL_len_le hwa
  have hlb := toL_len_le hwb
  rw [m_nat_Norm_eq hn (by omega), sbind, m_nat_Norm_eq hn (by omega), sbind, ← toL_val hwa, ← toL_val hwb]
  have hn' := hn
  unfold big at hn'
  refine loop_bind (fun s => blen (val s.1) + blen (val s.2) + (if val s.1 < val s.2 then 1 else 0)) (fun s => ∃ u v, s = (toL u, toL v) ∧ Nat.gcd u v = Nat.gcd (val a) (val b) ∧ (toL u).length < 4398046511104 ∧ (toL v).length < 4398046511104)
    (fun t => ∃ u v, t = (toL u, toL v) ∧ Nat.gcd u v = Nat.gcd (val a) (val b) ∧ (toL u).length < 4398046511104 ∧ (toL v).length ≤ 2) ⟨val a, val b, rfl, rfl, by omega, by omega⟩ ?_ ?_ ?_
  · simp only [val_toL]
    have h1 := blen_len (v := val a)
    have h2 := blen_len (v := val b)
    split <;> omega
  · rintro s ⟨u, v, rfl, h2, h3, h4⟩
    simp only [bifd, val_toL]
    by_cases h0 : 2 < (toL v).length
    · left
      have hv0 : v ≠ 0 := by rintro rfl; rw [toL_zero] at h0; simp at h0
      rw [if_pos (by omega), m_quot_Div_eq hn h3 h4 (Wd_toL _) (Wd_toL _), sbind, val_toL, val_toL, if_neg hv0]
      refine ⟨_, rfl, ⟨v, u % v, rfl, ?_, h4, ?_⟩, ?_⟩
      · rw [← h2, Nat.gcd_comm u v, Nat.gcd_rec v u, Nat.gcd_comm]
      · exact Nat.lt_of_le_of_lt (toL_le_len (Nat.le_of_lt (Nat.mod_lt u (by omega)))) h4
      · simp only [val_toL]; exact gcd_step hv0
    · right
      rw [if_neg (by omega)]
      exact ⟨_, rfl, u, v, rfl, h2, h3, by omega⟩
  · rintro t ⟨u, v, rfl, h2, h3, h4⟩
    simp only [bifd]
    by_cases h0 : v = 0
    · subst h0
      rw [toL_zero, if_pos (by rfl), ← h2, Nat.gcd_zero_right]
    · have hne : (toL v).length ≠ 0 := fun h => by rw [toL_pos h0] at h; simp at h
      have hv64 : v < 18446744073709551616 := by
        rcases Nat.lt_or_ge v 18446744073709551616 with h | h
        · exact h
        · have := toL_big h; omega
      have hm := Nat.mod_lt u (show v > 0 by omega)
      have hlm := toL_le_len (Nat.le_of_lt hm)
      rw [if_neg (by omega), m_quot_Div_eq hn h3 (by omega) (Wd_toL _) (Wd_toL _), sbind, val_toL, val_toL, if_neg h0]
      simp only []
      rw [m_nat_Small_eq hn (by omega) (Wd_toL _), sbind, m_nat_Small_eq hn (by omega) (Wd_toL _), sbind, val_toL, val_toL, if_pos hv64, if_pos (by omega)]
      simp only []
      rw [m_common_small_eq hn (by omega), sbind, m_nat_Of_eq hn (Nat.lt_of_le_of_lt (Nat.gcd_le_left _ (by omega)) hv64), sbind, ← h2, Nat.gcd_comm u v, Nat.gcd_rec v u, Nat.gcd_comm]
theorem m_common_Cancel_eq {n : Nat} {a b : List Nat} (hn : big ≤ n) (ha : a.length < 4398046511104) (hb : b.length < 4398046511104) (hwa : Wd a) (hwb : Wd b) :
    m_common_Cancel n a b = some (toL (val a / Nat.gcd (val a) (val b)), toL (val b / Nat.gcd (val a) (val b))) := by
  unfold m_common_Cancel
  rw [m_common_Gcd_eq hn ha hb hwa hwb, sbind, bifd]
  have hg1 : Nat.gcd (val a) (val b) ∣ val a := Nat.gcd_dvd_left _ _
  have hg2 : Nat.gcd (val a) (val b) ∣ val b := Nat.gcd_dvd_right _ _
  have hla := toL_len_le hwa
  have hlb := toL_len_le hwb
  have hgl : Nat.gcd (val a) (val b) = 0 ∨ (toL (Nat.gcd (val a) (val b))).length < 4398046511104 := by
    by_cases h : val a = 0
    · rw [h, Nat.gcd_zero_left]; right; omega
    · right
      exact Nat.lt_of_le_of_lt (toL_le_len (Nat.gcd_le_left _ (by omega))) (by omega)
  by_cases h0 : Nat.gcd (val a) (val b) = 0
  · rw [h0, toL_zero, if_pos (by rfl), Nat.div_zero, Nat.div_zero, toL_zero]
  · have hne : (toL (Nat.gcd (val a) (val b))).length ≠ 0 := fun h => by rw [toL_pos h0] at h; simp at h
    rw [if_neg (by omega), m_common_one_eq, sbind, bifd]
    by_cases h1 : Nat.gcd (val a) (val b) = 1
    · rw [if_pos h1, m_nat_Norm_eq hn (by omega), sbind, m_nat_Norm_eq hn (by omega), sbind, h1, Nat.div_one, Nat.div_one, toL_val hwa, toL_val hwb]
    · have hgl : (toL (Nat.gcd (val a) (val b))).length < 4398046511104 := by rcases hgl with h | h; exact absurd h h0; exact h
      rw [if_neg h1, m_quot_Div_eq hn ha hgl hwa (Wd_toL _), sbind, m_quot_Div_eq hn hb hgl hwb (Wd_toL _), sbind, val_toL, if_neg h0, if_neg h0]
end Go.Proofs.YtcmhibdigkdjiaaGreatDoor
