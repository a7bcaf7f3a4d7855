import Derived.Test.YtcmhibdigkdjiaaGreatDoorPlAr1
namespace Go.Proofs.YtcmhibdigkdjiaaGreatDoor
open Go Go.RowKit
/-! ### Lengths in bits, products -/
def blen (x : Nat) : Nat := if x = 0 then 0 else Nat.log2 x + 1
theorem blen_zero : blen 0 = 0 := by unfold blen; rw [if_pos rfl]
theorem blen_eq {x k : Nat} (h1 : 2 ^ k ≤ x) (h2 : x < 2 ^ (k + 1)) : blen x = k + 1 := by
  have h0 : x ≠ 0 := by have := Nat.two_pow_pos k; omega
  unfold blen; rw [if_neg h0, (Nat.log2_eq_iff h0).2 ⟨h1, h2⟩]
theorem blen_le {x : Nat} : x < 2 ^ blen x := by
  unfold blen
  by_cases h0 : x = 0
  · rw [if_pos h0, h0]; decide
  · rw [if_neg h0]; exact Nat.lt_log2_self
theorem blen_ge {x : Nat} (h0 : x ≠ 0) : 2 ^ (blen x - 1) ≤ x := by
  unfold blen; rw [if_neg h0]; exact Nat.log2_self_le h0
theorem blen_pos {x : Nat} (h0 : x ≠ 0) : 1 ≤ blen x := by unfold blen; rw [if_neg h0]; omega
theorem blen_add {x w : Nat} (h : x / 2 ^ w ≠ 0) : blen x = blen (x / 2 ^ w) + w := by
  have h1 := blen_ge h
  have h2 := blen_le (x := x / 2 ^ w)
  have h3 := blen_pos h
  obtain ⟨k, hk⟩ : ∃ k, blen (x / 2 ^ w) = k + 1 := ⟨_, (Nat.sub_add_cancel h3).symm⟩
  rw [hk, Nat.add_sub_cancel] at h1
  rw [hk] at h2 ⊢
  rw [show k + 1 + w = (k + w) + 1 by omega]
  refine blen_eq ?_ ?_
  · rw [Nat.pow_add]; exact (Nat.le_div_iff_mul_le (Nat.two_pow_pos w)).1 h1
  · rw [show k + w + 1 = (k + 1) + w by omega, Nat.pow_add]; exact (Nat.div_lt_iff_lt_mul (Nat.two_pow_pos w)).1 h2
theorem m_limb_Len_eq {n x : Nat} (hn : big ≤ n) (hx : x < 4294967296) : m_limb_Len n x = some (blen x : Int) := by
  unfold m_limb_Len
  unfold big at hn
  refine loop_bind (fun s => s.2.2.toNat) (fun s => ∃ (w k B : Nat), s.2.2 = w ∧ s.2.1 = k ∧ (w, B) ∈ [(16, 4294967296), (8, 65536), (4, 256), (2, 16), (1, 4), (0, 2)] ∧ s.1 < B ∧ k + 2 * w ≤ 32 ∧ blen x = k + blen s.1)
    (fun t => ∃ k : Nat, t.2 = k ∧ k ≤ 32 ∧ t.1 < 2 ∧ blen x = k + blen t.1) ⟨16, 0, 4294967296, rfl, rfl, by decide, hx, by decide, by simp⟩ (by simp only []; omega) ?_ ?_
  · rintro ⟨y, c, w'⟩ ⟨w, k, B, h1, h2, h3, h4, h5, h6⟩
    simp only at h1 h2 h4 h6
    subst h1 h2
    simp only [jn_eq, bifd, bifnd]
    by_cases h0 : 0 < w
    · left
      rw [if_pos (by omega), grd_t (by simp), sbind, sbind, Int.toNat_natCast]
      have hw : w ≤ 16 := by omega
      have hd : Int.tdiv (w : Int) 2 = ((w / 2 : Nat) : Int) := by rfl
      rw [hd, Nat.min_eq_left (by omega), w64 (x := ((w / 2 : Nat) : Int)) (by omega) (by omega), w64 (by omega) (by omega)]
      have hB : ∃ B', (w / 2, B') ∈ [(16, 4294967296), (8, 65536), (4, 256), (2, 16), (1, 4), (0, 2)] ∧ B' * 2 ^ w = B ∧ (2 ^ w ≤ B') := by
        simp only [List.mem_cons, List.not_mem_nil, or_false, Prod.mk.injEq] at h3
        rcases h3 with ⟨rfl, rfl⟩ | ⟨rfl, rfl⟩ | ⟨rfl, rfl⟩ | ⟨rfl, rfl⟩ | ⟨rfl, rfl⟩ | ⟨rfl, rfl⟩
        · exact ⟨65536, by decide, by decide, by decide⟩
        · exact ⟨256, by decide, by decide, by decide⟩
        · exact ⟨16, by decide, by decide, by decide⟩
        · exact ⟨4, by decide, by decide, by decide⟩
        · exact ⟨2, by decide, by decide, by decide⟩
        · omega
      obtain ⟨B', g1, g2, g3⟩ := hB
      by_cases hz : y / 2 ^ w = 0
      · rw [if_pos hz]
        refine ⟨_, rfl, ⟨w / 2, k, B', rfl, rfl, g1, ?_, by omega, h6⟩, by simp only []; omega⟩
        have := (Nat.div_eq_zero_iff_lt (Nat.two_pow_pos w)).1 hz
        exact Nat.lt_of_lt_of_le this g3
      · rw [if_neg hz]
        refine ⟨_, rfl, ⟨w / 2, k + w, B', rfl, by simp only []; omega, g1, ?_, by omega, ?_⟩, by simp only []; omega⟩
        · rw [← g2] at h4; exact (Nat.div_lt_iff_lt_mul (Nat.two_pow_pos w)).2 h4
        · rw [h6, blen_add hz]; simp only []; omega
    · right
      obtain rfl : w = 0 := by omega
      rw [if_neg (by omega)]
      simp only [List.mem_cons, List.not_mem_nil, or_false, Prod.mk.injEq] at h3
      refine ⟨_, rfl, k, rfl, by omega, by simp only []; omega, h6⟩
  · rintro ⟨y, c⟩ ⟨k, h1, h2, h3, h4⟩
    simp only at h1 h3 h4
    subst h1
    rw [h4, w64 (by simp only []; omega) (by simp only []; omega)]
    have : blen y = y := by
      have : y = 0 ∨ y = 1 := by omega
      rcases this with rfl | rfl
      · rw [blen_zero]
      · exact blen_eq (k := 0) (by decide) (by decide)
    rw [this]; simp
theorem bp_two (k : Nat) : bp k = 2 ^ (32 * k) := by unfold bp; rw [Nat.pow_mul]
theorem toL_last {v : Nat} (h : toL v ≠ []) : ∃ p x, toL v = p ++ [x] ∧ x ≠ 0 ∧ x < 4294967296 ∧ Wd p := by
  have hw := Wd_toL v
  rcases List.eq_nil_or_concat (toL v) with h0 | ⟨p, x, h1⟩
  · exact absurd h0 h
  · rw [List.concat_eq_append] at h1
    refine ⟨p, x, h1, ?_, ?_, ?_⟩
    · rintro rfl
      have h2 := trimZ_toL v
      rw [h1, trimZ_snoc0] at h2
      have := trimZ_length p
      rw [h2] at this; simp at this; omega
    · rw [h1] at hw; exact (Wd_cons.1 (Wd_append.1 hw).2).1
    · rw [h1] at hw; exact (Wd_append.1 hw).1
theorem blen_snoc {p : List Nat} {x : Nat} (hp : Wd p) (hx : x ≠ 0) : blen (val (p ++ [x])) = 32 * p.length + blen x := by
  have hl := val_lt hp
  have hd : val (p ++ [x]) / 2 ^ (32 * p.length) = x := by
    rw [← bp_two, val_snoc, Nat.add_mul_div_left _ _ (bp_pos _), Nat.div_eq_of_lt hl, Nat.zero_add]
  rw [blen_add (w := 32 * p.length) (by rw [hd]; exact hx), hd, Nat.add_comm]
theorem m_twos_Len_eq {n : Nat} {a : List Nat} (hn : big ≤ n) (ha : a.length < 17592186044416) (hw : Wd a) : m_twos_Len n a = some (blen (val a) : Int) := by
  unfold m_twos_Len
  rw [m_nat_Norm_eq hn (by omega), sbind, ← toL_val hw, bifd]
  have hl : (toL (val a)).length < 17592186044416 := by rw [toL_val hw]; exact Nat.lt_of_le_of_lt (trimZ_length a) ha
  by_cases h : toL (val a) = []
  · rw [if_pos (by rw [h]; rfl)]
    rw [toL_val hw] at h
    rw [trimZ_nil h, blen_zero]; rfl
  · rw [if_neg (by intro h'; exact h (List.eq_nil_of_length_eq_zero (by omega)))]
    obtain ⟨p, x, h1, h2, h3, h4⟩ := toL_last h
    have hv : val a = val (p ++ [x]) := by rw [← h1, val_toL]
    rw [hv, blen_snoc h4 h2]
    rw [hv] at h1 hl
    rw [h1] at hl
    rw [h1, List.length_append, List.length_singleton] at *
    rw [w64 (x := ((p.length + 1 : Nat) : Int) - 1) (by omega) (by omega), show ((p.length + 1 : Nat) : Int) - 1 = (p.length : Nat) by omega, get_mid' rfl, sbind, m_limb_Len_eq hn h3, sbind, sbind]
    have hb : blen x ≤ 32 := by
      rcases Nat.lt_or_ge 32 (blen x) with h | h
      · have g1 := blen_ge h2
        have g2 : 2 ^ 32 ≤ 2 ^ (blen x - 1) := Nat.pow_le_pow_right (by decide) (by omega)
        rw [show (2 : Nat) ^ 32 = 4294967296 by decide] at g2
        omega
      · exact h
    rw [w64 (x := 32 * (p.length : Int)) (by omega) (by omega), w64 (by omega) (by omega)]
    congr 1
theorem mulr_step (P M R x A B m V : Nat) (h1 : V = M + P * m) (h2 : R = m + x * A + 0) (h3 : V = A * B) : M + P * R = A * (B + P * x) := by grind
theorem m_prod_Mul_eq {n : Nat} {a b : List Nat} (hn : big ≤ n) (ha : a.length < 8796093022208) (hb : b.length < 8796093022208) (hwa : Wd a) (hwb : Wd b) : m_prod_Mul n a b = some (toL (val a * val b)) := by
  unfold m_prod_Mul
  rw [w64 (x := (a.length : Int) + (b.length : Int)) (by omega) (by omega), w64 (by omega) (by omega), show ((a.length : Int) + (b.length : Int)) + 1 = ((a.length + b.length + 1 : Nat) : Int) by omega, mkM_ok (by omega) (by omega), sbind]
  refine range_bind (fun j (s : List Nat) => ∃ m1, s = m1 ++ List.replicate (b.length + 1 - j) 0 ∧ m1.length = j + a.length ∧ j ≤ b.length ∧ Wd m1 ∧ val m1 = val a * val (b.take j)) ⟨List.replicate a.length 0, by rw [List.replicate_append_replicate]; congr 1, by simp, Nat.zero_le _, Wd_rep (by omega), by simp [val, val_rep0]⟩ ?_ ?_
  · rintro j x o hj ⟨m1, h1, h2, h3, h4, h5⟩
    subst h1
    have hjb : j < b.length := lt_of_getq hj
    have hx : b[j] = x := by simpa [hjb] using hj
    have hxw : x < 4294967296 := by rw [← hx]; exact Wd_get hwb hjb
    obtain ⟨r, g1, g2, g3, g4⟩ := m_prod_row_eq (p := m1.take j) (m := m1.drop j) (q := List.replicate (b.length - j) 0) (a := a) (z := 0) (x := x) (c := 0) (by simp; omega) (by simp; omega) (Wd_drop h4) hwa hxw (by omega)
    have hpj : (m1.take j).length = j := by simp; omega
    rw [hpj, List.take_append_drop] at g1
    rw [show b.length + 1 - j = (b.length - j) + 1 by omega, List.replicate_succ, g1, sbind]
    refine ⟨_, rfl, m1.take j ++ r, by rw [show b.length + 1 - (j + 1) = b.length - j by omega], by simp; omega, by omega, Wd_append.2 ⟨Wd_take h4, g3⟩, ?_⟩
    have hv : val m1 = val (m1.take j) + bp j * val (m1.drop j) := by
      conv => lhs; rw [← List.take_append_drop j m1]
      rw [val_append, hpj]
    rw [val_append, hpj, val_take_succ, show b.getD j 0 = x by rw [← hx]; simp [hjb]]
    exact mulr_step _ _ _ _ _ _ _ _ hv g4 h5
  · rintro o ⟨m1, h1, h2, h3, h4, h5⟩
    subst h1
    simp only [lpK_go]
    rw [m_nat_Norm_eq hn (by simp; omega), sbind, ← toL_val (Wd_append.2 ⟨h4, Wd_rep (by omega)⟩), val_append, val_rep0, Nat.mul_zero, Nat.add_zero, h5, List.take_of_length_le (Nat.le_refl _)]
end Go.Proofs.YtcmhibdigkdjiaaGreatDoor
