import Derived.Test.YtcmhibdigkdjiaaGreatDoorPlAr2
namespace Go.Proofs.YtcmhibdigkdjiaaGreatDoor
open Go Go.RowKit
/-! ### Shifts -/
theorem lo_eq {x r : Nat} (hr : r ≤ 32) : (x * 2 ^ r) % 4294967296 = (x % 2 ^ (32 - r)) * 2 ^ r := by
  rw [show (4294967296 : Nat) = 2 ^ (32 - r) * 2 ^ r by rw [← Nat.pow_add, show 32 - r + r = 32 by omega], Nat.mul_mod_mul_right]
theorem or_lo {c x r : Nat} (hr : r ≤ 32) (hc : c < 2 ^ r) : c ||| (x * 2 ^ r) % 4294967296 = c + (x * 2 ^ r) % 4294967296 := by
  rw [lo_eq hr, Nat.or_comm, Nat.mul_comm, ← Nat.two_pow_add_eq_or_of_lt hc, Nat.add_comm]
theorem hi_lt {x r : Nat} (hx : x < 4294967296) : (x * 2 ^ r) / 4294967296 < 2 ^ r :=
  Nat.div_lt_of_lt_mul (Nat.mul_lt_mul_of_pos_right hx (Nat.two_pow_pos r))
theorem pow_le32 {r : Nat} (hr : r ≤ 32) : 2 ^ r ≤ 4294967296 := by have h : 2 ^ r ≤ 2 ^ 32 := Nat.pow_le_pow_right (by decide) hr; rwa [show (2 : Nat) ^ 32 = 4294967296 by rfl] at h
theorem sh_lt {x r : Nat} (hr : r ≤ 32) (hx : x < 4294967296) : x * 2 ^ r < 18446744073709551616 := by
  have h := pow_le32 hr
  have : x * 2 ^ r ≤ 4294967295 * 4294967296 := Nat.mul_le_mul (by omega) h
  omega
theorem up_step (P c V A R x lo hi : Nat) (e : 4294967296 * hi + lo = x * R) (h : V + P * c = A * R) : V + P * (c + lo) + P * 4294967296 * hi = (A + P * x) * R := by grind
theorem m_twos_Up_eq {n k : Nat} {a : List Nat} (hn : big ≤ n) (ha : a.length < 8796093022208) (hw : Wd a) (hk : k ≤ 4096) : m_twos_Up n a (k : Int) = some (toL (val a * 2 ^ k)) := by
  unfold m_twos_Up
  rw [show min (max (k : Int) 0) 4096 = (k : Int) by omega]
  rw [show Int.tdiv (k : Int) 32 = ((k / 32 : Nat) : Int) by rfl, show Int.tmod (k : Int) 32 = ((k % 32 : Nat) : Int) by rfl]
  have hp : 2 ^ k = bp (k / 32) * 2 ^ (k % 32) := by rw [bp_two, ← Nat.pow_add, Nat.div_add_mod]
  have hwk : k / 32 ≤ 128 := by omega
  have hr : k % 32 ≤ 31 := by omega
  rw [hp]
  generalize k / 32 = w at *
  generalize k % 32 = r at *
  rw [w64 (x := (w : Int)) (by omega) (by omega), sbind, w64 (x := (w : Int) + (a.length : Int)) (by omega) (by omega), w64 (by omega) (by omega), show (w : Int) + (a.length : Int) + 1 = ((w + a.length + 1 : Nat) : Int) by omega, mkM_ok (by omega) (by omega), sbind]
  refine range_bind (fun j (s : List Nat) => ∃ m1 c, s = (List.replicate w 0 ++ m1) ++ c :: List.replicate (a.length - j) 0 ∧ m1.length = j ∧ j ≤ a.length ∧ Wd m1 ∧ c < 2 ^ r ∧ val m1 + bp j * c = val (a.take j) * 2 ^ r) ⟨[], 0, by rw [List.append_nil, ← List.replicate_succ, List.replicate_append_replicate]; congr 1, rfl, Nat.zero_le _, Wd_nil, Nat.two_pow_pos r, by simp [val]⟩ ?_ ?_
  · rintro j x s hj ⟨m1, c, h1, h2, h3, h4, h5, h6⟩
    subst h1
    have hja : j < a.length := lt_of_getq hj
    have hx : a[j] = x := by simpa [hja] using hj
    have hxw : x < 4294967296 := by rw [← hx]; exact Wd_get hw hja
    have hlen : (List.replicate w 0 ++ m1).length = w + j := by simp; omega
    have g1 := sh_lt (r := r) (by omega) hxw
    have g2 := hi_lt (r := r) hxw
    have g3 := pow_le32 (r := r) (by omega)
    have g4 := or_lo (x := x) (show r ≤ 32 by omega) h5
    rw [grd_t (by simp), sbind, Int.toNat_natCast, Nat.min_eq_left (by omega), Nat.mod_eq_of_lt g1, sbind, w64 (x := (w : Int) + (j : Int)) (by omega) (by omega), sbind, show (w : Int) + (j : Int) = ((w + j : Nat) : Int) by omega]
    rw [get_mid' hlen, sbind, sbind, sbind, set_mid' hlen, g4, show (2 : Nat) ^ 32 = 4294967296 by rfl, Nat.mod_eq_of_lt (show x * 2 ^ r / 4294967296 < 4294967296 by omega)]
    obtain ⟨d, hd⟩ : ∃ d, a.length - j = d + 1 := ⟨a.length - j - 1, by omega⟩
    rw [w64 (by omega) (by omega), show ((w + j : Nat) : Int) + 1 = ((w + j + 1 : Nat) : Int) by omega, hd, List.replicate_succ]
    rw [show ∀ (y : Nat) (l : List Nat), List.replicate w 0 ++ m1 ++ y :: l = (List.replicate w 0 ++ (m1 ++ [y])) ++ l by intro y l; simp]
    have hlen2 : (List.replicate w 0 ++ (m1 ++ [c + x * 2 ^ r % 4294967296])).length = w + j + 1 := by simp; omega
    rw [get_mid' hlen2, sbind, set_mid' hlen2, sbind]
    refine ⟨_, rfl, m1 ++ [c + x * 2 ^ r % 4294967296], x * 2 ^ r / 4294967296, by rw [show a.length - (j + 1) = d by omega], by simp [h2], by omega, Wd_append.2 ⟨h4, Wd_cons.2 ⟨?_, Wd_nil⟩⟩, g2, ?_⟩
    · rw [lo_eq (by omega)]
      have e1 : x % 2 ^ (32 - r) + 1 ≤ 2 ^ (32 - r) := Nat.mod_lt _ (Nat.two_pow_pos _)
      have e2 := Nat.mul_le_mul_right (2 ^ r) e1
      rw [← Nat.pow_add, show 32 - r + r = 32 by omega, show (2 : Nat) ^ 32 = 4294967296 by rfl, Nat.add_mul, Nat.one_mul] at e2
      omega
    · rw [val_take_succ, val_snoc, h2, bp_succ, show a.getD j 0 = x by rw [← hx]; simp [hja]]
      exact up_step _ _ _ _ _ _ _ _ (Nat.div_add_mod (x * 2 ^ r) 4294967296) h6
  · rintro s ⟨m1, c, h1, h2, h3, h4, h5, h6⟩
    subst h1
    simp only [lpK_go]
    have g3 := pow_le32 (r := r) (by omega)
    rw [m_nat_Norm_eq hn (by simp; omega), sbind, ← toL_val (Wd_append.2 ⟨Wd_append.2 ⟨Wd_rep (by omega), h4⟩, Wd_cons.2 ⟨by omega, Wd_rep (by omega)⟩⟩)]
    rw [List.append_assoc, val_append, val_rep0, List.length_replicate, Nat.zero_add, val_append]
    simp only [val]
    rw [val_rep0, h2, Nat.mul_zero, Nat.add_zero, h6, List.take_of_length_le (Nat.le_refl _), Nat.mul_left_comm]
theorem val_dropd {a : List Nat} (hw : Wd a) (k : Nat) : val a / bp k = val (a.drop k) := by
  rcases Nat.lt_or_ge k a.length with h | h
  · have h1 : val a = val (a.take k) + bp k * val (a.drop k) := by
      conv => lhs; rw [← List.take_append_drop k a]
      rw [val_append, List.length_take, Nat.min_eq_left (by omega)]
    have h2 := val_lt (Wd_take (k := k) hw)
    rw [List.length_take, Nat.min_eq_left (by omega)] at h2
    rw [h1, Nat.add_mul_div_left _ _ (bp_pos k), Nat.div_eq_of_lt h2, Nat.zero_add]
  · rw [List.drop_of_length_le h]
    exact Nat.div_eq_of_lt (Nat.lt_of_lt_of_le (val_lt hw) (bp_le h))
theorem val_drop2 {a : List Nat} {k : Nat} (h : k < a.length) : val (a.drop k) = a[k] + 4294967296 * (a.getD (k + 1) 0 + 4294967296 * val (a.drop (k + 2))) := by
  rw [List.drop_eq_getElem_cons h]
  simp only [val]
  by_cases h2 : k + 1 < a.length
  · rw [List.drop_eq_getElem_cons h2]; simp [val, h2]
  · rw [List.drop_of_length_le (by omega), List.drop_of_length_le (by omega)]; simp [List.getElem?_eq_none (show a.length ≤ k + 1 by omega), val]
theorem mid_bits {v z r : Nat} (hr : r ≤ 32) : ((v + 4294967296 * 4294967296 * z) / 2 ^ r) % 4294967296 = (v / 2 ^ r) % 4294967296 := by
  rw [show 4294967296 * 4294967296 * z = 2 ^ r * (4294967296 * (2 ^ (32 - r) * z)) by
    have : 2 ^ r * 2 ^ (32 - r) = 4294967296 := by rw [← Nat.pow_add, show r + (32 - r) = 32 by omega]
    calc 4294967296 * 4294967296 * z = (2 ^ r * 2 ^ (32 - r)) * 4294967296 * z := by rw [this]
      _ = _ := by grind]
  rw [Nat.add_mul_div_left _ _ (Nat.two_pow_pos r), Nat.add_mul_mod_self_left]
theorem get_bif2 {k : Nat} {b : List Nat} {x : Nat} {β : Type} (f : Nat → Option β) (hb : Wd b) (hx : x < 4294967296) : (if ((k : Nat) : Int) < (b.length : Int) then (getI b (k : Int)).bind (fun y => f (x ||| (y * 2 ^ 32) % 18446744073709551616)) else f x) = f (x + 4294967296 * b.getD k 0) := by
  by_cases h : k < b.length
  · rw [if_pos (by omega), getI_get h, sbind]
    have hy := Wd_get hb h
    rw [show (2 : Nat) ^ 32 = 4294967296 by rfl, Nat.mod_eq_of_lt (by omega), Nat.or_comm, or_word hx, Nat.mul_comm, Nat.add_comm]
    simp [h]
  · rw [if_neg (by omega)]; simp [List.getElem?_eq_none (show b.length ≤ k by omega)]
theorem mod_step (X P : Nat) : X % P + P * (X / P % 4294967296) = X % (P * 4294967296) := by
  rw [Nat.mod_mul]
theorem m_twos_Down_eq {n k : Nat} {a : List Nat} (hn : big ≤ n) (ha : a.length < 8796093022208) (hw : Wd a) (hk : k ≤ 4611686018427387904) : m_twos_Down n a (k : Int) = some (toL (val a / 2 ^ k)) := by
  unfold m_twos_Down
  rw [show max (k : Int) 0 = (k : Int) by omega]
  rw [show Int.tdiv (k : Int) 32 = ((k / 32 : Nat) : Int) by rfl, show Int.tmod (k : Int) 32 = ((k % 32 : Nat) : Int) by rfl]
  have hp : 2 ^ k = bp (k / 32) * 2 ^ (k % 32) := by rw [bp_two, ← Nat.pow_add, Nat.div_add_mod]
  have hr : k % 32 ≤ 31 := by omega
  have hwk : k / 32 ≤ 4611686018427387904 := by omega
  rw [hp]
  generalize k / 32 = w at *
  generalize k % 32 = r at *
  rw [← Nat.div_div_eq_div_mul, val_dropd hw]
  rw [w64 (x := (w : Int)) (by omega) (by omega), sbind, bifd]
  by_cases hle : a.length ≤ w
  · rw [if_pos (by omega), List.drop_of_length_le hle]; simp [val, toL_zero]
  · rw [if_neg (by omega), w64 (x := (a.length : Int) - (w : Int)) (by omega) (by omega), sbind, show (a.length : Int) - (w : Int) = ((a.length - w : Nat) : Int) by omega, mkM_ok (by omega) (by omega), sbind]
    refine range_bind (fun j (s : List Nat) => ∃ m1, s = m1 ++ List.replicate (a.length - w - j) 0 ∧ m1.length = j ∧ Wd m1 ∧ val m1 = (val (a.drop w) / 2 ^ r) % bp j) ⟨[], by simp, rfl, Wd_nil, by simp [val, bp_zero, Nat.mod_one]⟩ ?_ ?_
    · rintro j x s hj ⟨m1, h1, h2, h3, h4⟩
      subst h1
      have hja : j < a.length - w := by have := lt_of_getq hj; simpa using this
      have hwj : w + j < a.length := by omega
      simp only [jn_eq, bifd]
      rw [w64 (x := (w : Int) + (j : Int)) (by omega) (by omega), show (w : Int) + (j : Int) = ((w + j : Nat) : Int) by omega, sbind, getI_get hwj, sbind, sbind, w64 (x := ((w + j : Nat) : Int) + 1) (by omega) (by omega), show ((w + j : Nat) : Int) + 1 = ((w + j + 1 : Nat) : Int) by omega]
      simp only [sbind]
      rw [w64 (x := ((w + j : Nat) : Int) + 1) (by omega) (by omega), show ((w + j : Nat) : Int) + 1 = ((w + j + 1 : Nat) : Int) by omega]
      rw [get_bif2 (β := Lp (List Nat) (List Nat)) (fun (v : Nat) => (grd (decide (0 ≤ (r : Int)))).bind fun _ => (getI (m1 ++ List.replicate (a.length - w - j) 0) (j : Int)).bind fun _ => some (Lp.go (List.set (m1 ++ List.replicate (a.length - w - j) 0) (Int.toNat (j : Int)) (v / 2 ^ (min (Int.toNat (r : Int)) 64) % 4294967296)))) hw (Wd_get hw hwj)]
      rw [grd_t (by simp), sbind, Int.toNat_natCast (n := r), Nat.min_eq_left (by omega)]
      obtain ⟨d, hd⟩ : ∃ d, a.length - w - j = d + 1 := ⟨a.length - w - j - 1, by omega⟩
      rw [hd, List.replicate_succ, get_mid' h2, sbind, set_mid' h2]
      refine ⟨_, rfl, m1 ++ [(a[w + j] + 4294967296 * a.getD (w + j + 1) 0) / 2 ^ r % 4294967296], by rw [show a.length - w - (j + 1) = d by omega]; simp, by simp [h2], Wd_append.2 ⟨h3, Wd_cons.2 ⟨by omega, Wd_nil⟩⟩, ?_⟩
      rw [val_snoc, h2, bp_succ, ← mod_step, h4, Nat.div_div_eq_div_mul (val (a.drop w)), Nat.mul_comm (2 ^ r) (bp j), ← Nat.div_div_eq_div_mul (val (a.drop w)), val_dropd (Wd_drop hw), List.drop_drop, val_drop2 hwj, Nat.mul_add, ← Nat.add_assoc, ← Nat.mul_assoc, mid_bits (by omega)]
    · rintro s ⟨m1, h1, h2, h3, h4⟩
      subst h1
      simp only [lpK_go]
      rw [List.length_replicate] at h2 h4
      rw [List.length_replicate, Nat.sub_self, List.replicate_zero, List.append_nil, m_nat_Norm_eq hn (by omega), sbind, ← toL_val h3, h4, Nat.mod_eq_of_lt]
      have := val_lt (Wd_drop (k := w) hw)
      rw [List.length_drop] at this
      exact Nat.lt_of_le_of_lt (Nat.div_le_self _ _) this
end Go.Proofs.YtcmhibdigkdjiaaGreatDoor
