import Derived.Test.YtcmhibdigkdjiaaGreatDoorPlNat
namespace Go.Proofs.YtcmhibdigkdjiaaGreatDoor
open Go Go.RowKit
/-! ### Small numbers -/
theorem toL_small {v : Nat} (h : v < 18446744073709551616) : toL v = [] ∨ (∃ x, toL v = [x] ∧ x = v) ∨ (∃ x y, toL v = [x, y] ∧ x < 4294967296 ∧ y < 4294967296 ∧ x + 4294967296 * y = v) := by
  have hl := toL_length (n := v) (k := 2) (by rw [bp_succ, bp_succ, bp_zero]; omega)
  have hv := val_toL v
  have hw := Wd_toL v
  match hm : toL v, hl with
  | [], _ => exact .inl rfl
  | [x], _ => rw [hm] at hv; simp [val] at hv; exact .inr (.inl ⟨x, rfl, hv⟩)
  | [x, y], _ =>
    rw [hm] at hv hw; simp [val] at hv
    exact .inr (.inr ⟨x, y, rfl, (Wd_cons.1 hw).1, (Wd_cons.1 (Wd_cons.1 hw).2).1, by omega⟩)
  | _ :: _ :: _ :: _, h => simp at h
theorem toL_big {v : Nat} (h : 18446744073709551616 ≤ v) : 2 < (toL v).length := by
  rcases Nat.lt_or_ge 2 (toL v).length with h1 | h1
  · exact h1
  · have h2 := val_lt (Wd_toL v)
    rw [val_toL] at h2
    have h3 := bp_le h1
    rw [bp_succ, bp_succ, bp_zero] at h3
    omega
theorem m_nat_Small_eq {n : Nat} {a : List Nat} (hn : big ≤ n) (ha : a.length ≤ 4611686018427387904) (hw : Wd a) : m_nat_Small n a = some (if val a < 18446744073709551616 then (val a, true) else (0, false)) := by
  unfold m_nat_Small
  rw [m_nat_trim_eq hn ha, sbind, ← toL_val hw, bifd]
  by_cases h : val a < 18446744073709551616
  · rw [if_pos h]
    rcases toL_small h with h1 | ⟨x, h1, h2⟩ | ⟨x, y, h1, h2, h3, h4⟩
    · have := val_toL (val a)
      rw [h1] at this ⊢
      rw [if_neg (by decide)]
      simp only [val] at this
      simp only [rangeL, sbind, lpK_go, ← this]
    · rw [h1, if_neg (by simp)]
      simp only [rangeL]
      rw [w64 (by omega) (by omega), grd_t (by decide), sbind, sbind, sbind, sbind]
      simp only [lpK_go]
      subst h2
      simp
      omega
    · rw [h1, if_neg (by simp)]
      simp only [rangeL]
      rw [w64 (x := 32 * ((0 : Nat) : Int)) (by omega) (by omega), grd_t (by decide), sbind, sbind, sbind, w64 (by omega) (by omega), grd_t (by decide)]
      simp only [sbind, lpK_go]
      rw [show (2 : Nat) ^ min (Int.toNat (32 * ((0 : Nat) : Int))) 64 = 1 by rfl, show (2 : Nat) ^ min (Int.toNat (32 * ((0 + 1 : Nat) : Int))) 64 = 4294967296 by rfl, Nat.mul_one, Nat.mod_eq_of_lt (show x < 18446744073709551616 by omega), Nat.mod_eq_of_lt (show y * 4294967296 < 18446744073709551616 by omega), Nat.zero_or, Nat.or_comm, or_word h2]
      congr 2; omega
  · rw [if_neg h]
    have := toL_big (v := val a) (by omega)
    rw [if_pos (by omega)]
end Go.Proofs.YtcmhibdigkdjiaaGreatDoor
