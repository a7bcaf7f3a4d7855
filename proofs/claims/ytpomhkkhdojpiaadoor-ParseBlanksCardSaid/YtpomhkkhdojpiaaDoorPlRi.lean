import Derived.Test.YtpomhkkhdojpiaaDoorPlDig
import Derived.Test.YtpomhkkhdojpiaaDoorPlLex
namespace Go.Proofs.YtpomhkkhdojpiaaDoor
open Go Go.RowKit
/-! ### Whole numbers as texts -/
theorem dec_lt10 {u : Nat} (h : u < 10) : dec u = [UInt8.ofNat (48 + u)] := by
  by_cases h0 : u = 0
  · subst h0; rfl
  · rw [dec_ne h0, dcR_pos h0, show u / 10 = 0 by omega, dcR_zero]; unfold dg; rw [Nat.mod_eq_of_lt h]; rfl
theorem decDigits_dec (u : Nat) : Lib.decDigits u = dec u := by
  induction u using Nat.strongRecOn with
  | _ u ih =>
    rw [Lib.decDigits]
    by_cases h : u < 10
    · rw [dif_pos h, dec_lt10 h]
    · rw [dif_neg h, ih (u / 10) (by omega), ← dec_snoc (by omega) (by omega), show u / 10 * 10 + u % 10 = u by omega]
theorem itoa_dec (k : Nat) : Lib.itoa (k : Int) = dec k := by
  unfold Lib.itoa; rw [if_neg (by omega), decDigits_dec]; simp
theorem itoa_negd {x : Int} (h : x < 0) : Lib.itoa x = 45 :: dec x.natAbs := by
  unfold Lib.itoa; rw [if_pos h, decDigits_dec]
def b64 (x : Int) : Prop := -9223372036854775808 ≤ x ∧ x ≤ 9223372036854775807
theorem dec_len20 {k : Nat} (h : k < 18446744073709551616) : (dec k).length ≤ 21 := by
  have h1 := dcR_bp (n := k) (k := 2) (by rw [bp_succ, bp_succ, bp_zero]; omega)
  have h2 := dec_length k
  omega
theorem m_ref02_Of_eq {n x : Nat} (hn : big ≤ n) (hx : x < 18446744073709551616) : m_retrospectref02_Of n x = some (toL x) := by
  unfold m_retrospectref02_Of
  have hw : Wd [x % 4294967296 % 4294967296, x / 4294967296 % 4294967296] := Wd_cons.2 ⟨by omega, Wd_cons.2 ⟨by omega, Wd_nil⟩⟩
  have hv : val [x % 4294967296 % 4294967296, x / 4294967296 % 4294967296] = x := by simp only [val]; omega
  rw [sbind, m_ref02_Norm_eq hn (by simp), sbind, ← toL_val hw, hv]
theorem m_ref06_One_one : m_retrospectref06_One [1] = some true := by
  unfold m_retrospectref06_One; simp only [jn_eq]; rfl
theorem trimZ_one : trimZ [1] = [1] := by decide
theorem toL_len_le64 {k : Nat} (h : k < 18446744073709551616) : (toL k).length ≤ 2 := toL_length (by rw [bp_succ, bp_succ, bp_zero]; omega)
theorem m_ref09_Norm_int {n k : Nat} {neg : Bool} (hn : big ≤ n) (hk : k < 18446744073709551616) : m_retrospectref09_Norm n ⟨neg, toL k, [1]⟩ = some (if k = 0 then ⟨false, [], [1]⟩ else ⟨neg, toL k, [1]⟩) := by
  have hl := toL_len_le64 hk
  unfold m_retrospectref09_Norm
  simp only []
  rw [m_ref02_Norm_eq hn (by simp), sbind, m_ref02_Norm_eq hn (by omega), sbind, trimZ_one, trimZ_toL]
  simp only [jn_eq, bifd]
  rw [if_neg (show ¬ (([1] : List Nat).length : Int) = 0 by decide)]
  by_cases h : k = 0
  · subst h; rw [toL_zero, if_pos rfl]; rfl
  · have : (toL k).length ≠ 0 := fun g => by rw [toL_pos h] at g; simp at g
    rw [if_neg h, if_neg (show ¬ ((toL k).length : Int) = 0 by omega), m_ref06_One_one, sbind, Bool.not_true, bifF]
theorem neg_word {x : Int} (h1 : -9223372036854775808 ≤ x) (h2 : x < 0) : Int.toNat (wrap64 (-(wrap64 (x + 1))) % 18446744073709551616) = x.natAbs - 1 := by
  rw [w64 (x := x + 1) (by omega) (by omega), w64 (by omega) (by omega)]; omega
theorem m_ref09_Int_eq {n : Nat} {x : Int} (hn : big ≤ n) (hx : b64 x) : m_retrospectref09_Int n x = some ⟨decide (x < 0), toL x.natAbs, [1]⟩ := by
  unfold b64 at hx
  unfold m_retrospectref09_Int
  rw [bifd]
  by_cases h : x < 0
  · have hl := toL_len_le64 (k := x.natAbs - 1) (by omega)
    rw [if_pos h, sbind, neg_word hx.1 h, m_ref02_Of_eq hn (by omega), sbind, m_ref02_Add_eq hn (by omega) (by simp) (Wd_toL _) (Wd_cons.2 ⟨by decide, Wd_nil⟩), sbind, val_toL, show x.natAbs - 1 + val [1] = x.natAbs by simp only [val]; omega,
      m_ref09_Norm_int hn (by omega), sbind, if_neg (by omega), decide_eq_true h]
  · rw [if_neg h, show Int.toNat (x % 18446744073709551616) = x.natAbs by omega, m_ref02_Of_eq hn (by omega), sbind, m_ref09_Norm_int hn (by omega), sbind, decide_eq_false h]
    by_cases h0 : x.natAbs = 0
    · rw [if_pos h0, h0, toL_zero]
    · rw [if_neg h0]
theorem m_ref08_Sign_eq {n k : Nat} {neg : Bool} (hn : big ≤ n) (hk : k < 18446744073709551616) : m_retrospectref08_Sign n ⟨neg, toL k⟩ = some (if k = 0 then 0 else if neg then -1 else 1) := by
  have hl := toL_len_le64 hk
  unfold m_retrospectref08_Sign m_retrospectref08_Norm
  simp only []
  rw [m_ref02_Norm_eq hn (by omega), sbind, trimZ_toL]
  simp only [jn_eq]
  by_cases h : k = 0
  · subst h; rw [toL_zero, if_pos rfl]; cases neg <;> rfl
  · have : (toL k).length ≠ 0 := fun g => by rw [toL_pos h] at g; simp at g
    rw [if_neg h]
    cases neg
    · simp only [bifF, sbind, bifd]; rw [if_neg (by omega)]; rfl
    · simp only [bifT, sbind, bifd]; rw [if_neg (by omega), if_pos (show 0 < ((toL k).length : Int) by omega)]; simp
theorem m_ref08_Text_eq {n k : Nat} {neg : Bool} (hn : big ≤ n) (hk : k < 18446744073709551616) : m_retrospectref08_Text n ⟨neg, toL k⟩ = some (if neg = true ∧ k ≠ 0 then 45 :: dec k else dec k) := by
  have hl := toL_len_le64 hk
  have hd := dec_len20 hk
  unfold m_retrospectref08_Text
  simp only []
  rw [m_ref07_Text_eq hn (by omega) (Wd_toL _), sbind, val_toL, jn_eq, m_ref08_Sign_eq hn hk, sbind]
  by_cases h : k = 0
  · rw [if_pos h, if_neg (show ¬ (neg = true ∧ k ≠ 0) from fun g => g.2 h)]; rfl
  · rw [if_neg h]
    cases neg
    · rw [if_neg (show ¬ (false = true ∧ k ≠ 0) from fun g => by cases g.1)]; rfl
    · rw [if_pos (show true = true ∧ k ≠ 0 from ⟨rfl, h⟩), if_pos (show true = true from rfl), decide_eq_true (by decide), bifT, catS_ok (by simp; omega), sbind]; rfl
theorem m_ref20_Int_eq {n : Nat} {x : Int} (hn : big ≤ n) (hx : b64 x) : m_retrospectref20_Int n x = some (Lib.itoa x) := by
  unfold m_retrospectref20_Int
  rw [m_ref09_Int_eq hn hx, sbind]
  unfold m_retrospectref09_Up
  unfold b64 at hx
  rw [sbind, m_ref08_Text_eq hn (by omega), sbind]
  by_cases h : x < 0
  · rw [decide_eq_true h, if_pos ⟨rfl, by omega⟩, itoa_negd h]
  · rw [decide_eq_false h, if_neg fun g => by cases g.1]
    obtain ⟨k, rfl⟩ : ∃ k : Nat, x = k := ⟨x.toNat, by omega⟩
    rw [itoa_dec]; simp
end Go.Proofs.YtpomhkkhdojpiaaDoor
