import Derived.Test.YtcmhibdigkdjiaaGreatDoorPlAr7
namespace Go.Proofs.YtcmhibdigkdjiaaGreatDoor
open Go Go.RowKit
/-! ### Whole numbers -/
def wv (w : M_whole_Whole) : Int := if w.Neg then -(val w.Abs : Int) else (val w.Abs : Int)
def toW (z : Int) : M_whole_Whole := ⟨decide (z < 0), toL z.natAbs⟩
theorem wv_toW (z : Int) : wv (toW z) = z := by
  unfold wv toW
  simp only [decide_eq_true_eq, val_toL]
  split <;> omega
theorem toL_len_pos {v : Nat} : 0 < (toL v).length ↔ v ≠ 0 := by
  constructor
  · rintro h rfl; rw [toL_zero] at h; simp at h
  · intro h; rw [toL_pos h]; simp
theorem m_whole_signed_eq {s : Bool} {v : Nat} : m_whole_signed s (toL v) = some (toW (if s then -(v : Int) else (v : Int))) := by
  unfold m_whole_signed toW
  rw [jn_eq]
  cases s
  · rw [bifF]; congr 2
  · rw [bifT]; congr 2
    · exact decide_eq_decide.2 (by simp only [if_true]; have := @toL_len_pos v; omega)
    · simp
/-- What whole.Norm makes. -/
def Ww (w : M_whole_Whole) : Prop := Wd w.Abs ∧ w.Abs.length < 4398046511104
theorem m_whole_Norm_eq {n : Nat} {w : M_whole_Whole} (hn : big ≤ n) (h : Ww w) : m_whole_Norm n w = some (toW (wv w)) := by
  unfold m_whole_Norm
  rw [m_nat_Norm_eq hn (by have := h.2; omega), sbind, ← toL_val h.1, m_whole_signed_eq, sbind]; rfl
theorem sgn_mul (s t : Bool) (x y : Nat) : (if (s != t) then -((x * y : Nat) : Int) else ((x * y : Nat) : Int)) = (if s then -(x : Int) else (x : Int)) * (if t then -(y : Int) else (y : Int)) := by
  cases s <;> cases t <;> simp [Int.neg_mul, Int.mul_neg]
theorem m_whole_Mul_eq {n : Nat} {w u : M_whole_Whole} (hn : big ≤ n) (hw : Ww w) (hu : Ww u) : m_whole_Mul n w u = some (toW (wv w * wv u)) := by
  unfold m_whole_Mul
  rw [m_prod_Mul_eq hn (by have := hw.2; omega) (by have := hu.2; omega) hw.1 hu.1, sbind, m_whole_signed_eq, sbind, sgn_mul]; rfl
theorem cmpI_neg {x y : Nat} : cmpI x y < 0 ↔ x < y := by
  by_cases h : x < y
  · simp [cmpI, h]
  · rw [cmpI, if_neg h]; split <;> omega
theorem m_whole_Add_eq {n : Nat} {w u : M_whole_Whole} (hn : big ≤ n) (hw : Ww w) (hu : Ww u) : m_whole_Add n w u = some (toW (wv w + wv u)) := by
  unfold m_whole_Add
  have l1 := hw.2
  have l2 := hu.2
  rw [m_nat_Add_eq hn (by omega) (by omega) hw.1 hu.1, sbind, m_whole_signed_eq, sbind, m_nat_Gap_eq hn (by omega) (by omega) hw.1 hu.1, sbind, bifd, m_whole_signed_eq, sbind, m_whole_signed_eq, sbind]
  unfold wv
  rcases w with ⟨s, a⟩
  rcases u with ⟨t, b⟩
  simp only []
  generalize val a = x
  generalize val b = y
  have hc := @cmpI_neg x y
  cases s <;> cases t <;> simp only [beq_self_eq_true, bifT, bifF, Bool.false_eq_true, if_true, if_false, show (false == true) = false by rfl, show (true == false) = false by rfl, hc]
  · congr 2
  · split <;> congr 2 <;> omega
  · split <;> congr 2 <;> omega
  · congr 2; omega
theorem m_whole_Neg_eq {n : Nat} {w : M_whole_Whole} (hn : big ≤ n) (h : Ww w) : m_whole_Neg n w = some (toW (-wv w)) := by
  unfold m_whole_Neg
  rw [m_nat_Norm_eq hn (by have := h.2; omega), sbind, ← toL_val h.1, m_whole_signed_eq, sbind]
  unfold wv
  cases w.Neg <;> simp
theorem toW_neg (z : Int) : (toW (-z)).Abs = (toW z).Abs := by unfold toW; simp
theorem toW_Wd (z : Int) : Wd (toW z).Abs := Wd_toL _
theorem m_whole_Sign_eq {n : Nat} {w : M_whole_Whole} (hn : big ≤ n) (h : Ww w) : m_whole_Sign n w = some (Int.sign (wv w)) := by
  unfold m_whole_Sign wv
  rw [m_nat_Zero_eq hn (by have := h.2; omega) h.1, sbind, bifd]
  by_cases h0 : val w.Abs = 0
  · rw [if_pos h0, h0]; cases w.Neg <;> rfl
  · rw [if_neg h0]
    cases w.Neg
    · rw [bifF, if_neg (by decide), Int.sign_eq_one_of_pos (by omega)]
    · rw [bifT, if_pos rfl, Int.sign_eq_neg_one_of_neg (by omega)]
theorem natAbs_wv (w : M_whole_Whole) : (wv w).natAbs = val w.Abs := by unfold wv; split <;> omega
theorem Ww_neg {w : M_whole_Whole} (h : Ww w) : Ww (toW (-wv w)) := by
  refine ⟨toW_Wd _, ?_⟩
  rw [toW_neg]
  show (toL (wv w).natAbs).length < _
  rw [natAbs_wv]
  exact Nat.lt_of_le_of_lt (toL_len_le h.1) h.2
theorem m_whole_Sub_eq {n : Nat} {w u : M_whole_Whole} (hn : big ≤ n) (hw : Ww w) (hu : Ww u) : m_whole_Sub n w u = some (toW (wv w - wv u)) := by
  unfold m_whole_Sub
  rw [m_whole_Neg_eq hn hu, sbind, m_whole_Add_eq hn hw (Ww_neg hu), sbind, wv_toW, Int.sub_eq_add_neg]
theorem m_whole_Cmp_eq {n : Nat} {w u : M_whole_Whole} (hn : big ≤ n) (hw : Ww w) (hu : Ww u) (h : Ww (toW (wv w - wv u))) : m_whole_Cmp n w u = some (Int.sign (wv w - wv u)) := by
  unfold m_whole_Cmp
  rw [m_whole_Sub_eq hn hw hu, sbind, m_whole_Sign_eq hn h, sbind, wv_toW]
end Go.Proofs.YtcmhibdigkdjiaaGreatDoor
