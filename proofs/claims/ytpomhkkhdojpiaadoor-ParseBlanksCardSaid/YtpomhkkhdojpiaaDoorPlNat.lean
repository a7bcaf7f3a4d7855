import Derived.Test.YtpomhkkhdojpiaaDoorPl0
import Derived.Test.YtpomhkkhdojpiaaDoorMod
namespace Go.Proofs.YtpomhkkhdojpiaaDoor
open Go Go.RowKit
/-! ### Naturals as lists of words -/
def val : List Nat → Nat
  | [] => 0
  | x :: a => x + 4294967296 * val a
def bp (k : Nat) : Nat := 4294967296 ^ k
theorem bp_zero : bp 0 = 1 := by unfold bp; rw [Nat.pow_zero]
theorem bp_succ (k : Nat) : bp (k + 1) = bp k * 4294967296 := by unfold bp; rw [Nat.pow_succ]
theorem bp_le {j k : Nat} (h : j ≤ k) : bp j ≤ bp k := by unfold bp; exact Nat.pow_le_pow_right (by decide) h
theorem bp_pos (k : Nat) : 0 < bp k := by unfold bp; exact Nat.pow_pos (by decide)
theorem bp_add (j k : Nat) : bp (j + k) = bp j * bp k := by unfold bp; rw [Nat.pow_add]
def Wd (a : List Nat) : Prop := ∀ x ∈ a, x < 4294967296
def trimZ : List Nat → List Nat
  | [] => []
  | x :: a => if trimZ a = [] ∧ x = 0 then [] else x :: trimZ a
def toL (n : Nat) : List Nat := if n = 0 then [] else n % 4294967296 :: toL (n / 4294967296)
termination_by n
decreasing_by omega
theorem Wd_nil : Wd [] := fun _ h => by cases h
theorem Wd_cons {x a} : Wd (x :: a) ↔ x < 4294967296 ∧ Wd a := by simp [Wd]
theorem Wd_append {a b} : Wd (a ++ b) ↔ Wd a ∧ Wd b := by
  constructor
  · intro h; exact ⟨fun x hx => h x (List.mem_append_left _ hx), fun x hx => h x (List.mem_append_right _ hx)⟩
  · rintro ⟨h1, h2⟩ x hx
    rcases List.mem_append.1 hx with h | h
    · exact h1 x h
    · exact h2 x h
theorem Wd_take {a k} (h : Wd a) : Wd (a.take k) := fun x hx => h x (List.mem_of_mem_take hx)
theorem Wd_drop {a k} (h : Wd a) : Wd (a.drop k) := fun x hx => h x (List.mem_of_mem_drop hx)
theorem Wd_rep {k x} (h : x < 4294967296) : Wd (List.replicate k x) := fun y hy => by rw [(List.mem_replicate.1 hy).2]; exact h
theorem Wd_set {a k x} (h : Wd a) (hx : x < 4294967296) : Wd (a.set k x) := fun y hy => by
  rcases List.mem_or_eq_of_mem_set hy with h' | h'
  · exact h y h'
  · rw [h']; exact hx
theorem Wd_get {a : List Nat} (h : Wd a) {i : Nat} (hi : i < a.length) : a[i] < 4294967296 := h _ (List.getElem_mem hi)
theorem toL_zero : toL 0 = [] := by rw [toL]; rfl
theorem toL_pos {n : Nat} (h : n ≠ 0) : toL n = n % 4294967296 :: toL (n / 4294967296) := by rw [toL]; rw [if_neg h]
theorem val_toL (n : Nat) : val (toL n) = n := by
  induction n using Nat.strongRecOn with
  | _ n ih =>
    by_cases h : n = 0
    · subst h; rw [toL_zero]; rfl
    · rw [toL_pos h]; simp only [val]; rw [ih (n / 4294967296) (by omega)]; omega
theorem Wd_toL (n : Nat) : Wd (toL n) := by
  induction n using Nat.strongRecOn with
  | _ n ih =>
    by_cases h : n = 0
    · subst h; rw [toL_zero]; exact Wd_nil
    · rw [toL_pos h]; exact Wd_cons.2 ⟨by omega, ih (n / 4294967296) (by omega)⟩
theorem toL_val {a : List Nat} (h : Wd a) : toL (val a) = trimZ a := by
  induction a with
  | nil => simp [val, toL_zero, trimZ]
  | cons x a ih =>
    obtain ⟨hx, ha⟩ := Wd_cons.1 h
    have ih := ih ha
    simp only [val, trimZ]
    by_cases hv : val a = 0
    · rw [hv, toL_zero] at ih
      rw [← ih, hv]
      by_cases hx0 : x = 0
      · subst hx0; simp [toL_zero]
      · rw [if_neg (fun h => hx0 h.2), toL_pos (by omega)]
        rw [show (x + 4294967296 * 0) % 4294967296 = x by omega, show (x + 4294967296 * 0) / 4294967296 = 0 by omega, toL_zero]
    · have hne : trimZ a ≠ [] := by
        rw [← ih, toL_pos hv]; simp
      rw [if_neg (fun h => hne h.1), toL_pos (by omega), show (x + 4294967296 * val a) % 4294967296 = x by omega, show (x + 4294967296 * val a) / 4294967296 = val a by omega, ih]
theorem val_trimZ (a : List Nat) : val (trimZ a) = val a := by
  induction a with
  | nil => rfl
  | cons x a ih =>
    simp only [trimZ]
    split
    · rename_i h; rw [h.1] at ih; simp [val] at ih ⊢; omega
    · simp [val, ih]
theorem Wd_trimZ {a : List Nat} (h : Wd a) : Wd (trimZ a) := by rw [← toL_val h]; exact Wd_toL _
theorem trimZ_length (a : List Nat) : (trimZ a).length ≤ a.length := by
  induction a with
  | nil => simp [trimZ]
  | cons x a ih => simp only [trimZ]; split <;> simp; omega
theorem trimZ_nil {a : List Nat} (h : trimZ a = []) : val a = 0 := by rw [← val_trimZ, h]; rfl
theorem trimZ_eq_nil {a : List Nat} (h : Wd a) : trimZ a = [] ↔ val a = 0 := by
  constructor
  · exact trimZ_nil
  · intro hv; rw [← toL_val h, hv, toL_zero]
theorem trimZ_toL (n : Nat) : trimZ (toL n) = toL n := by rw [← toL_val (Wd_toL n), val_toL]
theorem trimZ_idem (a : List Nat) : trimZ (trimZ a) = trimZ a := by
  induction a with
  | nil => rfl
  | cons x a ih =>
    simp only [trimZ]
    split
    · rfl
    · rename_i h; simp only [trimZ, ih]; rw [if_neg h]
theorem toL_inj {m n : Nat} (h : toL m = toL n) : m = n := by rw [← val_toL m, h, val_toL]
theorem trimZ_snoc0 (a : List Nat) : trimZ (a ++ [0]) = trimZ a := by
  induction a with
  | nil => simp [trimZ]
  | cons x a ih => simp only [List.cons_append, trimZ, ih]
theorem trimZ_snoc (a : List Nat) {x : Nat} (h : x ≠ 0) : trimZ (a ++ [x]) = a ++ [x] := by
  induction a with
  | nil => simp [trimZ, h]
  | cons y a ih => simp only [List.cons_append, trimZ, ih]; rw [if_neg (by simp)]
theorem val_append (a b : List Nat) : val (a ++ b) = val a + bp a.length * val b := by
  induction a with
  | nil => simp [val, bp_zero]
  | cons x a ih => simp only [List.cons_append, val, ih, List.length_cons, bp_succ]; rw [Nat.mul_add, ← Nat.mul_assoc, Nat.mul_comm 4294967296 (bp a.length)]; omega
theorem val_lt {a : List Nat} (h : Wd a) : val a < bp a.length := by
  induction a with
  | nil => simp [val, bp_zero]
  | cons x a ih =>
    obtain ⟨hx, ha⟩ := Wd_cons.1 h
    have := ih ha
    simp only [val, List.length_cons, bp_succ]; omega
theorem val_rep0 (k : Nat) : val (List.replicate k 0) = 0 := by
  induction k with
  | zero => rfl
  | succ k ih => simp [List.replicate_succ, val, ih]
theorem toL_length {n k : Nat} (h : n < bp k) : (toL n).length ≤ k := by
  induction k generalizing n with
  | zero => rw [bp_zero] at h; obtain rfl : n = 0 := by omega
            simp [toL_zero]
  | succ k ih =>
    by_cases h0 : n = 0
    · subst h0; simp [toL_zero]
    · rw [toL_pos h0, List.length_cons]
      have := @ih (n / 4294967296) (by rw [bp_succ] at h; exact Nat.div_lt_of_lt_mul (by rw [Nat.mul_comm]; exact h))
      omega
theorem take_succ_get {α : Type} {a : List α} {k : Nat} (h : k < a.length) : a.take (k + 1) = a.take k ++ [a[k]] := by simp []
theorem m_nat_trim_eq {n : Nat} {a : List Nat} (hn : big ≤ n) (ha : a.length ≤ 4611686018427387904) : m_nat_trim n a = some (trimZ a) := by
  unfold m_nat_trim
  unfold big at hn
  refine loop_bind (fun s => s.toNat) (fun s => ∃ k : Nat, s = k ∧ k ≤ a.length ∧ trimZ a = trimZ (a.take k)) (fun t => ∃ k : Nat, t = k ∧ k ≤ a.length ∧ trimZ a = a.take k) ⟨a.length, rfl, Nat.le_refl _, by simp⟩ (by simp; omega) ?_ ?_
  · rintro s ⟨k, rfl, hk, ht⟩
    simp only [jn_eq, bifd]
    by_cases h0 : 0 < k
    · obtain ⟨j, rfl⟩ : ∃ j, k = j + 1 := ⟨k - 1, by omega⟩
      rw [if_pos (by omega), w64 (by omega) (by omega), show ((j + 1 : Nat) : Int) - 1 = (j : Nat) by omega, getI_get (show j < a.length by omega), sbind]
      rw [take_succ_get (show j < a.length by omega)] at ht
      by_cases hz : a[j] = 0
      · left
        refine ⟨(j : Nat), by simp [hz], ⟨j, rfl, by omega, ?_⟩, by omega⟩
        rw [ht, hz, trimZ_snoc0]
      · right
        refine ⟨((j + 1 : Nat) : Int), by simp [hz], j + 1, rfl, hk, ?_⟩
        rw [ht, take_succ_get (show j < a.length by omega), trimZ_snoc _ hz]
    · right
      obtain rfl : k = 0 := by omega
      exact ⟨0, by simp, 0, rfl, Nat.zero_le _, by rw [ht]; simp [trimZ]⟩
  · rintro t ⟨k, rfl, hk, ht⟩
    rw [sub_take hk, sbind, ht]
theorem cpyL_rep {a : List Nat} {k : Nat} : cpyL (List.replicate (a.length + k) 0) a = a ++ List.replicate k 0 := by
  unfold cpyL
  rw [List.length_replicate, List.take_of_length_le (by omega), List.drop_replicate, Nat.add_sub_cancel_left]
theorem m_nat_fresh_eq {a : List Nat} {k : Nat} (h : a.length + k ≤ 35184372088832) : m_nat_fresh a (k : Int) = some (a ++ List.replicate k 0) := by
  unfold m_nat_fresh
  rw [w64 (by omega) (by omega), show ((a.length : Int) + (k : Int)) = ((a.length + k : Nat) : Int) by omega, mkM_ok (by omega) (by omega), sbind, cpyL_rep]
theorem m_nat_Norm_eq {n : Nat} {a : List Nat} (hn : big ≤ n) (ha : a.length ≤ 35184372088832) : m_nat_Norm n a = some (trimZ a) := by
  unfold m_nat_Norm
  have hl := trimZ_length a
  rw [m_nat_trim_eq hn (by omega), sbind, show (0 : Int) = ((0 : Nat) : Int) by rfl, m_nat_fresh_eq (by omega), sbind]; simp
theorem m_nat_Zero_eq {n : Nat} {a : List Nat} (hn : big ≤ n) (ha : a.length ≤ 4611686018427387904) (hw : Wd a) : m_nat_Zero n a = some (decide (val a = 0)) := by
  unfold m_nat_Zero
  rw [m_nat_trim_eq hn ha, sbind]
  congr 1
  rw [Bool.eq_iff_iff]
  simp only [decide_eq_true_eq]
  rw [← trimZ_eq_nil hw]
  constructor
  · intro h; exact List.eq_nil_of_length_eq_zero (by omega)
  · intro h; rw [h]; rfl
theorem mul_word {x y c d : Nat} (hx : x < 4294967296) (hy : y < 4294967296) (hc : c < 4294967296) (hd : d < 4294967296) : x * y + c + d < 18446744073709551616 := by
  have : x * y ≤ 4294967295 * 4294967295 := Nat.mul_le_mul (by omega) (by omega)
  omega
theorem m_limb_Mul_eq {x y c d : Nat} (hx : x < 4294967296) (hy : y < 4294967296) (hc : c < 4294967296) (hd : d < 4294967296) :
    m_limb_Mul x y c d = some ((x * y + c + d) / 4294967296, (x * y + c + d) % 4294967296) := by
  have h := mul_word hx hy hc hd
  unfold m_limb_Mul
  rw [Nat.mod_eq_of_lt (show x * y < 18446744073709551616 by omega), Nat.mod_eq_of_lt (show x * y + c < 18446744073709551616 by omega), Nat.mod_eq_of_lt h, sbind]
  rw [show (2 : Nat) ^ 32 = 4294967296 by rfl, Nat.mod_eq_of_lt (show (x * y + c + d) / 4294967296 < 4294967296 by omega)]
theorem or_word {x y : Nat} (hy : y < 4294967296) : x * 4294967296 ||| y = x * 4294967296 + y := by
  have := Nat.two_pow_add_eq_or_of_lt (i := 32) (b := y) (by simpa using hy) x
  rw [show (2 : Nat) ^ 32 = 4294967296 by rfl, Nat.mul_comm] at this
  exact this.symm
theorem m_limb_Div_eq {h l y : Nat} (hh : h < y) (hl : l < 4294967296) (hy : y < 4294967296) :
    m_limb_Div h l y = some ((h * 4294967296 + l) / y, (h * 4294967296 + l) % y, true) := by
  unfold m_limb_Div
  rw [bifd, if_neg (by omega), grd_t (by simp; omega), sbind, sbind]
  rw [show (2 : Nat) ^ 32 = 4294967296 by rfl, Nat.mod_eq_of_lt (show h * 4294967296 < 18446744073709551616 by omega), or_word hl]
  have h1 : (h * 4294967296 + l) / y < 4294967296 := Nat.div_lt_of_lt_mul (by
    have : h * 4294967296 + 4294967296 ≤ y * 4294967296 := by omega
    omega)
  have h2 : (h * 4294967296 + l) % y < y := Nat.mod_lt _ (by omega)
  rw [Nat.mod_eq_of_lt h1, Nat.mod_eq_of_lt (show (h * 4294967296 + l) % y < 4294967296 by omega)]
theorem get_mid {α : Type} (p : List α) (y : α) (r : List α) : (p ++ y :: r)[p.length]? = some y := by simp
theorem set_mid {α : Type} (p : List α) (y z : α) (r : List α) : (p ++ y :: r).set p.length z = p ++ z :: r := by simp
theorem get_mid' {α : Type} {k : Nat} {p : List α} {y : α} {r : List α} (h : p.length = k) : getI (p ++ y :: r) (k : Int) = some y := by rw [getI_cast, ← h, get_mid]
theorem set_mid' {α : Type} {k : Nat} {p : List α} {y z : α} {r : List α} (h : p.length = k) : (p ++ y :: r).set (k : Int).toNat z = p ++ z :: r := by rw [Int.toNat_natCast, ← h, set_mid]
theorem val_snoc (a : List Nat) (x : Nat) : val (a ++ [x]) = val a + bp a.length * x := by rw [val_append]; simp [val]
theorem split_mid {α : Type} {l : List α} {k : Nat} (h : k < l.length) : l = l.take k ++ l[k] :: l.drop (k + 1) := by simp
theorem row_step (P x y m cy u v V M A c : Nat) (e : 4294967296 * u + v = x * y + m + cy) (h6 : V + P * cy = M + x * A + c) : V + P * v + P * 4294967296 * u = M + P * m + x * (A + P * y) + c := by grind
/-- prod.row: a times x, and one, added to a part of a list. -/
theorem m_prod_row_eq {p m q a : List Nat} {z x c : Nat} (hm : m.length = a.length) (hp : p.length + m.length + 1 + q.length ≤ 4611686018427387904) (hwm : Wd m) (hwa : Wd a) (hx : x < 4294967296) (hc : c < 4294967296) :
    ∃ r, m_prod_row (p ++ m ++ z :: q) (p.length : Int) a x c = some (p ++ r ++ q) ∧ r.length = a.length + 1 ∧ Wd r ∧ val r = val m + x * val a + c := by
  have key : ∃ r, m_prod_row (p ++ m ++ z :: q) (p.length : Int) a x c = some r ∧ ∃ r', r = p ++ r' ++ q ∧ r'.length = a.length + 1 ∧ Wd r' ∧ val r' = val m + x * val a + c := by
    unfold m_prod_row
    refine range_bindE (fun j (s : List Nat × Nat) => ∃ m1, s.1 = p ++ m1 ++ (m.drop j ++ z :: q) ∧ m1.length = j ∧ j ≤ a.length ∧ Wd m1 ∧ s.2 < 4294967296 ∧ val m1 + bp j * s.2 = val (m.take j) + x * val (a.take j) + c) ⟨[], by simp, rfl, Nat.zero_le _, Wd_nil, hc, by simp [val, bp_zero]⟩ ?_ ?_
    · rintro j y ⟨o, cy⟩ hj ⟨m1, h1, h2, h3, h4, h5, h6⟩
      simp only at h1 h5 h6
      subst h1
      have hja : j < a.length := by
        rcases Nat.lt_or_ge j a.length with h | h
        · exact h
        · simp [List.getElem?_eq_none h] at hj
      have hy : a[j] = y := by simpa [hja] using hj
      have hyw : y < 4294967296 := by rw [← hy]; exact Wd_get hwa hja
      have hmj : j < m.length := by omega
      have hmw : m[j] < 4294967296 := Wd_get hwm hmj
      rw [w64 (by omega) (by omega), show ((p.length : Int) + (j : Int)) = ((p.length + j : Nat) : Int) by omega, List.drop_eq_getElem_cons hmj, List.cons_append]
      rw [get_mid' (by simp; omega), sbind, m_limb_Mul_eq hx hyw hmw h5, sbind, sbind, set_mid' (by simp; omega)]
      refine ⟨_, rfl, m1 ++ [(x * y + m[j] + cy) % 4294967296], by simp, by simp [h2], by omega, Wd_append.2 ⟨h4, Wd_cons.2 ⟨by omega, Wd_nil⟩⟩, by have := mul_word hx hyw hmw h5; simp only []; omega, ?_⟩
      rw [take_succ_get hmj, take_succ_get hja, val_snoc, val_snoc, val_snoc, hy, h2, List.length_take, List.length_take, Nat.min_eq_left (by omega), Nat.min_eq_left (by omega), bp_succ]
      exact row_step _ _ _ _ _ _ _ _ _ _ _ (Nat.div_add_mod (x * y + m[j] + cy) 4294967296) h6
    · rintro ⟨o, cy⟩ ⟨m1, h1, h2, h3, h4, h5, h6⟩
      simp only at h1 h5 h6
      subst h1
      simp only [lpK_go]
      rw [w64 (by omega) (by omega), show ((p.length : Int) + (a.length : Int)) = ((p.length + a.length : Nat) : Int) by omega, List.drop_of_length_le (by omega), List.nil_append]
      rw [get_mid' (by simp; omega), sbind, set_mid' (by simp; omega)]
      refine ⟨_, rfl, m1 ++ [cy], by simp, by simp [h2], Wd_append.2 ⟨h4, Wd_cons.2 ⟨h5, Wd_nil⟩⟩, ?_⟩
      rw [val_snoc, h2, h6, List.take_of_length_le (by omega), List.take_of_length_le (Nat.le_refl _)]
  obtain ⟨r, h1, r', h2, h3, h4, h5⟩ := key
  exact ⟨r', by rw [h1, h2], h3, h4, h5⟩
theorem m_prod_Word_eq {n : Nat} {a : List Nat} {x c : Nat} (hn : big ≤ n) (ha : a.length < 35184372088832) (hw : Wd a) (hx : x < 4294967296) (hc : c < 4294967296) : m_prod_Word n a x c = some (toL (val a * x + c)) := by
  unfold m_prod_Word
  rw [w64 (by omega) (by omega), show ((a.length : Int) + 1) = ((a.length + 1 : Nat) : Int) by omega, mkM_ok (by omega) (by omega), sbind]
  obtain ⟨r, h1, h2, h3, h4⟩ := m_prod_row_eq (p := []) (m := List.replicate a.length 0) (q := []) (a := a) (z := 0) (x := x) (c := c) (by simp) (by simp; omega) (Wd_rep (by omega)) hw hx hc
  rw [List.nil_append] at h1
  rw [List.replicate_succ', show (0 : Int) = (([] : List Nat).length : Int) by rfl, h1, sbind]
  simp only [List.nil_append, List.append_nil]
  rw [m_nat_Norm_eq hn (by omega), sbind, ← toL_val h3, h4, val_rep0, Nat.mul_comm]; simp
theorem m_nat_Of_eq {n x : Nat} (hn : big ≤ n) (hx : x < 18446744073709551616) : m_nat_Of n x = some (toL x) := by
  unfold m_nat_Of
  rw [show (2 : Nat) ^ 32 = 4294967296 by rfl, m_nat_trim_eq hn (by simp), sbind, ← toL_val (by
    intro y hy
    simp only [List.mem_cons, List.not_mem_nil, or_false] at hy
    rcases hy with rfl | rfl <;> omega)]
  congr 2; simp only [val]; omega
theorem quo_step (P q r' r x s y vd : Nat) (e : x * q + r' = r * P + y) (h : vd = x * s + r) : y + P * vd = x * (q + P * s) + r' := by grind
/-- quot.Word: a number by a word. -/
theorem m_quot_Word_eq {n : Nat} {a : List Nat} {x : Nat} (hn : big ≤ n) (ha : a.length < 35184372088832) (hw : Wd a) (hx0 : x ≠ 0) (hx : x < 4294967296) : m_quot_Word n a x = some (toL (val a / x), val a % x, true) := by
  unfold m_quot_Word
  unfold big at hn
  rw [bifd, if_neg hx0, mkM_ok (by omega) (by omega), sbind]
  refine loop_bind (fun s => (s.2.2 + 1).toNat) (fun s => ∃ (k : Nat) (qs : List Nat), s.2.2 = (k : Int) - 1 ∧ k ≤ a.length ∧ s.1 = List.replicate k 0 ++ qs ∧ qs.length = a.length - k ∧ Wd qs ∧ s.2.1 < x ∧ val (a.drop k) = x * val qs + s.2.1)
    (fun t => t.1.length = a.length ∧ Wd t.1 ∧ t.2 < x ∧ val a = x * val t.1 + t.2) ⟨a.length, [], by simp only []; rw [w64 (by omega) (by omega)], Nat.le_refl _, by simp, by simp, Wd_nil, by simp only []; omega, by simp [val]⟩ (by simp only []; rw [w64 (by omega) (by omega)]; omega) ?_ ?_
  · rintro ⟨q, r, i⟩ ⟨k, qs, h1, h2, h3, h4, h5, h6, h7⟩
    simp only at h1 h3 h6 h7
    subst h1 h3
    simp only [bifd]
    by_cases h0 : 0 < k
    · obtain ⟨j, rfl⟩ : ∃ j, k = j + 1 := ⟨k - 1, by omega⟩
      have hj : j < a.length := by omega
      left
      rw [if_pos (by omega), show ((j + 1 : Nat) : Int) - 1 = (j : Nat) by omega, getI_get hj, sbind, m_limb_Div_eq h6 (Wd_get hw hj) hx, sbind]
      simp only []
      rw [List.replicate_succ', List.append_assoc, List.singleton_append, get_mid' (by simp), sbind, set_mid' (by simp), w64 (by omega) (by omega)]
      refine ⟨_, rfl, ⟨j, ((r * 4294967296 + a[j]) / x) :: qs, rfl, by omega, rfl, by simp; omega, Wd_cons.2 ⟨?_, h5⟩, Nat.mod_lt _ (by omega), ?_⟩, by simp only []; omega⟩
      · have := Wd_get hw hj
        exact Nat.div_lt_of_lt_mul (by
          have : r * 4294967296 + 4294967296 ≤ x * 4294967296 := by omega
          omega)
      · rw [List.drop_eq_getElem_cons hj]
        simp only [val]
        exact quo_step 4294967296 _ _ _ _ _ _ _ (Nat.div_add_mod (r * 4294967296 + a[j]) x) h7
    · right
      obtain rfl : k = 0 := by omega
      rw [if_neg (by omega)]
      exact ⟨_, rfl, by simp at h4 ⊢; omega, by simpa using h5, h6, by simpa using h7⟩
  · rintro ⟨q, r⟩ ⟨h1, h2, h3, h4⟩
    simp only at h1 h2 h3 h4
    simp only []
    rw [m_nat_Norm_eq (by unfold big; exact hn) (by omega), sbind, ← toL_val h2, h4, Nat.mul_add_div (by omega), Nat.mul_add_mod, Nat.div_eq_of_lt h3, Nat.mod_eq_of_lt h3, Nat.add_zero]
/-! ### The document's answers -/
theorem m_ref02_Norm_eq {n : Nat} {a : List Nat} (hn : big ≤ n) (ha : a.length ≤ 35184372088832) : m_retrospectref02_Norm n a = some (trimZ a) := by
  have h := m_nat_trim_eq hn (show a.length ≤ 4611686018427387904 by omega)
  have hl := trimZ_length a
  unfold m_retrospectref02_Norm
  unfold m_nat_trim at h
  cases hk : loopM (fun (s19 : Int) =>
    jn (fun (j22 : (Bool) → Option _) =>
      bif decide ((0 : Int) < s19) then (
        (getI a (wrap64 (s19 - (1 : Int)))).bind fun y25 =>
        j22 (decide (y25 = 0)))
      else (
        j22 false)) (fun (s24 : Bool) =>
      bif s24 then (
        some (Lp.go (wrap64 (s19 - (1 : Int)))))
      else (
        some (Lp.out s19)))) n (a.length : Int) with
  | none => rw [hk] at h; cases h
  | some t =>
    rw [hk] at h
    rw [sbind] at h ⊢
    cases hs : sub a (0 : Int) t with
    | none => rw [hs] at h; cases h
    | some b =>
      rw [hs, sbind] at h
      rw [sbind]
      obtain rfl : b = trimZ a := by simpa using h
      rw [appM_ok (by simp; omega) (by simp; omega), sbind, List.nil_append]
theorem m_ref02_Same_eq {n : Nat} {a b : List Nat} (hn : big ≤ n) (ha : a.length ≤ 4611686018427387904) : m_retrospectref02_Same n a b = some (decide (a = b)) := by
  unfold m_retrospectref02_Same
  unfold big at hn
  rw [bifnd]
  by_cases hl : a.length = b.length
  · rw [if_pos (by omega)]
    refine loop_bind (fun s => a.length - s.toNat) (fun s => ∃ k : Nat, s = k ∧ k ≤ a.length ∧ a.take k = b.take k) (fun t => (t = .go () ∧ a = b) ∨ (t = .out false ∧ a ≠ b)) ⟨0, rfl, Nat.zero_le _, by simp⟩ (by omega) ?_ ?_
    · rintro s ⟨k, rfl, hk, ht⟩
      simp only [bifd, bifnd]
      by_cases h : k < a.length
      · rw [if_pos (by omega), getI_get h, sbind, getI_get (show k < b.length by omega), sbind]
        by_cases e : a[k] = b[k]
        · left
          rw [if_pos e, w64 (by omega) (by omega)]
          refine ⟨_, rfl, ⟨k + 1, by omega, by omega, ?_⟩, by omega⟩
          rw [take_succ_get h, take_succ_get (show k < b.length by omega), ht, e]
        · right
          rw [if_neg e]
          exact ⟨_, rfl, .inr ⟨rfl, fun h => e (by simp [h])⟩⟩
      · right
        rw [if_neg (by omega)]
        refine ⟨_, rfl, .inl ⟨rfl, ?_⟩⟩
        rw [List.take_of_length_le (by omega), List.take_of_length_le (by omega)] at ht; exact ht
    · rintro t (⟨rfl, h⟩ | ⟨rfl, h⟩)
      · rw [lpK_go]; simp [h]
      · rw [lpK_out]; simp [h]
  · rw [if_neg (by omega)]
    have : a ≠ b := fun h => hl (by rw [h])
    simp [this]
theorem getD_lt {a : List Nat} (h : Wd a) (i : Nat) : a.getD i 0 < 4294967296 := by
  rw [List.getD_eq_getElem?_getD]
  by_cases hi : i < a.length
  · simp [hi]; exact Wd_get h hi
  · simp [List.getElem?_eq_none (show a.length ≤ i by omega)]
theorem val_take_succ (a : List Nat) (k : Nat) : val (a.take (k + 1)) = val (a.take k) + bp k * a.getD k 0 := by
  by_cases h : k < a.length
  · rw [take_succ_get h, val_snoc, List.length_take, Nat.min_eq_left (by omega)]; simp [h]
  · rw [List.take_of_length_le (by omega), List.take_of_length_le (by omega)]; simp [List.getElem?_eq_none (show a.length ≤ k by omega)]
theorem m_ref02_At_eq {a : List Nat} {k : Nat} : m_retrospectref02_At a (k : Int) = some (a.getD k 0) := by
  unfold m_retrospectref02_At
  rw [bifd]
  by_cases h : k < a.length
  · rw [if_pos (by omega), getI_get h, sbind]; simp [h]
  · rw [if_neg (by omega)]; simp [List.getElem?_eq_none (show a.length ≤ k by omega)]
theorem add_step (P s x y u v V A C : Nat) (e : 4294967296 * u + v = s + (x + y)) (h : V + P * s = A + C) : V + P * v + P * 4294967296 * u = A + P * x + (C + P * y) := by grind
theorem carry_zero (P Q s o av bv : Nat) (_ : Nat) (h7 : o + P * s = av + bv) (ha : av < Q) (hb : bv < Q) (h5 : P = Q * 4294967296) : s = 0 := by
  rcases Nat.eq_zero_or_pos s with h | h
  · exact h
  · exfalso
    have g6 : P * 1 ≤ P * s := Nat.mul_le_mul_left _ h
    omega
theorem m_ref02_Add_eq {n : Nat} {a b : List Nat} (hn : big ≤ n) (ha : a.length < 17592186044416) (hb : b.length < 17592186044416) (hwa : Wd a) (hwb : Wd b) : m_retrospectref02_Add n a b = some (toL (val a + val b)) := by
  unfold m_retrospectref02_Add
  unfold big at hn
  obtain ⟨l, hl⟩ : ∃ l : Nat, l = max a.length b.length := ⟨_, rfl⟩
  have hmax : max (a.length : Int) (b.length : Int) = (l : Int) := by omega
  have hla : a.length ≤ l := by omega
  have hlb : b.length ≤ l := by omega
  have hll : l < 17592186044416 := by omega
  rw [hmax, w64 (by omega) (by omega), show ((l : Int) + 1) = ((l + 1 : Nat) : Int) by omega, mkM_ok (by omega) (by omega), sbind]
  refine loop_bind (fun s => (l + 1) - s.2.2.toNat) (fun s => ∃ (k : Nat) (o : List Nat), s.2.2 = k ∧ k ≤ l + 1 ∧ s.1 = o ++ List.replicate (l + 1 - k) 0 ∧ o.length = k ∧ Wd o ∧ s.2.1 < 4294967296 ∧ val o + bp k * s.2.1 = val (a.take k) + val (b.take k))
    (fun t => t.length = l + 1 ∧ Wd t ∧ val t = val a + val b) ⟨0, [], rfl, by omega, by simp, rfl, Wd_nil, by simp, by simp [val, bp_zero]⟩ (by simp only []; omega) ?_ ?_
  · rintro ⟨q, s, i⟩ ⟨k, o, h1, h2, h3, h4, h5, h6, h7⟩
    simp only at h1 h3 h6 h7
    subst h1 h3
    simp only [sbind, bifd]
    by_cases hk : k < l + 1
    · left
      have hx := getD_lt hwa k
      have hy := getD_lt hwb k
      rw [if_pos (by omega), m_ref02_At_eq, sbind, m_ref02_At_eq, sbind]
      obtain ⟨j, hj⟩ : ∃ j, l + 1 - k = j + 1 := ⟨l - k, by omega⟩
      rw [hj, List.replicate_succ, get_mid' h4, sbind, set_mid' h4, w64 (by omega) (by omega)]
      rw [Nat.mod_eq_of_lt (show a.getD k 0 + b.getD k 0 < 18446744073709551616 by omega), Nat.mod_eq_of_lt (show s + (a.getD k 0 + b.getD k 0) < 18446744073709551616 by omega), Nat.mod_mod]
      refine ⟨_, rfl, ⟨k + 1, o ++ [(s + (a.getD k 0 + b.getD k 0)) % 4294967296], by simp only []; omega, by omega, ?_, by simp [h4], Wd_append.2 ⟨h5, Wd_cons.2 ⟨by omega, Wd_nil⟩⟩, by simp only []; omega, ?_⟩, by simp only []; omega⟩
      · simp only []; rw [show l + 1 - (k + 1) = j by omega]; simp
      · simp only []
        rw [val_take_succ, val_take_succ, val_snoc, h4, bp_succ]
        exact add_step _ _ _ _ _ _ _ _ _ (Nat.div_add_mod (s + (a.getD k 0 + b.getD k 0)) 4294967296) h7
    · right
      obtain rfl : k = l + 1 := by omega
      rw [if_neg (by omega)]
      refine ⟨_, rfl, by simp [h4], by simpa using h5, ?_⟩
      rw [List.take_of_length_le (by omega), List.take_of_length_le (by omega)] at h7
      have h8 : s = 0 := by
        have g1 := val_lt hwa
        have g2 := val_lt hwb
        have g3 : bp a.length ≤ bp l := bp_le hla
        have g4 : bp b.length ≤ bp l := bp_le hlb
        have g5 : bp (l + 1) = bp l * 4294967296 := bp_succ _
        exact carry_zero _ _ _ _ _ _ 0 h7 (Nat.lt_of_lt_of_le g1 g3) (Nat.lt_of_lt_of_le g2 g4) g5
      rw [h8, Nat.mul_zero, Nat.add_zero] at h7
      simpa using h7
  · rintro t ⟨h1, h2, h3⟩
    rw [m_ref02_Norm_eq (by unfold big; exact hn) (by omega), sbind, ← toL_val h2, h3]
theorem mul_step (P x y m cy u v V M A : Nat) (e : 4294967296 * u + v = cy + (x * y + m)) (h6 : V + P * cy = M + x * A) : V + P * v + P * 4294967296 * u = M + P * m + x * (A + P * y) := by grind
theorem mul_out (P Q A x b O R c p _ M z : Nat) (h1 : O = p + P * M) (h2 : R + Q * c = M + x * b) (h3 : O = A * b) (h4 : z = p + P * (R + Q * c)) : z = (A + P * x) * b := by grind
theorem m_ref04_Mul_eq {n : Nat} {a b : List Nat} (hn : big ≤ n) (ha : a.length < 17592186044416) (hb : b.length < 17592186044416) (hwa : Wd a) (hwb : Wd b) : m_retrospectref04_Mul n a b = some (toL (val a * val b)) := by
  unfold m_retrospectref04_Mul
  unfold big at hn
  rw [w64 (by omega) (by omega), show ((a.length : Int) + (b.length : Int)) = ((a.length + b.length : Nat) : Int) by omega, mkM_ok (by omega) (by omega), sbind]
  refine loop_bind (fun s => a.length - s.2.toNat) (fun s => ∃ (i : Nat) (o : List Nat), s.2 = i ∧ i ≤ a.length ∧ s.1 = o ++ List.replicate (a.length - i) 0 ∧ o.length = i + b.length ∧ Wd o ∧ val o = val (a.take i) * val b)
    (fun t => t.length = a.length + b.length ∧ Wd t ∧ val t = val a * val b) ⟨0, List.replicate b.length 0, rfl, Nat.zero_le _, by simp only [Nat.sub_zero, List.replicate_append_replicate]; rw [Nat.add_comm], by simp, Wd_rep (by omega), by rw [val_rep0]; simp [val]⟩ (by simp only []; omega) ?_ ?_
  · rintro ⟨q, i'⟩ ⟨i, o, h1, h2, h3, h4, h5, h6⟩
    simp only at h1 h3
    subst h1 h3
    simp only [bifd]
    by_cases hi : i < a.length
    · left
      have hxw := Wd_get hwa hi
      obtain ⟨j, hj⟩ : ∃ j, a.length - i = j + 1 := ⟨a.length - i - 1, by omega⟩
      rw [if_pos (by omega), hj, List.replicate_succ]
      obtain ⟨p, hp⟩ : ∃ p, p = o.take i := ⟨_, rfl⟩
      obtain ⟨m, hm⟩ : ∃ m, m = o.drop i := ⟨_, rfl⟩
      have ho : o = p ++ m := by rw [hp, hm, List.take_append_drop]
      have hpl : p.length = i := by rw [hp, List.length_take]; omega
      have hml : m.length = b.length := by rw [hm, List.length_drop]; omega
      have hwp : Wd p := by rw [hp]; exact Wd_take h5
      have hwm : Wd m := by rw [hm]; exact Wd_drop h5
      have hov : val o = val p + bp i * val m := by rw [ho, val_append, hpl]
      rw [ho]
      refine loop_bindX (fun s => b.length - s.2.2.toNat) (fun s => ∃ (k : Nat) (m1 : List Nat), s.2.2 = k ∧ k ≤ b.length ∧ s.1 = p ++ m1 ++ (m.drop k ++ 0 :: List.replicate j 0) ∧ m1.length = k ∧ Wd m1 ∧ s.2.1 < 4294967296 ∧ val m1 + bp k * s.2.1 = val (m.take k) + a[i] * val (b.take k))
        (fun t => ∃ m1 : List Nat, t.1 = p ++ m1 ++ 0 :: List.replicate j 0 ∧ m1.length = b.length ∧ Wd m1 ∧ t.2 < 4294967296 ∧ val m1 + bp b.length * t.2 = val m + a[i] * val b) ⟨0, [], rfl, Nat.zero_le _, by simp, rfl, Wd_nil, by simp, by simp [val]⟩ (by simp only []; omega) ?_ ?_
      · rintro ⟨q, cy, k'⟩ ⟨k, m1, g1, g2, g3, g4, g5, g6, g7⟩
        simp only at g1 g3 g6 g7
        subst g1 g3
        simp only []
        by_cases hk : k < b.length
        · left
          have hyw := Wd_get hwb hk
          have hmk : k < m.length := by omega
          have hmw := Wd_get hwm hmk
          have hmul := mul_word hxw hyw hmw g6
          rw [if_pos (by omega), getI_get hi, sbind, getI_get hk, sbind, w64 (x := (i : Int) + (k : Int)) (by omega) (by omega), show ((i : Int) + (k : Int)) = ((i + k : Nat) : Int) by omega]
          rw [List.drop_eq_getElem_cons hmk, List.cons_append, get_mid' (by simp; omega), sbind, sbind, sbind, sbind, set_mid' (by simp; omega), sbind, w64 (by omega) (by omega)]
          rw [Nat.mod_eq_of_lt (show a[i] * b[k] < 18446744073709551616 by omega), Nat.mod_eq_of_lt (show a[i] * b[k] + m[k] < 18446744073709551616 by omega), Nat.mod_eq_of_lt (show cy + (a[i] * b[k] + m[k]) < 18446744073709551616 by omega), Nat.mod_mod]
          refine ⟨_, rfl, ⟨k + 1, m1 ++ [(cy + (a[i] * b[k] + m[k])) % 4294967296], by simp only []; omega, by omega, by simp, by simp [g4], Wd_append.2 ⟨g5, Wd_cons.2 ⟨by omega, Wd_nil⟩⟩, by simp only []; omega, ?_⟩, by simp only []; omega⟩
          simp only []
          rw [take_succ_get hmk, take_succ_get hk, val_snoc, val_snoc, val_snoc, g4, List.length_take, List.length_take, Nat.min_eq_left (by omega), Nat.min_eq_left (by omega), bp_succ]
          exact mul_step _ _ _ _ _ _ _ _ _ _ (Nat.div_add_mod (cy + (a[i] * b[k] + m[k])) 4294967296) g7
        · right
          obtain rfl : k = b.length := by omega
          rw [if_neg (by omega)]
          refine ⟨_, rfl, m1, by simp only []; rw [List.drop_of_length_le (by omega)]; simp, g4, g5, g6, ?_⟩
          rw [List.take_of_length_le (by omega), List.take_of_length_le (by omega)] at g7; exact g7
      · rintro ⟨q, c⟩ ⟨m1, g1, g2, g3, g4, g5⟩
        simp only at g1 g4 g5
        subst g1
        rw [w64 (x := (i : Int) + (b.length : Int)) (by omega) (by omega), show ((i : Int) + (b.length : Int)) = ((i + b.length : Nat) : Int) by omega]
        simp only []
        rw [get_mid' (by simp; omega), sbind, set_mid' (by simp; omega), sbind, w64 (by omega) (by omega), Nat.mod_eq_of_lt g4]
        refine ⟨_, rfl, ⟨i + 1, p ++ m1 ++ [c], by simp only []; omega, by omega, by simp only []; rw [show a.length - (i + 1) = j by omega]; simp, by simp [hpl, g2]; omega, Wd_append.2 ⟨Wd_append.2 ⟨hwp, g3⟩, Wd_cons.2 ⟨g4, Wd_nil⟩⟩, ?_⟩, by simp only []; omega⟩
        rw [List.append_assoc, val_append, val_snoc, hpl, g2, take_succ_get hi, val_snoc, List.length_take, Nat.min_eq_left (by omega)]
        exact mul_out _ _ _ _ _ _ _ _ _ 0 _ _ hov g5 h6 rfl
    · right
      obtain rfl : i = a.length := by omega
      rw [if_neg (by omega)]
      exact ⟨_, rfl, by simp [h4], by simpa using h5, by simpa using h6⟩
  · rintro t ⟨h1, h2, h3⟩
    rw [m_ref02_Norm_eq (by unfold big; exact hn) (by omega), sbind, ← toL_val h2, h3]
theorem m_ref07_ten_eq {n : Nat} {a : List Nat} (hn : big ≤ n) (ha : a.length < 35184372088832) (hw : Wd a) :
    ∃ r, m_retrospectref07_ten n a = some (val a % 10, r) ∧ r.length = a.length ∧ Wd r ∧ val r = val a / 10 := by
  have key : ∃ r, m_retrospectref07_ten n a = some r ∧ (r.1 = val a % 10 ∧ r.2.length = a.length ∧ Wd r.2 ∧ val r.2 = val a / 10) := by
    unfold m_retrospectref07_ten
    unfold big at hn
    refine loop_bindE (fun s => (s.2.2 + 1).toNat) (fun s => ∃ (k : Nat) (qs : List Nat), s.2.2 = (k : Int) - 1 ∧ k ≤ a.length ∧ s.1 = a.take k ++ qs ∧ qs.length = a.length - k ∧ Wd qs ∧ s.2.1 < 10 ∧ val (a.drop k) = 10 * val qs + s.2.1)
      (fun t => t.1.length = a.length ∧ Wd t.1 ∧ t.2 < 10 ∧ val a = 10 * val t.1 + t.2) ⟨a.length, [], by simp only []; rw [w64 (by omega) (by omega)], Nat.le_refl _, by simp, by simp, Wd_nil, by simp, by simp [val]⟩ (by simp only []; rw [w64 (by omega) (by omega)]; omega) ?_ ?_
    · rintro ⟨q, r, i⟩ ⟨k, qs, h1, h2, h3, h4, h5, h6, h7⟩
      simp only at h1 h3 h6 h7
      subst h1 h3
      simp only [bifd]
      by_cases h0 : 0 < k
      · obtain ⟨j, rfl⟩ : ∃ j, k = j + 1 := ⟨k - 1, by omega⟩
        have hj : j < a.length := by omega
        have hjw := Wd_get hw hj
        left
        rw [if_pos (by omega), show ((j + 1 : Nat) : Int) - 1 = (j : Nat) by omega, take_succ_get hj, List.append_assoc, List.singleton_append, get_mid' (by simp; omega), sbind, sbind, sbind, set_mid' (by simp; omega), w64 (by omega) (by omega)]
        rw [Nat.mod_eq_of_lt (show r * 4294967296 < 18446744073709551616 by omega), Nat.mod_eq_of_lt (show r * 4294967296 + a[j] < 18446744073709551616 by omega), Nat.mod_eq_of_lt (show (r * 4294967296 + a[j]) / 10 < 4294967296 by omega)]
        refine ⟨_, rfl, ⟨j, (r * 4294967296 + a[j]) / 10 :: qs, rfl, by omega, rfl, by simp; omega, Wd_cons.2 ⟨by omega, h5⟩, Nat.mod_lt _ (by omega), ?_⟩, by simp only []; omega⟩
        rw [List.drop_eq_getElem_cons hj]
        simp only [val]
        omega
      · right
        obtain rfl : k = 0 := by omega
        rw [if_neg (by omega)]
        exact ⟨_, rfl, by simp at h4 ⊢; omega, by simpa using h5, h6, by simpa using h7⟩
    · rintro ⟨q, r⟩ ⟨h1, h2, h3, h4⟩
      simp only at h1 h2 h3 h4
      exact ⟨_, rfl, by simp only []; omega, h1, h2, by simp only []; omega⟩
  obtain ⟨⟨r1, r2⟩, h1, h2, h3, h4, h5⟩ := key
  simp only at h2 h3 h4 h5
  exact ⟨r2, by rw [h1, h2], h3, h4, h5⟩
/-! ### Comparison -/
def cmpI (x y : Nat) : Int := if x < y then -1 else if y < x then 1 else 0
theorem toL_low {n : Nat} (h : n ≠ 0) : bp ((toL n).length - 1) ≤ n := by
  induction n using Nat.strongRecOn with
  | _ n ih =>
    rw [toL_pos h, List.length_cons, Nat.add_sub_cancel]
    by_cases h1 : n / 4294967296 = 0
    · rw [h1, toL_zero, List.length_nil, bp_zero]; omega
    · have := ih (n / 4294967296) (by omega) h1
      have hl : (toL (n / 4294967296)).length ≠ 0 := by rw [toL_pos h1]; simp
      obtain ⟨m, hm⟩ : ∃ m, (toL (n / 4294967296)).length = m + 1 := ⟨(toL (n / 4294967296)).length - 1, by omega⟩
      rw [hm, Nat.add_sub_cancel] at this
      rw [hm, bp_succ]
      have h2 : bp m * 4294967296 ≤ n / 4294967296 * 4294967296 := Nat.mul_le_mul_right _ this
      have h3 : n / 4294967296 * 4294967296 ≤ n := Nat.div_mul_le_self _ _
      exact Nat.le_trans h2 h3
theorem toL_len_lt {m n : Nat} (h : (toL m).length < (toL n).length) : m < n := by
  have h1 := val_lt (Wd_toL m)
  rw [val_toL] at h1
  have hn : n ≠ 0 := by rintro rfl; rw [toL_zero] at h; simp at h
  have h2 := toL_low hn
  have h3 : bp (toL m).length ≤ bp ((toL n).length - 1) := bp_le (by omega)
  exact Nat.lt_of_lt_of_le h1 (Nat.le_trans h3 h2)
theorem val_drop (a : List Nat) (k : Nat) : val a = val (a.take k) + bp (a.take k).length * val (a.drop k) := by
  conv => lhs; rw [← List.take_append_drop k a]
  rw [val_append]
theorem cmp_step {P x y u v A : Nat} (hA : A < P) (hxy : x < y) (e1 : u = A + P * x) (e2 : P * y ≤ v) : u < v := by
  have : P * (x + 1) ≤ P * y := Nat.mul_le_mul_left _ hxy
  rw [Nat.mul_add] at this; omega
theorem scan_lt {a b : List Nat} {j : Nat} (ha : Wd a) (hj : j < a.length) (hj' : j < b.length) (ht : a.drop (j + 1) = b.drop (j + 1)) (h : a[j] < b[j]) : val a < val b := by
  have e1 := val_drop a (j + 1)
  have e2 := val_drop b (j + 1)
  rw [List.length_take, Nat.min_eq_left (by omega)] at e1 e2
  rw [e1, e2, ht]
  refine Nat.add_lt_add_right ?_ _
  rw [take_succ_get hj, take_succ_get hj', val_snoc, val_snoc, List.length_take, List.length_take, Nat.min_eq_left (by omega), Nat.min_eq_left (by omega)]
  have h1 := val_lt (Wd_take (k := j) ha)
  rw [List.length_take, Nat.min_eq_left (by omega)] at h1
  exact cmp_step h1 h rfl (Nat.le_add_left _ _)
theorem m_nat_Cmp_eq {n : Nat} {a b : List Nat} (hn : big ≤ n) (ha : a.length ≤ 4611686018427387904) (hb : b.length ≤ 4611686018427387904) (hwa : Wd a) (hwb : Wd b) : m_nat_Cmp n a b = some (cmpI (val a) (val b)) := by
  unfold m_nat_Cmp
  rw [m_nat_trim_eq hn ha, sbind, m_nat_trim_eq hn hb, sbind, ← toL_val hwa, ← toL_val hwb]
  have hla : (toL (val a)).length ≤ 4611686018427387904 := by rw [toL_val hwa]; exact Nat.le_trans (trimZ_length a) ha
  have hva := val_toL (val a)
  have hvb := val_toL (val b)
  have hwa' := Wd_toL (val a)
  have hwb' := Wd_toL (val b)
  have l1 := @toL_len_lt (val a) (val b)
  have l2 := @toL_len_lt (val b) (val a)
  generalize val a = x at *
  generalize val b = y at *
  generalize toL x = a' at *
  generalize toL y = b' at *
  unfold big at hn
  rw [bifd, bifd]
  by_cases h1 : a'.length < b'.length
  · rw [if_pos (by omega), cmpI, if_pos (l1 h1)]
  · rw [if_neg (by omega)]
    by_cases h2 : b'.length < a'.length
    · rw [if_pos (by omega), cmpI, if_neg (by have := l2 h2; omega), if_pos (l2 h2)]
    · rw [if_neg (by omega), w64 (by omega) (by omega)]
      refine loop_bind (fun s => (s + 1).toNat) (fun s => ∃ k : Nat, s = (k : Int) - 1 ∧ k ≤ a'.length ∧ a'.drop k = b'.drop k) (fun t => (t = .go () ∧ a' = b') ∨ (t = .out (-1) ∧ x < y) ∨ (t = .out 1 ∧ y < x)) ⟨a'.length, rfl, Nat.le_refl _, by rw [List.drop_of_length_le (Nat.le_refl _), List.drop_of_length_le (by omega)]⟩ (by omega) ?_ ?_
      · rintro s ⟨k, rfl, hk, ht⟩
        simp only [bifd]
        by_cases h0 : 0 < k
        · obtain ⟨j, rfl⟩ : ∃ j, k = j + 1 := ⟨k - 1, by omega⟩
          have hj : j < a'.length := by omega
          have hj' : j < b'.length := by omega
          rw [if_pos (by omega), show ((j + 1 : Nat) : Int) - 1 = (j : Nat) by omega, getI_get hj, sbind, getI_get hj', sbind]
          by_cases g1 : a'[j] < b'[j]
          · right
            rw [if_pos g1]
            refine ⟨_, rfl, .inr (.inl ⟨rfl, ?_⟩)⟩
            rw [← hva, ← hvb]; exact scan_lt hwa' hj hj' ht g1
          · rw [if_neg g1, sbind, sbind]
            by_cases g2 : b'[j] < a'[j]
            · right
              rw [if_pos g2]
              refine ⟨_, rfl, .inr (.inr ⟨rfl, ?_⟩)⟩
              rw [← hva, ← hvb]; exact scan_lt hwb' hj' hj ht.symm g2
            · left
              rw [if_neg g2, w64 (by omega) (by omega)]
              refine ⟨_, rfl, ⟨j, rfl, by omega, ?_⟩, by omega⟩
              rw [List.drop_eq_getElem_cons hj, List.drop_eq_getElem_cons hj', ht, show a'[j] = b'[j] by omega]
        · right
          obtain rfl : k = 0 := by omega
          rw [if_neg (by omega)]
          exact ⟨_, rfl, .inl ⟨rfl, by simpa using ht⟩⟩
      · rintro t (⟨rfl, h⟩ | ⟨rfl, h⟩ | ⟨rfl, h⟩)
        · rw [lpK_go]
          have : x = y := by rw [← hva, ← hvb, h]
          simp [cmpI, this]
        · rw [lpK_out, cmpI, if_pos h]
        · rw [lpK_out, cmpI, if_neg (by omega), if_pos h]
end Go.Proofs.YtpomhkkhdojpiaaDoor
