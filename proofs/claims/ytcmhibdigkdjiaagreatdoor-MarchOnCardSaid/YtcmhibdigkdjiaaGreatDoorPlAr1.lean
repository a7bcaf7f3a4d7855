import Derived.Test.YtcmhibdigkdjiaaGreatDoorPlSm
namespace Go.Proofs.YtcmhibdigkdjiaaGreatDoor
open Go Go.RowKit
/-! ### Naturals: sums and differences -/
theorem m_limb_Add_eq {x y c : Nat} (hx : x < 4294967296) (hy : y < 4294967296) (hc : c < 4294967296) :
    m_limb_Add x y c = some ((x + y + c) % 4294967296, (x + y + c) / 4294967296) := by
  unfold m_limb_Add
  simp only [jn_eq, bifd]
  split <;> split <;> congr 1 <;> refine Prod.ext ?_ ?_ <;> simp only [] <;> omega
theorem m_limb_Sub_eq {x y c : Nat} (hx : x < 4294967296) (hy : y < 4294967296) (hc : c ≤ 1) :
    ∃ d b, m_limb_Sub x y c = some (d, b) ∧ d < 4294967296 ∧ b ≤ 1 ∧ d + y + c = x + 4294967296 * b := by
  unfold m_limb_Sub
  simp only [jn_eq, bifd, sbind]
  split <;> split <;> refine ⟨_, _, rfl, ?_, ?_, ?_⟩ <;> omega
theorem padd_step (P s x y u v V A C : Nat) (e : 4294967296 * u + v = x + y + s) (h : V + P * s = A + C) : V + P * v + P * 4294967296 * u = A + P * x + (C + P * y) := by grind
theorem get_bif {k : Nat} {b : List Nat} {β : Type} (f : Nat → Option β) : (if (k : Int) < (b.length : Int) then (getI b (k : Int)).bind f else f 0) = f (b.getD k 0) := by
  by_cases h : k < b.length
  · rw [if_pos (by omega), getI_get h, sbind]; simp [h]
  · rw [if_neg (by omega)]; simp [List.getElem?_eq_none (show b.length ≤ k by omega)]
theorem plus_le {n : Nat} {a b : List Nat} (hn : big ≤ n) (ha : a.length < 17592186044416) (hl : b.length ≤ a.length) (hwa : Wd a) (hwb : Wd b) : m_nat_plus n a b = some (toL (val a + val b)) := by
  unfold m_nat_plus
  simp only [jn_eq, bifd]
  rw [if_neg (by omega)]
  rw [show (1 : Int) = ((1 : Nat) : Int) by rfl, m_nat_fresh_eq (by omega), sbind]
  refine range_bind (fun j (s : List Nat × Nat) => ∃ m1, s.1 = m1 ++ (List.drop j a ++ [0]) ∧ m1.length = j ∧ j ≤ a.length ∧ Wd m1 ∧ s.2 ≤ 1 ∧ val m1 + bp j * s.2 = val (a.take j) + val (b.take j)) ⟨[], by simp, rfl, Nat.zero_le _, Wd_nil, by simp, by simp [val, bp_zero]⟩ ?_ ?_
  · rintro j y ⟨o, cy⟩ hj ⟨m1, h1, h2, h3, h4, h5, h6⟩
    simp only at h1 h5 h6
    subst h1
    have hja : j < a.length := by
      rcases Nat.lt_or_ge j a.length with h | h
      · exact h
      · simp [List.getElem?_eq_none h] at hj
    have hy : a[j] = y := by simpa [hja] using hj
    have hyw : y < 4294967296 := by rw [← hy]; exact Wd_get hwa hja
    rw [get_bif, m_limb_Add_eq hyw (getD_lt hwb j) (by simp only []; omega), sbind, List.drop_eq_getElem_cons hja, List.cons_append, get_mid' h2, sbind, set_mid' h2]
    refine ⟨_, rfl, m1 ++ [(y + b.getD j 0 + cy) % 4294967296], by simp, by simp [h2], by omega, Wd_append.2 ⟨h4, Wd_cons.2 ⟨by omega, Wd_nil⟩⟩, ?_, ?_⟩
    · have := getD_lt hwb j
      simp only []; omega
    · rw [val_take_succ, val_take_succ, val_snoc, h2, bp_succ]
      rw [show a.getD j 0 = y by rw [← hy]; simp [hja]]
      exact padd_step _ _ _ _ _ _ _ _ _ (Nat.div_add_mod (y + b.getD j 0 + cy) 4294967296) h6
  · rintro ⟨o, cy⟩ ⟨m1, h1, h2, h3, h4, h5, h6⟩
    simp only at h1 h5 h6
    subst h1
    simp only [lpK_go]
    rw [List.drop_of_length_le (Nat.le_refl _), List.nil_append, get_mid' h2, sbind, set_mid' h2, m_nat_trim_eq hn (by simp; omega), sbind, ← toL_val (Wd_append.2 ⟨h4, Wd_cons.2 ⟨by omega, Wd_nil⟩⟩), val_snoc, h2, h6, List.take_of_length_le (Nat.le_refl _), List.take_of_length_le hl]
theorem m_nat_plus_eq {n : Nat} {a b : List Nat} (hn : big ≤ n) (ha : a.length < 17592186044416) (hb : b.length < 17592186044416) (hwa : Wd a) (hwb : Wd b) : m_nat_plus n a b = some (toL (val a + val b)) := by
  by_cases hl : b.length ≤ a.length
  · exact plus_le hn ha hl hwa hwb
  · rw [Nat.add_comm, ← plus_le hn hb (by omega) hwb hwa]
    unfold m_nat_plus
    simp only [jn_eq, bifd]
    rw [if_pos (by omega), if_neg (by omega)]
theorem foldl_add (l : List (List Nat)) (x : Nat) : l.foldl (fun s a => s + val a) x = x + (l.map val).sum := by
  induction l generalizing x with
  | nil => simp
  | cons a l ih => simp only [List.foldl_cons, ih, List.map_cons, List.sum_cons]; omega
theorem m_nat_Add_eq {n : Nat} {a b : List Nat} (hn : big ≤ n) (ha : a.length < 17592186044410) (hb : b.length < 17592186044410) (hwa : Wd a) (hwb : Wd b) : m_nat_Add n [a, b] = some (toL (val a + val b)) := by
  unfold m_nat_Add
  have e1 := m_nat_plus_eq (a := []) (b := toL (val a)) hn (by simp) (by have := trimZ_length a; rw [toL_val hwa]; omega) Wd_nil (Wd_toL _)
  have e2 := m_nat_plus_eq (a := toL (val a)) (b := toL (val b)) hn (by have := trimZ_length a; rw [toL_val hwa]; omega) (by have := trimZ_length b; rw [toL_val hwb]; omega) (Wd_toL _) (Wd_toL _)
  rw [val_toL] at e1 e2
  rw [val_toL] at e2
  simp only [val, Nat.zero_add] at e1
  simp only [rangeL, m_nat_trim_eq hn (show a.length ≤ 4611686018427387904 by omega), m_nat_trim_eq hn (show b.length ≤ 4611686018427387904 by omega), sbind, ← toL_val hwa, ← toL_val hwb, e1, e2, lpK_go]
theorem lt_of_getq {α : Type} {l : List α} {i : Nat} {x : α} (h : l[i]? = some x) : i < l.length := by
  rcases Nat.lt_or_ge i l.length with h1 | h1
  · exact h1
  · rw [List.getElem?_eq_none h1] at h; cases h
theorem toL_le_len {x y : Nat} (h : x ≤ y) : (toL x).length ≤ (toL y).length := by
  refine toL_length ?_
  have := val_lt (Wd_toL y)
  rw [val_toL] at this; omega
theorem sub_step (P c c' x y d V A B : Nat) (e : d + y + c = x + 4294967296 * c') (h : V + B = A + P * c) : V + P * d + (B + P * y) = A + P * x + P * 4294967296 * c' := by grind
theorem m_nat_Sub_eq {n : Nat} {a b : List Nat} (hn : big ≤ n) (ha : a.length < 17592186044416) (hb : b.length < 17592186044416) (hwa : Wd a) (hwb : Wd b) :
    m_nat_Sub n a b = some (if val a < val b then ([], false) else (toL (val a - val b), true)) := by
  unfold m_nat_Sub
  have hla : (toL (val a)).length < 17592186044416 := by rw [toL_val hwa]; exact Nat.lt_of_le_of_lt (trimZ_length a) ha
  have hlb : (toL (val b)).length < 17592186044416 := by rw [toL_val hwb]; exact Nat.lt_of_le_of_lt (trimZ_length b) hb
  rw [m_nat_trim_eq hn (by omega), sbind, m_nat_trim_eq hn (by omega), sbind, ← toL_val hwa, ← toL_val hwb, m_nat_Cmp_eq hn (by omega) (by omega) (Wd_toL _) (Wd_toL _), sbind, val_toL, val_toL]
  have hva := val_toL (val a)
  have hvb := val_toL (val b)
  have hwa' := Wd_toL (val a)
  have hwb' := Wd_toL (val b)
  have hl := fun h => toL_le_len (x := val b) (y := val a) h
  generalize val a = x at *
  generalize val b = y at *
  generalize toL x = a' at *
  generalize toL y = b' at *
  rw [bifd]
  by_cases hxy : x < y
  · rw [if_pos (by rw [cmpI, if_pos hxy]; decide), if_pos hxy]
  · rw [if_neg (by rw [cmpI, if_neg hxy]; split <;> decide), if_neg hxy]
    have hl := hl (by omega)
    simp only [jn_eq, bifd]
    rw [show (0 : Int) = ((0 : Nat) : Int) by rfl, m_nat_fresh_eq (by omega), sbind]
    refine range_bind (fun j (s : List Nat × Nat) => ∃ m1, s.1 = m1 ++ List.drop j a' ∧ m1.length = j ∧ j ≤ a'.length ∧ Wd m1 ∧ s.2 ≤ 1 ∧ val m1 + val (b'.take j) = val (a'.take j) + bp j * s.2) ⟨[], by simp, rfl, Nat.zero_le _, Wd_nil, by simp, by simp [val]⟩ ?_ ?_
    · rintro j w ⟨o, cy⟩ hj ⟨m1, h1, h2, h3, h4, h5, h6⟩
      simp only at h1 h5 h6
      subst h1
      have hja : j < a'.length := lt_of_getq hj
      have hy : a'[j] = w := by simpa [hja] using hj
      have hyw : w < 4294967296 := by rw [← hy]; exact Wd_get hwa' hja
      obtain ⟨d, c', g1, g2, g3, g4⟩ := m_limb_Sub_eq hyw (getD_lt hwb' j) h5
      rw [get_bif, g1, sbind, List.drop_eq_getElem_cons hja, get_mid' h2, sbind, set_mid' h2]
      refine ⟨_, rfl, m1 ++ [d], by simp, by simp [h2], by omega, Wd_append.2 ⟨h4, Wd_cons.2 ⟨g2, Wd_nil⟩⟩, g3, ?_⟩
      rw [val_take_succ, val_take_succ, val_snoc, h2, bp_succ]
      rw [show a'.getD j 0 = w by rw [← hy]; simp [hja]]
      exact sub_step _ _ _ _ _ _ _ _ _ g4 h6
    · rintro ⟨o, cy⟩ ⟨m1, h1, h2, h3, h4, h5, h6⟩
      simp only at h1 h5 h6
      subst h1
      simp only [lpK_go]
      rw [List.take_of_length_le (Nat.le_refl _), List.take_of_length_le hl, hva, hvb] at h6
      rw [List.drop_of_length_le (Nat.le_refl _), List.append_nil, m_nat_trim_eq hn (by omega), sbind, ← toL_val h4]
      have h7 : cy = 0 := by
        have g1 := val_lt h4
        rw [h2] at g1
        rcases Nat.eq_zero_or_pos cy with h | h
        · exact h
        · have g6 : bp a'.length * 1 ≤ bp a'.length * cy := Nat.mul_le_mul_left _ h
          omega
      subst h7
      rw [Nat.mul_zero] at h6
      congr 3; omega
theorem m_nat_Gap_eq {n : Nat} {a b : List Nat} (hn : big ≤ n) (ha : a.length < 17592186044416) (hb : b.length < 17592186044416) (hwa : Wd a) (hwb : Wd b) :
    m_nat_Gap n a b = some (toL (val a - val b + (val b - val a)), cmpI (val a) (val b)) := by
  unfold m_nat_Gap
  rw [m_nat_Cmp_eq hn (by omega) (by omega) hwa hwb, sbind]
  simp only [jn_eq, bifd]
  by_cases h : val a < val b
  · rw [if_pos (by rw [cmpI, if_pos h]; decide), m_nat_Sub_eq hn hb ha hwb hwa, if_neg (by omega), sbind]
    rw [show val a - val b + (val b - val a) = val b - val a by omega]
  · rw [if_neg (by rw [cmpI, if_neg h]; split <;> decide), m_nat_Sub_eq hn ha hb hwa hwb, if_neg h, sbind]
    rw [show val a - val b + (val b - val a) = val a - val b by omega]
end Go.Proofs.YtcmhibdigkdjiaaGreatDoor
