import Derived.Test.YtpomhkkhdojpiaaDoorPlNat
import Derived.KernelRfl
namespace Go.Proofs.YtpomhkkhdojpiaaDoor
open Go Go.RowKit
/-! ### Decimal digits -/
def dg (x : Nat) : UInt8 := UInt8.ofNat (48 + x % 10)
/-- The digits of a number, the lowest first; none of 0. -/
def dcR (n : Nat) : List UInt8 := if n = 0 then [] else dg n :: dcR (n / 10)
termination_by n
decreasing_by omega
/-- So many digits, the lowest first. -/
def decF : Nat → Nat → List UInt8
  | 0, _ => []
  | k + 1, n => dg n :: decF k (n / 10)
/-- A number in decimal. -/
def dec (n : Nat) : List UInt8 := if n = 0 then [48] else (dcR n).reverse
def tp (k : Nat) : Nat := 10 ^ k
theorem tp_zero : tp 0 = 1 := by unfold tp; rw [Nat.pow_zero]
theorem tp_succ (k : Nat) : tp (k + 1) = tp k * 10 := by unfold tp; rw [Nat.pow_succ]
theorem tp_pos (k : Nat) : 0 < tp k := by unfold tp; exact Nat.pow_pos (by decide)
theorem tp_add (j k : Nat) : tp (j + k) = tp j * tp k := by unfold tp; rw [Nat.pow_add]
theorem dcR_zero : dcR 0 = [] := by rw [dcR]; rfl
theorem dcR_pos {n : Nat} (h : n ≠ 0) : dcR n = dg n :: dcR (n / 10) := by rw [dcR]; rw [if_neg h]
theorem decF_length (k n : Nat) : (decF k n).length = k := by
  induction k generalizing n with
  | zero => rfl
  | succ k ih => simp [decF, ih]
theorem decF_add (j k n : Nat) : decF (j + k) n = decF j n ++ decF k (n / tp j) := by
  induction j generalizing n with
  | zero => simp [decF, tp_zero]
  | succ j ih =>
    rw [Nat.succ_add]
    simp only [decF, List.cons_append]
    rw [ih, Nat.div_div_eq_div_mul, tp_succ, Nat.mul_comm 10]
theorem decF_zero (k : Nat) : decF k 0 = List.replicate k 48 := by
  induction k with
  | zero => rfl
  | succ k ih => simp only [decF, Nat.zero_div, ih, List.replicate_succ]; rfl
theorem decF_eq {k n : Nat} (h : n < tp k) : decF k n = dcR n ++ List.replicate (k - (dcR n).length) 48 ∧ (dcR n).length ≤ k := by
  induction k generalizing n with
  | zero => rw [tp_zero] at h; obtain rfl : n = 0 := by omega
            simp [decF, dcR_zero]
  | succ k ih =>
    by_cases h0 : n = 0
    · subst h0; rw [dcR_zero, decF_zero]; simp
    · obtain ⟨e, l⟩ := ih (n := n / 10) (by rw [tp_succ] at h; omega)
      rw [dcR_pos h0]
      simp only [decF, List.length_cons, List.cons_append, Nat.add_sub_add_right]
      exact ⟨by rw [e], by omega⟩
theorem decF_mod (k n : Nat) : decF k (n % tp k) = decF k n := by
  induction k generalizing n with
  | zero => rfl
  | succ k ih =>
    have h1 : n % tp (k + 1) % 10 = n % 10 := by rw [tp_succ]; exact Nat.mod_mul_left_mod n (tp k) 10
    have h2 : n % tp (k + 1) / 10 = n / 10 % tp k := by rw [tp_succ, Nat.mul_comm]; exact Nat.mod_mul_right_div_self n 10 (tp k)
    simp only [decF]
    rw [h2, ih]
    simp only [dg, h1]
theorem dcR_step (n : Nat) : (dcR n).length ≤ 1 + (dcR (n / 10)).length := by
  by_cases h : n = 0
  · subst h; simp [dcR_zero]
  · rw [dcR_pos h]; simp; omega
theorem dcR_small {n : Nat} (h : n < 10) : (dcR n).length ≤ 1 := by
  have := dcR_step n
  rw [show n / 10 = 0 by omega, dcR_zero] at this; simpa using this
theorem dcR_bp {n k : Nat} (h : n < bp k) : (dcR n).length ≤ 10 * k := by
  induction k generalizing n with
  | zero => rw [bp_zero] at h; obtain rfl : n = 0 := by omega
            simp [dcR_zero]
  | succ k ih =>
    rw [bp_succ] at h
    have h1 := dcR_step n
    have h2 := dcR_step (n / 10)
    have h3 := dcR_step (n / 10 / 10)
    have h4 := dcR_step (n / 10 / 10 / 10)
    have h5 := dcR_step (n / 10 / 10 / 10 / 10)
    have h6 := dcR_step (n / 10 / 10 / 10 / 10 / 10)
    have h7 := dcR_step (n / 10 / 10 / 10 / 10 / 10 / 10)
    have h8 := dcR_step (n / 10 / 10 / 10 / 10 / 10 / 10 / 10)
    have h9 := dcR_step (n / 10 / 10 / 10 / 10 / 10 / 10 / 10 / 10)
    have h10 := dcR_step (n / 10 / 10 / 10 / 10 / 10 / 10 / 10 / 10 / 10)
    have := @ih (n / 10 / 10 / 10 / 10 / 10 / 10 / 10 / 10 / 10 / 10) (by omega)
    omega
theorem dcR_mono {m n : Nat} (h : m ≤ n) : (dcR m).length ≤ (dcR n).length := by
  induction n using Nat.strongRecOn generalizing m with
  | _ n ih =>
    by_cases h0 : m = 0
    · subst h0; simp [dcR_zero]
    · rw [dcR_pos h0, dcR_pos (show n ≠ 0 by omega)]
      have := @ih (n / 10) (by omega) (m / 10) (by omega)
      simp; omega
theorem dcR_lt_div {m : Nat} (h : m ≠ 0) : (dcR (m / 1000000000)).length < (dcR m).length := by
  rw [dcR_pos h]
  have := @dcR_mono (m / 1000000000) (m / 10) (by omega)
  simp; omega
theorem toL_mono {m n : Nat} (h : m ≤ n) : (toL m).length ≤ (toL n).length := by
  rcases Nat.lt_or_ge (toL n).length (toL m).length with h1 | h1
  · have := toL_len_lt h1; omega
  · exact h1
theorem dec_ne {n : Nat} (h : n ≠ 0) : dec n = (dcR n).reverse := by unfold dec; rw [if_neg h]
theorem dcR_ne_nil {n : Nat} (h : n ≠ 0) : dcR n ≠ [] := by rw [dcR_pos h]; simp
/-! ### digits.nine -/
theorem ofNat_dig (y : Nat) : UInt8.ofNat (((48 + y % 10) % 4294967296) % 256) = dg y := by
  unfold dg; congr 1; omega
def tl9 (a : M_A9_u8) : List Nat := [a.a0, a.a1, a.a2, a.a3, a.a4, a.a5, a.a6, a.a7, a.a8]
theorem tl9_ofl : ∀ l : List Nat, l.length = 9 → tl9 (ofl_A9_u8 l) = l
  | [a0, a1, a2, a3, a4, a5, a6, a7, a8], _ => rfl
  | [], h => by simp at h
  | [_], h => by simp at h
  | [_, _], h => by simp at h
  | [_, _, _], h => by simp at h
  | [_, _, _, _], h => by simp at h
  | [_, _, _, _, _], h => by simp at h
  | [_, _, _, _, _, _], h => by simp at h
  | [_, _, _, _, _, _, _], h => by simp at h
  | [_, _, _, _, _, _, _, _], h => by simp at h
  | _ :: _ :: _ :: _ :: _ :: _ :: _ :: _ :: _ :: _ :: _, h => by simp at h
theorem decF_snoc (k n : Nat) : decF (k + 1) n = decF k n ++ [dg (n / tp k)] := by rw [decF_add]; rfl
theorem m_digits_nine_eq {n x : Nat} (hn : big ≤ n) : m_digits_nine n x = some (decF 9 x).reverse := by
  unfold m_digits_nine
  unfold big at hn
  refine loop_bind (fun s => (s.2.2 + 1).toNat) (fun s => ∃ (k : Nat) (p qs : List Nat), s.2.2 = (k : Int) - 1 ∧ k ≤ 9 ∧ tl9 s.2.1 = p ++ qs ∧ p.length = k ∧ qs.length = 9 - k ∧ bS qs = (decF (9 - k) x).reverse ∧ s.1 = x / tp (9 - k))
    (fun t => bS (tl9 t) = (decF 9 x).reverse) ⟨9, [0, 0, 0, 0, 0, 0, 0, 0, 0], [], rfl, by omega, rfl, rfl, rfl, rfl, by simp [tp_zero]⟩ (by simp only []; omega) ?_ ?_
  · rintro ⟨y, a, i⟩ ⟨k, p, qs, h1, h2, h3, h4, h5, h6, h7⟩
    simp only at h1 h3 h7
    subst h1 h7
    simp only [bifd]
    by_cases h0 : 0 < k
    · obtain ⟨j, rfl⟩ : ∃ j, k = j + 1 := ⟨k - 1, by omega⟩
      left
      have hta : ([a.a0, a.a1, a.a2, a.a3, a.a4, a.a5, a.a6, a.a7, a.a8] : List Nat) = tl9 a := rfl
      obtain ⟨p', z, rfl⟩ : ∃ p' z, p = p' ++ [z] := ⟨p.dropLast, p.getLast (by intro h; rw [h] at h4; simp at h4), (List.dropLast_concat_getLast _).symm⟩
      have hp' : p'.length = j := by simpa using h4
      rw [if_pos (by omega), hta, h3, show ((j + 1 : Nat) : Int) - 1 = (j : Nat) by omega, List.append_assoc, List.singleton_append, get_mid' hp', sbind, set_mid' hp', w64 (by omega) (by omega)]
      refine ⟨_, rfl, ⟨j, p', ((48 + x / tp (9 - (j + 1)) % 10) % 4294967296) % 256 :: qs, rfl, by omega, ?_, hp', by simp; omega, ?_, ?_⟩, by simp only []; omega⟩
      · simp only []; rw [tl9_ofl]; simp; omega
      · simp only [bS, List.map_cons] at h6 ⊢
        rw [h6, ofNat_dig, show 9 - j = (9 - (j + 1)) + 1 by omega, decF_snoc]; simp
      · simp only []; rw [show 9 - j = (9 - (j + 1)) + 1 by omega, tp_succ, Nat.div_div_eq_div_mul]
    · right
      obtain rfl : k = 0 := by omega
      obtain rfl : p = [] := List.eq_nil_of_length_eq_zero h4
      rw [if_neg (by omega)]
      exact ⟨_, rfl, by rw [h3]; simpa using h6⟩
  · intro t ht
    rw [sbind]
    exact congrArg some ht
/-! ### digits.Text -/
theorem dg_toNat (y : Nat) : (dg y).toNat = 48 + y % 10 := by unfold dg; rw [UInt8.toNat_ofNat']; omega
theorem dg_ne {y : Nat} (h : y % 10 ≠ 0) : dg y ≠ 48 := by
  intro e
  have := congrArg UInt8.toNat e
  rw [dg_toNat] at this
  have e2 : (48 : UInt8).toNat = 48 := rfl
  omega
theorem dcR_last {n : Nat} (h : n ≠ 0) : ∃ p c, dcR n = p ++ [c] ∧ c ≠ 48 := by
  induction n using Nat.strongRecOn with
  | _ n ih =>
    rw [dcR_pos h]
    by_cases h1 : n / 10 = 0
    · exact ⟨[], dg n, by rw [h1, dcR_zero]; rfl, dg_ne (by omega)⟩
    · obtain ⟨p, c, e, hc⟩ := ih (n / 10) (by omega) h1
      exact ⟨dg n :: p, c, by rw [e]; rfl, hc⟩
theorem m_digits_Text_eq {n : Nat} {a : List Nat} (hn : big ≤ n) (ha : a.length ≤ 1000000000) (hw : Wd a) : m_digits_Text n a = some (dec (val a)) := by
  unfold m_digits_Text
  rw [m_nat_Zero_eq hn (by omega) hw, sbind, bifd]
  by_cases hz : val a = 0
  · rw [if_pos hz, hz]; rfl
  rw [if_neg hz]
  have hV := dcR_bp (val_lt hw)
  obtain ⟨V, hVe⟩ : ∃ V, V = val a := ⟨_, rfl⟩
  rw [← hVe] at hz hV ⊢
  unfold big at hn
  refine loop_bind (fun s => (dcR (val s.1)).length) (fun s => ∃ k : Nat, Wd s.1 ∧ s.1.length ≤ 1000000000 ∧ val s.1 = V / tp (9 * k) ∧ s.2.length = k ∧ s.2.reverse.flatten = (decF (9 * k) V).reverse ∧ (∀ c ∈ s.2, c.length = 9) ∧ k + (dcR (val s.1)).length ≤ (dcR V).length)
    (fun t => ∃ k : Nat, V < tp (9 * k) ∧ t.length = k ∧ t.reverse.flatten = (decF (9 * k) V).reverse ∧ (∀ c ∈ t, c.length = 9) ∧ k ≤ 10000000000) ⟨0, hw, ha, by simp [tp_zero, hVe], rfl, by simp [decF], (fun _ h => by cases h), by rw [hVe]; simp⟩ (by simp only []; rw [← hVe]; omega) ?_ ?_
  · rintro ⟨x, l⟩ ⟨k, h1, h2, h3, h4, h5, h6, h7⟩
    simp only at h1 h2 h3 h4 h5 h6 h7
    simp only []
    rw [m_nat_Zero_eq (by unfold big; exact hn) (by omega) h1, sbind, bifnd]
    by_cases hx : val x = 0
    · right
      rw [if_pos hx]
      refine ⟨_, rfl, k, ?_, h4, h5, h6, by omega⟩
      rw [hx] at h3
      exact (Nat.div_eq_zero_iff_lt (tp_pos _)).1 h3.symm
    · left
      have hlt := dcR_lt_div hx
      rw [if_neg hx, m_quot_Word_eq (by unfold big; exact hn) (by omega) h1 (by omega) (by omega), sbind, m_digits_nine_eq (by unfold big; exact hn), sbind, appM_ok (by simp; omega) (by simp; omega), sbind]
      refine ⟨_, rfl, ⟨k + 1, Wd_toL _, ?_, ?_, by simp [h4], ?_, ?_, ?_⟩, by simp only []; rw [val_toL]; exact hlt⟩
      · have := toL_mono (Nat.div_le_self (val x) 1000000000)
        rw [toL_val h1] at this
        have := trimZ_length x
        simp only []; omega
      · simp only []; rw [val_toL, h3, Nat.mul_add, tp_add, Nat.div_div_eq_div_mul]; rfl
      · simp only [List.reverse_append, List.reverse_cons, List.reverse_nil, List.nil_append, List.singleton_append, List.flatten_cons]
        have e9 : (1000000000 : Nat) = tp 9 := by decide
        rw [h5, h3, e9, decF_mod, Nat.mul_add, decF_add, List.reverse_append]
      · intro c hc
        rcases List.mem_append.1 hc with h | h
        · exact h6 c h
        · rw [List.mem_singleton.1 h, List.length_reverse, decF_length]
      · simp only []; rw [val_toL]; omega
  · rintro l ⟨k, h1, h2, h3, h4, h5⟩
    rw [w64 (by omega) (by omega)]
    refine loop_bind (fun s => (s.2 + 1).toNat) (fun s => ∃ j : Nat, s.2 = (j : Int) - 1 ∧ j ≤ k ∧ s.1 = (l.drop j).reverse.flatten ∧ s.1.length = 9 * (k - j)) (fun t => t = l.reverse.flatten) ⟨k, by simp only []; omega, Nat.le_refl _, by simp only []; rw [List.drop_of_length_le (by omega)]; rfl, by simp⟩ (by simp only []; omega) ?_ ?_
    · rintro ⟨b, i⟩ ⟨j, g1, g2, g3, g4⟩
      simp only at g1 g3 g4
      subst g1
      simp only [bifd]
      by_cases h0 : 0 < j
      · obtain ⟨i, rfl⟩ : ∃ i, j = i + 1 := ⟨j - 1, by omega⟩
        have hi : i < l.length := by omega
        have hc := h4 _ (List.getElem_mem hi)
        left
        rw [if_pos (by omega), show ((i + 1 : Nat) : Int) - 1 = (i : Nat) by omega, getI_get hi, sbind, appM_ok (by omega) (by omega), sbind, w64 (by omega) (by omega)]
        refine ⟨_, rfl, ⟨i, rfl, by omega, ?_, by simp only []; rw [List.length_append]; omega⟩, by simp only []; omega⟩
        simp only []
        rw [List.drop_eq_getElem_cons hi, List.reverse_cons, List.flatten_append, ← g3]; simp
      · right
        obtain rfl : j = 0 := by omega
        rw [if_neg (by omega)]
        exact ⟨_, rfl, by rw [g3]; rfl⟩
    · rintro t rfl
      rw [h3]
      unfold m_strings_TrimLeft
      simp only []
      rw [if_pos (by decide), sbind, dec_ne hz]
      congr 1
      obtain ⟨e, hl⟩ := decF_eq h1
      rw [e, List.reverse_append, List.reverse_replicate, List.dropWhile_append_of_pos (by intro c hc; rw [(List.mem_replicate.1 hc).2]; rfl)]
      obtain ⟨p, c, e2, hc⟩ := dcR_last hz
      rw [e2, List.reverse_append]
      simp only [List.reverse_cons, List.reverse_nil, List.nil_append, List.singleton_append]
      rw [List.dropWhile_cons_of_neg (by simpa using hc)]
theorem dec_length (V : Nat) : (dec V).length ≤ (dcR V).length + 1 := by
  unfold dec; split <;> simp
theorem m_ref07_Text_eq {n : Nat} {a : List Nat} (hn : big ≤ n) (ha : a.length ≤ 1000000000) (hw : Wd a) : m_retrospectref07_Text n a = some (dec (val a)) := by
  unfold m_retrospectref07_Text
  have hV := dcR_bp (val_lt hw)
  have hdl := dec_length (val a)
  rw [m_ref02_Norm_eq hn (by omega), sbind, ← toL_val hw]
  have hlen : (toL (val a)).length ≤ 1000000000 := by rw [toL_val hw]; exact Nat.le_trans (trimZ_length a) ha
  generalize val a = V at *
  unfold big at hn
  refine loop_bind (fun s => (dcR (val s.1)).length + (if s.2 = [] then 1 else 0)) (fun s => ∃ m : Nat, s.1 = toL m ∧ m ≤ V ∧ ((s.2 = [] ∧ m = V) ∨ (s.2 ≠ [] ∧ (dcR m).reverse ++ s.2 = dec V)) ∧ s.2.length + (dcR m).length ≤ (dcR V).length + 1)
    (fun t => t = dec V) ⟨V, rfl, Nat.le_refl _, .inl ⟨rfl, rfl⟩, by simp⟩ (by simp only [val_toL, if_true]; omega) ?_ ?_
  · rintro ⟨x, s⟩ ⟨m, h1, h2, h3, h4⟩
    simp only at h1 h3 h4
    subst h1
    have hml := toL_mono h2
    have hgo : (0 < (toL m).length ∨ s = []) → (∃ s', (m_retrospectref07_ten n (toL m)).bind (fun r33 => (sub ([48, 49, 50, 51, 52, 53, 54, 55, 56, 57] : List UInt8) (r33.1 : Int) (((r33.1 + 1) % 18446744073709551616) : Int)).bind fun y35 => (catS y35 s).bind fun y37 => (m_retrospectref02_Norm n r33.2).bind fun r39 => some (Lp.go (σ := List Nat × List UInt8) (τ := List UInt8) (r39, y37))) = some (.go s') ∧
        (∃ m : Nat, s'.1 = toL m ∧ m ≤ V ∧ ((s'.2 = [] ∧ m = V) ∨ (s'.2 ≠ [] ∧ (dcR m).reverse ++ s'.2 = dec V)) ∧ s'.2.length + (dcR m).length ≤ (dcR V).length + 1) ∧ (dcR (val s'.1)).length + (if s'.2 = [] then 1 else 0) < (dcR (val (toL m))).length + (if s = [] then 1 else 0)) := by
      intro hgo
      obtain ⟨r, e1, e2, e3, e4⟩ := m_ref07_ten_eq (n := n) (a := toL m) (by unfold big; exact hn) (by omega) (Wd_toL m)
      rw [val_toL] at e1 e4
      have hd : sub ([48, 49, 50, 51, 52, 53, 54, 55, 56, 57] : List UInt8) ((m % 10 : Nat) : Int) (((m % 10 : Nat) : Int) + 1) = some [dg m] := by
        have key : ∀ d : Nat, d < 10 → sub ([48, 49, 50, 51, 52, 53, 54, 55, 56, 57] : List UInt8) (d : Int) ((d : Int) + 1) = some [UInt8.ofNat (48 + d)] := by decide
        rw [key _ (by omega)]; rfl
      rw [e1, sbind]
      simp only []
      rw [show ((((m % 10 : Nat) : Int) + 1) % 18446744073709551616) = ((m % 10 : Nat) : Int) + 1 by omega, hd, sbind, catS_ok (by simp; omega), sbind, m_ref02_Norm_eq (by unfold big; exact hn) (by omega), sbind, ← toL_val e3, e4]
      have hcons : [dg m] ++ s ≠ [] := by simp
      by_cases hm : m = 0
      · subst hm
        have hs : s = [] := by
          rcases hgo with h | h
          · rw [toL_zero] at h; simp at h
          · exact h
        subst hs
        rcases h3 with ⟨_, h⟩ | ⟨h, _⟩
        · subst h
          refine ⟨_, rfl, ⟨0, by simp [toL_zero], Nat.le_refl _, .inr ⟨hcons, ?_⟩, by simp [dcR_zero]⟩, ?_⟩
          · rw [dcR_zero]; unfold dec; rw [if_pos rfl]; rfl
          · simp [toL_zero, val, dcR_zero]
        · exact absurd rfl h
      · have hdr := dcR_pos hm
        refine ⟨_, rfl, ⟨m / 10, rfl, by omega, .inr ⟨hcons, ?_⟩, ?_⟩, ?_⟩
        · rcases h3 with ⟨hs, h⟩ | ⟨hs, h⟩
          · subst hs h
            rw [dec_ne hm, hdr]; simp
          · rw [← h, hdr]; simp
        · rw [hdr, List.length_cons] at h4; simp; omega
        · simp only [val_toL]
          rw [if_neg hcons, hdr, List.length_cons]; split <;> omega
    simp only [jn_eq, bifd]
    by_cases h0 : 0 < (toL m).length
    · left
      rw [if_pos (by omega), bifT]
      exact hgo (.inl h0)
    · rw [if_neg (by omega)]
      by_cases hs : s = []
      · left
        rw [if_pos hs]
        exact hgo (.inr hs)
      · right
        rw [if_neg hs]
        refine ⟨s, rfl, ?_⟩
        have hm : m = 0 := by
          rcases Nat.eq_zero_or_pos m with h | h
          · exact h
          · rw [toL_pos (by omega)] at h0; simp at h0
        rcases h3 with ⟨h, _⟩ | ⟨_, h⟩
        · exact absurd h hs
        · rw [hm, dcR_zero] at h; simpa using h
  · rintro t rfl; rfl
/-! ### The place of what is no digit -/
def wrongAt : List UInt8 → Nat → Option Nat
  | [], _ => none
  | c :: s, i => if c.toNat < 48 ∨ 57 < c.toNat ∨ 60 ≤ i then some i else wrongAt s (i + 1)
def wrongI (s : List UInt8) : Int := match wrongAt s 0 with
  | some i => i
  | none => if s = [] then 0 else -1
theorem wrongAt_le {s : List UInt8} {i j : Nat} (h : wrongAt s i = some j) : i ≤ j ∧ j < i + s.length ∧ (i ≤ 60 → j ≤ 60) := by
  induction s generalizing i with
  | nil => cases h
  | cons c s ih =>
    simp only [wrongAt] at h
    split at h
    · cases h; simp
    · have := ih h; simp; omega
theorem m_digits_wrong_eq {n : Nat} {s : List UInt8} (hn : big ≤ n) (hs : s.length ≤ maxLen) : m_digits_wrong n s = some (wrongI s) := by
  unfold m_digits_wrong
  unfold big at hn
  unfold maxLen at hs
  refine loop_bind (fun i => s.length - i.toNat) (fun i => ∃ k : Nat, i = k ∧ k ≤ s.length ∧ k ≤ 60 ∧ wrongAt s 0 = wrongAt (s.drop k) k) (fun t => (t = .go () ∧ wrongAt s 0 = none) ∨ ∃ k : Nat, t = .out (k : Int) ∧ wrongAt s 0 = some k) ⟨0, rfl, Nat.zero_le _, by omega, by simp⟩ (by omega) ?_ ?_
  · rintro i ⟨k, rfl, hk, hk6, hw⟩
    simp only [bifd, jn_eq]
    by_cases h : k < s.length
    · rw [if_pos (by omega), getS_get h, sbind, sbind]
      rw [List.drop_eq_getElem_cons h] at hw
      simp only [wrongAt] at hw
      by_cases h1 : s[k].toNat < 48
      · right
        rw [if_pos h1, bifT]
        rw [if_pos (.inl h1)] at hw
        exact ⟨_, rfl, .inr ⟨k, rfl, hw⟩⟩
      · rw [if_neg h1]
        by_cases h2 : 57 < s[k].toNat
        · right
          rw [if_pos h2, bifT]
          rw [if_pos (.inr (.inl h2))] at hw
          exact ⟨_, rfl, .inr ⟨k, rfl, hw⟩⟩
        · rw [if_neg h2]
          by_cases h3 : k = 60
          · right
            rw [if_pos (by omega)]
            rw [if_pos (.inr (.inr (by omega)))] at hw
            exact ⟨_, rfl, .inr ⟨k, rfl, hw⟩⟩
          · left
            rw [if_neg (by omega), w64 (by omega) (by omega)]
            rw [if_neg (by omega)] at hw
            exact ⟨_, rfl, ⟨k + 1, by omega, by omega, by omega, hw⟩, by omega⟩
    · right
      rw [if_neg (by omega)]
      rw [List.drop_of_length_le (by omega)] at hw
      exact ⟨_, rfl, .inl ⟨rfl, hw⟩⟩
  · rintro t (⟨rfl, h⟩ | ⟨k, rfl, h⟩)
    · rw [lpK_go, bifd]
      unfold wrongI
      rw [h]
      simp only []
      split <;> rfl
    · rw [lpK_out]; unfold wrongI; rw [h]
theorem m_ref07_Wrong_eq {n : Nat} {s : List UInt8} (hn : big ≤ n) (hs : s.length ≤ maxLen) : m_retrospectref07_Wrong n s = some (wrongI s) := by
  unfold m_retrospectref07_Wrong
  unfold big at hn
  unfold maxLen at hs
  rw [bifd]
  by_cases h0 : s = []
  · subst h0; rw [if_pos rfl]; rfl
  rw [if_neg h0]
  refine loop_bind (fun i => s.length - i.toNat) (fun i => ∃ k : Nat, i = k ∧ k ≤ s.length ∧ wrongAt s 0 = wrongAt (s.drop k) k) (fun t => (t = .go () ∧ wrongAt s 0 = none) ∨ ∃ k : Nat, t = .out (k : Int) ∧ wrongAt s 0 = some k) ⟨0, rfl, Nat.zero_le _, by simp⟩ (by omega) ?_ ?_
  · rintro i ⟨k, rfl, hk, hw⟩
    simp only [bifd, jn_eq]
    by_cases h : k < s.length
    · rw [if_pos (by omega), getS_get h, sbind, sbind]
      rw [List.drop_eq_getElem_cons h] at hw
      simp only [wrongAt] at hw
      by_cases h1 : s[k].toNat < 48
      · right
        rw [if_pos h1, bifT]
        rw [if_pos (.inl h1)] at hw
        exact ⟨_, rfl, .inr ⟨k, rfl, hw⟩⟩
      · rw [if_neg h1]
        by_cases h2 : 57 < s[k].toNat
        · right
          rw [if_pos h2, bifT]
          rw [if_pos (.inr (.inl h2))] at hw
          exact ⟨_, rfl, .inr ⟨k, rfl, hw⟩⟩
        · rw [if_neg h2]
          by_cases h3 : 60 ≤ k
          · right
            rw [if_pos (by omega)]
            rw [if_pos (.inr (.inr (by omega)))] at hw
            exact ⟨_, rfl, .inr ⟨k, rfl, hw⟩⟩
          · left
            rw [if_neg (by omega), w64 (by omega) (by omega)]
            rw [if_neg (by omega)] at hw
            exact ⟨_, rfl, ⟨k + 1, by omega, by omega, hw⟩, by omega⟩
    · right
      rw [if_neg (by omega)]
      rw [List.drop_of_length_le (by omega)] at hw
      exact ⟨_, rfl, .inl ⟨rfl, hw⟩⟩
  · rintro t (⟨rfl, h⟩ | ⟨k, rfl, h⟩)
    · rw [lpK_go]
      unfold wrongI
      rw [h]
      simp only []
      rw [if_neg h0]
    · rw [lpK_out]; unfold wrongI; rw [h]
/-! ### The number of digits -/
def isD (s : List UInt8) : Prop := ∀ c ∈ s, 48 ≤ c.toNat ∧ c.toNat ≤ 57
def numD : List UInt8 → Nat → Nat
  | [], v => v
  | c :: s, v => numD s (v * 10 + (c.toNat - 48))
theorem numD_snoc (s : List UInt8) (c : UInt8) (v : Nat) : numD (s ++ [c]) v = numD s v * 10 + (c.toNat - 48) := by
  induction s generalizing v with
  | nil => rfl
  | cons x s ih => simp only [List.cons_append, numD, ih]
theorem wrongAt_none {s : List UInt8} {i : Nat} (h : wrongAt s i = none) : isD s ∧ (s ≠ [] → i + s.length ≤ 60) := by
  induction s generalizing i with
  | nil => exact ⟨(fun _ h => by cases h), fun h => absurd rfl h⟩
  | cons c s ih =>
    simp only [wrongAt] at h
    split at h
    · cases h
    · rename_i hc
      obtain ⟨h1, h2⟩ := ih h
      refine ⟨fun x hx => ?_, fun _ => ?_⟩
      · rcases List.mem_cons.1 hx with rfl | hx
        · omega
        · exact h1 x hx
      · by_cases hs : s = []
        · subst hs; simp; omega
        · have := h2 hs; simp; omega
theorem wrongI_neg {s : List UInt8} (h : wrongI s < 0) : isD s ∧ s ≠ [] ∧ s.length ≤ 60 := by
  unfold wrongI at h
  split at h
  · omega
  · rename_i hw
    obtain ⟨h1, h2⟩ := wrongAt_none hw
    split at h
    · omega
    · rename_i hs; exact ⟨h1, hs, by have := h2 hs; omega⟩
theorem tp_le {j k : Nat} (h : j ≤ k) : tp j ≤ tp k := by unfold tp; exact Nat.pow_le_pow_right (by decide) h
theorem read_step (V t x d : Nat) : (V * t + x) * 10 + d = V * (t * 10) + (x * 10 + d) := by grind
theorem toL_len_bp {n k : Nat} (h : n < bp k) : (toL n).length ≤ k := toL_length h
theorem numD_lt {s : List UInt8} (h : isD s) (v k : Nat) (hv : v < tp k) : numD s v < tp (k + s.length) := by
  induction s generalizing v k with
  | nil => simpa [numD] using hv
  | cons c s ih =>
    obtain ⟨h1, h2⟩ := h c List.mem_cons_self
    have := ih (fun x hx => h x (List.mem_cons_of_mem _ hx)) (v * 10 + (c.toNat - 48)) (k + 1) (by rw [tp_succ]; omega)
    simp only [numD, List.length_cons]
    rw [show k + (s.length + 1) = k + 1 + s.length by omega]; exact this
theorem tp_bp (k : Nat) : tp k ≤ bp k := by
  induction k with
  | zero => rw [tp_zero, bp_zero]; omega
  | succ k ih => rw [tp_succ, bp_succ]; exact Nat.mul_le_mul ih (by omega)
theorem numD_len {s : List UInt8} (h : isD s) : (toL (numD s 0)).length ≤ s.length :=
  toL_length (Nat.lt_of_lt_of_le (by simpa using numD_lt h 0 0 (by rw [tp_zero]; omega)) (tp_bp _))
theorem isD_take {s : List UInt8} {k : Nat} (h : isD s) : isD (s.take k) := fun c hc => h c (List.mem_of_mem_take hc)
theorem m_digits_Read_eq {n : Nat} {s : List UInt8} (hn : big ≤ n) (hs : s.length ≤ maxLen) :
    m_digits_Read n s = some (if 0 ≤ wrongI s then ([], ⟨1, 0, 0, wrongI s⟩) else (toL (numD s 0), ⟨0, 0, 0, 0⟩)) := by
  unfold m_digits_Read
  rw [m_digits_wrong_eq hn hs, sbind, bifd]
  by_cases hw : 0 ≤ wrongI s
  · rw [if_pos hw, if_pos hw]
  rw [if_neg hw, if_neg hw]
  obtain ⟨hD, hne, hl⟩ := wrongI_neg (show wrongI s < 0 by omega)
  unfold big at hn
  refine loop_bind (fun t => s.length - t.2.toNat) (fun t => ∃ k : Nat, t.2 = k ∧ k ≤ s.length ∧ t.1 = toL (numD (s.take k) 0)) (fun t => t = toL (numD s 0)) ⟨0, rfl, Nat.zero_le _, by simp [numD, toL_zero]⟩ (by simp only []; omega) ?_ ?_
  · rintro ⟨o, i⟩ ⟨k, h1, h2, h3⟩
    simp only at h1 h3
    subst h1 h3
    simp only [bifd]
    by_cases hk : k < s.length
    · left
      rw [if_pos (by omega)]
      refine loop_bindX (fun t => 9 - t.2.2.2.toNat) (fun t => ∃ j : Nat, t.1 = ((k + j : Nat) : Int) ∧ t.2.2.2 = j ∧ j ≤ 9 ∧ k + j ≤ s.length ∧ t.2.2.1 = tp j ∧ t.2.1 < tp j ∧ numD (s.take (k + j)) 0 = numD (s.take k) 0 * tp j + t.2.1)
        (fun t => ∃ j : Nat, 0 < j ∧ t.1 = ((k + j : Nat) : Int) ∧ j ≤ 9 ∧ k + j ≤ s.length ∧ t.2.2 = tp j ∧ t.2.1 < tp j ∧ numD (s.take (k + j)) 0 = numD (s.take k) 0 * tp j + t.2.1) ⟨0, rfl, rfl, by omega, by omega, by simp [tp_zero], by simp [tp_zero], by simp [tp_zero]⟩ (by simp only []; omega) ?_ ?_
      · rintro ⟨i, x, m, c⟩ ⟨j, g1, g2, g3, g4, g5, g6, g7⟩
        simp only at g1 g2 g5 g6 g7
        subst g1 g2 g5
        have htp9 : tp j ≤ 1000000000 := by have := tp_le g3; rw [show tp 9 = 1000000000 by decide] at this; exact this
        have hgo : j < 9 → k + j < s.length → (∃ s', (getS s ((k + j : Nat) : Int)).bind (fun y63 => (some (((((x * 10) % 4294967296) + ((y63 + 256 - 48) % 256)) % 4294967296))).bind fun z65 => some (Lp.go (σ := Int × Nat × Nat × Int) (τ := Int × Nat × Nat) (wrap64 (((k + j : Nat) : Int) + (1 : Int)), z65, ((tp j * 10) % 4294967296), wrap64 ((j : Int) + (1 : Int))))) = some (.go s') ∧
            (∃ j : Nat, s'.1 = ((k + j : Nat) : Int) ∧ s'.2.2.2 = j ∧ j ≤ 9 ∧ k + j ≤ s.length ∧ s'.2.2.1 = tp j ∧ s'.2.1 < tp j ∧ numD (s.take (k + j)) 0 = numD (s.take k) 0 * tp j + s'.2.1) ∧ 9 - s'.2.2.2.toNat < 9 - (j : Int).toNat) := by
          intro hj hkj
          obtain ⟨d1, d2⟩ := hD _ (List.getElem_mem hkj)
          have htp8 : tp j ≤ 100000000 := by have := tp_le (show j ≤ 8 by omega); rw [show tp 8 = 100000000 by decide] at this; exact this
          rw [getS_get hkj, sbind, sbind, w64 (by omega) (by omega), w64 (by omega) (by omega)]
          rw [Nat.mod_eq_of_lt (show x * 10 < 4294967296 by omega), show (s[k + j].toNat + 256 - 48) % 256 = s[k + j].toNat - 48 by omega, Nat.mod_eq_of_lt (show x * 10 + (s[k + j].toNat - 48) < 4294967296 by omega), Nat.mod_eq_of_lt (show tp j * 10 < 4294967296 by omega)]
          refine ⟨_, rfl, ⟨j + 1, by simp only []; omega, by simp only []; omega, by omega, by omega, by simp only []; rw [tp_succ], by simp only []; rw [tp_succ]; omega, ?_⟩, by simp only []; omega⟩
          rw [show k + (j + 1) = k + j + 1 by omega, take_succ_get hkj, numD_snoc, g7, tp_succ]
          exact read_step _ _ _ _
        simp only [jn_eq, bifd]
        by_cases h9 : j < 9
        · rw [if_pos (by omega)]
          by_cases hl2 : k + j < s.length
          · left; rw [if_pos (by omega)]; exact hgo h9 hl2
          · right; rw [if_neg (by omega)]
            exact ⟨_, rfl, j, by omega, rfl, by omega, by omega, rfl, g6, g7⟩
        · right; rw [if_neg (by omega), bifF]
          exact ⟨_, rfl, j, by omega, rfl, by omega, by omega, rfl, g6, g7⟩
      · rintro ⟨i, x, m⟩ ⟨j, g0, g1, g2, g3, g4, g5, g6⟩
        simp only at g1 g4 g5 g6
        subst g1 g4
        have htp9 : tp j ≤ 1000000000 := by have := tp_le g2; rw [show tp 9 = 1000000000 by decide] at this; exact this
        have hlen := numD_len (isD_take (k := k) hD)
        rw [List.length_take] at hlen
        simp only []
        rw [m_prod_Word_eq (by unfold big; exact hn) (by omega) (Wd_toL _) (by omega) (by omega), sbind, val_toL, ← g6]
        exact ⟨_, rfl, ⟨k + j, rfl, g3, rfl⟩, by simp only []; omega⟩
    · right
      obtain rfl : k = s.length := by omega
      rw [if_neg (by omega)]
      exact ⟨_, rfl, by rw [List.take_of_length_le (Nat.le_refl _)]⟩
  · rintro t rfl; rfl
theorem m_ref07_Read_eq {n : Nat} {s : List UInt8} (hn : big ≤ n) (hD : isD s) (hs : s.length ≤ 1000000) : m_retrospectref07_Read n s = some (toL (numD s 0)) := by
  unfold m_retrospectref07_Read
  unfold big at hn
  refine loop_bind (fun t => s.length - t.2.toNat) (fun t => ∃ k : Nat, t.2 = k ∧ k ≤ s.length ∧ t.1 = toL (numD (s.take k) 0)) (fun t => t = toL (numD s 0)) ⟨0, rfl, Nat.zero_le _, by simp [numD, toL_zero]⟩ (by simp only []; omega) ?_ ?_
  · rintro ⟨o, i⟩ ⟨k, h1, h2, h3⟩
    simp only at h1 h3
    subst h1 h3
    simp only [bifd]
    by_cases hk : k < s.length
    · left
      obtain ⟨d1, d2⟩ := hD _ (List.getElem_mem hk)
      have hlen := numD_len (isD_take (k := k) hD)
      rw [List.length_take] at hlen
      have hmul : m_retrospectref04_Mul n (toL (numD (s.take k) 0)) [10] = some (toL (numD (s.take k) 0 * 10)) := by
        rw [m_ref04_Mul_eq (by unfold big; exact hn) (by omega) (by simp) (Wd_toL _) (Wd_cons.2 ⟨by omega, Wd_nil⟩), val_toL]; simp [val]
      have hl2 : (toL (numD (s.take k) 0 * 10)).length ≤ 2000000 := by
        have h1 := numD_lt (isD_take (k := k) hD) 0 0 (by rw [tp_zero]; omega)
        have h2 : numD (s.take k) 0 * 10 < tp (0 + (s.take k).length + 1) := by rw [tp_succ]; omega
        have := toL_length (Nat.lt_of_lt_of_le h2 (tp_bp _))
        rw [List.length_take] at this; omega
      rw [if_pos (by omega), hmul, sbind, getS_get hk, sbind, show (s[k].toNat + 4294967296 - 48) % 4294967296 = s[k].toNat - 48 by omega]
      rw [m_ref02_Add_eq (by unfold big; exact hn) (by omega) (by simp) (Wd_toL _) (Wd_cons.2 ⟨by omega, Wd_nil⟩), sbind, val_toL, w64 (by omega) (by omega)]
      refine ⟨_, rfl, ⟨k + 1, by simp only []; omega, by omega, ?_⟩, by simp only []; omega⟩
      rw [take_succ_get hk, numD_snoc]; simp [val]
    · right
      obtain rfl : k = s.length := by omega
      rw [if_neg (by omega)]
      exact ⟨_, rfl, by rw [List.take_of_length_le (Nat.le_refl _)]⟩
  · rintro t rfl; rfl
theorem eqb_self (f : M_api_Fault) : eqb_api_Fault f f = true := by simp [eqb_api_Fault]
/-! ### There and back -/
theorem dcR_isD {n : Nat} : isD (dcR n) := by
  induction n using Nat.strongRecOn with
  | _ n ih =>
    by_cases h : n = 0
    · subst h; rw [dcR_zero]; exact fun _ h => by cases h
    · rw [dcR_pos h]
      intro c hc
      rcases List.mem_cons.1 hc with rfl | hc
      · rw [dg_toNat]; omega
      · exact ih (n / 10) (by omega) c hc
theorem dec_isD {n : Nat} : isD (dec n) := by
  unfold dec
  split
  · intro c hc; rw [List.mem_singleton.1 hc]; decide
  · intro c hc; exact dcR_isD c (List.mem_reverse.1 hc)
theorem numD_dcR (n : Nat) : numD (dcR n).reverse 0 = n := by
  induction n using Nat.strongRecOn with
  | _ n ih =>
    by_cases h : n = 0
    · subst h; rw [dcR_zero]; rfl
    · rw [dcR_pos h, List.reverse_cons, numD_snoc, ih (n / 10) (by omega), dg_toNat]; omega
theorem numD_dec (n : Nat) : numD (dec n) 0 = n := by
  unfold dec
  split
  · rename_i h; rw [h]; rfl
  · exact numD_dcR n
theorem wrongAt_isD {s : List UInt8} {i : Nat} (h : isD s) (hi : i ≤ 60) : wrongAt s i = if 60 < i + s.length then some 60 else none := by
  induction s generalizing i with
  | nil => simp [wrongAt]; omega
  | cons c s ih =>
    obtain ⟨h1, h2⟩ := h c List.mem_cons_self
    simp only [wrongAt, List.length_cons]
    by_cases h6 : i = 60
    · rw [if_pos (by omega), if_pos (by omega), h6]
    · rw [if_neg (by omega), ih (fun x hx => h x (List.mem_cons_of_mem _ hx)) (by omega)]
      rw [show i + 1 + s.length = i + (s.length + 1) by omega]
theorem wrongI_isD {s : List UInt8} (h : isD s) (hne : s ≠ []) : wrongI s = if 60 < s.length then 60 else -1 := by
  unfold wrongI
  rw [wrongAt_isD h (by omega), Nat.zero_add]
  split
  · rename_i i hi
    split at hi
    · cases hi; rw [if_pos (by assumption)]; rfl
    · cases hi
  · rename_i hi
    split at hi
    · cases hi
    · rw [if_neg hne, if_neg (by assumption)]
def trimS : List UInt8 → List UInt8
  | [] => []
  | c :: s => if s ≠ [] ∧ c = 48 then trimS s else c :: s
theorem dec_snoc {v d : Nat} (hv : v ≠ 0) (hd : d < 10) : dec (v * 10 + d) = dec v ++ [UInt8.ofNat (48 + d)] := by
  rw [dec_ne (by omega), dec_ne hv, dcR_pos (by omega), List.reverse_cons, show (v * 10 + d) / 10 = v by omega]
  unfold dg
  rw [show (v * 10 + d) % 10 = d by omega]
theorem ofNat_toNat_dig {c : UInt8} (h1 : 48 ≤ c.toNat) : UInt8.ofNat (48 + (c.toNat - 48)) = c := by
  rw [show 48 + (c.toNat - 48) = c.toNat by omega]; exact UInt8.ofNat_toNat
theorem dec_numD {s : List UInt8} {v : Nat} (h : isD s) (hv : v ≠ 0) : dec (numD s v) = dec v ++ s := by
  induction s generalizing v with
  | nil => simp [numD]
  | cons c s ih =>
    obtain ⟨h1, h2⟩ := h c List.mem_cons_self
    simp only [numD]
    rw [ih (fun x hx => h x (List.mem_cons_of_mem _ hx)) (by omega), dec_snoc hv (by omega), ofNat_toNat_dig h1]; simp
theorem dec_digit {c : UInt8} (h1 : 48 ≤ c.toNat) (h2 : c.toNat ≤ 57) : dec (c.toNat - 48) = [c] := by
  by_cases h : c.toNat - 48 = 0
  · rw [h]
    have : c = 48 := by apply UInt8.toNat_inj.1; show c.toNat = 48; omega
    rw [this]; rfl
  · rw [dec_ne h, dcR_pos h, show (c.toNat - 48) / 10 = 0 by omega, dcR_zero]
    unfold dg
    rw [show (c.toNat - 48) % 10 = c.toNat - 48 by omega, ofNat_toNat_dig h1]; rfl
theorem dec_trimS {s : List UInt8} (h : isD s) (hne : s ≠ []) : dec (numD s 0) = trimS s := by
  induction s with
  | nil => exact absurd rfl hne
  | cons c s ih =>
    obtain ⟨h1, h2⟩ := h c List.mem_cons_self
    have hD := fun x hx => h x (List.mem_cons_of_mem _ hx)
    simp only [numD, Nat.zero_mul, Nat.zero_add, trimS]
    by_cases hs : s = []
    · subst hs; rw [if_neg (by simp)]; simp only [numD]; exact dec_digit h1 h2
    · by_cases hc : c = 48
      · subst hc
        rw [if_pos ⟨hs, rfl⟩]
        exact ih hD hs
      · rw [if_neg (by simp [hc]), dec_numD hD (by
          intro e
          apply hc
          apply UInt8.toNat_inj.1
          show c.toNat = 48
          omega), dec_digit h1 h2]; rfl
theorem m_ref07_Trim_eq {n : Nat} {s : List UInt8} (hn : big ≤ n) (hs : s.length ≤ maxLen) : m_retrospectref07_Trim n s = some (trimS s) := by
  unfold m_retrospectref07_Trim
  unfold big at hn
  unfold maxLen at hs
  refine loop_bind (fun t => t.length) (fun t => trimS t = trimS s ∧ t.length ≤ s.length) (fun t => t = trimS s) ⟨rfl, Nat.le_refl _⟩ (by omega) ?_ ?_
  · rintro t ⟨h1, h2⟩
    simp only [jn_eq, bifd]
    match t, h1, h2 with
    | [], h1, h2 => right; exact ⟨[], by simp, h1⟩
    | [c], h1, h2 => right; exact ⟨[c], by simp, by rw [← h1]; simp [trimS]⟩
    | c :: d :: t, h1, h2 =>
      rw [if_pos (by simp; omega), show (0 : Int) = ((0 : Nat) : Int) by rfl, getS_get (by simp), sbind]
      simp only [List.getElem_cons_zero]
      by_cases hc : c = 48
      · left
        subst hc
        rw [if_pos (by decide), show (1 : Int) = ((1 : Nat) : Int) by rfl, sub_mid (by simp) (Nat.le_refl _), sbind]
        refine ⟨d :: t, by simp, ⟨?_, by simp at h2 ⊢; omega⟩, by simp⟩
        rw [← h1]; simp [trimS]
      · right
        have : ¬ c.toNat = 48 := fun h => hc (UInt8.toNat_inj.1 h)
        rw [if_neg this]
        exact ⟨_, rfl, by rw [← h1]; simp [trimS, hc]⟩
  · rintro t rfl; rfl
end Go.Proofs.YtpomhkkhdojpiaaDoor
