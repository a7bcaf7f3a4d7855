import Derived.Test.YtiobbiamnjapgaaGreatDoorPlFlt
namespace Go.Proofs.YtiobbiamnjapgaaGreatDoor
open Go Go.RowKit
/-! ### Faults read, the document's way -/
def posC (c : Nat) : Nat → List UInt8 → List Nat
  | _, [] => []
  | i, x :: s => if ntc c x then posC c (i + 1) s else i :: posC c (i + 1) s
theorem posC_snoc (c : Nat) (x : UInt8) : ∀ (s : List UInt8) (i : Nat), posC c i (s ++ [x]) = posC c i s ++ if ntc c x then [] else [i + s.length]
  | [], i => by simp only [List.nil_append, posC, List.length_nil, Nat.add_zero]
  | y :: s, i => by
    have ih := posC_snoc c x s (i + 1)
    simp only [List.cons_append, posC, ih, List.length_cons]
    rw [show i + 1 + s.length = i + (s.length + 1) by omega]
    cases ntc c y <;> simp
theorem posC_len (c : Nat) : ∀ (s : List UInt8) (i : Nat), (posC c i s).length ≤ s.length
  | [], _ => by simp [posC]
  | y :: s, i => by
    have ih := posC_len c s (i + 1)
    unfold posC
    split <;> simp <;> omega
theorem posC_free {c : Nat} : ∀ {w : List UInt8} {i : Nat}, (∀ b ∈ w, b.toNat ≠ c) → posC c i w = []
  | [], _, _ => rfl
  | x :: w, i, h => by
    have hx : ntc c x = true := by simp [ntc, h x (.head _)]
    unfold posC; rw [hx, if_pos rfl, posC_free fun b hb => h b (.tail _ hb)]
theorem posC_app {c : Nat} : ∀ {w : List UInt8} {i : Nat}, (∀ b ∈ w, b.toNat ≠ c) → ∀ {x : UInt8}, x.toNat = c → ∀ r, posC c i (w ++ x :: r) = (i + w.length) :: posC c (i + w.length + 1) r
  | [], i, _, x, hx, r => by
    rw [List.nil_append, posC, if_neg (by simp [ntc, hx])]; rfl
  | y :: w, i, h, x, hx, r => by
    have hy : ntc c y = true := by simp [ntc, h y (.head _)]
    rw [List.cons_append, posC, hy, if_pos rfl, posC_app (fun b hb => h b (.tail _ hb)) hx r, List.length_cons, show i + 1 + w.length = i + (w.length + 1) by omega]
/-- The first cut. -/
theorem posC_cut {c : Nat} : ∀ {s : List UInt8} {i p : Nat} {ps : List Nat}, posC c i s = p :: ps → ∃ w x r, s = w ++ x :: r ∧ x.toNat = c ∧ (∀ b ∈ w, b.toNat ≠ c) ∧ p = i + w.length ∧ ps = posC c (p + 1) r
  | [], _, _, _, h => by cases h
  | y :: s, i, p, ps, h => by
    unfold posC at h
    cases hy : ntc c y
    · rw [hy, if_neg (by decide)] at h
      cases h
      exact ⟨[], y, s, rfl, by simpa [ntc] using hy, (fun b hb => by cases hb), rfl, rfl⟩
    · rw [hy, if_pos rfl] at h
      obtain ⟨w, x, r, rfl, h2, h3, h4, h5⟩ := posC_cut h
      refine ⟨y :: w, x, r, rfl, h2, fun b hb => ?_, by rw [h4, List.length_cons]; omega, h5⟩
      rcases List.mem_cons.1 hb with rfl | hb
      · simpa [ntc] using hy
      · exact h3 b hb
theorem posC_nil {c : Nat} : ∀ {s : List UInt8} {i : Nat}, posC c i s = [] → ∀ b ∈ s, b.toNat ≠ c
  | [], _, _, b, hb => by cases hb
  | y :: s, i, h, b, hb => by
    unfold posC at h
    cases hy : ntc c y
    · rw [hy, if_neg (by decide)] at h; cases h
    · rw [hy, if_pos rfl] at h
      rcases List.mem_cons.1 hb with rfl | hb
      · simpa [ntc] using hy
      · exact posC_nil h b hb
theorem cuts_loop {R : Type} {n : Nat} {s : List UInt8} {K : List Int → Option R} (hn : big ≤ n) (hs : s.length ≤ 1000000) : (loopM (τ := List Int) (fun (s27 : (List Int) × Int) =>
    bif decide (s27.2 < (s.length : Int)) then (
      jn (fun (j32 : ((List Int)) → Option _) =>
        (getS s s27.2).bind fun y35 =>
        bif decide (y35 = 32) then (
          (appM 8 s27.1 ([s27.2] : List Int)).bind fun y37 =>
          j32 y37)
        else (
          j32 s27.1)) (fun (s34 : (List Int)) =>
        some (Lp.go (s34, wrap64 (s27.2 + (1 : Int))))))
    else (
      some (Lp.out s27.1))) n (([] : List Int), (0 : Int))).bind K = K ((posC 32 0 s).map fun p : Nat => (p : Int)) := by
  rw [loop_acc (fun i => ((posC 32 0 (s.take i)).map (fun p : Nat => (p : Int)), (i : Int))) s.length ((posC 32 0 s).map fun p : Nat => (p : Int))]
  · intro i hi
    have hx : s[i]? = some s[i] := List.getElem?_eq_getElem hi
    generalize s[i] = x at hx
    have hl := posC_len 32 (s.take i) 0
    have hli : (s.take i).length = i := by simp; omega
    simp only [bifd, jn_eq]
    rw [if_pos (by omega), getS_cast, hx, Option.map_some, sbind, w1 (by omega), take_snoc hx, posC_snoc, hli, Nat.zero_add]
    by_cases h : x.toNat = 32
    · rw [if_pos h, appM_ok (by simp; omega) (by simp; omega), sbind, if_neg (by simp [ntc, h])]; simp
    · rw [if_neg h, if_pos (by simp [ntc, h])]; simp
  · simp only [bifd]; rw [if_neg (by omega), List.take_length]
  · unfold big at hn; omega
  · rfl
/-! one number -/
theorem m_ref08_Read_eq {n : Nat} {w : List UInt8} (hn : big ≤ n) (hw : w.length ≤ 1000) : ∃ x at_, m_retrospectref08_Read n w = some (x, at_) ∧ ∀ neg t, (neg = true ∧ w = 45 :: t ∨ neg = false ∧ w = t ∧ ∀ c r, t = c :: r → c ≠ 45) →
    (0 ≤ wrongI t → 0 ≤ at_) ∧ (wrongI t < 0 → at_ = -1 ∧ x = ⟨neg && decide (numD t 0 ≠ 0), toL (numD t 0)⟩) := by
  have key : ∀ (b : Bool) (k : Nat) (t : List UInt8), t.length ≤ 1000 → k ≤ 1 → ∃ x at_, ((m_retrospectref07_Wrong n t).bind fun r13 =>
      bif decide ((0 : Int) ≤ r13) then (
        some ((⟨false, []⟩ : M_retrospectref08_Whole), wrap64 ((k : Int) + r13)))
      else (
        (m_retrospectref07_Read n t).bind fun r17 =>
        (m_retrospectref08_Norm n (⟨b, r17⟩ : M_retrospectref08_Whole)).bind fun r19 =>
        some (r19, (-1 : Int)))) = some (x, at_) ∧ (0 ≤ wrongI t → 0 ≤ at_) ∧ (wrongI t < 0 → at_ = -1 ∧ x = ⟨b && decide (numD t 0 ≠ 0), toL (numD t 0)⟩) := by
    intro b k t ht hk
    have hm : t.length ≤ maxLen := by unfold maxLen; omega
    rw [m_ref07_Wrong_eq hn hm, sbind, bifd]
    have hle : wrongI t ≤ t.length := by
      unfold wrongI
      cases hw : wrongAt t 0 with
      | none => simp only []; split <;> omega
      | some j => have := wrongAt_le hw; simp only []; omega
    by_cases h : 0 ≤ wrongI t
    · rw [if_pos h]
      exact ⟨_, _, rfl, fun _ => by rw [w64 (by omega) (by omega)]; omega, fun g => by omega⟩
    · obtain ⟨hD, hne, hl⟩ := wrongI_neg (show wrongI t < 0 by omega)
      have hll := numD_len hD
      rw [if_neg h, m_ref07_Read_eq hn hD (by omega), sbind]
      unfold m_retrospectref08_Norm
      simp only []
      rw [m_ref02_Norm_eq hn (by omega), sbind, trimZ_toL, jn_eq]
      have e : decide (0 < ((toL (numD t 0)).length : Int)) = decide (numD t 0 ≠ 0) := by
        rw [decide_eq_decide]
        constructor
        · intro h1 h2; rw [h2, toL_zero] at h1; simp at h1
        · intro h1; rw [toL_pos h1]; simp <;> omega
      cases b
      · exact ⟨_, _, rfl, fun g => absurd g h, fun _ => ⟨rfl, rfl⟩⟩
      · rw [bifT, e]; exact ⟨_, _, rfl, fun g => absurd g h, fun _ => ⟨rfl, by simp⟩⟩
  unfold m_retrospectref08_Read
  simp only [jn_eq, bifd]
  match w, hw with
  | [], hw =>
    rw [if_neg (by decide), bifF, show sub ([] : List UInt8) (0 : Int) (([] : List UInt8).length : Int) = some [] from rfl, sbind]
    obtain ⟨x, a, h1, h2, h3⟩ := key false 0 [] (by simp) (by decide)
    simp only [bifd] at h1
    refine ⟨x, a, h1, ?_⟩
    rintro neg t (⟨_, h⟩ | ⟨rfl, rfl, _⟩)
    · cases h
    · exact ⟨h2, h3⟩
  | c :: r, hw =>
    rw [if_pos (by simp <;> omega), show getS (c :: r) (0 : Int) = some c.toNat from rfl, sbind]
    by_cases hc : c.toNat = 45
    · have hc' : c = 45 := UInt8.toNat_inj.1 hc
      rw [if_pos hc, show sub (c :: r) (1 : Int) ((c :: r).length : Int) = some r by
        have := sub_mid (l := c :: r) (i := 1) (k := (c :: r).length) (by simp) (Nat.le_refl _)
        rw [List.take_length] at this; exact this, sbind, sbind, decide_eq_true hc]
      obtain ⟨x, a, h1, h2, h3⟩ := key true 1 r (by simp at hw; omega) (by decide)
      simp only [bifd] at h1
      refine ⟨x, a, h1, ?_⟩
      rintro neg t (⟨rfl, h⟩ | ⟨rfl, rfl, h⟩)
      · cases h; exact ⟨h2, h3⟩
      · exact absurd hc' (h c r rfl)
    · rw [if_neg hc, show sub (c :: r) (0 : Int) ((c :: r).length : Int) = some (c :: r) by
        rw [sub_take (Nat.le_refl _), List.take_length], sbind, sbind, decide_eq_false hc]
      obtain ⟨x, a, h1, h2, h3⟩ := key false 0 (c :: r) hw (by decide)
      simp only [bifd] at h1
      refine ⟨x, a, h1, ?_⟩
      rintro neg t (⟨rfl, h⟩ | ⟨rfl, rfl, h⟩)
      · cases h; exact absurd (by decide) hc
      · exact ⟨h2, h3⟩
theorem tp7 : tp 7 = 10000000 := by unfold tp; decide
theorem tp8 : tp 8 = 100000000 := by unfold tp; decide
theorem dec_len7 {k : Nat} (h : k < 10000000) : (dec k).length ≤ 7 := by
  by_cases h0 : k = 0
  · subst h0; decide
  · rw [dec_ne h0, List.length_reverse]; exact (decF_eq (k := 7) (by rw [tp7]; exact h)).2
theorem itoa_len8 {x : Int} (h : mil x) : (Lib.itoa x).length ≤ 8 := by
  unfold mil at h
  by_cases h0 : x < 0
  · rw [itoa_negd h0]; have := dec_len7 (k := x.natAbs) (by omega); simp; omega
  · obtain ⟨k, rfl⟩ : ∃ k : Nat, x = k := ⟨x.toNat, by omega⟩
    rw [itoa_dec]; have := dec_len7 (k := k) (by omega); omega
theorem itoa_inj {x y : Int} (hx : b64 x) (hy : b64 y) (h : Lib.itoa x = Lib.itoa y) : x = y := by
  have := atoi_itoa hx
  rw [h, atoi_itoa hy] at this
  cases this; rfl
theorem wdig8 (v c : Nat) (hv : v < 1000000000) (h1 : 48 ≤ c) (h2 : c ≤ 57) : wrap64 (wrap64 (wrap64 (10 * (v : Int)) + (c : Int)) - 48) = ((v * 10 + (c - 48) : Nat) : Int) := by
  rw [w64 (x := 10 * (v : Int)) (by omega) (by omega), w64 (x := 10 * (v : Int) + (c : Int)) (by omega) (by omega), w64 (by omega) (by omega)]; omega
def dgs (w : List UInt8) : List UInt8 := w.filter fun b => decide (b.toNat ≠ 45)
theorem dgs_isD {w : List UInt8} (hw : ∀ b ∈ w, b.toNat = 45 ∨ (48 ≤ b.toNat ∧ b.toNat ≤ 57)) : isD (dgs w) := by
  intro b hb
  unfold dgs at hb
  rw [List.mem_filter, decide_eq_true_eq] at hb
  rcases hw b hb.1 with h | h
  · exact absurd h hb.2
  · exact h
theorem dgs_loop {R : Type} {n : Nat} {w : List UInt8} {K : Int → Option R} (hn : big ≤ n) (hw : ∀ b ∈ w, b.toNat = 45 ∨ (48 ≤ b.toNat ∧ b.toNat ≤ 57)) (h8 : w.length ≤ 8) :
    (loopM (τ := Int) (fun (s253 : Int × Int) =>
                bif decide (s253.2 < (w.length : Int)) then (
                  jn (fun (j259 : (Int) → Option _) =>
                    (getS w s253.2).bind fun y262 =>
                    bif !decide (y262 = 45) then (
                      (getS w s253.2).bind fun y264 =>
                      (some (wrap64 ((wrap64 ((wrap64 ((10 : Int) * s253.1)) + (y264 : Int))) - (48 : Int)))).bind fun z266 =>
                      j259 z266)
                    else (
                      j259 s253.1)) (fun (s261 : Int) =>
                    some (Lp.go (s261, wrap64 (s253.2 + (1 : Int))))))
                else (
                  some (Lp.out s253.1))) n ((0 : Int), (0 : Int))).bind K = K (numD (dgs w) 0 : Int) := by
  rw [loop_acc (fun i => ((numD (dgs (w.take i)) 0 : Int), (i : Int))) w.length (numD (dgs w) 0 : Int)]
  · intro i hi
    have hx : w[i]? = some w[i] := List.getElem?_eq_getElem hi
    have hd := hw w[i] (List.getElem_mem hi)
    generalize w[i] = x at hx hd
    have hv : numD (dgs (w.take i)) 0 < 1000000000 := by
      have h1 := numD_lt (s := dgs (w.take i)) (dgs_isD fun b hb => hw b (List.mem_of_mem_take hb)) 0 0 (by rw [tp_zero]; omega)
      have h2 : (dgs (w.take i)).length ≤ 8 := Nat.le_trans (List.length_filter_le _ _) (by simp; omega)
      have h3 := tp_le (show 0 + (dgs (w.take i)).length ≤ 8 by omega)
      rw [tp8] at h3; omega
    simp only [bifd, jn_eq, bifnd]
    rw [if_pos (by omega), getS_cast, hx, Option.map_some, sbind, sbind, w1 (by omega), take_snoc hx]
    unfold dgs at hv ⊢
    rw [List.filter_append]
    by_cases h : x.toNat = 45
    · rw [if_pos h, show [x].filter (fun b => decide (b.toNat ≠ 45)) = [] by simp [h], List.append_nil]
    · rw [if_neg h, sbind, show [x].filter (fun b => decide (b.toNat ≠ 45)) = [x] by simp [h], numD_snoc, wdig8 _ _ hv (by omega) (by omega)]
  · simp only [bifd]; rw [if_neg (by omega), List.take_length]
  · unfold big at hn; omega
  · rfl
theorem split_sign (w : List UInt8) : ∃ neg t, (neg = true ∧ w = 45 :: t ∨ neg = false ∧ w = t ∧ ∀ c r, t = c :: r → c ≠ 45) := by
  match w with
  | [] => exact ⟨false, [], .inr ⟨rfl, rfl, fun _ _ h => by cases h⟩⟩
  | c :: r =>
    by_cases h : c = 45
    · subst h; exact ⟨true, r, .inl ⟨rfl, rfl⟩⟩
    · exact ⟨false, c :: r, .inr ⟨rfl, rfl, fun _ _ g => by cases g; exact h⟩⟩
theorem itoa_sign {x : Int} {neg : Bool} {t : List UInt8} (h : neg = true ∧ Lib.itoa x = 45 :: t ∨ neg = false ∧ Lib.itoa x = t ∧ ∀ c r, t = c :: r → c ≠ 45) : t = dec x.natAbs ∧ (neg = true ↔ x < 0) := by
  by_cases h0 : x < 0
  · rw [itoa_negd h0] at h
    rcases h with ⟨rfl, h⟩ | ⟨rfl, h, h2⟩
    · cases h; exact ⟨rfl, fun _ => h0, fun _ => rfl⟩
    · exact absurd rfl (h2 45 _ h.symm)
  · obtain ⟨k, rfl⟩ : ∃ k : Nat, x = k := ⟨x.toNat, by omega⟩
    rw [itoa_dec] at h
    rcases h with ⟨rfl, h⟩ | ⟨rfl, h, h2⟩
    · have := dec_isD (n := k) 45 (by rw [h]; exact .head _)
      exact absurd this.1 (by decide)
    · exact ⟨by rw [← h]; simp, (fun g => by cases g), fun g => by omega⟩
theorem ref_word {R : Type} {n : Nat} {w : List UInt8} {bad : R} {K : Int → Option R} (hn : big ≤ n) (hw : w.length ≤ 1000) : ∃ md, (bif decide ((8 : Int) < (w.length : Int)) then (
          some bad)
        else (
          (m_retrospectref08_Read n w).bind fun r228 =>
          jn (fun (j232 : (Bool) → Option _) =>
            bif decide ((0 : Int) ≤ r228.2) then (
              j232 true)
            else (
              (m_retrospectref08_Text n r228.1).bind fun r235 =>
              j232 (!decide (r235 = w)))) (fun (s234 : Bool) =>
            bif s234 then (
              some bad)
            else (
              (loopM (τ := Int) (fun (s253 : Int × Int) =>
                bif decide (s253.2 < (w.length : Int)) then (
                  jn (fun (j259 : (Int) → Option _) =>
                    (getS w s253.2).bind fun y262 =>
                    bif !decide (y262 = 45) then (
                      (getS w s253.2).bind fun y264 =>
                      (some (wrap64 ((wrap64 ((wrap64 ((10 : Int) * s253.1)) + (y264 : Int))) - (48 : Int)))).bind fun z266 =>
                      j259 z266)
                    else (
                      j259 s253.1)) (fun (s261 : Int) =>
                    some (Lp.go (s261, wrap64 (s253.2 + (1 : Int))))))
                else (
                  some (Lp.out s253.1))) n ((0 : Int), (0 : Int))).bind fun (t251 : Int) =>
              bif decide ((1000000 : Int) < t251) then (
                some bad)
              else (
                jn (fun (j267 : (Int) → Option _) =>
                  bif r228.1.Neg then (
                    j267 (wrap64 (-t251)))
                  else (
                    j267 t251)) K))))) = md ∧ (∀ x, mil x → w = Lib.itoa x → md = K x) ∧ ((¬ ∃ x, mil x ∧ w = Lib.itoa x) → md = some bad) := by
  refine ⟨_, rfl, ?_⟩
  have two : ∀ {md : Option R} {P : Prop}, (md = some bad ∧ ¬ ∃ x, mil x ∧ w = Lib.itoa x) ∨ (∃ x, mil x ∧ w = Lib.itoa x ∧ md = K x) → (∀ x, mil x → w = Lib.itoa x → md = K x) ∧ ((¬ ∃ x, mil x ∧ w = Lib.itoa x) → md = some bad) := by
    rintro md _ (⟨h1, h2⟩ | ⟨x, h1, h2, h3⟩)
    · exact ⟨fun x hx hw => absurd ⟨x, hx, hw⟩ h2, fun _ => h1⟩
    · exact ⟨fun y hy hw => by rw [itoa_inj (mil_b64 hy) (mil_b64 h1) (hw.symm.trans h2)]; exact h3, fun g => absurd ⟨x, h1, h2⟩ g⟩
  refine two (P := True) ?_
  rw [bifd]
  by_cases h8 : 8 < (w.length : Int)
  · rw [if_pos h8]
    refine .inl ⟨by trivial, ?_⟩
    rintro ⟨x, hx, rfl⟩
    have := itoa_len8 hx; omega
  rw [if_neg h8]
  obtain ⟨x0, at0, e1, e2⟩ := m_ref08_Read_eq hn hw
  obtain ⟨neg, t, hs⟩ := split_sign w
  obtain ⟨e3, e4⟩ := e2 neg t hs
  have htl : t.length ≤ 8 := by
    rcases hs with ⟨_, h⟩ | ⟨_, h, _⟩
    · rw [h] at h8; simp at h8; omega
    · rw [h] at h8; omega
  rw [e1, sbind, jn_eq]
  simp only []
  by_cases hwr : 0 ≤ wrongI t
  · rw [decide_eq_true (e3 hwr)]
    simp only [bifT]
    refine .inl ⟨by trivial, ?_⟩
    rintro ⟨x, hx, rfl⟩
    obtain ⟨ht, _⟩ := itoa_sign hs
    have := dec_len7 (k := x.natAbs) (by unfold mil at hx; omega)
    rw [ht, wrongI_isD dec_isD (dec_ne_nil _), if_neg (by omega)] at hwr
    omega
  obtain ⟨rfl, rfl⟩ := e4 (by omega)
  obtain ⟨hD, hne, _⟩ := wrongI_neg (show wrongI t < 0 by omega)
  have hk8 : numD t 0 < 100000000 := by
    have h1 := numD_lt hD 0 0 (by rw [tp_zero]; omega)
    have h2 := tp_le (show 0 + t.length ≤ 8 by omega)
    rw [tp8] at h2; omega
  rw [decide_eq_false (show ¬ (0 : Int) ≤ -1 by decide), bifF, m_ref08_Text_eq hn (by omega), sbind]
  have hdg : ∀ b ∈ w, b.toNat = 45 ∨ (48 ≤ b.toNat ∧ b.toNat ≤ 57) := by
    intro b hb
    rcases hs with ⟨_, h⟩ | ⟨_, h, _⟩
    · rw [h] at hb
      rcases List.mem_cons.1 hb with rfl | hb
      · exact .inl (by decide)
      · exact .inr (hD b hb)
    · rw [h] at hb; exact .inr (hD b hb)
  have hft : t.filter (fun b => decide (b.toNat ≠ 45)) = t := by
    rw [List.filter_eq_self]
    intro b hb; have := hD b hb; simp; omega
  have hds : dgs w = t := by
    unfold dgs
    rcases hs with ⟨_, h⟩ | ⟨_, h, _⟩
    · rw [h, List.filter_cons, if_neg (by decide), hft]
    · rw [h, hft]
  have hback : ∀ x, mil x → w = Lib.itoa x → numD t 0 = x.natAbs ∧ (neg = true ↔ x < 0) := by
    rintro x _ rfl
    obtain ⟨ht, h2⟩ := itoa_sign hs
    exact ⟨by rw [ht, numD_dec], h2⟩
  generalize hnk : numD t 0 = k at *
  by_cases hT : (if (neg && decide (k ≠ 0)) = true ∧ k ≠ 0 then 45 :: dec k else dec k) = w
  · rw [decide_eq_true hT]
    simp only [Bool.not_true, bifF]
    rw [dgs_loop hn hdg (by omega), hds, hnk]
    by_cases hm : 1000000 < (k : Int)
    · rw [decide_eq_true hm]
      simp only [bifT]
      refine .inl ⟨by trivial, ?_⟩
      rintro ⟨x, hx, hwx⟩
      obtain ⟨h1, _⟩ := hback x hx hwx
      unfold mil at hx; omega
    · rw [decide_eq_false hm, bifF, jn_eq]
      refine .inr ?_
      by_cases hc : (neg && decide (k ≠ 0)) = true ∧ k ≠ 0
      · rw [if_pos hc] at hT
        refine ⟨-(k : Int), by unfold mil; omega, ?_, ?_⟩
        · rw [itoa_negd (by omega), ← hT]; simp
        · rw [hc.1, bifT, w64 (by omega) (by omega)]
      · rw [if_neg hc] at hT
        have hf : (neg && decide (k ≠ 0)) = false := by
          cases hb : (neg && decide (k ≠ 0))
          · rfl
          · exact absurd ⟨hb, by simp at hb; exact hb.2⟩ hc
        exact ⟨(k : Int), by unfold mil; omega, by rw [itoa_dec, hT], by rw [hf, bifF]⟩
  · rw [decide_eq_false hT]
    simp only [Bool.not_false, bifT]
    refine .inl ⟨by trivial, ?_⟩
    rintro ⟨x, hx, hwx⟩
    obtain ⟨h1, h2⟩ := hback x hx hwx
    apply hT
    rw [hwx]
    by_cases h0 : x < 0
    · rw [itoa_negd h0, if_pos ⟨by simp [h2.2 h0]; omega, by omega⟩, h1]
    · have hnf : neg = false := by cases neg; rfl; exact absurd (h2.1 rfl) h0
      rw [hnf, if_neg (by simp), h1]
      obtain ⟨j, rfl⟩ : ∃ j : Nat, x = j := ⟨x.toNat, by omega⟩
      rw [itoa_dec]; simp
end Go.Proofs.YtiobbiamnjapgaaGreatDoor
