import Derived.Test.YtpomhkkhdojpiaaDoorPlRt4
namespace Go.Proofs.YtpomhkkhdojpiaaDoor
open Go Go.RowKit
/-! ### There and back: the laws -/
theorem m_tree_Same_self {n : Nat} {c : List M_tree_Node} (hn : big ≤ n) (hb : ∀ x ∈ c, NB x) : m_tree_Same n c c = some true := by
  unfold m_tree_Same
  rw [decide_eq_true rfl, Bool.not_true, bifF, range_chk (r := false) (fun _ _ => True) c (fun i x hx => ⟨fun _ => ?_, fun h => absurd trivial h⟩), if_pos (fun _ _ _ => trivial)]
  have hx' := hb x (mem_of_get hx)
  have he : eqb_tree_plain ⟨x.Op, x.I⟩ ⟨x.Op, x.I⟩ = true := by simp [eqb_tree_plain]
  have hc : cmpI (val x.N) (val x.N) = 0 := by unfold cmpI; simp
  rw [getI_of hx, sbind, jn_eq, he, Bool.not_true, sbind, bifF, m_nat_Cmp_eq hn (by have := hx'.1; omega) (by have := hx'.1; omega) hx'.2 hx'.2, sbind, hc, decide_eq_true rfl, Bool.not_true]; rfl
theorem m_tree_SameField_self {n : Nat} {f : M_tree_Field} (hn : big ≤ n) (hF : FB f) : m_tree_SameField n f f = some true := by
  unfold m_tree_SameField
  rw [jn_eq, decide_eq_true rfl, Bool.not_true, bifF, decide_eq_true rfl, Bool.not_true]
  simp only []
  rw [bifF, range_chk (r := false) (fun _ _ => True) f.Lets (fun i l hl => ⟨fun _ => ?_, fun h => absurd trivial h⟩), if_pos (fun _ _ _ => trivial),
    range_chk (r := false) (fun _ _ => True) f.Outs (fun i c hc => ⟨fun _ => ?_, fun h => absurd trivial h⟩), if_pos (fun _ _ _ => trivial)]
  · rw [getI_of hc, sbind, m_tree_Same_self hn (FB_out hF (mem_of_get hc)).2, sbind, Bool.not_true]; rfl
  · rw [jn_eq, getI_of hl, sbind, decide_eq_true rfl, Bool.not_true, bifF, sbind, m_tree_Same_self hn (FB_let hF (mem_of_get hl)).2, sbind, Bool.not_true]; rfl
theorem name_short {s : List UInt8} (h : nameOk s = true) : s.length ≤ 60 := by
  have := name_wd h
  cases s with
  | nil => simp
  | cons c t => have := ((wdB_cons _ _ _).1 this).2.2.2; have := (most_pos 2).2; simp; omega
/-- A field that may be is small. -/
theorem Sml_of {f : M_tree_Field} (hF : FB f) (hf : checkT f (f.Outs.length : Int) 6 = f0) : Sml f := by
  obtain ⟨hw, hl, _⟩ := checkT_zero.1 hf
  unfold wholeT at hw
  simp only [decide_eq_true_eq] at hw
  refine ⟨by omega, by omega, fun l hm => ?_, fun c hc => ⟨?_, (hF.2.2 c hc).2⟩⟩
  · obtain ⟨i, hi⟩ := List.getElem?_of_mem hm
    have := name_short (hl i l hi).1; omega
  · have hs := hw.2.2.2.2.2.2
    unfold sizeT at hs
    have key : ∀ (L : List (List M_tree_Node)) (a : Int), 0 ≤ a → c ∈ L → (c.length : Int) ≤ L.foldl (fun n c => n + (c.length : Int)) a ∧ True := by
      intro L
      induction L with
      | nil => intro a _ h; cases h
      | cons d L ih =>
        intro a ha h
        rw [List.foldl_cons]
        rcases List.mem_cons.1 h with rfl | h
        · have mono : ∀ (L : List (List M_tree_Node)) (b : Int), b ≤ L.foldl (fun n c => n + (c.length : Int)) b := by
            intro L
            induction L with
            | nil => intro b; exact Int.le_refl _
            | cons e L ih => intro b; rw [List.foldl_cons]; have := ih (b + (e.length : Int)); omega
          have := mono L (a + (c.length : Int)); exact ⟨by omega, trivial⟩
        · exact ih _ (by omega) h
    have := (key (codesT f) 0 (by omega) hc).1
    omega
theorem m_show_Field_bad {n : Nat} {f : M_tree_Field} (hn : big ≤ n) (hF : FB f) (hs : ∀ l ∈ f.Lets, l.Name.length ≤ 4611686018427387904) (hc : checkT f (f.Outs.length : Int) 6 ≠ f0) : m_show_Field n f = some ([], false) := by
  unfold m_show_Field
  rw [m_check_Check_eq hn hF hs, sbind, show eqb_api_Fault (checkT f (f.Outs.length : Int) 6) ⟨0, 0, 0, 0⟩ = false from by
    rw [Bool.eq_false_iff]; exact fun h => hc ((eqb_iff _ _).1 h), Bool.not_false, bifT]
theorem eqb_f0 : eqb_api_Fault f0 ⟨0, 0, 0, 0⟩ = true := (eqb_iff _ _).2 rfl
/-- ShowBack. -/
theorem law_ShowBack (g : M_retrospectref17_Field) (hB : B_retrospectref17_Field g) : ∃ n, m_retrospectlaw20_ShowBack n g = some true := by
  refine ⟨bigS, ?_⟩
  have hn : big ≤ bigS := by decide
  have hn1 : big + 100 ≤ bigS := by decide
  unfold m_retrospectlaw20_ShowBack
  obtain ⟨b, h1, h2⟩ := m_ref17_LongField_ok (parts := 12) (many := 60) (words := 9) hn hB maxLen_le
  rw [show (12 : Int) = ((12 : Nat) : Int) by rfl, show (60 : Int) = ((60 : Nat) : Int) by rfl, show (9 : Int) = ((9 : Nat) : Int) by rfl, h1, sbind]
  cases b with
  | true => rw [bifT, law20_works, sbind]
  | false =>
    obtain ⟨hF, hs⟩ := FB_of hB (by decide) (by decide) (by decide) (h2 rfl)
    rw [bifF, m_law17_ToField_eq hn hF, sbind]
    by_cases hc : checkT (cF g) ((cF g).Outs.length : Int) 6 = f0
    · have hS := Sml_of hF hc
      rw [m_show_Field_eq hS hc hn hF, sbind, jn_eq]
      simp only [Bool.not_true, bifF]
      rw [bifd]
      by_cases hl : (4000 : Int) < ((fieldT (cF g)).length : Int)
      · rw [if_pos hl, law20_works, sbind]
      · rw [if_neg hl, m_parse_Parse_eq hn1 (by omega), sbind, parse_show hS hc (by omega), jn_eq]
        simp only [okF]
        rw [eqb_zero, bifT, m_tree_SameField_self hn hF, sbind, bifT, m_check_Check_eq hn hF hs, sbind, hc, eqb_f0, bifT, law20_works, sbind]
    · rw [m_show_Field_bad hn hF hs hc, sbind, jn_eq]
      simp only [Bool.not_false, bifT]
      rw [law20_works, sbind]
section
variable {W : List M_lex_Word} {E : Int} (hW : WOk W)
include hW
theorem word_short {i : Nat} : ((nxW W i).Text).length ≤ 100 := by
  rcases Nat.lt_or_ge i W.length with h | h
  · have hw := hW.2 _ (nxW_mem h)
    cases ht : (nxW W i).Text with
    | nil => simp
    | cons c t => rw [ht] at hw; have := ((wdB_cons _ _ _).1 hw).2.2.2; have := (most_pos (nxW W i).Kind).2; simp; omega
  · rw [nxW_end h]; simp
theorem letsL_few : ∀ (k : Nat) (Nm : List (List UInt8)) (L : List M_tree_Let) (i : Nat) (v), 5 * L.length ≤ i → (∀ l ∈ L, l.Name.length ≤ 100) → letsL W E k Nm L i = .ok v → 5 * v.1.1.length ≤ v.2 ∧ ∀ l ∈ v.1.1, l.Name.length ≤ 100
  | 0, Nm, L, i, v, h1, h2, h => by unfold letsL at h; cases h; exact ⟨h1, h2⟩
  | k + 1, Nm, L, i, v, h1, h2, h => by
    unfold letsL at h
    split at h
    · obtain ⟨a, ha, h⟩ := ebd_eq h
      obtain ⟨j, hj, h⟩ := ebd_eq h
      obtain ⟨c, hc, h⟩ := ebd_eq h
      obtain ⟨j', hj', h⟩ := ebd_eq h
      obtain ⟨a1, a2, a3⟩ := nameS_ok ha
      obtain ⟨rfl, b2⟩ := needS_ok (by simp) hj
      have g := ex0_PO _ _ hc
      obtain ⟨rfl, c2⟩ := needS_ok (by simp) hj'
      refine letsL_few k _ _ _ v (by simp; omega) (fun l hl => ?_) h
      rcases List.mem_append.1 hl with hl | hl
      · exact h2 l hl
      · rw [List.mem_singleton.1 hl, a3]; exact word_short hW
    · cases h; exact ⟨h1, h2⟩
omit hW in
theorem outsL_few {Nm : List (List UInt8)} : ∀ (k : Nat) (O : List (List M_tree_Node)) (i : Nat) (v), 2 * O.length ≤ i → outsL W E Nm k O i = .ok v → 2 * v.1.length ≤ v.2
  | 0, O, i, v, h1, h => by unfold outsL at h; cases h; exact h1
  | k + 1, O, i, v, h1, h => by
    unfold outsL at h
    split at h
    · obtain ⟨c, hc, h⟩ := ebd_eq h
      have g := ex0_PO _ _ hc
      exact outsL_few k _ _ v (by simp; omega) h
    · cases h; exact h1
theorem fieldS_few {v} (h : fieldS W E = .ok v) : 5 * v.1.1.Lets.length ≤ W.length ∧ 2 * v.1.1.Outs.length ≤ W.length ∧ ∀ l ∈ v.1.1.Lets, l.Name.length ≤ 100 := by
  unfold fieldS at h
  obtain ⟨a, ha, h⟩ := ebd_eq h
  obtain ⟨j, hj, h⟩ := ebd_eq h
  obtain ⟨c, hc, h⟩ := ebd_eq h
  obtain ⟨b, hb, h⟩ := ebd_eq h
  obtain ⟨k, hk, h⟩ := ebd_eq h
  cases h
  have g0 := letsL_ok _ _ _ _ _ (Nat.zero_le _) (Nat.le_refl _) (Nat.le_refl _) ha
  obtain ⟨rfl, g1⟩ := needS_ok (by simp) hj
  have g2 := ex0_PO _ _ hc
  have g3 := outsL_ok _ _ _ _ (by omega) (by simp; omega) hb
  obtain ⟨f1, f2⟩ := letsL_few hW _ _ _ _ _ (by simp) (fun l hl => by cases hl) ha
  have f3 := outsL_few _ _ _ _ (by simp; omega) hb
  exact ⟨by simp only []; omega, by simp only []; omega, f2⟩
end
theorem parseS_FB {s : List UInt8} {f : M_tree_Field} (hs : s.length ≤ 1500) (h : parseS s = .ok f) : FB f ∧ ∀ l ∈ f.Lets, l.Name.length ≤ 4611686018427387904 := by
  have hp := parseS_fine h
  unfold parseS at h
  rw [if_neg (by omega)] at h
  cases hc : scanS s 0 with
  | inr p => rw [hc] at h; cases h
  | inl ws =>
    rw [hc] at h
    have hV := scan_VOk (by omega) hc
    have hl := (scan_ok _ s 0 ws (Nat.le_refl _) hc).1
    obtain ⟨v, hv, h⟩ := ebd_eq h
    obtain ⟨g1, g2, g3⟩ := fieldS_few hV.1 hv
    rw [List.length_map] at g1 g2
    split at h
    · cases h
    · cases h
      refine ⟨⟨by omega, by omega, fun c hc => ?_⟩, fun l hl => by have := g3 l hl; omega⟩
      have := hp.2.2 c hc
      exact ⟨by omega, fun x hx => ⟨by have := (this.2 x hx).1; omega, (this.2 x hx).2⟩⟩
/-- ShowTexts. -/
theorem law_ShowTexts (s : List UInt8) (_ : s.length ≤ maxLen) : ∃ n, m_retrospectlaw20_ShowTexts n s = some true := by
  refine ⟨bigS, ?_⟩
  have hn : big ≤ bigS := by decide
  have hn1 : big + 100 ≤ bigS := by decide
  unfold m_retrospectlaw20_ShowTexts
  rw [bifd]
  by_cases h0 : (1500 : Int) < (s.length : Int)
  · rw [if_pos h0, law20_works, sbind]
  · rw [if_neg h0, m_parse_Parse_eq hn1 (by omega), sbind]
    cases hp : parseS s with
    | error q => simp only [okF]; rw [eqb_flt, Bool.not_false, bifT, law20_works, sbind]
    | ok f =>
      obtain ⟨hF, hs⟩ := parseS_FB (by omega) hp
      simp only [okF]
      rw [eqb_zero, Bool.not_true, bifF]
      by_cases hc : checkT f (f.Outs.length : Int) 6 = f0
      · have hS := Sml_of hF hc
        rw [m_show_Field_eq hS hc hn hF, sbind, jn_eq]
        simp only [Bool.not_true, bifF]
        rw [bifd]
        by_cases hl : (4000 : Int) < ((fieldT f).length : Int)
        · rw [if_pos hl, law20_works, sbind]
        · rw [if_neg hl, m_parse_Parse_eq hn1 (by omega), sbind, parse_show hS hc (by omega)]
          simp only [okF]
          rw [m_show_Field_eq hS hc hn hF, sbind, jn_eq, eqb_zero, bifT, m_tree_SameField_self hn hF, sbind, bifT]
          simp only [bifT, decide_true]
          rw [law20_works, sbind]
      · rw [m_show_Field_bad hn hF hs hc, sbind, jn_eq]
        simp only [Bool.not_false, bifT]
        rw [law20_works, sbind]
end Go.Proofs.YtpomhkkhdojpiaaDoor
