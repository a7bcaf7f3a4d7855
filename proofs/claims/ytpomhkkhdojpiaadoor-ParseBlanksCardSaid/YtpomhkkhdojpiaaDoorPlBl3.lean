import Derived.Test.YtpomhkkhdojpiaaDoorPlBl2
import Derived.KernelRfl
namespace Go.Proofs.YtpomhkkhdojpiaaDoor
open Go Go.RowKit
/-! ### Brackets: their words; the law -/
theorem takeWhile_stop {p : UInt8 → Bool} {x : UInt8} (hx : p x = false) (t : List UInt8) : ∀ r : List UInt8, (r ++ x :: t).takeWhile p = r.takeWhile p
  | [] => by rw [List.nil_append, List.takeWhile_cons, hx]; rfl
  | y :: r => by
    rw [List.cons_append, List.takeWhile_cons, List.takeWhile_cons, takeWhile_stop hx t r]
theorem dropWhile_stop {p : UInt8 → Bool} {x : UInt8} (hx : p x = false) (t : List UInt8) : ∀ r : List UInt8, (r ++ x :: t).dropWhile p = r.dropWhile p ++ x :: t
  | [] => by rw [List.nil_append, List.dropWhile_cons, hx]; rfl
  | y :: r => by
    rw [List.cons_append, List.dropWhile_cons, List.dropWhile_cons, dropWhile_stop hx t r]
    split <;> rfl
theorem goC_10 (k : Int) : goC k (10 : UInt8).toNat = false := by
  have h1 : digB 10 = false := by decide
  have h2 : letB 10 = false := by decide
  show goC k 10 = false
  unfold goC; rw [h1, h2]; simp
theorem scan_nl : ∀ (m : Nat) (s : List UInt8) (i i' : Nat) (ws), s.length ≤ m → scanS s i = .inl ws → ∃ vs w, scanS (s ++ [10, 41]) i' = .inl (vs ++ [w]) ∧ vs.map (·.Text) = ws.map (·.Text) ∧ w.Text = [41]
  | _, [], i, i', ws, _, h => by
    rw [scanS_nil] at h; cases h
    exact ⟨[], ⟨3, [41], ((i' + 1 : Nat) : Int)⟩, by rw [List.nil_append, scanS_cons, if_pos (by decide), scan_one (k := 3) (by decide)]; rfl, rfl, rfl⟩
  | 0, c :: r, i, i', ws, hm, h => by simp at hm
  | m + 1, c :: r, i, i', ws, hm, h => by
    have hrm : r.length ≤ m := by simp at hm; omega
    rw [scanS_cons] at h
    rw [List.cons_append, scanS_cons]
    by_cases h1 : blkB c.toNat = true
    · rw [if_pos h1] at h ⊢
      exact scan_nl m r _ _ ws hrm h
    · rw [if_neg h1] at h ⊢
      by_cases h2 : c.toNat = 35
      · rw [if_pos h2] at h ⊢
        rw [dropWhile_stop (by decide) [41] r]
        exact scan_nl m _ _ _ ws (Nat.le_trans (dropWhile_le _ r) hrm) h
      · rw [if_neg h2] at h ⊢
        by_cases h3 : kindC c.toNat = 0
        · rw [if_pos h3] at h; cases h
        · rw [if_neg h3] at h ⊢
          have ht : tailK (kindC c.toNat) (r ++ [10, 41]) = tailK (kindC c.toNat) r := takeWhile_stop (goC_10 _) [41] r
          rw [ht]
          have hl : (tailK (kindC c.toNat) r).length ≤ r.length := takeWhile_le _ r
          by_cases h4 : mostC (kindC c.toNat) < 1 + (tailK (kindC c.toNat) r).length
          · rw [if_pos h4] at h; cases h
          · rw [if_neg h4] at h ⊢
            cases hq : scanS (r.drop (tailK (kindC c.toNat) r).length) (i + 1 + (tailK (kindC c.toNat) r).length) with
            | inr p => rw [hq] at h; cases h
            | inl l =>
              rw [hq] at h
              cases h
              obtain ⟨vs, w, e1, e2, e3⟩ := scan_nl m _ _ (i' + 1 + (tailK (kindC c.toNat) r).length) l (by rw [List.length_drop]; omega) hq
              rw [List.drop_append_of_le_length hl, e1]
              exact ⟨⟨kindC c.toNat, c :: tailK (kindC c.toNat) r, (i' : Int)⟩ :: vs, w, rfl, by rw [List.map_cons, List.map_cons, e2], e3⟩
/-- An expression in brackets is the same expression, if it is one at all. -/
theorem code_br {s : List UInt8} {Nm : List (List UInt8)} {c d : List M_tree_Node} (hs : s.length ≤ 1500) (h : codeS s Nm = .ok c) (h' : codeS ([40] ++ s ++ [10, 41]) Nm = .ok d) : d = c := by
  unfold codeS at h h'
  rw [if_neg (by omega)] at h
  rw [if_neg (by simp; omega)] at h'
  cases hc : scanS s 0 with
  | inr p => rw [hc] at h; cases h
  | inl ws =>
    rw [hc] at h
    obtain ⟨vs, w, e1, e2, e3⟩ := scan_nl _ s 0 1 ws (Nat.le_refl _) hc
    have e4 : scanS ([40] ++ s ++ [10, 41]) 0 = .inl (⟨3, [40], 0⟩ :: (vs ++ [w])) := by
      rw [List.append_assoc, List.cons_append, List.nil_append, scanS_cons, if_neg (by decide), if_neg (by decide), show kindC (40 : UInt8).toNat = 3 by decide, if_neg (by decide)]
      have ht : tailK 3 (s ++ [10, 41]) = [] := by
        unfold tailK
        cases s ++ [10, 41] with
        | nil => rfl
        | cons x t => rw [List.takeWhile_cons, show goC 3 x.toNat = false by unfold goC; simp]; rfl
      rw [ht, if_neg (by decide), List.length_nil, List.drop_zero, e1]; rfl
    rw [e4] at h'
    have hV := scan_VOk (by omega) hc
    have hV' := scan_VOk (s := [40] ++ s ++ [10, 41]) (by simp; omega) e4
    obtain ⟨v, hv, h⟩ := ebd_eq h
    obtain ⟨u, hu, h'⟩ := ebd_eq h'
    have W1 := hV.1
    have W2 := hV'.1
    have hlv : vs.length = ws.length := by have := congrArg List.length e2; simpa using this
    have hL : ((⟨3, [40], 0⟩ :: (vs ++ [w]) : List M_retrospectref16_Word).map toX).length = (ws.map toX).length + 2 := by simp; omega
    have n0 : (nxW ((⟨3, [40], 0⟩ :: (vs ++ [w]) : List M_retrospectref16_Word).map toX) 0).Text = [40] := rfl
    generalize hW' : (⟨3, [40], 0⟩ :: (vs ++ [w]) : List M_retrospectref16_Word).map toX = W' at W2 hu h' hL n0
    generalize hW : ws.map toX = W at W1 hv h hL
    have hlw : W.length = ws.length := by rw [← hW, List.length_map]
    have key : ∀ i, i < W.length → (nxW W' (i + 1)).Text = (nxW W i).Text := fun i hi => by
      rw [nx_map, nx_map, ← hW', ← hW]
      simp only [List.map_cons, List.map_append, List.map_map, List.getElem?_cons_succ]
      rw [List.getElem?_append_left (by simp; omega)]
      have := congrArg (fun l => l[i]?) e2
      simp only [List.getElem?_map] at this ⊢
      congr 1
    have hSh : Sh W W' := by
      refine ⟨hL, fun i hi => ⟨key i hi, ?_⟩, ?_⟩
      · have k1 := W1.2 _ (nxW_mem hi)
        have k2 := W2.2 _ (nxW_mem (W := W') (i := i + 1) (by omega))
        rw [key i hi] at k2
        cases hT : (nxW W i).Text with
        | nil => rw [hT] at k1; cases k1
        | cons x t => rw [hT] at k1 k2; exact ((wdB_cons _ _ _).1 k2).2.1.symm.trans ((wdB_cons _ _ _).1 k1).2.1
      · rw [nx_map, ← hW', hlw, ← hlv]
        simp [toX, e3]
    have hvl := (ex0_PO _ _ hv).2.1
    have hve : v.2 = W.length := by
      split at h
      · cases h
      · omega
    have hcv : c = v.1 := by
      split at h
      · cases h
      · cases h; rfl
    have hdu : d = u.1 := by
      split at h'
      · cases h'
      · cases h'; rfl
    have sh : exS W' (factS W' (([40] ++ s ++ [10, 41]).length : Int) Nm 40) (0 + 1) = .ok (shf v) := exS_sh hSh (fact_sh hSh 40) (factS_PO 40) 0 v hv
    have nend : (nxW W' W'.length).Text = [] := by rw [nxW_end (Nat.le_refl _)]
    unfold ex0 exS chainS at hu
    obtain ⟨t1, ht1, hu⟩ := ebd_eq hu
    unfold termS chainS at ht1
    obtain ⟨t0, ht0, ht1⟩ := ebd_eq ht1
    rw [fact_pos (by rw [n0]; decide)] at ht0
    unfold powS at ht0
    obtain ⟨a0, ha0, ht0⟩ := ebd_eq ht0
    have hk0 : (nxW W' 0).Kind = 3 := word_kind W2 (by omega) n0
    unfold atomS at ha0
    rw [if_neg (by rw [hk0]; decide), if_neg (by rw [n0]; decide), if_neg (by rw [n0]; decide), if_neg (by rw [n0]; decide), if_pos n0, if_neg (by decide)] at ha0
    obtain ⟨x, hx, ha0⟩ := ebd_eq ha0
    have hx' : exS W' (factS W' (([40] ++ s ++ [10, 41]).length : Int) Nm 40) (0 + 1) = .ok x := chainS_le (chainS_le (fact_le 39)) _ _ hx
    rw [sh] at hx'
    cases hx'
    obtain ⟨j, hj, ha0⟩ := ebd_eq ha0
    obtain ⟨rfl, _⟩ := needS_ok (by simp) hj
    cases ha0
    have hjl : (shf v).2 + 1 = W'.length := by show v.2 + 1 + 1 = _; omega
    simp only [hjl] at ht0
    rw [nend, if_neg (by decide)] at ht0
    cases ht0
    rw [chainL_stop (by simp only [hjl]; rw [nend]; decide) (by simp only [hjl]; rw [nend]; decide)] at ht1
    cases ht1
    rw [chainL_stop (by simp only [hjl]; rw [nend]; decide) (by simp only [hjl]; rw [nend]; decide)] at hu
    cases hu
    rw [hdu, hcv]; rfl
theorem code_NB {s : List UInt8} {Nm : List (List UInt8)} {c : List M_tree_Node} (h : codeS s Nm = .ok c) : c.length ≤ 5000 ∧ ∀ x ∈ c, NB x := by
  unfold codeS at h
  split at h
  · cases h
  · rename_i hs
    cases hc : scanS s 0 with
    | inr p => rw [hc] at h; cases h
    | inl ws =>
      rw [hc] at h
      have hV := scan_VOk (by omega) hc
      obtain ⟨v, hv, h⟩ := ebd_eq h
      split at h
      · cases h
      · cases h
        obtain ⟨g1, g2⟩ := ex0_fine hV.1 hv
        exact ⟨g1, fun x hx => ⟨by have := (g2 x hx).1; omega, (g2 x hx).2⟩⟩
theorem m_lex_Text_eq {W : List M_lex_Word} (h : W.length ≤ 100000) (hl : (Lib.join (W.map (·.Text)) [32]).length ≤ 100000) : m_lex_Text W = some (Lib.join (W.map (·.Text)) [32]) := by
  unfold m_lex_Text
  rw [range_acc (s := []) (fun i => (W.take i).map (·.Text)) W (fun i w hw => ?_) rfl, lpK_go]
  · rw [List.take_length]; unfold m_strings_Join
    rw [if_pos ⟨by simp; omega, by omega⟩, sbind]
  · have hi := lt_of_get hw
    rw [appM_ok (by simp; omega) (by simp; omega), sbind, take_succ_get hi]
    have : W[i] = w := by rw [List.getElem?_eq_getElem hi] at hw; exact Option.some.inj hw
    rw [this, List.map_append]; rfl
theorem law18_worksS : m_retrospectlaw18_works bigS = some true := by kernel_rfl
theorem FB_nil : FB ⟨[], []⟩ := ⟨by simp, by simp, by simp [codesT]⟩
/-- ParseBlanks. -/
theorem law_ParseBlanks (s : List UInt8) (_ : s.length ≤ maxLen) : ∃ n, m_retrospectlaw18_ParseBlanks n s = some true := by
  refine ⟨bigS, ?_⟩
  have hn : big ≤ bigS := by decide
  have hn1 : big + 100 ≤ bigS := by decide
  unfold m_retrospectlaw18_ParseBlanks
  rw [bifd]
  by_cases h0 : (1500 : Int) < (s.length : Int)
  · rw [if_pos h0, law18_worksS, sbind]
  · rw [if_neg h0, m_lex_Scan_eq hn (by omega), sbind, if_neg (by omega)]
    cases hc : scanS s 0 with
    | inr p =>
      show (bif !eqb_api_Fault (flt (p : Int)) ⟨0, 0, 0, 0⟩ then _ else _) = _
      rw [eqb_flt, Bool.not_false, bifT, law18_worksS, sbind]
    | inl ws =>
      show (bif !eqb_api_Fault ⟨0, 0, 0, 0⟩ ⟨0, 0, 0, 0⟩ then _ else ((m_parse_Parse bigS s).bind fun r7 => (m_lex_Text ([] ++ ws.map toX)).bind fun r9 => _)) = _
      obtain ⟨hp, hl⟩ := parse_words (by omega) hc
      have hwl := (scan_ok _ s 0 ws (Nat.le_refl _) hc).1
      have eT : (ws.map toX).map (·.Text) = ws.map (·.Text) := by rw [List.map_map]; rfl
      rw [eqb_zero, Bool.not_true, bifF, m_parse_Parse_eq hn1 (by omega), sbind, List.nil_append, m_lex_Text_eq (by simp; omega) (by rw [eT]; omega), sbind, eT, m_parse_Parse_eq hn1 (by omega), sbind]
      have second : ((m_parse_Expr bigS s ([([97] : List UInt8), ([98] : List UInt8)] : List (List UInt8))).bind fun r26 =>
          bif !(eqb_api_Fault r26.2 (⟨0, 0, 0, 0⟩ : M_api_Fault)) then (
            (m_retrospectlaw18_works bigS).bind fun r28 =>
            some r28)
          else (
            (catS ([40] : List UInt8) s).bind fun y30 =>
            (catS y30 ([10, 41] : List UInt8)).bind fun y32 =>
            (m_parse_Expr bigS y32 ([([97] : List UInt8), ([98] : List UInt8)] : List (List UInt8))).bind fun r34 =>
            jn (fun (j50 : (Bool) → Option _) =>
              bif (eqb_api_Fault r34.2 (⟨0, 0, 0, 0⟩ : M_api_Fault)) then (
                (m_tree_Same bigS r26.1 r34.1).bind fun r53 =>
                bif r53 then (
                  (m_tree_Right r26.1).bind fun r55 =>
                  bif r55 then (
                    (m_retrospectlaw18_works bigS).bind fun r57 =>
                    j50 r57)
                  else (
                    j50 false))
                else (
                  bif decide (r34.2.Kind = (1 : Int)) then (
                    (m_tree_Right r26.1).bind fun r59 =>
                    bif r59 then (
                      (m_retrospectlaw18_works bigS).bind fun r61 =>
                      j50 r61)
                    else (
                      j50 false))
                  else (
                    j50 false)))
              else (
                bif decide (r34.2.Kind = (1 : Int)) then (
                  (m_tree_Right r26.1).bind fun r63 =>
                  bif r63 then (
                    (m_retrospectlaw18_works bigS).bind fun r65 =>
                    j50 r65)
                  else (
                    j50 false))
                else (
                  j50 false))) (fun (s52 : Bool) =>
              some s52))) = some true := by
        rw [m_parse_Expr_eq hn1 (by omega) (by decide), sbind]
        cases hq : codeS s [[97], [98]] with
        | error q => simp only [okF]; rw [eqb_flt, Bool.not_false, bifT, law18_worksS, sbind]
        | ok c =>
          simp only [okF]
          obtain ⟨c1, c2⟩ := code_NB hq
          have hr := code_right hq
          rw [eqb_zero, Bool.not_true, bifF, catS_ok (by simp; omega), sbind, catS_ok (by simp; omega), sbind, m_parse_Expr_eq hn1 (by simp; omega) (by decide), sbind, jn_eq]
          cases hq' : codeS ([40] ++ s ++ [10, 41]) [[97], [98]] with
          | error q =>
            simp only [okF]
            have hk : (flt q).Kind = 1 := rfl
            rw [eqb_flt, bifF]
            simp only [hk, decide_true, bifT]
            rw [m_tree_Right_eq (by omega), sbind, decide_eq_true hr, bifT, law18_worksS, sbind]
          | ok d =>
            have hd := code_br (by omega) hq hq'
            subst hd
            simp only [okF]
            rw [eqb_zero, bifT, m_tree_Same_self hn c2, sbind, bifT, m_tree_Right_eq (by omega), sbind, decide_eq_true hr, bifT, law18_worksS, sbind]
      cases h1 : parseS s with
      | ok f =>
        rw [h1] at hp
        have h2 := okv_ok.1 hp.symm
        obtain ⟨hF, _⟩ := parseS_FB (by omega) h1
        rw [h2, jn_eq]
        simp only [okF]
        rw [eqb_zero, show (true != true) = false from rfl, bifF, m_tree_SameField_self hn hF, sbind, sbind, Bool.not_true]
        exact second
      | error q =>
        rw [h1] at hp
        obtain ⟨q', h2⟩ : ∃ q', parseS (Lib.join (ws.map (·.Text)) [32]) = .error q' := by
          cases hx : parseS (Lib.join (ws.map (·.Text)) [32]) with
          | error q' => exact ⟨q', rfl⟩
          | ok f => rw [hx] at hp; cases hp
        rw [h2, jn_eq]
        simp only [okF]
        rw [eqb_flt, eqb_flt, show (false != false) = false from rfl, bifF, m_tree_SameField_self hn FB_nil, sbind, sbind, Bool.not_true]
        exact second
end Go.Proofs.YtpomhkkhdojpiaaDoor
