import Derived.Test.YtpomhkkhdojpiaaDoorPlPv
namespace Go.Proofs.YtpomhkkhdojpiaaDoor
open Go Go.RowKit
/-! ### Fields -/
def ex0 (W : List M_lex_Word) (E : Int) (Nm : List (List UInt8)) (i : Nat) : Prs := exS W (factS W E Nm 40) i
theorem ex0_PO {W E Nm} : PO W (ex0 W E Nm) := exS_PO (factS_PO 40)
def letsL (W : List M_lex_Word) (E : Int) : Nat → List (List UInt8) → List M_tree_Let → Nat → Except Int ((List M_tree_Let × List (List UInt8)) × Nat)
  | 0, Nm, L, i => .ok ((L, Nm), i)
  | k + 1, Nm, L, i => if (nxW W i).Text = [108, 101, 116] then ebd (nameS W E (i + 1)) fun v => ebd (needS W E [61] v.2) fun j => ebd (ex0 W E Nm j) fun c => ebd (needS W E [59] c.2) fun j => letsL W E k (Nm ++ [v.1]) (L ++ [⟨v.1, c.1⟩]) j
    else .ok ((L, Nm), i)
def outsL (W : List M_lex_Word) (E : Int) (Nm : List (List UInt8)) : Nat → List (List M_tree_Node) → Nat → Except Int (List (List M_tree_Node) × Nat)
  | 0, O, i => .ok (O, i)
  | k + 1, O, i => if (nxW W i).Text = [44] then ebd (ex0 W E Nm (i + 1)) fun c => outsL W E Nm k (O ++ [c.1]) c.2 else .ok (O, i)
def fieldS (W : List M_lex_Word) (E : Int) : Except Int ((M_tree_Field × List (List UInt8)) × Nat) :=
  ebd (letsL W E W.length [] [] 0) fun a => ebd (needS W E [91] a.2) fun j => ebd (ex0 W E a.1.2 j) fun c => ebd (outsL W E a.1.2 W.length [c.1] c.2) fun b => ebd (needS W E [93] b.2) fun j => .ok ((⟨a.1.1, b.1⟩, a.1.2), j)
section
variable {W : List M_lex_Word} {E : Int}
theorem letsL_ok : ∀ (k : Nat) (Nm : List (List UInt8)) (L : List M_tree_Let) (i : Nat) (v), i ≤ W.length → Nm.length ≤ i → L.length ≤ i → letsL W E k Nm L i = .ok v → i ≤ v.2 ∧ v.2 ≤ W.length ∧ v.1.2.length ≤ v.2 ∧ v.1.1.length ≤ v.2
  | 0, Nm, L, i, v, h1, h2, h3, h => by unfold letsL at h; cases h; exact ⟨Nat.le_refl _, h1, h2, h3⟩
  | k + 1, Nm, L, i, v, h1, h2, h3, h => by
    unfold letsL at h
    split at h
    · obtain ⟨a, ha, h⟩ := ebd_eq h
      obtain ⟨j, hj, h⟩ := ebd_eq h
      obtain ⟨c, hc, h⟩ := ebd_eq h
      obtain ⟨j', hj', h⟩ := ebd_eq h
      obtain ⟨a1, a2, _⟩ := nameS_ok ha
      obtain ⟨rfl, b2⟩ := needS_ok (by simp) hj
      have g := ex0_PO _ _ hc
      obtain ⟨rfl, c2⟩ := needS_ok (by simp) hj'
      have := letsL_ok k _ _ _ v (by omega) (by simp; omega) (by simp; omega) h
      omega
    · cases h; exact ⟨Nat.le_refl _, h1, h2, h3⟩
theorem outsL_ok {Nm} : ∀ (k : Nat) (O : List (List M_tree_Node)) (i : Nat) (v), i ≤ W.length → O.length ≤ i → outsL W E Nm k O i = .ok v → i ≤ v.2 ∧ v.2 ≤ W.length ∧ v.1.length ≤ v.2
  | 0, O, i, v, h1, h2, h => by unfold outsL at h; cases h; exact ⟨Nat.le_refl _, h1, h2⟩
  | k + 1, O, i, v, h1, h2, h => by
    unfold outsL at h
    split at h
    · obtain ⟨c, hc, h⟩ := ebd_eq h
      have g := ex0_PO _ _ hc
      have := outsL_ok k _ _ v (by omega) (by simp; omega) h
      omega
    · cases h; exact ⟨Nat.le_refl _, h1, h2⟩
theorem m_expr0 {Nm : List (List UInt8)} {n : Nat} (hW : WOk W) (hn : big + 100 ≤ n) (i : Nat) (hi : i ≤ W.length) : m___parse_reader__expr n W (i : Int) E 0 Nm = cvP (outP W E 0 Nm) (ex0 W E Nm i) := m_expr_rd hW 40 n (by omega) (by omega) i hi
def outF (W : List M_lex_Word) (E : Int) (v : (M_tree_Field × List (List UInt8)) × Nat) : M_tree_Field × List M_lex_Word × Int × Int × Int × List (List UInt8) := (v.1.1, W, (v.2 : Int), E, 0, v.1.2)
abbrev PLt := (List M_lex_Word) × Int × Int × Int × (List (List UInt8)) × (List M_tree_Let)
abbrev POt := (List M_lex_Word) × Int × Int × Int × (List (List UInt8)) × (List (List M_tree_Node))
abbrev PFR := Except M_api_Fault (M_tree_Field × List M_lex_Word × Int × Int × Int × List (List UInt8))
def pLtF (n : Nat) : PLt → Option (Lp PLt (Lp PLt PFR)) := fun (s18 : (List M_lex_Word) × Int × Int × Int × (List (List UInt8)) × (List M_tree_Let)) =>
    (m___parse_reader__has s18.1 s18.2.1 s18.2.2.1 s18.2.2.2.1 s18.2.2.2.2.1 ([108, 101, 116] : List UInt8)).bind fun r19 =>
    bif r19.1 then (
      (m___parse_reader__name r19.2.1 r19.2.2.1 r19.2.2.2.1 r19.2.2.2.2 s18.2.2.2.2.1).bind (exK (fun e =>
        some (Lp.out (Lp.out (Except.error e)))) fun r21 =>
      (m___parse_reader__need r21.2.1 r21.2.2.1 r21.2.2.2.1 r21.2.2.2.2 s18.2.2.2.2.1 ([61] : List UInt8)).bind (exK (fun e =>
        some (Lp.out (Lp.out (Except.error e)))) fun r23 =>
      (m___parse_reader__expr n r23.1 r23.2.1 r23.2.2.1 r23.2.2.2 s18.2.2.2.2.1).bind (exK (fun e =>
        some (Lp.out (Lp.out (Except.error e)))) fun r25 =>
      (appM 40 s18.2.2.2.2.2 ([(⟨r21.1, r25.1⟩ : M_tree_Let)] : List M_tree_Let)).bind fun y27 =>
      (m___parse_reader__need r25.2.1 r25.2.2.1 r25.2.2.2.1 r25.2.2.2.2.1 r25.2.2.2.2.2 ([59] : List UInt8)).bind (exK (fun e =>
        some (Lp.out (Lp.out (Except.error e)))) fun r29 =>
      (appM 16 r25.2.2.2.2.2 ([r21.1] : List (List UInt8))).bind fun y31 =>
      some (Lp.go (r29.1, r29.2.1, r29.2.2.1, r29.2.2.2, y31, y27)))))))
    else (
      some (Lp.out (Lp.go (r19.2.1, r19.2.2.1, r19.2.2.2.1, r19.2.2.2.2, s18.2.2.2.2.1, s18.2.2.2.2.2))))
def pOtF (n : Nat) : POt → Option (Lp POt (Lp POt PFR)) := fun (s57 : (List M_lex_Word) × Int × Int × Int × (List (List UInt8)) × (List (List M_tree_Node))) =>
    (m___parse_reader__has s57.1 s57.2.1 s57.2.2.1 s57.2.2.2.1 s57.2.2.2.2.1 ([44] : List UInt8)).bind fun r58 =>
    bif r58.1 then (
      (m___parse_reader__expr n r58.2.1 r58.2.2.1 r58.2.2.2.1 r58.2.2.2.2 s57.2.2.2.2.1).bind (exK (fun e =>
        some (Lp.out (Lp.out (Except.error e)))) fun r60 =>
      (appM 24 s57.2.2.2.2.2 ([r60.1] : List (List M_tree_Node))).bind fun y62 =>
      some (Lp.go (r60.2.1, r60.2.2.1, r60.2.2.2.1, r60.2.2.2.2.1, r60.2.2.2.2.2, y62))))
    else (
      some (Lp.out (Lp.go (r58.2.1, r58.2.2.1, r58.2.2.2.1, r58.2.2.2.2, s57.2.2.2.2.1, s57.2.2.2.2.2))))
def pTl (n : Nat) (t16 : PLt) : Option PFR :=
  (m___parse_reader__need t16.1 t16.2.1 t16.2.2.1 t16.2.2.2.1 t16.2.2.2.2.1 ([91] : List UInt8)).bind (exK (fun e =>
    some (Except.error e)) fun r33 =>
  (m___parse_reader__expr n r33.1 r33.2.1 r33.2.2.1 r33.2.2.2 t16.2.2.2.2.1).bind (exK (fun e =>
    some (Except.error e)) fun r35 =>
  (appM 24 ([] : List (List M_tree_Node)) ([r35.1] : List (List M_tree_Node))).bind fun y37 =>
  (loopM (pOtF n) n (r35.2.1, r35.2.2.1, r35.2.2.2.1, r35.2.2.2.2.1, r35.2.2.2.2.2, y37)).bind (lpK fun (t55 : (List M_lex_Word) × Int × Int × Int × (List (List UInt8)) × (List (List M_tree_Node))) =>
  (m___parse_reader__need t55.1 t55.2.1 t55.2.2.1 t55.2.2.2.1 t55.2.2.2.2.1 ([93] : List UInt8)).bind (exK (fun e =>
    some (Except.error e)) fun r64 =>
  some (Except.ok ((⟨t16.2.2.2.2.2, t55.2.2.2.2.2⟩ : M_tree_Field), r64.1, r64.2.1, r64.2.2.1, r64.2.2.2, t55.2.2.2.2.1))))))
theorem p_field_eq (n : Nat) (W I E d Nm) : m___parse_reader__field n W I E d Nm = (loopM (pLtF n) n (W, I, E, d, Nm, ([] : List M_tree_Let))).bind (lpK (pTl n)) := by unfold m___parse_reader__field pLtF pTl pOtF; rfl
/-- What a loop with two ways out comes to. -/
def lpP {α σ τ : Type} (f : α → σ) : Except Int α → Option (Lp σ (Except M_api_Fault τ))
  | .ok v => some (.go (f v))
  | .error q => some (.out (.error (flt q)))
theorem p_lets (hW : WOk W) {n : Nat} (hn : big + 100 ≤ n) : ∀ (k m i : Nat) (Nm : List (List UInt8)) (L : List M_tree_Let), i ≤ W.length → Nm.length ≤ i → L.length ≤ i → W.length - i ≤ k → W.length - i < m →
    loopM (pLtF n) m (W, (i : Int), E, 0, Nm, L) = lpP (fun v : (List M_tree_Let × List (List UInt8)) × Nat => (W, (v.2 : Int), E, 0, v.1.2, v.1.1)) (letsL W E k Nm L i) := by
  have hWl := hW.1
  intro k
  induction k with
  | zero =>
    intro m i Nm L hi hN hL hk hm
    have e1 : (nxW W i).Text ≠ [108, 101, 116] := fun e => by have := nx_lt (by simp) e; omega
    unfold letsL lpP
    exact loop_out (by unfold pLtF; simp only [m_has_eq (show i ≤ 100000 by omega), sbind, decide_eq_false e1, bifF, if_neg e1]) (by omega)
  | succ k ih =>
    intro m i Nm L hi hN hL hk hm
    obtain ⟨m, rfl⟩ : ∃ q, m = q + 1 := ⟨m - 1, by omega⟩
    unfold letsL
    by_cases e1 : (nxW W i).Text = [108, 101, 116]
    · have hil := nx_lt (by simp) e1
      rw [if_pos e1]
      have hstep : pLtF n (W, (i : Int), E, 0, Nm, L) = (m___parse_reader__name W ((i + 1 : Nat) : Int) E 0 Nm).bind (exK (fun e =>
        some (Lp.out (Lp.out (Except.error e)))) fun r21 =>
      (m___parse_reader__need r21.2.1 r21.2.2.1 r21.2.2.2.1 r21.2.2.2.2 Nm ([61] : List UInt8)).bind (exK (fun e =>
        some (Lp.out (Lp.out (Except.error e)))) fun r23 =>
      (m___parse_reader__expr n r23.1 r23.2.1 r23.2.2.1 r23.2.2.2 Nm).bind (exK (fun e =>
        some (Lp.out (Lp.out (Except.error e)))) fun r25 =>
      (appM 40 L ([(⟨r21.1, r25.1⟩ : M_tree_Let)] : List M_tree_Let)).bind fun y27 =>
      (m___parse_reader__need r25.2.1 r25.2.2.1 r25.2.2.2.1 r25.2.2.2.2.1 r25.2.2.2.2.2 ([59] : List UInt8)).bind (exK (fun e =>
        some (Lp.out (Lp.out (Except.error e)))) fun r29 =>
      (appM 16 r25.2.2.2.2.2 ([r21.1] : List (List UInt8))).bind fun y31 =>
      some (Lp.go (r29.1, r29.2.1, r29.2.2.1, r29.2.2.2, y31, y27)))))) := by
        unfold pLtF; simp only [m_has_eq (show i ≤ 100000 by omega), sbind, decide_eq_true e1, bifT, if_pos e1]
      rw [m_name_eq (by omega)] at hstep
      cases h1 : nameS W E (i + 1) with
      | error q =>
        rw [h1, cvP_err, exK_err] at hstep
        rw [ebd_err]
        exact loop_out hstep (by omega)
      | ok v =>
        obtain ⟨g1, g2, _⟩ := nameS_ok h1
        rw [h1, cvP_ok, exK_ok] at hstep
        simp only [] at hstep
        rw [m_need_eq (by omega)] at hstep
        rw [ebd_ok]
        cases h2 : needS W E [61] v.2 with
        | error q =>
          rw [h2, cvP_err, exK_err] at hstep
          rw [ebd_err]
          exact loop_out hstep (by omega)
        | ok j =>
          obtain ⟨rfl, g3⟩ := needS_ok (by simp) h2
          rw [h2, cvP_ok, exK_ok] at hstep
          simp only [] at hstep
          rw [m_expr0 hW hn _ (by omega)] at hstep
          rw [ebd_ok]
          cases h3 : ex0 W E Nm (v.2 + 1) with
          | error q =>
            rw [h3, cvP_err, exK_err] at hstep
            rw [ebd_err]
            exact loop_out hstep (by omega)
          | ok c =>
            have g4 := ex0_PO _ _ h3
            rw [h3, cvP_ok, exK_ok] at hstep
            simp only [outP] at hstep
            rw [appM_ok (by simp; omega) (by simp; omega), sbind, m_need_eq (by omega)] at hstep
            rw [ebd_ok]
            cases h4 : needS W E [59] c.2 with
            | error q =>
              rw [h4, cvP_err, exK_err] at hstep
              rw [ebd_err]
              exact loop_out hstep (by omega)
            | ok j =>
              obtain ⟨rfl, g5⟩ := needS_ok (by simp) h4
              rw [h4, cvP_ok, exK_ok, appM_ok (by simp; omega) (by simp; omega), sbind] at hstep
              rw [ebd_ok, loop_go hstep]
              exact ih m (c.2 + 1) _ _ (by omega) (by simp; omega) (by simp; omega) (by omega) (by omega)
    · rw [if_neg e1]
      exact loop_out (by unfold pLtF; simp only [m_has_eq (show i ≤ 100000 by omega), sbind, decide_eq_false e1, bifF, if_neg e1]) (by omega)
theorem p_outs (hW : WOk W) {n : Nat} (hn : big + 100 ≤ n) {Nm : List (List UInt8)} : ∀ (k m i : Nat) (O : List (List M_tree_Node)), i ≤ W.length → O.length ≤ i → W.length - i ≤ k → W.length - i < m →
    loopM (pOtF n) m (W, (i : Int), E, 0, Nm, O) = lpP (fun v : List (List M_tree_Node) × Nat => (W, (v.2 : Int), E, 0, Nm, v.1)) (outsL W E Nm k O i) := by
  have hWl := hW.1
  intro k
  induction k with
  | zero =>
    intro m i O hi hO hk hm
    have e1 : (nxW W i).Text ≠ [44] := fun e => by have := nx_lt (by simp) e; omega
    unfold outsL lpP
    exact loop_out (by unfold pOtF; simp only [m_has_eq (show i ≤ 100000 by omega), sbind, decide_eq_false e1, bifF, if_neg e1]) (by omega)
  | succ k ih =>
    intro m i O hi hO hk hm
    obtain ⟨m, rfl⟩ : ∃ q, m = q + 1 := ⟨m - 1, by omega⟩
    unfold outsL
    by_cases e1 : (nxW W i).Text = [44]
    · have hil := nx_lt (by simp) e1
      rw [if_pos e1]
      have hx := m_expr0 (E := E) (Nm := Nm) hW hn (i + 1) (by omega)
      cases h3 : ex0 W E Nm (i + 1) with
      | error q =>
        rw [h3, cvP_err] at hx
        rw [ebd_err]
        exact loop_out (by unfold pOtF; simp only [m_has_eq (show i ≤ 100000 by omega), sbind, decide_eq_true e1, bifT, if_pos e1, hx, exk_err]) (by omega)
      | ok c =>
        have g4 := ex0_PO _ _ h3
        rw [h3, cvP_ok] at hx
        rw [ebd_ok, loop_go (s' := (W, (c.2 : Int), E, 0, Nm, O ++ [c.1]))]
        · exact ih m c.2 _ (by omega) (by simp; omega) (by omega) (by omega)
        · unfold pOtF; simp only [m_has_eq (show i ≤ 100000 by omega), sbind, decide_eq_true e1, bifT, if_pos e1, hx, exk_ok, outP]
          rw [appM_ok (by simp; omega) (by simp; omega), sbind]
    · rw [if_neg e1]
      exact loop_out (by unfold pOtF; simp only [m_has_eq (show i ≤ 100000 by omega), sbind, decide_eq_false e1, bifF, if_neg e1]) (by omega)
theorem p_field (hW : WOk W) {n : Nat} (hn : big + 100 ≤ n) : m___parse_reader__field n W 0 E 0 [] = cvP (outF W E) (fieldS W E) := by
  have hWl := hW.1
  have hbig : 100000 < n := by unfold big at hn; omega
  rw [p_field_eq, show ((0 : Int)) = ((0 : Nat) : Int) by rfl, show loopM (pLtF n) n (W, ((0 : Nat) : Int), E, ((0 : Nat) : Int), ([] : List (List UInt8)), ([] : List M_tree_Let)) = _ from p_lets hW hn W.length n 0 [] [] (Nat.zero_le _) (Nat.le_refl _) (Nat.le_refl _) (by omega) (by omega)]
  unfold fieldS
  cases h0 : letsL W E W.length [] [] 0 with
  | error q => rw [ebd_err]; rfl
  | ok a =>
    have g0 := letsL_ok _ _ _ _ _ (Nat.zero_le _) (Nat.le_refl _) (Nat.le_refl _) h0
    rw [ebd_ok]
    show (some (Lp.go (W, (a.2 : Int), E, (0 : Int), a.1.2, a.1.1))).bind (lpK (pTl n)) = _
    rw [sbind, lpK_go]
    unfold pTl
    simp only []
    rw [m_need_eq (by omega)]
    cases h1 : needS W E [91] a.2 with
    | error q => rw [cvP_err, exK_err, ebd_err, cvP_err]
    | ok j =>
      obtain ⟨rfl, g1⟩ := needS_ok (by simp) h1
      rw [cvP_ok, exK_ok, ebd_ok]
      simp only []
      rw [m_expr0 hW hn _ (by omega)]
      cases h2 : ex0 W E a.1.2 (a.2 + 1) with
      | error q => rw [cvP_err, exK_err, ebd_err, cvP_err]
      | ok c =>
        have g2 := ex0_PO _ _ h2
        rw [cvP_ok, exK_ok, ebd_ok]
        simp only [outP]
        rw [appM_ok (by simp) (by simp), sbind, List.nil_append, p_outs hW hn W.length n c.2 [c.1] (by omega) (by simp; omega) (by omega) (by omega)]
        cases h3 : outsL W E a.1.2 W.length [c.1] c.2 with
        | error q => rw [ebd_err, cvP_err]; rfl
        | ok b =>
          have g3 := outsL_ok _ _ _ _ (by omega) (by simp; omega) h3
          rw [ebd_ok]
          show (some (Lp.go (W, (b.2 : Int), E, (0 : Int), a.1.2, b.1))).bind (lpK _) = _
          rw [sbind, lpK_go]
          simp only []
          rw [m_need_eq (by omega)]
          cases h4 : needS W E [93] b.2 with
          | error q => rw [cvP_err, exK_err, ebd_err, cvP_err]
          | ok j => rw [cvP_ok, exK_ok, ebd_ok, cvP_ok]; rfl
theorem p_over {d : Int} {Nm : List (List UInt8)} {i : Nat} : m___parse_reader__over W (i : Int) E d Nm = cvP (fun _ : Unit => ()) (if i < W.length then .error (nxA W E i) else .ok ()) := by
  unfold m___parse_reader__over
  rw [bifd]
  by_cases h : i < W.length
  · rw [if_pos (by omega), if_pos h, m_fail_eq, exK_err, cvP_err]
  · rw [if_neg (by omega), if_neg h, cvP_ok]
end
/-! #### Texts -/
def parseS (s : List UInt8) : Except Int M_tree_Field :=
  if 4000 < s.length then .error 4000 else match scanS s 0 with
  | .inr p => .error (p : Int)
  | .inl ws => ebd (fieldS (ws.map toX) (s.length : Int)) fun v => if v.2 < ws.length then .error (nxA (ws.map toX) (s.length : Int) v.2) else .ok v.1.1
def codeS (s : List UInt8) (Nm : List (List UInt8)) : Except Int (List M_tree_Node) :=
  if 4000 < s.length then .error 4000 else match scanS s 0 with
  | .inr p => .error (p : Int)
  | .inl ws => ebd (ex0 (ws.map toX) (s.length : Int) Nm 0) fun v => if v.2 < ws.length then .error (nxA (ws.map toX) (s.length : Int) v.2) else .ok v.1
/-- A scan's words. -/
theorem scan_ok : ∀ (m : Nat) (s : List UInt8) (i : Nat) (ws), s.length ≤ m → scanS s i = .inl ws → ws.length ≤ s.length ∧ ∀ w ∈ ws, 0 ≤ w.At ∧ wdB w.Kind w.Text = true
  | _, [], i, ws, _, h => by rw [scanS_nil] at h; cases h; simp
  | 0, _ :: _, _, _, h, _ => by simp at h
  | m + 1, c :: r, i, ws, hm, h => by
    rw [scanS_cons] at h
    simp only [List.length_cons] at hm ⊢
    split at h
    · have := scan_ok m r _ ws (by omega) h; exact ⟨by omega, this.2⟩
    · split at h
      · have h1 := dropWhile_le (fun b : UInt8 => decide (b.toNat ≠ 10)) r
        have := scan_ok m _ _ ws (by omega) h; exact ⟨by omega, this.2⟩
      · split at h
        · cases h
        · rename_i hk0
          split at h
          · cases h
          · rename_i hmost
            cases hr : scanS (r.drop (tailK (kindC c.toNat) r).length) (i + 1 + (tailK (kindC c.toNat) r).length) with
            | inr p => rw [hr] at h; cases h
            | inl ws' =>
              rw [hr] at h
              cases h
              have := scan_ok m _ _ ws' (by simp; omega) hr
              refine ⟨by simp at this ⊢; omega, fun w hw => ?_⟩
              rcases List.mem_cons.1 hw with rfl | hw
              · refine ⟨Int.natCast_nonneg _, (wdB_cons _ _ _).2 ⟨hk0, rfl, ?_, by show _ ≤ mostC (kindC c.toNat); omega⟩⟩
                refine List.all_eq_true.2 fun b hb => ?_
                have hb' : b ∈ r.takeWhile (fun b => goC (kindC c.toNat) b.toNat) := hb
                have key : ∀ (l : List UInt8) (p : UInt8 → Bool), ∀ b ∈ l.takeWhile p, p b = true := by
                  intro l p
                  induction l with
                  | nil => intro b hb; simp at hb
                  | cons x l ih =>
                    intro b hb
                    rw [List.takeWhile_cons] at hb
                    split at hb
                    · rename_i hx
                      rcases List.mem_cons.1 hb with rfl | hb
                      · exact hx
                      · exact ih b hb
                    · simp at hb
                exact key _ _ b hb'
              · exact this.2 w hw
theorem scan_VOk {s : List UInt8} {ws : List M_retrospectref16_Word} (hs : s.length ≤ 4000) (h : scanS s 0 = .inl ws) : VOk ws (s.length : Int) := by
  have := scan_ok _ s 0 ws (Nat.le_refl _) h
  refine ⟨⟨by rw [len_toX]; omega, fun w hw => ?_⟩, Int.natCast_nonneg _, fun w hw => (this.2 w hw).1⟩
  obtain ⟨v, hv, rfl⟩ := List.mem_map.1 hw
  exact (this.2 v hv).2
def okF {α : Type} (z : α) : Except Int α → α × M_api_Fault
  | .ok f => (f, ⟨0, 0, 0, 0⟩)
  | .error q => (z, flt q)
theorem eqb_flt (p : Int) : eqb_api_Fault (flt p) ⟨0, 0, 0, 0⟩ = false := by
  unfold eqb_api_Fault flt; simp
theorem eqb_zero : eqb_api_Fault ⟨0, 0, 0, 0⟩ ⟨0, 0, 0, 0⟩ = true := by unfold eqb_api_Fault; simp
theorem m_parse_Parse_eq {n : Nat} {s : List UInt8} (hn : big + 100 ≤ n) (hs0 : s.length ≤ 9223372036854775807) : m_parse_Parse n s = some (okF ⟨[], []⟩ (parseS s)) := by
  unfold m_parse_Parse m_parse_begin parseS
  rw [m_lex_Scan_eq (by omega) hs0, sbind, appM_ok (by simp) (by simp), sbind, sbind]
  simp only [List.append_nil]
  by_cases hs : 4000 < s.length
  · rw [if_pos hs, if_pos hs, eqb_flt]; rfl
  rw [if_neg hs, if_neg hs]
  cases h : scanS s 0 with
  | inr p => simp only [lexR]; rw [eqb_flt]; rfl
  | inl ws =>
    have hV := scan_VOk (by omega) h
    simp only [lexR, List.nil_append]
    rw [eqb_zero, show (!true) = false by rfl, bifF, p_field hV.1 hn]
    cases hf : fieldS (ws.map toX) (s.length : Int) with
    | error q => rw [cvP_err, exK_err, ebd_err]; rfl
    | ok v =>
      rw [cvP_ok, exK_ok, ebd_ok]
      simp only [outF]
      rw [p_over, len_toX]
      by_cases hl : v.2 < ws.length
      · rw [if_pos hl, if_pos hl, cvP_err, exK_err]; rfl
      · rw [if_neg hl, if_neg hl, cvP_ok, exK_ok]; rfl
theorem m_parse_Expr_eq {n : Nat} {s : List UInt8} {Nm : List (List UInt8)} (hn : big + 100 ≤ n) (hs0 : s.length ≤ 9223372036854775807) (hN : Nm.length ≤ 100000) : m_parse_Expr n s Nm = some (okF [] (codeS s Nm)) := by
  unfold m_parse_Expr m_parse_begin codeS
  rw [m_lex_Scan_eq (by omega) hs0, sbind, appM_ok (by simp; omega) (by simp; omega), sbind, sbind]
  simp only [List.nil_append]
  by_cases hs : 4000 < s.length
  · rw [if_pos hs, if_pos hs, eqb_flt]; rfl
  rw [if_neg hs, if_neg hs]
  cases h : scanS s 0 with
  | inr p => simp only [lexR]; rw [eqb_flt]; rfl
  | inl ws =>
    have hV := scan_VOk (by omega) h
    simp only [lexR, List.nil_append]
    rw [eqb_zero, show (!true) = false by rfl, bifF, show ((0 : Int)) = ((0 : Nat) : Int) by rfl, show m___parse_reader__expr n (ws.map toX) ((0 : Nat) : Int) (s.length : Int) ((0 : Nat) : Int) Nm = _ from m_expr0 hV.1 hn 0 (Nat.zero_le _)]
    cases hf : ex0 (ws.map toX) (s.length : Int) Nm 0 with
    | error q => rw [cvP_err, exK_err, ebd_err]; rfl
    | ok v =>
      rw [cvP_ok, exK_ok, ebd_ok]
      simp only [outP]
      rw [p_over, len_toX]
      by_cases hl : v.2 < ws.length
      · rw [if_pos hl, if_pos hl, cvP_err, exK_err]; rfl
      · rw [if_neg hl, if_neg hl, cvP_ok, exK_ok]; rfl
end Go.Proofs.YtpomhkkhdojpiaaDoor
