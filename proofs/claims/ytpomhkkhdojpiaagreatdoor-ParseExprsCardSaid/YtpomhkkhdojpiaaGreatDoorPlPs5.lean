import Derived.Test.YtpomhkkhdojpiaaGreatDoorPlPs4
namespace Go.Proofs.YtpomhkkhdojpiaaGreatDoor
open Go Go.RowKit
section
variable {V : List M_retrospectref16_Word} {E : Int} {Nm : List (List UInt8)}
theorem needS_err {W : List M_lex_Word} {E : Int} {t : List UInt8} {i : Nat} {q : Int} (h : needS W E t i = .error q) : q = nxA W E i := by
  unfold needS at h; split at h
  · cases h
  · cases h; rfl
theorem smallS_err {W : List M_lex_Word} {E : Int} {i : Nat} {q : Int} (h : smallS W E i = .error q) : q = nxA W E i := by
  unfold smallS at h; split at h
  · cases h; rfl
  · cases h
/-- y or p, behind it a number in brackets. -/
def rCp (n : Nat) (op : Int) (V : List M_retrospectref16_Word) (I E d : Int) (Nm : List (List UInt8)) : Option (List M_retrospectref17_Node × List M_retrospectref16_Word × Int × Int × Int × Int × List (List UInt8)) :=
  (m___retrospectref18_P__must V I E d Nm (-1) ([91] : List UInt8)).bind fun r31 =>
  (m___retrospectref18_P__small n r31.1 r31.2.1 r31.2.2.1 r31.2.2.2.1 Nm r31.2.2.2.2).bind fun r33 =>
  (m___retrospectref18_P__must r33.2.1 r33.2.2.1 r33.2.2.2.1 r33.2.2.2.2.1 Nm r33.2.2.2.2.2 ([93] : List UInt8)).bind fun r35 =>
  (some (([(⟨op, r33.1, []⟩ : M_retrospectref17_Node)] : List M_retrospectref17_Node))).bind fun z37 =>
  some (z37, r35.1, r35.2.1, r35.2.2.1, r35.2.2.2.1, r35.2.2.2.2, Nm)
theorem rCp_eq {n : Nat} {op d : Int} {i : Nat} (hn : big ≤ n) (hi : i ≤ 90000) (hV : VOk V E) : match compS (V.map toX) E op i with
    | .ok v => rCp n op V ((i + 1 : Nat) : Int) E d Nm = some (v.1.map dN, V, (v.2 : Int), E, d, -1, Nm)
    | .error q => 0 ≤ q ∧ ∃ c I d', rCp n op V ((i + 1 : Nat) : Int) E d Nm = some (c, V, I, E, d', q, Nm) ∧ c.length ≤ 1 := by
  unfold rCp compS
  have hVl : V.length ≤ 4000 := by have := hV.1.1; rwa [len_toX] at this
  rw [r_must_eq (by omega) (by simp)]
  cases h1 : needS (V.map toX) E [91] (i + 1) with
  | error q =>
    have hq : 0 ≤ q := by rw [needS_err h1]; exact nxA_pos hV _
    rw [ebd_err]
    refine ⟨hq, [⟨op, 0, []⟩], ((i + 1 : Nat) : Int), d, ?_, by simp⟩
    simp only [sbind]
    rw [r_small_bad hq, sbind]
    simp only []
    rw [r_must_bad hq, sbind]
  | ok j =>
    obtain ⟨rfl, _⟩ := needS_ok (by simp) h1
    rw [ebd_ok]
    simp only [sbind]
    rw [r_small_eq hn (by omega) hV]
    cases h2 : smallS (V.map toX) E (i + 1 + 1) with
    | error q =>
      have hq : 0 ≤ q := by rw [smallS_err h2]; exact nxA_pos hV _
      rw [ebd_err]
      refine ⟨hq, [⟨op, 0, []⟩], ((i + 1 + 1 : Nat) : Int), d, ?_, by simp⟩
      simp only [sbind]
      rw [r_must_bad hq, sbind]
    | ok v =>
      obtain ⟨h3, h4⟩ := smallS_ok h2
      rw [len_toX] at h4
      rw [ebd_ok]
      simp only [sbind]
      rw [r_must_eq (by omega) (by simp)]
      cases h5 : needS (V.map toX) E [93] v.2 with
      | error q =>
        have hq : 0 ≤ q := by rw [needS_err h5]; exact nxA_pos hV _
        rw [ebd_err]
        exact ⟨hq, [⟨op, v.1, []⟩], (v.2 : Int), d, rfl, by simp⟩
      | ok j => rw [ebd_ok]; rfl
theorem r_atom_rd {me : RfM} {n r B : Nat} {ex : Nat → Prs} (hn : big ≤ n) (hV : VOk V E) (hN : Nm.length ≤ 100000) (hr : r ≤ 40) (hB1 : 4001 ≤ B) (hx : r ≠ 0 → RdR V E ((40 - r : Nat) + 1 : Int) Nm B me ex) (hb : RdB V E Nm me) (hp : r ≠ 0 → PO (V.map toX) ex) :
    RdR V E ((40 - r : Nat) : Int) Nm B (m___retrospectref18_P__atom me n) (atomS (V.map toX) E Nm r ex) := by
  intro i hi
  have hVl : V.length ≤ 4000 := by have := hV.1.1; rwa [len_toX] at this
  unfold m___retrospectref18_P__atom atomS
  simp only [jn_eq, bifd]
  rw [r_kind_eq, sbind]
  by_cases h1 : (nxW (V.map toX) i).Kind = 1
  · obtain ⟨hD, hne, hl⟩ := word1 hV.1 h1
    have hil : i < V.length := by have := nxK_lt (W := V.map toX) (i := i) (by rw [h1]; decide); rwa [len_toX] at this
    obtain ⟨w, g1, g2, g3, g4⟩ := nx_toX hil
    rw [if_pos h1, if_pos h1]
    rw [g3] at hD hl ⊢
    have hD' : isD w.Text := hD
    have hl' : w.Text.length ≤ 60 := hl
    simp only []
    rw [g1, sbind, m_ref07_Read_eq hn hD' (by omega), sbind, m_ref02_Norm_eq hn (by have := numD_len hD'; omega), sbind, sbind, trimZ_toL_, w1n (by omega)]
    rfl
  rw [if_neg h1, if_neg h1, r_sees_eq (by simp), sbind]
  by_cases h2 : (nxW (V.map toX) i).Text = [116]
  · rw [if_pos h2, decide_eq_true h2, bifT, sbind, w1n (by omega)]; rfl
  rw [if_neg h2, decide_eq_false h2, bifF, r_sees_eq (by simp), sbind]
  by_cases h3 : (nxW (V.map toX) i).Text = [121]
  · have h4 : ¬ (nxW (V.map toX) i).Text = [112] := by rw [h3]; decide
    rw [if_pos h3, decide_eq_true h3, bifT, bifT, r_sees_eq (by simp), sbind, decide_eq_false h4, bifF, w1n (by omega)]
    have := rCp_eq (Nm := Nm) (op := 3) (d := ((40 - r : Nat) : Int)) (i := i) hn (by omega) hV
    unfold rCp at this
    cases hc : compS (V.map toX) E 3 i with
    | ok v => rw [hc] at this; exact this
    | error q => rw [hc] at this; obtain ⟨a, c, I, d', b1, b2⟩ := this; exact ⟨a, c, I, d', b1, by omega⟩
  rw [if_neg h3, decide_eq_false h3, bifF, r_sees_eq (by simp), sbind]
  by_cases h4 : (nxW (V.map toX) i).Text = [112]
  · rw [if_pos h4, decide_eq_true h4, bifT, sbind, bifT, w1n (by omega)]
    have := rCp_eq (Nm := Nm) (op := 4) (d := ((40 - r : Nat) : Int)) (i := i) hn (by omega) hV
    unfold rCp at this
    cases hc : compS (V.map toX) E 4 i with
    | ok v => rw [hc] at this; exact this
    | error q => rw [hc] at this; obtain ⟨a, c, I, d', b1, b2⟩ := this; exact ⟨a, c, I, d', b1, by omega⟩
  rw [if_neg h4, decide_eq_false h4, bifF, r_sees_eq (by simp), sbind]
  by_cases h5 : (nxW (V.map toX) i).Text = [40]
  · have hil : i < V.length := by have := nx_lt (by simp) h5; rwa [len_toX] at this
    rw [if_pos h5, decide_eq_true h5, bifT, r_level_eq (by omega) hr, sbind]
    by_cases h6 : r = 0
    · have hq := nxA_pos hV i
      rw [if_pos h6, if_pos h6]
      refine ⟨hq, [], ((i + 1 : Nat) : Int), wrap64 (((40 - r : Nat) : Int) + 1 - 1), ?_, by simp⟩
      simp only []
      rw [hb _ _ _ hq, sbind]
      simp only []
      rw [r_must_bad hq, sbind]
    rw [if_neg h6, if_neg h6]
    simp only []
    have hh := hx h6 (i + 1) (by omega)
    cases hv : ex (i + 1) with
    | error q =>
      rw [hv] at hh
      obtain ⟨hq, c, I, d', b1, b2⟩ := hh
      rw [ebd_err]
      refine ⟨hq, c, I, wrap64 (d' - 1), ?_, b2⟩
      rw [b1, sbind]
      simp only []
      rw [r_must_bad hq, sbind]
    | ok v =>
      have g := hp h6 _ _ hv
      rw [len_toX] at g
      rw [hv] at hh
      simp only [] at hh
      rw [ebd_ok, hh, sbind]
      simp only []
      rw [r_must_eq (by omega) (by simp)]
      cases hj : needS (V.map toX) E [41] v.2 with
      | error q =>
        have hq : 0 ≤ q := by rw [needS_err hj]; exact nxA_pos hV _
        rw [ebd_err]
        exact ⟨hq, v.1.map dN, (v.2 : Int), wrap64 (((40 - r : Nat) : Int) + 1 - 1), rfl, by rw [List.length_map]; omega⟩
      | ok j =>
        rw [ebd_ok]
        simp only [sbind]
        rw [w64 (by omega) (by omega), Int.add_sub_cancel]
  rw [if_neg h5, decide_eq_false h5, bifF, r_free_eq, sbind]
  unfold nameS
  by_cases h6 : (nxW (V.map toX) i).Kind = 2
  · by_cases h7 : resB (nxW (V.map toX) i).Text = true
    · rw [if_pos (.inr h7), h7, ebd_err, decide_eq_true h6, show (!(true && !true)) = true by rfl, bifT, r_bad_eq, sbind]
      exact ⟨nxA_pos hV i, [], (i : Int), ((40 - r : Nat) : Int), rfl, by simp⟩
    · have hil : i < V.length := by have := nxK_lt (W := V.map toX) (i := i) (by rw [h6]; decide); rwa [len_toX] at this
      obtain ⟨w, g1, g2, g3, g4⟩ := nx_toX hil
      have h7' : resB (nxW (V.map toX) i).Text = false := by simpa using h7
      rw [if_neg (by simp [h6, h7]), h7', ebd_ok, decide_eq_true h6, show (!(true && !false)) = false by rfl, bifF, g1, sbind, r_find_eq hn hN, sbind, sbind, w1n (by omega), g3]
      rfl
  · rw [if_pos (.inl h6), ebd_err, decide_eq_false h6, show (!(false && !resB (nxW (V.map toX) i).Text)) = true by rfl, bifT, r_bad_eq, sbind]
    exact ⟨nxA_pos hV i, [], (i : Int), ((40 - r : Nat) : Int), rfl, by simp⟩
/-- What stands behind an atom. -/
def rPw (at_ : RfM) (n : Nat) (x0_W : List M_retrospectref16_Word) (x0_I x0_End x0_Deep : Int) (x0_Names : List (List UInt8)) (x0_Bad : Int) : Option (List M_retrospectref17_Node × List M_retrospectref16_Word × Int × Int × Int × Int × List (List UInt8)) :=
      (at_ x0_W x0_I x0_End x0_Deep x0_Names x0_Bad).bind fun r15 =>
      jn (fun (j31 : ((List M_retrospectref16_Word) × Int × Int × Int × Int × (List M_retrospectref17_Node)) → Option _) =>
        (m___retrospectref18_P__sees r15.2.1 r15.2.2.1 r15.2.2.2.1 r15.2.2.2.2.1 r15.2.2.2.2.2.2 r15.2.2.2.2.2.1 ([94] : List UInt8)).bind fun r34 =>
        bif r34 then (
          jn (fun (j38 : (Int × Int) → Option _) =>
            (m___retrospectref18_P__sees r15.2.1 (wrap64 (r15.2.2.1 + (1 : Int))) r15.2.2.2.1 r15.2.2.2.2.1 r15.2.2.2.2.2.2 r15.2.2.2.2.2.1 ([45] : List UInt8)).bind fun r41 =>
            bif r41 then (
              j38 (wrap64 ((wrap64 (r15.2.2.1 + (1 : Int))) + (1 : Int)), (-1 : Int)))
            else (
              j38 (wrap64 (r15.2.2.1 + (1 : Int)), (1 : Int)))) (fun (s40 : Int × Int) =>
            (m___retrospectref18_P__small n r15.2.1 s40.1 r15.2.2.2.1 r15.2.2.2.2.1 r15.2.2.2.2.2.2 r15.2.2.2.2.2.1).bind fun r43 =>
            (some (([(⟨(11 : Int), wrap64 (s40.2 * r43.1), []⟩ : M_retrospectref17_Node)] : List M_retrospectref17_Node))).bind fun z45 =>
            (appM 40 r15.1 z45).bind fun y46 =>
            j31 (r43.2.1, r43.2.2.1, r43.2.2.2.1, r43.2.2.2.2.1, r43.2.2.2.2.2, y46)))
        else (
          j31 (r15.2.1, r15.2.2.1, r15.2.2.2.1, r15.2.2.2.2.1, r15.2.2.2.2.2.1, r15.1))) (fun (s33 : (List M_retrospectref16_Word) × Int × Int × Int × Int × (List M_retrospectref17_Node)) =>
        some (s33.2.2.2.2.2, s33.1, s33.2.1, s33.2.2.1, s33.2.2.2.1, s33.2.2.2.2.1, r15.2.2.2.2.2.2))
theorem r_factor_eq (me : RfM) (n : Nat) (W I E d Nm q) : m___retrospectref18_P__factor me (n + 1) W I E d Nm q = (m___retrospectref18_P__sees W I E d Nm q ([45] : List UInt8)).bind fun r1 =>
    bif r1 then (
      (m___retrospectref18_P__level W I E d Nm q).bind fun r3 =>
      jn (fun (j7 : ((List M_retrospectref16_Word) × Int × Int × Int × (List (List UInt8)) × Int × (List M_retrospectref17_Node)) → Option _) =>
        bif decide (r3.2.2.2.2 < (0 : Int)) then (
          (m___retrospectref18_P__factor me n r3.1 r3.2.1 r3.2.2.1 r3.2.2.2.1 Nm r3.2.2.2.2).bind fun r10 =>
          j7 (r10.2.1, r10.2.2.1, r10.2.2.2.1, r10.2.2.2.2.1, r10.2.2.2.2.2.2, r10.2.2.2.2.2.1, r10.1))
        else (
          j7 (r3.1, r3.2.1, r3.2.2.1, r3.2.2.2.1, Nm, r3.2.2.2.2, ([] : List M_retrospectref17_Node)))) (fun (s9 : (List M_retrospectref16_Word) × Int × Int × Int × (List (List UInt8)) × Int × (List M_retrospectref17_Node)) =>
        (some (([(⟨(6 : Int), 0, []⟩ : M_retrospectref17_Node)] : List M_retrospectref17_Node))).bind fun z12 =>
        (appM 40 s9.2.2.2.2.2.2 z12).bind fun y13 =>
        some (y13, s9.1, s9.2.1, s9.2.2.1, wrap64 (s9.2.2.2.1 - (1 : Int)), s9.2.2.2.2.2.1, s9.2.2.2.2.1)))
    else rPw (m___retrospectref18_P__atom me n) n W I E d Nm q := by rw [m___retrospectref18_P__factor]; unfold rPw; rfl
theorem rPw_rd {at_ : RfM} {n B : Nat} {d : Int} {p : Nat → Prs} (hn : big ≤ n) (hV : VOk V E) (hB1 : 4001 ≤ B) (hB2 : B ≤ 1000000) (h : RdR V E d Nm B at_ p) (hp : PO (V.map toX) p) : RdR V E d Nm (B + 1) (rPw at_ n) (powS (V.map toX) E p) := by
  intro i hi
  have hVl : V.length ≤ 4000 := by have := hV.1.1; rwa [len_toX] at this
  unfold rPw powS
  simp only [jn_eq]
  have hh := h i hi
  cases hv : p i with
  | error q =>
    rw [hv] at hh
    obtain ⟨hq, c, I, d', b1, b2⟩ := hh
    rw [ebd_err]
    refine ⟨hq, c, I, d', ?_, by omega⟩
    rw [b1, sbind]
    simp only []
    rw [r_sees_bad hq, sbind, bifF]
  | ok v =>
    have g := hp _ _ hv
    rw [len_toX] at g
    rw [hv] at hh
    simp only [] at hh
    rw [ebd_ok, hh, sbind]
    simp only []
    rw [r_sees_eq (by simp), sbind]
    by_cases h1 : (nxW (V.map toX) v.2).Text = [94]
    · rw [if_pos h1, decide_eq_true h1, bifT, w1n (by omega), r_sees_eq (by simp), sbind]
      have h1l : v.2 < V.length := by have := nx_lt (by simp) h1; rwa [len_toX] at this
      by_cases h2 : (nxW (V.map toX) (v.2 + 1)).Text = [45]
      · simp only [if_pos h2, decide_eq_true h2, bifT]
        have h2l : v.2 + 1 < V.length := by have := nx_lt (by simp) h2; rwa [len_toX] at this
        rw [w1n (by omega), r_small_eq hn (by omega) hV, sbind]
        cases he : smallS (V.map toX) E (v.2 + 1 + 1) with
        | error q =>
          rw [ebd_err]
          refine ⟨by rw [smallS_err he]; exact nxA_pos hV _, v.1.map dN ++ [⟨11, wrap64 (-1 * 0), []⟩], ((v.2 + 1 + 1 : Nat) : Int), d, ?_, by simp; omega⟩
          simp only []
          rw [sbind, appM_ok (by simp; omega) (by simp; omega), sbind]
        | ok e =>
          have hr := smallS_rng hV.1 he
          rw [ebd_ok]
          simp only []
          rw [sbind, appM_ok (by simp; omega) (by simp; omega), sbind, w64 (by omega) (by omega)]
          simp [dN]
      · simp only [if_neg h2, decide_eq_false h2, bifF]
        rw [r_small_eq hn (by omega) hV, sbind]
        cases he : smallS (V.map toX) E (v.2 + 1) with
        | error q =>
          rw [ebd_err]
          refine ⟨by rw [smallS_err he]; exact nxA_pos hV _, v.1.map dN ++ [⟨11, wrap64 (1 * 0), []⟩], ((v.2 + 1 : Nat) : Int), d, ?_, by simp; omega⟩
          simp only []
          rw [sbind, appM_ok (by simp; omega) (by simp; omega), sbind]
        | ok e =>
          have hr := smallS_rng hV.1 he
          rw [ebd_ok]
          simp only []
          rw [sbind, appM_ok (by simp; omega) (by simp; omega), sbind, w64 (by omega) (by omega)]
          simp [dN]
    · rw [if_neg h1, decide_eq_false h1, bifF]
def bF (r : Nat) : Nat := 20000 * (r + 1)
theorem RdR.mono {V : List M_retrospectref16_Word} {E d : Int} {Nm : List (List UInt8)} {B B' : Nat} {m : RfM} {p : Nat → Prs} (h : RdR V E d Nm B m p) (hb : B ≤ B') : RdR V E d Nm B' m p := by
  intro i hi
  have := h i hi
  cases hp : p i with
  | ok v => rw [hp] at this; exact this
  | error q => rw [hp] at this; obtain ⟨a, c, I, d', b, e⟩ := this; exact ⟨a, c, I, d', b, by omega⟩
theorem r_factor_rd {me : RfM} (hV : VOk V E) (hN : Nm.length ≤ 100000) {R : Nat} (hR : R ≤ 40) (hx : ∀ r, r < R → RdR V E ((40 - r : Nat) : Int) Nm (bF r + 8002) me (exS (V.map toX) (factS (V.map toX) E Nm r))) (hb : RdB V E Nm me) :
    ∀ (r n : Nat), r ≤ R → big + r + 1 ≤ n → RdR V E ((40 - r : Nat) : Int) Nm (bF r) (m___retrospectref18_P__factor me n) (factS (V.map toX) E Nm r) := by
  have hVl : V.length ≤ 4000 := by have := hV.1.1; rwa [len_toX] at this
  intro r
  induction r with
  | zero =>
    intro n hr hn i hi
    obtain ⟨n, rfl⟩ : ∃ k, n = k + 1 := ⟨n - 1, by omega⟩
    rw [r_factor_eq, r_sees_eq (by simp), sbind]
    unfold factS
    by_cases h1 : (nxW (V.map toX) i).Text = [45]
    · have hq := nxA_pos hV i
      rw [if_pos h1, decide_eq_true h1, bifT, r_level_eq (by omega) (by omega), sbind]
      simp only [jn_eq]
      rw [if_pos trivial, decide_eq_false (show ¬ nxA (V.map toX) E i < 0 by omega), bifF]
      refine ⟨hq, [⟨6, 0, []⟩], ((i + 1 : Nat) : Int), wrap64 (((40 - 0 : Nat) : Int) + 1 - 1), ?_, by simp [bF]⟩
      rw [sbind, appM_ok (by simp) (by simp), sbind]; rfl
    · rw [if_neg h1, decide_eq_false h1, bifF]
      exact ((rPw_rd (by omega) hV (Nat.le_refl _) (by omega) (r_atom_rd (r := 0) (B := 4001) (ex := fun _ => .error 0) (by omega) hV hN (by omega) (Nat.le_refl _) (fun h => absurd rfl h) hb (fun h => absurd rfl h)) (atomS_PO fun h => absurd rfl h)).mono (by unfold bF; omega)) i hi
  | succ r ih =>
    intro n hr hn i hi
    obtain ⟨n, rfl⟩ : ∃ k, n = k + 1 := ⟨n - 1, by omega⟩
    have hd : ((40 - (r + 1) : Nat) : Int) + 1 = ((40 - r : Nat) : Int) := by omega
    rw [r_factor_eq, r_sees_eq (by simp), sbind]
    unfold factS
    by_cases h1 : (nxW (V.map toX) i).Text = [45]
    · have hil : i < V.length := by have := nx_lt (by simp) h1; rwa [len_toX] at this
      rw [if_pos h1, decide_eq_true h1, bifT, r_level_eq (by omega) (by omega), sbind]
      simp only [jn_eq]
      rw [if_neg (by omega), show decide ((-1 : Int) < 0) = true by rfl, bifT, hd]
      have hh := ih n (by omega) (by omega) (i + 1) (by omega)
      cases hv : factS (V.map toX) E Nm r (i + 1) with
      | error q =>
        rw [hv] at hh
        obtain ⟨hq, c, I, d', b1, b2⟩ := hh
        have hbr : bF r ≤ 1000000 := by unfold bF; omega
        rw [ebd_err]
        refine ⟨hq, c ++ [⟨6, 0, []⟩], I, wrap64 (d' - 1), ?_, by simp only [List.length_append, List.length_cons, List.length_nil]; unfold bF at *; omega⟩
        rw [b1, sbind]
        simp only []
        rw [sbind, appM_ok (by simp; omega) (by simp; omega), sbind]
      | ok v =>
        have g := factS_PO r _ _ hv
        rw [len_toX] at g
        rw [hv] at hh
        simp only [] at hh
        rw [ebd_ok, hh, sbind]
        simp only []
        rw [sbind, appM_ok (by simp; omega) (by simp; omega), sbind, w64 (by omega) (by omega), show ((40 - r : Nat) : Int) - 1 = ((40 - (r + 1) : Nat) : Int) by omega]
        simp [dN]
    · rw [if_neg h1, decide_eq_false h1, bifF]
      exact ((rPw_rd (by omega) hV (by omega) (by unfold bF; omega) (r_atom_rd (r := r + 1) (B := bF r + 8002) (by omega) hV hN (by omega) (by unfold bF; omega) (fun _ => by rw [hd]; exact hx r (by omega)) hb (fun _ => exS_PO (factS_PO r))) (atomS_PO fun _ => exS_PO (factS_PO r))).mono (by unfold bF; omega)) i hi
theorem r_expr_rd (hV : VOk V E) (hN : Nm.length ≤ 100000) : ∀ (r n : Nat), r ≤ 40 → big + r + 2 ≤ n → RdR V E ((40 - r : Nat) : Int) Nm (bF r + 8002) (m___retrospectref18_P__Expr n) (exS (V.map toX) (factS (V.map toX) E Nm r)) := by
  intro r
  induction r using Nat.strongRecOn with
  | _ r ih =>
    intro n hr hn i hi
    obtain ⟨n, rfl⟩ : ∃ k, n = k + 1 := ⟨n - 1, by omega⟩
    have hbg : 10000 ≤ n := by unfold big at hn; omega
    have hB : bF r + 8002 ≤ 1000000 := by unfold bF; omega
    have hf := r_factor_rd (E := E) (Nm := Nm) (me := m___retrospectref18_P__Expr n) hV hN hr (fun q hq => ih q hq n (by omega) (by omega)) (r_Expr_bad (by omega)) r n (Nat.le_refl _) (by omega)
    have ht := rCh_rd (a := [42]) (b := [47]) (oa := 9) (ob := 10) hbg hV hf (r_factor_bad (by omega)) (by omega) (factS_PO r) (by simp) (by simp) (by simp)
    rw [← r_term_eq] at ht
    have hbt : RdB V E Nm (m___retrospectref18_P__term (m___retrospectref18_P__Expr n) n) := by rw [r_term_eq]; exact rCh_bad (by omega) (r_factor_bad (by omega))
    have he := rCh_rd (a := [43]) (b := [45]) (oa := 7) (ob := 8) hbg hV ht hbt (by omega) (chainS_PO (factS_PO r)) (by simp) (by simp) (by simp)
    rw [r_Expr_eq, show decide ((0 : Int) ≤ -1) = false by rfl, bifF]
    exact (he.mono (by omega)) i hi
end
end Go.Proofs.YtpomhkkhdojpiaaGreatDoor
