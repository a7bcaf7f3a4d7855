import Derived.Test.YtpomhkkhdojpiaaGreatDoorPlPs6
namespace Go.Proofs.YtpomhkkhdojpiaaGreatDoor
open Go Go.RowKit
def dL (x : M_tree_Let) : M_retrospectref17_Let := ⟨x.Name, x.Code.map dN⟩
def dF (f : M_tree_Field) : M_retrospectref17_Field := ⟨f.Lets.map dL, f.Outs.map (·.map dN)⟩
section
variable {V : List M_retrospectref16_Word} {E : Int}
theorem r_expr0 {Nm : List (List UInt8)} {n : Nat} (hV : VOk V E) (hN : Nm.length ≤ 100000) (hn : big + 100 ≤ n) (i : Nat) (hi : i ≤ V.length) : match ex0 (V.map toX) E Nm i with
    | .ok v => m___retrospectref18_P__Expr n V (i : Int) E 0 Nm (-1) = some (v.1.map dN, V, (v.2 : Int), E, 0, -1, Nm)
    | .error q => 0 ≤ q ∧ ∃ c I d', m___retrospectref18_P__Expr n V (i : Int) E 0 Nm (-1) = some (c, V, I, E, d', q, Nm) ∧ c.length ≤ 1000000 :=
  (r_expr_rd hV hN 40 n (by omega) (by omega)).mono (by unfold bF; omega) i hi
abbrev RLt := (List M_retrospectref16_Word) × Int × Int × Int × (List (List UInt8)) × Int × (List M_retrospectref17_Let)
abbrev ROt := (List M_retrospectref16_Word) × Int × Int × Int × (List (List UInt8)) × Int × (List (List M_retrospectref17_Node))
abbrev RFR := M_retrospectref17_Field × (List M_retrospectref16_Word) × Int × Int × Int × Int × (List (List UInt8))
def rLtF (n : Nat) : RLt → Option (Lp RLt (Lp RLt RFR)) := fun (s22 : (List M_retrospectref16_Word) × Int × Int × Int × (List (List UInt8)) × Int × (List M_retrospectref17_Let)) =>
    (m___retrospectref18_P__sees s22.1 s22.2.1 s22.2.2.1 s22.2.2.2.1 s22.2.2.2.2.1 s22.2.2.2.2.2.1 ([108, 101, 116] : List UInt8)).bind fun r23 =>
    bif r23 then (
      (m___retrospectref18_P__free s22.1 (wrap64 (s22.2.1 + (1 : Int))) s22.2.2.1 s22.2.2.2.1 s22.2.2.2.2.1 s22.2.2.2.2.2.1).bind fun r25 =>
      bif !r25 then (
        (m___retrospectref18_P__bad s22.1 (wrap64 (s22.2.1 + (1 : Int))) s22.2.2.1 s22.2.2.2.1 s22.2.2.2.2.1 s22.2.2.2.2.2.1).bind fun r27 =>
        some (Lp.out (Lp.out (((⟨s22.2.2.2.2.2.2, ([] : List (List M_retrospectref17_Node))⟩ : M_retrospectref17_Field), r27.1, r27.2.1, r27.2.2.1, r27.2.2.2.1, r27.2.2.2.2, s22.2.2.2.2.1)))))
      else (
        (getI s22.1 (wrap64 (s22.2.1 + (1 : Int)))).bind fun y29 =>
        (m___retrospectref18_P__must s22.1 (wrap64 ((wrap64 (s22.2.1 + (1 : Int))) + (1 : Int))) s22.2.2.1 s22.2.2.2.1 s22.2.2.2.2.1 s22.2.2.2.2.2.1 ([61] : List UInt8)).bind fun r31 =>
        (m___retrospectref18_P__Expr n r31.1 r31.2.1 r31.2.2.1 r31.2.2.2.1 s22.2.2.2.2.1 r31.2.2.2.2).bind fun r33 =>
        (appM 40 s22.2.2.2.2.2.2 ([(⟨y29.Text, r33.1⟩ : M_retrospectref17_Let)] : List M_retrospectref17_Let)).bind fun y35 =>
        (m___retrospectref18_P__must r33.2.1 r33.2.2.1 r33.2.2.2.1 r33.2.2.2.2.1 r33.2.2.2.2.2.2 r33.2.2.2.2.2.1 ([59] : List UInt8)).bind fun r37 =>
        (appM 16 r33.2.2.2.2.2.2 ([y29.Text] : List (List UInt8))).bind fun y39 =>
        some (Lp.go (r37.1, r37.2.1, r37.2.2.1, r37.2.2.2.1, y39, r37.2.2.2.2, y35))))
    else (
      some (Lp.out (Lp.go (s22.1, s22.2.1, s22.2.2.1, s22.2.2.2.1, s22.2.2.2.2.1, s22.2.2.2.2.2.1, s22.2.2.2.2.2.2))))
def rOtF (n : Nat) : ROt → Option (Lp ROt ROt) := fun (s65 : (List M_retrospectref16_Word) × Int × Int × Int × (List (List UInt8)) × Int × (List (List M_retrospectref17_Node))) =>
    (m___retrospectref18_P__sees s65.1 s65.2.1 s65.2.2.1 s65.2.2.2.1 s65.2.2.2.2.1 s65.2.2.2.2.2.1 ([44] : List UInt8)).bind fun r66 =>
    bif r66 then (
      (m___retrospectref18_P__Expr n s65.1 (wrap64 (s65.2.1 + (1 : Int))) s65.2.2.1 s65.2.2.2.1 s65.2.2.2.2.1 s65.2.2.2.2.2.1).bind fun r68 =>
      (appM 24 s65.2.2.2.2.2.2 ([r68.1] : List (List M_retrospectref17_Node))).bind fun y70 =>
      some (Lp.go (r68.2.1, r68.2.2.1, r68.2.2.2.1, r68.2.2.2.2.1, r68.2.2.2.2.2.2, r68.2.2.2.2.2.1, y70)))
    else (
      some (Lp.out (s65.1, s65.2.1, s65.2.2.1, s65.2.2.2.1, s65.2.2.2.2.1, s65.2.2.2.2.2.1, s65.2.2.2.2.2.2)))
def rTl (n : Nat) (t20 : RLt) : Option RFR :=
  (m___retrospectref18_P__must t20.1 t20.2.1 t20.2.2.1 t20.2.2.2.1 t20.2.2.2.2.1 t20.2.2.2.2.2.1 ([91] : List UInt8)).bind fun r41 =>
  (m___retrospectref18_P__Expr n r41.1 r41.2.1 r41.2.2.1 r41.2.2.2.1 t20.2.2.2.2.1 r41.2.2.2.2).bind fun r43 =>
  (appM 24 ([] : List (List M_retrospectref17_Node)) ([r43.1] : List (List M_retrospectref17_Node))).bind fun y45 =>
  (loopM (rOtF n) n (r43.2.1, r43.2.2.1, r43.2.2.2.1, r43.2.2.2.2.1, r43.2.2.2.2.2.2, r43.2.2.2.2.2.1, y45)).bind fun (t63 : (List M_retrospectref16_Word) × Int × Int × Int × (List (List UInt8)) × Int × (List (List M_retrospectref17_Node))) =>
  (m___retrospectref18_P__must t63.1 t63.2.1 t63.2.2.1 t63.2.2.2.1 t63.2.2.2.2.1 t63.2.2.2.2.2.1 ([93] : List UInt8)).bind fun r72 =>
  some ((⟨t20.2.2.2.2.2.2, t63.2.2.2.2.2.2⟩ : M_retrospectref17_Field), r72.1, r72.2.1, r72.2.2.1, r72.2.2.2.1, r72.2.2.2.2, t63.2.2.2.2.1)
theorem r_field_eq (n : Nat) (W I E d Nm q) : m___retrospectref18_P__field n W I E d Nm q = (loopM (rLtF n) n (W, I, E, d, Nm, q, ([] : List M_retrospectref17_Let))).bind (lpK (rTl n)) := by unfold m___retrospectref18_P__field rLtF rTl rOtF; rfl
theorem rOt_bad {n m : Nat} (hm : 1 ≤ m) {I d q : Int} {Nm O} (hq : 0 ≤ q) : loopM (rOtF n) m (V, I, E, d, Nm, q, O) = some (V, I, E, d, Nm, q, O) :=
  loop_out (by unfold rOtF; simp only [r_sees_bad hq, sbind, bifF]) (by omega)
theorem rTl_bad {n : Nat} (hn : 1 ≤ n) {I d q : Int} {Nm L} (hq : 0 ≤ q) : ∃ f, rTl n (V, I, E, d, Nm, q, L) = some (f, V, I, E, d, q, Nm) := by
  refine ⟨⟨L, [[]]⟩, ?_⟩
  unfold rTl
  simp only []
  rw [r_must_bad hq, sbind]
  simp only []
  rw [r_Expr_bad hn _ _ _ hq, sbind, appM_ok (by simp) (by simp), sbind]
  simp only [List.nil_append]
  rw [rOt_bad hn hq, sbind]
  simp only []
  rw [r_must_bad hq, sbind]
theorem r_outs (hV : VOk V E) {n : Nat} (hn : big + 100 ≤ n) {Nm : List (List UInt8)} (hN : Nm.length ≤ 100000) : ∀ (k m i : Nat) (O : List (List M_tree_Node)), i ≤ V.length → O.length ≤ i → V.length - i ≤ k → V.length - i + 1 < m →
    match outsL (V.map toX) E Nm k O i with
    | .ok v => loopM (rOtF n) m (V, (i : Int), E, 0, Nm, -1, O.map (·.map dN)) = some (V, (v.2 : Int), E, 0, Nm, -1, v.1.map (·.map dN))
    | .error q => 0 ≤ q ∧ ∃ I d O', loopM (rOtF n) m (V, (i : Int), E, 0, Nm, -1, O.map (·.map dN)) = some (V, I, E, d, Nm, q, O') := by
  have hVl : V.length ≤ 4000 := by have := hV.1.1; rwa [len_toX] at this
  intro k
  induction k with
  | zero =>
    intro m i O hi hO hk hm
    have e1 : (nxW (V.map toX) i).Text ≠ [44] := fun e => by have := nx_lt (by simp) e; rw [len_toX] at this; omega
    unfold outsL
    exact loop_out (by unfold rOtF; simp only [r_sees_eq (show ([44] : List UInt8) ≠ [] by simp), sbind, decide_eq_false e1, bifF]) (by omega)
  | succ k ih =>
    intro m i O hi hO hk hm
    obtain ⟨m, rfl⟩ : ∃ q, m = q + 1 := ⟨m - 1, by omega⟩
    unfold outsL
    by_cases e1 : (nxW (V.map toX) i).Text = [44]
    · have hil : i < V.length := by have := nx_lt (by simp) e1; rwa [len_toX] at this
      rw [if_pos e1]
      have hx := r_expr0 (E := E) (Nm := Nm) hV hN hn (i + 1) (by omega)
      cases h3 : ex0 (V.map toX) E Nm (i + 1) with
      | error q =>
        rw [h3] at hx
        obtain ⟨hq, c, I, d', b1, b2⟩ := hx
        rw [ebd_err]
        refine ⟨hq, I, d', O.map (·.map dN) ++ [c], ?_⟩
        rw [loop_go (s' := (V, I, E, d', Nm, q, O.map (·.map dN) ++ [c]))]
        · exact rOt_bad (by omega) hq
        · unfold rOtF; simp only [r_sees_eq (show ([44] : List UInt8) ≠ [] by simp), sbind, decide_eq_true e1, bifT, w1n (show i ≤ 100000 by omega), b1]
          rw [appM_ok (by simp; omega) (by simp; omega), sbind]
      | ok c =>
        have g4 := ex0_PO _ _ h3
        rw [len_toX] at g4
        rw [h3] at hx
        simp only [] at hx
        rw [ebd_ok, loop_go (s' := (V, (c.2 : Int), E, 0, Nm, -1, (O ++ [c.1]).map (·.map dN)))]
        · exact ih m c.2 _ (by omega) (by simp; omega) (by omega) (by omega)
        · unfold rOtF; simp only [r_sees_eq (show ([44] : List UInt8) ≠ [] by simp), sbind, decide_eq_true e1, bifT, w1n (show i ≤ 100000 by omega), hx]
          rw [appM_ok (by simp; omega) (by simp; omega), sbind]
          simp
    · rw [if_neg e1]
      exact loop_out (by unfold rOtF; simp only [r_sees_eq (show ([44] : List UInt8) ≠ [] by simp), sbind, decide_eq_false e1, bifF]) (by omega)
theorem rLt_bad {n : Nat} {I d q : Int} {Nm L} (hq : 0 ≤ q) : rLtF n (V, I, E, d, Nm, q, L) = some (Lp.out (Lp.go (V, I, E, d, Nm, q, L))) := by
  unfold rLtF; simp only [r_sees_bad hq, sbind, bifF]
theorem r_lets (hV : VOk V E) {n : Nat} (hn : big + 100 ≤ n) : ∀ (k m i : Nat) (Nm : List (List UInt8)) (L : List M_tree_Let), i ≤ V.length → Nm.length ≤ i → L.length ≤ i → V.length - i ≤ k → V.length - i + 1 < m →
    match letsL (V.map toX) E k Nm L i with
    | .ok v => loopM (rLtF n) m (V, (i : Int), E, 0, Nm, -1, L.map dL) = some (Lp.go (V, (v.2 : Int), E, 0, v.1.2, -1, v.1.1.map dL))
    | .error q => 0 ≤ q ∧ ((∃ I d Nm' L', loopM (rLtF n) m (V, (i : Int), E, 0, Nm, -1, L.map dL) = some (Lp.go (V, I, E, d, Nm', q, L'))) ∨ ∃ f I d Nm', loopM (rLtF n) m (V, (i : Int), E, 0, Nm, -1, L.map dL) = some (Lp.out (f, V, I, E, d, q, Nm'))) := by
  have hVl : V.length ≤ 4000 := by have := hV.1.1; rwa [len_toX] at this
  intro k
  induction k with
  | zero =>
    intro m i Nm L hi hN hL hk hm
    have e1 : (nxW (V.map toX) i).Text ≠ [108, 101, 116] := fun e => by have := nx_lt (by simp) e; rw [len_toX] at this; omega
    unfold letsL
    exact loop_out (by unfold rLtF; simp only [r_sees_eq (show ([108, 101, 116] : List UInt8) ≠ [] by simp), sbind, decide_eq_false e1, bifF]) (by omega)
  | succ k ih =>
    intro m i Nm L hi hN hL hk hm
    obtain ⟨m, rfl⟩ : ∃ q, m = q + 1 := ⟨m - 1, by omega⟩
    unfold letsL
    by_cases e1 : (nxW (V.map toX) i).Text = [108, 101, 116]
    · have hil : i < V.length := by have := nx_lt (by simp) e1; rwa [len_toX] at this
      rw [if_pos e1]
      have hstep : rLtF n (V, (i : Int), E, 0, Nm, -1, L.map dL) = (m___retrospectref18_P__free V ((i + 1 : Nat) : Int) E 0 Nm (-1)).bind fun r25 =>
          bif !r25 then (
            (m___retrospectref18_P__bad V ((i + 1 : Nat) : Int) E 0 Nm (-1)).bind fun r27 =>
            some (Lp.out (Lp.out (((⟨L.map dL, ([] : List (List M_retrospectref17_Node))⟩ : M_retrospectref17_Field), r27.1, r27.2.1, r27.2.2.1, r27.2.2.2.1, r27.2.2.2.2, Nm)))))
          else (
            (getI V ((i + 1 : Nat) : Int)).bind fun y29 =>
            (m___retrospectref18_P__must V ((i + 1 + 1 : Nat) : Int) E 0 Nm (-1) ([61] : List UInt8)).bind fun r31 =>
            (m___retrospectref18_P__Expr n r31.1 r31.2.1 r31.2.2.1 r31.2.2.2.1 Nm r31.2.2.2.2).bind fun r33 =>
            (appM 40 (L.map dL) ([(⟨y29.Text, r33.1⟩ : M_retrospectref17_Let)] : List M_retrospectref17_Let)).bind fun y35 =>
            (m___retrospectref18_P__must r33.2.1 r33.2.2.1 r33.2.2.2.1 r33.2.2.2.2.1 r33.2.2.2.2.2.2 r33.2.2.2.2.2.1 ([59] : List UInt8)).bind fun r37 =>
            (appM 16 r33.2.2.2.2.2.2 ([y29.Text] : List (List UInt8))).bind fun y39 =>
            some (Lp.go (r37.1, r37.2.1, r37.2.2.1, r37.2.2.2.1, y39, r37.2.2.2.2, y35))) := by
        unfold rLtF; simp only [r_sees_eq (show ([108, 101, 116] : List UInt8) ≠ [] by simp), sbind, decide_eq_true e1, bifT, w1n (show i ≤ 100000 by omega), w1n (show i + 1 ≤ 100000 by omega)]
      rw [r_free_eq, sbind] at hstep
      unfold nameS
      by_cases hfree : (nxW (V.map toX) (i + 1)).Kind ≠ 2 ∨ resB (nxW (V.map toX) (i + 1)).Text = true
      · rw [if_pos hfree, ebd_err]
        have hb : (!(decide ((nxW (V.map toX) (i + 1)).Kind = 2) && !resB (nxW (V.map toX) (i + 1)).Text)) = true := by
          rcases hfree with h | h
          · rw [decide_eq_false h]; rfl
          · rw [h]; simp
        rw [hb, bifT, r_bad_eq, sbind] at hstep
        exact ⟨nxA_pos hV _, .inr ⟨_, _, _, _, loop_out hstep (by omega)⟩⟩
      · rw [if_neg hfree, ebd_ok]
        have hk2 : (nxW (V.map toX) (i + 1)).Kind = 2 := Decidable.byContradiction fun h => hfree (.inl h)
        have hr2 : resB (nxW (V.map toX) (i + 1)).Text = false := by
          cases h : resB (nxW (V.map toX) (i + 1)).Text with
          | false => rfl
          | true => exact absurd (.inr h) hfree
        have hil2 : i + 1 < V.length := by have := nxK_lt (W := V.map toX) (i := i + 1) (by rw [hk2]; decide); rwa [len_toX] at this
        obtain ⟨w, y1, y2, y3, y4⟩ := nx_toX hil2
        rw [decide_eq_true hk2, hr2, show (!(true && !false)) = false by rfl, bifF, y1, sbind, r_must_eq (by omega) (by simp)] at hstep
        rw [y3]
        have bad_go : ∀ (I d q : Int) (c : List M_retrospectref17_Node) (Lx : List M_retrospectref17_Let), 0 ≤ q → rLtF n (V, (i : Int), E, 0, Nm, -1, L.map dL) = some (Lp.go (V, I, E, d, Nm ++ [w.Text], q, Lx)) →
            0 ≤ q ∧ ((∃ I d Nm' L', loopM (rLtF n) (m + 1) (V, (i : Int), E, 0, Nm, -1, L.map dL) = some (Lp.go (V, I, E, d, Nm', q, L'))) ∨ ∃ f I d Nm', loopM (rLtF n) (m + 1) (V, (i : Int), E, 0, Nm, -1, L.map dL) = some (Lp.out (f, V, I, E, d, q, Nm'))) := by
          intro I d q c Lx hq h
          refine ⟨hq, .inl ⟨I, d, Nm ++ [w.Text], Lx, ?_⟩⟩
          rw [loop_go h]
          exact loop_out (rLt_bad hq) (by omega)
        simp only [toX]
        cases h2 : needS (V.map toX) E [61] (i + 1 + 1) with
        | error q =>
          have hq : 0 ≤ q := by rw [needS_err h2]; exact nxA_pos hV _
          rw [h2] at hstep
          rw [ebd_err]
          refine bad_go ((i + 1 + 1 : Nat) : Int) 0 q [] (L.map dL ++ [⟨w.Text, []⟩]) hq ?_
          rw [hstep, sbind]
          simp only []
          rw [r_Expr_bad (by omega) _ _ _ hq, sbind, appM_ok (by simp; omega) (by simp; omega), sbind]
          simp only []
          rw [r_must_bad hq, sbind, appM_ok (by simp; omega) (by simp; omega), sbind]
        | ok j =>
          obtain ⟨rfl, g3⟩ := needS_ok (by simp) h2
          rw [len_toX] at g3
          rw [h2, sbind] at hstep
          simp only [] at hstep
          rw [ebd_ok]
          have hx := r_expr0 (E := E) (Nm := Nm) hV (by omega) hn (i + 1 + 1 + 1) (by omega)
          cases h3 : ex0 (V.map toX) E Nm (i + 1 + 1 + 1) with
          | error q =>
            rw [h3] at hx
            obtain ⟨hq, c, I, d', b1, b2⟩ := hx
            rw [ebd_err]
            refine bad_go I d' q c (L.map dL ++ [⟨w.Text, c⟩]) hq ?_
            rw [hstep, b1, sbind, appM_ok (by simp; omega) (by simp; omega), sbind]
            simp only []
            rw [r_must_bad hq, sbind, appM_ok (by simp; omega) (by simp; omega), sbind]
          | ok c =>
            have g4 := ex0_PO _ _ h3
            rw [len_toX] at g4
            rw [h3] at hx
            simp only [] at hx
            rw [ebd_ok]
            rw [hx, sbind, appM_ok (by simp; omega) (by simp; omega), sbind] at hstep
            simp only [] at hstep
            rw [r_must_eq (by omega) (by simp), sbind, appM_ok (by simp; omega) (by simp; omega), sbind] at hstep
            cases h4 : needS (V.map toX) E [59] c.2 with
            | error q =>
              have hq : 0 ≤ q := by rw [needS_err h4]; exact nxA_pos hV _
              rw [h4] at hstep
              rw [ebd_err]
              exact bad_go (c.2 : Int) 0 q [] (L.map dL ++ [⟨w.Text, c.1.map dN⟩]) hq hstep
            | ok j =>
              obtain ⟨rfl, g5⟩ := needS_ok (by simp) h4
              rw [len_toX] at g5
              rw [h4] at hstep
              simp only [] at hstep
              rw [ebd_ok, loop_go hstep]
              have e : L.map dL ++ [(⟨w.Text, c.1.map dN⟩ : M_retrospectref17_Let)] = (L ++ [(⟨w.Text, c.1⟩ : M_tree_Let)]).map dL := by simp [dL]
              rw [e]
              exact ih m (c.2 + 1) _ _ (by omega) (by simp; omega) (by simp; omega) (by omega) (by omega)
    · rw [if_neg e1]
      exact loop_out (by unfold rLtF; simp only [r_sees_eq (show ([108, 101, 116] : List UInt8) ≠ [] by simp), sbind, decide_eq_false e1, bifF]) (by omega)
theorem r_field (hV : VOk V E) {n : Nat} (hn : big + 100 ≤ n) : match fieldS (V.map toX) E with
    | .ok v => m___retrospectref18_P__field n V 0 E 0 [] (-1) = some (dF v.1.1, V, (v.2 : Int), E, 0, -1, v.1.2)
    | .error q => 0 ≤ q ∧ ∃ f I d Nm', m___retrospectref18_P__field n V 0 E 0 [] (-1) = some (f, V, I, E, d, q, Nm') := by
  have hVl : V.length ≤ 4000 := by have := hV.1.1; rwa [len_toX] at this
  have hbig : 100000 < n := by unfold big at hn; omega
  have hl := r_lets hV hn (V.map toX).length n 0 [] [] (Nat.zero_le _) (Nat.le_refl _) (Nat.le_refl _) (by rw [len_toX]; omega) (by omega)
  rw [r_field_eq]
  unfold fieldS
  cases h0 : letsL (V.map toX) E (V.map toX).length [] [] 0 with
  | error q =>
    rw [h0] at hl
    obtain ⟨hq, hl⟩ := hl
    rw [ebd_err]
    refine ⟨hq, ?_⟩
    rcases hl with ⟨I, d, Nm', L', hl⟩ | ⟨f, I, d, Nm', hl⟩
    · obtain ⟨f, hf⟩ := rTl_bad (V := V) (E := E) (n := n) (by omega) (I := I) (d := d) (q := q) (Nm := Nm') (L := L') hq
      refine ⟨f, I, d, Nm', ?_⟩
      rw [show loopM (rLtF n) n (V, (0 : Int), E, (0 : Int), ([] : List (List UInt8)), (-1 : Int), ([] : List M_retrospectref17_Let)) = _ from hl, sbind, lpK_go, hf]
    · refine ⟨f, I, d, Nm', ?_⟩
      rw [show loopM (rLtF n) n (V, (0 : Int), E, (0 : Int), ([] : List (List UInt8)), (-1 : Int), ([] : List M_retrospectref17_Let)) = _ from hl, sbind, lpK_out]
  | ok a =>
    have g0 := letsL_ok _ _ _ _ _ (Nat.zero_le _) (Nat.le_refl _) (Nat.le_refl _) h0
    rw [len_toX] at g0
    rw [h0] at hl
    simp only [] at hl
    rw [ebd_ok, show loopM (rLtF n) n (V, (0 : Int), E, (0 : Int), ([] : List (List UInt8)), (-1 : Int), ([] : List M_retrospectref17_Let)) = _ from hl, sbind, lpK_go]
    unfold rTl
    simp only []
    rw [r_must_eq (by omega) (by simp)]
    cases h1 : needS (V.map toX) E [91] a.2 with
    | error q =>
      have hq : 0 ≤ q := by rw [needS_err h1]; exact nxA_pos hV _
      rw [ebd_err]
      refine ⟨hq, ⟨a.1.1.map dL, [[]]⟩, (a.2 : Int), 0, a.1.2, ?_⟩
      rw [sbind]
      simp only []
      rw [r_Expr_bad (by omega) _ _ _ hq, sbind, appM_ok (by simp) (by simp), sbind]
      simp only [List.nil_append]
      rw [rOt_bad (by omega) hq, sbind]
      simp only []
      rw [r_must_bad hq, sbind]
    | ok j =>
      obtain ⟨rfl, g1⟩ := needS_ok (by simp) h1
      rw [len_toX] at g1
      rw [ebd_ok, sbind]
      simp only []
      have hx := r_expr0 (E := E) (Nm := a.1.2) hV (by omega) hn (a.2 + 1) (by omega)
      cases h2 : ex0 (V.map toX) E a.1.2 (a.2 + 1) with
      | error q =>
        rw [h2] at hx
        obtain ⟨hq, c, I, d', b1, b2⟩ := hx
        rw [ebd_err]
        refine ⟨hq, ⟨a.1.1.map dL, [c]⟩, I, d', a.1.2, ?_⟩
        rw [b1, sbind, appM_ok (by simp) (by simp), sbind]
        simp only [List.nil_append]
        rw [rOt_bad (by omega) hq, sbind]
        simp only []
        rw [r_must_bad hq, sbind]
      | ok c =>
        have g2 := ex0_PO _ _ h2
        rw [len_toX] at g2
        rw [h2] at hx
        simp only [] at hx
        have ho := r_outs hV hn (Nm := a.1.2) (by omega) (V.map toX).length n c.2 [c.1] (by omega) (by simp; omega) (by rw [len_toX]; omega) (by omega)
        rw [ebd_ok, hx, sbind, appM_ok (by simp) (by simp), sbind]
        simp only [List.nil_append]
        cases h3 : outsL (V.map toX) E a.1.2 (V.map toX).length [c.1] c.2 with
        | error q =>
          rw [h3] at ho
          obtain ⟨hq, I, d, O', ho⟩ := ho
          rw [ebd_err]
          refine ⟨hq, ⟨a.1.1.map dL, O'⟩, I, d, a.1.2, ?_⟩
          rw [show loopM (rOtF n) n (V, (c.2 : Int), E, (0 : Int), a.1.2, (-1 : Int), [c.1.map dN]) = _ from ho, sbind]
          simp only []
          rw [r_must_bad hq, sbind]
        | ok b =>
          have g3 := outsL_ok _ _ _ _ (by rw [len_toX]; omega) (by simp; omega) h3
          rw [len_toX] at g3
          rw [h3] at ho
          simp only [] at ho
          rw [ebd_ok, show loopM (rOtF n) n (V, (c.2 : Int), E, (0 : Int), a.1.2, (-1 : Int), [c.1.map dN]) = _ from ho, sbind]
          simp only []
          rw [r_must_eq (by omega) (by simp)]
          cases h4 : needS (V.map toX) E [93] b.2 with
          | error q =>
            have hq : 0 ≤ q := by rw [needS_err h4]; exact nxA_pos hV _
            rw [ebd_err]
            exact ⟨hq, ⟨a.1.1.map dL, b.1.map (·.map dN)⟩, (b.2 : Int), 0, a.1.2, by rw [sbind]⟩
          | ok j => rw [ebd_ok, sbind]; rfl
theorem r_over_eq {d : Int} {Nm : List (List UInt8)} {i : Nat} : m___retrospectref18_P__over V (i : Int) E d Nm (-1) = some (V, (i : Int), E, d, if i < V.length then nxA (V.map toX) E i else -1) := by
  unfold m___retrospectref18_P__over
  simp only [jn_eq, bifd]
  rw [if_pos (by omega)]
  by_cases h : i < V.length
  · rw [if_pos (by omega), if_pos h, r_bad_eq, sbind]
  · rw [if_neg (by omega), if_neg h]
theorem r_over_bad {I d q : Int} {Nm : List (List UInt8)} (hq : 0 ≤ q) : m___retrospectref18_P__over V I E d Nm q = some (V, I, E, d, q) := by
  unfold m___retrospectref18_P__over
  simp only [jn_eq, bifd]
  rw [if_neg (by omega), bifF]
end
def okR {α β : Type} (z : β) (f : α → β) : Except Int α → β × Int
  | .ok x => (f x, -1)
  | .error q => (z, q)
theorem m_ref18_Parse_eq {n : Nat} {s : List UInt8} (hn : big + 100 ≤ n) : m_retrospectref18_Parse n s = some (okR ⟨[], []⟩ dF (parseS s)) := by
  unfold m_retrospectref18_Parse m_retrospectref18_Begin parseS
  rw [m_ref16_Scan_spec (by omega), sbind, appM_ok (by simp) (by simp), sbind, sbind]
  simp only [List.append_nil, bifd]
  by_cases hs : 4000 < s.length
  · rw [if_pos hs, if_pos hs]; rfl
  rw [if_neg hs, if_neg hs]
  cases h : scanS s 0 with
  | inr p => simp only [wsR_inr]; rw [if_pos (Int.natCast_nonneg _)]; rfl
  | inl ws =>
    have hV := scan_VOk (by omega) h
    simp only [wsR_inl, List.nil_append]
    rw [if_neg (by decide)]
    have hf := r_field hV hn
    cases hf2 : fieldS (ws.map toX) (s.length : Int) with
    | error q =>
      rw [hf2] at hf
      obtain ⟨hq, f, I, d, Nm', hf⟩ := hf
      rw [hf, sbind, ebd_err]
      simp only []
      rw [r_over_bad hq, sbind, if_pos hq]; rfl
    | ok v =>
      rw [hf2] at hf
      simp only [] at hf
      rw [hf, sbind, ebd_ok]
      simp only []
      rw [r_over_eq, sbind]
      by_cases hl : v.2 < ws.length
      · simp only [if_pos hl]; rw [if_pos (nxA_pos hV _)]; rfl
      · simp only [if_neg hl]; rfl
theorem m_ref18_Code_eq {n : Nat} {s : List UInt8} {Nm : List (List UInt8)} (hn : big + 100 ≤ n) (hN : Nm.length ≤ 100000) : m_retrospectref18_Code n s Nm = some (okR [] (·.map dN) (codeS s Nm)) := by
  unfold m_retrospectref18_Code m_retrospectref18_Begin codeS
  rw [m_ref16_Scan_spec (by omega), sbind, appM_ok (by simp; omega) (by simp; omega), sbind, sbind]
  simp only [List.nil_append]
  by_cases hs : 4000 < s.length
  · rw [if_pos hs, if_pos hs, r_Expr_bad (by omega) _ _ _ (by decide), sbind]
    simp only []
    rw [r_over_bad (by decide), sbind]; rfl
  rw [if_neg hs, if_neg hs]
  cases h : scanS s 0 with
  | inr p =>
    simp only [wsR_inr]
    rw [r_Expr_bad (by omega) _ _ _ (Int.natCast_nonneg _), sbind]
    simp only []
    rw [r_over_bad (Int.natCast_nonneg _), sbind, bifd, if_pos (Int.natCast_nonneg _)]; rfl
  | inl ws =>
    have hV := scan_VOk (by omega) h
    simp only [wsR_inl, List.nil_append]
    have hf := r_expr0 (Nm := Nm) hV hN hn 0 (Nat.zero_le _)
    cases hf2 : ex0 (ws.map toX) (s.length : Int) Nm 0 with
    | error q =>
      rw [hf2] at hf
      obtain ⟨hq, c, I, d, hf, _⟩ := hf
      rw [show m___retrospectref18_P__Expr n ws (0 : Int) (s.length : Int) 0 Nm (-1) = _ from hf, sbind, ebd_err]
      simp only []
      rw [r_over_bad hq, sbind, bifd, if_pos hq]; rfl
    | ok v =>
      rw [hf2] at hf
      simp only [] at hf
      rw [show m___retrospectref18_P__Expr n ws (0 : Int) (s.length : Int) 0 Nm (-1) = _ from hf, sbind, ebd_ok]
      simp only []
      rw [r_over_eq, sbind, bifd]
      by_cases hl : v.2 < ws.length
      · simp only [if_pos hl]; rw [if_pos (nxA_pos hV _)]; rfl
      · simp only [if_neg hl]; rfl
end Go.Proofs.YtpomhkkhdojpiaaGreatDoor
