import Derived.Test.YtcmhibdigkdjiaaGreatDoorPlQ11
import Derived.KernelRfl
namespace Go.Proofs.YtcmhibdigkdjiaaGreatDoor
open Go Go.RowKit
set_option maxRecDepth 100000
theorem w33 : m_retrospectlaw33_works big = some true := by kernel_rfl
/-! ### Nowhere -/
theorem Fk_tF {k : Nat} {x : M_retrospectref09_Frac} (hB : B_retrospectref09_Frac x) (h : x.N.length ≤ k ∧ x.D.length ≤ k) : Fk k (tF x) := ⟨hB.2.1.2, h.1, hB.2.2.1.2, h.2⟩
theorem FR_tF {many k : Nat} {l : List M_retrospectref09_Frac} (hB : B_S_retrospectref09_Frac l) (h : FL many k l) : FR k (l.map tF) := fun x hx => by
  obtain ⟨y, hy, rfl⟩ := List.mem_map.1 hx
  exact Fk_tF (hB.2 y hy) (h.2 y hy)
theorem PrbW_tP {a b k : Nat} {p : M_retrospectref33_Problem} {bits : Int} (hB : B_retrospectref33_Problem p) (hk : k ≤ 129)
    (h : (p.Tape.Code.length ≤ a ∧ p.Tape.Outs.length ≤ a ∧ ∀ c ∈ p.Tape.Code, c.N.N.length ≤ k ∧ c.N.D.length ≤ k) ∧ (p.Scheme.Name.length ≤ 50 ∧ p.Scheme.A.length ≤ b ∧ FL b 4 p.Scheme.B ∧ FL b 4 p.Scheme.C ∧ FL b 4 p.Scheme.E ∧ ∀ r ∈ p.Scheme.A, FL b 4 r) ∧ FL 6 k p.P) :
    PrbW 129 ⟨tT p.Tape, tS p.Scheme, p.P.map tF, bits⟩ := by
  obtain ⟨bt, bs, bp, _⟩ := hB
  obtain ⟨⟨t1, t2, t3⟩, ⟨s1, s2, s3, s4, s5, s6⟩, p1⟩ := h
  refine ⟨fun c hc => ?_, bt.2.2.1, ⟨fun r hr => ?_, FR_mono (FR_tF bs.2.2.2.1 s3) (by omega), FR_mono (FR_tF bs.2.1 s4) (by omega), FR_mono (FR_tF bs.2.2.2.2.1 s5) (by omega), by show p.Scheme.Name.length ≤ _; omega⟩, FR_mono (FR_tF bp p1) hk⟩
  · obtain ⟨d, hd, rfl⟩ := List.mem_map.1 hc
    exact Fk_mono (Fk_tF (bt.1.2 d hd).2.2.2.1 (t3 d hd)) hk
  · obtain ⟨d, hd, rfl⟩ := List.mem_map.1 hr
    exact FR_mono (FR_tF (bs.2.2.1.2 d hd) (s6 d hd)) (by omega)
theorem law_StepStands (p : M_retrospectref33_Problem) (f : M_retrospectlaw33_From) (hB : B_retrospectref33_Problem p) (hF : B_retrospectlaw33_From f) : ∃ n, m_retrospectlaw33_StepStands n p f = some true := by
  refine ⟨big, ?_⟩
  have hn : big ≤ big := Nat.le_refl _
  unfold m_retrospectlaw33_StepStands
  simp only [jn_eq]
  obtain ⟨v, e1, e2⟩ := m_ref33_Long_ok (p := p) (a := 10) (b := 4) (k := 2) hn (by decide) (by decide)
  rw [show ((10 : Nat) : Int) = 10 from rfl, show ((4 : Nat) : Int) = 4 from rfl, show ((2 : Nat) : Int) = 2 from rfl] at e1
  rw [e1, sbind]
  cases v
  case true => rw [bifT, bifT, w33]; rfl
  obtain ⟨⟨t1, t2, t3⟩, ⟨s1, s2, s3, s4, s5, s6⟩, p1⟩ := e2 rfl
  obtain ⟨v, e3, e4⟩ := m_law33_Long_ok (f := f) hn
  rw [bifF, e3, sbind]
  cases v
  case true => rw [bifT, w33]; rfl
  obtain ⟨f1, f2, f3⟩ := e4 rfl
  have hw := PrbW_tP (bits := 1500) hB (by decide) (e2 rfl)
  have hT : Fk 129 (tF f.T) := Fk_mono (Fk_tF hF.1 f1) (by decide)
  have hH : Fk 129 (tF f.H) := Fk_mono (Fk_tF hF.2.1 f2) (by decide)
  have hY : FR 129 (f.Y.map tF) := FR_mono (FR_tF hF.2.2.1 f3) (by decide)
  have h0 : Fk 129 (toF 0) := Fk_toF (by rw [qw_zero]; decide)
  have hsB : (tS p.Scheme).B.length = p.Scheme.B.length := by unfold tS; simp
  rw [bifF, m_law33_To_eq hn (by omega) (by omega) (by omega) (by have := s3.1; omega) (by have := s4.1; omega) (by have := s5.1; omega) (fun r hr => by have := (s6 r hr).1; omega) (by have := p1.1; omega), sbind, m_law11_To_eq hn (by have := f3.1; omega), sbind]
  unfold m_retrospectlaw09_To
  rw [sbind, sbind]
  show ((m_step_Do big ⟨tT p.Tape, tS p.Scheme, p.P.map tF, 1500⟩ (tF f.T) (tF f.H) (f.Y.map tF)).bind _) = _
  generalize hq : (⟨tT p.Tape, tS p.Scheme, p.P.map tF, 1500⟩ : M_step_Problem) = q at hw
  have hqS : q.Scheme = tS p.Scheme := by rw [← hq]
  obtain ⟨d1, d2⟩ := m_step_Do_eq (t := tF f.T) (h := tF f.H) (y := f.Y.map tF) hn (by decide) (by decide) hw hT hH hY
  obtain ⟨d3, d4⟩ := m_step_Do_eq (t := tF f.T) (h := toF 0) (y := f.Y.map tF) hn (by decide) (by decide) hw hT h0 hY
  rw [d1, sbind, m_frac_Of_zero hn, sbind]
  show ((m_step_Do big ⟨tT p.Tape, tS p.Scheme, p.P.map tF, 1500⟩ (tF f.T) (toF 0) (f.Y.map tF)).bind _) = _
  rw [hq, d3, sbind, fv_toF]
  rw [fv_toF] at d4
  have ht : (⟨⟨f.T.Neg, f.T.N⟩, f.T.D⟩ : M_frac_Frac) = tF f.T := rfl
  have hp' : (⟨(tP p).Tape, (tP p).Scheme, (tP p).P, 1500⟩ : M_step_Problem) = q := hq
  rw [ht, hp']
  generalize hy : f.Y.map tF = y at *
  generalize tF f.T = t at *
  generalize tF f.H = h at *
  -- the second step leads nowhere
  have key : ∀ (K : Option Bool), K = some true → (bif eqb_api_Fault (match stepQ q (fv t) 0 (rv y) with | .inl f => (noM, f) | .inr z => (toM z, ⟨0, 0, 0, 0⟩)).2 ⟨0, 0, 0, 0⟩ then
        (m_row_Same big (match stepQ q (fv t) 0 (rv y) with | .inl f => (noM, f) | .inr z => (toM z, ⟨0, 0, 0, 0⟩)).1.Next y).bind fun r55 =>
            bif !r55 then (bif true then some false else K)
            else (m_row_Norm big (match stepQ q (fv t) 0 (rv y) with | .inl f => (noM, f) | .inr z => (toM z, ⟨0, 0, 0, 0⟩)).1.Err).bind fun r57 =>
                (m_frac_Sign big r57).bind fun r59 => bif !decide (r59 = 0) then some false else K
      else K) = some true := by
    intro k hk
    cases hs : stepQ q (fv t) 0 (rv y) with
    | inl e =>
      have := d4 e hs
      obtain ⟨a1, a2, a3, a4⟩ := e
      simp only []
      rw [eqbF_kind this, bifF]; exact hk
    | inr z =>
      simp only []
      rw [eqbF_self, bifT]
      unfold stepQ at hs
      by_cases hc : prbR q ∧ ((rv y).length : Int) = q.Tape.Dim
      case neg => rw [if_neg hc] at hs; cases hs
      rw [if_pos hc] at hs
      obtain ⟨hr, hl⟩ := hc
      have hdim := hr.1.1
      unfold doQ at hs
      cases hz : stagesQ q.Tape (limQ q.Bits) (fv t) 0 (rv y) (rv q.P) (List.zip (q.Scheme.A.map rv) (rv q.Scheme.C)) 0 [] [] with
      | inl e => rw [hz] at hs; cases hs
      | inr w =>
        rw [hz] at hs
        obtain ⟨g1, g2, g3, g4⟩ := stages_ok (m := (rv y).length) (by unfold limQ; omega) (by have := hdim.2.2.1; omega) rfl (fun _ h => by cases h) (fun _ h => by cases h) hz
        simp only [] at hs
        unfold endQ at hs
        have hz1 : z.next = rv y ∧ ∀ x ∈ z.err, x = 0 := by
          split at hs
          · cases hs
          · split at hs
            · cases hs
            · cases hs
              refine ⟨from_zero g1, ?_⟩
              show ∀ x ∈ (if gapQ q.Scheme = [] then [] else towQ 0 (rv y).length (gapQ q.Scheme) w.2), x = 0
              split
              · intro x hx; cases hx
              · exact tow_zero
        have hne : QR 129 z.err := fun x hx => by rw [hz1.2 x hx, qw_zero]; decide
        show ((m_row_Same big (toR z.next) y).bind fun r55 => bif !r55 then (bif true then some false else k) else (m_row_Norm big (toR z.err)).bind fun r57 => (m_frac_Sign big r57).bind fun r59 => bif !decide (r59 = 0) then some false else k) = some true
        rw [hz1.1, m_row_Same_eq (k := 129) hn (by decide) (by decide) (FR_toR (QR_rv hY (by decide))) hY, sbind, rv_toR, decide_eq_true rfl, Bool.not_true, bifF, m_row_Norm_eq (k := 129) hn (by decide) (by decide) (FR_toR hne), sbind, rv_toR, norm_zero hz1.2, m_frac_Sign_eq (k := 129) hn (by decide) (by decide) h0, sbind, fv_toF]
        rw [show (0 : Rat).num.sign = 0 from rfl]
        exact hk
  refine key _ ?_
  -- the first one
  cases hs : stepQ q (fv t) (fv h) (rv y) with
  | inl e =>
    have := d2 e hs
    obtain ⟨a1, a2, a3, a4⟩ := e
    simp only []
    rw [eqbF_kind this, Bool.not_false, bifT, w33]; rfl
  | inr z =>
    simp only []
    rw [eqbF_self, Bool.not_true, bifF]
    unfold stepQ at hs
    by_cases hc : prbR q ∧ ((rv y).length : Int) = q.Tape.Dim
    case neg => rw [if_neg hc] at hs; cases hs
    rw [if_pos hc] at hs
    obtain ⟨hr, hl⟩ := hc
    have hdim := hr.1.1
    obtain ⟨⟨g1, g2⟩, g3, g4, g5, g6⟩ := hr.2.1.2.1
    have ok := hw.ok (n := big) hn (by decide) hr hT hH hY (by rw [rv_len] at hl; exact hl)
    obtain ⟨r, _, e6⟩ := m_all_eq (g := ⟨⟨0, 0⟩, limQ q.Bits⟩) hn (by decide) (by decide) ok rfl
    rw [hs] at e6
    obtain ⟨_, _, n1, n2⟩ := e6
    unfold doQ at hs
    cases hz : stagesQ q.Tape (limQ q.Bits) (fv t) (fv h) (rv y) (rv q.P) (List.zip (q.Scheme.A.map rv) (rv q.Scheme.C)) 0 [] [] with
    | inl e => rw [hz] at hs; cases hs
    | inr w =>
      rw [hz] at hs
      have hzz : z.ys = w.1 ∧ z.ks = w.2 := by
        simp only [] at hs
        unfold endQ at hs
        split at hs
        · cases hs
        · split at hs
          · cases hs
          · cases hs; exact ⟨rfl, rfl⟩
      have hA : q.Scheme.A[0]? = some (q.Scheme.A[0]'(by omega)) := List.getElem?_eq_getElem (by omega)
      have hC : q.Scheme.C[0]? = some (q.Scheme.C[0]'(by omega)) := List.getElem?_eq_getElem (by omega)
      have hA0 := g6 0 _ hA
      have hp := pair_drop hA hC
      have hrows := hr.2.1.2.2.2.1 0 _ hA
      have hcd : q.Scheme.C.getD 0 ⟨⟨false, []⟩, []⟩ = q.Scheme.C[0]'(by omega) := by rw [List.getD_eq_getElem?_getD, hC]; rfl
      rw [hcd, List.eq_nil_of_length_eq_zero hA0] at hrows
      rw [List.drop_zero, List.eq_nil_of_length_eq_zero hA0, ← hrows] at hp
      unfold pairQ at hp
      rw [hp] at hz
      simp only [stagesQ] at hz
      rw [show rv [] = [] from rfl, show sumQ [] = 0 from rfl] at hz
      unfold stageQ at hz
      rw [from_none] at hz
      have hT0 : fv t + fv h * 0 = fv t := by grind
      rw [hT0] at hz
      have hsl := m_step_Slopes_eq hn (by decide) (by decide) hw hT hY hr (by rw [rv_len] at hl; exact hl)
      cases hft : fitQ (limQ q.Bits) (rv y) 0 with
      | some j => rw [hft] at hz; cases hz
      | none =>
        rw [hft] at hz
        simp only [] at hz
        cases hfq : fieldQ q.Tape (limQ q.Bits) (fv t) (rv y) (rv q.P) with
        | inl e => rw [hfq] at hz; cases hz
        | inr kk =>
          rw [hfq] at hz hsl
          simp only [] at hz hsl
          obtain ⟨k1, k2⟩ := fieldQ_ok (by unfold limQ; omega) hfq
          obtain ⟨_, _, ⟨ea, h1⟩, eb, h2⟩ := stages_ok (m := (rv y).length) (by unfold limQ; omega) (by have := hdim.2.2.1; omega) rfl (fun a ha => by rcases List.mem_singleton.1 ha with rfl; have := hdim.2.2.1; omega) (fun a ha => by rcases List.mem_singleton.1 ha with rfl; rfl) hz
          rw [hsl, sbind]
          simp only []
          rw [eqbF_self, bifT]
          have y1 : (toM z).Ys = toR (rv y) :: toRR ea := by show toRR z.ys = _; rw [hzz.1, h1]; rfl
          have y2 : (toM z).Ks = toR kk :: toRR eb := by show toRR z.ks = _; rw [hzz.2, h2]; rfl
          have l1 : (toM z).Ys.length = p.Scheme.B.length := by show (toRR z.ys).length = _; rw [toRR_len, n1, hqS, hsB]
          have l2 : (toM z).Ks.length = p.Scheme.B.length := by show (toRR z.ks).length = _; rw [toRR_len, n2, hqS, hsB]
          have l3 : 1 ≤ p.Scheme.B.length := by rw [← hsB, ← hqS]; exact g1
          rw [l1, l2, decide_eq_true rfl, bifT, bifT, decide_eq_true (by omega), bifT, y1, y2, getI_zero, sbind, m_row_Same_eq (k := 129) hn (by decide) (by decide) (FR_toR (QR_rv hY (by decide))) hY, sbind, rv_toR, decide_eq_true rfl, bifT, getI_zero, sbind, m_row_Same_eq (k := 129) hn (by decide) (by decide) (FR_toR k2) (FR_toR k2), sbind, decide_eq_true rfl, bifT, w33]
          rfl
end Go.Proofs.YtcmhibdigkdjiaaGreatDoor
