import Derived.Test.YtcmhibdigkdjiaaGreatDoorPlQ9
namespace Go.Proofs.YtcmhibdigkdjiaaGreatDoor
open Go Go.RowKit
section
variable {n k : Nat} {p : M_step_Problem} {t h : M_frac_Frac} {y : List M_frac_Frac}
def pairQ (s : M_scheme_Scheme) : List (List Rat × Rat) := List.zip (s.A.map rv) (rv s.C)
theorem pair_drop {s : M_scheme_Scheme} {i : Nat} {a : List M_frac_Frac} {c : M_frac_Frac} (ha : s.A[i]? = some a) (hc : s.C[i]? = some c) : (pairQ s).drop i = (rv a, fv c) :: (pairQ s).drop (i + 1) := by
  have h1 : (pairQ s)[i]? = some (rv a, fv c) := by
    unfold pairQ rv
    rw [List.getElem?_zip_eq_some]
    simp only [List.getElem?_map]
    exact ⟨by rw [ha]; rfl, by rw [hc]; rfl⟩
  have hi := lt_of_get h1
  rw [List.drop_eq_getElem_cons hi]
  congr 1
  rw [List.getElem?_eq_getElem hi] at h1
  exact Option.some.inj h1
theorem m_all_eq {g : M_gauge_Gauge} (hn : big ≤ n) (h0 : 129 ≤ k) (hk : k < 8000) (ok : PrbOK n k p t h y) (hg : g.limit = limQ p.Bits) :
    ∃ r, m___step_maker__all n p t h y g [] [] [] [] = some r ∧
      match doQ p.Tape p.Scheme (limQ p.Bits) (fv t) (fv h) (rv y) (rv p.P) with
      | .inl f => r.1 = f ∧ f.Kind ≠ 0
      | .inr z => ∃ g', r = (⟨0, 0, 0, 0⟩, p, t, h, y, toR z.next, toR z.err, g', toRR z.ys, toRR z.ks) ∧ z.ys.length = p.Scheme.B.length ∧ z.ks.length = p.Scheme.B.length := by
  obtain ⟨⟨d1, d2⟩, ⟨d3, d4⟩, d5, d6⟩ := ok.tp.r.1
  obtain ⟨⟨g1, g2⟩, g3, g4, g5, g6⟩ := ok.sr.2.1
  have hyl := ok.yl
  unfold m___step_maker__all
  have key : ∀ (bs : List M_frac_Frac) (i : Nat) (g : M_gauge_Gauge) (yss kss : List (List Rat)) (K : (M_step_Problem × M_frac_Frac × M_frac_Frac × (List M_frac_Frac) × M_gauge_Gauge × (List (List M_frac_Frac)) × (List (List M_frac_Frac)) × (List M_frac_Frac) × (List M_frac_Frac)) → Option (M_api_Fault × M_step_Problem × M_frac_Frac × M_frac_Frac × (List M_frac_Frac) × (List M_frac_Frac) × (List M_frac_Frac) × M_gauge_Gauge × (List (List M_frac_Frac)) × (List (List M_frac_Frac)))),
      i + bs.length = p.Scheme.B.length → yss.length = i → kss.length = i → (∀ a ∈ kss, QR 129 a) → (∀ a ∈ kss, a.length = y.length) → g.limit = limQ p.Bits →
      match stagesQ p.Tape (limQ p.Bits) (fv t) (fv h) (rv y) (rv p.P) ((pairQ p.Scheme).drop i) i yss kss with
      | .inl f => ∃ r, (rangeL (fun (i15 : Nat) (_ : M_frac_Frac) (s14 : M_step_Problem × M_frac_Frac × M_frac_Frac × (List M_frac_Frac) × M_gauge_Gauge × (List (List M_frac_Frac)) × (List (List M_frac_Frac)) × (List M_frac_Frac) × (List M_frac_Frac)) =>
    (m___step_maker__stage n s14.1 s14.2.1 s14.2.2.1 s14.2.2.2.1 s14.2.2.2.2.1 s14.2.2.2.2.2.1 s14.2.2.2.2.2.2.1 s14.2.2.2.2.2.2.2.1 s14.2.2.2.2.2.2.2.2 (i15 : Int)).bind fun r18 =>
    bif !(eqb_api_Fault r18.1 (⟨0, 0, 0, 0⟩ : M_api_Fault)) then (
      some (Lp.out ((r18.1, r18.2.1, r18.2.2.1, r18.2.2.2.1, r18.2.2.2.2.1, r18.2.2.2.2.2.1, r18.2.2.2.2.2.2.1, r18.2.2.2.2.2.2.2.1, r18.2.2.2.2.2.2.2.2.1, r18.2.2.2.2.2.2.2.2.2))))
    else (
      some (Lp.go (r18.2.1, r18.2.2.1, r18.2.2.2.1, r18.2.2.2.2.1, r18.2.2.2.2.2.2.2.1, r18.2.2.2.2.2.2.2.2.1, r18.2.2.2.2.2.2.2.2.2, r18.2.2.2.2.2.1, r18.2.2.2.2.2.2.1)))) bs i (p, t, h, y, g, toRR yss, toRR kss, [], [])).bind (lpK K) = some r ∧ r.1 = f ∧ f.Kind ≠ 0
      | .inr z => ∃ g', g'.limit = limQ p.Bits ∧ (rangeL (fun (i15 : Nat) (_ : M_frac_Frac) (s14 : M_step_Problem × M_frac_Frac × M_frac_Frac × (List M_frac_Frac) × M_gauge_Gauge × (List (List M_frac_Frac)) × (List (List M_frac_Frac)) × (List M_frac_Frac) × (List M_frac_Frac)) =>
    (m___step_maker__stage n s14.1 s14.2.1 s14.2.2.1 s14.2.2.2.1 s14.2.2.2.2.1 s14.2.2.2.2.2.1 s14.2.2.2.2.2.2.1 s14.2.2.2.2.2.2.2.1 s14.2.2.2.2.2.2.2.2 (i15 : Int)).bind fun r18 =>
    bif !(eqb_api_Fault r18.1 (⟨0, 0, 0, 0⟩ : M_api_Fault)) then (
      some (Lp.out ((r18.1, r18.2.1, r18.2.2.1, r18.2.2.2.1, r18.2.2.2.2.1, r18.2.2.2.2.2.1, r18.2.2.2.2.2.2.1, r18.2.2.2.2.2.2.2.1, r18.2.2.2.2.2.2.2.2.1, r18.2.2.2.2.2.2.2.2.2))))
    else (
      some (Lp.go (r18.2.1, r18.2.2.1, r18.2.2.2.1, r18.2.2.2.2.1, r18.2.2.2.2.2.2.2.1, r18.2.2.2.2.2.2.2.2.1, r18.2.2.2.2.2.2.2.2.2, r18.2.2.2.2.2.1, r18.2.2.2.2.2.2.1)))) bs i (p, t, h, y, g, toRR yss, toRR kss, [], [])).bind (lpK K) = K (p, t, h, y, g', toRR z.1, toRR z.2, [], []) ∧ z.1.length = p.Scheme.B.length ∧ z.2.length = p.Scheme.B.length ∧ (∀ a ∈ z.2, QR 129 a) ∧ ∀ a ∈ z.2, a.length = y.length := by
    intro bs
    induction bs with
    | nil =>
      intro i g yss kss K hi hy1 hk1 hq hl hg
      have he : (pairQ p.Scheme).drop i = [] := by
        apply List.drop_eq_nil_of_le
        unfold pairQ
        simp only [List.length_nil, Nat.add_zero] at hi
        rw [List.length_zip, rv_len, List.length_map]; omega
      rw [he]
      simp only [stagesQ]
      simp only [List.length_nil, Nat.add_zero] at hi
      exact ⟨g, hg, rfl, by omega, by omega, hq, hl⟩
    | cons b bs ih =>
      intro i g yss kss K hi hy1 hk1 hq hl hg
      rw [List.length_cons] at hi
      have ha : p.Scheme.A[i]? = some (p.Scheme.A[i]'(by omega)) := List.getElem?_eq_getElem (by omega)
      have hc : p.Scheme.C[i]? = some (p.Scheme.C[i]'(by omega)) := List.getElem?_eq_getElem (by omega)
      rw [pair_drop ha hc]
      generalize p.Scheme.A[i]'(by omega) = a at ha
      generalize p.Scheme.C[i]'(by omega) = c at hc
      simp only [stagesQ, rangeL]
      obtain ⟨g', e1, r, e2, e3⟩ := m_stage_eq (g := g) (ys := toRR yss) (nx := []) (er := []) hn h0 (by omega) ok hg ha hc (by rw [toRR_len]; omega) hq hk1 hl
      rw [e2, sbind]
      cases hs : stageQ p.Tape (limQ p.Bits) (fv t) (fv h) (rv y) (rv p.P) (rv a) (fv c) i kss with
      | inl f =>
        rw [hs] at e3
        obtain ⟨e4, e5⟩ := e3
        obtain ⟨⟨f1, f2, f3, f4⟩, r⟩ := r
        simp only [] at e4
        subst e4
        simp only []
        rw [eqbF_kind e5, Bool.not_false, bifT, sbind]
        exact ⟨_, rfl, rfl, e5⟩
      | inr z =>
        rw [hs] at e3
        obtain ⟨e4, e5, e6⟩ := e3
        subst e4
        simp only []
        rw [eqbF_self, Bool.not_true, bifF, sbind]
        have := ih (i + 1) g' (yss ++ [z.1]) (kss ++ [z.2]) K (by omega) (by simp; omega) (by simp; omega) (fun a ha => by
          rcases List.mem_append.1 ha with ha | ha
          · exact hq a ha
          · rw [List.mem_singleton.1 ha]; exact e5) (fun a ha => by
          rcases List.mem_append.1 ha with ha | ha
          · exact hl a ha
          · rw [List.mem_singleton.1 ha]; exact e6) (by omega)
        have e7 : toRR yss ++ [toR z.1] = toRR (yss ++ [z.1]) := by unfold toRR; rw [List.map_append]; rfl
        rw [e7]
        exact this
  generalize hK : (fun (s20 : M_step_Problem × M_frac_Frac × M_frac_Frac × (List M_frac_Frac) × M_gauge_Gauge × (List (List M_frac_Frac)) × (List (List M_frac_Frac)) × (List M_frac_Frac) × (List M_frac_Frac)) =>
    (m___step_maker__from n s20.1 s20.2.1 s20.2.2.1 s20.2.2.2.1 s20.2.2.2.2.1 s20.2.2.2.2.2.1 s20.2.2.2.2.2.2.1 s20.2.2.2.2.2.2.2.1 s20.2.2.2.2.2.2.2.2 p.Scheme.B).bind fun r21 =>
  (m___step_maker__fits n s20.1 s20.2.1 s20.2.2.1 s20.2.2.2.1 s20.2.2.2.2.1 s20.2.2.2.2.2.1 s20.2.2.2.2.2.2.1 r21 s20.2.2.2.2.2.2.2.2 r21 (p.Scheme.B.length : Int)).bind fun r23 =>
  bif !(eqb_api_Fault r23.1 (⟨0, 0, 0, 0⟩ : M_api_Fault)) then (
    some (r23.1, s20.1, s20.2.1, s20.2.2.1, s20.2.2.2.1, r21, s20.2.2.2.2.2.2.2.2, r23.2, s20.2.2.2.2.2.1, s20.2.2.2.2.2.2.1))
  else (
    jn (fun (j29 : ((List M_frac_Frac)) → Option _) =>
      (m_scheme_Gap n p.Scheme).bind fun r32 =>
      bif decide ((0 : Int) < (r32.length : Int)) then (
        (m___step_maker__toward n s20.1 s20.2.1 s20.2.2.1 s20.2.2.2.1 r23.2 s20.2.2.2.2.2.1 s20.2.2.2.2.2.2.1 r21 s20.2.2.2.2.2.2.2.2 r32).bind fun r34 =>
        j29 r34)
      else (
        j29 s20.2.2.2.2.2.2.2.2)) (fun (s31 : (List M_frac_Frac)) =>
      (m___step_maker__fits n s20.1 s20.2.1 s20.2.2.1 s20.2.2.2.1 r23.2 s20.2.2.2.2.2.1 s20.2.2.2.2.2.2.1 r21 s31 s31 (wrap64 ((p.Scheme.B.length : Int) + (1 : Int)))).bind fun r36 =>
      some (r36.1, s20.1, s20.2.1, s20.2.2.1, s20.2.2.2.1, r21, s31, r36.2, s20.2.2.2.2.2.1, s20.2.2.2.2.2.2.1)))) = K
  have h1 := key p.Scheme.B 0 g [] [] K (by omega) rfl rfl (fun _ h => by cases h) (fun _ h => by cases h) hg
  unfold doQ
  rw [List.drop_zero] at h1
  unfold pairQ at h1
  cases hs : stagesQ p.Tape (limQ p.Bits) (fv t) (fv h) (rv y) (rv p.P) (List.zip (p.Scheme.A.map rv) (rv p.Scheme.C)) 0 [] [] with
  | inl f =>
    rw [hs] at h1
    exact h1
  | inr z =>
    rw [hs] at h1
    obtain ⟨g', q1, q2, q3, q4, q5, q6⟩ := h1
    obtain ⟨yss, kss⟩ := z
    simp only [] at q2 q3 q4 q5 q6 ⊢
    have e0 : toRR [] = [] := rfl
    rw [e0] at q2
    rw [q2, ← hK]
    simp only []
    have hbB := from_bnd (QR_rv ok.yk (by omega)) (qw_fv ok.hk (by omega)) (QR_rv ok.sw.b (by omega)) q5 (by omega) h0
    have hlB := from_len (H := fv h) (Y := rv y) (c := rv p.Scheme.B) (kss := kss) (by rw [rv_len]; exact q6)
    rw [rv_len] at hlB
    have hgq := QR_gap (k := k) (s := p.Scheme) (by omega) ok.sw
    rw [m_from_eq hn h0 (by omega) ok.hk ok.yk ok.sw.b q5 (by omega) (by omega) q6 (by omega), sbind]
    obtain ⟨g2', e1, e2⟩ := m_fits_eq (p := p) (t := t) (h := h) (y := y) (g := g') (ys := toRR yss) (ks := toRR kss) (nx := toR (fromQ (fv h) (rv y) (rv p.Scheme.B) kss)) (er := []) (x2 := (p.Scheme.B.length : Int)) hn (QR_mono hbB (show 22 * k ≤ 1099511627775 by omega)) (by omega)
    rw [e2, sbind, q1]
    unfold endQ
    cases hf : fitQ (limQ p.Bits) (fromQ (fv h) (rv y) (rv p.Scheme.B) kss) 0 with
    | some j =>
      simp only []
      rw [eqbF_kind (by decide), Bool.not_false, bifT]
      exact ⟨_, rfl, rfl, by decide⟩
    | none =>
      simp only []
      rw [eqbF_self, Bool.not_true, bifF, jn_eq, m_scheme_Gap_eq hn (by omega) (by omega) ok.sw ok.sr, sbind, toR_len]
      have hE : ((m___step_maker__toward n p t h y g2' (toRR yss) (toRR kss) (toR (fromQ (fv h) (rv y) (rv p.Scheme.B) kss)) [] (toR (gapQ p.Scheme))) = some (toR (towQ (fv h) y.length (gapQ p.Scheme) kss)) ∨ gapQ p.Scheme = []) ∧ QR (41 * k + 1000) (if gapQ p.Scheme = [] then [] else towQ (fv h) y.length (gapQ p.Scheme) kss) ∧ (if gapQ p.Scheme = [] then [] else towQ (fv h) y.length (gapQ p.Scheme) kss).length ≤ 1000 := by
        by_cases he : gapQ p.Scheme = []
        · rw [if_pos he]; exact ⟨.inr he, fun _ h => (by cases h), by simp⟩
        · have hEl : p.Scheme.E.length = p.Scheme.B.length := by
            rcases g5 with g5 | g5
            · exact g5
            · exact absurd (by unfold gapQ; rw [if_pos (List.eq_nil_of_length_eq_zero g5)]) he
          have hgl : (gapQ p.Scheme).length = p.Scheme.B.length := by
            unfold gapQ
            rw [if_neg (fun h => by rw [h] at hEl; simp at hEl; omega), addQ_len, scaleQ_len, rv_len, rv_len]; omega
          rw [if_neg he]
          have ht := m_toward_eq (k := 2 * k + 2) (p := p) (t := t) (h := h) (y := y) (g := g2') (ys := toRR yss) (nx := toR (fromQ (fv h) (rv y) (rv p.Scheme.B) kss)) (er := []) (c := toR (gapQ p.Scheme)) (kss := kss) hn (by omega) (by omega) (Fk_mono ok.hk (by omega)) (FR_toR hgq) q5 (by omega) (by rw [toR_len]; omega) q6 (by omega)
          rw [rv_toR] at ht
          refine ⟨.inl ht, QR_mono (tow_bnd (k := 2 * k + 2) (Nat.le_trans (qw_fv ok.hk (by omega)) (by omega)) hgq q5 (by omega) (by omega)) (by omega), ?_⟩
          rw [tow_len q6]; omega
      obtain ⟨hE1, hE2, hE3⟩ := hE
      have hj : ∀ {β : Type} (f : List M_frac_Frac → Option β), (bif decide ((0 : Int) < ((gapQ p.Scheme).length : Int)) then (m___step_maker__toward n p t h y g2' (toRR yss) (toRR kss) (toR (fromQ (fv h) (rv y) (rv p.Scheme.B) kss)) [] (toR (gapQ p.Scheme))).bind fun r34 => f r34 else f []) = f (toR (if gapQ p.Scheme = [] then [] else towQ (fv h) y.length (gapQ p.Scheme) kss)) := by
        intro β f
        by_cases he : gapQ p.Scheme = []
        · rw [if_pos he, he]; rfl
        · have : (gapQ p.Scheme).length ≠ 0 := fun h => he (List.eq_nil_of_length_eq_zero h)
          rw [if_neg he, decide_eq_true (by omega), bifT, hE1.resolve_right he, sbind]
      rw [hj, w1 (by omega), rv_len]
      generalize (if gapQ p.Scheme = [] then [] else towQ (fv h) y.length (gapQ p.Scheme) kss) = er at hE2 hE3 ⊢
      obtain ⟨g3', e3, e4⟩ := m_fits_eq (p := p) (t := t) (h := h) (y := y) (g := g2') (ys := toRR yss) (ks := toRR kss) (nx := toR (fromQ (fv h) (rv y) (rv p.Scheme.B) kss)) (er := toR er) (x2 := ((p.Scheme.B.length + 1 : Nat) : Int)) hn (QR_mono hE2 (show 41 * k + 1000 ≤ 1099511627775 by omega)) hE3
      rw [e4, sbind, show g2'.limit = limQ p.Bits by omega]
      cases hf2 : fitQ (limQ p.Bits) er 0 with
      | some j => exact ⟨_, rfl, rfl, by show (6 : Int) ≠ 0; decide⟩
      | none => exact ⟨_, rfl, g3', rfl, q3, q4⟩
/-- What is known of a problem, whether it may be or not. -/
theorem m_step_Right_eq (hn : big ≤ n) (h1 : 1 ≤ k) (hk : k < 1048576) (ht : TW p.Tape) (hd : -9223372036854775808 ≤ p.Tape.Dim ∧ p.Tape.Dim ≤ 9223372036854775807) (hs : SchW k p.Scheme) :
    m_step_Right n p = some (dP (tapeR p.Tape ∧ schR p.Scheme ∧ (p.P.length : Int) = p.Tape.Par)) := by
  unfold m_step_Right
  simp only [jn_eq]
  rw [m_tape_Right_eq hn ht hd, sbind, bifP]
  by_cases c1 : tapeR p.Tape
  · rw [if_pos c1, m_scheme_Right_eq hn h1 hk hs, sbind, bifP]
    by_cases c2 : schR p.Scheme
    · rw [if_pos c2]; exact some_dec ⟨fun h => ⟨c1, c2, h⟩, fun h => h.2.2⟩
    · rw [if_neg c2, dP_f fun h => c2 h.2.1]
  · rw [if_neg c1, dP_f fun h => c1 h.1]
end
end Go.Proofs.YtcmhibdigkdjiaaGreatDoor
