import Derived.Test.YtcmhibdigkdjiaaGreatDoorPlQ8
namespace Go.Proofs.YtcmhibdigkdjiaaGreatDoor
open Go Go.RowKit
/-! ### Steps -/
theorem fitQ_lt {lim : Int} : ∀ {l : List Rat} {i j : Nat}, fitQ lim l i = some j → j < i + l.length
  | [], i, j, h => by simp [fitQ] at h
  | q :: l, i, j, h => by
    simp only [fitQ] at h
    split at h
    · have := fitQ_lt h; simp; omega
    · cases h; simp
structure MadeQ where
  ys : List (List Rat)
  ks : List (List Rat)
  next : List Rat
  err : List Rat
def towQ (H : Rat) (m : Nat) (c : List Rat) (kss : List (List Rat)) : List Rat := scaleQ H (mixQ c kss (List.replicate m 0))
def fromQ (H : Rat) (Y c : List Rat) (kss : List (List Rat)) : List Rat := addQ Y (towQ H Y.length c kss)
def stageQ (t : M_tape_Tape) (lim : Int) (T H : Rat) (Y P : List Rat) (a : List Rat) (c : Rat) (i : Nat) (kss : List (List Rat)) : M_api_Fault ⊕ (List Rat × List Rat) :=
  match fitQ lim (fromQ H Y a kss) 0 with
  | some j => .inl ⟨6, 0, (i : Int), 300 + (j : Int)⟩
  | none => match fieldQ t lim (T + H * c) (fromQ H Y a kss) P with
    | .inl e => .inl ⟨e.1, 0, (i : Int), (e.2 : Int)⟩
    | .inr k => .inr (fromQ H Y a kss, k)
def stagesQ (t : M_tape_Tape) (lim : Int) (T H : Rat) (Y P : List Rat) : List (List Rat × Rat) → Nat → List (List Rat) → List (List Rat) → M_api_Fault ⊕ (List (List Rat) × List (List Rat))
  | [], _, yss, kss => .inr (yss, kss)
  | x :: r, i, yss, kss => match stageQ t lim T H Y P x.1 x.2 i kss with
    | .inl f => .inl f
    | .inr z => stagesQ t lim T H Y P r (i + 1) (yss ++ [z.1]) (kss ++ [z.2])
def endQ (s : M_scheme_Scheme) (lim : Int) (H : Rat) (Y : List Rat) (yss kss : List (List Rat)) : M_api_Fault ⊕ MadeQ :=
  match fitQ lim (fromQ H Y (rv s.B) kss) 0 with
  | some j => .inl ⟨6, 0, (s.B.length : Int), 300 + (j : Int)⟩
  | none => match fitQ lim (if gapQ s = [] then [] else towQ H Y.length (gapQ s) kss) 0 with
    | some j => .inl ⟨6, 0, (s.B.length : Int) + 1, 300 + (j : Int)⟩
    | none => .inr ⟨yss, kss, fromQ H Y (rv s.B) kss, if gapQ s = [] then [] else towQ H Y.length (gapQ s) kss⟩
/-- A step. -/
def doQ (t : M_tape_Tape) (s : M_scheme_Scheme) (lim : Int) (T H : Rat) (Y P : List Rat) : M_api_Fault ⊕ MadeQ :=
  match stagesQ t lim T H Y P (List.zip (s.A.map rv) (rv s.C)) 0 [] [] with
  | .inl f => .inl f
  | .inr z => endQ s lim H Y z.1 z.2
def toRR (l : List (List Rat)) : List (List M_frac_Frac) := l.map toR
theorem toRR_len (l : List (List Rat)) : (toRR l).length = l.length := by unfold toRR; simp
theorem rv_toRR (l : List (List Rat)) : (toRR l).map rv = l := by
  unfold toRR
  rw [List.map_map]
  conv => rhs; rw [← List.map_id l]
  exact List.map_congr_left fun q _ => rv_toR q
theorem mem_toRR {l : List (List Rat)} {P : List M_frac_Frac → Prop} (h : ∀ a ∈ l, P (toR a)) : ∀ a ∈ toRR l, P a := fun a ha => by
  obtain ⟨q, hq, rfl⟩ := List.mem_map.1 ha
  exact h q hq
theorem QR_rep (m : Nat) : QR 1 (List.replicate m 0) := fun q hq => by rw [(List.mem_replicate.1 hq).2, qw_zero]; exact Nat.le_refl _
theorem tow_bnd {k m : Nat} {H : Rat} {c : List Rat} {kss : List (List Rat)} (hH : qw H ≤ k) (hc : QR k c) (hk : ∀ a ∈ kss, QR 129 a) (hl : kss.length ≤ 8) (h0 : 129 ≤ k) : QR (20 * k) (towQ H m c kss) := by
  have h2 := QR_mix (z := List.replicate m 0) hc hk (QR_rep m)
  have h3 : kss.length * (k + 129 + 1) ≤ 8 * (k + 129 + 1) := Nat.mul_le_mul_right _ hl
  exact QR_mono (QR_scale hH h2) (by omega)
theorem from_bnd {k : Nat} {H : Rat} {Y c : List Rat} {kss : List (List Rat)} (hY : QR k Y) (hH : qw H ≤ k) (hc : QR k c) (hk : ∀ a ∈ kss, QR 129 a) (hl : kss.length ≤ 8) (h0 : 129 ≤ k) : QR (22 * k) (fromQ H Y c kss) :=
  QR_mono (QR_add hY (tow_bnd hH hc hk hl h0)) (by omega)
theorem tow_len {m : Nat} {H : Rat} {c : List Rat} {kss : List (List Rat)} (hk : ∀ a ∈ kss, a.length = m) : (towQ H m c kss).length = m := by
  unfold towQ; rw [scaleQ_len]; exact mixQ_len hk (by simp)
theorem from_len {H : Rat} {Y c : List Rat} {kss : List (List Rat)} (hk : ∀ a ∈ kss, a.length = Y.length) : (fromQ H Y c kss).length = Y.length := by
  unfold fromQ; rw [addQ_len, tow_len hk, Nat.min_self]
section
variable {n k : Nat} {p : M_step_Problem} {t h : M_frac_Frac} {y : List M_frac_Frac} {g : M_gauge_Gauge} {ys ks : List (List M_frac_Frac)} {nx er : List M_frac_Frac}
theorem m_toward_eq {c : List M_frac_Frac} {kss : List (List Rat)} (hn : big ≤ n) (h0 : 129 ≤ k) (hk : k < 16384) (hh : Fk k h) (hc : FR k c) (hkq : ∀ a ∈ kss, QR 129 a) (hl : kss.length ≤ 8) (hcl : c.length = kss.length) (hkl : ∀ a ∈ kss, a.length = y.length) (hy : y.length ≤ 6) :
    m___step_maker__toward n p t h y g ys (toRR kss) nx er c = some (toR (towQ (fv h) y.length (rv c) kss)) := by
  unfold m___step_maker__toward
  rw [m_row_Mix_o1_def, m_row_Mix_eq (j := k) (k := 129) hn (by omega) (by omega) (by omega) (by omega) hc (mem_toRR fun a ha => FR_toR (hkq a ha)) (by omega) (by rw [toRR_len]; omega), sbind, if_pos ⟨by rw [toRR_len, hcl], mem_toRR fun a ha => by rw [toR_len]; exact hkl a ha⟩]
  rw [rv_toRR]
  have hm := QR_mix (z := List.replicate y.length 0) (QR_rv hc (by omega)) hkq (QR_rep y.length)
  have h3 : kss.length * (k + 129 + 1) ≤ 8 * (k + 129 + 1) := Nat.mul_le_mul_right _ hl
  have hml := mixQ_len (cs := rv c) hkl (show (List.replicate y.length (0 : Rat)).length = y.length by simp)
  rw [m_row_Scale_eq (k := 20 * k) hn (by omega) (by omega) (Fk_mono hh (by omega)) (FR_toR (QR_mono hm (by omega))) (by rw [toR_len, hml]; omega), sbind, rv_toR]
  rfl
theorem m_from_eq {c : List M_frac_Frac} {kss : List (List Rat)} (hn : big ≤ n) (h0 : 129 ≤ k) (hk : k < 16384) (hh : Fk k h) (hyk : FR k y) (hc : FR k c) (hkq : ∀ a ∈ kss, QR 129 a) (hl : kss.length ≤ 8) (hcl : c.length = kss.length) (hkl : ∀ a ∈ kss, a.length = y.length) (hy : y.length ≤ 6) :
    m___step_maker__from n p t h y g ys (toRR kss) nx er c = some (toR (fromQ (fv h) (rv y) (rv c) kss)) := by
  unfold m___step_maker__from
  have hb := tow_bnd (m := y.length) (qw_fv hh (by omega)) (QR_rv hc (by omega)) hkq hl h0
  have htl := tow_len (H := fv h) (c := rv c) hkl
  rw [m_toward_eq hn h0 hk hh hc hkq hl hcl hkl hy, sbind, m_row_Add_eq (k := 20 * k) hn (by omega) (by omega) (FR_mono hyk (by omega)) (FR_toR hb) (by omega), sbind, toR_len, htl, if_pos rfl, rv_toR]
  unfold fromQ
  rw [rv_len]
theorem m_fits_eq {l : List Rat} {x2 : Int} (hn : big ≤ n) (hl : QR 1099511627775 l) (hll : l.length ≤ 1000) :
    ∃ g', g'.limit = g.limit ∧ m___step_maker__fits n p t h y g ys ks nx er (toR l) x2 = some (match fitQ g.limit l 0 with | none => (⟨0, 0, 0, 0⟩, g') | some j => (⟨6, 0, x2, 300 + (j : Int)⟩, g')) := by
  obtain ⟨g', h1, h2⟩ := m_Row_eq (g := g) hn hl
  refine ⟨g', h1, ?_⟩
  unfold m___step_maker__fits
  rw [h2, sbind]
  cases hf : fitQ g.limit l 0 with
  | none => rfl
  | some j =>
    have := fitQ_lt hf
    simp only [Bool.not_false, bifT]
    rw [w64 (by omega) (by omega)]
/-- What is known of a problem, and of where a step begins. -/
structure PrbOK (n k : Nat) (p : M_step_Problem) (t h : M_frac_Frac) (y : List M_frac_Frac) : Prop where
  tp : TapeOK n k p.Tape
  sw : SchW k p.Scheme
  sr : schR p.Scheme
  pk : FR k p.P
  pl : (p.P.length : Int) = p.Tape.Par
  tk : Fk k t
  hk : Fk k h
  yk : FR k y
  yl : (y.length : Int) = p.Tape.Dim
def limQ (bits : Int) : Int := min (max bits 0) 4096
theorem m_Moment_eq {i : Nat} {c : M_frac_Frac} (hn : big ≤ n) (h0 : 129 ≤ k) (hk : k < 16384) (ht : Fk k t) (hh : Fk k h) (hck : Fk k c) (hc : p.Scheme.C[i]? = some c) : m_step_Moment n p t h (i : Int) = some (toF (fv t + fv h * fv c)) := by
  have hi := lt_of_get hc
  have hmul := qw_mul (qw_fv hh (by omega)) (qw_fv hck (by omega))
  unfold m_step_Moment
  simp only [jn_eq]
  rw [decide_eq_false (show ¬ (i : Int) < 0 by omega), bifF, decide_eq_false (show ¬ (p.Scheme.C.length : Int) ≤ (i : Int) by omega), bifF, getI_of hc, sbind, m_frac_Mul_eq hn (by omega) (by omega) hh hck, sbind, m_frac_Add_eq (k := 4 * k) hn (by omega) (by omega) (Fk_mono ht (by omega)) (Fk_toF (by omega)), sbind, fv_toF]
theorem m_stage_eq {i : Nat} {a : List M_frac_Frac} {c : M_frac_Frac} {kss : List (List Rat)} (hn : big ≤ n) (h0 : 129 ≤ k) (hk : k < 16384) (ok : PrbOK n k p t h y) (hg : g.limit = limQ p.Bits)
    (ha : p.Scheme.A[i]? = some a) (hc : p.Scheme.C[i]? = some c) (hys : ys.length ≤ 8) (hkq : ∀ a ∈ kss, QR 129 a) (hki : kss.length = i) (hkl : ∀ a ∈ kss, a.length = y.length) :
    ∃ g', g'.limit = g.limit ∧ ∃ r, m___step_maker__stage n p t h y g ys (toRR kss) nx er (i : Int) = some r ∧
      match stageQ p.Tape (limQ p.Bits) (fv t) (fv h) (rv y) (rv p.P) (rv a) (fv c) i kss with
      | .inl f => r.1 = f ∧ f.Kind ≠ 0
      | .inr z => r = (⟨0, 0, 0, 0⟩, p, t, h, y, nx, er, g', ys ++ [toR z.1], toRR (kss ++ [z.2])) ∧ QR 129 z.2 ∧ z.2.length = y.length := by
  obtain ⟨⟨d1, d2⟩, ⟨d3, d4⟩, d5, d6⟩ := ok.tp.r.1
  obtain ⟨⟨g1, g2⟩, g3, g4, g5, g6⟩ := ok.sr.2.1
  have hi := lt_of_get ha
  have hyl := ok.yl
  have hak := ok.sw.a a (mem_of_get ha)
  have hck := ok.sw.c c (mem_of_get hc)
  have hal := g6 i a ha
  have hb := from_bnd (QR_rv ok.yk (by omega)) (qw_fv ok.hk (by omega)) (QR_rv hak (by omega)) hkq (by omega) h0
  have hfl := from_len (H := fv h) (Y := rv y) (c := rv a) (kss := kss) (by rw [rv_len]; exact hkl)
  rw [rv_len] at hfl
  unfold m___step_maker__stage
  rw [getI_of ha, sbind, m_from_eq hn h0 hk ok.hk ok.yk hak hkq (by omega) (by omega) hkl (by omega), sbind]
  obtain ⟨g', e1, e2⟩ := m_fits_eq (p := p) (t := t) (h := h) (y := y) (g := g) (ys := ys) (ks := toRR kss) (nx := nx) (er := er) (x2 := (i : Int)) hn (QR_mono hb (show 22 * k ≤ 1099511627775 by omega)) (by omega)
  refine ⟨g', e1, ?_⟩
  rw [e2, sbind, hg]
  unfold stageQ
  cases hf : fitQ (limQ p.Bits) (fromQ (fv h) (rv y) (rv a) kss) 0 with
  | some j =>
    simp only []
    rw [eqbF_kind (by decide), Bool.not_false, bifT]
    exact ⟨_, rfl, rfl, by decide⟩
  | none =>
    simp only []
    rw [eqbF_self, Bool.not_true, bifF]
    unfold m_step_at
    have hmul := qw_mul (qw_fv ok.hk (by omega)) (qw_fv hck (by omega))
    have hadd := qw_add (qw_fv ok.tk (by omega)) hmul
    rw [m_Moment_eq hn h0 hk ok.tk ok.hk hck hc, sbind, sbind]
    have hF := m_run_Field_eq (k := 22 * k) (t := p.Tape) (p := ⟨toF (fv t + fv h * fv c), toR (fromQ (fv h) (rv y) (rv a) kss), p.P⟩) (bits := p.Bits) hn (by omega) (by omega) ⟨ok.tp.r, ok.tp.h, fun x hx => Fk_mono (ok.tp.w x hx) (by omega)⟩ (Fk_toF (by omega)) (FR_toR hb) (FR_mono ok.pk (by omega)) (by simp only [toR_len, hfl]; exact hyl) ok.pl
    rw [hF, sbind]
    simp only []
    rw [fv_toF, rv_toR]
    have hlim : limQ p.Bits = min (max p.Bits 0) 4096 := rfl
    rw [hlim]
    cases hq : fieldQ p.Tape (min (max p.Bits 0) 4096) (fv t + fv h * fv c) (fromQ (fv h) (rv y) (rv a) kss) (rv p.P) with
    | inl e =>
      have hkd := fieldQ_kind hq
      simp only []
      rw [eqbF_kind (by omega), Bool.not_false, bifT]
      exact ⟨_, rfl, rfl, by show e.1 ≠ 0; omega⟩
    | inr l =>
      obtain ⟨q1, q2⟩ := fieldQ_ok (by omega) hq
      simp only []
      rw [eqbF_self, Bool.not_true, bifF, appM_ok (by simp; omega) (by simp; omega), sbind, appM_ok (by rw [toRR_len]; simp; omega) (by rw [toRR_len]; simp; omega), sbind]
      refine ⟨_, rfl, ?_, q2, by omega⟩
      unfold toRR
      rw [List.map_append]; rfl
end
end Go.Proofs.YtcmhibdigkdjiaaGreatDoor
