import Derived.Test.YtcmhibdigkdjiaaGreatDoorPlQ10
import Derived.Test.YtcmhibdigkdjiaaGreatDoorPlTo
namespace Go.Proofs.YtcmhibdigkdjiaaGreatDoor
open Go Go.RowKit
/-! ### A step, whole -/
/-- The sizes of a problem's numbers. -/
structure PrbW (k : Nat) (p : M_step_Problem) : Prop where
  t : ∀ c ∈ p.Tape.Code, Fk k c.N
  d : -9223372036854775808 ≤ p.Tape.Dim ∧ p.Tape.Dim ≤ 9223372036854775807
  s : SchW k p.Scheme
  p : FR k p.P
/-- Which problems may be. -/
def prbR (p : M_step_Problem) : Prop := tapeR p.Tape ∧ schR p.Scheme ∧ (p.P.length : Int) = p.Tape.Par
theorem PrbW.tw {k : Nat} {p : M_step_Problem} (h : PrbW k p) (hk : k < 1048576) : TW p.Tape := fun c hc => Fk_Fw (h.t c hc) (by omega)
theorem m_Right_eq {n k : Nat} {p : M_step_Problem} (hn : big ≤ n) (h0 : 129 ≤ k) (hk : k < 8000) (hw : PrbW k p) : m_step_Right n p = some (dP (prbR p)) :=
  m_step_Right_eq hn (by omega) (by omega) (hw.tw (by omega)) hw.d hw.s
theorem PrbW.ok {n k : Nat} {p : M_step_Problem} {t h : M_frac_Frac} {y : List M_frac_Frac} (hw : PrbW k p) (hn : big ≤ n) (hk : k < 8000) (hr : prbR p) (ht : Fk k t) (hh : Fk k h) (hy : FR k y) (hl : (y.length : Int) = p.Tape.Dim) : PrbOK n k p t h y :=
  ⟨⟨hr.1, by rw [m_tape_Right_eq hn (hw.tw (by omega)) hw.d, dP_t hr.1], hw.t⟩, hw.s, hr.2.1, hw.p, hr.2.2, ht, hh, hy, hl⟩
def toM (z : MadeQ) : M_step_Made := ⟨toRR z.ys, toRR z.ks, toR z.next, toR z.err⟩
def noM : M_step_Made := ⟨[], [], [], []⟩
/-- A step of any problem, from anywhere. -/
noncomputable def stepQ (p : M_step_Problem) (T H : Rat) (Y : List Rat) : M_api_Fault ⊕ MadeQ :=
  @ite _ (prbR p ∧ (Y.length : Int) = p.Tape.Dim) (Classical.propDecidable _) (doQ p.Tape p.Scheme (limQ p.Bits) T H Y (rv p.P)) (.inl ⟨2, 0, 0, 0⟩)
theorem m_step_Do_eq {n k : Nat} {p : M_step_Problem} {t h : M_frac_Frac} {y : List M_frac_Frac} (hn : big ≤ n) (h0 : 129 ≤ k) (hk : k < 8000) (hw : PrbW k p) (ht : Fk k t) (hh : Fk k h) (hy : FR k y) :
    m_step_Do n p t h y = some (match stepQ p (fv t) (fv h) (rv y) with | .inl f => (noM, f) | .inr z => (toM z, ⟨0, 0, 0, 0⟩)) ∧ ∀ f, stepQ p (fv t) (fv h) (rv y) = .inl f → f.Kind ≠ 0 := by
  unfold m_step_Do stepQ
  simp only [jn_eq]
  rw [m_Right_eq hn h0 hk hw, sbind, bifnP, rv_len]
  by_cases hr : prbR p
  case neg => rw [if_neg hr, if_neg (fun h => hr h.1), bifT]; exact ⟨rfl, fun f h => by cases h; decide⟩
  rw [if_pos hr]
  by_cases hl : (y.length : Int) = p.Tape.Dim
  case neg => rw [decide_eq_false hl, if_neg (fun h => hl h.2), Bool.not_false, bifT]; exact ⟨rfl, fun f h => by cases h; decide⟩
  rw [decide_eq_true hl, if_pos ⟨hr, hl⟩, Bool.not_true, bifF]
  have ok := hw.ok hn hk hr ht hh hy hl
  unfold m_gauge_New
  rw [sbind]
  obtain ⟨r, e1, e2⟩ := m_all_eq (g := ⟨⟨0, 0⟩, min (max p.Bits 0) 4096⟩) hn h0 hk ok rfl
  rw [e1, sbind]
  cases hd : doQ p.Tape p.Scheme (limQ p.Bits) (fv t) (fv h) (rv y) (rv p.P) with
  | inl f =>
    rw [hd] at e2
    obtain ⟨e3, e4⟩ := e2
    refine ⟨?_, fun g hg => by cases hg; exact e4⟩
    rw [e3]
    obtain ⟨f1, f2, f3, f4⟩ := f
    rw [eqbF_kind e4, Bool.not_false, bifT]; rfl
  | inr z =>
    rw [hd] at e2
    obtain ⟨g', e3, _⟩ := e2
    subst e3
    simp only []
    rw [eqbF_self, Bool.not_true, bifF]
    exact ⟨rfl, fun g hg => by cases hg⟩
theorem m_step_Slopes_eq {n k : Nat} {p : M_step_Problem} {t : M_frac_Frac} {y : List M_frac_Frac} (hn : big ≤ n) (h0 : 129 ≤ k) (hk : k < 8000) (hw : PrbW k p) (ht : Fk k t) (hy : FR k y) (hr : prbR p) (hl : (y.length : Int) = p.Tape.Dim) :
    m_step_Slopes n p t y = some (match fieldQ p.Tape (limQ p.Bits) (fv t) (rv y) (rv p.P) with | .inl e => ([], ⟨e.1, 0, 0, (e.2 : Int)⟩) | .inr l => (toR l, ⟨0, 0, 0, 0⟩)) := by
  have ok := hw.ok hn hk hr ht ht hy hl
  unfold m_step_Slopes m_step_at
  rw [m_Right_eq hn h0 hk hw, sbind, dP_t hr, Bool.not_true, bifF, sbind, m_run_Field_eq (k := k) (p := ⟨t, y, p.P⟩) hn h0 (by omega) ok.tp ht hy hw.p hl hr.2.2, sbind]
  rfl
/-! what is known of a step -/
theorem stages_ok {t : M_tape_Tape} {lim : Int} {T H : Rat} {Y P : List Rat} {m : Nat} (hlim : lim ≤ 4096) (hm : t.Outs.length = m) (hY : Y.length = m) : ∀ {r : List (List Rat × Rat)} {i : Nat} {yss kss : List (List Rat)} {z}, (∀ a ∈ kss, a.length = m) → (∀ a ∈ yss, a.length = m) → stagesQ t lim T H Y P r i yss kss = .inr z →
    (∀ a ∈ z.2, a.length = m) ∧ (∀ a ∈ z.1, a.length = m) ∧ (∃ e, z.1 = yss ++ e) ∧ ∃ e, z.2 = kss ++ e
  | [], i, yss, kss, z, h1, h2, h => by
    simp only [stagesQ] at h
    cases h
    exact ⟨h1, h2, ⟨[], by simp⟩, [], by simp⟩
  | x :: r, i, yss, kss, z, h1, h2, h => by
    simp only [stagesQ] at h
    cases hs : stageQ t lim T H Y P x.1 x.2 i kss with
    | inl f => rw [hs] at h; cases h
    | inr w =>
      rw [hs] at h
      have hw : w.2.length = m ∧ w.1.length = m := by
        unfold stageQ at hs
        split at hs
        · cases hs
        · cases hf : fieldQ t lim (T + H * x.2) (fromQ H Y x.1 kss) P with
          | inl e => rw [hf] at hs; cases hs
          | inr k =>
            rw [hf] at hs; cases hs
            exact ⟨by rw [(fieldQ_ok hlim hf).1, hm], by show (fromQ H Y x.1 kss).length = m; rw [from_len (by rw [hY]; exact h1), hY]⟩
      obtain ⟨g1, g2, ⟨e, g3⟩, e', g4⟩ := stages_ok hlim hm hY (fun a ha => by
        rcases List.mem_append.1 ha with ha | ha
        · exact h1 a ha
        · rw [List.mem_singleton.1 ha]; exact hw.1) (fun a ha => by
        rcases List.mem_append.1 ha with ha | ha
        · exact h2 a ha
        · rw [List.mem_singleton.1 ha]; exact hw.2) h
      exact ⟨g1, g2, ⟨w.1 :: e, by rw [g3]; simp⟩, w.2 :: e', by rw [g4]; simp⟩
theorem zip_id : ∀ {a b : List Rat}, a.length = b.length → List.zipWith (fun x y => x + 0 * y) a b = a
  | [], [], _ => rfl
  | [], _ :: _, h => by simp at h
  | _ :: _, [], h => by simp at h
  | x :: a, y :: b, h => by
    rw [List.zipWith_cons_cons, zip_id (by simpa using h)]
    congr 1; grind
theorem add_scale0 {Y l : List Rat} (h : Y.length = l.length) : addQ Y (scaleQ 0 l) = Y := by
  unfold addQ scaleQ
  rw [List.zipWith_map_right]; exact zip_id h
theorem from_zero {Y c : List Rat} {kss : List (List Rat)} (h : ∀ a ∈ kss, a.length = Y.length) : fromQ 0 Y c kss = Y := by
  unfold fromQ towQ
  exact add_scale0 (mixQ_len h (by simp)).symm
theorem scale_zeros {H : Rat} {m : Nat} : scaleQ H (List.replicate m 0) = List.replicate m 0 := by
  unfold scaleQ; rw [List.map_replicate]; congr 1; grind
theorem add_zeros : ∀ {Y : List Rat} {m : Nat}, Y.length = m → addQ Y (List.replicate m 0) = Y
  | [], m, h => by unfold addQ; simp
  | x :: Y, m, h => by
    obtain ⟨j, rfl⟩ : ∃ j, m = j + 1 := ⟨m - 1, by simp at h; omega⟩
    have := add_zeros (Y := Y) (m := j) (by simpa using h)
    unfold addQ at this ⊢
    rw [List.replicate_succ, List.zipWith_cons_cons, this]
    congr 1; grind
theorem from_none {H : Rat} {Y : List Rat} : fromQ H Y [] [] = Y := by
  unfold fromQ towQ
  simp only [mixQ]
  rw [scale_zeros, add_zeros rfl]
theorem max_zero : maxQ 0 (absQ 0) = 0 := by
  have h : absQ 0 = 0 := by unfold absQ; rw [if_neg (show ¬ ((0 : Rat).num < 0) by decide)]
  rw [h]; unfold maxQ; split <;> rfl
theorem norm_zero : ∀ {l : List Rat}, (∀ x ∈ l, x = 0) → normQ l = 0 := by
  intro l
  unfold normQ
  induction l with
  | nil => intro _; rfl
  | cons x l ih =>
    intro h
    rw [List.foldl_cons, h x (.head _), max_zero]
    exact ih fun y hy => h y (.tail _ hy)
theorem tow_zero {m : Nat} {c : List Rat} {kss : List (List Rat)} : ∀ x ∈ towQ 0 m c kss, x = 0 := fun x hx => by
  unfold towQ scaleQ at hx
  obtain ⟨q, _, rfl⟩ := List.mem_map.1 hx
  grind
end Go.Proofs.YtcmhibdigkdjiaaGreatDoor
