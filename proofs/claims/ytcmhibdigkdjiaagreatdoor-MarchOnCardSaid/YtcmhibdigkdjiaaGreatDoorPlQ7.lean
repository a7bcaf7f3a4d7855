import Derived.Test.YtcmhibdigkdjiaaGreatDoorPlQ6
import Derived.Test.YtcmhibdigkdjiaaGreatDoorPlLex
namespace Go.Proofs.YtcmhibdigkdjiaaGreatDoor
open Go Go.RowKit
/-! ### What a tape tells -/
theorem runQ_ok {lim T Y P} (hlim : lim ≤ 4096) : ∀ {c : List M_tape_Inst} {i : Nat} {done l : List Rat}, QR 129 done → runQ lim T Y P c i done = .inr l → l.length = done.length + c.length ∧ QR 129 l
  | [], i, done, l, hd, h => by
    simp only [runQ] at h
    cases h
    exact ⟨rfl, hd⟩
  | x :: c, i, done, l, hd, h => by
    simp only [runQ] at h
    cases hq : opQ x T Y P done with
    | none => rw [hq] at h; cases h
    | some q =>
      rw [hq] at h
      simp only [] at h
      by_cases hf : (qz q : Int) ≤ lim
      · rw [if_pos hf] at h
        obtain ⟨h1, h2⟩ := runQ_ok hlim (fun z hz => by
          rcases List.mem_append.1 hz with hz | hz
          · exact hd z hz
          · rw [List.mem_singleton.1 hz]
            have := qw_qz (q := q) (b := 4096) (by omega); omega) h
        exact ⟨by rw [h1]; simp; omega, h2⟩
      · rw [if_neg hf] at h; cases h
theorem runQ_kind {lim T Y P} : ∀ {c : List M_tape_Inst} {i : Nat} {done : List Rat} {e}, runQ lim T Y P c i done = .inl e → e.1 = 3 ∨ e.1 = 6
  | [], i, done, e, h => by simp only [runQ] at h; cases h
  | x :: c, i, done, e, h => by
    simp only [runQ] at h
    cases hq : opQ x T Y P done with
    | none => rw [hq] at h; cases h; exact .inl rfl
    | some q =>
      rw [hq] at h
      simp only [] at h
      by_cases hf : (qz q : Int) ≤ lim
      · rw [if_pos hf] at h; exact runQ_kind h
      · rw [if_neg hf] at h; cases h; exact .inr rfl
/-- What a tape tells. -/
def fieldQ (t : M_tape_Tape) (lim : Int) (T : Rat) (Y P : List Rat) : (Int × Nat) ⊕ List Rat :=
  match runQ lim T Y P t.Code 0 [] with
  | .inl e => .inl e
  | .inr l => .inr (t.Outs.map fun o => l.getD o.toNat 0)
/-- What is wanted of a problem's tape. -/
structure TapeOK (n k : Nat) (t : M_tape_Tape) : Prop where
  r : tapeR t
  h : m_tape_Right n t = some true
  w : ∀ c ∈ t.Code, Fk k c.N
theorem m_run_Field_eq {n k : Nat} {t : M_tape_Tape} {p : M_eval_Point} {bits : Int} (hn : big ≤ n) (h1 : 129 ≤ k) (hk : k < 1048576) (ht : TapeOK n k t) (hT : Fk k p.T) (hY : FR k p.Y) (hP : FR k p.P) (hy : (p.Y.length : Int) = t.Dim) (hp : (p.P.length : Int) = t.Par) :
    m_run_Field n t p bits = some (match fieldQ t (min (max bits 0) 4096) (fv p.T) (rv p.Y) (rv p.P) with | .inl e => ([], ⟨e.1, 0, 0, (e.2 : Int)⟩) | .inr l => (toR l, ⟨0, 0, 0, 0⟩)) := by
  obtain ⟨r, h, w⟩ := ht
  have hd := r.1
  obtain ⟨⟨d1, d2⟩, ⟨d3, d4⟩, d5, d6⟩ := hd
  have eT := qw_fv hT (by omega)
  have eY := QR_rv hY (by omega)
  have eP := QR_rv hP (by omega)
  unfold m_run_Field m_run_Tape m_eval_Norm m_gauge_New
  rw [m_frac_Norm_eq hn (Fk_Fw hT (by omega)), sbind, m_eval_norms_eq hn (by omega) hY (by omega), sbind, m_eval_norms_eq hn (by omega) hP (by omega), sbind, sbind, sbind]
  simp only []
  obtain ⟨g', e⟩ := m_Run_eq (g := ⟨⟨0, 0⟩, min (max bits 0) 4096⟩) hn h1 hk r h w eT eY eP (by rw [rv_len]; exact hy) (by rw [rv_len]; exact hp) (by simp only []; omega)
  rw [e, sbind]
  unfold fieldQ
  simp only []
  cases hr : runQ (min (max bits 0) 4096) (fv p.T) (rv p.Y) (rv p.P) t.Code 0 [] with
  | inl q =>
    have hk := runQ_kind hr
    simp only []
    rw [sbind]
    simp only []
    rw [eqbF_kind (by omega), Bool.not_false, bifT]
  | inr l =>
    obtain ⟨l1, l2⟩ := runQ_ok (by omega) (fun _ h => by cases h) hr
    have hl : l.length = t.Code.length := by simpa using l1
    simp only []
    rw [sbind]
    simp only []
    rw [eqbF_self, Bool.not_true, bifF]
    unfold m_run_Outs
    simp only [jn_eq, h, sbind, Bool.not_true, bifF]
    rw [toR_len, decide_eq_true (show (l.length : Int) = (t.Code.length : Int) by omega), Bool.not_true, bifF, row_map (g := fun o : Int => l.getD o.toNat 0) hn (by omega) fun i o s ho => ?_, sbind]
    have hb := r.2.2 o (mem_of_get ho)
    rw [getI_toR hb.1 (by omega), sbind, m_frac_Norm_eq hn (Fk_Fw (Fk_toF (getD_qw l2 (by omega))) (by omega)), sbind, fv_toF]
theorem fieldQ_ok {t : M_tape_Tape} {lim T Y P l} (hlim : lim ≤ 4096) (h : fieldQ t lim T Y P = .inr l) : l.length = t.Outs.length ∧ QR 129 l := by
  unfold fieldQ at h
  cases hr : runQ lim T Y P t.Code 0 [] with
  | inl q => rw [hr] at h; cases h
  | inr l' =>
    rw [hr] at h; cases h
    obtain ⟨l1, l2⟩ := runQ_ok hlim (fun _ h => by cases h) hr
    refine ⟨by simp, fun q hq => ?_⟩
    obtain ⟨o, _, rfl⟩ := List.mem_map.1 hq
    exact getD_qw l2 (by omega)
theorem fieldQ_kind {t : M_tape_Tape} {lim T Y P e} (h : fieldQ t lim T Y P = .inl e) : e.1 = 3 ∨ e.1 = 6 := by
  unfold fieldQ at h
  cases hr : runQ lim T Y P t.Code 0 [] with
  | inl q => rw [hr] at h; cases h; exact runQ_kind hr
  | inr l' => rw [hr] at h; cases h
end Go.Proofs.YtcmhibdigkdjiaaGreatDoor
