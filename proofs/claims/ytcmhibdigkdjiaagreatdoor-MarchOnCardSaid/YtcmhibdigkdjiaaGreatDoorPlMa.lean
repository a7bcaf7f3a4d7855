import Derived.Test.YtcmhibdigkdjiaaGreatDoorPlQ11
import Derived.KernelRfl
namespace Go.Proofs.YtcmhibdigkdjiaaGreatDoor
open Go Go.RowKit
/-! ### Marches -/
theorem fitQ_none {lim : Int} : ∀ {l : List Rat} {i : Nat}, fitQ lim l i = none → ∀ q ∈ l, (qz q : Int) ≤ lim
  | [], _, _, q, hq => by cases hq
  | x :: l, i, h, q, hq => by
    simp only [fitQ] at h
    split at h
    · rename_i hx
      rcases List.mem_cons.1 hq with rfl | hq
      · exact hx
      · exact fitQ_none h q hq
    · cases h
theorem fitQ_QR {lim : Int} {l : List Rat} (hlim : lim ≤ 4096) (h : fitQ lim l 0 = none) : QR 129 l := fun q hq => by
  have h1 := fitQ_none h q hq
  have h2 := qw_qz (q := q) (b := 4096) (by omega)
  omega
/-- Where a step leads may be a state again. -/
theorem stepQ_ok {p : M_step_Problem} {T H : Rat} {Y : List Rat} {z : MadeQ} (h : stepQ p T H Y = .inr z) : prbR p ∧ (Y.length : Int) = p.Tape.Dim ∧ QR 129 z.next ∧ z.next.length = Y.length ∧ QR 129 z.err := by
  unfold stepQ at h
  by_cases hc : prbR p ∧ (Y.length : Int) = p.Tape.Dim
  case neg => rw [if_neg hc] at h; cases h
  rw [if_pos hc] at h
  refine ⟨hc.1, hc.2, ?_⟩
  have hdim := hc.1.1.1
  unfold doQ at h
  cases hz : stagesQ p.Tape (limQ p.Bits) T H Y (rv p.P) (List.zip (p.Scheme.A.map rv) (rv p.Scheme.C)) 0 [] [] with
  | inl e => rw [hz] at h; cases h
  | inr w =>
    rw [hz] at h
    simp only [] at h
    obtain ⟨g1, g2, g3, g4⟩ := stages_ok (m := Y.length) (by unfold limQ; omega) (by have := hdim.2.2.1; omega) rfl (fun _ h => by cases h) (fun _ h => by cases h) hz
    unfold endQ at h
    have hlim : limQ p.Bits ≤ 4096 := by unfold limQ; omega
    split at h
    · cases h
    · rename_i hf
      split at h
      · cases h
      · rename_i hf2
        cases h
        exact ⟨fitQ_QR hlim hf, from_len g1, fitQ_QR hlim hf2⟩
structure TryQ where
  T : Rat
  H : Rat
  Err : Rat
  Y : List Rat
/-- A march. -/
noncomputable def marchQ (p : M_step_Problem) : List Rat → Nat → Rat → List Rat → List TryQ → M_api_Fault ⊕ (List TryQ × Rat × List Rat)
  | [], _, T, Y, tr => .inr (tr, T, Y)
  | h :: hs, i, T, Y, tr => match stepQ p T h Y with
    | .inl f => .inl ⟨f.Kind, (i : Int) + 1, f.Stage, f.At⟩
    | .inr z => marchQ p hs (i + 1) (T + h) z.next (tr ++ [⟨T, h, normQ z.err, Y⟩])
def toTry (t : TryQ) : M_past_Try := ⟨toF t.T, toF t.H, toF t.H, toF t.Err, toR t.Y, true⟩
def noH : M_past_History := ⟨[], ⟨⟨false, []⟩, []⟩, []⟩
def posQ (hs : List Rat) : Prop := (∀ h ∈ hs, 0 < h.num.sign) ∧ hs.length ≤ 200
/-- Which marches may be. -/
def mayQ (p : M_step_Problem) (Y hs : List Rat) : Prop := prbR p ∧ (Y.length : Int) = p.Tape.Dim ∧ posQ hs
theorem m_march_may_eq {n k : Nat} {hs : List M_frac_Frac} (hn : big ≤ n) (h1 : 1 ≤ k) (hk : k < 1048576) (hh : FR k hs) : m_march_may n hs = some (dP (posQ (rv hs))) := by
  classical
  unfold m_march_may
  rw [range_chk (fun _ (x : M_frac_Frac) => 0 < (fv x).num.sign) (r := false), list_iff]
  · have e : (∀ a ∈ hs, 0 < (fv a).num.sign) ↔ ∀ h ∈ rv hs, 0 < h.num.sign := by
      constructor
      · intro g h hm
        obtain ⟨x, hx, rfl⟩ := List.mem_map.1 hm
        exact g x hx
      · intro g x hx; exact g (fv x) (List.mem_map_of_mem hx)
    by_cases g : ∀ a ∈ hs, 0 < (fv a).num.sign
    · rw [if_pos g]; exact some_dec ⟨fun h => ⟨e.1 g, by rw [rv_len]; omega⟩, fun h => by have := h.2; rw [rv_len] at this; omega⟩
    · rw [if_neg g, dP_f fun h => g (e.2 h.1)]
  · intro i x hx
    rw [m_frac_Sign_eq hn h1 (by omega) (hh x (mem_of_get hx)), sbind]
    constructor
    · intro h; rw [decide_eq_false (by omega)]; rfl
    · intro h; rw [decide_eq_true (by omega)]; rfl
theorem toR_one {l : List Rat} : scaleQ 1 l = l := by
  unfold scaleQ
  conv => rhs; rw [← List.map_id l]
  exact List.map_congr_left fun q _ => by show 1 * q = q; grind
theorem normQ_bnd {k : Nat} {l : List Rat} (h1 : 1 ≤ k) (h : QR k l) : qw (normQ l) ≤ k := by
  have key : ∀ (l : List Rat) (b : Rat), QR k l → qw b ≤ k → qw (l.foldl (fun b x => maxQ b (absQ x)) b) ≤ k := by
    intro l
    induction l with
    | nil => intro b _ hb; exact hb
    | cons x l ih => intro b hl hb; exact ih _ (fun q hq => hl q (.tail _ hq)) (qw_max hb (by rw [qw_abs]; exact hl x (.head _)))
  exact key l 0 h (by rw [qw_zero]; exact h1)
theorem qw_one : qw 1 = 1 := by
  unfold qw; rw [show (1 : Rat).num = 1 from rfl, show (1 : Rat).den = 1 from rfl, show (1 : Int).natAbs = 1 from rfl, toL1]; rfl
theorem m_march_Fixed_eq {n j k a : Nat} {p : M_step_Problem} {t : M_frac_Frac} {y hs : List M_frac_Frac} (hn : big ≤ n) (h1 : 1 ≤ a) (hj : 1 ≤ j) (hk : a + 200 * (j + 1) + 129 ≤ k) (hk2 : k < 8000) (hw : PrbW k p) (ht : Fk a t) (hy : FR a y) (hyl : y.length ≤ 1000) (hh : FR j hs) :
    m_march_Fixed n p t y hs = some (@ite _ (mayQ p (rv y) (rv hs)) (Classical.propDecidable _) (match marchQ p (rv hs) 0 (fv t) (rv y) [] with | .inl f => (noH, f) | .inr z => (⟨z.1.map toTry, toF z.2.1, toR z.2.2⟩, ⟨0, 0, 0, 0⟩)) (noH, ⟨2, 0, 0, 0⟩)) ∧ (mayQ p (rv y) (rv hs) → ∀ f, marchQ p (rv hs) 0 (fv t) (rv y) [] = .inl f → f.Kind ≠ 0) := by
  unfold m_march_Fixed mayQ
  simp only [jn_eq]
  rw [m_Right_eq hn (by omega) hk2 hw, sbind, bifnP, rv_len]
  by_cases hr : prbR p
  case neg => rw [if_neg hr, if_neg (fun h => hr h.1), bifT]; exact ⟨rfl, fun h => absurd h.1 hr⟩
  rw [if_pos hr]
  by_cases hl : (y.length : Int) = p.Tape.Dim
  case neg => rw [decide_eq_false hl, if_neg (fun h => hl h.2.1), Bool.not_false, bifT, bifT]; exact ⟨rfl, fun h => absurd h.2.1 hl⟩
  rw [decide_eq_true hl, Bool.not_true, bifF, m_march_may_eq (k := j) hn (by omega) (by omega) hh, sbind]
  by_cases hp : posQ (rv hs)
  case neg => rw [dP_f hp, if_neg (fun h => hp h.2.2), Bool.not_false, bifT]; exact ⟨rfl, fun h => absurd h.2.2 hp⟩
  rw [dP_t hp, if_pos ⟨hr, hl, hp⟩, Bool.not_true, bifF]
  have hlen := hp.2
  rw [rv_len] at hlen
  have hyq := QR_rv hy h1
  have htq := qw_fv ht h1
  rw [m_frac_Norm_eq hn (Fk_Fw ht (by omega)), sbind, m_frac_Of_one hn, sbind, m_row_Scale_eq (k := a) hn (by omega) (by omega) (Fk_toF (by rw [qw_one]; exact h1)) hy (by omega), sbind, fv_toF, toR_one]
  have key : ∀ (hs : List M_frac_Frac) (i : Nat) (T : Rat) (Y : List Rat) (tr : List TryQ), FR j hs → i + hs.length ≤ 200 → tr.length = i → qw T ≤ a + i * (j + 1) → QR (max a 129) Y → (Y.length : Int) = p.Tape.Dim →
      (rangeL (fun (i48 : Nat) (x49 : M_frac_Frac) (s47 : (List M_past_Try) × M_frac_Frac × (List M_frac_Frac)) =>
        (m_frac_Norm n x49).bind fun r51 =>
        (m_step_Do n p s47.2.1 r51 s47.2.2).bind fun r53 =>
        bif !(eqb_api_Fault r53.2 (⟨0, 0, 0, 0⟩ : M_api_Fault)) then (
          some (Lp.out (((⟨[], (⟨(⟨false, []⟩ : M_whole_Whole), []⟩ : M_frac_Frac), []⟩ : M_past_History), (⟨r53.2.Kind, wrap64 ((i48 : Int) + (1 : Int)), r53.2.Stage, r53.2.At⟩ : M_api_Fault)))))
        else (
          (m_row_Norm n r53.1.Err).bind fun r55 =>
          (appM 256 s47.1 ([(⟨s47.2.1, r51, r51, r55, s47.2.2, true⟩ : M_past_Try)] : List M_past_Try)).bind fun y57 =>
          (m_frac_Add n s47.2.1 r51).bind fun r59 =>
          some (Lp.go (y57, r59, r53.1.Next)))) hs i (tr.map toTry, toF T, toR Y)).bind (lpK fun (s61 : (List M_past_Try) × M_frac_Frac × (List M_frac_Frac)) =>
      some ((⟨s61.1, s61.2.1, s61.2.2⟩ : M_past_History), (⟨0, 0, 0, 0⟩ : M_api_Fault))) = some (match marchQ p (rv hs) i T Y tr with | .inl f => (noH, f) | .inr z => (⟨z.1.map toTry, toF z.2.1, toR z.2.2⟩, ⟨0, 0, 0, 0⟩)) ∧ ∀ f, marchQ p (rv hs) i T Y tr = .inl f → f.Kind ≠ 0 := by
    intro hs
    induction hs with
    | nil =>
      intro i T Y tr _ _ _ _ _ _
      exact ⟨rfl, fun f h => by cases h⟩
    | cons h hs ih =>
      intro i T Y tr hh hi htr hT hY hYl
      rw [List.length_cons] at hi
      have hh1 := hh h (.head _)
      have hb : i * (j + 1) ≤ 199 * (j + 1) := Nat.mul_le_mul_right _ (by omega)
      have hq := qw_fv hh1 hj
      simp only [rangeL, rv, List.map_cons, marchQ]
      rw [m_frac_Norm_eq hn (Fk_Fw hh1 (by omega)), sbind]
      obtain ⟨d1, d2⟩ := m_step_Do_eq (p := p) (t := toF T) (h := toF (fv h)) (y := toR Y) hn (by omega) hk2 hw (Fk_toF (by omega)) (Fk_toF (by omega)) (FR_toR (QR_mono hY (by omega)))
      rw [fv_toF, fv_toF, rv_toR] at d1 d2
      rw [d1, sbind]
      cases hs' : stepQ p T (fv h) Y with
      | inl f =>
        have hf := d2 f hs'
        obtain ⟨f1, f2, f3, f4⟩ := f
        simp only []
        rw [eqbF_kind hf, Bool.not_false, bifT, sbind, w1 (by omega)]
        exact ⟨rfl, fun g hg => by cases hg; exact hf⟩
      | inr z =>
        obtain ⟨_, _, z1, z2, z3⟩ := stepQ_ok hs'
        simp only []
        rw [eqbF_self, Bool.not_true, bifF]
        show (((m_row_Norm n (toR z.err)).bind fun r55 => (appM 256 (tr.map toTry) [(⟨toF T, toF (fv h), toF (fv h), r55, toR Y, true⟩ : M_past_Try)]).bind fun y57 => (m_frac_Add n (toF T) (toF (fv h))).bind fun r59 => some (Lp.go (y57, r59, toR z.next))).bind _).bind _ = _ ∧ _
        rw [m_row_Norm_eq (k := 129) hn (by omega) (by omega) (FR_toR z3), sbind, rv_toR, appM_ok (by simp; omega) (by simp; omega), sbind, m_frac_Add_eq (k := k) hn (by omega) (by omega) (Fk_toF (by omega)) (Fk_toF (by omega)), sbind, sbind, fv_toF, fv_toF]
        have e1 : tr.map toTry ++ [(⟨toF T, toF (fv h), toF (fv h), toF (normQ z.err), toR Y, true⟩ : M_past_Try)] = (tr ++ [(⟨T, fv h, normQ z.err, Y⟩ : TryQ)]).map toTry := by rw [List.map_append]; rfl
        rw [e1]
        refine ih (i + 1) (T + fv h) z.next (tr ++ [⟨T, fv h, normQ z.err, Y⟩]) (fun x hx => hh x (.tail _ hx)) (by omega) (by simp; omega) ?_ (QR_mono z1 (by omega)) (by rw [z2]; exact hYl)
        have := qw_add hT hq
        rw [Nat.succ_mul]; omega
  have := key hs 0 (fv t) (rv y) [] hh (by omega) rfl (by omega) (QR_mono hyq (by omega)) (by rw [rv_len]; exact hl)
  exact ⟨this.1, fun _ => this.2⟩
/-! from the laws' side -/
theorem march_app {p : M_step_Problem} : ∀ {hs ks : List Rat} {i : Nat} {T : Rat} {Y : List Rat} {tr : List TryQ}, marchQ p (hs ++ ks) i T Y tr = match marchQ p hs i T Y tr with | .inl f => .inl f | .inr z => marchQ p ks (i + hs.length) z.2.1 z.2.2 z.1
  | [], ks, i, T, Y, tr => rfl
  | h :: hs, ks, i, T, Y, tr => by
    simp only [List.cons_append, marchQ]
    cases stepQ p T h Y with
    | inl f => rfl
    | inr z =>
      simp only []
      rw [march_app, List.length_cons, show i + (hs.length + 1) = i + 1 + hs.length by omega]
/-- The count of steps, and what was before, change nothing else. -/
theorem march_shift {p : M_step_Problem} {m : Nat} : ∀ {hs : List Rat} {i : Nat} {T : Rat} {Y : List Rat} {tr tr' : List TryQ}, marchQ p hs (i + m) T Y (tr' ++ tr) = match marchQ p hs i T Y tr with | .inl f => .inl ⟨f.Kind, f.Step + m, f.Stage, f.At⟩ | .inr z => .inr (tr' ++ z.1, z.2.1, z.2.2)
  | [], i, T, Y, tr, tr' => rfl
  | h :: hs, i, T, Y, tr, tr' => by
    simp only [marchQ]
    cases stepQ p T h Y with
    | inl f => simp only []; congr 2; omega
    | inr z =>
      simp only []
      rw [List.append_assoc, show i + m + 1 = i + 1 + m by omega, march_shift]
theorem march_step {p : M_step_Problem} : ∀ {hs : List Rat} {i : Nat} {T : Rat} {Y : List Rat} {tr : List TryQ} {f}, marchQ p hs i T Y tr = .inl f → 0 ≤ f.Step ∧ f.Step ≤ ((i + hs.length : Nat) : Int)
  | [], i, T, Y, tr, f, h => by cases h
  | x :: hs, i, T, Y, tr, f, h => by
    simp only [marchQ] at h
    cases hs' : stepQ p T x Y with
    | inl g => rw [hs'] at h; cases h; simp only [List.length_cons]; omega
    | inr z =>
      rw [hs'] at h
      have := march_step h
      rw [List.length_cons]; omega
theorem march_ok {p : M_step_Problem} {a j : Nat} : ∀ {hs : List Rat} {i : Nat} {T : Rat} {Y : List Rat} {tr : List TryQ} {z}, qw T ≤ a + i * (j + 1) → QR j hs → QR (max a 129) Y → (Y.length : Int) = p.Tape.Dim → marchQ p hs i T Y tr = .inr z →
    qw z.2.1 ≤ a + (i + hs.length) * (j + 1) ∧ QR (max a 129) z.2.2 ∧ (z.2.2.length : Int) = p.Tape.Dim ∧ z.1.length = tr.length + hs.length
  | [], i, T, Y, tr, z, hT, hj, hY, hl, h => by cases h; exact ⟨hT, hY, hl, rfl⟩
  | x :: hs, i, T, Y, tr, z, hT, hj, hY, hl, h => by
    simp only [marchQ] at h
    cases hs' : stepQ p T x Y with
    | inl g => rw [hs'] at h; cases h
    | inr w =>
      rw [hs'] at h
      obtain ⟨_, _, z1, z2, z3⟩ := stepQ_ok hs'
      have hx := qw_add hT (hj x (.head _))
      obtain ⟨g1, g2, g3, g4⟩ := march_ok (a := a) (j := j) (by rw [Nat.succ_mul]; omega) (fun q hq => hj q (.tail _ hq)) (QR_mono z1 (by omega)) (by rw [z2]; exact hl) h
      rw [List.length_cons]
      refine ⟨by rw [show i + (hs.length + 1) = i + 1 + hs.length by omega]; exact g1, g2, g3, by rw [g4]; simp; omega⟩
end Go.Proofs.YtcmhibdigkdjiaaGreatDoor
