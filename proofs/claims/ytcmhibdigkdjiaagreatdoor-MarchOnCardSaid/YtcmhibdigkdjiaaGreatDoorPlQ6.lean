import Derived.Test.YtcmhibdigkdjiaaGreatDoorPlQ5
namespace Go.Proofs.YtcmhibdigkdjiaaGreatDoor
open Go Go.RowKit
/-! ### Gauges, and tapes that are run -/
theorem eqbF_self (f : M_api_Fault) : eqb_api_Fault f f = true := by simp [eqb_api_Fault]
theorem eqbF_kind {k a b c : Int} (h : k ≠ 0) : eqb_api_Fault ⟨k, a, b, c⟩ ⟨0, 0, 0, 0⟩ = false := by
  unfold eqb_api_Fault
  rw [show (k == 0) = false by simpa using h]; rfl
theorem eqbF_true {f g : M_api_Fault} (h : eqb_api_Fault f g = true) : f = g := by
  cases f; cases g; simpa [eqb_api_Fault] using h
def noteG (g : M_gauge_Gauge) (q : Rat) : M_gauge_Gauge := ⟨⟨wrap64 (g.Count.Seen + 1), max g.Count.Peak (qz q : Int)⟩, g.limit⟩
theorem m_Take_eq {n : Nat} {g : M_gauge_Gauge} {q : Rat} (hn : big ≤ n) (hq : qw q < 1099511627776) : m___gauge_Gauge__Take n g (toF q) = some (decide ((qz q : Int) ≤ g.limit), noteG g q) := by
  unfold m___gauge_Gauge__Take m___gauge_Count__note
  rw [m_frac_Size_toF hn hq, sbind, sbind]; rfl
/-- The first fraction that is too long. -/
def fitQ (lim : Int) : List Rat → Nat → Option Nat
  | [], _ => none
  | q :: l, i => if (qz q : Int) ≤ lim then fitQ lim l (i + 1) else some i
theorem m_Row_eq {n : Nat} {g : M_gauge_Gauge} {l : List Rat} (hn : big ≤ n) (hl : QR 1099511627775 l) :
    ∃ g', g'.limit = g.limit ∧ m___gauge_Gauge__Row n g (toR l) = some (match fitQ g.limit l 0 with | none => ((l.length : Int), true, g') | some i => ((i : Int), false, g')) := by
  unfold m___gauge_Gauge__Row
  have key : ∀ (l : List Rat) (i : Nat) (g : M_gauge_Gauge) (K : M_gauge_Gauge → Option (Int × Bool × M_gauge_Gauge)), QR 1099511627775 l → ∃ g', g'.limit = g.limit ∧
      (rangeL (fun (i15 : Nat) (x16 : M_frac_Frac) (s14 : M_gauge_Gauge) =>
        (m___gauge_Gauge__Take n s14 x16).bind fun r18 =>
        bif !r18.1 then (some (Lp.out (((i15 : Int), false, r18.2)))) else (some (Lp.go r18.2))) (toR l) i g).bind (lpK K) = match fitQ g.limit l i with | none => K g' | some i => some ((i : Int), false, g') := by
    intro l
    induction l with
    | nil => intro i g K _; exact ⟨g, rfl, rfl⟩
    | cons q l ih =>
      intro i g K hl
      simp only [toR, List.map_cons, rangeL, fitQ]
      rw [m_Take_eq hn (by have := hl q (.head _); omega), sbind]
      simp only []
      by_cases h : (qz q : Int) ≤ g.limit
      · rw [decide_eq_true h, if_pos h, Bool.not_true, bifF, sbind]
        obtain ⟨g', h1, h2⟩ := ih (i + 1) (noteG g q) K fun x hx => hl x (.tail _ hx)
        exact ⟨g', h1, h2⟩
      · rw [decide_eq_false h, if_neg h, Bool.not_false, bifT, sbind]
        exact ⟨noteG g q, rfl, rfl⟩
  obtain ⟨g', h1, h2⟩ := key l 0 g (fun s20 => some (((toR l).length : Int), true, s20)) hl
  refine ⟨g', h1, ?_⟩
  rw [h2, toR_len]
  cases fitQ g.limit l 0 <;> rfl
/-- What an instruction makes; none: a pole. -/
def opQ (x : M_tape_Inst) (T : Rat) (Y P done : List Rat) : Option Rat :=
  if x.Op = 6 then some (-done.getD x.A.toNat 0) else
  if x.Op = 11 then (if x.B < -8 ∨ 8 < x.B ∨ (x.B < 0 ∧ done.getD x.A.toNat 0 = 0) then none else some (done.getD x.A.toNat 0 ^ x.B)) else
  if x.Op = 7 then some (done.getD x.A.toNat 0 + done.getD x.B.toNat 0) else
  if x.Op = 8 then some (done.getD x.A.toNat 0 - done.getD x.B.toNat 0) else
  if x.Op = 9 then some (done.getD x.A.toNat 0 * done.getD x.B.toNat 0) else
  if x.Op = 10 then (if done.getD x.B.toNat 0 = 0 then none else some (done.getD x.A.toNat 0 / done.getD x.B.toNat 0)) else
  if x.Op = 1 then some (fv x.N) else
  if x.Op = 3 then some (Y.getD x.A.toNat 0) else
  if x.Op = 4 then some (P.getD x.A.toNat 0) else some T
def runQ (lim : Int) (T : Rat) (Y P : List Rat) : List M_tape_Inst → Nat → List Rat → (Int × Nat) ⊕ List Rat
  | [], _, done => .inr done
  | x :: c, i, done => match opQ x T Y P done with
    | none => .inl (3, i)
    | some q => if (qz q : Int) ≤ lim then runQ lim T Y P c (i + 1) (done ++ [q]) else .inl (6, i)
theorem getI_toR {l : List Rat} {r : Int} (h1 : 0 ≤ r) (h2 : r < (l.length : Int)) : getI (toR l) r = some (toF (l.getD r.toNat 0)) := by
  obtain ⟨k, rfl⟩ : ∃ k : Nat, r = (k : Int) := ⟨r.toNat, by omega⟩
  have hk : k < l.length := by omega
  rw [getI_cast, Int.toNat_natCast]
  unfold toR
  rw [List.getElem?_map, List.getElem?_eq_getElem hk, List.getD_eq_getElem?_getD, List.getElem?_eq_getElem hk]; rfl
theorem getD_qw {k : Nat} {l : List Rat} {i : Nat} (h : QR k l) (h1 : 1 ≤ k) : qw (l.getD i 0) ≤ k := by
  rw [List.getD_eq_getElem?_getD]
  rcases Nat.lt_or_ge i l.length with hi | hi
  · rw [List.getElem?_eq_getElem hi]; exact h _ (List.getElem_mem hi)
  · rw [List.getElem?_eq_none hi]; show qw 0 ≤ k; rw [qw_zero]; exact h1
theorem rdT_A {x : M_tape_Inst} (h : x.Op = 6 ∨ x.Op = 11 ∨ x.Op = 7 ∨ x.Op = 8 ∨ x.Op = 9 ∨ x.Op = 10) : x.A ∈ rdT x := by
  unfold rdT
  by_cases a : x.Op = 6 ∨ x.Op = 11
  · rw [if_pos a]; simp
  · rw [if_neg a, if_pos (by omega)]; simp
theorem rdT_B {x : M_tape_Inst} (h : x.Op = 7 ∨ x.Op = 8 ∨ x.Op = 9 ∨ x.Op = 10) : x.B ∈ rdT x := by
  unfold rdT
  rw [if_neg (by omega), if_pos (by omega)]; simp
theorem mayR_rd {t : M_tape_Tape} {i : Nat} {x : M_tape_Inst} (h : mayR t i x) : ∀ r ∈ rdT x, 0 ≤ r ∧ r < (i : Int) := by
  unfold mayR at h
  by_cases h1 : x.Op = 1
  · intro r hr
    unfold rdT at hr
    rw [if_neg (by omega), if_neg (by omega)] at hr; cases hr
  · rw [if_neg h1] at h; exact h.2.1
theorem mayR_3 {t : M_tape_Tape} {i : Nat} {x : M_tape_Inst} (h : mayR t i x) (h3 : x.Op = 3) : 0 ≤ x.A ∧ x.A < t.Dim := by
  unfold mayR at h
  rw [if_neg (by omega), if_neg (by omega), if_pos h3] at h; exact h.2.2.1
theorem mayR_4 {t : M_tape_Tape} {i : Nat} {x : M_tape_Inst} (h : mayR t i x) (h3 : x.Op = 4) : 0 ≤ x.A ∧ x.A < t.Par := by
  unfold mayR at h
  rw [if_neg (by omega), if_neg (by omega), if_neg (by omega), if_pos h3] at h; exact h.2.2.1
/-- One instruction. -/
theorem m_step1_eq {n k : Nat} {g : M_gauge_Gauge} {t : M_tape_Tape} {x : M_tape_Inst} {T : Rat} {Y P done : List Rat} (hn : big ≤ n) (h1 : 1 ≤ k) (hk : k < 1048576) (hx : mayR t done.length x) (hN : Fk k x.N)
    (hT : qw T ≤ k) (hY : QR k Y) (hP : QR k P) (hD : QR k done) (hy : (Y.length : Int) = t.Dim) (hp : (P.length : Int) = t.Par) :
    ∃ v, m__run_Machine_frac_Frac__run_fracs___step n g x ⟨toF T, toR Y, toR P⟩ (toR done) = some (match opQ x T Y P done with | none => (v, false) | some q => (toF q, true)) ∧ ∀ q, opQ x T Y P done = some q → qw q ≤ 8 * k + 1 := by
  unfold m__run_Machine_frac_Frac__run_fracs___step opQ
  have rd := mayR_rd hx
  have dA : x.Op = 6 ∨ x.Op = 11 ∨ x.Op = 7 ∨ x.Op = 8 ∨ x.Op = 9 ∨ x.Op = 10 → getI (toR done) x.A = some (toF (done.getD x.A.toNat 0)) := fun h => getI_toR (rd _ (rdT_A h)).1 (rd _ (rdT_A h)).2
  have dB : x.Op = 7 ∨ x.Op = 8 ∨ x.Op = 9 ∨ x.Op = 10 → getI (toR done) x.B = some (toF (done.getD x.B.toNat 0)) := fun h => getI_toR (rd _ (rdT_B h)).1 (rd _ (rdT_B h)).2
  have qA : qw (done.getD x.A.toNat 0) ≤ k := getD_qw hD h1
  have qB : qw (done.getD x.B.toNat 0) ≤ k := getD_qw hD h1
  generalize done.getD x.A.toNat 0 = a at dA qA ⊢
  generalize done.getD x.B.toNat 0 = b at dB qB ⊢
  have fA : Fk k (toF a) := Fk_toF qA
  have fB : Fk k (toF b) := Fk_toF qB
  simp only [bifd]
  by_cases o6 : x.Op = 6
  · simp only [if_pos o6]
    unfold m__run_fracs__Neg
    rw [dA (by omega), sbind, m_frac_Neg_eq hn (Fk_Fw fA (by omega)), sbind, sbind, fv_toF]
    exact ⟨toF 0, rfl, fun q hq => by cases hq; rw [qw_neg]; omega⟩
  simp only [if_neg o6]
  by_cases o11 : x.Op = 11
  · simp only [if_pos o11]
    unfold m__run_fracs__Pow
    rw [dA (by omega), sbind, m_frac_Pow_eq hn h1 (by omega) fA, sbind, fv_toF]
    refine ⟨toF 0, ?_, fun q hq => ?_⟩
    · split <;> rfl
    · split at hq
      · cases hq
      · rename_i hc
        cases hq
        exact qw_zpow qA (by omega)
  simp only [if_neg o11]
  by_cases o7 : x.Op = 7
  · simp only [if_pos o7]
    unfold m__run_fracs__Add
    rw [dA (by omega), sbind, dB (by omega), sbind, m_frac_Add_eq hn h1 (by omega) fA fB, sbind, sbind, fv_toF, fv_toF]
    exact ⟨toF 0, rfl, fun q hq => by cases hq; have := qw_add qA qB; omega⟩
  simp only [if_neg o7]
  by_cases o8 : x.Op = 8
  · simp only [if_pos o8]
    unfold m__run_fracs__Sub
    rw [dA (by omega), sbind, dB (by omega), sbind, m_frac_Sub_eq hn h1 (by omega) fA fB, sbind, sbind, fv_toF, fv_toF]
    exact ⟨toF 0, rfl, fun q hq => by cases hq; have := qw_sub qA qB; omega⟩
  simp only [if_neg o8]
  by_cases o9 : x.Op = 9
  · simp only [if_pos o9]
    unfold m__run_fracs__Mul
    rw [dA (by omega), sbind, dB (by omega), sbind, m_frac_Mul_eq hn h1 (by omega) fA fB, sbind, sbind, fv_toF, fv_toF]
    exact ⟨toF 0, rfl, fun q hq => by cases hq; have := qw_mul qA qB; omega⟩
  simp only [if_neg o9]
  by_cases o10 : x.Op = 10
  · simp only [if_pos o10]
    unfold m__run_fracs__Quo
    rw [dA (by omega), sbind, dB (by omega), sbind, m_frac_Quo_eq hn h1 (by omega) fA fB, sbind, fv_toF, fv_toF]
    refine ⟨toF 0, ?_, fun q hq => ?_⟩
    · split <;> rfl
    · split at hq
      · cases hq
      · cases hq
        have := qw_div qA qB; omega
  simp only [if_neg o10]
  unfold m__run_Machine_frac_Frac__run_fracs___leaf
  simp only [bifd]
  by_cases o1 : x.Op = 1
  · simp only [if_pos o1]
    unfold m__run_fracs__Of
    rw [m_frac_Norm_eq hn (Fk_Fw hN (by omega)), sbind, sbind, sbind]
    exact ⟨toF 0, rfl, fun q hq => by cases hq; have := qw_fv hN h1; omega⟩
  simp only [if_neg o1]
  by_cases o3 : x.Op = 3
  · simp only [if_pos o3]
    obtain ⟨a1, a2⟩ := mayR_3 hx o3
    rw [getI_toR a1 (by omega), sbind, sbind]
    exact ⟨toF 0, rfl, fun q hq => by cases hq; have := getD_qw (i := x.A.toNat) hY h1; omega⟩
  simp only [if_neg o3]
  by_cases o4 : x.Op = 4
  · simp only [if_pos o4]
    obtain ⟨a1, a2⟩ := mayR_4 hx o4
    rw [getI_toR a1 (by omega), sbind, sbind]
    exact ⟨toF 0, rfl, fun q hq => by cases hq; have := getD_qw (i := x.A.toNat) hP h1; omega⟩
  simp only [if_neg o4]
  exact ⟨toF 0, rfl, fun q hq => by cases hq; omega⟩
theorem toR_snoc (l : List Rat) (q : Rat) : toR l ++ [toF q] = toR (l ++ [q]) := by unfold toR; simp
/-- A tape that may be is run. -/
theorem m_Run_eq {n k : Nat} {g : M_gauge_Gauge} {t : M_tape_Tape} {T : Rat} {Y P : List Rat} (hn : big ≤ n) (h1 : 129 ≤ k) (hk : k < 1048576) (ht : tapeR t) (hR : m_tape_Right n t = some true) (hN : ∀ c ∈ t.Code, Fk k c.N)
    (hT : qw T ≤ k) (hY : QR k Y) (hP : QR k P) (hy : (Y.length : Int) = t.Dim) (hp : (P.length : Int) = t.Par) (hg : g.limit ≤ 4096) :
    ∃ g', m__run_Machine_frac_Frac__run_fracs___Run n g t ⟨toF T, toR Y, toR P⟩ = some (match runQ g.limit T Y P t.Code 0 [] with | .inl e => ([], ⟨e.1, 0, 0, (e.2 : Int)⟩, g') | .inr l => (toR l, ⟨0, 0, 0, 0⟩, g')) := by
  unfold m__run_Machine_frac_Frac__run_fracs___Run
  simp only [jn_eq, hR, sbind, Bool.not_true, bifF]
  rw [toR_len, toR_len, decide_eq_true hy, decide_eq_true hp, Bool.not_true, bifF, bifF]
  have key : ∀ (c : List M_tape_Inst) (done : List Rat) (g : M_gauge_Gauge) (K : M_gauge_Gauge × List M_frac_Frac → Option (List M_frac_Frac × M_api_Fault × M_gauge_Gauge)), (∀ (j : Nat) x, c[j]? = some x → mayR t (done.length + j) x) → (∀ x ∈ c, Fk k x.N) → QR k done → g.limit ≤ 4096 → done.length + c.length ≤ 300 →
      ∃ g', (rangeL (fun (i30 : Nat) (x31 : M_tape_Inst) (s29 : M_gauge_Gauge × (List M_frac_Frac)) =>
        (m__run_Machine_frac_Frac__run_fracs___step n s29.1 x31 ⟨toF T, toR Y, toR P⟩ s29.2).bind fun r33 =>
        bif !r33.2 then (
          some (Lp.out ((([] : List M_frac_Frac), (⟨(3 : Int), 0, 0, (i30 : Int)⟩ : M_api_Fault), s29.1))))
        else (
          (m__run_fracs__Fits n s29.1 r33.1).bind fun r35 =>
          bif !r35.1 then (
            some (Lp.out ((([] : List M_frac_Frac), (⟨(6 : Int), 0, 0, (i30 : Int)⟩ : M_api_Fault), r35.2))))
          else (
            (appM 56 s29.2 ([r33.1] : List M_frac_Frac)).bind fun y37 =>
            some (Lp.go (r35.2, y37))))) c done.length (g, toR done)).bind (lpK K) = match runQ g.limit T Y P c done.length done with | .inl e => some ([], ⟨e.1, 0, 0, (e.2 : Int)⟩, g') | .inr l => K (g', toR l) := by
    intro c
    induction c with
    | nil => intro done g K _ _ _ _ _; exact ⟨g, rfl⟩
    | cons x c ih =>
      intro done g K hm hN hD hg hl
      simp only [rangeL, runQ]
      obtain ⟨v, e1, e2⟩ := m_step1_eq (g := g) hn (by omega) hk (by have := hm 0 x rfl; rwa [Nat.add_zero] at this) (hN x (.head _)) hT hY hP hD hy hp
      rw [e1, sbind]
      cases hq : opQ x T Y P done with
      | none => exact ⟨g, rfl⟩
      | some q =>
        have hqk := e2 q hq
        simp only [Bool.not_true, bifF]
        unfold m__run_fracs__Fits
        rw [m_Take_eq hn (by omega), sbind, sbind]
        simp only []
        by_cases hf : (qz q : Int) ≤ g.limit
        · rw [decide_eq_true hf, if_pos hf, Bool.not_true, bifF, appM_ok (by rw [toR_len]; simp at hl ⊢; omega) (by rw [toR_len]; simp at hl ⊢; omega), sbind, sbind]
          simp only []
          have hq2 : qw q ≤ k := by
            have := qw_qz (q := q) (b := 4096) (by omega); omega
          have hlen : (done ++ [q]).length = done.length + 1 := by simp
          obtain ⟨g', h⟩ := ih (done ++ [q]) (noteG g q) K (fun j y hy => by
            rw [hlen, show done.length + 1 + j = done.length + (j + 1) by omega]; exact hm (j + 1) y (by simpa using hy)) (fun y hy => hN y (.tail _ hy)) (fun z hz => by
            rcases List.mem_append.1 hz with hz | hz
            · exact hD z hz
            · rw [List.mem_singleton.1 hz]; exact hq2) hg (by rw [hlen]; simp at hl; omega)
          refine ⟨g', ?_⟩
          rw [hlen] at h
          rw [toR_snoc]
          exact h
        · rw [decide_eq_false hf, if_neg hf, Bool.not_false, bifT, sbind]
          exact ⟨noteG g q, rfl⟩
  obtain ⟨⟨d1, d2, d3, d4⟩, m1, m2⟩ := ht
  obtain ⟨g', h⟩ := key t.Code [] g (fun s39 => some (s39.2, (⟨0, 0, 0, 0⟩ : M_api_Fault), s39.1)) (fun j x hx => by rw [show ([] : List Rat).length + j = j by simp]; exact m1 j x hx) hN (fun _ h => by cases h) hg (by simpa using d4)
  refine ⟨g', ?_⟩
  rw [show (([] : List Rat).length) = 0 from rfl, show toR [] = [] from rfl] at h
  rw [h]
  cases runQ g.limit T Y P t.Code 0 [] <;> rfl
end Go.Proofs.YtcmhibdigkdjiaaGreatDoor
