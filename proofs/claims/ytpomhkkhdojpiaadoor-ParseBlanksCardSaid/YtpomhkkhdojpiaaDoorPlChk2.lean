import Derived.Test.YtpomhkkhdojpiaaDoorPlChk
namespace Go.Proofs.YtpomhkkhdojpiaaDoor
open Go Go.RowKit
theorem runG_congr' {α β τ : Type} {g g' : Nat → α → β → β ⊕ τ} {e e' : β → τ} : ∀ {xs : List α} {i : Nat} {b : β}, (∀ j x b, xs[j]? = some x → g (i + j) x b = g' (i + j) x b) → (∀ b, e b = e' b) → runG g e xs i b = runG g' e' xs i b
  | [], _, b, _, he => he b
  | x :: xs, i, b, h, he => by
    have h0 := h 0 x b rfl
    rw [Nat.add_zero] at h0
    simp only [runG, h0]
    cases g' i x b with
    | inl b' => exact runG_congr' (fun j y c hy => by have := h (j + 1) y c (by simpa using hy); rwa [show i + (j + 1) = i + 1 + j by omega] at this) he
    | inr t => rfl
theorem runG_append {α β τ : Type} (g : Nat → α → β → β ⊕ τ) (e : β → τ) : ∀ (xs ys : List α) (i : Nat) (b : β), runG g e (xs ++ ys) i b = runG g (fun b => runG g e ys (i + xs.length) b) xs i b
  | [], ys, i, b => rfl
  | x :: xs, ys, i, b => by
    simp only [List.cons_append, runG]
    cases g i x b with
    | inl b' => simp only [runG_append g e xs ys (i + 1) b', List.length_cons]; rw [show i + 1 + xs.length = i + (xs.length + 1) by omega]
    | inr t => rfl
theorem runG_shift {α β τ : Type} (g : Nat → α → β → β ⊕ τ) (e : β → τ) : ∀ (xs : List α) (i k : Nat) (b : β), runG g e xs (k + i) b = runG (fun i x b => g (k + i) x b) e xs i b
  | [], _, _, _ => rfl
  | x :: xs, i, k, b => by
    simp only [runG]
    cases g (k + i) x b with
    | inl b' => simp only []; rw [show k + i + 1 = k + (i + 1) by omega]; exact runG_shift g e xs (i + 1) k b'
    | inr t => rfl
theorem runG_unit {α τ : Type} {g : Nat → α → Unit → Unit ⊕ τ} {e : Unit → τ} {v : τ} : ∀ {xs : List α} {k : Nat}, (∀ j x t, xs[j]? = some x → g (k + j) x () = .inr t → t ≠ v) →
    (runG g e xs k () = v ↔ (∀ j x, xs[j]? = some x → g (k + j) x () = .inl ()) ∧ e () = v)
  | [], k, _ => by simp [runG]
  | x :: xs, k, h => by
    simp only [runG]
    have h0 := h 0 x
    rw [Nat.add_zero] at h0
    cases hg : g k x () with
    | inl b =>
      simp only []
      rw [runG_unit (xs := xs) (k := k + 1) (fun j y t hy ht => h (j + 1) y t (by simpa using hy) (by rw [show k + (j + 1) = k + 1 + j by omega]; exact ht))]
      constructor
      · rintro ⟨h1, h2⟩
        refine ⟨fun j y hy => ?_, h2⟩
        cases j with
        | zero => simp at hy; subst hy; rw [Nat.add_zero, hg]
        | succ j => have := h1 j y (by simpa using hy); rwa [show k + (j + 1) = k + 1 + j by omega]
      · rintro ⟨h1, h2⟩
        refine ⟨fun j y hy => ?_, h2⟩
        have := h1 (j + 1) y (by simpa using hy)
        rwa [show k + (j + 1) = k + 1 + j by omega] at this
    | inr t =>
      simp only []
      constructor
      · intro ht; exact absurd ht (h0 t rfl hg)
      · rintro ⟨h1, _⟩
        have := h1 0 x rfl
        rw [Nat.add_zero, hg] at this; cases this
/-! ### The reference's answer -/
def refR (F : M_api_Fault) : Bool × M_A3_i64 := if F = f0 then (false, ⟨0, 0, 0⟩) else (true, ⟨F.Step, F.Stage, F.At⟩)
theorem refR_bad (F : M_api_Fault) (h : F.Kind = 2) : refR F = (true, ⟨F.Step, F.Stage, F.At⟩) := by
  unfold refR; rw [if_neg]; rintro rfl; simp [f0] at h
theorem refR_zero : refR f0 = (false, ⟨0, 0, 0⟩) := by unfold refR; rw [if_pos rfl]
theorem partT_kind {c num d p l} (h : partT c num d p l ≠ f0) : (partT c num d p l).Kind = 2 := by
  unfold partT at *
  split
  · rfl
  · rename_i h1
    rw [if_neg h1] at h
    split
    · rfl
    · rename_i h2; rw [if_neg h2] at h; exact absurd rfl h
def refG (L : List M_tree_Let) (d p : Int) (i : Nat) (c : List M_tree_Node) (_ : Unit) : Unit ⊕ (Bool × M_A3_i64) :=
  if i < L.length ∧ (((L[i]?.map (fun l => nameOk l.Name)).getD true) = false ∨ twiceT L i = true) then .inr (true, ⟨(i : Int) + 1, 1, 0⟩)
  else if partT c ((i : Int) + 1) d p (min i L.length : Nat) = f0 then .inl () else .inr (refR (partT c ((i : Int) + 1) d p (min i L.length : Nat)))
theorem cL_name (l) : (cL l).Name = l.Name := Eq.symm (Eq.symm rfl)
theorem any_all_not {α : Type} (q : α → Bool) : ∀ (l : List α) (r : Bool), l.foldl (fun b x => b && !q x) r = (r && !l.any q)
  | [], r => by simp
  | x :: l, r => by rw [List.foldl_cons, any_all_not q l]; simp [Bool.and_assoc]
theorem m_ref19_Check_eq {n : Nat} {f : M_retrospectref17_Field} {d p : Int} (hn : big ≤ n) (h : FB (cF f)) : m_retrospectref19_Check n f d p = some (refR (checkT (cF f) d p)) := by
  unfold m_retrospectref19_Check
  have hn' := hn
  have h1 : f.Lets.length ≤ 1000 := by have := h.1; simpa [cF] using this
  have h2 : f.Outs.length ≤ 1000 := by have := h.2.1; simpa [cF] using this
  have hLl : (cF f).Lets.length = f.Lets.length := by simp [cF]
  have hOl : (cF f).Outs.length = f.Outs.length := by simp [cF]
  unfold big at hn
  simp only [jn_eq, m_ref17_Size_eq hn' h, m_ref17_Codes_eq hn' h1 h2, sbind, bifd, bifnd]
  unfold checkT
  by_cases hw : wholeT (cF f) d p = true
  · rw [hw]
    have hw' := hw
    simp only [wholeT, decide_eq_true_eq, hLl, hOl] at hw'
    obtain ⟨w1', w2', w3', w4', w5', w6', w7'⟩ := hw'
    rw [if_neg (by omega), if_neg (by omega), if_neg (by omega), if_neg (by omega), if_pos w5', if_neg (by omega), if_neg (by omega)]
    simp only [Bool.true_eq_false, if_false]
    have hgoal : runG (refG (cF f).Lets d p) (fun _ => (false, (⟨0, 0, 0⟩ : M_A3_i64))) ((f.Lets.map (·.Code) ++ f.Outs).map (·.map cN)) 0 () = refR (runG (letG (cF f).Lets d p) (fun _ => outsT (cF f) d p) (cF f).Lets 0 ()) := by
      rw [runG_map refR]
      have e1 : (f.Lets.map (·.Code) ++ f.Outs).map (·.map cN) = (cF f).Lets.map (·.Code) ++ (cF f).Outs := by rw [← codes_cF]; rfl
      rw [e1, runG_append, runG_mapL]
      refine runG_congr' (fun j l b hl => ?_) (fun b => ?_)
      · have hj := lt_of_get hl
        simp only [Nat.zero_add]
        unfold refG letG
        rw [hl]
        simp only [Option.map_some, Option.getD_some]
        rw [show min j (cF f).Lets.length = j by omega]
        by_cases hb : nameOk l.Name = false ∨ twiceT (cF f).Lets j = true
        · rw [if_pos ⟨hj, hb⟩, if_pos hb]; show _ = Sum.inr (refR _); rw [refR_bad _ (by rfl)]
        · rw [if_neg (fun h => hb h.2), if_neg hb]
          by_cases hp : partT l.Code ((j : Int) + 1) d p j = f0
          · rw [if_pos hp, if_pos hp]; rfl
          · rw [if_neg hp, if_neg hp]; rfl
      · unfold outsT
        rw [runG_map refR, refR_zero, List.length_map, Nat.zero_add]
        have := runG_shift (refG (cF f).Lets d p) (fun _ => (false, (⟨0, 0, 0⟩ : M_A3_i64))) (cF f).Outs 0 (cF f).Lets.length b
        rw [Nat.add_zero] at this
        rw [this]
        refine runG_congr (fun j c b hc => ?_) (fun _ => rfl)
        unfold refG outG
        rw [if_neg (fun h => by omega), show min ((cF f).Lets.length + j) (cF f).Lets.length = (cF f).Lets.length by omega]
        rw [show (((cF f).Lets.length + j : Nat) : Int) + 1 = ((cF f).Lets.length : Int) + j + 1 by omega]
        by_cases hp : partT c (((cF f).Lets.length : Int) + j + 1) d p (cF f).Lets.length = f0
        · rw [if_pos hp, if_pos hp]; rfl
        · rw [if_neg hp, if_neg hp]; rfl
    rw [← hgoal, runG_mapL]
    generalize hl : f.Lets.map (·.Code) ++ f.Outs = l
    have hll : l.length ≤ 2000 := by rw [← hl]; simp; omega
    have hlc : ∀ c ∈ l, c.length ≤ 1000000000 ∧ ∀ x ∈ c.map cN, NB x := fun c hc => by
      have := h.2.2 (c.map cN) (by rw [codes_cF, hl]; exact List.mem_map_of_mem hc)
      simp only [List.length_map] at this
      exact ⟨by omega, this.2⟩
    refine loop_lpK (fun _ i => (i : Int)) (fun i c b => refG (cF f).Lets d p i (c.map cN) b) (fun _ => ()) (fun _ => (false, (⟨0, 0, 0⟩ : M_A3_i64))) (fun _ _ => True) l () (fun i c b hx _ => ⟨?_, fun _ _ => trivial⟩) ?_ ?_ trivial ?_
    have hi := lt_of_get hx
    obtain ⟨g1, g2⟩ := hlc c (mem_of_get hx)
    have hmin : min (i : Int) (f.Lets.length : Int) = ((min i (cF f).Lets.length : Nat) : Int) := by rw [hLl]; omega
    simp only [if_pos (show (i : Int) < (l.length : Int) by omega), getI_of hx, sbind, hmin, m_ref19_Place_eq (d := d) (p := p) (l := ((min i (cF f).Lets.length : Nat) : Int)) hn' g1 g2, m_ref17_Depth_eq hn' g1, w1 (show i < 9223372036854775807 by omega)]
    have htail : (if 0 ≤ placeT (c.map cN) d p ((min i (cF f).Lets.length : Nat) : Int) then some (Lp.out (Lp.out (true, (⟨((i + 1 : Nat) : Int), 0, placeT (c.map cN) d p ((min i (cF f).Lets.length : Nat) : Int)⟩ : M_A3_i64))))
        else if 40 < depthT (c.map cN) then some (Lp.out (Lp.out (true, (⟨((i + 1 : Nat) : Int), 0, (c.length : Int)⟩ : M_A3_i64)))) else some (Lp.go ((i + 1 : Nat) : Int))) =
        some (toLpp (τ0 := Unit) (fun (_ : Unit) i => ((i : Nat) : Int)) i (if partT (c.map cN) ((i : Int) + 1) d p (min i (cF f).Lets.length : Nat) = f0 then .inl () else .inr (refR (partT (c.map cN) ((i : Int) + 1) d p (min i (cF f).Lets.length : Nat))))) := by
      by_cases hp : partT (c.map cN) ((i : Int) + 1) d p (min i (cF f).Lets.length : Nat) = f0
      · rw [if_pos hp]
        obtain ⟨q1, q2⟩ := (partT_zero _ _ _ _ _).1 hp
        rw [if_neg (by omega), if_neg (by omega)]; rfl
      · rw [if_neg hp, refR_bad _ (partT_kind hp)]
        by_cases q1 : 0 ≤ placeT (c.map cN) d p ((min i (cF f).Lets.length : Nat) : Int)
        · rw [if_pos q1]; unfold partT; rw [if_pos q1]; rfl
        · rw [if_neg q1]
          by_cases q2 : 40 < depthT (c.map cN)
          · rw [if_pos q2]; unfold partT; rw [if_neg q1, if_pos q2]; simp [toLpp]
          · exact absurd ((partT_zero _ _ _ _ _).2 ⟨by omega, by omega⟩) hp
    by_cases hlet : i < f.Lets.length
    · have hfl : f.Lets[i]? = some f.Lets[i] := List.getElem?_eq_getElem hlet
      have hcl : (cF f).Lets[i]? = some (cL f.Lets[i]) := by simp [cF, hlet]
      rw [if_pos (by omega)]
      simp only [getI_of hfl, sbind, m_ref19_Name_eq hn']
      have hloop : loopM (fun s248 : Bool × Int => if s248.2 < (i : Int) then
              bif s248.1 then (getI f.Lets s248.2).bind fun y258 => some (Lp.go (!decide (y258.Name = (f.Lets[i]).Name), wrap64 (s248.2 + 1)))
              else some (Lp.go (false, wrap64 (s248.2 + 1)))
            else some (Lp.out s248.1)) n (nameOk (f.Lets[i]).Name, 0) = some (nameOk (f.Lets[i]).Name && !twiceT (cF f).Lets i) := by
        have := loop_runG (f := fun s248 : Bool × Int => if s248.2 < (i : Int) then
              bif s248.1 then (getI f.Lets s248.2).bind fun y258 => some (Lp.go (!decide (y258.Name = (f.Lets[i]).Name), wrap64 (s248.2 + 1)))
              else some (Lp.go (false, wrap64 (s248.2 + 1)))
            else some (Lp.out s248.1)) (n := n) (fun (b : Bool) j => (b, (j : Int))) (fun _ (l : M_retrospectref17_Let) b => .inl (b && !decide (l.Name = (f.Lets[i]).Name))) (fun b => b) (fun _ _ => True) (f.Lets.take i) (b := nameOk (f.Lets[i]).Name)
          (fun j l b hl _ => ⟨by
            have hj := lt_of_get hl
            have hj' : j < i := by simp at hj; omega
            have hl' : f.Lets[j]? = some l := by rw [List.getElem?_take] at hl; rw [if_pos hj'] at hl; exact hl
            simp only [if_pos (show (j : Int) < (i : Int) by omega), getI_of hl', sbind, w1 (show j < 9223372036854775807 by omega)]
            cases b <;> rfl, fun _ _ => trivial⟩) (fun b _ => by rw [if_neg (by simp; omega)]) trivial (by simp; omega)
        rw [runG_fold (fun (l : M_retrospectref17_Let) b => b && !decide (l.Name = (f.Lets[i]).Name)), any_all_not (fun l : M_retrospectref17_Let => decide (l.Name = (f.Lets[i]).Name))] at this
        refine this.trans ?_
        congr 3
        unfold twiceT
        rw [hcl]
        simp only [cF, ← List.map_take, List.any_map, Option.map_some, Option.some.injEq]
        rfl
      rw [hloop, sbind]
      unfold refG
      rw [hcl]
      simp only [Option.map_some, Option.getD_some, cL_name]
      by_cases hb : nameOk (f.Lets[i]).Name = false ∨ twiceT (cF f).Lets i = true
      · rw [if_pos (show i < (cF f).Lets.length ∧ (nameOk (f.Lets[i]).Name = false ∨ twiceT (cF f).Lets i = true) from ⟨by omega, hb⟩)]
        have : (nameOk (f.Lets[i]).Name && !twiceT (cF f).Lets i) = false := by rcases hb with h | h <;> simp [h]
        rw [this]; simp only [Bool.not_false, bifT, toLpp]; rfl
      · rw [if_neg (show ¬ (i < (cF f).Lets.length ∧ (nameOk (f.Lets[i]).Name = false ∨ twiceT (cF f).Lets i = true)) from fun h => hb h.2)]
        have : (nameOk (f.Lets[i]).Name && !twiceT (cF f).Lets i) = true := by
          simp only [not_or] at hb
          rw [Bool.and_eq_true]; refine ⟨by simpa using hb.1, by simpa using hb.2⟩
        rw [this]
        simp only [Bool.not_true, bifF]
        exact htail
    · rw [if_neg (by omega)]
      unfold refG
      rw [if_neg (show ¬ (i < (cF f).Lets.length ∧ _) from fun h => by have := h.1; omega)]
      exact htail
    · intro b _; rw [if_neg (by omega)]
    · intro b _; rfl
    · omega
  · have hw' : wholeT (cF f) d p = false := by simpa using hw
    rw [hw', if_pos rfl, refR_bad _ rfl]
    simp only [wholeT, decide_eq_true_eq, hLl, hOl] at hw
    by_cases c1 : d < 1
    · rw [if_pos c1]; rfl
    · rw [if_neg c1]
      by_cases c2 : 6 < d
      · rw [if_pos c2]; rfl
      · rw [if_neg c2]
        by_cases c3 : p < 0
        · rw [if_pos c3]; rfl
        · rw [if_neg c3]
          by_cases c4 : 6 < p
          · rw [if_pos c4]; rfl
          · rw [if_neg c4]
            by_cases c5 : (f.Outs.length : Int) = d
            · rw [if_pos c5]
              by_cases c6 : (10 : Int) < (f.Lets.length : Int)
              · rw [if_pos c6]; rfl
              · rw [if_neg c6, if_pos (by omega)]
            · rw [if_neg c5]; rfl
end Go.Proofs.YtpomhkkhdojpiaaDoor
