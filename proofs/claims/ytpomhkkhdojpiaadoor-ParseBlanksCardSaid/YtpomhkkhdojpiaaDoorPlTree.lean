import Derived.Test.YtpomhkkhdojpiaaDoorPl1
import Derived.Test.YtpomhkkhdojpiaaDoorPlDig
namespace Go.Proofs.YtpomhkkhdojpiaaDoor
open Go Go.RowKit
/-! ### Trees -/
def cN (x : M_retrospectref17_Node) : M_tree_Node := ⟨x.Op, x.I, x.N⟩
def cL (x : M_retrospectref17_Let) : M_tree_Let := ⟨x.Name, x.Code.map cN⟩
def cF (x : M_retrospectref17_Field) : M_tree_Field := ⟨x.Lets.map cL, x.Outs.map (·.map cN)⟩
theorem cN_Op (x) : (cN x).Op = x.Op := Eq.symm (Eq.symm rfl)
theorem cN_I (x) : (cN x).I = x.I := Eq.symm (Eq.symm rfl)
theorem cN_N (x) : (cN x).N = x.N := Eq.symm (Eq.symm rfl)
theorem w01 : wrap64 (0 + 1) = 1 := by unfold wrap64; omega
theorem w1m : wrap64 (1 - 1) = 0 := by unfold wrap64; omega
theorem w2m : wrap64 (2 - 1) = 1 := by unfold wrap64; omega
theorem w11 : wrap64 (1 + 1) = 2 := by unfold wrap64; omega
def ar (op : Int) : Int := if 1 ≤ op ∧ op ≤ 5 then 0 else if op = 6 ∨ op = 11 then 1 else if 7 ≤ op ∧ op ≤ 10 then 2 else -1
theorem ar_cases (op : Int) : ar op = 0 ∨ ar op = 1 ∨ ar op = 2 ∨ ar op = -1 := by unfold ar; grind
theorem m_tree_Arity_eq (op : Int) : m_tree_Arity op = some (ar op) := by
  unfold m_tree_Arity ar
  by_cases hr : 1 ≤ op ∧ op ≤ 11
  · have : op = 1 ∨ op = 2 ∨ op = 3 ∨ op = 4 ∨ op = 5 ∨ op = 6 ∨ op = 7 ∨ op = 8 ∨ op = 9 ∨ op = 10 ∨ op = 11 := by omega
    rcases this with rfl | rfl | rfl | rfl | rfl | rfl | rfl | rfl | rfl | rfl | rfl <;> rfl
  · have h1 : op ≠ 1 := by omega
    have h2 : op ≠ 2 := by omega
    have h3 : op ≠ 3 := by omega
    have h4 : op ≠ 4 := by omega
    have h5 : op ≠ 5 := by omega
    have h6 : op ≠ 6 := by omega
    have h7 : op ≠ 7 := by omega
    have h8 : op ≠ 8 := by omega
    have h9 : op ≠ 9 := by omega
    have h10 : op ≠ 10 := by omega
    have h11 : op ≠ 11 := by omega
    have h12 : ¬ (1 ≤ op ∧ op ≤ 5) := by omega
    have h13 : ¬ (7 ≤ op ∧ op ≤ 10) := by omega
    simp [h1, h2, h3, h4, h5, h6, h7, h8, h9, h10, h11, h12, h13, jn_eq]
theorem m_ref17_Arity_eq (op : Int) : m_retrospectref17_Arity op = some (ar op) := by
  unfold m_retrospectref17_Arity ar
  simp only [jn_eq, bifd]
  grind
def wrG (i : Nat) (x : M_tree_Node) (o : Int) : Int ⊕ Int := if ar x.Op < 0 ∨ o < ar x.Op then .inr (i : Int) else .inl (o + 1 - ar x.Op)
def wrongT (c : List M_tree_Node) : Int := runG wrG (fun o => if o = 1 then -1 else (c.length : Int)) c 0 0
theorem m_tree_Wrong_eq {c : List M_tree_Node} (hc : c.length ≤ 4611686018427387904) : m_tree_Wrong c = some (wrongT c) := by
  unfold m_tree_Wrong wrongT
  refine range_runG wrG _ (fun i o => 0 ≤ o ∧ o ≤ i) c (fun i x o hx hI => ?_) (by simp) (fun o _ => ?_)
  · have hi := lt_of_get hx
    have ha := ar_cases x.Op
    obtain ⟨hI0, hI1⟩ := hI
    simp only [m_tree_Arity_eq, sbind, jn_eq, bifd, wrG]
    by_cases h : ar x.Op < 0 ∨ o < ar x.Op
    · rw [if_pos h]
      refine ⟨?_, fun b' hb => by cases hb⟩
      by_cases h1 : ar x.Op < 0
      · simp [h1, toLq]
      · simp [h1, (show o < ar x.Op by omega), toLq]
    · rw [if_neg h]
      refine ⟨?_, fun b' hb => by cases hb; omega⟩
      rw [if_neg (by omega)]
      simp (disch := omega) only [w64, if_neg (show ¬ o < ar x.Op by omega), toLq]
      rw [show o + (1 - ar x.Op) = o + 1 - ar x.Op by omega]
  · rw [bifnd]; split <;> rfl
theorem m_ref17_Wrong_eq {n : Nat} {c : List M_retrospectref17_Node} (hn : big ≤ n) (hc : c.length ≤ 4611686018427387904) : m_retrospectref17_Wrong n c = some (wrongT (c.map cN)) := by
  unfold m_retrospectref17_Wrong wrongT
  unfold big at hn
  rw [runG_mapL, List.length_map]
  refine loop_lpK (fun o i => (o, (i : Int))) (fun i x o => wrG i (cN x) o) (fun o => o) _ (fun i o => 0 ≤ o ∧ o ≤ i) c 0 (fun i x o hx hI => ?_) (fun o _ => by simp [bifd]) (fun o _ => by simp only [bifd]; split <;> rfl) (by simp) (by omega)
  have hi := lt_of_get hx
  have ha := ar_cases x.Op
  obtain ⟨hI0, hI1⟩ := hI
  simp only [bifd, getI_of hx, sbind, m_ref17_Arity_eq, jn_eq, wrG, cN_Op]
  simp only [if_pos (show (i : Int) < (c.length : Int) by omega)]
  by_cases h : ar x.Op < 0 ∨ o < ar x.Op
  · simp only [if_pos h]
    refine ⟨?_, fun b' hb => by cases hb⟩
    by_cases h1 : ar x.Op < 0
    · simp [h1, toLpp]
    · simp [h1, (show o < ar x.Op by omega), toLpp]
  · simp only [if_neg h]
    refine ⟨?_, fun b' hb => by cases hb; omega⟩
    simp (disch := omega) only [w64, if_neg (show ¬ ar x.Op < 0 by omega), if_neg (show ¬ o < ar x.Op by omega), toLpp]
    rw [show o - ar x.Op + 1 = o + 1 - ar x.Op by omega]; rfl
theorem m_tree_Right_eq {c : List M_tree_Node} (hc : c.length ≤ 4611686018427387904) : m_tree_Right c = some (decide (wrongT c < 0)) := by
  unfold m_tree_Right; rw [m_tree_Wrong_eq hc, sbind]
/-! #### Depth -/
def stk1 (i : Nat) (x : M_tree_Node) (s : List (Int × Nat)) : List (Int × Nat) :=
  if ar x.Op = 1 then match s with
    | (d, f) :: r => (max 0 d + 1, f) :: r
    | [] => []
  else if ar x.Op = 2 then match s with
    | (d, _) :: (e, f) :: r => (max (max 0 d) e + 1, f) :: r
    | _ => []
  else (1, i) :: s
def stk (c : List M_tree_Node) : Nat → List (Int × Nat)
  | 0 => []
  | i + 1 => match c[i]? with
    | some x => stk1 i x (stk c i)
    | none => stk c i
def depthT (c : List M_tree_Node) : Int := if wrongT c < 0 then ((stk c c.length).head?.map (·.1)).getD 0 else 0
/-- Up to a place nothing is wrong: then the stack is as high as operands are open. -/
def okTo (c : List M_tree_Node) (i : Nat) : Prop := ∀ j, j < i → ∀ x, c[j]? = some x → 0 ≤ ar x.Op ∧ ar x.Op ≤ ((stk c j).length : Int)
theorem stk_succ {c : List M_tree_Node} {i : Nat} {x : M_tree_Node} (h : c[i]? = some x) : stk c (i + 1) = stk1 i x (stk c i) := by simp only [stk, h]
theorem stk1_length {i : Nat} {x : M_tree_Node} {s : List (Int × Nat)} (h0 : 0 ≤ ar x.Op) (h : ar x.Op ≤ (s.length : Int)) : ((stk1 i x s).length : Int) = s.length + 1 - ar x.Op := by
  unfold stk1
  rcases ar_cases x.Op with h1 | h1 | h1 | h1
  · simp [h1]
  · rw [if_pos h1]
    cases s with
    | nil => simp at h; omega
    | cons p r => simp [h1]
  · rw [if_neg (by omega), if_pos h1]
    match s, h with
    | [], h => simp at h; omega
    | [_], h => simp at h; omega
    | p :: q :: r, _ => simp [h1]; omega
  · omega
theorem wrong_ok (c : List M_tree_Node) (h : wrongT c < 0) : okTo c c.length ∧ (stk c c.length).length = 1 := by
  have key : ∀ (ys : List M_tree_Node) (i : Nat) (o : Int), c = c.take i ++ ys → i ≤ c.length → okTo c i → ((stk c i).length : Int) = o → runG wrG (fun o => if o = 1 then -1 else (c.length : Int)) ys i o < 0 →
      okTo c c.length ∧ (stk c c.length).length = 1 := by
    intro ys
    induction ys with
    | nil =>
      intro i o hc hi ho hs h
      have : i = c.length := by have := congrArg List.length hc; simp at this; omega
      subst this
      simp only [runG] at h
      split at h
      · exact ⟨ho, by omega⟩
      · omega
    | cons y ys ih =>
      intro i o hc hi ho hs h
      have hy : c[i]? = some y := by rw [hc, List.getElem?_append_right (by simp; omega)]; simp [Nat.min_eq_left hi]
      have hil := lt_of_get hy
      simp only [runG, wrG] at h
      by_cases hw : ar y.Op < 0 ∨ o < ar y.Op
      · rw [if_pos hw] at h; simp only [] at h; omega
      · rw [if_neg hw] at h
        simp only [] at h
        refine ih (i + 1) _ ?_ (by omega) ?_ ?_ h
        · rw [take_succ_get hil, List.append_assoc]
          have : c[i] = y := by have := List.getElem?_eq_getElem hil; rw [hy] at this; exact (Option.some.inj this).symm
          rw [this]; exact hc
        · intro j hj x hx
          by_cases hji : j < i
          · exact ho j hji x hx
          · obtain rfl : j = i := by omega
            rw [hy] at hx; cases hx
            omega
        · rw [stk_succ hy, stk1_length (by omega) (by omega)]; omega
  exact key c 0 0 (by simp) (Nat.zero_le _) (fun j hj => by omega) rfl h
theorem stk_key {c : List M_tree_Node} : ∀ (i : Nat), i ≤ c.length → okTo c i → ∀ d f r, stk c i = (d, f) :: r → f < i ∧ stk c f = r ∧ 1 ≤ d ∧ d ≤ i := by
  intro i
  induction i using Nat.strongRecOn with
  | _ i ih =>
    intro hi ho d f r h
    cases i with
    | zero => simp [stk] at h
    | succ i =>
      have hil : i < c.length := by omega
      have hx : c[i]? = some c[i] := List.getElem?_eq_getElem hil
      rw [stk_succ hx] at h
      have hok := ho i (by omega) _ hx
      have ho' : okTo c i := fun j hj => ho j (by omega)
      unfold stk1 at h
      rcases ar_cases (c[i]).Op with h1 | h1 | h1 | h1
      · rw [if_neg (by omega), if_neg (by omega)] at h
        simp only [List.cons.injEq, Prod.mk.injEq] at h
        obtain ⟨⟨e1, e2⟩, e3⟩ := h
        subst e1 e2 e3
        exact ⟨by omega, rfl, by omega, by omega⟩
      · rw [if_pos h1] at h
        cases hs : stk c i with
        | nil => rw [hs] at hok; simp at hok; try omega
        | cons p t =>
          obtain ⟨d1, f1⟩ := p
          rw [hs] at h; simp only [List.cons.injEq, Prod.mk.injEq] at h
          obtain ⟨⟨e1, e2⟩, e3⟩ := h
          subst e1 e2 e3
          obtain ⟨h2, h3, h4, h5⟩ := ih i (by omega) (by omega) ho' d1 f1 t hs
          exact ⟨by omega, h3, by omega, by omega⟩
      · rw [if_neg (by omega), if_pos h1] at h
        match hs : stk c i with
        | [] => rw [hs] at hok; simp at hok; try omega
        | [_] => rw [hs] at hok; simp at hok; try omega
        | (d1, f1) :: (d2, f2) :: t =>
          rw [hs] at h; simp only [List.cons.injEq, Prod.mk.injEq] at h
          obtain ⟨⟨e1, e2⟩, e3⟩ := h
          subst e1 e2 e3
          obtain ⟨h2, h3, h4, h5⟩ := ih i (by omega) (by omega) ho' d1 f1 ((d2, f2) :: t) hs
          obtain ⟨g2, g3, g4, g5⟩ := ih f1 (by omega) (by omega) (fun j hj => ho j (by omega)) d2 f2 t h3
          exact ⟨by omega, g3, by omega, by omega⟩
      · omega
/-- The stack as the program has it. -/
def pst (s : List (Int × Nat)) : List Int := (s.map (·.1)).reverse
theorem pst_cons (p : Int × Nat) (s) : pst (p :: s) = pst s ++ [p.1] := by simp [pst]
theorem pst_length (s) : (pst s).length = s.length := by simp [pst]
theorem m_tree_Depth_eq {n : Nat} {c : List M_tree_Node} (hn : big ≤ n) (hc : c.length ≤ 1000000000) : m_tree_Depth n c = some (depthT c) := by
  unfold m_tree_Depth depthT
  unfold big at hn
  rw [m_tree_Right_eq (by omega), sbind]
  by_cases hw : wrongT c < 0
  · rw [if_pos hw]
    simp only [decide_eq_true hw, Bool.not_true, bifF]
    obtain ⟨hok, hs1⟩ := wrong_ok c hw
    refine range_bind (fun i s => i ≤ c.length ∧ s = pst (stk c i)) ⟨Nat.zero_le _, rfl⟩ (fun i x s hx hI => ?_) (fun s hs => ?_)
    · obtain ⟨hi, rfl⟩ := hI
      have hil := lt_of_get hx
      obtain ⟨a0, a1⟩ := hok i hil x hx
      have hlen : (stk c i).length ≤ i := by
        have : ∀ k, k ≤ c.length → (stk c k).length ≤ k := by
          intro k
          induction k with
          | zero => intro _; simp [stk]
          | succ k ih =>
            intro hk
            have hxk : c[k]? = some c[k] := List.getElem?_eq_getElem (by omega)
            obtain ⟨b0, b1⟩ := hok k (by omega) _ hxk
            have := stk1_length (i := k) b0 b1
            rw [stk_succ hxk]; have := ih (by omega); omega
        exact this i hi
      refine ⟨pst (stk c (i + 1)), ?_, by omega, rfl⟩
      simp only [m_tree_Arity_eq, sbind]
      rw [stk_succ hx]
      unfold stk1
      obtain ⟨m, rfl⟩ : ∃ m, n = m + 3 := ⟨n - 3, by omega⟩
      have hfin : ∀ (l : List Int) (d : Int), l.length ≤ i → (appM 8 l [wrap64 (d + 1)]).bind (fun y67 => some (Lp.go (τ := Int) y67)) = some (Lp.go (l ++ [wrap64 (d + 1)])) := by
        intro l d hl; rw [appM_ok (by simp; omega) (by simp; omega), sbind]
      rcases ar_cases x.Op with h1 | h1 | h1 | h1
      · rw [if_neg (by omega), if_neg (by omega), h1]
        rw [loop_out (t := (pst (stk c i), (0 : Int))) (by simp []) (by omega), sbind, hfin _ _ (by rw [pst_length]; exact hlen), pst_cons, w64 (by omega) (by omega)]; rfl
      · rw [if_pos h1, h1]
        cases hs : stk c i with
        | nil => rw [hs] at a1; simp at a1; omega
        | cons p r =>
          obtain ⟨d, f⟩ := p
          obtain ⟨_, _, g1, g2⟩ := stk_key i hi (fun j hj => hok j (by omega)) d f r hs
          rw [hs] at hlen
          have hl : r.length ≤ i := by simp at hlen; omega
          rw [pst_cons]
          rw [loop_go (s' := (pst r, max 0 d, (1 : Int))) (by simp only [bifd]; rw [if_pos (by decide), getI_lastq (by rw [pst_length]; omega), sbind, sub_lastq (by rw [pst_length]; omega), sbind, w01])]
          rw [loop_out (t := (pst r, max 0 d)) (by simp []) (by omega), sbind, hfin _ _ (by rw [pst_length]; exact hl), pst_cons, w64 (by omega) (by omega)]
      · rw [if_neg (by omega), if_pos h1, h1]
        match hs : stk c i with
        | [] => rw [hs] at a1; simp at a1; omega
        | [_] => rw [hs] at a1; simp at a1; omega
        | (d, f) :: (e, f2) :: r =>
          obtain ⟨k1, k2, g1, g2⟩ := stk_key i hi (fun j hj => hok j (by omega)) d f _ hs
          obtain ⟨_, _, g3, g4⟩ := stk_key f (by omega) (fun j hj => hok j (by omega)) e f2 r k2
          rw [hs] at hlen
          have hl : r.length ≤ i := by simp at hlen; omega
          have hl2 : r.length < 9223372036854775807 := by omega
          rw [pst_cons, pst_cons]
          rw [loop_go (s' := (pst r ++ [e], max 0 d, (1 : Int))) (by simp only [bifd]; rw [if_pos (by decide), getI_lastq (by simp [pst_length] at *; omega), sbind, sub_lastq (by simp [pst_length] at *; omega), sbind, w01])]
          rw [loop_go (s' := (pst r, max (max 0 d) e, (2 : Int))) (by simp only [bifd]; rw [if_pos (by decide), getI_lastq (by rw [pst_length]; exact hl2), sbind, sub_lastq (by rw [pst_length]; exact hl2), sbind, w11])]
          rw [loop_out (t := (pst r, max (max 0 d) e)) (by simp []) (by omega), sbind, hfin _ _ (by rw [pst_length]; exact hl), pst_cons, w64 (by omega) (by omega)]
      · omega
    · obtain ⟨_, rfl⟩ := hs
      match h : stk c c.length, hs1 with
      | [p], _ =>
        simp [pst, getI, lpK_go]
  · rw [if_neg hw]
    simp only [decide_eq_false hw, Bool.not_false, bifT]
theorem stk_map_len {c : List M_tree_Node} : ∀ i, okTo c i → i ≤ c.length → (stk c i).length ≤ i := by
  intro k
  induction k with
  | zero => intro _ _; simp [stk]
  | succ k ih =>
    intro ho hk
    have hxk : c[k]? = some c[k] := List.getElem?_eq_getElem (by omega)
    obtain ⟨b0, b1⟩ := ho k (by omega) _ hxk
    have := stk1_length (i := k) b0 b1
    rw [stk_succ hxk]; have := ih (fun j hj => ho j (by omega)) (by omega); omega
theorem m_ref17_Deep_eq {c : List M_retrospectref17_Node} (hc : c.length ≤ 1000000000) (hok : okTo (c.map cN) (c.map cN).length) : ∀ (i : Nat) (n : Nat), i < c.length → i + 10 ≤ n →
    ∀ d f r, stk (c.map cN) (i + 1) = (d, f) :: r → m_retrospectref17_Deep n c (i : Int) = some (d, (f : Int)) := by
  intro i
  induction i using Nat.strongRecOn with
  | _ i ih =>
    intro n hi hn d f r hs
    obtain ⟨m, rfl⟩ : ∃ m, n = m + 4 := ⟨n - 4, by omega⟩
    rw [show m + 4 = (m + 3) + 1 by rfl]
    unfold m_retrospectref17_Deep
    have hx : c[i]? = some c[i] := List.getElem?_eq_getElem hi
    have hx' : (c.map cN)[i]? = some (cN c[i]) := by rw [List.getElem?_map, hx]; rfl
    have hlm : (c.map cN).length = c.length := List.length_map ..
    simp only [getI_of hx, sbind, m_ref17_Arity_eq]
    rw [stk_succ hx'] at hs
    obtain ⟨a0, a1⟩ := hok i (by omega) _ hx'
    rw [cN_Op] at a0 a1
    unfold stk1 at hs
    rw [cN_Op] at hs
    have hki : ∀ k, k ≤ i → okTo (c.map cN) k := fun k hk j hj => hok j (by omega)
    rcases ar_cases (c[i]).Op with h1 | h1 | h1 | h1
    · rw [if_neg (by omega), if_neg (by omega)] at hs
      simp only [List.cons.injEq, Prod.mk.injEq] at hs
      obtain ⟨⟨e1, e2⟩, e3⟩ := hs
      rw [h1, loop_out (t := ((0 : Int), (i : Int))) (by simp []) (by omega), sbind, ← e1, ← e2, w01]
    · rw [if_pos h1] at hs
      cases hs1 : stk (c.map cN) i with
      | nil => rw [hs1] at hs; cases hs
      | cons p t =>
        obtain ⟨d1, f1⟩ := p
        rw [hs1] at hs; simp only [List.cons.injEq, Prod.mk.injEq] at hs
        obtain ⟨⟨e1, e2⟩, e3⟩ := hs
        obtain ⟨g1, g2, g3, g4⟩ := stk_key i (by omega) (hki i (Nat.le_refl _)) d1 f1 t hs1
        have hi0 : 0 < i := by omega
        have hd := ih (i - 1) (by omega) (m + 3) (by omega) (by omega) d1 f1 t (by rw [show i - 1 + 1 = i by omega]; exact hs1)
        rw [show ((i - 1 : Nat) : Int) = (i : Int) - 1 by omega] at hd
        rw [h1]
        rw [loop_go (s' := (max 0 d1, (f1 : Int), (0 : Int))) (by simp only [bifd]; rw [if_pos (by decide), w64 (by omega) (by omega), hd, sbind, w1m])]
        rw [loop_out (t := (max 0 d1, (f1 : Int))) (by simp []) (by omega), sbind, w64 (by omega) (by omega), ← e1, ← e2]
    · rw [if_neg (by omega), if_pos h1] at hs
      match hs1 : stk (c.map cN) i with
      | [] => rw [hs1] at hs; cases hs
      | [_] => rw [hs1] at hs; cases hs
      | (d1, f1) :: (d2, f2) :: t =>
        rw [hs1] at hs; simp only [List.cons.injEq, Prod.mk.injEq] at hs
        obtain ⟨⟨e1, e2⟩, e3⟩ := hs
        obtain ⟨g1, g2, g3, g4⟩ := stk_key i (by omega) (hki i (Nat.le_refl _)) d1 f1 _ hs1
        obtain ⟨k1, k2, k3, k4⟩ := stk_key f1 (by omega) (hki f1 (by omega)) d2 f2 t g2
        have hd := ih (i - 1) (by omega) (m + 3) (by omega) (by omega) d1 f1 _ (by rw [show i - 1 + 1 = i by omega]; exact hs1)
        rw [show ((i - 1 : Nat) : Int) = (i : Int) - 1 by omega] at hd
        have he := ih (f1 - 1) (by omega) (m + 3) (by omega) (by omega) d2 f2 t (by rw [show f1 - 1 + 1 = f1 by omega]; exact g2)
        rw [show ((f1 - 1 : Nat) : Int) = (f1 : Int) - 1 by omega] at he
        rw [h1]
        rw [loop_go (s' := (max 0 d1, (f1 : Int), (1 : Int))) (by simp only [bifd]; rw [if_pos (by decide), w64 (by omega) (by omega), hd, sbind, w2m])]
        rw [loop_go (s' := (max (max 0 d1) d2, (f2 : Int), (0 : Int))) (by simp only [bifd]; rw [if_pos (by decide), w64 (by omega) (by omega), he, sbind, w1m])]
        rw [loop_out (t := (max (max 0 d1) d2, (f2 : Int))) (by simp []) (by omega), sbind, w64 (by omega) (by omega), ← e1, ← e2]
    · omega
theorem m_ref17_Depth_eq {n : Nat} {c : List M_retrospectref17_Node} (hn : big ≤ n) (hc : c.length ≤ 1000000000) : m_retrospectref17_Depth n c = some (depthT (c.map cN)) := by
  unfold m_retrospectref17_Depth depthT
  rw [m_ref17_Wrong_eq hn (by omega), sbind]
  unfold big at hn
  by_cases hw : wrongT (c.map cN) < 0
  · rw [if_pos hw, bifd, if_neg (by omega)]
    obtain ⟨hok, hs1⟩ := wrong_ok _ hw
    have hlm : (c.map cN).length = c.length := List.length_map ..
    match h : stk (c.map cN) (c.map cN).length, hs1 with
    | [(d, f)], _ =>
      have hpos : 0 < c.length := by
        rcases Nat.eq_zero_or_pos c.length with h0 | h0
        · rw [hlm, h0] at h; simp [stk] at h
        · exact h0
      rw [w64 (by omega) (by omega), show ((c.length : Int) - 1) = ((c.length - 1 : Nat) : Int) by omega, m_ref17_Deep_eq hc hok (c.length - 1) n (by omega) (by omega) d f [] (by rw [show c.length - 1 + 1 = c.length by omega, ← hlm]; exact h)]
      rfl
  · rw [if_neg hw, bifd, if_pos (by omega)]
/-! #### Copies and sizes -/
theorem m_tree_copied_eq {c : List M_tree_Node} (hc : c.length ≤ 1000000000) (hN : ∀ x ∈ c, x.N.length ≤ 1000000000) : m_tree_copied c = some c := by
  unfold m_tree_copied
  refine range_bind (fun i s => i ≤ c.length ∧ s = c.take i) ⟨Nat.zero_le _, rfl⟩ (fun i x s hx hI => ?_) (fun s hs => ?_)
  · obtain ⟨_, rfl⟩ := hI
    have hi := lt_of_get hx
    have hl : (c.take i).length = i := by simp; omega
    refine ⟨c.take (i + 1), ?_, by omega, rfl⟩
    have hN := hN x (mem_of_get hx)
    rw [appM_ok (by simp; omega) (by simp; omega), sbind, appM_ok (by simp; omega) (by simp; omega), sbind, take_succ_get hi]
    have : c[i] = x := by have := List.getElem?_eq_getElem hi; rw [hx] at this; exact (Option.some.inj this).symm
    rw [this, List.nil_append]
  · rw [hs.2, lpK_go, List.take_length]
def codesT (f : M_tree_Field) : List (List M_tree_Node) := f.Lets.map (·.Code) ++ f.Outs
def sizeT (f : M_tree_Field) : Int := (codesT f).foldl (fun n c => n + (c.length : Int)) 0
/-- A field that isn't too great. -/
def FB (f : M_tree_Field) : Prop := f.Lets.length ≤ 1000 ∧ f.Outs.length ≤ 1000 ∧ ∀ c ∈ codesT f, c.length ≤ 100000 ∧ ∀ x ∈ c, x.N.length ≤ 100000 ∧ Wd x.N
theorem m_tree_Codes_eq {f : M_tree_Field} (h : FB f) : m_tree_Codes f = some (codesT f) := by
  unfold m_tree_Codes
  obtain ⟨h1, h2, h3⟩ := h
  have hc : ∀ c ∈ codesT f, m_tree_copied c = some c := fun c hc => m_tree_copied_eq (by have := (h3 c hc).1; omega) (fun x hx => by have := ((h3 c hc).2 x hx).1; omega)
  refine range_bind (fun i s => i ≤ f.Lets.length ∧ s = (f.Lets.take i).map (·.Code)) ⟨Nat.zero_le _, rfl⟩ (fun i x s hx hI => ?_) (fun s hs => ?_)
  · obtain ⟨_, rfl⟩ := hI
    have hi := lt_of_get hx
    refine ⟨(f.Lets.take (i + 1)).map (·.Code), ?_, by omega, rfl⟩
    rw [hc _ (List.mem_append_left _ (List.mem_map_of_mem (mem_of_get hx))), sbind, appM_ok (by simp; omega) (by simp; omega), sbind, take_succ_get hi]
    have : f.Lets[i] = x := by have := List.getElem?_eq_getElem hi; rw [hx] at this; exact (Option.some.inj this).symm
    rw [this, List.map_append]; rfl
  · rw [hs.2, lpK_go, List.take_length]
    refine range_bind (fun i s => i ≤ f.Outs.length ∧ s = f.Lets.map (·.Code) ++ f.Outs.take i) ⟨Nat.zero_le _, by simp⟩ (fun i x s hx hI => ?_) (fun s hs => ?_)
    · obtain ⟨_, rfl⟩ := hI
      have hi := lt_of_get hx
      refine ⟨f.Lets.map (·.Code) ++ f.Outs.take (i + 1), ?_, by omega, rfl⟩
      rw [hc _ (List.mem_append_right _ (mem_of_get hx)), sbind, appM_ok (by simp; omega) (by simp; omega), sbind, take_succ_get hi]
      have : f.Outs[i] = x := by have := List.getElem?_eq_getElem hi; rw [hx] at this; exact (Option.some.inj this).symm
      rw [this, List.append_assoc]
    · rw [hs.2, lpK_go, List.take_length]; rfl
theorem foldl_len_le {l : List (List M_tree_Node)} : ∀ {a : Int}, (∀ c ∈ l, c.length ≤ 100000) → l.foldl (fun n c => n + (c.length : Int)) a ≤ a + 100000 * l.length ∧ a ≤ l.foldl (fun n c => n + (c.length : Int)) a := by
  induction l with
  | nil => intro a _; simp
  | cons c l ih =>
    intro a h
    have h1 := h c (.head _)
    obtain ⟨h2, h3⟩ := @ih (a + c.length) (fun d hd => h d (.tail _ hd))
    simp only [List.foldl_cons, List.length_cons]
    omega
theorem sum_step {l : List (List M_tree_Node)} {i : Nat} {x} (h : l[i]? = some x) (a : Int) : (l.take (i + 1)).foldl (fun n c => n + (c.length : Int)) a = (l.take i).foldl (fun n c => n + (c.length : Int)) a + x.length := by
  have hi := lt_of_get h
  rw [take_succ_get hi, List.foldl_append]
  have : l[i] = x := by have := List.getElem?_eq_getElem hi; rw [h] at this; exact (Option.some.inj this).symm
  rw [this]; rfl
theorem codesT_len {f : M_tree_Field} (h : FB f) : (codesT f).length ≤ 2000 := by unfold codesT; simp; have := h.1; have := h.2.1; omega
theorem m_tree_Size_eq {f : M_tree_Field} (h : FB f) : m_tree_Size f = some (sizeT f) := by
  unfold m_tree_Size
  rw [m_tree_Codes_eq h, sbind]
  have hl := codesT_len h
  refine range_bind (fun i s => i ≤ (codesT f).length ∧ s = ((codesT f).take i).foldl (fun n c => n + (c.length : Int)) 0) ⟨Nat.zero_le _, rfl⟩ (fun i x s hx hI => ?_) (fun s hs => ?_)
  · obtain ⟨_, rfl⟩ := hI
    have hi := lt_of_get hx
    have hb := @foldl_len_le ((codesT f).take (i + 1)) 0 (fun c hc => (h.2.2 c (List.mem_of_mem_take hc)).1)
    rw [sum_step hx] at hb
    have hlt : ((codesT f).take (i + 1)).length ≤ 2000 := by rw [List.length_take]; omega
    refine ⟨((codesT f).take (i + 1)).foldl (fun n c => n + (c.length : Int)) 0, ?_, by omega, rfl⟩
    rw [sum_step hx, w64 (by omega) (by omega)]
  · rw [hs.2, lpK_go, List.take_length]; rfl
theorem codes_cF (f : M_retrospectref17_Field) : codesT (cF f) = (f.Lets.map (·.Code) ++ f.Outs).map (·.map cN) := by
  unfold codesT cF; simp [cL, Function.comp_def]
theorem m_ref17_Codes_eq {n : Nat} {f : M_retrospectref17_Field} (hn : big ≤ n) (h1 : f.Lets.length ≤ 1000) (h2 : f.Outs.length ≤ 1000) : m_retrospectref17_Codes n f = some (f.Lets.map (·.Code) ++ f.Outs) := by
  unfold m_retrospectref17_Codes
  unfold big at hn
  refine loop_bnd (fun s i => (s, (i : Int))) (fun i (x : M_retrospectref17_Let) s => .inl (s ++ [x.Code])) (fun s => s) (fun i s => s.length = i) f.Lets [] (fun i x s hx hI => ?_) (fun s _ => by simp []) rfl (by omega) ?_
  · have hi := lt_of_get hx
    refine ⟨?_, fun b' hb => by cases hb; simp [hI]⟩
    simp only [bifd, if_pos (show (i : Int) < (f.Lets.length : Int) by omega), getI_of hx, sbind]
    rw [appM_ok (by simp; omega) (by simp; omega), sbind, w1 (by omega)]; rfl
  · rw [runG_fold (fun (x : M_retrospectref17_Let) s => s ++ [x.Code]), foldl_snoc, List.nil_append, appM_ok (by simp; omega) (by simp; omega), sbind]
theorem m_ref17_Size_eq {n : Nat} {f : M_retrospectref17_Field} (hn : big ≤ n) (h : FB (cF f)) : m_retrospectref17_Size n f = some (sizeT (cF f)) := by
  unfold m_retrospectref17_Size
  have h1 : f.Lets.length ≤ 1000 := by have := h.1; simpa [cF] using this
  have h2 : f.Outs.length ≤ 1000 := by have := h.2.1; simpa [cF] using this
  rw [m_ref17_Codes_eq hn h1 h2, sbind]
  unfold big at hn
  unfold sizeT
  rw [codes_cF, List.foldl_map]
  generalize hl : f.Lets.map (·.Code) ++ f.Outs = l
  have hll : l.length ≤ 2000 := by rw [← hl]; simp; omega
  have hlc : ∀ c ∈ l, c.length ≤ 100000 := fun c hc => by
    have := (h.2.2 (c.map cN) (by rw [codes_cF, hl]; exact List.mem_map_of_mem hc)).1
    simpa using this
  refine loop_bnd (fun (s : Int) i => (s, (i : Int))) (fun i (x : List M_retrospectref17_Node) s => .inl (s + x.length)) (fun s => s) (fun i s => 0 ≤ s ∧ s ≤ 100000 * i) l 0 (fun i x s hx hI => ?_) (fun s _ => by simp []) (by simp) (by omega) ?_
  · have hi := lt_of_get hx
    have hx' := hlc x (mem_of_get hx)
    obtain ⟨g1, g2⟩ := hI
    refine ⟨?_, fun b' hb => by cases hb; omega⟩
    simp only [bifd, if_pos (show (i : Int) < (l.length : Int) by omega), getI_of hx, sbind]
    rw [w64 (by omega) (by omega), w1 (by omega)]; rfl
  · rw [runG_fold (fun (x : List M_retrospectref17_Node) (s : Int) => s + x.length)]
    simp
theorem m_law17_To_eq {n : Nat} {c : List M_retrospectref17_Node} (hn : big ≤ n) (hc : c.length ≤ 1000000000) : m_retrospectlaw17_To n c = some (c.map cN) := by
  unfold m_retrospectlaw17_To
  unfold big at hn
  refine loop_bnd (fun s i => (s, (i : Int))) (fun i (x : M_retrospectref17_Node) s => .inl (s ++ [cN x])) (fun s => s) (fun i s => s.length = i) c [] (fun i x s hx hI => ?_) (fun s _ => by simp []) rfl (by omega) ?_
  · have hi := lt_of_get hx
    refine ⟨?_, fun b' hb => by cases hb; simp [hI]⟩
    simp only [bifd, if_pos (show (i : Int) < (c.length : Int) by omega), getI_of hx, sbind]
    rw [appM_ok (by simp; omega) (by simp; omega), sbind, w1 (by omega)]; rfl
  · rw [runG_fold (fun (x : M_retrospectref17_Node) s => s ++ [cN x]), foldl_snoc, List.nil_append]
theorem m_law17_ToField_eq {n : Nat} {f : M_retrospectref17_Field} (hn : big ≤ n) (h : FB (cF f)) : m_retrospectlaw17_ToField n f = some (cF f) := by
  unfold m_retrospectlaw17_ToField
  have h1 : f.Lets.length ≤ 1000 := by have := h.1; simpa [cF] using this
  have h2 : f.Outs.length ≤ 1000 := by have := h.2.1; simpa [cF] using this
  have hlc : ∀ c ∈ f.Lets.map (·.Code) ++ f.Outs, c.length ≤ 100000 := fun c hc => by
    have := (h.2.2 (c.map cN) (by rw [codes_cF]; exact List.mem_map_of_mem hc)).1
    simpa using this
  have hn' := hn
  unfold big at hn
  refine loop_bnd (fun s i => (s, (i : Int))) (fun i (x : M_retrospectref17_Let) s => .inl (s ++ [cL x])) (fun s => s) (fun i s => s.length = i) f.Lets [] (fun i x s hx hI => ?_) (fun s _ => by simp []) rfl (by omega) ?_
  · have hi := lt_of_get hx
    refine ⟨?_, fun b' hb => by cases hb; simp [hI]⟩
    have hx' := hlc x.Code (List.mem_append_left _ (List.mem_map_of_mem (mem_of_get hx)))
    simp only [bifd, if_pos (show (i : Int) < (f.Lets.length : Int) by omega), getI_of hx, sbind]
    rw [m_law17_To_eq hn' (by omega), sbind, appM_ok (by simp; omega) (by simp; omega), sbind, w1 (by omega)]; rfl
  · rw [runG_fold (fun (x : M_retrospectref17_Let) s => s ++ [cL x]), foldl_snoc, List.nil_append]
    refine loop_bnd (fun s i => (s, (i : Int))) (fun i (x : List M_retrospectref17_Node) s => .inl (s ++ [x.map cN])) (fun s => s) (fun i s => s.length = i) f.Outs [] (fun i x s hx hI => ?_) (fun s _ => by simp []) rfl (by omega) ?_
    · have hi := lt_of_get hx
      refine ⟨?_, fun b' hb => by cases hb; simp [hI]⟩
      have hx' := hlc x (List.mem_append_right _ (mem_of_get hx))
      simp only [bifd, if_pos (show (i : Int) < (f.Outs.length : Int) by omega), getI_of hx, sbind]
      rw [m_law17_To_eq hn' (by omega), sbind, appM_ok (by simp; omega) (by simp; omega), sbind, w1 (by omega)]; rfl
    · rw [runG_fold (fun (x : List M_retrospectref17_Node) s => s ++ [x.map cN]), foldl_snoc, List.nil_append]; rfl
/-! #### What is too long -/
theorem m_ref17_Long_ok {n : Nat} {c : List M_retrospectref17_Node} {many words : Nat} (hn : big ≤ n) (hc : c.length ≤ 9223372036854775807) :
    ∃ b, m_retrospectref17_Long n c (many : Int) (words : Int) = some b ∧ (b = false → c.length ≤ many ∧ ∀ x ∈ c, x.N.length ≤ words) := by
  unfold m_retrospectref17_Long
  unfold big at hn
  refine loop_bindE (fun s : Int => (c.length - s.toNat)) (fun s => ∃ i : Nat, s = i ∧ i ≤ c.length ∧ ∀ x ∈ c.take i, x.N.length ≤ words)
    (fun t : Lp Unit Bool => (t = .go () ∧ ∀ x ∈ c.take many, x.N.length ≤ words) ∨ t = .out true) ⟨0, rfl, Nat.zero_le _, by simp⟩ (by simp; omega) (fun s hI => ?_) (fun t h2 => ?_)
  rotate_left
  · rcases h2 with ⟨rfl, h⟩ | rfl
    · refine ⟨decide ((many : Int) < (c.length : Int)), rfl, fun hb => ?_⟩
      have hle : c.length ≤ many := by simp at hb; omega
      rw [List.take_of_length_le hle] at h
      exact ⟨hle, h⟩
    · exact ⟨true, rfl, fun h => by cases h⟩
  · obtain ⟨i, rfl, hi, hw⟩ := hI
    simp only [jn_eq, bifd]
    by_cases hl : i < c.length
    · rw [if_pos (by omega)]
      by_cases hm : i < many
      · have hx : c[i]? = some c[i] := List.getElem?_eq_getElem hl
        rw [if_pos (show (i : Int) < (many : Int) by omega)]
        simp only [getI_of hx, sbind]
        by_cases hb : (words : Int) < ((c[i]).N.length : Int)
        · right; exact ⟨.out true, by rw [if_pos hb], .inr rfl⟩
        · left
          refine ⟨((i + 1 : Nat) : Int), by rw [if_neg hb, w1 (by omega)], ⟨i + 1, rfl, by omega, fun x hx' => ?_⟩, by simp; omega⟩
          rw [take_succ_get hl] at hx'
          rcases List.mem_append.1 hx' with h | h
          · exact hw x h
          · rw [List.mem_singleton.1 h]; omega
      · right
        rw [if_neg (show ¬ (i : Int) < (many : Int) by omega)]
        exact ⟨.go (), rfl, .inl ⟨rfl, fun x hx => hw x (by
          have : c.take many = (c.take i).take many := by rw [List.take_take, Nat.min_eq_left (by omega)]
          rw [this] at hx; exact List.mem_of_mem_take hx)⟩⟩
    · right
      rw [if_neg (by omega)]
      exact ⟨.go (), rfl, .inl ⟨rfl, fun x hx => hw x (by
        have : c.take i = c := List.take_of_length_le (by omega)
        rw [this]; exact List.mem_of_mem_take hx)⟩⟩
theorem m_ref17_LongField_ok {n : Nat} {f : M_retrospectref17_Field} {parts many words : Nat} (hn : big ≤ n) (hB : B_retrospectref17_Field f) (hM : maxLen ≤ 9223372036854775807) :
    ∃ b, m_retrospectref17_LongField n f (parts : Int) (many : Int) (words : Int) = some b ∧
      (b = false → f.Lets.length ≤ parts ∧ f.Outs.length ≤ parts ∧ (∀ l ∈ f.Lets, l.Name.length ≤ 100) ∧ ∀ c ∈ f.Lets.map (·.Code) ++ f.Outs, c.length ≤ many ∧ ∀ x ∈ c, x.N.length ≤ words) := by
  unfold m_retrospectref17_LongField
  have hn' := hn
  unfold big at hn
  obtain ⟨⟨b1, b2⟩, ⟨b3, b4⟩, _⟩ := hB
  simp only [jn_eq, bifd]
  by_cases h1 : (parts : Int) < (f.Lets.length : Int)
  · rw [if_pos h1]; exact ⟨true, rfl, fun h => by cases h⟩
  · rw [if_neg h1]
    by_cases h2 : (parts : Int) < (f.Outs.length : Int)
    · rw [if_pos h2]; exact ⟨true, rfl, fun h => by cases h⟩
    · rw [if_neg h2]
      refine loop_bindE (fun s : Int => (f.Lets.length - s.toNat)) (fun s => ∃ i : Nat, s = i ∧ i ≤ f.Lets.length ∧ ∀ l ∈ f.Lets.take i, l.Name.length ≤ 100 ∧ l.Code.length ≤ many ∧ ∀ x ∈ l.Code, x.N.length ≤ words)
        (fun t : Lp Unit Bool => (t = .go () ∧ ∀ l ∈ f.Lets, l.Name.length ≤ 100 ∧ l.Code.length ≤ many ∧ ∀ x ∈ l.Code, x.N.length ≤ words) ∨ t = .out true) ⟨0, rfl, Nat.zero_le _, by simp⟩ (by simp; omega) (fun s hI => ?_) (fun t g2 => ?_)
      rotate_left
      · rcases g2 with ⟨rfl, hA⟩ | rfl
        · rw [lpK_go]
          refine loop_bindE (fun s : Int => (f.Outs.length - s.toNat)) (fun s => ∃ i : Nat, s = i ∧ i ≤ f.Outs.length ∧ ∀ c ∈ f.Outs.take i, c.length ≤ many ∧ ∀ x ∈ c, x.N.length ≤ words)
            (fun t : Lp Unit Bool => (t = .go () ∧ ∀ c ∈ f.Outs, c.length ≤ many ∧ ∀ x ∈ c, x.N.length ≤ words) ∨ t = .out true) ⟨0, rfl, Nat.zero_le _, by simp⟩ (by simp; omega) (fun s hI => ?_) (fun t g2 => ?_)
          rotate_left
          · rcases g2 with ⟨rfl, hC⟩ | rfl
            · refine ⟨false, rfl, fun _ => ⟨by omega, by omega, fun l hl => (hA l hl).1, fun c hc => ?_⟩⟩
              rcases List.mem_append.1 hc with h | h
              · obtain ⟨l, hl, rfl⟩ := List.mem_map.1 h
                exact (hA l hl).2
              · exact hC c h
            · exact ⟨true, rfl, fun h => by cases h⟩
          · obtain ⟨i, rfl, hi, hw⟩ := hI
            by_cases hl : i < f.Outs.length
            · have hx : f.Outs[i]? = some f.Outs[i] := List.getElem?_eq_getElem hl
              obtain ⟨b, k1, k2⟩ := @m_ref17_Long_ok n f.Outs[i] many words hn' (by have := (b4 _ (List.getElem_mem hl)).1; omega)
              simp only [if_pos (show (i : Int) < (f.Outs.length : Int) by omega), getI_of hx, sbind, k1]
              cases b with
              | true => right; exact ⟨.out true, rfl, .inr rfl⟩
              | false =>
                left
                refine ⟨((i + 1 : Nat) : Int), by rw [bifF, w1 (by omega)], ⟨i + 1, rfl, by omega, fun c hc => ?_⟩, by simp; omega⟩
                rw [take_succ_get hl] at hc
                rcases List.mem_append.1 hc with h | h
                · exact hw c h
                · rw [List.mem_singleton.1 h]; exact k2 rfl
            · right
              rw [if_neg (by omega)]
              exact ⟨.go (), rfl, .inl ⟨rfl, fun c hc => hw c (by rw [List.take_of_length_le (by omega)]; exact hc)⟩⟩
        · exact ⟨true, rfl, fun h => by cases h⟩
      · obtain ⟨i, rfl, hi, hw⟩ := hI
        by_cases hl : i < f.Lets.length
        · have hx : f.Lets[i]? = some f.Lets[i] := List.getElem?_eq_getElem hl
          obtain ⟨b, k1, k2⟩ := @m_ref17_Long_ok n (f.Lets[i]).Code many words hn' (by have := (b2 _ (List.getElem_mem hl)).2.1.1; omega)
          simp only [if_pos (show (i : Int) < (f.Lets.length : Int) by omega), getI_of hx, sbind, k1]
          by_cases hnm : (100 : Int) < ((f.Lets[i]).Name.length : Int)
          · right; exact ⟨.out true, by rw [if_pos hnm]; rfl, .inr rfl⟩
          · rw [if_neg hnm]
            cases b with
            | true => right; exact ⟨.out true, rfl, .inr rfl⟩
            | false =>
              left
              refine ⟨((i + 1 : Nat) : Int), by rw [bifF, w1 (by omega)], ⟨i + 1, rfl, by omega, fun c hc => ?_⟩, by simp; omega⟩
              rw [take_succ_get hl] at hc
              rcases List.mem_append.1 hc with h | h
              · exact hw c h
              · rw [List.mem_singleton.1 h]; exact ⟨by omega, k2 rfl⟩
        · right
          rw [if_neg (by omega)]
          exact ⟨.go (), rfl, .inl ⟨rfl, fun c hc => hw c (by rw [List.take_of_length_le (by omega)]; exact hc)⟩⟩
end Go.Proofs.YtpomhkkhdojpiaaDoor
