import Derived.Test.YtpomhkkhdojpiaaDoorPlBl1
namespace Go.Proofs.YtpomhkkhdojpiaaDoor
open Go Go.RowKit
/-! ### Brackets: an expression in brackets is the same expression -/
/-- W' is W behind one word, and a closing bracket behind. -/
structure Sh (W W' : List M_lex_Word) : Prop where
  len : W'.length = W.length + 2
  nx : ∀ i, i < W.length → (nxW W' (i + 1)).Text = (nxW W i).Text ∧ (nxW W' (i + 1)).Kind = (nxW W i).Kind
  cl : (nxW W' (W.length + 1)).Text = [41]
def shf {α : Type} (v : α × Nat) : α × Nat := (v.1, v.2 + 1)
/-- What is read of W is read of W' one word later. -/
def Tr {α : Type} (p p' : Nat → Except Int (α × Nat)) : Prop := ∀ i v, p i = .ok v → p' (i + 1) = .ok (shf v)
section
variable {W W' : List M_lex_Word} {E E' : Int} {Nm : List (List UInt8)} (h : Sh W W')
include h
/-- A word that W has not at a place, nor has W' there, unless it is a closing bracket. -/
theorem ne_sh {i : Nat} {t : List UInt8} (ht : t ≠ [41]) (ht' : t ≠ []) (hn : (nxW W i).Text ≠ t) : (nxW W' (i + 1)).Text ≠ t := by
  rcases Nat.lt_trichotomy i W.length with h1 | h1 | h1
  · rw [(h.nx i h1).1]; exact hn
  · subst h1; rw [h.cl]; exact fun e => ht e.symm
  · rw [nxW_end (by rw [h.len]; omega)]; exact fun e => ht' e.symm
theorem eq_sh {i : Nat} {t : List UInt8} (ht' : t ≠ []) (hn : (nxW W i).Text = t) : (nxW W' (i + 1)).Text = t := by
  rw [(h.nx i (nx_lt ht' hn)).1, hn]
theorem need_sh {t : List UInt8} (ht : t ≠ []) {i j : Nat} (hn : needS W E t i = .ok j) : needS W' E' t (i + 1) = .ok (j + 1) := by
  unfold needS at hn ⊢
  split at hn
  · rename_i e; cases hn; rw [if_pos (eq_sh h ht e)]
  · cases hn
theorem small_sh : Tr (smallS W E) (smallS W' E') := fun i v hv => by
  unfold smallS at hv ⊢
  split at hv
  · cases hv
  · rename_i e
    have hi : i < W.length := nxK_lt (by intro h0; exact e (.inl (by rw [h0]; decide)))
    cases hv
    rw [(h.nx i hi).1, (h.nx i hi).2, if_neg e]; rfl
theorem name_sh : Tr (nameS W E) (nameS W' E') := fun i v hv => by
  unfold nameS at hv ⊢
  split at hv
  · cases hv
  · rename_i e
    have hi : i < W.length := nxK_lt (by intro h0; exact e (.inl (by rw [h0]; decide)))
    cases hv
    rw [(h.nx i hi).1, (h.nx i hi).2, if_neg e]; rfl
theorem comp_sh {op : Int} : Tr (compS W E op) (compS W' E' op) := fun i v hv => by
  unfold compS at hv ⊢
  obtain ⟨j, hj, hv⟩ := ebd_eq hv
  obtain ⟨u, hu, hv⟩ := ebd_eq hv
  obtain ⟨k, hk, hv⟩ := ebd_eq hv
  cases hv
  rw [need_sh h (by simp) (E' := E') hj, ebd_ok, small_sh h (E' := E') j u hu, ebd_ok]
  simp only [shf]
  rw [need_sh h (by simp) (E' := E') hk, ebd_ok]
theorem atom_sh {r : Nat} {ex ex' : Nat → Prs} (hx : r ≠ 0 → Tr ex ex') : Tr (atomS W E Nm r ex) (atomS W' E' Nm r ex') := fun i v hv => by
  have ki : ∀ k : Int, k ≠ 0 → (nxW W i).Kind = k → i < W.length := fun k h0 e => nxK_lt (by rw [e]; exact h0)
  have ti : ∀ t : List UInt8, t ≠ [] → (nxW W i).Text = t → i < W.length := fun t h0 e => nx_lt h0 e
  have hi : i < W.length := by
    rcases Nat.lt_or_ge i W.length with hi | hi
    · exact hi
    · exfalso
      unfold atomS nameS at hv
      rw [nxW_end hi] at hv
      simp [ebd] at hv
  obtain ⟨e1, e2⟩ := h.nx i hi
  unfold atomS at hv ⊢
  rw [e1, e2]
  by_cases h1 : (nxW W i).Kind = 1
  · rw [if_pos h1] at hv ⊢; cases hv; rfl
  rw [if_neg h1] at hv ⊢
  by_cases h2 : (nxW W i).Text = [116]
  · rw [if_pos h2] at hv ⊢; cases hv; rfl
  rw [if_neg h2] at hv ⊢
  by_cases h3 : (nxW W i).Text = [121]
  · rw [if_pos h3] at hv ⊢; exact comp_sh h i v hv
  rw [if_neg h3] at hv ⊢
  by_cases h4 : (nxW W i).Text = [112]
  · rw [if_pos h4] at hv ⊢; exact comp_sh h i v hv
  rw [if_neg h4] at hv ⊢
  by_cases h5 : (nxW W i).Text = [40]
  · rw [if_pos h5] at hv ⊢
    by_cases h6 : r = 0
    · rw [if_pos h6] at hv; cases hv
    rw [if_neg h6] at hv ⊢
    obtain ⟨u, hu, hv⟩ := ebd_eq hv
    obtain ⟨k, hk, hv⟩ := ebd_eq hv
    cases hv
    rw [hx h6 _ _ hu, ebd_ok]
    simp only [shf]
    rw [need_sh h (by simp) (E' := E') hk, ebd_ok]
  rw [if_neg h5] at hv ⊢
  obtain ⟨u, hu, hv⟩ := ebd_eq hv
  cases hv
  rw [name_sh h (E' := E') i u hu, ebd_ok]; rfl
theorem pow_sh {p p' : Nat → Prs} (hp : Tr p p') : Tr (powS W E p) (powS W' E' p') := fun i v hv => by
  unfold powS at hv ⊢
  obtain ⟨u, hu, hv⟩ := ebd_eq hv
  rw [hp i u hu, ebd_ok]
  by_cases h1 : (nxW W u.2).Text = [94]
  · rw [if_pos h1] at hv
    rw [if_pos (show (nxW W' (shf u).2).Text = [94] from eq_sh h (by simp) h1)]
    obtain ⟨e, he, hv⟩ := ebd_eq hv
    by_cases h2 : (nxW W (u.2 + 1)).Text = [45]
    · rw [if_pos h2] at he hv
      have h3 : (nxW W' ((shf u).2 + 1)).Text = [45] := eq_sh h (by simp) h2
      simp only [if_pos h3]
      cases hv
      rw [(small_sh h (E' := E') _ e he : smallS W' E' ((shf u).2 + 1 + 1) = .ok (shf e)), ebd_ok]; rfl
    · rw [if_neg h2] at he hv
      have h3 : ¬ (nxW W' ((shf u).2 + 1)).Text = [45] := ne_sh h (by decide) (by simp) h2
      simp only [if_neg h3]
      cases hv
      rw [(small_sh h (E' := E') _ e he : smallS W' E' ((shf u).2 + 1) = .ok (shf e)), ebd_ok]; rfl
  · rw [if_neg h1] at hv
    rw [if_neg (show ¬ (nxW W' (shf u).2).Text = [94] from ne_sh h (by decide) (by simp) h1)]
    cases hv; rfl
theorem chainL_sh {p p' : Nat → Prs} (hp : Tr p p') (hpo : PO W p) {a b : List UInt8} {oa ob : Int} (ha : a ≠ [41] ∧ a ≠ []) (hb : b ≠ [41] ∧ b ≠ []) :
    ∀ (k k' : Nat) (c : List M_tree_Node) (j : Nat) (v), k ≤ k' → W.length ≤ k + j → chainL W p a b oa ob k c j = .ok v → chainL W' p' a b oa ob k' c (j + 1) = .ok (shf v)
  | 0, k', c, j, v, _, hj, hv => by
    unfold chainL at hv; cases hv
    have e : nxW W j = ⟨0, [], 0⟩ := nxW_end (by omega)
    exact chainL_stop (ne_sh h ha.1 ha.2 (by rw [e]; exact fun x => ha.2 x.symm)) (ne_sh h hb.1 hb.2 (by rw [e]; exact fun x => hb.2 x.symm))
  | k + 1, k', c, j, v, hk, hj, hv => by
    obtain ⟨k', rfl⟩ : ∃ q, k' = q + 1 := ⟨k' - 1, by omega⟩
    unfold chainL at hv ⊢
    by_cases h1 : (nxW W j).Text = a
    · rw [if_pos h1] at hv
      rw [if_pos (eq_sh h ha.2 h1)]
      obtain ⟨u, hu, hv⟩ := ebd_eq hv
      have g := hpo _ _ hu
      rw [hp _ _ hu, ebd_ok]
      exact chainL_sh hp hpo ha hb k k' _ _ v (by omega) (by omega) hv
    rw [if_neg h1] at hv
    rw [if_neg (ne_sh h ha.1 ha.2 h1)]
    by_cases h2 : (nxW W j).Text = b
    · rw [if_pos h2] at hv
      rw [if_pos (eq_sh h hb.2 h2)]
      obtain ⟨u, hu, hv⟩ := ebd_eq hv
      have g := hpo _ _ hu
      rw [hp _ _ hu, ebd_ok]
      exact chainL_sh hp hpo ha hb k k' _ _ v (by omega) (by omega) hv
    rw [if_neg h2] at hv
    rw [if_neg (ne_sh h hb.1 hb.2 h2)]
    cases hv; rfl
theorem chainS_sh {p p' : Nat → Prs} (hp : Tr p p') (hpo : PO W p) {a b : List UInt8} {oa ob : Int} (ha : a ≠ [41] ∧ a ≠ []) (hb : b ≠ [41] ∧ b ≠ []) : Tr (chainS W p a b oa ob) (chainS W' p' a b oa ob) := fun i v hv => by
  unfold chainS at hv ⊢
  obtain ⟨u, hu, hv⟩ := ebd_eq hv
  rw [hp _ _ hu, ebd_ok]
  exact chainL_sh h hp hpo ha hb _ _ _ _ _ (by rw [h.len]; omega) (by omega) hv
theorem exS_sh {f f' : Nat → Prs} (hf : Tr f f') (hfo : PO W f) : Tr (exS W f) (exS W' f') :=
  chainS_sh h (chainS_sh h hf hfo (by decide) (by decide)) (chainS_PO hfo) (by decide) (by decide)
theorem fact_sh : ∀ (r : Nat), Tr (factS W E Nm r) (factS W' E' Nm r)
  | 0 => fun i v hv => by
    unfold factS at hv ⊢
    by_cases h1 : (nxW W i).Text = [45]
    · rw [if_pos h1] at hv; cases hv
    · rw [if_neg h1] at hv
      rw [if_neg (ne_sh h (by decide) (by simp) h1)]
      exact pow_sh h (atom_sh h fun h0 => absurd rfl h0) i v hv
  | r + 1 => fun i v hv => by
    unfold factS at hv ⊢
    by_cases h1 : (nxW W i).Text = [45]
    · rw [if_pos h1] at hv
      rw [if_pos (eq_sh h (by simp) h1)]
      obtain ⟨u, hu, hv⟩ := ebd_eq hv
      rw [fact_sh r _ _ hu, ebd_ok]
      cases hv; rfl
    · rw [if_neg h1] at hv
      rw [if_neg (ne_sh h (by decide) (by simp) h1)]
      exact pow_sh h (atom_sh h fun _ => exS_sh h (fact_sh r) (factS_PO r)) i v hv
end
/-! #### More room reads no less -/
def Le (p p' : Nat → Prs) : Prop := ∀ i v, p i = .ok v → p' i = .ok v
section
variable {W : List M_lex_Word} {E : Int} {Nm : List (List UInt8)}
theorem atom_le {r r' : Nat} {ex ex' : Nat → Prs} (hr : r ≠ 0 → r' ≠ 0) (hx : r ≠ 0 → Le ex ex') : Le (atomS W E Nm r ex) (atomS W E Nm r' ex') := fun i v hv => by
  unfold atomS at hv ⊢
  by_cases h1 : (nxW W i).Kind = 1
  · rw [if_pos h1] at hv ⊢; exact hv
  rw [if_neg h1] at hv ⊢
  by_cases h2 : (nxW W i).Text = [116]
  · rw [if_pos h2] at hv ⊢; exact hv
  rw [if_neg h2] at hv ⊢
  by_cases h3 : (nxW W i).Text = [121]
  · rw [if_pos h3] at hv ⊢; exact hv
  rw [if_neg h3] at hv ⊢
  by_cases h4 : (nxW W i).Text = [112]
  · rw [if_pos h4] at hv ⊢; exact hv
  rw [if_neg h4] at hv ⊢
  by_cases h5 : (nxW W i).Text = [40]
  · rw [if_pos h5] at hv ⊢
    by_cases h6 : r = 0
    · rw [if_pos h6] at hv; cases hv
    rw [if_neg h6] at hv
    rw [if_neg (hr h6)]
    obtain ⟨u, hu, hv⟩ := ebd_eq hv
    rw [hx h6 _ _ hu, ebd_ok]; exact hv
  rw [if_neg h5] at hv ⊢
  exact hv
theorem pow_le {p p' : Nat → Prs} (hp : Le p p') : Le (powS W E p) (powS W E p') := fun i v hv => by
  unfold powS at hv ⊢
  obtain ⟨u, hu, hv⟩ := ebd_eq hv
  rw [hp i u hu, ebd_ok]; exact hv
theorem chainL_le {p p' : Nat → Prs} (hp : Le p p') {a b : List UInt8} {oa ob : Int} : ∀ (k : Nat) (c : List M_tree_Node) (j : Nat) (v), chainL W p a b oa ob k c j = .ok v → chainL W p' a b oa ob k c j = .ok v
  | 0, c, j, v, hv => hv
  | k + 1, c, j, v, hv => by
    unfold chainL at hv ⊢
    by_cases h1 : (nxW W j).Text = a
    · rw [if_pos h1] at hv ⊢
      obtain ⟨u, hu, hv⟩ := ebd_eq hv
      rw [hp _ _ hu, ebd_ok]; exact chainL_le hp k _ _ v hv
    rw [if_neg h1] at hv ⊢
    by_cases h2 : (nxW W j).Text = b
    · rw [if_pos h2] at hv ⊢
      obtain ⟨u, hu, hv⟩ := ebd_eq hv
      rw [hp _ _ hu, ebd_ok]; exact chainL_le hp k _ _ v hv
    rw [if_neg h2] at hv ⊢; exact hv
theorem chainS_le {p p' : Nat → Prs} (hp : Le p p') {a b : List UInt8} {oa ob : Int} : Le (chainS W p a b oa ob) (chainS W p' a b oa ob) := fun i v hv => by
  unfold chainS at hv ⊢
  obtain ⟨u, hu, hv⟩ := ebd_eq hv
  rw [hp _ _ hu, ebd_ok]; exact chainL_le hp _ _ _ v hv
theorem fact_le : ∀ (r : Nat), Le (factS W E Nm r) (factS W E Nm (r + 1))
  | 0 => fun i v hv => by
    unfold factS at hv ⊢
    by_cases h1 : (nxW W i).Text = [45]
    · rw [if_pos h1] at hv; cases hv
    · rw [if_neg h1] at hv ⊢
      exact pow_le (atom_le (fun h0 => absurd rfl h0) fun h0 => absurd rfl h0) i v hv
  | r + 1 => fun i v hv => by
    rw [factS] at hv ⊢
    by_cases h1 : (nxW W i).Text = [45]
    · rw [if_pos h1] at hv ⊢
      obtain ⟨u, hu, hv⟩ := ebd_eq hv
      rw [fact_le r _ _ hu, ebd_ok]; exact hv
    · rw [if_neg h1] at hv ⊢
      exact pow_le (atom_le (fun _ => by omega) fun _ => chainS_le (chainS_le (fact_le r))) i v hv
/-- What is read is an expression. -/
def IsE (p : Nat → Prs) : Prop := ∀ i v, p i = .ok v → ∃ e, wf e ∧ fl e = v.1
theorem isE_lf {op i : Int} {N : List Nat} (h : ar op = 0) : ∃ e, wf e ∧ fl e = [(⟨op, i, N⟩ : M_tree_Node)] := ⟨.lf ⟨op, i, N⟩, h, rfl⟩
theorem comp_isE {op : Int} (ho : ar op = 0) {i : Nat} {v} (h : compS W E op i = .ok v) : ∃ e, wf e ∧ fl e = v.1 := by
  unfold compS at h
  obtain ⟨j, _, h⟩ := ebd_eq h
  obtain ⟨u, _, h⟩ := ebd_eq h
  obtain ⟨k, _, h⟩ := ebd_eq h
  cases h
  exact isE_lf ho
theorem atom_isE {r : Nat} {ex : Nat → Prs} (hx : r ≠ 0 → IsE ex) : IsE (atomS W E Nm r ex) := fun i v h => by
  unfold atomS at h
  split at h
  · cases h; exact isE_lf (by decide)
  split at h
  · cases h; exact isE_lf (by decide)
  split at h
  · exact comp_isE (by decide) h
  split at h
  · exact comp_isE (by decide) h
  split at h
  · split at h
    · cases h
    · rename_i h6
      obtain ⟨u, hu, h⟩ := ebd_eq h
      obtain ⟨j, _, h⟩ := ebd_eq h
      cases h
      obtain ⟨e, he, hf⟩ := hx h6 _ _ hu
      exact ⟨e, he, hf⟩
  · obtain ⟨u, _, h⟩ := ebd_eq h
    cases h; exact isE_lf (by decide)
theorem pow_isE {p : Nat → Prs} (hp : IsE p) : IsE (powS W E p) := fun i v h => by
  unfold powS at h
  obtain ⟨u, hu, h⟩ := ebd_eq h
  obtain ⟨e, he, hf⟩ := hp _ _ hu
  split at h
  · obtain ⟨x, _, h⟩ := ebd_eq h
    cases h
    refine ⟨.un _ e, ⟨?_, he⟩, by rw [fl, hf]⟩
    show ar 11 = 1
    decide
  · cases h; exact ⟨e, he, hf⟩
theorem chainL_isE {p : Nat → Prs} (hp : IsE p) {a b : List UInt8} {oa ob : Int} (ha : ar oa = 2) (hb : ar ob = 2) : ∀ (k : Nat) (c : List M_tree_Node) (j : Nat) (v), (∃ e, wf e ∧ fl e = c) → chainL W p a b oa ob k c j = .ok v → ∃ e, wf e ∧ fl e = v.1
  | 0, c, j, v, hc, h => by unfold chainL at h; cases h; exact hc
  | k + 1, c, j, v, hc, h => by
    obtain ⟨e, he, hf⟩ := hc
    unfold chainL at h
    split at h
    · obtain ⟨u, hu, h⟩ := ebd_eq h
      obtain ⟨d, hd, hg⟩ := hp _ _ hu
      exact chainL_isE hp ha hb k _ _ v ⟨.bi ⟨oa, 0, []⟩ e d, ⟨ha, he, hd⟩, by rw [fl, hf, hg, List.append_assoc]⟩ h
    · split at h
      · obtain ⟨u, hu, h⟩ := ebd_eq h
        obtain ⟨d, hd, hg⟩ := hp _ _ hu
        exact chainL_isE hp ha hb k _ _ v ⟨.bi ⟨ob, 0, []⟩ e d, ⟨hb, he, hd⟩, by rw [fl, hf, hg, List.append_assoc]⟩ h
      · cases h; exact ⟨e, he, hf⟩
theorem chainS_isE {p : Nat → Prs} (hp : IsE p) {a b : List UInt8} {oa ob : Int} (ha : ar oa = 2) (hb : ar ob = 2) : IsE (chainS W p a b oa ob) := fun i v h => by
  unfold chainS at h
  obtain ⟨u, hu, h⟩ := ebd_eq h
  exact chainL_isE hp ha hb _ _ _ v (hp _ _ hu) h
theorem exS_isE {f : Nat → Prs} (hf : IsE f) : IsE (exS W f) := chainS_isE (chainS_isE hf (by decide) (by decide)) (by decide) (by decide)
theorem fact_isE : ∀ (r : Nat), IsE (factS W E Nm r)
  | 0 => fun i v h => by
    unfold factS at h
    split at h
    · cases h
    · exact pow_isE (atom_isE fun h => absurd rfl h) i v h
  | r + 1 => fun i v h => by
    unfold factS at h
    split at h
    · obtain ⟨u, hu, h⟩ := ebd_eq h
      obtain ⟨e, he, hf⟩ := fact_isE r _ _ hu
      cases h
      refine ⟨.un _ e, ⟨?_, he⟩, by rw [fl, hf]⟩
      show ar 6 = 1
      decide
    · exact pow_isE (atom_isE fun _ => exS_isE (fact_isE r)) i v h
end
theorem code_right {s : List UInt8} {Nm : List (List UInt8)} {c : List M_tree_Node} (h : codeS s Nm = .ok c) : wrongT c < 0 := by
  unfold codeS at h
  split at h
  · cases h
  · cases hc : scanS s 0 with
    | inr p => rw [hc] at h; cases h
    | inl ws =>
      rw [hc] at h
      obtain ⟨v, hv, h⟩ := ebd_eq h
      split at h
      · cases h
      · cases h
        obtain ⟨e, he, hf⟩ := exS_isE (fact_isE 40) _ _ hv
        rw [← hf, wrong_fl he]; decide
end Go.Proofs.YtpomhkkhdojpiaaDoor
