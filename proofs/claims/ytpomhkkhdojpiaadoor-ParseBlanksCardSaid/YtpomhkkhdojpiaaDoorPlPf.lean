import Derived.Test.YtpomhkkhdojpiaaDoorPlPs6
namespace Go.Proofs.YtpomhkkhdojpiaaDoor
open Go Go.RowKit
def NO (x : M_tree_Node) : Prop := x.N.length ≤ 100 ∧ Wd x.N
def pFOk (f : M_tree_Field) : Prop := f.Lets.length ≤ 5000 ∧ f.Outs.length ≤ 5000 ∧ ∀ c ∈ codesT f, c.length ≤ 5000 ∧ ∀ x ∈ c, NO x
/-! #### Nodes that are read -/
def PN (p : Nat → Prs) : Prop := ∀ i v, p i = .ok v → ∀ x ∈ v.1, NO x
theorem NO_nil {a b : Int} : NO ⟨a, b, []⟩ := ⟨by simp, Wd_nil⟩
theorem mem_snoc2 {c d : List M_tree_Node} {y x : M_tree_Node} (h : x ∈ c ++ d ++ [y]) : x ∈ c ∨ x ∈ d ∨ x = y := by simpa using h
section
variable {W : List M_lex_Word} {E : Int} {Nm : List (List UInt8)}
theorem compS_PN {op : Int} {i : Nat} {v} (h : compS W E op i = .ok v) : ∀ x ∈ v.1, NO x := by
  unfold compS at h
  obtain ⟨j, _, h⟩ := ebd_eq h
  obtain ⟨u, _, h⟩ := ebd_eq h
  obtain ⟨k, _, h⟩ := ebd_eq h
  cases h
  intro x hx
  rw [List.mem_singleton.1 hx]; exact NO_nil
theorem atomS_PN (hW : WOk W) {r : Nat} {ex : Nat → Prs} (hx : r ≠ 0 → PN ex) : PN (atomS W E Nm r ex) := by
  intro i v h
  unfold atomS at h
  split at h
  · rename_i h1
    obtain ⟨hD, _, hl⟩ := word1 hW h1
    cases h
    intro x hx
    rw [List.mem_singleton.1 hx]
    exact ⟨by have := numD_len hD; simp only []; omega, Wd_toL _⟩
  split at h
  · cases h; intro x hx; rw [List.mem_singleton.1 hx]; exact NO_nil
  split at h
  · exact compS_PN h
  split at h
  · exact compS_PN h
  split at h
  · split at h
    · cases h
    · rename_i h6
      obtain ⟨u, hu, h⟩ := ebd_eq h
      obtain ⟨j, _, h⟩ := ebd_eq h
      cases h
      exact fun x hxm => hx h6 _ _ hu x hxm
  · obtain ⟨u, _, h⟩ := ebd_eq h
    cases h; intro x hx; rw [List.mem_singleton.1 hx]; exact NO_nil
theorem powS_PN {p : Nat → Prs} (hp : PN p) : PN (powS W E p) := by
  intro i v h
  unfold powS at h
  obtain ⟨u, hu, h⟩ := ebd_eq h
  split at h
  · obtain ⟨e, _, h⟩ := ebd_eq h
    cases h
    intro x hx
    rcases List.mem_append.1 hx with hx | hx
    · exact hp _ _ hu x hx
    · rw [List.mem_singleton.1 hx]; exact NO_nil
  · cases h; exact hp _ _ hu
theorem chainL_PN {p : Nat → Prs} (hp : PN p) {a b : List UInt8} {oa ob : Int} : ∀ (k : Nat) (c : List M_tree_Node) (j : Nat) (v), (∀ x ∈ c, NO x) → chainL W p a b oa ob k c j = .ok v → ∀ x ∈ v.1, NO x
  | 0, c, j, v, hc, h => by unfold chainL at h; cases h; exact hc
  | k + 1, c, j, v, hc, h => by
    unfold chainL at h
    have step : ∀ (o : Int) (u : List M_tree_Node × Nat), p (j + 1) = .ok u → ∀ x ∈ c ++ u.1 ++ [(⟨o, 0, []⟩ : M_tree_Node)], NO x := by
      intro o u hu x hx
      rcases mem_snoc2 hx with hx | hx | rfl
      · exact hc x hx
      · exact hp _ _ hu x hx
      · exact NO_nil
    split at h
    · obtain ⟨u, hu, h⟩ := ebd_eq h
      exact chainL_PN hp k _ _ v (step oa u hu) h
    · split at h
      · obtain ⟨u, hu, h⟩ := ebd_eq h
        exact chainL_PN hp k _ _ v (step ob u hu) h
      · cases h; exact hc
theorem chainS_PN {p : Nat → Prs} (hp : PN p) {a b : List UInt8} {oa ob : Int} : PN (chainS W p a b oa ob) := by
  intro i v h
  unfold chainS at h
  obtain ⟨u, hu, h⟩ := ebd_eq h
  exact chainL_PN hp _ _ _ v (hp _ _ hu) h
theorem exS_PN {f : Nat → Prs} (hf : PN f) : PN (exS W f) := chainS_PN (chainS_PN hf)
theorem factS_PN (hW : WOk W) : ∀ (r : Nat), PN (factS W E Nm r)
  | 0 => fun i v h => by
    unfold factS at h
    split at h
    · cases h
    · exact powS_PN (atomS_PN hW fun h => absurd rfl h) i v h
  | r + 1 => fun i v h => by
    unfold factS at h
    split at h
    · obtain ⟨u, hu, h⟩ := ebd_eq h
      cases h
      intro x hx
      rcases List.mem_append.1 hx with hx | hx
      · exact factS_PN hW r _ _ hu x hx
      · rw [List.mem_singleton.1 hx]; exact NO_nil
    · exact powS_PN (atomS_PN hW fun _ => exS_PN (factS_PN hW r)) i v h
theorem ex0_PN (hW : WOk W) : PN (ex0 W E Nm) := exS_PN (factS_PN hW 40)
theorem ex0_fine (hW : WOk W) {i : Nat} {v} (h : ex0 W E Nm i = .ok v) : v.1.length ≤ 5000 ∧ ∀ x ∈ v.1, NO x :=
  ⟨by have := ex0_PO _ _ h; have := hW.1; omega, ex0_PN hW _ _ h⟩
theorem letsL_fine (hW : WOk W) : ∀ (k : Nat) (Nm : List (List UInt8)) (L : List M_tree_Let) (i : Nat) (v), (∀ l ∈ L, l.Code.length ≤ 5000 ∧ ∀ x ∈ l.Code, NO x) → letsL W E k Nm L i = .ok v → ∀ l ∈ v.1.1, l.Code.length ≤ 5000 ∧ ∀ x ∈ l.Code, NO x
  | 0, Nm, L, i, v, hL, h => by unfold letsL at h; cases h; exact hL
  | k + 1, Nm, L, i, v, hL, h => by
    unfold letsL at h
    split at h
    · obtain ⟨a, _, h⟩ := ebd_eq h
      obtain ⟨j, _, h⟩ := ebd_eq h
      obtain ⟨c, hc, h⟩ := ebd_eq h
      obtain ⟨j', _, h⟩ := ebd_eq h
      refine letsL_fine hW k _ _ _ v (fun l hl => ?_) h
      rcases List.mem_append.1 hl with hl | hl
      · exact hL l hl
      · rw [List.mem_singleton.1 hl]; exact ex0_fine hW hc
    · cases h; exact hL
theorem outsL_fine (hW : WOk W) {Nm} : ∀ (k : Nat) (O : List (List M_tree_Node)) (i : Nat) (v), (∀ c ∈ O, c.length ≤ 5000 ∧ ∀ x ∈ c, NO x) → outsL W E Nm k O i = .ok v → ∀ c ∈ v.1, c.length ≤ 5000 ∧ ∀ x ∈ c, NO x
  | 0, O, i, v, hO, h => by unfold outsL at h; cases h; exact hO
  | k + 1, O, i, v, hO, h => by
    unfold outsL at h
    split at h
    · obtain ⟨c, hc, h⟩ := ebd_eq h
      refine outsL_fine hW k _ _ v (fun l hl => ?_) h
      rcases List.mem_append.1 hl with hl | hl
      · exact hO l hl
      · rw [List.mem_singleton.1 hl]; exact ex0_fine hW hc
    · cases h; exact hO
theorem fieldS_fine (hW : WOk W) {v} (h : fieldS W E = .ok v) : pFOk v.1.1 := by
  have hWl := hW.1
  unfold fieldS at h
  obtain ⟨a, ha, h⟩ := ebd_eq h
  obtain ⟨j, hj, h⟩ := ebd_eq h
  obtain ⟨c, hc, h⟩ := ebd_eq h
  obtain ⟨b, hb, h⟩ := ebd_eq h
  obtain ⟨k, hk, h⟩ := ebd_eq h
  cases h
  have g0 := letsL_ok _ _ _ _ _ (Nat.zero_le _) (Nat.le_refl _) (Nat.le_refl _) ha
  obtain ⟨rfl, g1⟩ := needS_ok (by simp) hj
  have g2 := ex0_PO _ _ hc
  have g3 := outsL_ok _ _ _ _ (by omega) (by simp; omega) hb
  have f1 := letsL_fine hW _ _ _ _ _ (fun l hl => by cases hl) ha
  have f2 := outsL_fine hW _ _ _ _ (fun l hl => by rw [List.mem_singleton.1 hl]; exact ex0_fine hW hc) hb
  refine ⟨by simp only []; omega, by simp only []; omega, fun d hd => ?_⟩
  unfold codesT at hd
  rcases List.mem_append.1 hd with hd | hd
  · obtain ⟨l, hl, rfl⟩ := List.mem_map.1 hd
    exact f1 l hl
  · exact f2 d hd
end
theorem parseS_fine {s : List UInt8} {f : M_tree_Field} (h : parseS s = .ok f) : pFOk f := by
  unfold parseS at h
  split at h
  · cases h
  · rename_i hs
    cases hc : scanS s 0 with
    | inr p => rw [hc] at h; cases h
    | inl ws =>
      rw [hc] at h
      have hV := scan_VOk (by omega) hc
      obtain ⟨v, hv, h⟩ := ebd_eq h
      split at h
      · cases h
      · cases h; exact fieldS_fine hV.1 hv
end Go.Proofs.YtpomhkkhdojpiaaDoor
