import Derived.Test.YtpomhkkhdojpiaaDoorPlRt5
namespace Go.Proofs.YtpomhkkhdojpiaaDoor
open Go Go.RowKit
/-! ### Blanks: words alike are read alike -/
def okv {α : Type} : Except Int α → Option α
  | .ok v => some v
  | .error _ => none
theorem okv_ebd {α β : Type} (x : Except Int α) (k : α → Except Int β) : okv (ebd x k) = (okv x).bind fun v => okv (k v) := by cases x <;> rfl
theorem okv_ok {α : Type} {x : Except Int α} {v : α} : okv x = some v ↔ x = .ok v := by
  cases x with
  | ok u => exact ⟨fun h => congrArg Except.ok (Option.some.inj h), fun h => congrArg some (Except.ok.inj h)⟩
  | error p => exact ⟨fun h => (by cases h), fun h => (by cases h)⟩
/-- Words that differ in their places alone. -/
def Lk (W W' : List M_lex_Word) : Prop := W.length = W'.length ∧ ∀ i, (nxW W i).Text = (nxW W' i).Text ∧ (nxW W i).Kind = (nxW W' i).Kind
section
variable {W W' : List M_lex_Word} {E E' : Int} {Nm : List (List UInt8)} (h : Lk W W')
include h
theorem need_lk (t : List UInt8) (i : Nat) : okv (needS W E t i) = okv (needS W' E' t i) := by
  unfold needS; rw [(h.2 i).1]; split <;> rfl
theorem small_lk (i : Nat) : okv (smallS W E i) = okv (smallS W' E' i) := by
  unfold smallS; rw [(h.2 i).1, (h.2 i).2]; split <;> rfl
theorem name_lk (i : Nat) : okv (nameS W E i) = okv (nameS W' E' i) := by
  unfold nameS; rw [(h.2 i).1, (h.2 i).2]; split <;> rfl
theorem comp_lk (op : Int) (i : Nat) : okv (compS W E op i) = okv (compS W' E' op i) := by
  unfold compS
  rw [okv_ebd, okv_ebd, need_lk h (E' := E')]; congr 1; funext j
  rw [okv_ebd, okv_ebd, small_lk h (E' := E')]; congr 1; funext v
  rw [okv_ebd, okv_ebd, need_lk h (E' := E')]
theorem atom_lk {r : Nat} {ex ex' : Nat → Prs} (hx : ∀ i, okv (ex i) = okv (ex' i)) (i : Nat) : okv (atomS W E Nm r ex i) = okv (atomS W' E' Nm r ex' i) := by
  unfold atomS
  rw [(h.2 i).1, (h.2 i).2]
  by_cases h1 : (nxW W' i).Kind = 1
  · rw [if_pos h1, if_pos h1]
  rw [if_neg h1, if_neg h1]
  by_cases h2 : (nxW W' i).Text = [116]
  · rw [if_pos h2, if_pos h2]
  rw [if_neg h2, if_neg h2]
  by_cases h3 : (nxW W' i).Text = [121]
  · rw [if_pos h3, if_pos h3]; exact comp_lk h _ _
  rw [if_neg h3, if_neg h3]
  by_cases h4 : (nxW W' i).Text = [112]
  · rw [if_pos h4, if_pos h4]; exact comp_lk h _ _
  rw [if_neg h4, if_neg h4]
  by_cases h5 : (nxW W' i).Text = [40]
  · rw [if_pos h5, if_pos h5]
    by_cases h6 : r = 0
    · rw [if_pos h6, if_pos h6]; rfl
    rw [if_neg h6, if_neg h6, okv_ebd, okv_ebd, hx]; congr 1; funext v
    rw [okv_ebd, okv_ebd, need_lk h (E' := E')]
  rw [if_neg h5, if_neg h5, okv_ebd, okv_ebd, name_lk h (E' := E')]
theorem pow_lk {p p' : Nat → Prs} (hp : ∀ i, okv (p i) = okv (p' i)) (i : Nat) : okv (powS W E p i) = okv (powS W' E' p' i) := by
  unfold powS
  rw [okv_ebd, okv_ebd, hp]; congr 1; funext v
  rw [(h.2 v.2).1, (h.2 (v.2 + 1)).1]
  by_cases h1 : (nxW W' v.2).Text = [94]
  · rw [if_pos h1, if_pos h1, okv_ebd, okv_ebd, small_lk h (E' := E')]
  · rw [if_neg h1, if_neg h1]
theorem chainL_lk {p p' : Nat → Prs} (hp : ∀ i, okv (p i) = okv (p' i)) {a b : List UInt8} {oa ob : Int} : ∀ (k : Nat) (c : List M_tree_Node) (j : Nat), okv (chainL W p a b oa ob k c j) = okv (chainL W' p' a b oa ob k c j)
  | 0, c, j => rfl
  | k + 1, c, j => by
    unfold chainL
    rw [(h.2 j).1]
    by_cases h1 : (nxW W' j).Text = a
    · rw [if_pos h1, if_pos h1, okv_ebd, okv_ebd, hp]; congr 1; funext v; exact chainL_lk hp k _ _
    rw [if_neg h1, if_neg h1]
    by_cases h2 : (nxW W' j).Text = b
    · rw [if_pos h2, if_pos h2, okv_ebd, okv_ebd, hp]; congr 1; funext v; exact chainL_lk hp k _ _
    rw [if_neg h2, if_neg h2]
theorem chainS_lk {p p' : Nat → Prs} (hp : ∀ i, okv (p i) = okv (p' i)) {a b : List UInt8} {oa ob : Int} (i : Nat) : okv (chainS W p a b oa ob i) = okv (chainS W' p' a b oa ob i) := by
  unfold chainS
  rw [okv_ebd, okv_ebd, hp, h.1]; congr 1; funext v; exact chainL_lk h hp _ _ _
theorem exS_lk {f f' : Nat → Prs} (hf : ∀ i, okv (f i) = okv (f' i)) (i : Nat) : okv (exS W f i) = okv (exS W' f' i) := chainS_lk h (fun i => chainS_lk h hf i) i
theorem fact_lk : ∀ (r i : Nat), okv (factS W E Nm r i) = okv (factS W' E' Nm r i)
  | 0, i => by
    unfold factS; rw [(h.2 i).1]
    by_cases h1 : (nxW W' i).Text = [45]
    · rw [if_pos h1, if_pos h1]; rfl
    · rw [if_neg h1, if_neg h1]; exact pow_lk h (fun i => atom_lk h (fun _ => rfl) i) i
  | r + 1, i => by
    unfold factS; rw [(h.2 i).1]
    by_cases h1 : (nxW W' i).Text = [45]
    · rw [if_pos h1, if_pos h1, okv_ebd, okv_ebd, fact_lk r]
    · rw [if_neg h1, if_neg h1]; exact pow_lk h (fun i => atom_lk h (fun i => exS_lk h (fun i => fact_lk r i) i) i) i
theorem ex0_lk (i : Nat) : okv (ex0 W E Nm i) = okv (ex0 W' E' Nm i) := exS_lk h (fun i => fact_lk h 40 i) i
theorem lets_lk : ∀ (k : Nat) (Nm : List (List UInt8)) (L : List M_tree_Let) (i : Nat), okv (letsL W E k Nm L i) = okv (letsL W' E' k Nm L i)
  | 0, _, _, _ => rfl
  | k + 1, Nm, L, i => by
    unfold letsL; rw [(h.2 i).1]
    by_cases h1 : (nxW W' i).Text = [108, 101, 116]
    · rw [if_pos h1, if_pos h1, okv_ebd, okv_ebd, name_lk h (E' := E')]; congr 1; funext v
      rw [okv_ebd, okv_ebd, need_lk h (E' := E')]; congr 1; funext j
      rw [okv_ebd, okv_ebd, ex0_lk h (E' := E')]; congr 1; funext c
      rw [okv_ebd, okv_ebd, need_lk h (E' := E')]; congr 1; funext j
      exact lets_lk k _ _ _
    · rw [if_neg h1, if_neg h1]
theorem outs_lk : ∀ (k : Nat) (O : List (List M_tree_Node)) (i : Nat), okv (outsL W E Nm k O i) = okv (outsL W' E' Nm k O i)
  | 0, _, _ => rfl
  | k + 1, O, i => by
    unfold outsL; rw [(h.2 i).1]
    by_cases h1 : (nxW W' i).Text = [44]
    · rw [if_pos h1, if_pos h1, okv_ebd, okv_ebd, ex0_lk h (E' := E')]; congr 1; funext v
      exact outs_lk k _ _
    · rw [if_neg h1, if_neg h1]
theorem field_lk : okv (fieldS W E) = okv (fieldS W' E') := by
  unfold fieldS
  rw [okv_ebd, okv_ebd, h.1, lets_lk h (E' := E')]; congr 1; funext a
  rw [okv_ebd, okv_ebd, need_lk h (E' := E')]; congr 1; funext j
  rw [okv_ebd, okv_ebd, ex0_lk h (E' := E')]; congr 1; funext c
  rw [okv_ebd, okv_ebd, outs_lk h (E' := E')]; congr 1; funext b
  rw [okv_ebd, okv_ebd, need_lk h (E' := E')]
end
/-! #### The words of a text, with blanks between -/
theorem scan_sum : ∀ (m : Nat) (s : List UInt8) (i : Nat) (ws), s.length ≤ m → scanS s i = .inl ws → ((ws.map (·.Text)).flatten).length ≤ s.length
  | _, [], i, ws, _, h => by rw [scanS_nil] at h; cases h; simp
  | 0, c :: r, i, ws, hm, h => by simp at hm
  | m + 1, c :: r, i, ws, hm, h => by
    have hrm : r.length ≤ m := by simp at hm; omega
    rw [scanS_cons] at h
    split at h
    · have := scan_sum m r _ ws hrm h; simp only [List.length_cons]; omega
    · split at h
      · have := scan_sum m _ _ ws (Nat.le_trans (dropWhile_le _ r) hrm) h
        have := dropWhile_le (fun b : UInt8 => decide (b.toNat ≠ 10)) r; simp only [List.length_cons]; omega
      · split at h
        · cases h
        · split at h
          · cases h
          · cases hq : scanS (r.drop (tailK (kindC c.toNat) r).length) (i + 1 + (tailK (kindC c.toNat) r).length) with
            | inr p => rw [hq] at h; cases h
            | inl l =>
              rw [hq] at h
              cases h
              have := scan_sum m _ _ l (by rw [List.length_drop]; omega) hq
              have ht : (tailK (kindC c.toNat) r).length ≤ r.length := takeWhile_le _ r
              rw [List.length_drop] at this
              simp only [List.map_cons, List.flatten_cons, List.length_append, List.length_cons]; omega
theorem inter_ok {ts : List (List UInt8)} (h : ∀ t ∈ ts, ∃ k, wdB k t = true) : okP (List.intersperse [32] ts) ∧ (List.intersperse [32] ts).filter nbk = ts := by
  induction ts with
  | nil => exact ⟨trivial, rfl⟩
  | cons t r ih =>
    obtain ⟨k, hk⟩ := h t (.head _)
    obtain ⟨i1, i2⟩ := ih fun x hx => h x (.tail _ hx)
    cases r with
    | nil => exact ⟨okP_w trivial hk trivial, by rw [List.intersperse, filt_c (wd_nbk hk)]; rfl⟩
    | cons u r =>
      have e : List.intersperse [32] (t :: u :: r) = t :: [32] :: List.intersperse [32] (u :: r) := rfl
      rw [e]
      exact ⟨okP_w (okP_b i1) hk (sep_c (by decide) (by decide)), by rw [filt_c (wd_nbk hk), filt_b, i2]⟩
theorem join_len (ts : List (List UInt8)) : (Lib.join ts [32]).length ≤ (ts.flatten).length + ts.length := by
  induction ts with
  | nil => simp [Lib.join_nil]
  | cons t r ih =>
    cases r with
    | nil => simp [Lib.join_one]
    | cons u r =>
      have e : Lib.join (t :: u :: r) [32] = t ++ [32] ++ Lib.join (u :: r) [32] := by simp [Lib.join, List.intercalate, List.intersperse]
      rw [e]; simp only [List.length_append, List.length_cons, List.flatten_cons, List.length_nil] at ih ⊢; omega
theorem nx_map {W : List M_lex_Word} (i : Nat) : (nxW W i).Text = ((W.map (·.Text))[i]?).getD [] := by
  unfold nxW; rw [List.getElem?_map]; cases W[i]? <;> rfl
theorem Lk_of {W W' : List M_lex_Word} (hW : WOk W) (hW' : WOk W') (h : W.map (·.Text) = W'.map (·.Text)) : Lk W W' := by
  have hl : W.length = W'.length := by have := congrArg List.length h; simpa using this
  have ht : ∀ i, (nxW W i).Text = (nxW W' i).Text := fun i => by rw [nx_map, nx_map, h]
  refine ⟨hl, fun i => ⟨ht i, ?_⟩⟩
  rcases Nat.lt_or_ge i W.length with hi | hi
  · have h1 := hW.2 _ (nxW_mem hi)
    have h2 := hW'.2 _ (nxW_mem (W := W') (i := i) (by omega))
    rw [← ht i] at h2
    cases hT : (nxW W i).Text with
    | nil => rw [hT] at h1; cases h1
    | cons c t =>
      rw [hT] at h1 h2
      exact ((wdB_cons _ _ _).1 h1).2.1.symm.trans ((wdB_cons _ _ _).1 h2).2.1
  · rw [nxW_end hi, nxW_end (by omega)]
/-- The words, with blanks between, are the same field. -/
theorem parse_words {s : List UInt8} {ws : List M_retrospectref16_Word} (hs : s.length ≤ 1500) (hw : scanS s 0 = .inl ws) :
    okv (parseS s) = okv (parseS (Lib.join (ws.map (·.Text)) [32])) ∧ (Lib.join (ws.map (·.Text)) [32]).length ≤ 3000 := by
  have h1 := scan_ok _ s 0 ws (Nat.le_refl _) hw
  have h2 := scan_sum _ s 0 ws (Nat.le_refl _) hw
  have h3 := join_len (ws.map (·.Text))
  rw [List.length_map] at h3
  obtain ⟨i1, i2⟩ := inter_ok (ts := ws.map (·.Text)) (fun t ht => by
    obtain ⟨w, hw, rfl⟩ := List.mem_map.1 ht
    exact ⟨w.Kind, (h1.2 w hw).2⟩)
  obtain ⟨vs, e1, e2⟩ := scan_pcs _ 0 i1
  rw [i2] at e2
  have e3 : (List.intersperse [32] (ws.map (·.Text))).flatten = Lib.join (ws.map (·.Text)) [32] := rfl
  rw [e3] at e1
  have hV := scan_VOk (by omega) hw
  have hV' := scan_VOk (s := Lib.join (ws.map (·.Text)) [32]) (by omega) e1
  have hL : Lk (ws.map toX) (vs.map toX) := Lk_of hV.1 hV'.1 (by
    rw [List.map_map, List.map_map]
    exact e2.symm)
  refine ⟨?_, by omega⟩
  unfold parseS
  rw [if_neg (by omega), if_neg (by omega), hw, e1]
  simp only []
  rw [okv_ebd, okv_ebd, field_lk hL (E' := ((Lib.join (ws.map (·.Text)) [32]).length : Int))]
  congr 1; funext v
  have hl : ws.length = vs.length := by have := congrArg List.length e2; simpa using this.symm
  rw [hl]
  by_cases hv : v.2 < vs.length
  · rw [if_pos hv, if_pos hv]; rfl
  · rw [if_neg hv, if_neg hv]
end Go.Proofs.YtpomhkkhdojpiaaDoor
