import Derived.Test.YtpomhkkhdojpiaaGreatDoorPlPs7
import Derived.Test.YtpomhkkhdojpiaaGreatDoorPlLp
import Derived.KernelRfl
namespace Go.Proofs.YtpomhkkhdojpiaaGreatDoor
open Go Go.RowKit
/-! ### A field is the same as itself -/
theorem r02_At_eq {a : List Nat} {j : Nat} (h : j < a.length) : m_retrospectref02_At a (j : Int) = some a[j] := by
  unfold m_retrospectref02_At
  rw [bifd, if_pos (by omega), getI_get h, sbind]
theorem r02_self {n : Nat} {a : List Nat} (hn : 1000000 ≤ n) (ha : a.length ≤ 100000) : m_retrospectref02_Cmp n a a = some 0 := by
  unfold m_retrospectref02_Cmp
  rw [show max (a.length : Int) (a.length : Int) = (a.length : Int) by omega, w64 (by omega) (by omega)]
  refine (loop_acc (fun i : Nat => (a.length : Int) - 1 - i) a.length (Lp.go ()) (fun i hi => ?_) ?_ (by omega) (by simp)).trans (lpK_go _ _)
  · have e : (a.length : Int) - 1 - (i : Int) = ((a.length - 1 - i : Nat) : Int) := by omega
    simp only [bifd]
    rw [if_pos (by omega), e, r02_At_eq (by omega), sbind, sbind, if_neg (by omega), if_neg (by omega), w64 (by omega) (by omega)]
    congr 2; omega
  · simp only [bifd]
    rw [if_neg (by omega)]
def NO (x : M_tree_Node) : Prop := x.N.length ≤ 100 ∧ Wd x.N
def dOk (c : List M_retrospectref17_Node) : Prop := c.length ≤ 10000 ∧ ∀ x ∈ c, x.N.length ≤ 100000
theorem m_ref17_Same_self {n : Nat} {c : List M_retrospectref17_Node} (hn : 1000000 ≤ n) (hc : dOk c) : m_retrospectref17_Same n c c = some true := by
  unfold m_retrospectref17_Same
  have h1 := hc.1
  rw [bifnd, if_pos rfl]
  refine (loop_acc (fun i : Nat => (i : Int)) c.length (Lp.go ()) (fun i hi => ?_) ?_ (by omega) (by simp)).trans (lpK_go _ _)
  · simp only [bifd, jn_eq]
    rw [if_pos (by omega), getI_get hi]
    simp only [sbind, bifnd]
    rw [if_pos trivial, if_pos trivial, r02_self hn (hc.2 _ (List.getElem_mem hi)), sbind, if_pos rfl, w1n (by omega)]
  · simp only [bifd]; rw [if_neg (by omega)]
def dFOk (f : M_retrospectref17_Field) : Prop := f.Lets.length ≤ 10000 ∧ f.Outs.length ≤ 10000 ∧ ∀ c ∈ f.Lets.map (·.Code) ++ f.Outs, dOk c
theorem m_ref17_Codes_big {n : Nat} {f : M_retrospectref17_Field} (hn : big ≤ n) (h1 : f.Lets.length ≤ 10000) (h2 : f.Outs.length ≤ 10000) : m_retrospectref17_Codes n f = some (f.Lets.map (·.Code) ++ f.Outs) := by
  unfold m_retrospectref17_Codes
  unfold big at hn
  refine loop_bnd (fun s i => (s, (i : Int))) (fun i (x : M_retrospectref17_Let) s => .inl (s ++ [x.Code])) (fun s => s) (fun i s => s.length = i) f.Lets [] (fun i x s hx hI => ?_) (fun s _ => by simp []) rfl (by omega) ?_
  · have hi := lt_of_get hx
    refine ⟨?_, fun b' hb => by cases hb; simp [hI]⟩
    simp only [bifd, if_pos (show (i : Int) < (f.Lets.length : Int) by omega), getI_of hx, sbind]
    rw [appM_ok (by simp; omega) (by simp; omega), sbind, w1 (by omega)]; rfl
  · rw [runG_fold (fun (x : M_retrospectref17_Let) s => s ++ [x.Code]), foldl_snoc, List.nil_append, appM_ok (by simp; omega) (by simp; omega), sbind]
theorem m_ref17_SameField_self {n : Nat} {f : M_retrospectref17_Field} (hn : big ≤ n) (hf : dFOk f) : m_retrospectref17_SameField n f f = some true := by
  unfold m_retrospectref17_SameField
  have hb : 1000000 ≤ n := by unfold big at hn; omega
  obtain ⟨h1, h2, h3⟩ := hf
  simp only [jn_eq, bifnd]
  rw [if_pos trivial, if_pos trivial]
  refine (loop_acc (fun i : Nat => (i : Int)) f.Lets.length (Lp.go ()) (fun i hi => ?_) ?_ (by omega) (by simp)).trans ?_
  · simp only [bifd]
    rw [if_pos (by omega), getI_get hi]
    simp only [sbind]
    rw [if_pos trivial, w1n (by omega)]
  · simp only [bifd]; rw [if_neg (by omega)]
  · rw [lpK_go, m_ref17_Codes_big hn h1 h2, sbind, sbind]
    have hl : (f.Lets.map (·.Code) ++ f.Outs).length ≤ 20000 := by simp; omega
    refine (loop_acc (fun i : Nat => (i : Int)) (f.Lets.map (·.Code) ++ f.Outs).length (Lp.go ()) (fun i hi => ?_) ?_ (by omega) (by simp)).trans (lpK_go _ _)
    · simp only [bifd]
      rw [if_pos (by omega), getI_get hi]
      simp only [sbind]
      rw [m_ref17_Same_self hb (h3 _ (List.getElem_mem hi)), sbind, show (!true) = false by rfl, bifF, w1n (by omega)]
    · simp only [bifd]; rw [if_neg (by omega)]
/-! #### The laws' way from the program's field to the document's -/
theorem m_law17_Of_eq {n : Nat} {c : List M_tree_Node} (hn : big ≤ n) (hc : c.length ≤ 1000000000) : m_retrospectlaw17_Of n c = some (c.map dN) := by
  unfold m_retrospectlaw17_Of
  unfold big at hn
  refine loop_bnd (fun s i => (s, (i : Int))) (fun i (x : M_tree_Node) s => .inl (s ++ [dN x])) (fun s => s) (fun i s => s.length = i) c [] (fun i x s hx hI => ?_) (fun s _ => by simp []) rfl (by omega) ?_
  · have hi := lt_of_get hx
    refine ⟨?_, fun b' hb => by cases hb; simp [hI]⟩
    simp only [bifd, if_pos (show (i : Int) < (c.length : Int) by omega), getI_of hx, sbind]
    rw [appM_ok (by simp; omega) (by simp; omega), sbind, w1 (by omega)]; rfl
  · rw [runG_fold (fun (x : M_tree_Node) s => s ++ [dN x]), foldl_snoc, List.nil_append]
def pFOk (f : M_tree_Field) : Prop := f.Lets.length ≤ 5000 ∧ f.Outs.length ≤ 5000 ∧ ∀ c ∈ codesT f, c.length ≤ 5000 ∧ ∀ x ∈ c, NO x
theorem m_law17_OfField_eq {n : Nat} {f : M_tree_Field} (hn : big ≤ n) (h : pFOk f) : m_retrospectlaw17_OfField n f = some (dF f) := by
  unfold m_retrospectlaw17_OfField
  obtain ⟨h1, h2, h3⟩ := h
  unfold codesT at h3
  have hn' := hn
  unfold big at hn
  refine loop_bnd (fun s i => (s, (i : Int))) (fun i (x : M_tree_Let) s => .inl (s ++ [dL x])) (fun s => s) (fun i s => s.length = i) f.Lets [] (fun i x s hx hI => ?_) (fun s _ => by simp []) rfl (by omega) ?_
  · have hi := lt_of_get hx
    refine ⟨?_, fun b' hb => by cases hb; simp [hI]⟩
    have hx' := (h3 x.Code (List.mem_append_left _ (List.mem_map_of_mem (mem_of_get hx)))).1
    simp only [bifd, if_pos (show (i : Int) < (f.Lets.length : Int) by omega), getI_of hx, sbind]
    rw [m_law17_Of_eq hn' (by omega), sbind, appM_ok (by simp; omega) (by simp; omega), sbind, w1 (by omega)]; rfl
  · rw [runG_fold (fun (x : M_tree_Let) s => s ++ [dL x]), foldl_snoc, List.nil_append]
    refine loop_bnd (fun s i => (s, (i : Int))) (fun i (x : List M_tree_Node) s => .inl (s ++ [x.map dN])) (fun s => s) (fun i s => s.length = i) f.Outs [] (fun i x s hx hI => ?_) (fun s _ => by simp []) rfl (by omega) ?_
    · have hi := lt_of_get hx
      refine ⟨?_, fun b' hb => by cases hb; simp [hI]⟩
      have hx' := (h3 x (List.mem_append_right _ (mem_of_get hx))).1
      simp only [bifd, if_pos (show (i : Int) < (f.Outs.length : Int) by omega), getI_of hx, sbind]
      rw [m_law17_Of_eq hn' (by omega), sbind, appM_ok (by simp; omega) (by simp; omega), sbind, w1 (by omega)]; rfl
    · rw [runG_fold (fun (x : List M_tree_Node) s => s ++ [x.map dN]), foldl_snoc, List.nil_append]; rfl
theorem dOk_map {c : List M_tree_Node} (h : c.length ≤ 5000 ∧ ∀ x ∈ c, NO x) : dOk (c.map dN) := by
  refine ⟨by rw [List.length_map]; omega, fun x hx => ?_⟩
  obtain ⟨y, hy, rfl⟩ := List.mem_map.1 hx
  have := (h.2 y hy).1
  show y.N.length ≤ _
  omega
theorem dFOk_map {f : M_tree_Field} (h : pFOk f) : dFOk (dF f) := by
  obtain ⟨h1, h2, h3⟩ := h
  unfold codesT at h3
  refine ⟨by show (f.Lets.map dL).length ≤ _; rw [List.length_map]; omega, by show (f.Outs.map _).length ≤ _; rw [List.length_map]; omega, fun c hc => ?_⟩
  rcases List.mem_append.1 hc with hc | hc
  · obtain ⟨l, hl, rfl⟩ := List.mem_map.1 hc
    obtain ⟨l', hl', rfl⟩ := List.mem_map.1 hl
    exact dOk_map (h3 _ (List.mem_append_left _ (List.mem_map_of_mem hl')))
  · obtain ⟨c', hc', rfl⟩ := List.mem_map.1 hc
    exact dOk_map (h3 _ (List.mem_append_right _ hc'))
/-! #### Nodes that are read -/
def PN (p : Nat → Prs) : Prop := ∀ i v, p i = .ok v → ∀ x ∈ v.1, NO x
theorem NO_nil {a b : Int} : NO ⟨a, b, []⟩ := ⟨by simp, Wd_nil⟩
theorem mem_snoc2 {c d : List M_tree_Node} {y x : M_tree_Node} (h : x ∈ c ++ d ++ [y]) : x ∈ c ∨ x ∈ d ∨ x = y := by simpa using h
section
variable {W : List M_lex_Word} {E : Int} {Nm : List (List UInt8)}
theorem compS_PN {op : Int} {i : Nat} {v} (h : compS W E op i = .ok v) : ∀ x ∈ v.1, NO x := by
  unfold compS at h
  obtain ⟨j, _, h⟩ := ebd_eq h
  obtain ⟨u, _, h⟩ := ebd_eq h
  obtain ⟨k, _, h⟩ := ebd_eq h
  cases h
  intro x hx
  rw [List.mem_singleton.1 hx]; exact NO_nil
theorem atomS_PN (hW : WOk W) {r : Nat} {ex : Nat → Prs} (hx : r ≠ 0 → PN ex) : PN (atomS W E Nm r ex) := by
  intro i v h
  unfold atomS at h
  split at h
  · rename_i h1
    obtain ⟨hD, _, hl⟩ := word1 hW h1
    cases h
    intro x hx
    rw [List.mem_singleton.1 hx]
    exact ⟨by have := numD_len hD; simp only []; omega, Wd_toL _⟩
  split at h
  · cases h; intro x hx; rw [List.mem_singleton.1 hx]; exact NO_nil
  split at h
  · exact compS_PN h
  split at h
  · exact compS_PN h
  split at h
  · split at h
    · cases h
    · rename_i h6
      obtain ⟨u, hu, h⟩ := ebd_eq h
      obtain ⟨j, _, h⟩ := ebd_eq h
      cases h
      exact fun x hxm => hx h6 _ _ hu x hxm
  · obtain ⟨u, _, h⟩ := ebd_eq h
    cases h; intro x hx; rw [List.mem_singleton.1 hx]; exact NO_nil
theorem powS_PN {p : Nat → Prs} (hp : PN p) : PN (powS W E p) := by
  intro i v h
  unfold powS at h
  obtain ⟨u, hu, h⟩ := ebd_eq h
  split at h
  · obtain ⟨e, _, h⟩ := ebd_eq h
    cases h
    intro x hx
    rcases List.mem_append.1 hx with hx | hx
    · exact hp _ _ hu x hx
    · rw [List.mem_singleton.1 hx]; exact NO_nil
  · cases h; exact hp _ _ hu
theorem chainL_PN {p : Nat → Prs} (hp : PN p) {a b : List UInt8} {oa ob : Int} : ∀ (k : Nat) (c : List M_tree_Node) (j : Nat) (v), (∀ x ∈ c, NO x) → chainL W p a b oa ob k c j = .ok v → ∀ x ∈ v.1, NO x
  | 0, c, j, v, hc, h => by unfold chainL at h; cases h; exact hc
  | k + 1, c, j, v, hc, h => by
    unfold chainL at h
    have step : ∀ (o : Int) (u : List M_tree_Node × Nat), p (j + 1) = .ok u → ∀ x ∈ c ++ u.1 ++ [(⟨o, 0, []⟩ : M_tree_Node)], NO x := by
      intro o u hu x hx
      rcases mem_snoc2 hx with hx | hx | rfl
      · exact hc x hx
      · exact hp _ _ hu x hx
      · exact NO_nil
    split at h
    · obtain ⟨u, hu, h⟩ := ebd_eq h
      exact chainL_PN hp k _ _ v (step oa u hu) h
    · split at h
      · obtain ⟨u, hu, h⟩ := ebd_eq h
        exact chainL_PN hp k _ _ v (step ob u hu) h
      · cases h; exact hc
theorem chainS_PN {p : Nat → Prs} (hp : PN p) {a b : List UInt8} {oa ob : Int} : PN (chainS W p a b oa ob) := by
  intro i v h
  unfold chainS at h
  obtain ⟨u, hu, h⟩ := ebd_eq h
  exact chainL_PN hp _ _ _ v (hp _ _ hu) h
theorem exS_PN {f : Nat → Prs} (hf : PN f) : PN (exS W f) := chainS_PN (chainS_PN hf)
theorem factS_PN (hW : WOk W) : ∀ (r : Nat), PN (factS W E Nm r)
  | 0 => fun i v h => by
    unfold factS at h
    split at h
    · cases h
    · exact powS_PN (atomS_PN hW fun h => absurd rfl h) i v h
  | r + 1 => fun i v h => by
    unfold factS at h
    split at h
    · obtain ⟨u, hu, h⟩ := ebd_eq h
      cases h
      intro x hx
      rcases List.mem_append.1 hx with hx | hx
      · exact factS_PN hW r _ _ hu x hx
      · rw [List.mem_singleton.1 hx]; exact NO_nil
    · exact powS_PN (atomS_PN hW fun _ => exS_PN (factS_PN hW r)) i v h
theorem ex0_PN (hW : WOk W) : PN (ex0 W E Nm) := exS_PN (factS_PN hW 40)
theorem ex0_fine (hW : WOk W) {i : Nat} {v} (h : ex0 W E Nm i = .ok v) : v.1.length ≤ 5000 ∧ ∀ x ∈ v.1, NO x :=
  ⟨by have := ex0_PO _ _ h; have := hW.1; omega, ex0_PN hW _ _ h⟩
theorem letsL_fine (hW : WOk W) : ∀ (k : Nat) (Nm : List (List UInt8)) (L : List M_tree_Let) (i : Nat) (v), (∀ l ∈ L, l.Code.length ≤ 5000 ∧ ∀ x ∈ l.Code, NO x) → letsL W E k Nm L i = .ok v → ∀ l ∈ v.1.1, l.Code.length ≤ 5000 ∧ ∀ x ∈ l.Code, NO x
  | 0, Nm, L, i, v, hL, h => by unfold letsL at h; cases h; exact hL
  | k + 1, Nm, L, i, v, hL, h => by
    unfold letsL at h
    split at h
    · obtain ⟨a, _, h⟩ := ebd_eq h
      obtain ⟨j, _, h⟩ := ebd_eq h
      obtain ⟨c, hc, h⟩ := ebd_eq h
      obtain ⟨j', _, h⟩ := ebd_eq h
      refine letsL_fine hW k _ _ _ v (fun l hl => ?_) h
      rcases List.mem_append.1 hl with hl | hl
      · exact hL l hl
      · rw [List.mem_singleton.1 hl]; exact ex0_fine hW hc
    · cases h; exact hL
theorem outsL_fine (hW : WOk W) {Nm} : ∀ (k : Nat) (O : List (List M_tree_Node)) (i : Nat) (v), (∀ c ∈ O, c.length ≤ 5000 ∧ ∀ x ∈ c, NO x) → outsL W E Nm k O i = .ok v → ∀ c ∈ v.1, c.length ≤ 5000 ∧ ∀ x ∈ c, NO x
  | 0, O, i, v, hO, h => by unfold outsL at h; cases h; exact hO
  | k + 1, O, i, v, hO, h => by
    unfold outsL at h
    split at h
    · obtain ⟨c, hc, h⟩ := ebd_eq h
      refine outsL_fine hW k _ _ v (fun l hl => ?_) h
      rcases List.mem_append.1 hl with hl | hl
      · exact hO l hl
      · rw [List.mem_singleton.1 hl]; exact ex0_fine hW hc
    · cases h; exact hO
theorem fieldS_fine (hW : WOk W) {v} (h : fieldS W E = .ok v) : pFOk v.1.1 := by
  have hWl := hW.1
  unfold fieldS at h
  obtain ⟨a, ha, h⟩ := ebd_eq h
  obtain ⟨j, hj, h⟩ := ebd_eq h
  obtain ⟨c, hc, h⟩ := ebd_eq h
  obtain ⟨b, hb, h⟩ := ebd_eq h
  obtain ⟨k, hk, h⟩ := ebd_eq h
  cases h
  have g0 := letsL_ok _ _ _ _ _ (Nat.zero_le _) (Nat.le_refl _) (Nat.le_refl _) ha
  obtain ⟨rfl, g1⟩ := needS_ok (by simp) hj
  have g2 := ex0_PO _ _ hc
  have g3 := outsL_ok _ _ _ _ (by omega) (by simp; omega) hb
  have f1 := letsL_fine hW _ _ _ _ _ (fun l hl => by cases hl) ha
  have f2 := outsL_fine hW _ _ _ _ (fun l hl => by rw [List.mem_singleton.1 hl]; exact ex0_fine hW hc) hb
  refine ⟨by simp only []; omega, by simp only []; omega, fun d hd => ?_⟩
  unfold codesT at hd
  rcases List.mem_append.1 hd with hd | hd
  · obtain ⟨l, hl, rfl⟩ := List.mem_map.1 hd
    exact f1 l hl
  · exact f2 d hd
end
theorem parseS_fine {s : List UInt8} {f : M_tree_Field} (h : parseS s = .ok f) : pFOk f := by
  unfold parseS at h
  split at h
  · cases h
  · rename_i hs
    cases hc : scanS s 0 with
    | inr p => rw [hc] at h; cases h
    | inl ws =>
      rw [hc] at h
      have hV := scan_VOk (by omega) hc
      obtain ⟨v, hv, h⟩ := ebd_eq h
      split at h
      · cases h
      · cases h; exact fieldS_fine hV.1 hv
theorem codeS_fine {s : List UInt8} {Nm} {c : List M_tree_Node} (h : codeS s Nm = .ok c) : c.length ≤ 5000 ∧ ∀ x ∈ c, NO x := by
  unfold codeS at h
  split at h
  · cases h
  · rename_i hs
    cases hc : scanS s 0 with
    | inr p => rw [hc] at h; cases h
    | inl ws =>
      rw [hc] at h
      have hV := scan_VOk (by omega) hc
      obtain ⟨v, hv, h⟩ := ebd_eq h
      split at h
      · cases h
      · cases h; exact ex0_fine hV.1 hv
theorem m_law18_Fault_eq (q : Int) : m_retrospectlaw18_Fault q = some (if q < 0 then ⟨0, 0, 0, 0⟩ else flt q) := by
  unfold m_retrospectlaw18_Fault
  rw [bifd]; split <;> rfl
def bigP : Nat := 18446744073709551716
theorem law18_works : m_retrospectlaw18_works bigP = some true := by kernel_rfl
theorem parse_err {n : Nat} {s : List UInt8} (hn : big + 100 ≤ n) {q : Int} (h : parseS s = .error q) : 0 ≤ q := by
  unfold parseS at h
  split at h
  · cases h; decide
  · rename_i hs
    cases hc : scanS s 0 with
    | inr p => rw [hc] at h; cases h; exact Int.natCast_nonneg _
    | inl ws =>
      rw [hc] at h
      have hV := scan_VOk (by omega) hc
      have hf := r_field hV hn
      cases hv : fieldS (ws.map toX) (s.length : Int) with
      | error p => rw [hv] at hf; simp only [] at h; rw [hv, ebd_err] at h; cases h; exact hf.1
      | ok v =>
        simp only [] at h
        rw [hv, ebd_ok] at h
        split at h
        · cases h; exact nxA_pos hV _
        · cases h
theorem code_err {n : Nat} {s : List UInt8} {Nm : List (List UInt8)} (hn : big + 100 ≤ n) (hN : Nm.length ≤ 100000) {q : Int} (h : codeS s Nm = .error q) : 0 ≤ q := by
  unfold codeS at h
  split at h
  · cases h; decide
  · rename_i hs
    cases hc : scanS s 0 with
    | inr p => rw [hc] at h; cases h; exact Int.natCast_nonneg _
    | inl ws =>
      rw [hc] at h
      have hV := scan_VOk (by omega) hc
      have hf := r_expr0 (Nm := Nm) hV hN hn 0 (Nat.zero_le _)
      cases hv : ex0 (ws.map toX) (s.length : Int) Nm 0 with
      | error p => rw [hv] at hf; simp only [] at h; rw [hv, ebd_err] at h; cases h; exact hf.1
      | ok v =>
        simp only [] at h
        rw [hv, ebd_ok] at h
        split at h
        · cases h; exact nxA_pos hV _
        · cases h
/-- ParseFields. -/
theorem law_ParseFields (s : List UInt8) (hs : s.length ≤ maxLen) : ∃ n, m_retrospectlaw18_ParseFields n s = some true := by
  refine ⟨bigP, ?_⟩
  have hn : big + 100 ≤ bigP := by decide
  have hn' : big ≤ bigP := by decide
  have hs' : s.length ≤ 9223372036854775807 := Nat.le_trans hs (by decide)
  unfold m_retrospectlaw18_ParseFields
  rw [bifd]
  by_cases hl : (3000 : Int) < (s.length : Int)
  · rw [if_pos hl, law18_works, sbind]
  · rw [if_neg hl, m_parse_Parse_eq hn hs', sbind, m_ref18_Parse_eq hn, sbind, jn_eq]
    cases hp : parseS s with
    | ok f =>
      have hf := parseS_fine hp
      simp only [okF, okR]
      rw [m_law17_OfField_eq hn' hf, sbind, m_ref17_SameField_self hn' (dFOk_map hf), sbind, bifT, m_law18_Fault_eq, sbind, if_pos (by decide), eqb_zero, bifT, law18_works, sbind]
    | error q =>
      have hq := parse_err hn hp
      simp only [okF, okR]
      rw [m_law17_OfField_eq hn' ⟨by simp, by simp, by simp [codesT]⟩, sbind, show dF ⟨[], []⟩ = ⟨[], []⟩ by rfl, m_ref17_SameField_self hn' ⟨by simp, by simp, by simp⟩, sbind, bifT, m_law18_Fault_eq, sbind, if_neg (by omega), eqb_self, bifT, law18_works, sbind]
/-- ParseExprs. -/
theorem law_ParseExprs (s : List UInt8) (Nm : List (List UInt8)) (hs : s.length ≤ maxLen) (hN : B_S_string Nm) : ∃ n, m_retrospectlaw18_ParseExprs n s Nm = some true := by
  refine ⟨bigP, ?_⟩
  have hn : big + 100 ≤ bigP := by decide
  have hn' : big ≤ bigP := by decide
  have hn6 : 1000000 ≤ bigP := by decide
  have hs' : s.length ≤ 9223372036854775807 := Nat.le_trans hs (by decide)
  unfold m_retrospectlaw18_ParseExprs
  simp only [jn_eq]
  rw [bifd]
  by_cases hl : (1000 : Int) < (s.length : Int)
  · rw [if_pos hl, bifT, law18_works, sbind]
  · rw [if_neg hl]
    by_cases hNl : (10 : Int) < (Nm.length : Int)
    · rw [decide_eq_true hNl, bifT, law18_works, sbind]
    · have hNl' : Nm.length ≤ 100000 := by omega
      rw [decide_eq_false hNl, bifF, m_parse_Expr_eq hn hs' hNl', sbind, m_ref18_Code_eq hn hNl', sbind]
      cases hp : codeS s Nm with
      | ok c =>
        have hf := codeS_fine hp
        simp only [okF, okR]
        rw [m_law17_Of_eq hn' (by omega), sbind, m_ref17_Same_self hn6 (dOk_map hf), sbind, bifT, m_law18_Fault_eq, sbind, if_pos (by decide), eqb_zero, bifT, law18_works, sbind]
      | error q =>
        have hq := code_err hn hNl' hp
        simp only [okF, okR]
        rw [m_law17_Of_eq hn' (by simp), sbind, List.map_nil, m_ref17_Same_self hn6 ⟨by simp, by simp⟩, sbind, bifT, m_law18_Fault_eq, sbind, if_neg (by omega), eqb_self, bifT, law18_works, sbind]
end Go.Proofs.YtpomhkkhdojpiaaGreatDoor
