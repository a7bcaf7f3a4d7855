import Derived.Test.YtpomhkkhdojpiaaDoorPlPs2
namespace Go.Proofs.YtpomhkkhdojpiaaDoor
open Go Go.RowKit
abbrev Prs := Except Int (List M_tree_Node × Nat)
def atomS (W : List M_lex_Word) (E : Int) (Nm : List (List UInt8)) (r : Nat) (ex : Nat → Prs) (i : Nat) : Prs :=
  if (nxW W i).Kind = 1 then .ok ([⟨1, 0, toL (numD ((nxW W i).Text) 0)⟩], i + 1)
  else if (nxW W i).Text = [116] then .ok ([⟨2, 0, []⟩], i + 1)
  else if (nxW W i).Text = [121] then compS W E 3 i
  else if (nxW W i).Text = [112] then compS W E 4 i
  else if (nxW W i).Text = [40] then (if r = 0 then .error (nxA W E i) else ebd (ex (i + 1)) fun v => ebd (needS W E [41] v.2) fun j => .ok (v.1, j))
  else ebd (nameS W E i) fun v => .ok ([⟨5, fndS Nm v.1 0, []⟩], v.2)
def powS (W : List M_lex_Word) (E : Int) (at_ : Nat → Prs) (i : Nat) : Prs :=
  ebd (at_ i) fun v => if (nxW W v.2).Text = [94] then ebd (smallS W E (if (nxW W (v.2 + 1)).Text = [45] then v.2 + 1 + 1 else v.2 + 1)) fun e => .ok (v.1 ++ [⟨11, if (nxW W (v.2 + 1)).Text = [45] then -e.1 else e.1, []⟩], e.2) else .ok v
def chainL (W : List M_lex_Word) (p : Nat → Prs) (a b : List UInt8) (oa ob : Int) : Nat → List M_tree_Node → Nat → Prs
  | 0, c, j => .ok (c, j)
  | k + 1, c, j => if (nxW W j).Text = a then ebd (p (j + 1)) fun v => chainL W p a b oa ob k (c ++ v.1 ++ [⟨oa, 0, []⟩]) v.2
    else if (nxW W j).Text = b then ebd (p (j + 1)) fun v => chainL W p a b oa ob k (c ++ v.1 ++ [⟨ob, 0, []⟩]) v.2 else .ok (c, j)
def chainS (W : List M_lex_Word) (p : Nat → Prs) (a b : List UInt8) (oa ob : Int) (i : Nat) : Prs := ebd (p i) fun v => chainL W p a b oa ob W.length v.1 v.2
def termS (W : List M_lex_Word) (f : Nat → Prs) (i : Nat) : Prs := chainS W f [42] [47] 9 10 i
def exS (W : List M_lex_Word) (f : Nat → Prs) (i : Nat) : Prs := chainS W (termS W f) [43] [45] 7 8 i
def factS (W : List M_lex_Word) (E : Int) (Nm : List (List UInt8)) : Nat → Nat → Prs
  | 0, i => if (nxW W i).Text = [45] then .error (nxA W E i) else powS W E (atomS W E Nm 0 (fun _ => .error 0)) i
  | r + 1, i => if (nxW W i).Text = [45] then ebd (factS W E Nm r (i + 1)) fun v => .ok (v.1 ++ [⟨6, 0, []⟩], v.2) else powS W E (atomS W E Nm (r + 1) (exS W (factS W E Nm r))) i
/-- What is read is some words, and as many nodes at most. -/
def PO (W : List M_lex_Word) (p : Nat → Prs) : Prop := ∀ i v, p i = .ok v → i < v.2 ∧ v.2 ≤ W.length ∧ v.1.length + i ≤ v.2 ∧ 1 ≤ v.1.length
section
variable {W : List M_lex_Word} {E : Int} {Nm : List (List UInt8)}
theorem ebd_eq {α β : Type} {x : Except Int α} {k : α → Except Int β} {y : β} (h : ebd x k = .ok y) : ∃ v, x = .ok v ∧ k v = .ok y := by
  cases x with
  | ok v => exact ⟨v, rfl, h⟩
  | error p => cases h
theorem atomS_PO {r : Nat} {ex : Nat → Prs} (hx : r ≠ 0 → PO W ex) : PO W (atomS W E Nm r ex) := by
  intro i v h
  unfold atomS at h
  by_cases h1 : (nxW W i).Kind = 1
  · rw [if_pos h1] at h
    have := nxK_lt (W := W) (i := i) (by rw [h1]; decide)
    cases h; exact ⟨by simp, by simp only []; omega, by simp only [List.length_cons, List.length_nil]; omega, by simp⟩
  rw [if_neg h1] at h
  by_cases h2 : (nxW W i).Text = [116]
  · rw [if_pos h2] at h
    have := nx_lt (by simp) h2
    cases h; exact ⟨by simp, by simp only []; omega, by simp only [List.length_cons, List.length_nil]; omega, by simp⟩
  rw [if_neg h2] at h
  by_cases h3 : (nxW W i).Text = [121]
  · rw [if_pos h3] at h
    have := compS_ok h (nx_lt (by simp) h3); omega
  rw [if_neg h3] at h
  by_cases h4 : (nxW W i).Text = [112]
  · rw [if_pos h4] at h
    have := compS_ok h (nx_lt (by simp) h4); omega
  rw [if_neg h4] at h
  by_cases h5 : (nxW W i).Text = [40]
  · rw [if_pos h5] at h
    by_cases h6 : r = 0
    · rw [if_pos h6] at h; cases h
    rw [if_neg h6] at h
    obtain ⟨u, hu, h⟩ := ebd_eq h
    obtain ⟨j, hj, h⟩ := ebd_eq h
    have g := hx h6 _ _ hu
    obtain ⟨rfl, g2⟩ := needS_ok (by simp) hj
    cases h
    refine ⟨by simp only []; omega, by simp only []; omega, by simp only []; omega, g.2.2.2⟩
  rw [if_neg h5] at h
  obtain ⟨u, hu, h⟩ := ebd_eq h
  obtain ⟨g1, g2, g3⟩ := nameS_ok hu
  cases h
  exact ⟨by simp only []; omega, by simp only []; omega, by simp only [List.length_cons, List.length_nil]; omega, by simp⟩
theorem powS_PO {p : Nat → Prs} (hp : PO W p) : PO W (powS W E p) := by
  intro i v h
  unfold powS at h
  obtain ⟨u, hu, h⟩ := ebd_eq h
  have g := hp _ _ hu
  by_cases h1 : (nxW W u.2).Text = [94]
  · rw [if_pos h1] at h
    obtain ⟨e, he, h⟩ := ebd_eq h
    obtain ⟨g1, g2⟩ := smallS_ok he
    cases h
    have : u.2 < (if (nxW W (u.2 + 1)).Text = [45] then u.2 + 1 + 1 else u.2 + 1) := by split <;> omega
    refine ⟨by simp only []; omega, by simp only []; omega, by simp only [List.length_append, List.length_cons, List.length_nil]; omega, by simp⟩
  · rw [if_neg h1] at h; cases h; exact g
theorem chainL_PO {p : Nat → Prs} (hp : PO W p) {a b : List UInt8} {oa ob : Int} : ∀ (k : Nat) (c : List M_tree_Node) (j i : Nat) (v), i < j → j ≤ W.length → c.length + i ≤ j → 1 ≤ c.length → chainL W p a b oa ob k c j = .ok v → i < v.2 ∧ v.2 ≤ W.length ∧ v.1.length + i ≤ v.2 ∧ 1 ≤ v.1.length
  | 0, c, j, i, v, h1, h2, h3, h4, h => by unfold chainL at h; cases h; exact ⟨h1, h2, h3, h4⟩
  | k + 1, c, j, i, v, h1, h2, h3, h4, h => by
    unfold chainL at h
    split at h
    · obtain ⟨u, hu, h⟩ := ebd_eq h
      have g := hp _ _ hu
      exact chainL_PO hp k _ _ i v (by omega) g.2.1 (by simp only [List.length_append, List.length_cons, List.length_nil]; omega) (by simp; omega) h
    · split at h
      · obtain ⟨u, hu, h⟩ := ebd_eq h
        have g := hp _ _ hu
        exact chainL_PO hp k _ _ i v (by omega) g.2.1 (by simp only [List.length_append, List.length_cons, List.length_nil]; omega) (by simp; omega) h
      · cases h; exact ⟨h1, h2, h3, h4⟩
theorem chainS_PO {p : Nat → Prs} (hp : PO W p) {a b : List UInt8} {oa ob : Int} : PO W (chainS W p a b oa ob) := by
  intro i v h
  unfold chainS at h
  obtain ⟨u, hu, h⟩ := ebd_eq h
  have g := hp _ _ hu
  exact chainL_PO hp _ _ _ i v g.1 g.2.1 g.2.2.1 g.2.2.2 h
theorem exS_PO {f : Nat → Prs} (hf : PO W f) : PO W (exS W f) := chainS_PO (chainS_PO hf)
theorem factS_PO : ∀ (r : Nat), PO W (factS W E Nm r)
  | 0 => fun i v h => by
    unfold factS at h
    split at h
    · cases h
    · exact powS_PO (atomS_PO fun h => absurd rfl h) i v h
  | r + 1 => fun i v h => by
    unfold factS at h
    split at h
    · rename_i hm
      obtain ⟨u, hu, h⟩ := ebd_eq h
      have g := factS_PO r _ _ hu
      cases h
      exact ⟨by simp only []; omega, g.2.1, by simp only [List.length_append, List.length_cons, List.length_nil]; omega, by simp⟩
    · exact powS_PO (atomS_PO fun _ => exS_PO (factS_PO r)) i v h
end
/-! #### The program's reader is that -/
abbrev PrM := List M_lex_Word → Int → Int → Int → List (List UInt8) → Option (Except M_api_Fault (List M_tree_Node × List M_lex_Word × Int × Int × Int × List (List UInt8)))
def outP (W : List M_lex_Word) (E d : Int) (Nm : List (List UInt8)) (v : List M_tree_Node × Nat) : List M_tree_Node × List M_lex_Word × Int × Int × Int × List (List UInt8) := (v.1, W, (v.2 : Int), E, d, Nm)
/-- A model reads as a function says. -/
def Rd (W : List M_lex_Word) (E d : Int) (Nm : List (List UInt8)) (m : PrM) (p : Nat → Prs) : Prop := ∀ i : Nat, i ≤ W.length → m W (i : Int) E d Nm = cvP (outP W E d Nm) (p i)
section
variable {W : List M_lex_Word} {E : Int} {Nm : List (List UInt8)}
theorem trimZ_toL_ (v : Nat) : trimZ (toL v) = toL v := by simp [trimZ_toL]
theorem m_atom_rd {me : PrM} {n r : Nat} {ex : Nat → Prs} (hn : big ≤ n) (hW : WOk W) (hr : r ≤ 40) (hx : r ≠ 0 → Rd W E ((40 - r : Nat) + 1 : Int) Nm me ex) (hp : r ≠ 0 → PO W ex) :
    Rd W E ((40 - r : Nat) : Int) Nm (m___parse_reader__atom me n) (atomS W E Nm r ex) := by
  intro i hi
  have hWl := hW.1
  unfold m___parse_reader__atom atomS
  rw [m_next_eq (by omega), sbind]
  simp only [bifd]
  by_cases h1 : (nxW W i).Kind = 1
  · obtain ⟨hD, hne, hl⟩ := word1 hW h1
    rw [if_pos h1, if_pos h1, m_digits_Read_eq hn (by unfold maxLen; omega)]
    have hwr : wrongI (nxW W i).Text = -1 := by rw [wrongI_isD hD hne, if_neg (by omega)]
    rw [if_neg (by rw [hwr]; decide)]
    rw [sbind]
    simp only []
    rw [m_nat_Norm_eq hn (by have := numD_len hD; omega), sbind, trimZ_toL_, w1n (by omega), cvP_ok]; rfl
  rw [if_neg h1, if_neg h1]
  by_cases h2 : (nxW W i).Text = [116]
  · rw [if_pos h2, if_pos h2, w1n (by omega), cvP_ok]; rfl
  rw [if_neg h2, if_neg h2]
  by_cases h3 : (nxW W i).Text = [121]
  · rw [if_pos h3, if_pos h3, m_comp_eq (by omega) hW]
    cases compS W E 3 i with
    | error p => rw [cvP_err, exK_err, cvP_err]
    | ok v => rw [cvP_ok, exK_ok, cvP_ok]; rfl
  rw [if_neg h3, if_neg h3]
  by_cases h4 : (nxW W i).Text = [112]
  · rw [if_pos h4, if_pos h4, m_comp_eq (by omega) hW]
    cases compS W E 4 i with
    | error p => rw [cvP_err, exK_err, cvP_err]
    | ok v => rw [cvP_ok, exK_ok, cvP_ok]; rfl
  rw [if_neg h4, if_neg h4, m_has_eq (by omega), sbind]
  by_cases h5 : (nxW W i).Text = [40]
  · simp only [if_pos h5, decide_eq_true h5, bifT]
    rw [m_open_eq (by omega) (by omega) hr]
    by_cases h6 : r = 0
    · rw [if_pos h6, if_pos h6, cvP_err, exK_err, cvP_err]; rfl
    rw [if_neg h6, if_neg h6, cvP_ok, exK_ok]
    simp only []
    rw [hx h6 (i + 1) (nx_lt (by simp) h5)]
    cases hv : ex (i + 1) with
    | error p => rw [cvP_err, exK_err, ebd_err, cvP_err]
    | ok v =>
      have g := hp h6 _ _ hv
      rw [cvP_ok, exK_ok, ebd_ok]
      simp only [outP]
      rw [m_need_eq (by omega)]
      cases hj : needS W E [41] v.2 with
      | error p => rw [cvP_err, exK_err, ebd_err, cvP_err]
      | ok j => rw [cvP_ok, exK_ok, ebd_ok, cvP_ok]; simp only [outP]; rw [w64 (by omega) (by omega), Int.add_sub_cancel]
  simp only [if_neg h5, decide_eq_false h5, bifF]
  rw [m_name_eq (by omega)]
  cases hv : nameS W E i with
  | error p => rw [cvP_err, exK_err, ebd_err, cvP_err]
  | ok v => rw [cvP_ok, exK_ok, ebd_ok]; simp only []; rw [m_meant_eq, sbind, cvP_ok]; rfl
theorem smallS_rng (hW : WOk W) {i : Nat} {e : Int × Nat} (he : smallS W E i = .ok e) : 0 ≤ e.1 ∧ e.1 < 1000 := by
  unfold smallS at he
  by_cases hc : (nxW W i).Kind ≠ 1 ∨ 3 < (nxW W i).Text.length
  · rw [if_pos hc] at he; cases he
  · rw [if_neg hc] at he
    cases he
    have hk : (nxW W i).Kind = 1 := Decidable.byContradiction fun h => hc (.inl h)
    have hl : (nxW W i).Text.length ≤ 3 := by
      rcases Nat.lt_or_ge 3 (nxW W i).Text.length with h | h
      · exact absurd (.inr h) hc
      · exact h
    have := numD3 (word1 hW hk).1 hl
    exact ⟨Int.natCast_nonneg _, by simp only []; omega⟩
theorem m_power_rd {me : PrM} {n : Nat} {d : Int} {p : Nat → Prs} (hW : WOk W) (h : Rd W E d Nm (m___parse_reader__atom me n) p) (hp : PO W p) : Rd W E d Nm (m___parse_reader__power me n) (powS W E p) := by
  intro i hi
  have hWl := hW.1
  unfold m___parse_reader__power powS
  rw [h i hi]
  cases hv : p i with
  | error p => rw [cvP_err, exK_err, ebd_err, cvP_err]
  | ok v =>
    have g := hp _ _ hv
    rw [cvP_ok, exK_ok, ebd_ok]
    simp only [outP]
    rw [m_has_eq (by omega), sbind, bifnd]
    by_cases h1 : (nxW W v.2).Text = [94]
    · simp only [if_pos h1]
      rw [m_has_eq (by omega), sbind]
      simp only [jn_eq, bifd]
      have e : (if (nxW W (v.2 + 1)).Text = [45] then ((v.2 + 1 + 1 : Nat) : Int) else ((v.2 + 1 : Nat) : Int)) = (((if (nxW W (v.2 + 1)).Text = [45] then v.2 + 1 + 1 else v.2 + 1) : Nat) : Int) := by split <;> rfl
      rw [e, m_small_eq (by split <;> omega) hW]
      cases he : smallS W E (if (nxW W (v.2 + 1)).Text = [45] then v.2 + 1 + 1 else v.2 + 1) with
      | error p => rw [cvP_err, exK_err, ebd_err, cvP_err]
      | ok e =>
        have hsm := smallS_rng hW he
        rw [cvP_ok, exK_ok, ebd_ok]
        simp only []
        by_cases h2 : (nxW W (v.2 + 1)).Text = [45]
        · simp only [if_pos h2]
          rw [w64 (by omega) (by omega), appM_ok (by simp; omega) (by simp; omega), sbind, cvP_ok]; rfl
        · simp only [if_neg h2]
          rw [appM_ok (by simp; omega) (by simp; omega), sbind, cvP_ok]; rfl
    · simp only [if_neg h1]; rw [cvP_ok]; rfl
theorem m_factor_rd {me : PrM} (hW : WOk W) {R : Nat} (hR : R ≤ 40) (hx : ∀ r, r < R → Rd W E ((40 - r : Nat) : Int) Nm me (exS W (factS W E Nm r))) :
    ∀ (r n : Nat), r ≤ R → big + r + 1 ≤ n → Rd W E ((40 - r : Nat) : Int) Nm (m___parse_reader__factor me n) (factS W E Nm r) := by
  have hWl := hW.1
  intro r
  induction r with
  | zero =>
    intro n hr hn i hi
    obtain ⟨n, rfl⟩ : ∃ k, n = k + 1 := ⟨n - 1, by omega⟩
    unfold m___parse_reader__factor factS
    rw [m_has_eq (by omega), sbind, bifnd]
    by_cases h1 : (nxW W i).Text = [45]
    · simp only [if_pos h1]
      rw [m_open_eq (r := 0) (by omega) (by omega) (by omega), if_pos rfl, cvP_err, exK_err, cvP_err]; rfl
    · simp only [if_neg h1]
      rw [m_power_rd hW (m_atom_rd (r := 0) (ex := fun _ => .error 0) (by omega) hW (by omega) (fun h => absurd rfl h) (fun h => absurd rfl h)) (atomS_PO fun h => absurd rfl h) i hi]
      cases powS W E (atomS W E Nm 0 (fun _ => .error 0)) i with
      | error p => rw [cvP_err, exK_err]
      | ok v => rw [cvP_ok, exK_ok]
  | succ r ih =>
    intro n hr hn i hi
    obtain ⟨n, rfl⟩ : ∃ k, n = k + 1 := ⟨n - 1, by omega⟩
    have hd : ((40 - (r + 1) : Nat) : Int) + 1 = ((40 - r : Nat) : Int) := by omega
    unfold m___parse_reader__factor factS
    rw [m_has_eq (by omega), sbind, bifnd]
    by_cases h1 : (nxW W i).Text = [45]
    · simp only [if_pos h1]
      rw [m_open_eq (r := r + 1) (by omega) (by omega) (by omega), if_neg (by omega), cvP_ok, exK_ok]
      simp only []
      rw [hd, ih n (by omega) (by omega) (i + 1) (nx_lt (by simp) h1)]
      cases hv : factS W E Nm r (i + 1) with
      | error p => rw [cvP_err, exK_err, ebd_err, cvP_err]
      | ok v =>
        have g := factS_PO r _ _ hv
        rw [cvP_ok, exK_ok, ebd_ok]
        simp only [outP]
        rw [appM_ok (by simp; omega) (by simp; omega), sbind, cvP_ok, w64 (by omega) (by omega), show ((40 - r : Nat) : Int) - 1 = ((40 - (r + 1) : Nat) : Int) by omega]; rfl
    · simp only [if_neg h1]
      rw [m_power_rd hW (m_atom_rd (r := r + 1) (by omega) hW (by omega) (fun _ => by rw [hd]; exact hx r (by omega)) (fun _ => exS_PO (factS_PO r))) (atomS_PO fun _ => exS_PO (factS_PO r)) i hi]
      cases powS W E (atomS W E Nm (r + 1) (exS W (factS W E Nm r))) i with
      | error p => rw [cvP_err, exK_err]
      | ok v => rw [cvP_ok, exK_ok]
/-- Parts with signs between. -/
def mCh (p : PrM) (n : Nat) (x0_words : (List M_lex_Word)) (x0_at_ : Int) (x0_end_ : Int) (x0_deep : Int) (x0_names : (List (List UInt8))) (x2 : (List UInt8)) (x3 : (List UInt8)) (x4 : Int) (x5 : Int) : Option (Except M_api_Fault ((List M_tree_Node) × (List M_lex_Word) × Int × Int × Int × (List (List UInt8)))) :=
  (p x0_words x0_at_ x0_end_ x0_deep x0_names).bind (exK (fun e =>
    some (Except.error e)) fun r1 =>
  loopM (fun (s41 : (List M_lex_Word) × Int × Int × Int × (List (List UInt8)) × (List M_tree_Node)) =>
    jn (fun (j46 : ((List M_lex_Word) × Int × Int × Int × Int) → Option _) =>
      (m___parse_reader__has s41.1 s41.2.1 s41.2.2.1 s41.2.2.2.1 s41.2.2.2.2.1 x2).bind fun r49 =>
      bif r49.1 then (
        j46 (r49.2.1, r49.2.2.1, r49.2.2.2.1, r49.2.2.2.2, x4))
      else (
        (m___parse_reader__has r49.2.1 r49.2.2.1 r49.2.2.2.1 r49.2.2.2.2 s41.2.2.2.2.1 x3).bind fun r51 =>
        bif r51.1 then (
          j46 (r51.2.1, r51.2.2.1, r51.2.2.2.1, r51.2.2.2.2, x5))
        else (
          some (Lp.out (Except.ok (s41.2.2.2.2.2, r51.2.1, r51.2.2.1, r51.2.2.2.1, r51.2.2.2.2, s41.2.2.2.2.1)))))) (fun (s48 : (List M_lex_Word) × Int × Int × Int × Int) =>
      (p s48.1 s48.2.1 s48.2.2.1 s48.2.2.2.1 s41.2.2.2.2.1).bind (exK (fun e =>
        some (Lp.out (Except.error e))) fun r53 =>
      (appM 40 s41.2.2.2.2.2 r53.1).bind fun y55 =>
      (appM 40 y55 ([(⟨s48.2.2.2.2, 0, []⟩ : M_tree_Node)] : List M_tree_Node)).bind fun y57 =>
      some (Lp.go (r53.2.1, r53.2.2.1, r53.2.2.2.1, r53.2.2.2.2.1, r53.2.2.2.2.2, y57))))) n (r1.2.1, r1.2.2.1, r1.2.2.2.1, r1.2.2.2.2.1, r1.2.2.2.2.2, r1.1))
theorem m_chain_factor (me : PrM) (n : Nat) : m___parse_reader__chain_o1___parse_reader__factor me n = mCh (m___parse_reader__factor me n) n := by unfold m___parse_reader__chain_o1___parse_reader__factor mCh; rfl
theorem m_chain_term (me : PrM) (n : Nat) : m___parse_reader__chain_o1___parse_reader__term me n = mCh (m___parse_reader__term me n) n := by unfold m___parse_reader__chain_o1___parse_reader__term mCh; rfl
theorem mCh_rd {m : PrM} {n : Nat} {d : Int} {p : Nat → Prs} {a b : List UInt8} {oa ob : Int} (hn : 10000 ≤ n) (hW : WOk W) (h : Rd W E d Nm m p) (hp : PO W p) (ha : a ≠ []) (hb : b ≠ []) :
    ∀ i : Nat, i ≤ W.length → mCh m n W (i : Int) E d Nm a b oa ob = cvP (outP W E d Nm) (chainS W p a b oa ob i) := by
  intro i hi
  have hWl := hW.1
  unfold mCh chainS
  rw [h i hi]
  cases hv : p i with
  | error q => rw [cvP_err, exK_err, ebd_err, cvP_err]
  | ok v =>
    have g := hp _ _ hv
    rw [cvP_ok, exK_ok, ebd_ok]
    simp only [outP, jn_eq]
    have key : ∀ (k n j : Nat) (c : List M_tree_Node), j ≤ W.length → c.length ≤ j → W.length - j ≤ k → W.length - j < n →
      loopM (fun (s41 : (List M_lex_Word) × Int × Int × Int × (List (List UInt8)) × (List M_tree_Node)) =>
        (m___parse_reader__has s41.1 s41.2.1 s41.2.2.1 s41.2.2.2.1 s41.2.2.2.2.1 a).bind fun r49 =>
        bif r49.1 then (
          (m r49.2.1 r49.2.2.1 r49.2.2.2.1 r49.2.2.2.2 s41.2.2.2.2.1).bind (exK (fun e =>
            some (Lp.out (Except.error e))) fun r53 =>
          (appM 40 s41.2.2.2.2.2 r53.1).bind fun y55 =>
          (appM 40 y55 ([(⟨oa, 0, []⟩ : M_tree_Node)] : List M_tree_Node)).bind fun y57 =>
          some (Lp.go (r53.2.1, r53.2.2.1, r53.2.2.2.1, r53.2.2.2.2.1, r53.2.2.2.2.2, y57))))
        else (
          (m___parse_reader__has r49.2.1 r49.2.2.1 r49.2.2.2.1 r49.2.2.2.2 s41.2.2.2.2.1 b).bind fun r51 =>
          bif r51.1 then (
            (m r51.2.1 r51.2.2.1 r51.2.2.2.1 r51.2.2.2.2 s41.2.2.2.2.1).bind (exK (fun e =>
              some (Lp.out (Except.error e))) fun r53 =>
            (appM 40 s41.2.2.2.2.2 r53.1).bind fun y55 =>
            (appM 40 y55 ([(⟨ob, 0, []⟩ : M_tree_Node)] : List M_tree_Node)).bind fun y57 =>
            some (Lp.go (r53.2.1, r53.2.2.1, r53.2.2.2.1, r53.2.2.2.2.1, r53.2.2.2.2.2, y57))))
          else (
            some (Lp.out (Except.ok (s41.2.2.2.2.2, r51.2.1, r51.2.2.1, r51.2.2.2.1, r51.2.2.2.2, s41.2.2.2.2.1)))))) n (W, (j : Int), E, d, Nm, c) = cvP (outP W E d Nm) (chainL W p a b oa ob k c j) := by
      intro k
      induction k with
      | zero =>
        intro n j c hj hc hk hn
        have hje : j = W.length := by omega
        have e1 : (nxW W j).Text ≠ a := fun e => by have := nx_lt ha e; omega
        have e2 : (nxW W j).Text ≠ b := fun e => by have := nx_lt hb e; omega
        unfold chainL
        rw [cvP_ok]
        exact loop_out (by simp only [m_has_eq (show j ≤ 100000 by omega), sbind, decide_eq_false e1, decide_eq_false e2, bifF, if_neg e1, if_neg e2]; rfl) (by omega)
      | succ k ih =>
        intro n j c hj hc hk hn
        obtain ⟨n, rfl⟩ : ∃ q, n = q + 1 := ⟨n - 1, by omega⟩
        unfold chainL
        by_cases e1 : (nxW W j).Text = a
        · have hjl := nx_lt ha e1
          rw [if_pos e1]
          have hh := h (j + 1) (by omega)
          cases hu : p (j + 1) with
          | error q =>
            rw [hu, cvP_err] at hh
            rw [ebd_err, cvP_err]
            exact loop_out (by simp only [m_has_eq (show j ≤ 100000 by omega), sbind, decide_eq_true e1, bifT, if_pos e1, hh, exk_err]) (by omega)
          | ok u =>
            have g := hp _ _ hu
            rw [hu, cvP_ok] at hh
            rw [ebd_ok, loop_go (s' := (W, (u.2 : Int), E, d, Nm, c ++ u.1 ++ [(⟨oa, 0, []⟩ : M_tree_Node)]))]
            · exact ih n u.2 _ g.2.1 (by simp only [List.length_append, List.length_cons, List.length_nil]; omega) (by omega) (by omega)
            · simp only [m_has_eq (show j ≤ 100000 by omega), sbind, decide_eq_true e1, bifT, if_pos e1, hh, exk_ok, outP]
              rw [appM_ok (by omega) (by omega), sbind, appM_ok (by simp only [List.length_append, List.length_cons, List.length_nil]; omega) (by simp only [List.length_append, List.length_cons, List.length_nil]; omega), sbind]
        · rw [if_neg e1]
          by_cases e2 : (nxW W j).Text = b
          · have hjl := nx_lt hb e2
            rw [if_pos e2]
            have hh := h (j + 1) (by omega)
            cases hu : p (j + 1) with
            | error q =>
              rw [hu, cvP_err] at hh
              rw [ebd_err, cvP_err]
              exact loop_out (by simp only [m_has_eq (show j ≤ 100000 by omega), sbind, decide_eq_false e1, bifF, if_neg e1, decide_eq_true e2, bifT, if_pos e2, hh, exk_err]) (by omega)
            | ok u =>
              have g := hp _ _ hu
              rw [hu, cvP_ok] at hh
              rw [ebd_ok, loop_go (s' := (W, (u.2 : Int), E, d, Nm, c ++ u.1 ++ [(⟨ob, 0, []⟩ : M_tree_Node)]))]
              · exact ih n u.2 _ g.2.1 (by simp only [List.length_append, List.length_cons, List.length_nil]; omega) (by omega) (by omega)
              · simp only [m_has_eq (show j ≤ 100000 by omega), sbind, decide_eq_false e1, bifF, if_neg e1, decide_eq_true e2, bifT, if_pos e2, hh, exk_ok, outP]
                rw [appM_ok (by omega) (by omega), sbind, appM_ok (by simp only [List.length_append, List.length_cons, List.length_nil]; omega) (by simp only [List.length_append, List.length_cons, List.length_nil]; omega), sbind]
          · rw [if_neg e2, cvP_ok]
            exact loop_out (by simp only [m_has_eq (show j ≤ 100000 by omega), sbind, decide_eq_false e1, decide_eq_false e2, bifF, if_neg e1, if_neg e2]; rfl) (by omega)
    exact key W.length n v.2 v.1 g.2.1 (by omega) (by omega) (by omega)
theorem m_term_rd {me : PrM} {n : Nat} {d : Int} {f : Nat → Prs} (hn : 10000 ≤ n) (hW : WOk W) (h : Rd W E d Nm (m___parse_reader__factor me n) f) (hp : PO W f) : Rd W E d Nm (m___parse_reader__term me n) (termS W f) := by
  intro i hi
  unfold m___parse_reader__term termS
  rw [m_chain_factor, mCh_rd hn hW h hp (by simp) (by simp) i hi]
  cases chainS W f [42] [47] 9 10 i with
  | error q => rw [cvP_err, exK_err]
  | ok v => rw [cvP_ok, exK_ok]
theorem m_expr_rd (hW : WOk W) : ∀ (r n : Nat), r ≤ 40 → big + r + 2 ≤ n → Rd W E ((40 - r : Nat) : Int) Nm (m___parse_reader__expr n) (exS W (factS W E Nm r)) := by
  intro r
  induction r using Nat.strongRecOn with
  | _ r ih =>
    intro n hr hn i hi
    obtain ⟨n, rfl⟩ : ∃ k, n = k + 1 := ⟨n - 1, by omega⟩
    have hb : 10000 ≤ n := by unfold big at hn; omega
    have hf := m_factor_rd (E := E) (Nm := Nm) (me := m___parse_reader__expr n) hW hr (fun q hq => ih q hq n (by omega) (by omega)) r n (Nat.le_refl _) (by omega)
    have ht := m_term_rd hb hW hf (factS_PO r)
    unfold m___parse_reader__expr exS
    rw [m_chain_term, mCh_rd hb hW ht (chainS_PO (factS_PO r)) (by simp) (by simp) i hi]
    cases chainS W (termS W (factS W E Nm r)) [43] [45] 7 8 i with
    | error q => rw [cvP_err, exK_err]
    | ok v => rw [cvP_ok, exK_ok]
end
end Go.Proofs.YtpomhkkhdojpiaaDoor
