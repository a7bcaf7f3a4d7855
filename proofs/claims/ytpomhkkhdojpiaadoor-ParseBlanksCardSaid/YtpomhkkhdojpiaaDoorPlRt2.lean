import Derived.Test.YtpomhkkhdojpiaaDoorPlRt1
namespace Go.Proofs.YtpomhkkhdojpiaaDoor
open Go Go.RowKit
/-! ### What is written is read as it was: expressions -/
def tk (Nm : List (List UInt8)) (e : Ex) : List (List UInt8) := (pcs Nm e).filter nbk
def Pre (W : List M_lex_Word) (i : Nat) (T : List (List UInt8)) : Prop := ∃ R, (W.drop i).map (·.Text) = T ++ R
theorem pre_cons {W : List M_lex_Word} {i : Nat} {a : List UInt8} {T : List (List UInt8)} (h : Pre W i (a :: T)) : i < W.length ∧ (nxW W i).Text = a ∧ Pre W (i + 1) T := by
  obtain ⟨R, hR⟩ := h
  have hi : i < W.length := by
    rcases Nat.lt_or_ge i W.length with h | h
    · exact h
    · rw [List.drop_eq_nil_of_le h] at hR; cases hR
  rw [List.drop_eq_getElem_cons hi, List.map_cons, List.cons_append, List.cons.injEq] at hR
  exact ⟨hi, by unfold nxW; rw [List.getElem?_eq_getElem hi]; exact hR.1, R, hR.2⟩
theorem pre_app {W : List M_lex_Word} : ∀ {A B : List (List UInt8)} {i : Nat}, Pre W i (A ++ B) → Pre W i A ∧ Pre W (i + A.length) B
  | [], B, i, h => ⟨⟨_, rfl⟩, h⟩
  | a :: A, B, i, h => by
    obtain ⟨hi, e, h1⟩ := pre_cons h
    obtain ⟨h2, h3⟩ := pre_app h1
    refine ⟨?_, by rw [List.length_cons, show i + (A.length + 1) = i + 1 + A.length by omega]; exact h3⟩
    obtain ⟨R, hR⟩ := h2
    refine ⟨R, ?_⟩
    rw [List.drop_eq_getElem_cons hi, List.map_cons, hR, List.cons_append]
    congr 1
    unfold nxW at e; rw [List.getElem?_eq_getElem hi] at e; exact e
theorem filt_c {c : List UInt8} {r : List (List UInt8)} (h : nbk c = true) : (c :: r).filter nbk = c :: r.filter nbk := by rw [List.filter_cons, if_pos h]
theorem filt_b {r : List (List UInt8)} : ([32] :: r).filter nbk = r.filter nbk := by rw [List.filter_cons, if_neg (by decide)]
theorem filt_in (ps : List (List UInt8)) (r k : Int) : (inP ps r k).filter nbk = inP (ps.filter nbk) r k := by
  unfold inP
  split
  · rw [filt_c (by decide), filt_app]; rfl
  · rfl
theorem dec_nbk (v : Nat) : nbk (dec v) = true := by
  have hD := dec_isD (n := v)
  unfold nbk
  refine decide_eq_true ⟨fun e => ?_, fun e => ?_⟩ <;>
  · rw [e] at hD; have := hD _ (.head _); revert this; decide
theorem filt_it (x : Int) : (itP x).filter nbk = itP x := by
  unfold itP
  split
  · rw [filt_c (by decide), filt_c (dec_nbk _)]; rfl
  · rw [filt_c (dec_nbk _)]; rfl
theorem tk_un6 {Nm x a} (h : x.Op = 6) : tk Nm (.un x a) = [45] :: inP (tk Nm a) (rkI (rtE a).Op) 3 := by
  unfold tk; rw [pcs, if_pos h, filt_c (by decide), filt_in]
theorem tk_un11 {Nm x a} (h : x.Op = 11) : tk Nm (.un x a) = inP (tk Nm a) (rkI (rtE a).Op) 5 ++ ([94] :: itP x.I) := by
  unfold tk; rw [pcs, if_neg (by omega), filt_app, filt_in, filt_c (by decide), filt_it]
theorem tk_bi {Nm x a b} : tk Nm (.bi x a b) = inP (tk Nm a) (rkI (rtE a).Op) (rkI x.Op) ++ (sgS x.Op :: inP (tk Nm b) (rkI (rtE b).Op) (rkI x.Op + 1)) := by
  unfold tk; rw [pcs, filt_app, filt_in, filt_b, filt_c (wd_nbk sgS_wd), filt_b, filt_in]
/-- The levels that it takes to read an expression. -/
def lvW (l r k : Int) : Int := if r < k then 1 + l else l
def lv : Ex → Int
  | .lf _ => 0
  | .un x a => if x.Op = 6 then 1 + lvW (lv a) (rkI (rtE a).Op) 3 else lvW (lv a) (rkI (rtE a).Op) 5
  | .bi x a b => max (lvW (lv a) (rkI (rtE a).Op) (rkI x.Op)) (lvW (lv b) (rkI (rtE b).Op) (rkI x.Op + 1))
theorem lv_nonneg : ∀ e, 0 ≤ lv e
  | .lf _ => Int.le_refl _
  | .un x a => by have := lv_nonneg a; unfold lv lvW; (repeat' split) <;> omega
  | .bi x a b => by have := lv_nonneg a; have := lv_nonneg b; unfold lv lvW; (repeat' split) <;> omega
theorem rk_bi {x : M_tree_Node} (h : ar x.Op = 2) : (rkI x.Op = 1 ∧ (x.Op = 7 ∨ x.Op = 8)) ∨ (rkI x.Op = 2 ∧ (x.Op = 9 ∨ x.Op = 10)) := by
  rcases ar2 h with h | h | h | h <;> rw [h] <;> unfold rkI <;> simp
theorem rk_un {x : M_tree_Node} (h : ar x.Op = 1) : (rkI x.Op = 3 ∧ x.Op = 6) ∨ (rkI x.Op = 4 ∧ x.Op = 11) := by
  rcases ar1 h with h | h <;> rw [h] <;> unfold rkI <;> simp
theorem rk_lf {x : M_tree_Node} (h : ar x.Op = 0) : rkI x.Op = 5 := by
  rcases ar0 h with h | h | h | h | h <;> rw [h] <;> unfold rkI <;> simp
theorem lv_dep : ∀ e, wf e → lv e ≤ dep e - 1 ∧ (rkI (rtE e).Op ≤ 2 → lv e ≤ dep e - 2)
  | .lf x, h => by
    unfold wf at h
    have := rk_lf h
    rw [show rtE (.lf x) = x from rfl]; simp only [lv, dep]; omega
  | .un x a, h => by
    unfold wf at h
    obtain ⟨i1, i2⟩ := lv_dep a h.2
    have := dep_pos a
    have r := rk_un h.1
    rw [show rtE (.un x a) = x from rfl]
    simp only [lv, dep, lvW]
    rcases r with ⟨r, e⟩ | ⟨r, e⟩
    · rw [if_pos e, r]; refine ⟨?_, fun h => by omega⟩; split <;> omega
    · rw [if_neg (by omega), r]; refine ⟨?_, fun h => by omega⟩; split <;> omega
  | .bi x a b, h => by
    unfold wf at h
    obtain ⟨i1, i2⟩ := lv_dep a h.2.1
    obtain ⟨j1, j2⟩ := lv_dep b h.2.2
    have := dep_pos a
    have := dep_pos b
    have r := rk_bi h.1
    rw [show rtE (.bi x a b) = x from rfl]
    simp only [lv, dep, lvW]
    have : max (if rkI (rtE a).Op < rkI x.Op then 1 + lv a else lv a) (if rkI (rtE b).Op < rkI x.Op + 1 then 1 + lv b else lv b) ≤ max (max 0 (dep b)) (dep a) - 1 := by
      split <;> split <;> omega
    omega
section
variable {W : List M_lex_Word} {E : Int} {Nm : List (List UInt8)} (hW : WOk W)
include hW
theorem word_kind {i : Nat} {c : UInt8} {t : List UInt8} (hi : i < W.length) (h : (nxW W i).Text = c :: t) : (nxW W i).Kind = kindC c.toNat := by
  have := hW.2 _ (nxW_mem hi)
  rw [h] at this
  exact ((wdB_cons _ _ _).1 this).2.1.symm
theorem word_dec {i v : Nat} (hi : i < W.length) (h : (nxW W i).Text = dec v) : (nxW W i).Kind = 1 := by
  have hD := dec_isD (n := v)
  have hw := hW.2 _ (nxW_mem hi)
  cases hd : dec v with
  | nil => rw [h, hd] at hw; simp [wdB] at hw
  | cons c t =>
    rw [hd] at h hD
    rw [word_kind hW hi h]
    have hc : digB c.toNat = true := decide_eq_true (hD c (.head _))
    unfold kindC; rw [if_pos hc]
theorem word_name {i : Nat} {s : List UInt8} (hi : i < W.length) (h : (nxW W i).Text = s) (hs : nameOk s = true) : (nxW W i).Kind = 2 := by
  have hw := name_wd hs
  cases s with
  | nil => cases hw
  | cons c t => rw [word_kind hW hi h]; exact ((wdB_cons _ _ _).1 hw).2.1
omit hW in
theorem dec_ne_c {v : Nat} {c : UInt8} (hc : ¬ (48 ≤ c.toNat ∧ c.toNat ≤ 57)) : dec v ≠ [c] := fun e => by
  have hD := dec_isD (n := v)
  rw [e] at hD; exact hc (hD c (.head _))
omit hW in
theorem name_ne_c {s : List UInt8} {c : UInt8} (hs : nameOk s = true) (hc : kindC c.toNat ≠ 2) : s ≠ [c] := fun e => by
  rw [e] at hs; exact hc ((wdB_cons _ _ _).1 (name_wd hs)).2.1
def NmU (Nm : List (List UInt8)) : Prop := ∀ i, i < Nm.length → fndS Nm (Nm.getD i []) 0 = (i : Int)
theorem comp_tk {op : Int} {i : Nat} {v : Nat} {p : List UInt8} (h : Pre W i [p, [91], dec v, [93]]) (hv : v < 10) : compS W E op i = .ok ([⟨op, (v : Int), []⟩], i + 4) := by
  obtain ⟨_, _, h1⟩ := pre_cons h
  obtain ⟨_, e1, h2⟩ := pre_cons h1
  obtain ⟨l2, e2, h3⟩ := pre_cons h2
  obtain ⟨_, e3, _⟩ := pre_cons h3
  unfold compS needS smallS
  rw [if_pos e1, ebd_ok, if_neg (by rw [word_dec hW l2 e2, e2, dec_lt10 hv]; simp), ebd_ok]
  simp only []
  rw [if_pos e3, ebd_ok, e2, numD_dec]
def exR (W : List M_lex_Word) (E : Int) (Nm : List (List UInt8)) : Nat → Nat → Prs
  | 0 => fun _ => .error 0
  | r + 1 => exS W (factS W E Nm r)
omit hW in
theorem fact_pos {r i : Nat} (h : (nxW W i).Text ≠ [45]) : factS W E Nm r i = powS W E (atomS W E Nm r (exR W E Nm r)) i := by
  cases r with
  | zero => unfold factS; rw [if_neg h]; rfl
  | succ r => unfold factS; rw [if_neg h]; rfl
theorem atom_lf {x : M_tree_Node} {r i : Nat} {ex : Nat → Prs} (hN : NmOk Nm) (hU : NmU Nm) (h : okE (Nm.length : Int) (.lf x)) (hp : Pre W i (tk Nm (.lf x))) :
    atomS W E Nm r ex i = .ok ([x], i + (tk Nm (.lf x)).length) ∧ (nxW W i).Text ≠ [45] := by
  have hw := h.1
  unfold wf at hw
  obtain ⟨h3, h4⟩ := h.2 x (by simp [fl])
  obtain ⟨Op, I, N⟩ := x
  unfold tk pcs lfP at hp ⊢
  rcases lf_ok hw h3 with ⟨e, e1, e2, hl⟩ | ⟨e, e1, e2⟩ | ⟨e, h1, h2, e2⟩ | ⟨e, h1, h2, e2⟩ | ⟨e, h1, h2, e2⟩
  · rw [if_pos e] at hp ⊢
    rw [filt_c (dec_nbk _)] at hp ⊢
    obtain ⟨hi, ht, _⟩ := pre_cons hp
    simp only [] at e e1 e2 ht
    unfold atomS
    refine ⟨?_, by rw [ht]; exact dec_ne_c (by decide)⟩
    rw [if_pos (word_dec hW hi ht), ht, numD_dec, toL_val h4.2, e2, e, e1]; rfl
  · simp only [] at e e1 e2
    subst e e1 e2
    obtain ⟨hi, ht, _⟩ := pre_cons (a := [116]) (T := []) hp
    unfold atomS
    refine ⟨?_, by rw [ht]; decide⟩
    rw [if_neg (by rw [word_kind hW hi ht]; decide), if_pos ht]; rfl
  · simp only [] at e e2 h1 h2
    subst e e2
    obtain ⟨v, rfl⟩ : ∃ v : Nat, I = v := ⟨I.toNat, by omega⟩
    rw [if_neg (by simp), if_pos rfl] at hp ⊢
    rw [filt_c (by decide), filt_c (by decide), filt_c (dec_nbk _), filt_c (by decide)] at hp ⊢
    obtain ⟨hi, ht, _⟩ := pre_cons hp
    unfold atomS
    refine ⟨?_, by rw [ht]; decide⟩
    rw [if_neg (by rw [word_kind hW hi ht]; decide), if_neg (by rw [ht]; decide), if_pos ht, comp_tk (v := v) hW hp (by omega)]; rfl
  · simp only [] at e e2 h1 h2
    subst e e2
    obtain ⟨v, rfl⟩ : ∃ v : Nat, I = v := ⟨I.toNat, by omega⟩
    rw [if_neg (by simp), if_neg (by simp), if_pos rfl] at hp ⊢
    rw [filt_c (by decide), filt_c (by decide), filt_c (dec_nbk _), filt_c (by decide)] at hp ⊢
    obtain ⟨hi, ht, _⟩ := pre_cons hp
    unfold atomS
    refine ⟨?_, by rw [ht]; decide⟩
    rw [if_neg (by rw [word_kind hW hi ht]; decide), if_neg (by rw [ht]; decide), if_neg (by rw [ht]; decide), if_pos ht, comp_tk (v := v) hW hp (by omega)]; rfl
  · simp only [] at e e2 h1 h2
    subst e e2
    obtain ⟨v, rfl⟩ : ∃ v : Nat, I = v := ⟨I.toNat, by omega⟩
    rw [if_neg (by simp), if_neg (by simp), if_neg (by simp), if_pos rfl] at hp ⊢
    have hl : v < Nm.length := by omega
    have hs : nameOk (Nm.getD v []) = true := by rw [List.getD_eq_getElem?_getD, List.getElem?_eq_getElem hl]; exact hN _ (List.getElem_mem hl)
    simp only [Int.toNat_natCast] at hp ⊢
    rw [filt_c (wd_nbk (name_wd hs))] at hp ⊢
    obtain ⟨hi, ht, _⟩ := pre_cons hp
    have hk := word_name hW hi ht hs
    have hres : resB (Nm.getD v []) = false := by
      unfold nameOk at hs; simp only [Bool.and_eq_true, decide_eq_true_eq] at hs
      unfold resB; simp only [decide_eq_false_iff_not]
      rintro (h | h | h | h)
      · exact hs.2.1 h
      · exact hs.2.2.1 h
      · exact hs.2.2.2.1 h
      · exact hs.2.2.2.2 h
    unfold atomS
    refine ⟨?_, by rw [ht]; exact name_ne_c hs (by decide)⟩
    unfold nameOk at hs; simp only [Bool.and_eq_true, decide_eq_true_eq] at hs
    rw [if_neg (by rw [hk]; decide), if_neg (by rw [ht]; exact hs.2.1), if_neg (by rw [ht]; exact hs.2.2.1), if_neg (by rw [ht]; exact hs.2.2.2.1), if_neg (by rw [ht]; exact fun h => by rw [h] at hs; exact absurd hs.1 (by decide))]
    unfold nameS
    rw [ht, hres, if_neg (by rw [hk]; simp), ebd_ok]
    simp only []
    rw [hU v hl]; rfl
end
end Go.Proofs.YtpomhkkhdojpiaaDoor
