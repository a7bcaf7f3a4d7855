import Derived.Test.YtpomhkkhdojpiaaDoorPlRt2
namespace Go.Proofs.YtpomhkkhdojpiaaDoor
open Go Go.RowKit
/-! ### What is written is read as it was: the chains -/
section
variable {W : List M_lex_Word} {E : Int} {Nm : List (List UInt8)}
theorem chainL_stop {p : Nat → Prs} {a b : List UInt8} {oa ob : Int} {k : Nat} {c : List M_tree_Node} {j : Nat} (h1 : (nxW W j).Text ≠ a) (h2 : (nxW W j).Text ≠ b) : chainL W p a b oa ob k c j = .ok (c, j) := by
  cases k with
  | zero => rfl
  | succ k => unfold chainL; rw [if_neg h1, if_neg h2]
theorem chainL_a {p : Nat → Prs} {a b : List UInt8} {oa ob : Int} {k : Nat} {c u : List M_tree_Node} {j j' : Nat} (h1 : (nxW W j).Text = a) (h2 : p (j + 1) = .ok (u, j')) : chainL W p a b oa ob (k + 1) c j = chainL W p a b oa ob k (c ++ u ++ [⟨oa, 0, []⟩]) j' := by
  rw [chainL, if_pos h1, h2, ebd_ok]
theorem chainL_b {p : Nat → Prs} {a b : List UInt8} {oa ob : Int} {k : Nat} {c u : List M_tree_Node} {j j' : Nat} (hab : b ≠ a) (h1 : (nxW W j).Text = b) (h2 : p (j + 1) = .ok (u, j')) : chainL W p a b oa ob (k + 1) c j = chainL W p a b oa ob k (c ++ u ++ [⟨ob, 0, []⟩]) j' := by
  rw [chainL, if_neg (by rw [h1]; exact hab), if_pos h1, h2, ebd_ok]
/-- The word at a place. -/
abbrev nt (W : List M_lex_Word) (j : Nat) : List UInt8 := (nxW W j).Text
def FAo (W : List M_lex_Word) (E : Int) (Nm : List (List UInt8)) (T : List (List UInt8)) (c : List M_tree_Node) (r : Nat) : Prop := ∀ i, Pre W i T → nt W (i + T.length) ≠ [94] → factS W E Nm r i = .ok (c, i + T.length)
def TEo (W : List M_lex_Word) (E : Int) (Nm : List (List UInt8)) (T : List (List UInt8)) (c : List M_tree_Node) (r : Nat) : Prop := ∀ i, Pre W i T → nt W (i + T.length) ≠ [94] →
  ∃ k, W.length ≤ k + T.length ∧ termS W (factS W E Nm r) i = chainL W (factS W E Nm r) [42] [47] 9 10 k c (i + T.length)
def EXo (W : List M_lex_Word) (E : Int) (Nm : List (List UInt8)) (T : List (List UInt8)) (c : List M_tree_Node) (r : Nat) : Prop := ∀ i, Pre W i T → nt W (i + T.length) ≠ [94] → nt W (i + T.length) ≠ [42] → nt W (i + T.length) ≠ [47] →
  ∃ k, W.length ≤ k + T.length ∧ exS W (factS W E Nm r) i = chainL W (termS W (factS W E Nm r)) [43] [45] 7 8 k c (i + T.length)
theorem TE_of_FA {T c r} (h : FAo W E Nm T c r) : TEo W E Nm T c r := fun i hp hn => ⟨W.length, by omega, by unfold termS chainS; rw [h i hp hn, ebd_ok]⟩
theorem EX_of_TE {T c r} (h : TEo W E Nm T c r) : EXo W E Nm T c r := fun i hp h1 h2 h3 => by
  obtain ⟨k, _, e⟩ := h i hp h1
  exact ⟨W.length, by omega, by unfold exS; rw [chainS, e, chainL_stop h2 h3, ebd_ok]⟩
variable (hW : WOk W)
include hW
/-- In brackets. -/
theorem atom_br {T : List (List UInt8)} {c : List M_tree_Node} {r : Nat} (h : EXo W E Nm T c r) {i : Nat} (hp : Pre W i ([40] :: (T ++ [[41]]))) :
    atomS W E Nm (r + 1) (exR W E Nm (r + 1)) i = .ok (c, i + (T.length + 2)) ∧ nt W i = [40] := by
  obtain ⟨hi, ht, h1⟩ := pre_cons hp
  obtain ⟨h2, h3⟩ := pre_app h1
  obtain ⟨_, hc, _⟩ := pre_cons h3
  refine ⟨?_, ht⟩
  obtain ⟨k, _, e⟩ := h (i + 1) h2 (by unfold nt; rw [hc]; decide) (by unfold nt; rw [hc]; decide) (by unfold nt; rw [hc]; decide)
  rw [chainL_stop (by rw [hc]; decide) (by rw [hc]; decide)] at e
  rw [show exR W E Nm (r + 1) = exS W (factS W E Nm r) from rfl]
  unfold atomS
  rw [if_neg (by rw [word_kind hW hi ht]; decide), if_neg (by rw [ht]; decide), if_neg (by rw [ht]; decide), if_neg (by rw [ht]; decide), if_pos ht, if_neg (by omega), e, ebd_ok]
  unfold needS
  simp only []
  rw [if_pos hc, ebd_ok, show i + 1 + T.length + 1 = i + (T.length + 2) by omega]
omit hW in
theorem pow_plain {r i j : Nat} {c : List M_tree_Node} (h : atomS W E Nm r (exR W E Nm r) i = .ok (c, j)) (h45 : nt W i ≠ [45]) (hj : nt W j ≠ [94]) : factS W E Nm r i = .ok (c, j) := by
  rw [fact_pos h45, powS, h, ebd_ok, if_neg hj]
theorem pow_tk {r i j : Nat} {c : List M_tree_Node} {x : Int} (hx : -8 ≤ x) (hx' : x ≤ 8) (h : atomS W E Nm r (exR W E Nm r) i = .ok (c, j)) (h45 : nt W i ≠ [45]) (hp : Pre W j ([94] :: itP x)) :
    factS W E Nm r i = .ok (c ++ [⟨11, x, []⟩], j + (1 + (itP x).length)) := by
  obtain ⟨_, hj, h1⟩ := pre_cons hp
  rw [fact_pos h45, powS, h, ebd_ok]
  simp only []
  rw [if_pos hj]
  unfold itP at h1 ⊢
  by_cases hn : x < 0
  · rw [if_pos hn] at h1 ⊢
    obtain ⟨_, h2, h3⟩ := pre_cons h1
    obtain ⟨h4, h5, _⟩ := pre_cons h3
    simp only [if_pos h2]
    unfold smallS
    rw [if_neg (by rw [word_dec hW h4 h5, h5, dec_lt10 (by omega)]; simp), ebd_ok, h5, numD_dec]
    simp only [List.length_cons, List.length_nil]
    rw [show -((x.natAbs : Nat) : Int) = x by omega]
  · rw [if_neg hn] at h1 ⊢
    obtain ⟨h4, h5, _⟩ := pre_cons h1
    have n45 : (nxW W (j + 1)).Text ≠ [45] := by rw [h5]; exact dec_ne_c (by decide)
    simp only [if_neg n45]
    unfold smallS
    rw [if_neg (by rw [word_dec hW h4 h5, h5, dec_lt10 (by omega)]; simp), ebd_ok, h5, numD_dec]
    simp only [List.length_cons, List.length_nil]
    rw [show ((x.natAbs : Nat) : Int) = x by omega]
/-- All that is read of a tree that was written. -/
structure RdE (W : List M_lex_Word) (E : Int) (Nm : List (List UInt8)) (e : Ex) : Prop where
  ex : ∀ r : Nat, lv e ≤ r → EXo W E Nm (tk Nm e) (fl e) r
  te : ∀ r : Nat, lv e ≤ r → 2 ≤ rkI (rtE e).Op → TEo W E Nm (tk Nm e) (fl e) r
  fa : ∀ r : Nat, lv e ≤ r → 3 ≤ rkI (rtE e).Op → FAo W E Nm (tk Nm e) (fl e) r
variable (hN : NmOk Nm) (hU : NmU Nm)
omit hW in
theorem rk5 {e : Ex} (h : wf e) (h5 : 5 ≤ rkI (rtE e).Op) : ∃ x, e = .lf x := by
  cases e with
  | lf x => exact ⟨x, rfl⟩
  | un x a => unfold wf at h; have := rk_un h.1; rw [show rtE (.un x a) = x from rfl] at h5; omega
  | bi x a b => unfold wf at h; have := rk_bi h.1; rw [show rtE (.bi x a b) = x from rfl] at h5; omega
include hN hU
theorem in5 {e : Ex} (he : okE (Nm.length : Int) e) (h : RdE W E Nm e) {r : Nat} (hr : lvW (lv e) (rkI (rtE e).Op) 5 ≤ r) {i : Nat} (hp : Pre W i (inP (tk Nm e) (rkI (rtE e).Op) 5)) :
    atomS W E Nm r (exR W E Nm r) i = .ok (fl e, i + (inP (tk Nm e) (rkI (rtE e).Op) 5).length) ∧ nt W i ≠ [45] := by
  unfold lvW at hr
  unfold inP at hp ⊢
  by_cases h5 : rkI (rtE e).Op < 5
  · rw [if_pos h5] at hr hp ⊢
    have := lv_nonneg e
    obtain ⟨q, rfl⟩ : ∃ q, r = q + 1 := ⟨r - 1, by omega⟩
    obtain ⟨h1, h2⟩ := atom_br hW (h.ex q (by omega)) hp
    exact ⟨by rw [h1]; simp, by rw [h2]; decide⟩
  · rw [if_neg h5] at hr hp ⊢
    obtain ⟨x, rfl⟩ := rk5 he.1 (by omega)
    exact atom_lf hW hN hU he hp
omit hN hU in
theorem inF {e : Ex} (h : RdE W E Nm e) {k : Int} (hk : k ≤ 3) (h3 : rkI (rtE e).Op < k ∨ 3 ≤ rkI (rtE e).Op) {r : Nat} (hr : lvW (lv e) (rkI (rtE e).Op) k ≤ r) : FAo W E Nm (inP (tk Nm e) (rkI (rtE e).Op) k) (fl e) r := by
  unfold lvW at hr
  unfold inP
  by_cases h5 : rkI (rtE e).Op < k
  · rw [if_pos h5] at hr ⊢
    have := lv_nonneg e
    obtain ⟨q, rfl⟩ : ∃ q, r = q + 1 := ⟨r - 1, by omega⟩
    intro i hp hn
    obtain ⟨h1, h2⟩ := atom_br hW (h.ex q (by omega)) hp
    have e1 : i + ([40] :: (tk Nm e ++ [[41]])).length = i + ((tk Nm e).length + 2) := by simp
    rw [e1] at hn ⊢
    exact pow_plain h1 (by rw [h2]; decide) hn
  · rw [if_neg h5] at hr ⊢
    exact h.fa r hr (by omega)
omit hN hU in
theorem inT {e : Ex} (h : RdE W E Nm e) {r : Nat} (hr : lvW (lv e) (rkI (rtE e).Op) 2 ≤ r) : TEo W E Nm (inP (tk Nm e) (rkI (rtE e).Op) 2) (fl e) r := by
  by_cases h5 : rkI (rtE e).Op < 2
  · exact TE_of_FA (inF hW h (by decide) (.inl h5) hr)
  · unfold lvW at hr; unfold inP
    rw [if_neg h5] at hr ⊢
    exact h.te r hr (by omega)
theorem rd_all : ∀ (e : Ex), okE (Nm.length : Int) e → RdE W E Nm e
  | .lf x, he => by
    have fa : ∀ r : Nat, FAo W E Nm (tk Nm (.lf x)) (fl (.lf x)) r := fun r i hp hn => by
      obtain ⟨h1, h2⟩ := atom_lf (r := r) (ex := exR W E Nm r) (E := E) hW hN hU he hp
      exact pow_plain h1 h2 hn
    exact ⟨fun r _ => EX_of_TE (TE_of_FA (fa r)), fun r _ _ => TE_of_FA (fa r), fun r _ _ => fa r⟩
  | .un x a, he => by
    obtain ⟨h1, h2, h3, _⟩ := okE_un he
    have ha := rd_all a h2
    have fa : ∀ r : Nat, lv (.un x a) ≤ r → FAo W E Nm (tk Nm (.un x a)) (fl (.un x a)) r := fun r hr i hp hn => by
      obtain ⟨Op, I, N⟩ := x
      rcases un_ok h1 h3 with ⟨e, e1, e2⟩ | ⟨e, e1, e2, e3⟩
      · simp only [] at e e1 e2
        subst e e1 e2
        rw [lv, if_pos rfl] at hr
        rw [tk_un6 rfl] at hp hn ⊢
        obtain ⟨hi, ht, hp⟩ := pre_cons hp
        have l0 : 0 ≤ lvW (lv a) (rkI (rtE a).Op) 3 := by have := lv_nonneg a; unfold lvW; split <;> omega
        obtain ⟨q, rfl⟩ : ∃ q, r = q + 1 := ⟨r - 1, by omega⟩
        rw [List.length_cons, show ∀ m, i + (m + 1) = i + 1 + m by omega] at hn ⊢
        have := inF hW ha (Int.le_refl 3) (by omega) (r := q) (by omega) (i + 1) hp hn
        unfold factS
        rw [if_pos ht, this, ebd_ok]; rfl
      · simp only [] at e e1 e2 e3
        subst e e3
        rw [lv, if_neg (by simp)] at hr
        rw [tk_un11 rfl] at hp hn ⊢
        obtain ⟨p1, p2⟩ := pre_app hp
        obtain ⟨g1, g2⟩ := in5 hW hN hU h2 ha hr p1
        rw [pow_tk hW e1 e2 g1 g2 p2]
        simp only [fl, List.length_append, List.length_cons]
        rw [show ∀ m l, i + m + (1 + l) = i + (m + (l + 1)) by omega]
    have rk := rk_un h1
    exact ⟨fun r hr => EX_of_TE (TE_of_FA (fa r hr)), fun r hr _ => TE_of_FA (fa r hr), fun r hr _ => fa r hr⟩
  | .bi x a b, he => by
    obtain ⟨h1, h2, h2', h3, _⟩ := okE_bi he
    have ha := rd_all a h2
    have hb := rd_all b h2'
    obtain ⟨hI, hNn⟩ := bi_ok h1 h3
    obtain ⟨Op, I, N⟩ := x
    simp only [] at hI hNn
    subst hI hNn
    have ra := rkI_le (rtE a).Op
    have rb := rkI_le (rtE b).Op
    rcases rk_bi h1 with ⟨rk, ho⟩ | ⟨rk, ho⟩
    · simp only [] at rk ho
      have ex : ∀ r : Nat, lv (.bi ⟨Op, 0, []⟩ a b) ≤ r → EXo W E Nm (tk Nm (.bi ⟨Op, 0, []⟩ a b)) (fl (.bi ⟨Op, 0, []⟩ a b)) r := fun r hr i hp n1 n2 n3 => by
        rw [lv] at hr
        simp only [rk] at hr
        have hra : lv a ≤ r := by unfold lvW at hr; rw [if_neg (by omega)] at hr; omega
        have hrb : lvW (lv b) (rkI (rtE b).Op) 2 ≤ r := by rw [show (1 : Int) + 1 = 2 from rfl] at hr; omega
        rw [tk_bi] at hp n1 n2 n3 ⊢
        simp only [rk] at hp n1 n2 n3 ⊢
        rw [show (1 : Int) + 1 = 2 from rfl] at hp n1 n2 n3 ⊢
        rw [show inP (tk Nm a) (rkI (rtE a).Op) 1 = tk Nm a by unfold inP; rw [if_neg (by omega)]] at hp n1 n2 n3 ⊢
        obtain ⟨p1, p2⟩ := pre_app hp
        obtain ⟨hj, hs, p3⟩ := pre_cons p2
        have s94 : sgS Op ≠ [94] ∧ sgS Op ≠ [42] ∧ sgS Op ≠ [47] := by rcases ho with rfl | rfl <;> decide
        obtain ⟨k, hk, e1⟩ := ha.ex r hra i p1 (by unfold nt; rw [hs]; exact s94.1) (by unfold nt; rw [hs]; exact s94.2.1) (by unfold nt; rw [hs]; exact s94.2.2)
        have el : ∀ l m : Nat, i + (l + (m + 1)) = i + l + 1 + m := by omega
        rw [List.length_append, List.length_cons, el] at n1 n2 n3 ⊢
        obtain ⟨k2, _, e2⟩ := inT hW hb hrb _ p3 n1
        rw [chainL_stop n2 n3] at e2
        obtain ⟨k, rfl⟩ : ∃ q, k = q + 1 := ⟨k - 1, by omega⟩
        refine ⟨k, by omega, ?_⟩
        rw [e1]
        rcases ho with rfl | rfl
        · rw [chainL_a (a := [43]) hs e2]; simp only [fl, List.append_assoc]
        · rw [chainL_b (b := [45]) (by decide) hs e2]; simp only [fl, List.append_assoc]
      exact ⟨ex, fun r _ h => by rw [show rtE (.bi ⟨Op, 0, []⟩ a b) = ⟨Op, 0, []⟩ from rfl] at h; simp only [] at h; omega, fun r _ h => by rw [show rtE (.bi ⟨Op, 0, []⟩ a b) = ⟨Op, 0, []⟩ from rfl] at h; simp only [] at h; omega⟩
    · simp only [] at rk ho
      have te : ∀ r : Nat, lv (.bi ⟨Op, 0, []⟩ a b) ≤ r → TEo W E Nm (tk Nm (.bi ⟨Op, 0, []⟩ a b)) (fl (.bi ⟨Op, 0, []⟩ a b)) r := fun r hr i hp n1 => by
        rw [lv] at hr
        simp only [rk] at hr
        have hra : lvW (lv a) (rkI (rtE a).Op) 2 ≤ r := by omega
        have hrb : lvW (lv b) (rkI (rtE b).Op) 3 ≤ r := by rw [show (2 : Int) + 1 = 3 from rfl] at hr; omega
        rw [tk_bi] at hp n1 ⊢
        simp only [rk] at hp n1 ⊢
        rw [show (2 : Int) + 1 = 3 from rfl] at hp n1 ⊢
        obtain ⟨p1, p2⟩ := pre_app hp
        obtain ⟨hj, hs, p3⟩ := pre_cons p2
        have s94 : sgS Op ≠ [94] := by rcases ho with rfl | rfl <;> decide
        obtain ⟨k, hk, e1⟩ := inT hW ha hra i p1 (by unfold nt; rw [hs]; exact s94)
        have el : ∀ l m : Nat, i + (l + (m + 1)) = i + l + 1 + m := by omega
        rw [List.length_append, List.length_cons, el] at n1 ⊢
        have e2 := inF hW hb (Int.le_refl 3) (by omega) hrb _ p3 n1
        obtain ⟨k, rfl⟩ : ∃ q, k = q + 1 := ⟨k - 1, by omega⟩
        refine ⟨k, by omega, ?_⟩
        rw [e1]
        rcases ho with rfl | rfl
        · rw [chainL_a (a := [42]) hs e2]; simp only [fl, List.append_assoc]
        · rw [chainL_b (b := [47]) (by decide) hs e2]; simp only [fl, List.append_assoc]
      exact ⟨fun r hr => EX_of_TE (te r hr), fun r hr _ => te r hr, fun r _ h => by rw [show rtE (.bi ⟨Op, 0, []⟩ a b) = ⟨Op, 0, []⟩ from rfl] at h; simp only [] at h; omega⟩
/-- A whole expression. -/
theorem ex0_tk {e : Ex} (he : okE (Nm.length : Int) e) (hd : dep e ≤ 41) {i : Nat} (hp : Pre W i (tk Nm e)) (h : ∀ t ∈ [[94], [42], [47], [43], [45]], nt W (i + (tk Nm e).length) ≠ t) :
    ex0 W E Nm i = .ok (fl e, i + (tk Nm e).length) := by
  have hl := (lv_dep e he.1).1
  obtain ⟨k, _, e1⟩ := (rd_all hW hN hU (E := E) e he).ex 40 (by omega) i hp (h _ (by simp)) (h _ (by simp)) (h _ (by simp))
  unfold ex0
  rw [e1, chainL_stop (h _ (by simp)) (h _ (by simp))]
end
end Go.Proofs.YtpomhkkhdojpiaaDoor
