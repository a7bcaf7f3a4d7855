import Derived.Test.YtpomhkkhdojpiaaDoorPlChkL
import Derived.Test.YtpomhkkhdojpiaaDoorPlRi
import Derived.Test.YtpomhkkhdojpiaaDoorPlDn
namespace Go.Proofs.YtpomhkkhdojpiaaDoor
open Go Go.RowKit
/-! ### Expressions as trees -/
inductive Ex where
  | lf (x : M_tree_Node)
  | un (x : M_tree_Node) (a : Ex)
  | bi (x : M_tree_Node) (a b : Ex)
def rtE : Ex → M_tree_Node
  | .lf x => x
  | .un x _ => x
  | .bi x _ _ => x
def fl : Ex → List M_tree_Node
  | .lf x => [x]
  | .un x a => fl a ++ [x]
  | .bi x a b => fl a ++ (fl b ++ [x])
def wf : Ex → Prop
  | .lf x => ar x.Op = 0
  | .un x a => ar x.Op = 1 ∧ wf a
  | .bi x a b => ar x.Op = 2 ∧ wf a ∧ wf b
def dep : Ex → Int
  | .lf _ => 1
  | .un _ a => max 0 (dep a) + 1
  | .bi _ a b => max (max 0 (dep b)) (dep a) + 1
theorem fl_pos (e : Ex) : 0 < (fl e).length := by cases e <;> simp [fl] <;> omega
theorem fl_last (e : Ex) : (fl e)[(fl e).length - 1]? = some (rtE e) := by
  cases e with
  | lf x => simp [fl, rtE]
  | un x a => simp [fl, rtE]
  | bi x a b => simp only [fl, rtE, ← List.append_assoc]; simp
theorem dep_pos (e : Ex) : 1 ≤ dep e := by cases e <;> simp only [dep] <;> omega
def flS : List Ex → List M_tree_Node
  | [] => []
  | e :: s => flS s ++ fl e
theorem tree_key {L : Int} (hL : 0 ≤ L) : ∀ (ys : List M_tree_Node) (i : Nat) (st : List Ex), (∀ e ∈ st, wf e) → runG wrG (fun o => if o = 1 then -1 else L) ys i (st.length : Int) < 0 → ∃ e, wf e ∧ fl e = flS st ++ ys
  | [], i, st, hw, h => by
    simp only [runG] at h
    by_cases h1 : (st.length : Int) = 1
    · match st, h1 with
      | [e], _ => exact ⟨e, hw e (.head _), by simp [flS]⟩
    · rw [if_neg h1] at h; omega
  | y :: ys, i, st, hw, h => by
    simp only [runG, wrG] at h
    by_cases hy : ar y.Op < 0 ∨ (st.length : Int) < ar y.Op
    · rw [if_pos hy] at h; simp only [] at h; omega
    · rw [if_neg hy] at h; simp only [] at h
      rcases ar_cases y.Op with h1 | h1 | h1 | h1
      · obtain ⟨e, he, hf⟩ := tree_key hL ys (i + 1) (.lf y :: st) (fun e he => by rcases List.mem_cons.1 he with rfl | he; exact h1; exact hw e he) (by rw [List.length_cons]; rw [h1] at h; rw [show ((st.length + 1 : Nat) : Int) = (st.length : Int) + 1 - 0 by omega]; exact h)
        exact ⟨e, he, by rw [hf]; simp [flS, fl]⟩
      · match st, hw, hy, h with
        | [], _, hy, _ => simp at hy; omega
        | a :: st, hw, _, h =>
          obtain ⟨e, he, hf⟩ := tree_key hL ys (i + 1) (.un y a :: st) (fun e he => by rcases List.mem_cons.1 he with rfl | he; exact ⟨h1, hw a (.head _)⟩; exact hw e (.tail _ he)) (by rw [List.length_cons] at h ⊢; rw [h1] at h; rw [show ((st.length + 1 : Nat) : Int) = ((st.length + 1 : Nat) : Int) + 1 - 1 by omega]; exact h)
          exact ⟨e, he, by rw [hf]; simp [flS, fl]⟩
      · match st, hw, hy, h with
        | [], _, hy, _ => simp at hy; omega
        | [_], _, hy, _ => simp at hy; omega
        | b :: a :: st, hw, _, h =>
          obtain ⟨e, he, hf⟩ := tree_key hL ys (i + 1) (.bi y a b :: st) (fun e he => by rcases List.mem_cons.1 he with rfl | he; exact ⟨h1, hw a (.tail _ (.head _)), hw b (.head _)⟩; exact hw e (.tail _ (.tail _ he))) (by rw [List.length_cons, List.length_cons] at h; rw [List.length_cons]; rw [h1] at h; rw [show ((st.length + 1 : Nat) : Int) = ((st.length + 1 + 1 : Nat) : Int) + 1 - 2 by omega]; exact h)
          exact ⟨e, he, by rw [hf]; simp [flS, fl]⟩
      · omega
theorem tree_of {c : List M_tree_Node} (h : wrongT c < 0) : ∃ e, wf e ∧ fl e = c := by
  obtain ⟨e, he, hf⟩ := tree_key (L := (c.length : Int)) (by omega) c 0 [] (fun e he => by cases he) h
  exact ⟨e, he, by rw [hf]; rfl⟩
theorem wr_fl {E : Int → Int} : ∀ (e : Ex), wf e → ∀ (ys : List M_tree_Node) (i : Nat) (o : Int), 0 ≤ o → ∃ j, runG wrG E (fl e ++ ys) i o = runG wrG E ys j (o + 1)
  | .lf x, h, ys, i, o, ho => ⟨i + 1, by
      unfold wf at h
      simp only [fl, List.cons_append, List.nil_append, runG, wrG]; rw [if_neg (by omega), h]; simp⟩
  | .un x a, h, ys, i, o, ho => by
      unfold wf at h
      obtain ⟨j, hj⟩ := wr_fl a h.2 ([x] ++ ys) i o ho
      refine ⟨j + 1, ?_⟩
      simp only [fl, List.append_assoc]; rw [hj]
      simp only [List.cons_append, List.nil_append, runG, wrG]; rw [if_neg (by omega), h.1]; simp
  | .bi x a b, h, ys, i, o, ho => by
      unfold wf at h
      obtain ⟨j, hj⟩ := wr_fl a h.2.1 (fl b ++ ([x] ++ ys)) i o ho
      obtain ⟨k, hk⟩ := wr_fl b h.2.2 ([x] ++ ys) j (o + 1) (by omega)
      refine ⟨k + 1, ?_⟩
      simp only [fl, List.append_assoc]; rw [hj, hk]
      simp only [List.cons_append, List.nil_append, runG, wrG]; rw [if_neg (by omega), h.1, show o + 1 + 1 + 1 - 2 = o + 1 by omega]
theorem wrong_fl {e : Ex} (h : wf e) : wrongT (fl e) = -1 := by
  unfold wrongT
  obtain ⟨j, hj⟩ := wr_fl (E := fun o => if o = 1 then -1 else ((fl e).length : Int)) e h [] 0 0 (by omega)
  rw [List.append_nil] at hj; rw [hj]; rfl
theorem stk_fl : ∀ (e : Ex), wf e → ∀ (c : List M_tree_Node) (k : Nat), (∀ j, j < (fl e).length → c[k + j]? = (fl e)[j]?) → stk c (k + (fl e).length) = (dep e, k) :: stk c k
  | .lf x, h, c, k, hc => by
      unfold wf at h
      have h0 := hc 0 (fl_pos _)
      simp only [fl, List.length_cons, List.length_nil] at h0 ⊢
      rw [stk_succ (by rw [show k = k + 0 from rfl, h0]; rfl)]
      unfold stk1; rw [if_neg (by omega), if_neg (by omega)]; rfl
  | .un x a, h, c, k, hc => by
      unfold wf at h
      have ha := stk_fl a h.2 c k (fun j hj => by rw [hc j (by simp [fl]; omega)]; simp only [fl]; rw [List.getElem?_append_left hj])
      have h0 := hc (fl a).length (by simp [fl])
      simp only [fl, List.length_append, List.length_cons, List.length_nil] at h0 ⊢
      rw [show k + ((fl a).length + (0 + 1)) = k + (fl a).length + 1 by omega, stk_succ (x := x) (by rw [h0]; simp), ha]
      unfold stk1; rw [if_pos h.1]; rfl
  | .bi x a b, h, c, k, hc => by
      unfold wf at h
      have ha := stk_fl a h.2.1 c k (fun j hj => by rw [hc j (by simp [fl]; omega)]; simp only [fl]; rw [List.getElem?_append_left hj])
      have hb := stk_fl b h.2.2 c (k + (fl a).length) (fun j hj => by
        rw [Nat.add_assoc, hc ((fl a).length + j) (by simp [fl]; omega)]; simp only [fl]; rw [List.getElem?_append_right (by omega), Nat.add_sub_cancel_left, List.getElem?_append_left hj])
      have h0 := hc ((fl a).length + (fl b).length) (by simp [fl])
      simp only [fl, List.length_append, List.length_cons, List.length_nil] at h0 ⊢
      rw [show k + ((fl a).length + ((fl b).length + (0 + 1))) = k + (fl a).length + (fl b).length + 1 by omega, stk_succ (x := x) (by rw [Nat.add_assoc, h0]; simp), hb, ha]
      unfold stk1; rw [if_neg (by omega), if_pos h.1]; rfl
theorem depth_fl {e : Ex} (h : wf e) : depthT (fl e) = dep e := by
  unfold depthT
  have := stk_fl e h (fl e) 0 (fun j _ => by rw [Nat.zero_add])
  rw [Nat.zero_add] at this
  rw [wrong_fl h, if_pos (by omega), this]; rfl
/-! ### Texts of expressions -/
def rkI (op : Int) : Int := if op = 7 ∨ op = 8 then 1 else if op = 9 ∨ op = 10 then 2 else if op = 6 then 3 else if op = 11 then 4 else 5
def inB (s : List UInt8) (r least : Int) : List UInt8 := if r < least then [40] ++ s ++ [41] else s
def sgS (op : Int) : List UInt8 := if op = 7 then [43] else if op = 8 then [45] else if op = 9 then [42] else [47]
def lfS (Nm : List (List UInt8)) (x : M_tree_Node) : List UInt8 :=
  if x.Op = 1 then dec (val x.N) else if x.Op = 3 then [121, 91] ++ Lib.itoa x.I ++ [93] else if x.Op = 4 then [112, 91] ++ Lib.itoa x.I ++ [93] else if x.Op = 5 then Nm.getD x.I.toNat [] else [116]
def wrS (Nm : List (List UInt8)) : Ex → List UInt8
  | .lf x => lfS Nm x
  | .un x a => if x.Op = 6 then [45] ++ inB (wrS Nm a) (rkI (rtE a).Op) 3 else inB (wrS Nm a) (rkI (rtE a).Op) 5 ++ [94] ++ Lib.itoa x.I
  | .bi x a b => inB (wrS Nm a) (rkI (rtE a).Op) (rkI x.Op) ++ ([32] ++ sgS x.Op ++ [32]) ++ inB (wrS Nm b) (rkI (rtE b).Op) (rkI x.Op + 1)
theorem m_show_rank_eq (op : Int) : m_show_rank op = some (rkI op) := by
  unfold m_show_rank rkI
  simp only [jn_eq, bifd]
  grind
theorem rkI_le (op : Int) : 1 ≤ rkI op ∧ rkI op ≤ 5 := by unfold rkI; grind
/-- What a written node may be: its nodes are all right. -/
def okE (l : Int) (e : Ex) : Prop := wf e ∧ ∀ x ∈ fl e, nodeOk x 6 6 l = true ∧ NB x
theorem okE_un {l x a} (h : okE l (.un x a)) : ar x.Op = 1 ∧ okE l a ∧ nodeOk x 6 6 l = true ∧ NB x := by
  obtain ⟨h1, h2⟩ := h
  unfold wf at h1
  exact ⟨h1.1, ⟨h1.2, fun y hy => h2 y (by simp [fl, hy])⟩, h2 x (by simp [fl])⟩
theorem okE_bi {l x a b} (h : okE l (.bi x a b)) : ar x.Op = 2 ∧ okE l a ∧ okE l b ∧ nodeOk x 6 6 l = true ∧ NB x := by
  obtain ⟨h1, h2⟩ := h
  unfold wf at h1
  exact ⟨h1.1, ⟨h1.2.1, fun y hy => h2 y (by simp [fl, hy])⟩, ⟨h1.2.2, fun y hy => h2 y (by simp [fl, hy])⟩, h2 x (by simp [fl])⟩
theorem inB_len (s r least) : (inB s r least).length ≤ s.length + 2 := by unfold inB; split <;> simp
theorem small_itoa {x : Int} (h1 : -8 ≤ x) (h2 : x ≤ 8) : (Lib.itoa x).length ≤ 2 := by
  by_cases h : x < 0
  · rw [itoa_negd h, dec_lt10 (by omega)]; simp
  · obtain ⟨k, rfl⟩ : ∃ k : Nat, x = k := ⟨x.toNat, by omega⟩
    rw [itoa_dec, dec_lt10 (by omega)]; simp
theorem sgS_len (op) : (sgS op).length = 1 := by unfold sgS; (repeat' split) <;> rfl
theorem ar0 {op : Int} (h : ar op = 0) : op = 1 ∨ op = 2 ∨ op = 3 ∨ op = 4 ∨ op = 5 := by unfold ar at h; grind
theorem ar1 {op : Int} (h : ar op = 1) : op = 6 ∨ op = 11 := by unfold ar at h; grind
theorem ar2 {op : Int} (h : ar op = 2) : op = 7 ∨ op = 8 ∨ op = 9 ∨ op = 10 := by unfold ar at h; grind
/-- What is right of a leaf that may be. -/
theorem lf_ok {l : Int} {x : M_tree_Node} (h0 : ar x.Op = 0) (h : nodeOk x 6 6 l = true) :
    (x.Op = 1 ∧ x.I = 0 ∧ trimZ x.N = x.N ∧ (dec (val x.N)).length ≤ 60) ∨ (x.Op = 2 ∧ x.I = 0 ∧ x.N = []) ∨ (x.Op = 3 ∧ 0 ≤ x.I ∧ x.I < 6 ∧ x.N = []) ∨ (x.Op = 4 ∧ 0 ≤ x.I ∧ x.I < 6 ∧ x.N = []) ∨ (x.Op = 5 ∧ 0 ≤ x.I ∧ x.I < l ∧ x.N = []) := by
  have hz : ¬ 0 < x.N.length → x.N = [] := fun h => List.length_eq_zero_iff.1 (by omega)
  unfold nodeOk numOk at h
  rcases ar0 h0 with e | e | e | e | e
  · rw [if_pos e] at h; simp only [Bool.and_eq_true, decide_eq_true_eq] at h; exact .inl ⟨e, h.1, h.2.1, h.2.2⟩
  · rw [if_neg (by omega)] at h
    by_cases hn : 0 < x.N.length
    · rw [if_pos hn] at h; cases h
    · rw [if_neg hn] at h; rw [if_neg (by omega), if_neg (by omega), if_neg (by omega), if_neg (by omega)] at h; simp only [Bool.and_eq_true, decide_eq_true_eq] at h; exact .inr (.inl ⟨e, h.1, hz hn⟩)
  · rw [if_neg (by omega)] at h
    by_cases hn : 0 < x.N.length
    · rw [if_pos hn] at h; cases h
    · rw [if_neg hn] at h; rw [if_pos (by omega)] at h; simp only [decide_eq_true_eq] at h; exact .inr (.inr (.inl ⟨e, h.1, h.2, hz hn⟩))
  · rw [if_neg (by omega)] at h
    by_cases hn : 0 < x.N.length
    · rw [if_pos hn] at h; cases h
    · rw [if_neg hn] at h; rw [if_neg (by omega), if_pos (by omega)] at h; simp only [decide_eq_true_eq] at h; exact .inr (.inr (.inr (.inl ⟨e, h.1, h.2, hz hn⟩)))
  · rw [if_neg (by omega)] at h
    by_cases hn : 0 < x.N.length
    · rw [if_pos hn] at h; cases h
    · rw [if_neg hn] at h; rw [if_neg (by omega), if_neg (by omega), if_pos (by omega)] at h; simp only [decide_eq_true_eq] at h; exact .inr (.inr (.inr (.inr ⟨e, h.1, h.2, hz hn⟩)))
theorem un_ok {l : Int} {x : M_tree_Node} (h0 : ar x.Op = 1) (h : nodeOk x 6 6 l = true) : (x.Op = 6 ∧ x.I = 0 ∧ x.N = []) ∨ (x.Op = 11 ∧ -8 ≤ x.I ∧ x.I ≤ 8 ∧ x.N = []) := by
  have hz : ¬ 0 < x.N.length → x.N = [] := fun h => List.length_eq_zero_iff.1 (by omega)
  unfold nodeOk at h
  rcases ar1 h0 with e | e
  · rw [if_neg (by omega)] at h
    by_cases hn : 0 < x.N.length
    · rw [if_pos hn] at h; cases h
    · rw [if_neg hn] at h; rw [if_neg (by omega), if_neg (by omega), if_neg (by omega), if_neg (by omega)] at h; simp only [Bool.and_eq_true, decide_eq_true_eq] at h; exact .inl ⟨e, h.1, hz hn⟩
  · rw [if_neg (by omega)] at h
    by_cases hn : 0 < x.N.length
    · rw [if_pos hn] at h; cases h
    · rw [if_neg hn] at h; rw [if_neg (by omega), if_neg (by omega), if_neg (by omega), if_pos (by omega)] at h; simp only [decide_eq_true_eq] at h; exact .inr ⟨e, h.1, h.2, hz hn⟩
theorem bi_ok {l : Int} {x : M_tree_Node} (h0 : ar x.Op = 2) (h : nodeOk x 6 6 l = true) : x.I = 0 ∧ x.N = [] := by
  have hz : ¬ 0 < x.N.length → x.N = [] := fun h => List.length_eq_zero_iff.1 (by omega)
  have e := ar2 h0
  unfold nodeOk at h
  rw [if_neg (by omega)] at h
  by_cases hn : 0 < x.N.length
  · rw [if_pos hn] at h; cases h
  · rw [if_neg hn] at h; rw [if_neg (by omega), if_neg (by omega), if_neg (by omega), if_neg (by omega)] at h; simp only [Bool.and_eq_true, decide_eq_true_eq] at h; exact ⟨h.1, hz hn⟩
theorem lfS_len {Nm : List (List UInt8)} {x : M_tree_Node} (hN : ∀ s ∈ Nm, s.length ≤ 100) (h0 : ar x.Op = 0) (h : nodeOk x 6 6 (Nm.length : Int) = true) : (lfS Nm x).length ≤ 100 := by
  unfold lfS
  rcases lf_ok h0 h with ⟨e, _, _, h⟩ | ⟨e, _⟩ | ⟨e, h1, h2, _⟩ | ⟨e, h1, h2, _⟩ | ⟨e, h1, h2, _⟩
  · rw [if_pos e]; omega
  · rw [if_neg (by omega), if_neg (by omega), if_neg (by omega), if_neg (by omega)]; decide
  · rw [if_neg (by omega), if_pos e]; have := small_itoa (x := x.I) (by omega) (by omega); simp; omega
  · rw [if_neg (by omega), if_neg (by omega), if_pos e]; have := small_itoa (x := x.I) (by omega) (by omega); simp; omega
  · rw [if_neg (by omega), if_neg (by omega), if_neg (by omega), if_pos e]
    rw [List.getD_eq_getElem?_getD, List.getElem?_eq_getElem (show x.I.toNat < Nm.length by omega)]
    exact hN _ (List.getElem_mem _)
theorem wrS_len {Nm : List (List UInt8)} (hN : ∀ s ∈ Nm, s.length ≤ 100) : ∀ (e : Ex), okE (Nm.length : Int) e → (wrS Nm e).length ≤ 110 * (fl e).length
  | .lf x, h => by
    have := lfS_len hN (by have := h.1; unfold wf at this; exact this) (h.2 x (by simp [fl])).1
    simp only [wrS, fl, List.length_cons, List.length_nil]; omega
  | .un x a, h => by
    obtain ⟨h1, h2, h3, _⟩ := okE_un h
    have := wrS_len hN a h2
    have i3 := inB_len (wrS Nm a) (rkI (rtE a).Op) 3
    have i5 := inB_len (wrS Nm a) (rkI (rtE a).Op) 5
    simp only [wrS, fl, List.length_append, List.length_cons, List.length_nil]
    rcases un_ok h1 h3 with ⟨e, _⟩ | ⟨e, e1, e2, _⟩
    · rw [if_pos e]; simp; omega
    · rw [if_neg (by omega)]; have := small_itoa e1 e2; simp; omega
  | .bi x a b, h => by
    obtain ⟨h1, h2, h3, _⟩ := okE_bi h
    have ha := wrS_len hN a h2
    have hb := wrS_len hN b h3
    have i3 := inB_len (wrS Nm a) (rkI (rtE a).Op) (rkI x.Op)
    have i5 := inB_len (wrS Nm b) (rkI (rtE b).Op) (rkI x.Op + 1)
    have := sgS_len x.Op
    simp only [wrS, fl, List.length_append, List.length_cons, List.length_nil]; omega
end Go.Proofs.YtpomhkkhdojpiaaDoor
