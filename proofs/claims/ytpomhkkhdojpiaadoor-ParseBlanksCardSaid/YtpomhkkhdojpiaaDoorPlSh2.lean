import Derived.Test.YtpomhkkhdojpiaaDoorPlSh1
namespace Go.Proofs.YtpomhkkhdojpiaaDoor
open Go Go.RowKit
/-! ### The program writes that -/
theorem m_within_eq {p : M_show_piece} {k : Int} (h : p.text.length ≤ 1000000000) : m__show_piece__within p k = some (inB p.text p.rank k) := by
  unfold m__show_piece__within inB
  rw [bifd]
  by_cases hk : p.rank < k
  · rw [if_pos hk, if_pos hk, catS_ok (by simp; omega), sbind, catS_ok (by simp; omega), sbind]
  · rw [if_neg hk, if_neg hk]
theorem m_show_leaf_eq {n : Nat} {x : M_tree_Node} {Nm : List (List UInt8)} (hn : big ≤ n) (h0 : ar x.Op = 0) (h : nodeOk x 6 6 (Nm.length : Int) = true) (hb : NB x) : m_show_leaf n x Nm = some (lfS Nm x) := by
  unfold m_show_leaf lfS
  simp only [bifd]
  rcases lf_ok h0 h with ⟨e, _, _, h⟩ | ⟨e, _⟩ | ⟨e, h1, h2, _⟩ | ⟨e, h1, h2, _⟩ | ⟨e, h1, h2, _⟩
  · rw [if_pos e, if_pos e, m_digits_Text_eq hn (by have := hb.1; omega) hb.2, sbind]
  · simp only [e]; rfl
  · have := small_itoa (x := x.I) (by omega) (by omega)
    rw [if_neg (by omega), if_pos e, if_neg (by omega), if_pos e]; unfold m_strconv_Itoa; rw [sbind, catS_ok (by simp; omega), sbind, catS_ok (by simp; omega), sbind]
  · have := small_itoa (x := x.I) (by omega) (by omega)
    rw [if_neg (by omega), if_neg (by omega), if_pos e, if_neg (by omega), if_neg (by omega), if_pos e]; unfold m_strconv_Itoa; rw [sbind, catS_ok (by simp; omega), sbind, catS_ok (by simp; omega), sbind]
  · rw [if_neg (by omega), if_neg (by omega), if_neg (by omega), if_pos e, if_neg (by omega), if_neg (by omega), if_neg (by omega), if_pos e]
    have hl : x.I.toNat < Nm.length := by omega
    rw [show x.I = (x.I.toNat : Int) by omega, getI_get hl, sbind, Int.toNat_natCast, List.getD_eq_getElem?_getD, List.getElem?_eq_getElem hl]; rfl
theorem m_show_sign_eq {op : Int} : m_show_sign op = some ([32] ++ sgS op ++ [32]) := by
  unfold m_show_sign sgS
  simp only [bifd]
  (repeat' split) <;> rfl
def pcE (Nm : List (List UInt8)) (e : Ex) : M_show_piece := ⟨wrS Nm e, rkI (rtE e).Op⟩
/-- One round. -/
def shB (n : Nat) (Nm : List (List UInt8)) (_ : Nat) (x168 : M_tree_Node) (s166 : List M_show_piece) : Option (Lp (List M_show_piece) (List UInt8)) :=
    (m_show_rank x168.Op).bind fun r170 =>
    jn (fun (j206 : (Int × (List UInt8)) → Option _) =>
      (m_tree_Arity x168.Op).bind fun r209 =>
      bif decide (r209 = (0 : Int)) then (
        (m_show_leaf n x168 Nm).bind fun r211 =>
        j206 ((s166.length : Int), r211))
      else (
        bif decide (r209 = (1 : Int)) then (
          bif decide (x168.Op = (6 : Int)) then (
            (getI s166 (wrap64 ((s166.length : Int) - (1 : Int)))).bind fun y213 =>
            (m__show_piece__within y213 (3 : Int)).bind fun r215 =>
            (catS ([45] : List UInt8) r215).bind fun y217 =>
            j206 (wrap64 ((s166.length : Int) - (1 : Int)), y217))
          else (
            (getI s166 (wrap64 ((s166.length : Int) - (1 : Int)))).bind fun y219 =>
            (m__show_piece__within y219 (5 : Int)).bind fun r221 =>
            (catS r221 ([94] : List UInt8)).bind fun y223 =>
            (m_strconv_Itoa x168.I).bind fun r225 =>
            (catS y223 r225).bind fun y227 =>
            j206 (wrap64 ((s166.length : Int) - (1 : Int)), y227)))
        else (
          (getI s166 (wrap64 ((s166.length : Int) - (2 : Int)))).bind fun y229 =>
          (m__show_piece__within y229 r170).bind fun r231 =>
          (m_show_sign x168.Op).bind fun r233 =>
          (catS r231 r233).bind fun y235 =>
          (getI s166 (wrap64 ((wrap64 ((s166.length : Int) - (2 : Int))) + (1 : Int)))).bind fun y237 =>
          (m__show_piece__within y237 (wrap64 (r170 + (1 : Int)))).bind fun r239 =>
          (catS y235 r239).bind fun y241 =>
          j206 (wrap64 ((s166.length : Int) - (2 : Int)), y241)))) (fun (s208 : Int × (List UInt8)) =>
      (sub s166 (0 : Int) s208.1).bind fun y243 =>
      (appM 24 y243 ([(⟨s208.2, r170⟩ : M_show_piece)] : List M_show_piece)).bind fun y245 =>
      some (Lp.go y245))
section
variable {n : Nat} {Nm : List (List UInt8)} (hn : big ≤ n) (hN : ∀ s ∈ Nm, s.length ≤ 100)
theorem get_top {S : List M_show_piece} {a : M_show_piece} : getI (S ++ [a]) (S.length : Int) = some a := getI_of (by simp)
include hn
theorem shB_leaf {i : Nat} {x : M_tree_Node} {S : List M_show_piece} (hS : S.length ≤ 1000000) (h0 : ar x.Op = 0) (h : nodeOk x 6 6 (Nm.length : Int) = true) (hb : NB x) :
    shB n Nm i x S = some (Lp.go (S ++ [pcE Nm (.lf x)])) := by
  unfold shB
  rw [m_show_rank_eq, sbind, jn_eq, m_tree_Arity_eq, sbind, h0, decide_eq_true rfl, bifT, m_show_leaf_eq hn h0 h hb, sbind]
  simp only []
  rw [sub_take (Nat.le_refl _), sbind, List.take_length, appM_ok (by simp; omega) (by simp; omega), sbind]; rfl
omit hn in
theorem shB_un {i : Nat} {x : M_tree_Node} {S : List M_show_piece} {a : Ex} (hS : S.length ≤ 1000000) (h : okE (Nm.length : Int) (.un x a)) (hl : (wrS Nm a).length ≤ 1000000) :
    shB n Nm i x (S ++ [pcE Nm a]) = some (Lp.go (S ++ [pcE Nm (.un x a)])) := by
  obtain ⟨h1, h2, h3, _⟩ := okE_un h
  unfold shB
  have hlen : (((S ++ [pcE Nm a]).length : Nat) : Int) = (S.length : Int) + 1 := by simp
  have i3 := inB_len (wrS Nm a) (rkI (rtE a).Op) 3
  have i5 := inB_len (wrS Nm a) (rkI (rtE a).Op) 5
  rw [m_show_rank_eq, sbind, jn_eq, m_tree_Arity_eq, sbind, h1, decide_eq_false (by decide), bifF, decide_eq_true rfl, bifT, hlen, show (S.length : Int) + 1 - 1 = (S.length : Int) by omega, w64 (by omega) (by omega), get_top, bifd]
  rcases un_ok h1 h3 with ⟨e, _⟩ | ⟨e, e1, e2, _⟩
  · rw [if_pos e, sbind, m_within_eq (by show (wrS Nm a).length ≤ _; omega), sbind, catS_ok (by simp [pcE]; omega), sbind]
    simp only []
    rw [sub_take (by simp), sbind, List.take_left, appM_ok (by simp; omega) (by simp; omega), sbind]
    unfold pcE; simp only [wrS, rtE, if_pos e]
  · have := small_itoa e1 e2
    rw [if_neg (by omega), sbind, m_within_eq (by show (wrS Nm a).length ≤ _; omega), sbind, catS_ok (by simp [pcE]; omega), sbind]
    unfold m_strconv_Itoa
    rw [sbind, catS_ok (by simp [pcE]; omega), sbind]
    simp only []
    rw [sub_take (by simp), sbind, List.take_left, appM_ok (by simp; omega) (by simp; omega), sbind]
    unfold pcE; simp only [wrS, rtE, if_neg (show ¬ x.Op = 6 by omega)]
omit hn in
theorem shB_bi {i : Nat} {x : M_tree_Node} {S : List M_show_piece} {a b : Ex} (hS : S.length ≤ 1000000) (h : okE (Nm.length : Int) (.bi x a b)) (hl : (wrS Nm a).length ≤ 1000000) (hr : (wrS Nm b).length ≤ 1000000) :
    shB n Nm i x (S ++ [pcE Nm a] ++ [pcE Nm b]) = some (Lp.go (S ++ [pcE Nm (.bi x a b)])) := by
  obtain ⟨h1, h2, h3, _⟩ := okE_bi h
  unfold shB
  have hlen : (((S ++ [pcE Nm a] ++ [pcE Nm b]).length : Nat) : Int) = (S.length : Int) + 2 := by simp
  have i3 := inB_len (wrS Nm a) (rkI (rtE a).Op) (rkI x.Op)
  have i5 := inB_len (wrS Nm b) (rkI (rtE b).Op) (rkI x.Op + 1)
  have hs := sgS_len x.Op
  have hr5 := rkI_le x.Op
  have g1 : getI (S ++ [pcE Nm a] ++ [pcE Nm b]) (S.length : Int) = some (pcE Nm a) := getI_of (by simp)
  have g2 : getI (S ++ [pcE Nm a] ++ [pcE Nm b]) ((S.length : Int) + 1) = some (pcE Nm b) := by rw [show (S.length : Int) + 1 = ((S.length + 1 : Nat) : Int) by omega]; exact getI_of (by simp)
  rw [m_show_rank_eq, sbind, jn_eq, m_tree_Arity_eq, sbind, h1, decide_eq_false (by decide), bifF, decide_eq_false (by decide), bifF, hlen, show (S.length : Int) + 2 - 2 = (S.length : Int) by omega, w64 (x := (S.length : Int)) (by omega) (by omega), g1, sbind,
    m_within_eq (by show (wrS Nm a).length ≤ _; omega), sbind, m_show_sign_eq, sbind, catS_ok (by simp [pcE]; omega), sbind, w64 (by omega) (by omega), g2, sbind, w64 (by omega) (by omega), m_within_eq (by show (wrS Nm b).length ≤ _; omega), sbind, catS_ok (by simp [pcE]; omega), sbind]
  simp only []
  rw [sub_take (by simp), sbind, List.append_assoc, List.take_left, appM_ok (by simp; omega) (by simp; omega), sbind]
  rfl
include hn hN
theorem shB_run : ∀ (e : Ex), okE (Nm.length : Int) e → (fl e).length ≤ 5000 → ∀ (ys : List M_tree_Node) (i : Nat) (S : List M_show_piece), S.length + (fl e).length ≤ 1000000 →
    ∃ j, rangeL (shB n Nm) (fl e ++ ys) i S = rangeL (shB n Nm) ys j (S ++ [pcE Nm e])
  | .lf x, h, _, ys, i, S, hS => ⟨i + 1, by
      have hw := h.1
      unfold wf at hw
      obtain ⟨h3, h4⟩ := h.2 x (by simp [fl])
      simp only [fl, List.cons_append, List.nil_append, rangeL]
      rw [shB_leaf hn (by omega) hw h3 h4]; rfl⟩
  | .un x a, h, hl, ys, i, S, hS => by
      obtain ⟨h1, h2, h3, _⟩ := okE_un h
      simp only [fl, List.length_append, List.length_cons, List.length_nil] at hl hS
      obtain ⟨j, hj⟩ := shB_run a h2 (by omega) ([x] ++ ys) i S (by omega)
      have := wrS_len hN a h2
      refine ⟨j + 1, ?_⟩
      simp only [fl, List.append_assoc]; rw [hj]
      simp only [List.cons_append, List.nil_append, rangeL]
      rw [shB_un (by omega) h (by omega)]; rfl
  | .bi x a b, h, hl, ys, i, S, hS => by
      obtain ⟨h1, h2, h3, _⟩ := okE_bi h
      simp only [fl, List.length_append, List.length_cons, List.length_nil] at hl hS
      obtain ⟨j, hj⟩ := shB_run a h2 (by omega) (fl b ++ ([x] ++ ys)) i S (by omega)
      have pa := fl_pos a
      obtain ⟨k, hk⟩ := shB_run b h3 (by omega) ([x] ++ ys) j (S ++ [pcE Nm a]) (by simp; omega)
      have := wrS_len hN a h2
      have := wrS_len hN b h3
      refine ⟨k + 1, ?_⟩
      simp only [fl, List.append_assoc]; rw [hj, hk]
      simp only [List.cons_append, List.nil_append, rangeL]
      rw [shB_bi (by omega) h (by omega) (by omega)]; rfl
theorem m_show_write_eq {e : Ex} (h : okE (Nm.length : Int) e) (hl : (fl e).length ≤ 5000) : m_show_write n (fl e) Nm = some (wrS Nm e) := by
  show (rangeL (shB n Nm) (fl e) 0 ([] : List M_show_piece)).bind (lpK fun (s247 : (List M_show_piece)) => (getI s247 (0 : Int)).bind fun y248 => some y248.text) = _
  obtain ⟨j, hj⟩ := shB_run hn hN e h hl [] 0 [] (by simp; omega)
  rw [List.append_nil] at hj
  rw [hj]; rfl
end
theorem m_show_Rank_eq {c : List M_tree_Node} (hc : c.length ≤ 1000000000) : m_show_Rank c = some (if wrongT c < 0 then rkI ((c[c.length - 1]?.map (·.Op)).getD 0) else 0) := by
  unfold m_show_Rank
  rw [m_tree_Right_eq (by omega), sbind]
  by_cases h : wrongT c < 0
  · obtain ⟨e, he, rfl⟩ := tree_of h
    have hp := fl_pos e
    rw [if_pos h, decide_eq_true h, Bool.not_true, bifF, w64 (by omega) (by omega), show ((fl e).length : Int) - 1 = ((fl e).length - 1 : Nat) by omega, getI_of (fl_last e), sbind, m_show_rank_eq, sbind, fl_last]; rfl
  · rw [if_neg h, decide_eq_false h, Bool.not_false, bifT]
end Go.Proofs.YtpomhkkhdojpiaaDoor
