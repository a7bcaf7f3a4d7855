import Derived.Test.YtpomhkkhdojpiaaDoorPlSh2
namespace Go.Proofs.YtpomhkkhdojpiaaDoor
open Go Go.RowKit
/-! ### The document writes that too -/
theorem cdN (x : M_tree_Node) : cN (dN x) = x := by cases x; rfl
theorem cd_map (c : List M_tree_Node) : (c.map dN).map cN = c := by
  induction c with
  | nil => rfl
  | cons x c ih => rw [List.map_cons, List.map_cons, ih, cdN]
theorem dcN (x : M_retrospectref17_Node) : dN (cN x) = x := by cases x; rfl
theorem dc_map (c : List M_retrospectref17_Node) : (c.map cN).map dN = c := by
  induction c with
  | nil => rfl
  | cons x c ih => rw [List.map_cons, List.map_cons, ih, dcN]
theorem dN_Op (x) : (dN x).Op = x.Op := Eq.symm (Eq.symm rfl)
theorem dN_I (x) : (dN x).I = x.I := Eq.symm (Eq.symm rfl)
theorem dN_N (x) : (dN x).N = x.N := Eq.symm (Eq.symm rfl)
theorem m_ref20_Rank_eq {n : Nat} {c : List M_tree_Node} (hn : big ≤ n) (hc : c.length ≤ 1000000000) : m_retrospectref20_Rank n (c.map dN) = some (if wrongT c < 0 then rkI ((c[c.length - 1]?.map (·.Op)).getD 0) else 0) := by
  unfold m_retrospectref20_Rank
  rw [m_ref17_Wrong_eq hn (by simp; omega), sbind, cd_map, bifd]
  by_cases h : wrongT c < 0
  · obtain ⟨e, he, rfl⟩ := tree_of h
    have hp := fl_pos e
    rw [if_pos h, if_neg (by omega), List.length_map, w64 (by omega) (by omega), show ((fl e).length : Int) - 1 = ((fl e).length - 1 : Nat) by omega, getI_of (x := dN (rtE e)) (by rw [List.getElem?_map, fl_last]; rfl), sbind, fl_last]
    simp only [jn_eq, bifd, dN_Op, Option.map_some, Option.getD_some]
    unfold rkI
    grind
  · rw [if_neg h, if_pos (by omega)]
theorem m_ref20_Rank_fl {n : Nat} {e : Ex} (hn : big ≤ n) (he : wf e) (hc : (fl e).length ≤ 1000000000) : m_retrospectref20_Rank n ((fl e).map dN) = some (rkI (rtE e).Op) := by
  rw [m_ref20_Rank_eq hn hc, if_pos (by rw [wrong_fl he]; omega), fl_last]; rfl
def ptE : Ex → List Ex
  | .lf _ => []
  | .un _ a => [a]
  | .bi _ a b => [a, b]
theorem m_ref17_Parts_eq {n : Nat} {e : Ex} (hn : big ≤ n) (he : wf e) (hc : (fl e).length ≤ 1000000) : m_retrospectref17_Parts n ((fl e).map dN) = some ((ptE e).map fun a => (fl a).map dN) := by
  have hp := fl_pos e
  unfold big at hn
  have hok : okTo (((fl e).map dN).map cN) (((fl e).map dN).map cN).length := by rw [cd_map]; exact (wrong_ok _ (by rw [wrong_fl he]; omega)).1
  unfold m_retrospectref17_Parts
  rw [List.length_map, w64 (by omega) (by omega), show ((fl e).length : Int) - 1 = ((fl e).length - 1 : Nat) by omega, getI_of (x := dN (rtE e)) (by rw [List.getElem?_map, fl_last]; rfl), sbind, m_ref17_Arity_eq, sbind, dN_Op, bifd]
  cases e with
  | lf x => unfold wf at he; rw [if_pos (show ar (rtE (.lf x)).Op = 0 from he)]; rfl
  | un x a =>
    unfold wf at he
    have pa := fl_pos a
    have hlen : (fl (.un x a)).length = (fl a).length + 1 := by simp [fl]
    have hs := stk_fl a he.2 (fl (.un x a)) 0 (fun j hj => by rw [Nat.zero_add]; simp only [fl]; rw [List.getElem?_append_left hj])
    rw [if_neg (show ¬ ar (rtE (.un x a)).Op = 0 from fun g => by have := he.1; simp only [rtE] at g; omega), hlen, show ((fl a).length + 1 - 1 : Nat) = (fl a).length by omega, w64 (by omega) (by omega), show ((fl a).length : Int) - 1 = ((fl a).length - 1 : Nat) by omega,
      m_ref17_Deep_eq (by simp; omega) hok ((fl a).length - 1) n (by simp [hlen]; omega) (by omega) (dep a) 0 [] (by rw [cd_map, show (fl a).length - 1 + 1 = 0 + (fl a).length by omega, hs]; rfl), sbind, bifd, if_pos (show ar (rtE (.un x a)).Op = 1 from he.1),
      sub_take (by simp [hlen]), sbind]
    simp only [ptE, fl, List.map_append, List.map_cons, List.map_nil]
    rw [List.take_left' (by simp)]
  | bi x a b =>
    unfold wf at he
    have pa := fl_pos a
    have pb := fl_pos b
    have hlen : (fl (.bi x a b)).length = (fl a).length + (fl b).length + 1 := by simp [fl]; omega
    have hs := stk_fl b he.2.2 (fl (.bi x a b)) (fl a).length (fun j hj => by simp only [fl]; rw [List.getElem?_append_right (by omega), Nat.add_sub_cancel_left, List.getElem?_append_left hj])
    rw [if_neg (show ¬ ar (rtE (.bi x a b)).Op = 0 from fun g => by have := he.1; simp only [rtE] at g; omega), hlen, show ((fl a).length + (fl b).length + 1 - 1 : Nat) = (fl a).length + (fl b).length by omega, w64 (by omega) (by omega), show (((fl a).length + (fl b).length : Nat) : Int) - 1 = ((fl a).length + (fl b).length - 1 : Nat) by omega,
      m_ref17_Deep_eq (by simp; omega) hok ((fl a).length + (fl b).length - 1) n (by simp [hlen]; omega) (by omega) (dep b) (fl a).length (stk (fl (.bi x a b)) (fl a).length) (by rw [cd_map, show (fl a).length + (fl b).length - 1 + 1 = (fl a).length + (fl b).length by omega, hs]), sbind, bifd, if_neg (show ¬ ar (rtE (.bi x a b)).Op = 1 from fun g => by have := he.1; simp only [rtE] at g; omega)]
    simp only []
    rw [sub_take (by simp [hlen]; omega), sbind, sub_mid (by omega) (by simp [hlen]), sbind]
    simp only [ptE, fl, List.map_append, List.map_cons, List.map_nil]
    rw [List.take_left' (by simp), ← List.append_assoc, List.take_left' (by simp), List.drop_left' (by simp)]
theorem sgS_sub {op : Int} (h : ar op = 2) : sub ([43, 45, 42, 47] : List UInt8) (wrap64 (op - 7)) (wrap64 (op - 6)) = some (sgS op) := by
  rcases ar2 h with rfl | rfl | rfl | rfl <;> (rw [w64 (by decide) (by decide), w64 (by decide) (by decide)]; rfl)
theorem m_ref20_within_eq {me : List M_retrospectref17_Node → List (List UInt8) → Option (List UInt8)} {n : Nat} {Nm : List (List UInt8)} {k : Int} {e : Ex} (hn : big ≤ n) (he : wf e) (hc : (fl e).length ≤ 1000000) (hw : (wrS Nm e).length ≤ 1000000000)
    (h : me ((fl e).map dN) Nm = some (wrS Nm e)) : m_retrospectref20_within me n ((fl e).map dN) Nm k = some (inB (wrS Nm e) (rkI (rtE e).Op) k) := by
  unfold m_retrospectref20_within inB
  rw [h, sbind, m_ref20_Rank_fl hn he (by omega), sbind, bifd]
  by_cases hk : rkI (rtE e).Op < k
  · rw [if_pos hk, if_pos hk, catS_ok (by simp; omega), sbind, catS_ok (by simp; omega), sbind]
  · rw [if_neg hk, if_neg hk]
theorem m_ref20_Write_eq {Nm : List (List UInt8)} (hN : ∀ s ∈ Nm, s.length ≤ 100) : ∀ (e : Ex), okE (Nm.length : Int) e → (fl e).length ≤ 5000 → ∀ n, big + (fl e).length ≤ n → m_retrospectref20_Write n ((fl e).map dN) Nm = some (wrS Nm e) := by
  intro e
  induction e with
  | lf x =>
    intro h hl n hn
    obtain ⟨m, rfl⟩ : ∃ m, n = m + 1 := ⟨n - 1, by have := fl_pos (.lf x); omega⟩
    have hm : big ≤ m := by simp [fl] at hn; omega
    have hw := h.1
    unfold wf at hw
    obtain ⟨h3, h4⟩ := h.2 x (by simp [fl])
    have hP := m_ref17_Parts_eq hm h.1 (by omega)
    unfold m_retrospectref20_Write
    rw [hP, show ((fl (.lf x)).map dN).length = 1 from rfl, show wrap64 (((1 : Nat) : Int) - 1) = ((0 : Nat) : Int) from w1m, getI_of (x := dN x) rfl, sbind, sbind]
    simp only [bifd, dN_Op, dN_I, dN_N, wrS]
    unfold lfS
    rcases lf_ok hw h3 with ⟨e, _, _, h⟩ | ⟨e, _⟩ | ⟨e, h1, h2, _⟩ | ⟨e, h1, h2, _⟩ | ⟨e, h1, h2, _⟩
    · rw [if_pos e, if_pos e, m_ref07_Text_eq hm (by have := h4.1; omega) h4.2, sbind]
    · simp only [e]; rfl
    · have := small_itoa (x := x.I) (by omega) (by omega)
      rw [if_neg (by omega), if_neg (by omega), if_pos e, if_neg (by omega), if_pos e, m_ref20_Int_eq hm (by unfold b64; omega), sbind, catS_ok (by simp; omega), sbind, catS_ok (by simp; omega), sbind]
    · have := small_itoa (x := x.I) (by omega) (by omega)
      rw [if_neg (by omega), if_neg (by omega), if_neg (by omega), if_pos e, if_neg (by omega), if_neg (by omega), if_pos e, m_ref20_Int_eq hm (by unfold b64; omega), sbind, catS_ok (by simp; omega), sbind, catS_ok (by simp; omega), sbind]
    · rw [if_neg (by omega), if_neg (by omega), if_neg (by omega), if_neg (by omega), if_pos e, if_neg (by omega), if_neg (by omega), if_neg (by omega), if_pos e]
      have hl : x.I.toNat < Nm.length := by omega
      rw [show x.I = (x.I.toNat : Int) by omega, getI_get hl, sbind, Int.toNat_natCast, List.getD_eq_getElem?_getD, List.getElem?_eq_getElem hl]; rfl
  | un x a iha =>
    intro h hl n hn
    obtain ⟨h1, h2, h3, h4⟩ := okE_un h
    have hlen : (fl (.un x a)).length = (fl a).length + 1 := by simp [fl]
    obtain ⟨m, rfl⟩ : ∃ m, n = m + 1 := ⟨n - 1, by omega⟩
    have hm : big ≤ m := by omega
    have hP := m_ref17_Parts_eq hm h.1 (by omega)
    have ha := iha h2 (by omega) m (by omega)
    have la := wrS_len hN a h2
    have i3 := inB_len (wrS Nm a) (rkI (rtE a).Op) 3
    have i5 := inB_len (wrS Nm a) (rkI (rtE a).Op) 5
    unfold m_retrospectref20_Write
    rw [hP, List.length_map, w64 (by omega) (by omega), show ((fl (.un x a)).length : Int) - 1 = ((fl (.un x a)).length - 1 : Nat) by omega, getI_of (x := dN x) (by rw [List.getElem?_map, fl_last]; rfl), sbind, sbind]
    simp only [bifd, dN_Op, dN_I, dN_N, wrS]
    rw [show getI ((ptE (.un x a)).map fun a => (fl a).map dN) 0 = some ((fl a).map dN) from getI_of (i := 0) rfl]
    rcases un_ok h1 h3 with ⟨e, _⟩ | ⟨e, e1, e2, _⟩
    · rw [if_neg (by omega), if_neg (by omega), if_neg (by omega), if_neg (by omega), if_neg (by omega), if_pos e, if_pos e, sbind, m_ref20_within_eq hm h2.1 (by omega) (by omega) ha, sbind, catS_ok (by simp; omega), sbind]
    · have := small_itoa e1 e2
      rw [if_neg (by omega), if_neg (by omega), if_neg (by omega), if_neg (by omega), if_neg (by omega), if_neg (by omega), if_pos e, if_neg (by omega), sbind, m_ref20_within_eq hm h2.1 (by omega) (by omega) ha, sbind, catS_ok (by simp; omega), sbind, m_ref20_Int_eq hm (by unfold b64; omega), sbind, catS_ok (by simp; omega), sbind]
  | bi x a b iha ihb =>
    intro h hl n hn
    obtain ⟨h1, h2, h2', h3, h4⟩ := okE_bi h
    have hlen : (fl (.bi x a b)).length = (fl a).length + (fl b).length + 1 := by simp [fl]; omega
    obtain ⟨m, rfl⟩ : ∃ m, n = m + 1 := ⟨n - 1, by omega⟩
    have hm : big ≤ m := by omega
    have hP := m_ref17_Parts_eq hm h.1 (by omega)
    have ha := iha h2 (by omega) m (by omega)
    have hb := ihb h2' (by omega) m (by omega)
    have la := wrS_len hN a h2
    have lb := wrS_len hN b h2'
    have i3 := inB_len (wrS Nm a) (rkI (rtE a).Op) (rkI x.Op)
    have i5 := inB_len (wrS Nm b) (rkI (rtE b).Op) (rkI x.Op + 1)
    have hs := sgS_len x.Op
    have hr5 := rkI_le x.Op
    have hop := ar2 h1
    unfold m_retrospectref20_Write
    rw [hP, m_ref20_Rank_fl hm h.1 (by omega), List.length_map, w64 (x := ((fl (.bi x a b)).length : Int) - 1) (by omega) (by omega), show ((fl (.bi x a b)).length : Int) - 1 = ((fl (.bi x a b)).length - 1 : Nat) by omega, getI_of (x := dN x) (by rw [List.getElem?_map, fl_last]; rfl), sbind, sbind]
    simp only [bifd, dN_Op, dN_I, dN_N, wrS]
    rw [if_neg (by omega), if_neg (by omega), if_neg (by omega), if_neg (by omega), if_neg (by omega), if_neg (by omega), if_neg (by omega), sbind]
    rw [show getI ((ptE (.bi x a b)).map fun a => (fl a).map dN) 0 = some ((fl a).map dN) from getI_of (i := 0) rfl, show getI ((ptE (.bi x a b)).map fun a => (fl a).map dN) 1 = some ((fl b).map dN) from getI_of (i := 1) rfl]
    show ((some ((fl a).map dN)).bind fun y39 => (m_retrospectref20_within (m_retrospectref20_Write m) m y39 Nm (rkI x.Op)).bind fun r41 => _) = _
    rw [sbind, m_ref20_within_eq hm h2.1 (by omega) (by omega) ha, sbind, catS_ok (by simp; omega), sbind, sgS_sub h1, sbind, catS_ok (by simp; omega), sbind, catS_ok (by simp; omega), sbind, sbind, show rkI (rtE (.bi x a b)).Op + 1 = rkI x.Op + 1 from rfl, w64 (by omega) (by omega), m_ref20_within_eq hm h2'.1 (by omega) (by omega) hb, sbind, catS_ok (by simp; omega), sbind]
    simp only [List.append_assoc]
end Go.Proofs.YtpomhkkhdojpiaaDoor
