import Derived.Test.YtiobbiamnjapgaaGreatDoorPlWire4
namespace Go.Proofs.YtiobbiamnjapgaaGreatDoor
open Go Go.RowKit
/-! ### The document's whole numbers as texts -/
theorem m_ref02_Of_eq {n x : Nat} (hn : big ≤ n) (hx : x < 18446744073709551616) : m_retrospectref02_Of n x = some (toL x) := by
  unfold m_retrospectref02_Of
  have hw : Wd [x % 4294967296 % 4294967296, x / 4294967296 % 4294967296] := Wd_cons.2 ⟨by omega, Wd_cons.2 ⟨by omega, Wd_nil⟩⟩
  have hv : val [x % 4294967296 % 4294967296, x / 4294967296 % 4294967296] = x := by simp only [val]; omega
  rw [sbind, m_ref02_Norm_eq hn (by simp), sbind, ← toL_val hw, hv]
theorem m_ref06_One_one : m_retrospectref06_One [1] = some true := by
  unfold m_retrospectref06_One; simp only [jn_eq]; rfl
theorem trimZ_one : trimZ [1] = [1] := by decide
theorem toL_len_le64 {k : Nat} (h : k < 18446744073709551616) : (toL k).length ≤ 2 := toL_length (by rw [bp_succ, bp_succ, bp_zero]; omega)
theorem m_ref09_Norm_int {n k : Nat} {neg : Bool} (hn : big ≤ n) (hk : k < 18446744073709551616) : m_retrospectref09_Norm n ⟨neg, toL k, [1]⟩ = some (if k = 0 then ⟨false, [], [1]⟩ else ⟨neg, toL k, [1]⟩) := by
  have hl := toL_len_le64 hk
  unfold m_retrospectref09_Norm
  simp only []
  rw [m_ref02_Norm_eq hn (by simp), sbind, m_ref02_Norm_eq hn (by omega), sbind, trimZ_one, trimZ_toL]
  simp only [jn_eq, bifd]
  rw [if_neg (show ¬ (([1] : List Nat).length : Int) = 0 by decide)]
  by_cases h : k = 0
  · subst h; rw [toL_zero, if_pos rfl]; rfl
  · have : (toL k).length ≠ 0 := fun g => by rw [toL_pos h] at g; simp at g
    rw [if_neg h, if_neg (show ¬ ((toL k).length : Int) = 0 by omega), m_ref06_One_one, sbind, Bool.not_true, bifF]
theorem neg_word {x : Int} (h1 : -9223372036854775808 ≤ x) (h2 : x < 0) : Int.toNat (wrap64 (-(wrap64 (x + 1))) % 18446744073709551616) = x.natAbs - 1 := by
  rw [w64 (x := x + 1) (by omega) (by omega), w64 (by omega) (by omega)]; omega
theorem m_ref09_Int_eq {n : Nat} {x : Int} (hn : big ≤ n) (hx : b64 x) : m_retrospectref09_Int n x = some ⟨decide (x < 0), toL x.natAbs, [1]⟩ := by
  unfold b64 at hx
  unfold m_retrospectref09_Int
  rw [bifd]
  by_cases h : x < 0
  · have hl := toL_len_le64 (k := x.natAbs - 1) (by omega)
    rw [if_pos h, sbind, neg_word hx.1 h, m_ref02_Of_eq hn (by omega), sbind, m_ref02_Add_eq hn (by omega) (by simp) (Wd_toL _) (Wd_cons.2 ⟨by decide, Wd_nil⟩), sbind, val_toL, show x.natAbs - 1 + val [1] = x.natAbs by simp only [val]; omega,
      m_ref09_Norm_int hn (by omega), sbind, if_neg (by omega), decide_eq_true h]
  · rw [if_neg h, show Int.toNat (x % 18446744073709551616) = x.natAbs by omega, m_ref02_Of_eq hn (by omega), sbind, m_ref09_Norm_int hn (by omega), sbind, decide_eq_false h]
    by_cases h0 : x.natAbs = 0
    · rw [if_pos h0, h0, toL_zero]
    · rw [if_neg h0]
theorem m_ref08_Sign_eq {n k : Nat} {neg : Bool} (hn : big ≤ n) (hk : k < 18446744073709551616) : m_retrospectref08_Sign n ⟨neg, toL k⟩ = some (if k = 0 then 0 else if neg then -1 else 1) := by
  have hl := toL_len_le64 hk
  unfold m_retrospectref08_Sign m_retrospectref08_Norm
  simp only []
  rw [m_ref02_Norm_eq hn (by omega), sbind, trimZ_toL]
  simp only [jn_eq]
  by_cases h : k = 0
  · subst h; rw [toL_zero, if_pos rfl]; cases neg <;> rfl
  · have : (toL k).length ≠ 0 := fun g => by rw [toL_pos h] at g; simp at g
    rw [if_neg h]
    cases neg
    · simp only [bifF, sbind, bifd]; rw [if_neg (by omega)]; rfl
    · simp only [bifT, sbind, bifd]; rw [if_neg (by omega), if_pos (show 0 < ((toL k).length : Int) by omega)]; simp
theorem m_ref08_Text_eq {n k : Nat} {neg : Bool} (hn : big ≤ n) (hk : k < 18446744073709551616) : m_retrospectref08_Text n ⟨neg, toL k⟩ = some (if neg = true ∧ k ≠ 0 then 45 :: dec k else dec k) := by
  have hl := toL_len_le64 hk
  have hd := dec_len20 hk
  unfold m_retrospectref08_Text
  simp only []
  rw [m_ref07_Text_eq hn (by omega) (Wd_toL _), sbind, val_toL, jn_eq, m_ref08_Sign_eq hn hk, sbind]
  by_cases h : k = 0
  · rw [if_pos h, if_neg (show ¬ (neg = true ∧ k ≠ 0) from fun g => g.2 h)]; rfl
  · rw [if_neg h]
    cases neg
    · rw [if_neg (show ¬ (false = true ∧ k ≠ 0) from fun g => by cases g.1)]; rfl
    · rw [if_pos (show true = true ∧ k ≠ 0 from ⟨rfl, h⟩), if_pos (show true = true from rfl), decide_eq_true (by decide), bifT, catS_ok (by simp; omega), sbind]; rfl
theorem m_ref20_Int_eq {n : Nat} {x : Int} (hn : big ≤ n) (hx : b64 x) : m_retrospectref20_Int n x = some (Lib.itoa x) := by
  unfold m_retrospectref20_Int
  rw [m_ref09_Int_eq hn hx, sbind]
  unfold m_retrospectref09_Up
  unfold b64 at hx
  rw [sbind, m_ref08_Text_eq hn (by omega), sbind]
  by_cases h : x < 0
  · rw [decide_eq_true h, if_pos ⟨rfl, by omega⟩, itoa_negd h]
  · rw [decide_eq_false h, if_neg fun g => by cases g.1]
    obtain ⟨k, rfl⟩ : ∃ k : Nat, x = k := ⟨x.toNat, by omega⟩
    rw [itoa_dec]; simp
theorem m_ref48_Pack_eq {n : Nat} {l : List M_retrospectref48_Piece} (hn : big ≤ n) (h : MayP (l.map tW)) : m_retrospectref48_Pack n l = some (packW (l.map tW)) := by
  unfold m_retrospectref48_Pack
  have hlen : l.length ≤ 30 := by have := h.1; simpa using this
  rw [loop_acc (fun i => (packW ((l.take i).map tW), (i : Int))) l.length (packW (l.map tW))]
  · intro i hi
    have hp : l[i]? = some l[i] := List.getElem?_eq_getElem hi
    generalize l[i] = p at hp
    have hP := h.2 i (tW p) (by rw [List.getElem?_map, hp]; rfl)
    have l1 : p.Name.length ≤ 12 := wd2_len hP.1
    have l3 : p.Text.length ≤ 20000 := hP.2.1
    have l2 := dec_len5 (k := p.Text.length) (by omega)
    have l4 : (packW ((l.take i).map tW)).length ≤ 30 * 20020 := by
      refine Nat.le_trans (packW_len (c := 20020) fun q hq => ?_) (Nat.mul_le_mul_right _ (by simp; omega))
      rw [List.map_take] at hq
      obtain ⟨j, hj⟩ := List.getElem?_of_mem (List.mem_of_mem_take hq)
      exact pieceS_len (h.2 j q hj).1 (h.2 j q hj).2.1
    have l5 := l4
    rw [List.map_take] at l5
    simp only [bifd]
    rw [if_pos (by omega), getI_of hp, sbind, catS_ok (by simp; omega), sbind, sbind, m_ref20_Int_eq hn (by unfold b64; omega), sbind, itoa_dec, catS_ok (by simp; omega), sbind, catS_ok (by simp; omega), sbind, sbind, catS_ok (by simp; omega), sbind, catS_ok (by simp; omega), sbind, catS_ok (by simp; omega), sbind, w1 (by omega),
      take_map_succ tW hp, packW_snoc]
    unfold pieceS tW; simp
  · simp only [bifd]; rw [if_neg (by omega), List.take_length]
  · unfold big at hn; omega
  · rfl
/-! the text of a name -/
def getW (nm : List UInt8) : List M_retrospectref48_Piece → List UInt8 × Bool
  | [] => ([], false)
  | p :: l => if p.Name = nm then (p.Text, true) else getW nm l
theorem m_wire_Get_eq {nm : List UInt8} (l : List M_retrospectref48_Piece) : m_wire_Get (l.map tW) nm = some (getW nm l) := by
  unfold m_wire_Get
  generalize 0 = k
  induction l generalizing k with
  | nil => rfl
  | cons p l ih =>
    simp only [List.map_cons, rangeL, getW, bifd]
    rw [show (tW p).Name = p.Name from rfl, show (tW p).Text = p.Text from rfl]
    by_cases h : p.Name = nm
    · rw [if_pos h, if_pos h]; rfl
    · rw [if_neg h, if_neg h, sbind]
      simp only [bifd] at ih
      exact ih (k + 1)
theorem wdec {L j : Nat} (hj : j < L) (hL : L < 4611686018427387904) : wrap64 (((L - 1 - j : Nat) : Int) - 1) = (L : Int) - 1 - ((j + 1 : Nat) : Int) := by
  rw [w64 (by omega) (by omega)]; omega
open Classical in
theorem law_WirePacks (l : List M_retrospectref48_Piece) (nm : List UInt8) : ∃ n, m_retrospectlaw48_WirePacks n l nm = some true := by
  refine ⟨big, ?_⟩
  have hn : big ≤ big := Nat.le_refl _
  unfold m_retrospectlaw48_WirePacks
  obtain ⟨v, hv, hv2⟩ := m_ref48_Long_ok (n := big) (l := l) (many := 40) (b := 21000) hn (by decide)
  rw [show ((40 : Nat) : Int) = 40 from rfl, show ((21000 : Nat) : Int) = 21000 from rfl] at hv
  rw [jn_eq, hv, sbind]
  cases v with
  | true => simp only [bifT]; rw [m_law48_works_eq hn, sbind]
  | false =>
    obtain ⟨l1, l2⟩ := hv2 rfl
    simp only [bifF]
    by_cases h : 100 < (nm.length : Int)
    · rw [decide_eq_true h, bifT, m_law48_works_eq hn, sbind]
    · have hp : m_wire_Pack big (l.map tW) = some (if MayP (l.map tW) then (packW (l.map tW), true) else ([], false)) := m_wire_Pack_eq hn (fun p hp => by
        obtain ⟨q, hq, rfl⟩ := List.mem_map.1 hp
        have := (l2 q hq).1
        show q.Name.length ≤ _; omega)
      rw [decide_eq_false h, bifF, m_law48_To_eq hn (by omega), sbind, hp, sbind, sbind, m_wire_Get_eq, sbind]
      rw [loop_acc (fun j => ((getW nm (l.drop (l.length - j))).1, (getW nm (l.drop (l.length - j))).2, (l.length : Int) - 1 - (j : Int))) l.length (getW nm l)]
      · simp only [jn_eq, decide_true, Bool.not_true, bifF, bne_self_eq_false]
        rw [m_ref48_May_eq hn, sbind]
        by_cases hM : MayP (l.map tW)
        · rw [if_pos hM, decide_eq_true hM]
          simp only [bne_self_eq_false, bifF, Bool.not_true]
          rw [m_ref48_Pack_eq hn hM, sbind, decide_eq_true rfl, bifT, m_law48_works_eq hn, sbind]
        · rw [if_neg hM, decide_eq_false hM]
          simp only [bne_self_eq_false, bifF, Bool.not_false, bifT]
          simp only [decide_true, bifT]
          rw [m_law48_works_eq hn, sbind]
      · intro j hj
        have hx : l[l.length - 1 - j]? = some l[l.length - 1 - j] := List.getElem?_eq_getElem (by omega)
        generalize l[l.length - 1 - j]'(by omega) = x at hx
        have e := drop_of_get hx
        rw [show l.length - 1 - j + 1 = l.length - j by omega] at e
        simp only [bifd, jn_eq]
        have e2 : (l.length : Int) - 1 - (j : Int) = ((l.length - 1 - j : Nat) : Int) := by omega
        rw [if_pos (by omega), e2, getI_of hx, sbind, sbind, show l.length - (j + 1) = l.length - 1 - j by omega, e]
        simp only [getW]
        by_cases h1 : x.Name = nm
        · rw [if_pos h1, if_pos h1, wdec hj (by omega)]
        · rw [if_neg h1, if_neg h1, wdec hj (by omega)]
      · simp only [bifd]; rw [if_neg (by omega), Nat.sub_self, List.drop_zero]
      · unfold big; omega
      · rw [Nat.sub_zero, List.drop_length, w64 (by omega) (by omega)]; simp only [getW]; congr 2; omega
end Go.Proofs.YtiobbiamnjapgaaGreatDoor
