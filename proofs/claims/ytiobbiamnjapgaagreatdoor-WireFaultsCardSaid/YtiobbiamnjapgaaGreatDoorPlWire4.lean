import Derived.Test.YtiobbiamnjapgaaGreatDoorPlWire3
import Derived.KernelRfl
namespace Go.Proofs.YtiobbiamnjapgaaGreatDoor
open Go Go.RowKit
theorem m_law48_To_eq {n : Nat} {l : List M_retrospectref48_Piece} (hn : big ≤ n) (hl : l.length ≤ 1000000000) : m_retrospectlaw48_To n l = some (l.map tW) := by
  unfold m_retrospectlaw48_To
  rw [loop_acc (fun i => ((l.take i).map tW, (i : Int))) l.length (l.map tW)]
  · intro i hi
    have hp : l[i]? = some l[i] := List.getElem?_eq_getElem hi
    generalize l[i] = p at hp
    simp only [bifd]
    rw [if_pos (by omega), getI_of hp, sbind, sbind, appM_ok (by simp; omega) (by simp; omega), sbind, w1 (by omega), take_map_succ tW hp]; rfl
  · simp only [bifd]; rw [if_neg (by omega), List.take_length]
  · unfold big at hn; omega
  · rfl
theorem m_law48_Of_eq {n : Nat} {l : List M_wire_Piece} (hn : big ≤ n) (hl : l.length ≤ 1000000000) : m_retrospectlaw48_Of n l = some (l.map rW) := by
  unfold m_retrospectlaw48_Of
  rw [loop_acc (fun i => ((l.take i).map rW, (i : Int))) l.length (l.map rW)]
  · intro i hi
    have hp : l[i]? = some l[i] := List.getElem?_eq_getElem hi
    generalize l[i] = p at hp
    simp only [bifd]
    rw [if_pos (by omega), getI_of hp, sbind, sbind, appM_ok (by simp; omega) (by simp; omega), sbind, w1 (by omega), take_map_succ rW hp]; rfl
  · simp only [bifd]; rw [if_neg (by omega), List.take_length]
  · unfold big at hn; omega
  · rfl
theorem m_law48_Same_self {n : Nat} {l : List M_retrospectref48_Piece} (hn : big ≤ n) (hl : l.length ≤ 1000000000) : m_retrospectlaw48_Same n l l = some true := by
  unfold m_retrospectlaw48_Same
  rw [decide_eq_true rfl]
  simp only [Bool.not_true, bifF]
  rw [loop_chk (fun _ => True) l.length (r := false), if_pos fun _ _ => trivial]
  · intro i hi
    have hp : l[i]? = some l[i] := List.getElem?_eq_getElem hi
    generalize l[i] = p at hp
    refine ⟨fun _ => ?_, fun h => absurd trivial h⟩
    simp only [bifd]
    rw [if_pos (by omega), getI_of hp, sbind, sbind, show eqb_retrospectref48_Piece p p = true by simp [eqb_retrospectref48_Piece], w1 (by omega)]; rfl
  · simp only [bifd]; rw [if_neg (by omega)]
  · unfold big at hn; omega
theorem m_ref48_Long_ok {n : Nat} {l : List M_retrospectref48_Piece} {many b : Nat} (hn : big ≤ n) (hm : many ≤ 1000000) : ∃ v, m_retrospectref48_Long n l (many : Int) (b : Int) = some v ∧ (v = false → l.length ≤ many ∧ ∀ p ∈ l, p.Name.length ≤ 50 ∧ p.Text.length ≤ b) := by
  unfold m_retrospectref48_Long
  rw [loop_chk (fun i => ∀ p, l[i]? = some p → p.Name.length ≤ 50 ∧ p.Text.length ≤ b) (min l.length many) (r := true)]
  · by_cases h : ∀ i, i < min l.length many → ∀ p, l[i]? = some p → p.Name.length ≤ 50 ∧ p.Text.length ≤ b
    · rw [if_pos h]
      refine ⟨_, rfl, fun hv => ?_⟩
      have hv' : ¬ (many : Int) < (l.length : Int) := of_decide_eq_false hv
      refine ⟨by omega, fun p hp => ?_⟩
      obtain ⟨i, hi⟩ := List.getElem?_of_mem hp
      exact h i (by have := lt_of_get hi; omega) p hi
    · rw [if_neg h]; exact ⟨true, rfl, fun h => by cases h⟩
  · intro i hi
    have hp : l[i]? = some l[i] := List.getElem?_eq_getElem (by omega)
    generalize l[i] = p at hp
    simp only [jn_eq, bifd]
    rw [if_pos (by omega), if_pos (by omega), getI_of hp, sbind, sbind]
    by_cases h1 : 50 < (p.Name.length : Int)
    · rw [if_pos h1, bifT]
      exact ⟨fun h => by have := (h p hp).1; omega, fun _ => rfl⟩
    · rw [if_neg h1]
      by_cases h2 : (b : Int) < (p.Text.length : Int)
      · rw [if_pos h2]
        exact ⟨fun h => by have := (h p hp).2; omega, fun _ => rfl⟩
      · rw [if_neg h2, w1 (by omega)]
        exact ⟨fun _ => rfl, fun h => absurd (fun q hq => by rw [hp] at hq; cases hq; omega) h⟩
  · simp only [jn_eq, bifd]
    by_cases h : min l.length many < l.length
    · rw [if_pos (by omega), if_neg (by omega)]
    · rw [if_neg (by omega), bifF]
  · unfold big at hn; omega
/-! faults as texts -/
def kndsL : List (List UInt8) := [[111, 107], [112, 97, 114, 115, 101], [102, 111, 114, 109], [112, 111, 108, 101], [117, 110, 100, 101, 114, 102, 108, 111, 119], [115, 116, 101, 112, 115], [98, 105, 116, 115], [114, 97, 110, 103, 101], [115, 104, 117, 116]]
theorem m_wire_kinds_eq : m_wire_kinds = some kndsL := by unfold m_wire_kinds; rw [sbind]; rfl
def kndI (k : Int) : Nat := if 0 < k ∧ k < 9 then k.toNat else 0
theorem kndI_lt (k : Int) : kndI k < 9 := by unfold kndI; split <;> omega
def kndW (k : Int) : List UInt8 := kndsL.getD (kndI k) []
theorem kndW_get (k : Int) : kndsL[kndI k]? = some (kndW k) := by
  have h := kndI_lt k
  unfold kndW
  generalize kndI k = i at h
  have : i < kndsL.length := h
  rw [List.getD_eq_getElem?_getD, List.getElem?_eq_getElem this]; rfl
theorem kndW_len (k : Int) : (kndW k).length ≤ 9 := by
  have h := kndI_lt k
  unfold kndW
  generalize kndI k = i at h
  match i, h with
  | 0, _ => decide
  | 1, _ => decide
  | 2, _ => decide
  | 3, _ => decide
  | 4, _ => decide
  | 5, _ => decide
  | 6, _ => decide
  | 7, _ => decide
  | 8, _ => decide
def b64 (x : Int) : Prop := -9223372036854775808 ≤ x ∧ x ≤ 9223372036854775807
theorem dec_len20 {k : Nat} (h : k < 18446744073709551616) : (dec k).length ≤ 21 := by
  have h1 := dcR_bp (n := k) (k := 2) (by rw [bp_succ, bp_succ, bp_zero]; omega)
  have h2 := dec_length k
  omega
theorem itoa_len {x : Int} (h : b64 x) : (Lib.itoa x).length ≤ 22 := by
  unfold b64 at h
  by_cases h0 : x < 0
  · rw [itoa_negd h0]; have := dec_len20 (k := x.natAbs) (by omega); simp; omega
  · obtain ⟨k, rfl⟩ : ∃ k : Nat, x = k := ⟨x.toNat, by omega⟩
    rw [itoa_dec]; have := dec_len20 (k := k) (by omega); omega
def faultS (x : M_api_Fault) : List UInt8 := kndW x.Kind ++ 32 :: (Lib.itoa x.Step ++ 32 :: (Lib.itoa x.Stage ++ 32 :: Lib.itoa x.At))
theorem m_wire_Fault_eq {x : M_api_Fault} (h1 : b64 x.Step) (h2 : b64 x.Stage) (h3 : b64 x.At) : m_wire_Fault x = some (faultS x) := by
  have l1 := itoa_len h1; have l2 := itoa_len h2; have l3 := itoa_len h3; have l0 := kndW_len x.Kind
  unfold m_wire_Fault
  rw [m_wire_kinds_eq, sbind, show getI kndsL (0 : Int) = some (kndsL.getD 0 []) from rfl, sbind]
  simp only [jn_eq, bifd]
  have key : ∀ (w : List UInt8), w = kndW x.Kind → (rangeL (τ := List UInt8) (fun (i40 : Nat) (x41 : Int) (s39 : (List UInt8)) =>
      (m_strconv_Itoa x41).bind fun r43 =>
      (catS ([32] : List UInt8) r43).bind fun y45 =>
      (catS s39 y45).bind fun y47 =>
      some (Lp.go y47)) ([x.Step, x.Stage, x.At] : List Int) 0 w).bind (lpK fun (s49 : (List UInt8)) =>
    some s49) = some (faultS x) := by
    rintro w rfl
    simp only [rangeL, m_strconv_Itoa, sbind]
    rw [catS_ok (by simp; omega), sbind, catS_ok (by simp; omega), sbind, sbind]
    simp only []
    rw [catS_ok (by simp; omega), sbind, catS_ok (by simp; omega), sbind, sbind]
    simp only []
    rw [catS_ok (by simp; omega), sbind, catS_ok (by simp; omega), sbind, sbind]
    simp only []
    rw [sbind, lpK_go]
    unfold faultS; simp
  by_cases h : 0 < x.Kind ∧ x.Kind < 9
  · rw [if_pos h.1, if_pos (show x.Kind < (kndsL.length : Int) from h.2)]
    obtain ⟨k, hk⟩ : ∃ k : Nat, x.Kind = k := ⟨x.Kind.toNat, by omega⟩
    have hi : kndI x.Kind = k := by unfold kndI; rw [if_pos h, hk]; simp
    have := kndW_get x.Kind
    rw [hi] at this
    rw [hk, getI_cast, this, sbind]
    exact key _ rfl
  · have hi : kndI x.Kind = 0 := by unfold kndI; rw [if_neg h]
    have e : kndW x.Kind = kndsL.getD 0 [] := by unfold kndW; rw [hi]
    by_cases h0 : 0 < x.Kind
    · rw [if_pos h0, if_neg (show ¬ x.Kind < (kndsL.length : Int) from fun g => h ⟨h0, g⟩)]; exact key _ e.symm
    · rw [if_neg h0, bifF]; exact key _ e.symm
theorem m_law48_works_eq {n : Nat} (hn : big ≤ n) : m_retrospectlaw48_works n = some true := by
  unfold m_retrospectlaw48_works
  have hM : MayP [⟨[97], [120, 121]⟩, ⟨[98], []⟩] := by
    refine ⟨by decide, fun i p hp => ?_⟩
    match i, hp with
    | 0, hp => cases hp; exact ⟨by decide, by decide, fun j q hq => by simp at hq⟩
    | 1, hp =>
      cases hp
      refine ⟨by decide, by decide, fun j q hq => ?_⟩
      match j, hq with
      | 0, hq => cases hq; decide
      | j + 1, hq => simp at hq
    | i + 2, hp => simp at hp
  rw [sbind, m_wire_Pack_eq hn (fun p hp => by simp at hp; rcases hp with rfl | rfl <;> decide), if_pos hM, sbind, m_wire_Unpack_eq hn (by decide), sbind]
  have hP : packW [⟨[97], [120, 121]⟩, ⟨[98], []⟩] = [97, 61, 50, 58, 120, 121, 59, 98, 61, 48, 58, 59] := by
    unfold packW pieceS
    simp only [List.map_cons, List.map_nil, List.length_cons, List.length_nil]
    rw [dec_lt10 (show 0 + 1 + 1 < 10 by decide), dec_lt10 (show 0 < 10 by decide)]
    rfl
  have hU : unpW [97, 61, 48, 50, 58, 120, 121, 59] = ([], 1, 2) := by
    unfold unpW
    have e : ∀ s : List UInt8, s = [97, 61, 48, 50, 58, 120, 121, 59] → itW s (s.length + 1) 0 [] = .inr 2 := by rintro s rfl; kernel_rfl
    rw [e _ rfl]
  have i3 : Lib.itoa 3 = [51] := (itoa_dec 3).trans (dec_lt10 (by decide))
  have i0 : Lib.itoa 0 = [48] := (itoa_dec 0).trans (dec_lt10 (by decide))
  have i5 : Lib.itoa 5 = [53] := (itoa_dec 5).trans (dec_lt10 (by decide))
  have hF : faultS ⟨3, 3, 0, 5⟩ = [112, 111, 108, 101, 32, 51, 32, 48, 32, 53] := by
    unfold faultS
    simp only [i3, i0, i5]
    rfl
  simp only [jn_eq, bifT, sbind]
  rw [hP, hU, m_wire_Fault_eq (x := ⟨3, 3, 0, 5⟩) (by unfold b64; exact ⟨by decide, by decide⟩) (by unfold b64; exact ⟨by decide, by decide⟩) (by unfold b64; exact ⟨by decide, by decide⟩), hF]
  rfl
theorem unpW_len {s : List UInt8} : (unpW s).1.length ≤ 30 := by
  unfold unpW
  split
  · split
    · rename_i h; exact h.1
    · simp
  · simp
theorem rW_tW (l : List M_retrospectref48_Piece) : (l.map tW).map rW = l := by rw [List.map_map, show rW ∘ tW = id from rfl, List.map_id]
theorem law_WireUnpacks (s : List UInt8) (_ : s.length ≤ maxLen) : ∃ n, m_retrospectlaw48_WireUnpacks n s = some true := by
  refine ⟨big, ?_⟩
  have hn : big ≤ big := Nat.le_refl _
  unfold m_retrospectlaw48_WireUnpacks
  rw [bifd]
  by_cases h : 3000 < (s.length : Int)
  · rw [if_pos h, m_law48_works_eq hn, sbind]
  · rw [if_neg h, m_wire_Unpack_eq hn (by omega), sbind, m_ref48_Unpack_eq hn (by omega), sbind]
    have := unpW_len (s := s)
    simp only [jn_eq]
    rw [m_law48_Of_eq hn (by omega), sbind, m_law48_Same_self hn (by simp; omega), sbind, bifT, eqb_self, bifT, m_law48_works_eq hn, sbind]
theorem unpW_cases (s : List UInt8) : (∃ l, unpW s = (l, 0, 0) ∧ MayP l ∧ s = packW l ∧ ∀ p ∈ l, wdB 2 p.Name = true) ∨ (∃ k x, k ≠ 0 ∧ unpW s = ([], k, x)) := by
  unfold unpW
  cases hi : itW s (s.length + 1) 0 [] with
  | inr x => exact .inr ⟨1, x, by decide, rfl⟩
  | inl l =>
    simp only []
    obtain ⟨g1, g2⟩ := itW_spec _ _ _ _ hi (by omega) rfl (fun _ h => by cases h)
    by_cases h : MayP l
    · rw [if_pos h]; exact .inl ⟨l, rfl, h, g1, fun p hp => (g2 p hp).1⟩
    · rw [if_neg h]; exact .inr ⟨2, 0, by decide, rfl⟩
theorem packW_ge (l : List M_wire_Piece) : l.length ≤ (packW l).length := by
  induction l with
  | nil => simp
  | cons p l ih =>
    have := pieceS_pos p
    unfold packW at ih ⊢
    rw [List.map_cons, List.flatten_cons, List.length_append, List.length_cons]; omega
theorem unpW_pack {l : List M_wire_Piece} (h : MayP l) : unpW (packW l) = (l, 0, 0) := by
  have h1 : ∀ p ∈ l, wdB 2 p.Name = true ∧ p.Text.length < 100000 := fun p hp => by
    obtain ⟨i, hi⟩ := List.getElem?_of_mem hp
    have := h.2 i p hi
    exact ⟨this.1, by have := this.2.1; omega⟩
  have h2 := itW_pack l [] ((packW l).length + 1) h1 (by have := packW_ge l; omega)
  unfold unpW
  rw [List.nil_append] at h2
  rw [show (packW ([] : List M_wire_Piece)).length = 0 from rfl] at h2
  rw [h2]
  simp only []
  rw [if_pos h]
theorem packW_may {l : List M_wire_Piece} (h : MayP l) : (packW l).length ≤ 30 * 20020 := by
  refine Nat.le_trans (packW_len (c := 20020) fun q hq => ?_) (Nat.mul_le_mul_right _ h.1)
  obtain ⟨j, hj⟩ := List.getElem?_of_mem hq
  exact pieceS_len (h.2 j q hj).1 (h.2 j q hj).2.1
theorem wb_tail {n : Nat} {s : List UInt8} (hn : big ≤ n) (hs : s.length ≤ 3000) :
    ((m_wire_Unpack n s).bind fun r43 =>
        (m_wire_Pack n r43.1).bind fun r45 =>
        jn (fun (j51 : (Bool) → Option Bool) =>
          bif !(eqb_api_Fault r43.2 (⟨0, 0, 0, 0⟩ : M_api_Fault)) then (
            (m_retrospectlaw48_works n ).bind fun r54 =>
            j51 r54)
          else (
            bif r45.2 then (
              bif decide (r45.1 = s) then (
                (m_retrospectlaw48_works n ).bind fun r56 =>
                j51 r56)
              else (
                j51 false))
            else (
              j51 false))) (fun (s53 : Bool) =>
          some s53)) = some true := by
  rw [m_wire_Unpack_eq hn (by omega), sbind]
  rcases unpW_cases s with ⟨l, h1, h2, h3, h4⟩ | ⟨k, x, h1, h2⟩
  · rw [h1]
    simp only []
    rw [m_wire_Pack_eq hn (fun p hp => by have := wd2_len (h4 p hp); omega), if_pos h2, sbind, jn_eq]
    simp only []
    rw [show eqb_api_Fault (⟨0, 0, 0, ((0 : Nat) : Int)⟩ : M_api_Fault) ⟨0, 0, 0, 0⟩ = true from eqb_self _, Bool.not_true, bifF, bifT, decide_eq_true h3.symm, bifT, m_law48_works_eq hn, sbind]
  · rw [h2]
    simp only []
    rw [m_wire_Pack_eq hn (fun p hp => by cases hp), sbind, jn_eq]
    simp only []
    rw [eqb_kind h1, Bool.not_false, bifT, m_law48_works_eq hn, sbind]
theorem law_WireBack (l : List M_retrospectref48_Piece) (s : List UInt8) : ∃ n, m_retrospectlaw48_WireBack n l s = some true := by
  refine ⟨big, ?_⟩
  have hn : big ≤ big := Nat.le_refl _
  unfold m_retrospectlaw48_WireBack
  obtain ⟨v, hv, hv2⟩ := m_ref48_Long_ok (n := big) (l := l) (many := 40) (b := 3000) hn (by decide)
  rw [show ((40 : Nat) : Int) = 40 from rfl, show ((3000 : Nat) : Int) = 3000 from rfl] at hv
  rw [jn_eq, hv, sbind]
  simp only []
  cases v with
  | true => rw [bifT, bifT, m_law48_works_eq hn, sbind]
  | false =>
    obtain ⟨l1, l2⟩ := hv2 rfl
    rw [bifF]
    by_cases h : 3000 < (s.length : Int)
    · rw [decide_eq_true h, bifT, m_law48_works_eq hn, sbind]
    · rw [decide_eq_false h, bifF, m_law48_To_eq hn (by omega), sbind, m_wire_Pack_eq hn (fun p hp => by
        obtain ⟨q, hq, rfl⟩ := List.mem_map.1 hp
        have := (l2 q hq).1
        show q.Name.length ≤ _; omega), sbind, jn_eq]
      simp only []
      by_cases hM : MayP (l.map tW)
      · rw [if_pos hM, bifT, m_wire_Unpack_eq hn (show (packW (l.map tW)).length ≤ 1000000 by have := packW_may hM; omega), sbind, unpW_pack hM, jn_eq]
        simp only []
        rw [show eqb_api_Fault (⟨0, 0, 0, ((0 : Nat) : Int)⟩ : M_api_Fault) ⟨0, 0, 0, 0⟩ = true from eqb_self _, Bool.not_true, bifF,
          m_law48_Of_eq hn (by simp; omega), sbind, rW_tW, m_law48_Same_self hn (by omega), sbind, Bool.not_true, bifF]
        exact wb_tail hn (by omega)
      · rw [if_neg hM, bifF]
        exact wb_tail hn (by omega)
end Go.Proofs.YtiobbiamnjapgaaGreatDoor
