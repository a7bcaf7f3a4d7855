import Derived.Test.YtiobbiamnjapgaaDoorPlScan
import Derived.Test.YtiobbiamnjapgaaDoorPlSm
import Derived.Test.YtiobbiamnjapgaaDoorPlLp
namespace Go.Proofs.YtiobbiamnjapgaaDoor
open Go Go.RowKit
/-! ### Pieces: whether they may be, put together, taken apart -/
def tW (p : M_retrospectref48_Piece) : M_wire_Piece := ⟨p.Name, p.Text⟩
def rW (p : M_wire_Piece) : M_retrospectref48_Piece := ⟨p.Name, p.Text⟩
theorem m_wire_named_eq {n : Nat} {s : List UInt8} (hn : big ≤ n) (hs : s.length ≤ 4611686018427387904) : m_wire_named n s = some (wdB 2 s) := by
  unfold m_wire_named; rw [m_lex_Right_eq hn hs, sbind]
theorem m_ref48_named_eq {n : Nat} {s : List UInt8} (hn : big ≤ n) : m_retrospectref48_named n s = some (wdB 2 s) := by
  unfold m_retrospectref48_named; rw [m_ref16_Right_eq hn, sbind]
/-- What a piece must be beside those ahead of it. -/
def PcP (l : List M_wire_Piece) (i : Nat) (p : M_wire_Piece) : Prop := wdB 2 p.Name = true ∧ p.Text.length ≤ 20000 ∧ ∀ (j : Nat) (q : M_wire_Piece), (l.take i)[j]? = some q → q.Name ≠ p.Name
def MayP (l : List M_wire_Piece) : Prop := l.length ≤ 30 ∧ ∀ i p, l[i]? = some p → PcP l i p
open Classical in
theorem m_wire_may_eq {n : Nat} {l : List M_wire_Piece} (hn : big ≤ n) (hl : ∀ p ∈ l, p.Name.length ≤ 4611686018427387904) : m_wire_may n l = some (decide (MayP l)) := by
  unfold m_wire_may
  rw [range_chk (PcP l) l (r := false)]
  · by_cases h : ∀ i p, l[i]? = some p → PcP l i p
    · rw [if_pos h]
      by_cases h2 : l.length ≤ 30
      · rw [decide_eq_true (show MayP l from ⟨h2, h⟩), decide_eq_true (by omega)]
      · rw [decide_eq_false (show ¬ MayP l from fun g => h2 g.1), decide_eq_false (by omega)]
    · rw [if_neg h, decide_eq_false (show ¬ MayP l from fun g => h g.2)]
  · intro i p hp
    simp only [jn_eq, m_wire_named_eq hn (hl p (mem_of_get hp)), sbind, sub_take (Nat.le_of_lt (lt_of_get hp))]
    cases h1 : wdB 2 p.Name
    · refine ⟨fun h => ?_, fun _ => rfl⟩
      exact absurd h.1 (by rw [h1]; decide)
    · simp only [Bool.not_true, bifF, bifd]
      by_cases h2 : 20000 < (p.Text.length : Int)
      · rw [if_pos h2]
        exact ⟨fun h => absurd h.2.1 (by omega), fun _ => rfl⟩
      · rw [if_neg h2, range_chk (fun _ (q : M_wire_Piece) => q.Name ≠ p.Name) (l.take i) (r := Lp.out false)]
        · refine ⟨fun h => by rw [if_pos h.2.2], fun h => ?_⟩
          rw [if_neg fun g => h ⟨h1, by omega, g⟩]
        · intro j q _
          by_cases h3 : q.Name = p.Name
          · rw [if_pos h3]; exact ⟨fun h => absurd h3 h, fun _ => rfl⟩
          · rw [if_neg h3]; exact ⟨fun _ => rfl, fun h => absurd h3 h⟩
open Classical in
theorem m_ref48_May_eq {n : Nat} {l : List M_retrospectref48_Piece} (hn : big ≤ n) : m_retrospectref48_May n l = some (decide (MayP (l.map tW))) := by
  unfold m_retrospectref48_May
  rw [bifd]
  by_cases h0 : 30 < (l.length : Int)
  · rw [if_pos h0, decide_eq_false]
    intro h; have := h.1; simp at this; omega
  rw [if_neg h0, loop_chk (fun i => ∀ p, l[i]? = some p → PcP (l.map tW) i (tW p)) l.length (r := false)]
  · by_cases h : ∀ i, i < l.length → ∀ p, l[i]? = some p → PcP (l.map tW) i (tW p)
    · rw [if_pos h, decide_eq_true]
      refine ⟨by simp; omega, fun i p hp => ?_⟩
      rw [List.getElem?_map] at hp
      cases hq : l[i]? with
      | none => rw [hq] at hp; cases hp
      | some q => rw [hq] at hp; cases hp; exact h i (lt_of_get hq) q hq
    · rw [if_neg h, decide_eq_false]
      intro g
      exact h fun i _ p hp => g.2 i (tW p) (by rw [List.getElem?_map, hp]; rfl)
  · intro i hi
    have hp : l[i]? = some l[i] := List.getElem?_eq_getElem hi
    generalize l[i] = p at hp
    have e : (∀ q, l[i]? = some q → PcP (l.map tW) i (tW q)) ↔ PcP (l.map tW) i (tW p) := ⟨fun h => h p hp, fun h q hq => by rw [hp] at hq; cases hq; exact h⟩
    rw [e]
    simp only [jn_eq, bifd, getI_of hp, m_ref48_named_eq hn, sbind]
    rw [if_pos (by omega)]
    cases h1 : wdB 2 p.Name
    · refine ⟨fun h => ?_, fun _ => rfl⟩
      exact absurd h.1 (by show ¬ wdB 2 p.Name = true; rw [h1]; decide)
    · simp only [Bool.not_true, bifF]
      by_cases h2 : 20000 < (p.Text.length : Int)
      · rw [if_pos h2]
        exact ⟨fun h => absurd h.2.1 (by show ¬ p.Text.length ≤ 20000; omega), fun _ => rfl⟩
      · have hlen : l.length < 9223372036854775807 := by omega
        rw [if_neg h2, loop_chk (fun j => ∀ q : M_retrospectref48_Piece, l[j]? = some q → q.Name ≠ p.Name) i (r := Lp.out (Lp.out false))]
        · have e2 : (∀ j : Nat, j < i → ∀ q : M_retrospectref48_Piece, l[j]? = some q → q.Name ≠ p.Name) ↔ ∀ (j : Nat) (q : M_wire_Piece), ((l.map tW).take i)[j]? = some q → q.Name ≠ (tW p).Name := by
            constructor
            · intro h j q hq
              rw [List.getElem?_take] at hq
              split at hq
              · rename_i hj
                rw [List.getElem?_map] at hq
                cases hr : l[j]? with
                | none => rw [hr] at hq; cases hq
                | some r => rw [hr] at hq; cases hq; exact h j hj r hr
              · cases hq
            · intro h j hj q hq
              exact h j (tW q) (by rw [List.getElem?_take, if_pos hj, List.getElem?_map, hq]; rfl)
          refine ⟨fun h => ?_, fun h => ?_⟩
          · rw [if_pos (e2.2 h.2.2), w1 (by omega)]
          · rw [if_neg fun g => h ⟨h1, by show p.Text.length ≤ 20000; omega, e2.1 g⟩]
        · intro j hj
          have hq : l[j]? = some l[j] := List.getElem?_eq_getElem (by omega)
          generalize l[j] = q at hq
          rw [if_pos (by omega), getI_of hq, sbind]
          by_cases h3 : q.Name = p.Name
          · rw [if_pos h3]; exact ⟨fun h => absurd h3 (h q hq), fun _ => rfl⟩
          · rw [if_neg h3, w1 (by omega)]; exact ⟨fun _ => rfl, fun h => absurd (fun r hr => by rw [hq] at hr; cases hr; exact h3) h⟩
        · rw [if_neg (by omega)]
        · unfold big at hn; omega
  · simp only [bifd]; rw [if_neg (by omega)]
  · unfold big at hn; omega
/-! numbers as digits -/
theorem dec_lt10 {u : Nat} (h : u < 10) : dec u = [UInt8.ofNat (48 + u)] := by
  by_cases h0 : u = 0
  · subst h0; rfl
  · rw [dec_ne h0, dcR_pos h0, show u / 10 = 0 by omega, dcR_zero]; unfold dg; rw [Nat.mod_eq_of_lt h]; rfl
theorem decDigits_dec (u : Nat) : Lib.decDigits u = dec u := by
  induction u using Nat.strongRecOn with
  | _ u ih =>
    rw [Lib.decDigits]
    by_cases h : u < 10
    · rw [dif_pos h, dec_lt10 h]
    · rw [dif_neg h, ih (u / 10) (by omega), ← dec_snoc (by omega) (by omega), show u / 10 * 10 + u % 10 = u by omega]
theorem itoa_dec (k : Nat) : Lib.itoa (k : Int) = dec k := by
  unfold Lib.itoa; rw [if_neg (by omega), decDigits_dec]; simp
theorem itoa_negd {x : Int} (h : x < 0) : Lib.itoa x = 45 :: dec x.natAbs := by
  unfold Lib.itoa; rw [if_pos h, decDigits_dec]
theorem tp5 : tp 5 = 100000 := by unfold tp; decide
theorem dec_len5 {k : Nat} (h : k < 100000) : (dec k).length ≤ 5 := by
  by_cases h0 : k = 0
  · subst h0; decide
  · rw [dec_ne h0, List.length_reverse]; exact (decF_eq (k := 5) (by rw [tp5]; exact h)).2
/-! a piece as text -/
def pieceS (p : M_wire_Piece) : List UInt8 := p.Name ++ 61 :: (dec p.Text.length ++ 58 :: (p.Text ++ [59]))
def packW (l : List M_wire_Piece) : List UInt8 := (l.map pieceS).flatten
theorem wd2_len {s : List UInt8} (h : wdB 2 s = true) : s.length ≤ 12 := by
  cases s with
  | nil => simp
  | cons c r => have := ((wdB_cons 2 c r).1 h).2.2.2; simpa [mostC] using this
theorem pieceS_len {p : M_wire_Piece} (h1 : wdB 2 p.Name = true) (h2 : p.Text.length ≤ 20000) : (pieceS p).length ≤ 20020 := by
  have := wd2_len h1; have := dec_len5 (k := p.Text.length) (by omega)
  unfold pieceS; simp; omega
theorem packW_len {c : Nat} : ∀ {l : List M_wire_Piece}, (∀ p ∈ l, (pieceS p).length ≤ c) → (packW l).length ≤ l.length * c
  | [], _ => by simp [packW]
  | p :: l, h => by
    have h1 := h p (.head _); have h2 := packW_len (c := c) (l := l) fun q hq => h q (.tail _ hq)
    unfold packW at h2 ⊢
    rw [List.map_cons, List.flatten_cons, List.length_append, List.length_cons, Nat.succ_mul]; omega
theorem packW_snoc (l : List M_wire_Piece) (p : M_wire_Piece) : packW (l ++ [p]) = packW l ++ pieceS p := by unfold packW; simp
theorem take_snoc {α : Type} {l : List α} {i : Nat} {x : α} (hx : l[i]? = some x) : l.take (i + 1) = l.take i ++ [x] := by
  have h := take_map_succ (fun y : α => y) hx
  simpa using h
open Classical in
theorem m_wire_Pack_eq {n : Nat} {l : List M_wire_Piece} (hn : big ≤ n) (hl : ∀ p ∈ l, p.Name.length ≤ 4611686018427387904) :
    m_wire_Pack n l = some (if MayP l then (packW l, true) else ([], false)) := by
  unfold m_wire_Pack
  rw [m_wire_may_eq hn hl, sbind]
  by_cases h : MayP l
  · rw [if_pos h, decide_eq_true h]
    simp only [Bool.not_true, bifF]
    rw [range_acc (fun i => packW (l.take i)) l, lpK_go, List.take_length]
    · intro i p hp
      have hP := h.2 i p hp
      have l1 := wd2_len hP.1
      have l2 := dec_len5 (k := p.Text.length) (by have := hP.2.1; omega)
      have l3 := hP.2.1
      have l4 : (packW (l.take i)).length ≤ 30 * 20020 := by
        refine Nat.le_trans (packW_len (c := 20020) fun q hq => ?_) (Nat.mul_le_mul_right _ (by have := h.1; simp; omega))
        obtain ⟨j, hj⟩ := List.getElem?_of_mem (List.mem_of_mem_take hq)
        exact pieceS_len (h.2 j q hj).1 (h.2 j q hj).2.1
      simp only [m_strconv_Itoa, sbind, itoa_dec]
      rw [catS_ok (by simp; omega), sbind, catS_ok (by simp; omega), sbind, catS_ok (by simp; omega), sbind, catS_ok (by simp; omega), sbind, catS_ok (by simp; omega), sbind,
        appM_ok (by simp; omega) (by simp; omega), sbind, take_snoc hp, packW_snoc]
      unfold pieceS; simp
    · rfl
  · rw [if_neg h, decide_eq_false h]
    rfl
/-! the length of a piece -/
def lngW (t : List UInt8) : Int := if wrongI t < 0 ∧ t.length ≤ 5 ∧ trimS t = t then (numD t 0 : Int) else -1
theorem numD_5 {t : List UInt8} (hD : isD t) (h : t.length ≤ 5) : numD t 0 < 100000 := by
  have h1 := numD_lt hD 0 0 (by rw [tp_zero]; omega)
  have h2 := tp_le (show 0 + t.length ≤ 5 by omega)
  rw [tp5] at h2; omega
theorem lngW_lt (t : List UInt8) : lngW t < 100000 ∧ -1 ≤ lngW t := by
  unfold lngW
  split
  · rename_i h; have := numD_5 (wrongI_neg h.1).1 h.2.1; omega
  · omega
theorem m_wire_length_eq {n : Nat} {t : List UInt8} (hn : big ≤ n) (ht : t.length ≤ maxLen) : m_wire_length n t = some (lngW t) := by
  unfold m_wire_length
  rw [m_digits_Read_eq hn ht, sbind]
  by_cases hw : 0 ≤ wrongI t
  · rw [if_pos hw]
    have e : eqb_api_Fault (⟨1, 0, 0, wrongI t⟩ : M_api_Fault) ⟨0, 0, 0, 0⟩ = false := by simp [eqb_api_Fault]
    simp only [jn_eq, e, Bool.not_false, bifT]
    unfold lngW; rw [if_neg fun h => by have := h.1; omega]
  · rw [if_neg hw]
    obtain ⟨hD, hne, hl⟩ := wrongI_neg (show wrongI t < 0 by omega)
    have l1 := numD_len hD
    simp only [jn_eq, eqb_self, Bool.not_true, bifF, bifd]
    by_cases h5 : 5 < (t.length : Int)
    · rw [if_pos h5, bifT]; unfold lngW; rw [if_neg fun h => by have := h.2.1; omega]
    · rw [if_neg h5, m_digits_Text_eq hn (by omega) (Wd_toL _), sbind, val_toL, dec_trimS hD hne]
      have l2 := numD_5 hD (by omega)
      by_cases h6 : trimS t = t
      · rw [decide_eq_true h6]
        simp only [Bool.not_true, bifF]
        rw [m_nat_Small_eq hn (by omega) (Wd_toL _), sbind, val_toL, if_pos (by omega)]
        unfold lngW; rw [if_pos ⟨by omega, by omega, h6⟩]
        simp only []
        rw [w64 (by omega) (by omega)]
      · rw [decide_eq_false h6]
        simp only [Bool.not_false, bifT]
        unfold lngW; rw [if_neg fun h => h6 h.2.2]
theorem lngW_dec {k : Nat} (h : k < 100000) : lngW (dec k) = k := by
  have l5 := dec_len5 h
  have hne : dec k ≠ [] := by
    unfold dec; split
    · simp
    · rename_i h0; simpa using dcR_ne_nil h0
  have hD : isD (dec k) := dec_isD
  unfold lngW
  rw [if_pos ⟨by rw [wrongI_isD hD hne, if_neg (by omega)]; omega, l5, by rw [← dec_trimS hD hne, numD_dec]⟩, numD_dec]
theorem lngW_back {t : List UInt8} (h : 0 ≤ lngW t) : t = dec (lngW t).toNat ∧ isD t ∧ t.length ≤ 5 := by
  unfold lngW at h ⊢
  split at h
  · rename_i g
    rw [if_pos g]
    obtain ⟨hD, hne, _⟩ := wrongI_neg g.1
    exact ⟨by rw [Int.toNat_natCast, dec_trimS hD hne, g.2.2], hD, g.2.1⟩
  · omega
end Go.Proofs.YtiobbiamnjapgaaDoor
