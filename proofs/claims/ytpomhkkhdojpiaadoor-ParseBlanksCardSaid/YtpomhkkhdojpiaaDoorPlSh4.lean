import Derived.Test.YtpomhkkhdojpiaaDoorPlSh3
import Derived.KernelRfl
namespace Go.Proofs.YtpomhkkhdojpiaaDoor
open Go Go.RowKit
def bigS : Nat := 18446744073709553616
theorem law20_works : m_retrospectlaw20_works bigS = some true := by kernel_rfl
theorem m_show_Expr_eq {n : Nat} {c : List M_tree_Node} {Nm : List (List UInt8)} (hn : big ≤ n) (hc : c.length ≤ 5000) (hb : ∀ x ∈ c, NB x) (hN : ∀ s ∈ Nm, s.length ≤ 100) :
    m_show_Expr n c Nm = some (if 0 ≤ placeT c 6 6 (Nm.length : Int) then ([], false) else (((m_show_write n c Nm)).getD [], true)) := by
  unfold m_show_Expr
  rw [m_check_Place_eq hn (by omega) hb, sbind, bifd]
  by_cases h : 0 ≤ placeT c 6 6 (Nm.length : Int)
  · rw [if_pos h, if_pos h]
  · rw [if_neg h, if_neg h]
    obtain ⟨h1, h2⟩ := runG_place.1 (show placeT c 6 6 (Nm.length : Int) < 0 by omega)
    obtain ⟨e, he, rfl⟩ := tree_of h1
    rw [m_show_write_eq hn hN ⟨he, fun x hx => ⟨h2 x hx, hb x hx⟩⟩ hc, sbind]; rfl
/-- ShowExprs. -/
theorem law_ShowExprs (c : List M_retrospectref17_Node) (Nm : List (List UInt8)) (hB : B_S_retrospectref17_Node c) (hN : B_S_string Nm) : ∃ n, m_retrospectlaw20_ShowExprs n c Nm = some true := by
  refine ⟨bigS, ?_⟩
  have hn : big ≤ bigS := by decide
  have hn1 : big + 60 ≤ bigS := by decide
  have hM := maxLen_le
  suffices ∃ b, m_retrospectlaw20_ShowExprs bigS c Nm = some b ∧ b = true by obtain ⟨b, h, rfl⟩ := this; exact h
  unfold m_retrospectlaw20_ShowExprs
  obtain ⟨b, h1, h2⟩ := m_ref17_Long_ok (c := c) (many := 60) (words := 9) hn (by have := hB.1; omega)
  rw [jn_eq, show (60 : Int) = ((60 : Nat) : Int) by rfl, show (9 : Int) = ((9 : Nat) : Int) by rfl, h1, sbind]
  cases b with
  | true => simp only [bifT, law20_works, sbind]; exact ⟨true, rfl, rfl⟩
  | false =>
    obtain ⟨k1, k2⟩ := h2 rfl
    simp only [bifF]
    rw [bifd]
    by_cases hNl : (10 : Int) < (Nm.length : Int)
    · rw [if_pos hNl, law20_works, sbind]; exact ⟨true, rfl, rfl⟩
    · rw [if_neg hNl]
      refine loop_bindE (fun s : Int => (Nm.length - s.toNat)) (fun s => ∃ i : Nat, s = i ∧ i ≤ Nm.length ∧ ∀ l ∈ Nm.take i, l.length ≤ 100)
        (fun t : Lp Unit Bool => (t = .go () ∧ ∀ l ∈ Nm, l.length ≤ 100) ∨ t = .out true) ⟨0, rfl, Nat.zero_le _, by simp⟩ (by rw [Int.toNat_zero]; exact Nat.lt_of_le_of_lt (show Nm.length - 0 ≤ 10 by omega) (by decide)) (fun s hI => ?_) (fun t g2 => ?_)
      · obtain ⟨i, rfl, hi, hw⟩ := hI
        simp only [bifd]
        by_cases hl : i < Nm.length
        · have hx : Nm[i]? = some Nm[i] := List.getElem?_eq_getElem hl
          rw [if_pos (by omega), getI_of hx, sbind]
          by_cases h : (100 : Int) < ((Nm[i]).length : Int)
          · right; exact ⟨.out true, by rw [if_pos h, law20_works, sbind], .inr rfl⟩
          · left
            refine ⟨((i + 1 : Nat) : Int), by rw [if_neg h, w1 (by omega)], ⟨i + 1, rfl, by omega, fun x hx' => ?_⟩, by simp; omega⟩
            rw [take_succ_get hl] at hx'
            rcases List.mem_append.1 hx' with h | h
            · exact hw x h
            · rw [List.mem_singleton.1 h]; omega
        · right
          rw [if_neg (by omega)]
          exact ⟨.go (), rfl, .inl ⟨rfl, fun x hx => hw x (by rw [List.take_of_length_le (by omega)]; exact hx)⟩⟩
      · rcases g2 with ⟨rfl, hA⟩ | rfl
        · rw [lpK_go]
          have hNB : ∀ x ∈ c.map cN, NB x := fun x hx => by
            obtain ⟨y, hy, rfl⟩ := List.mem_map.1 hx
            exact ⟨by rw [cN_N]; have := k2 y hy; omega, by rw [cN_N]; exact (hB.2 y hy).2.2.1.2⟩
          have hR := m_ref20_Rank_eq (n := bigS) (c := c.map cN) hn (by simp; omega)
          rw [dc_map] at hR
          rw [m_law17_To_eq hn (by omega), sbind, m_show_Expr_eq hn (by simp; omega) hNB hA, sbind, m_ref19_Place_eq hn (by omega) hNB, sbind, jn_eq, m_show_Rank_eq (by simp; omega), sbind, hR, sbind, decide_eq_true rfl, Bool.not_true, bifF]
          refine ⟨true, ?_, rfl⟩
          by_cases hp : 0 ≤ placeT (c.map cN) 6 6 (Nm.length : Int)
          · rw [if_pos hp, decide_eq_false (by omega)]
            simp only [bne_self_eq_false, bifF, Bool.not_false, bifT, jn_eq, law20_works, sbind, decide_true]
          · rw [if_neg hp, decide_eq_true (by omega)]
            obtain ⟨p1, p2⟩ := runG_place.1 (show placeT (c.map cN) 6 6 (Nm.length : Int) < 0 by omega)
            obtain ⟨e, he, hf⟩ := tree_of p1
            have hE : okE (Nm.length : Int) e := ⟨he, fun x hx => ⟨p2 x (hf ▸ hx), hNB x (hf ▸ hx)⟩⟩
            have hlen : (fl e).length ≤ 60 := by rw [hf, List.length_map]; omega
            have hw := m_ref20_Write_eq hA e hE (by omega) bigS (by omega)
            rw [hf, dc_map] at hw
            rw [← hf, m_show_write_eq hn hA hE (by omega), hw]
            simp only [bne_self_eq_false, bifF, Bool.not_true, jn_eq, law20_works, sbind, decide_true, bifT, Option.getD_some]
        · exact ⟨true, rfl, rfl⟩
end Go.Proofs.YtpomhkkhdojpiaaDoor
