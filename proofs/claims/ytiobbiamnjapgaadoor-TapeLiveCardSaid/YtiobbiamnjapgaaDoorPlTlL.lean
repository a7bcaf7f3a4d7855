import Derived.Test.YtiobbiamnjapgaaDoorPlTl
import Derived.Test.YtiobbiamnjapgaaDoorPlWire
namespace Go.Proofs.YtiobbiamnjapgaaDoor
open Go Go.RowKit
def tI (x : M_retrospectref24_Inst) : M_tape_Inst := ⟨x.Op, x.A, x.B, ⟨⟨x.N.Neg, x.N.N⟩, x.N.D⟩⟩
theorem m_ref09_Long_eq (f : M_retrospectref09_Frac) (k : Nat) : m_retrospectref09_Long f (k : Int) = some (!decide (f.N.length ≤ k ∧ f.D.length ≤ k)) := by
  unfold m_retrospectref09_Long
  simp only [jn_eq, bifd]
  by_cases h : (k : Int) < (f.N.length : Int)
  · rw [if_pos h, decide_eq_false (by omega)]; rfl
  · rw [if_neg h]
    by_cases g : (k : Int) < (f.D.length : Int)
    · rw [decide_eq_true g, decide_eq_false (by omega)]; rfl
    · rw [decide_eq_false g, decide_eq_true (by omega)]; rfl
theorem m_ref24_Long_ok {n : Nat} {t : M_retrospectref24_Tape} {many k : Nat} (hn : big ≤ n) (hm : many ≤ 1000000) : ∃ v, m_retrospectref24_Long n t (many : Int) (k : Int) = some v ∧ (v = false → t.Code.length ≤ many ∧ t.Outs.length ≤ many ∧ ∀ c ∈ t.Code, c.N.N.length ≤ k ∧ c.N.D.length ≤ k) := by
  unfold m_retrospectref24_Long
  rw [loop_chk (fun i => ∀ c, t.Code[i]? = some c → c.N.N.length ≤ k ∧ c.N.D.length ≤ k) (min t.Code.length many) (r := true)]
  · by_cases h : ∀ i, i < min t.Code.length many → ∀ c, t.Code[i]? = some c → c.N.N.length ≤ k ∧ c.N.D.length ≤ k
    · rw [if_pos h]
      simp only [jn_eq, bifd]
      by_cases h1 : (many : Int) < (t.Code.length : Int)
      · rw [if_pos h1]; exact ⟨true, rfl, fun h => by cases h⟩
      · rw [if_neg h1]
        refine ⟨_, rfl, fun hv => ⟨by omega, by have := of_decide_eq_false hv; omega, fun c hc => ?_⟩⟩
        obtain ⟨i, hi⟩ := List.getElem?_of_mem hc
        exact h i (by have := lt_of_get hi; omega) c hi
    · rw [if_neg h]; exact ⟨true, rfl, fun h => by cases h⟩
  · intro i hi
    have hp : t.Code[i]? = some t.Code[i] := List.getElem?_eq_getElem (by omega)
    generalize t.Code[i] = c at hp
    simp only [jn_eq, bifd]
    rw [if_pos (by omega), if_pos (by omega), getI_of hp, sbind, m_ref09_Long_eq, sbind]
    by_cases h : c.N.N.length ≤ k ∧ c.N.D.length ≤ k
    · rw [decide_eq_true h, Bool.not_true, bifF, w1 (by omega)]
      exact ⟨fun _ => rfl, fun g => absurd (fun d hd => by rw [hp] at hd; cases hd; exact h) g⟩
    · rw [decide_eq_false h, Bool.not_false, bifT]
      exact ⟨fun g => absurd (g c hp) h, fun _ => rfl⟩
  · simp only [jn_eq, bifd]
    by_cases h : min t.Code.length many < t.Code.length
    · rw [if_pos (by omega), if_neg (by omega)]
    · rw [if_neg (by omega), bifF]
  · unfold big at hn; omega
theorem m_law24_To_eq {n : Nat} {t : M_retrospectref24_Tape} (hn : big ≤ n) (h1 : t.Code.length ≤ 1000000) (h2 : t.Outs.length ≤ 1000000) : m_retrospectlaw24_To n t = some ⟨t.Code.map tI, t.Outs, t.Dim, t.Par⟩ := by
  unfold m_retrospectlaw24_To
  rw [appM_ok (by simp; omega) (by simp; omega), sbind]
  rw [loop_acc (fun i => ((t.Code.take i).map tI, (i : Int))) t.Code.length (t.Code.map tI)]
  · rfl
  · intro i hi
    have hp : t.Code[i]? = some t.Code[i] := List.getElem?_eq_getElem hi
    generalize t.Code[i] = p at hp
    simp only [bifd, m_retrospectlaw09_To, sbind]
    rw [if_pos (by omega), getI_of hp, sbind, appM_ok (by simp; omega) (by simp; omega), sbind, w1 (by omega), take_map_succ tI hp]; rfl
  · simp only [bifd]; rw [if_neg (by omega), List.take_length]
  · unfold big at hn; omega
  · rfl
theorem m_law24_works_eq {n : Nat} : m_retrospectlaw24_works n = some true := by
  unfold m_retrospectlaw24_works
  have hR : m_tape_Right n ⟨[⟨3, 0, 0, ⟨⟨false, []⟩, []⟩⟩, ⟨9, 0, 0, ⟨⟨false, []⟩, []⟩⟩], [1], 1, 0⟩ = some true := by kernel_rfl
  have hW : m_tape_Wrong n ⟨[], [], 0, 0⟩ = some (-2) := by kernel_rfl
  have i0 : m_strconv_Itoa 0 = some [48] := congrArg some ((itoa_dec 0).trans (dec_lt10 (by decide)))
  have i1 : m_strconv_Itoa 1 = some [49] := congrArg some ((itoa_dec 1).trans (dec_lt10 (by decide)))
  have l0 : m_tape_line n ⟨3, 0, 0, ⟨⟨false, []⟩, []⟩⟩ = some [115, 116, 97, 116, 101, 32, 48] := by
    unfold m_tape_line
    simp only [i0]
    rfl
  have l1 : m_tape_line n ⟨9, 0, 0, ⟨⟨false, []⟩, []⟩⟩ = some [109, 117, 108, 32, 48, 32, 48] := by
    unfold m_tape_line
    rw [m_tape_Reads_eq, show rdT ⟨9, 0, 0, ⟨⟨false, []⟩, []⟩⟩ = [0, 0] from rfl]
    simp only [rangeL, i0, sbind]
    rfl
  have hT : m_tape_Text n ⟨[⟨3, 0, 0, ⟨⟨false, []⟩, []⟩⟩, ⟨9, 0, 0, ⟨⟨false, []⟩, []⟩⟩], [1], 1, 0⟩ = some [48, 58, 32, 115, 116, 97, 116, 101, 32, 48, 10, 49, 58, 32, 109, 117, 108, 32, 48, 32, 48, 10, 111, 117, 116, 32, 49, 10] := by
    unfold m_tape_Text
    rw [hR, sbind]
    simp only [rangeL, l0, l1]
    rw [show m_strconv_Itoa ((0 : Nat) : Int) = some [48] from i0, show m_strconv_Itoa ((0 + 1 : Nat) : Int) = some [49] from i1, i1]
    rfl
  rw [sbind, jn_eq, hR, sbind, bifT, hT, sbind, sbind, decide_eq_true rfl, bifT, hW, sbind]
  rfl
theorem law_TapeLive (t : M_retrospectref24_Tape) (hB : B_retrospectref24_Tape t) : ∃ n, m_retrospectlaw24_TapeLive n t = some true := by
  refine ⟨big, ?_⟩
  have hn : big ≤ big := Nat.le_refl _
  unfold m_retrospectlaw24_TapeLive
  obtain ⟨v, hv, hv2⟩ := m_ref24_Long_ok (n := big) (t := t) (many := 40) (k := 4) hn (by decide)
  rw [show ((40 : Nat) : Int) = 40 from rfl, show ((4 : Nat) : Int) = 4 from rfl] at hv
  rw [hv, sbind]
  cases v with
  | true => rw [bifT, m_law24_works_eq, sbind]
  | false =>
    obtain ⟨l1, l2, l3⟩ := hv2 rfl
    rw [bifF, m_law24_To_eq hn (by omega) (by omega), sbind]
    have hTW : TW ⟨t.Code.map tI, t.Outs, t.Dim, t.Par⟩ := by
      intro c hc
      obtain ⟨d, hd, rfl⟩ := List.mem_map.1 hc
      have hb := hB.1.2 d hd
      have h4 := l3 d hd
      exact ⟨⟨hb.2.2.2.1.2.1.2, by show d.N.N.length < _; omega⟩, hb.2.2.2.1.2.2.1.2, by show d.N.D.length < _; omega⟩
    obtain ⟨b, s, e1, e2, e3, e4⟩ := m_tape_Live_ok hn hTW (by simp; omega)
    rw [e2, sbind, e1, sbind]
    cases b with
    | false =>
      rw [e3 rfl]
      simp only [Bool.not_false, bifT, jn_eq]
      rw [show decide ((([] : List Bool).length : Int) = 0) = true from rfl, bifT, m_law24_works_eq, sbind]
    | true =>
      obtain ⟨⟨r1, r2⟩, s1, s2, s3⟩ := e4 rfl
      simp only [Bool.not_true, bifF]
      simp only [] at r1 r2 s1 s2 s3
      have hlen : (t.Code.map tI).length ≤ 40 := by simp; omega
      generalize t.Code.map tI = C at *
      rw [decide_eq_true (show (s.length : Int) = (C.length : Int) by omega)]
      simp only [Bool.not_true, bifF]
      rw [loop_chk (fun _ => True) C.length (r := false), if_pos fun _ _ => trivial, loop_chk (fun _ => True) t.Outs.length (r := false), if_pos fun _ _ => trivial, m_law24_works_eq, sbind]
      · intro i hi
        refine ⟨fun _ => ?_, fun h => absurd trivial h⟩
        have ho : t.Outs[i]? = some t.Outs[i] := List.getElem?_eq_getElem hi
        have hm := List.getElem_mem hi
        generalize t.Outs[i] = o at ho hm
        obtain ⟨g1, g2⟩ := r2 o hm
        have g3 := s2 o hm
        obtain ⟨k, rfl⟩ : ∃ k : Nat, o = k := ⟨o.toNat, by omega⟩
        rw [Int.toNat_natCast] at g3
        simp only [jn_eq, bifd]
        rw [if_pos (by omega), getI_of ho, sbind, if_neg (by omega), sbind, if_neg (by omega), sbind, getI_of g3, sbind, Bool.not_true, bifF, w1 (by omega)]
      · simp only [bifd]; rw [if_neg (by omega)]
      · unfold big; omega
      · intro i hi
        refine ⟨fun _ => ?_, fun h => absurd trivial h⟩
        have hx : C[i]? = some C[i] := List.getElem?_eq_getElem hi
        generalize C[i] = x at hx
        have hrl := rdT_len x
        rw [decide_eq_true (show (i : Int) < (C.length : Int) by omega), bifT, getI_of hx, sbind, m_tape_Reads_eq, sbind]
        rw [loop_chk (fun _ => True) (rdT x).length (r := Lp.out (Lp.out false)), if_pos fun _ _ => trivial, w1 (by omega)]
        · intro k hk
          refine ⟨fun _ => ?_, fun h => absurd trivial h⟩
          have ho : (rdT x)[k]? = some (rdT x)[k] := List.getElem?_eq_getElem hk
          have hm := List.getElem_mem hk
          generalize (rdT x)[k] = o at ho hm
          obtain ⟨g1, g2⟩ := r1 i x hx o hm
          have g3 := fun h => s3 i x hx h o hm
          obtain ⟨q, rfl⟩ : ∃ q : Nat, o = q := ⟨o.toNat, by omega⟩
          rw [Int.toNat_natCast] at g3
          have hsi : s[i]? = some (s[i]'(by omega)) := List.getElem?_eq_getElem (by omega)
          simp only [jn_eq, bifd]
          rw [if_pos (by omega), getI_of ho, sbind, if_neg (by omega), sbind, if_neg (by omega), getI_of hsi, sbind]
          cases hb : s[i]'(by omega) with
          | false => rw [bifF, bifF, w1 (by omega)]
          | true =>
            rw [hb] at hsi
            rw [bifT, sbind, getI_of (g3 hsi), sbind, Bool.not_true, bifF, w1 (by omega)]
        · simp only [bifd]; rw [if_neg (by omega)]
        · unfold big; omega
      · simp only [bifd]; rw [if_neg (by omega)]
      · unfold big; omega
end Go.Proofs.YtiobbiamnjapgaaDoor
