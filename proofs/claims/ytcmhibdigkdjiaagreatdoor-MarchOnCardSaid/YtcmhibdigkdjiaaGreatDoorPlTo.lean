import Derived.Test.YtcmhibdigkdjiaaGreatDoorPlTl
namespace Go.Proofs.YtcmhibdigkdjiaaGreatDoor
open Go Go.RowKit
/-! ### From the document's forms to the program's -/
def tI (x : M_retrospectref24_Inst) : M_tape_Inst := ⟨x.Op, x.A, x.B, ⟨⟨x.N.Neg, x.N.N⟩, x.N.D⟩⟩
theorem m_ref09_Long_eq (f : M_retrospectref09_Frac) (k : Nat) : m_retrospectref09_Long f (k : Int) = some (!decide (f.N.length ≤ k ∧ f.D.length ≤ k)) := by
  unfold m_retrospectref09_Long
  simp only [jn_eq, bifd]
  by_cases h : (k : Int) < (f.N.length : Int)
  · rw [if_pos h, decide_eq_false (by omega)]; rfl
  · rw [if_neg h]
    by_cases g : (k : Int) < (f.D.length : Int)
    · rw [decide_eq_true g, decide_eq_false (by omega)]; rfl
    · rw [decide_eq_false g, decide_eq_true (by omega)]; rfl
theorem m_ref24_Long_ok {n : Nat} {t : M_retrospectref24_Tape} {many k : Nat} (hn : big ≤ n) (hm : many ≤ 1000000) : ∃ v, m_retrospectref24_Long n t (many : Int) (k : Int) = some v ∧ (v = false → t.Code.length ≤ many ∧ t.Outs.length ≤ many ∧ ∀ c ∈ t.Code, c.N.N.length ≤ k ∧ c.N.D.length ≤ k) := by
  unfold m_retrospectref24_Long
  rw [loop_chk (fun i => ∀ c, t.Code[i]? = some c → c.N.N.length ≤ k ∧ c.N.D.length ≤ k) (min t.Code.length many) (r := true)]
  · by_cases h : ∀ i, i < min t.Code.length many → ∀ c, t.Code[i]? = some c → c.N.N.length ≤ k ∧ c.N.D.length ≤ k
    · rw [if_pos h]
      simp only [jn_eq, bifd]
      by_cases h1 : (many : Int) < (t.Code.length : Int)
      · rw [if_pos h1]; exact ⟨true, rfl, fun h => by cases h⟩
      · rw [if_neg h1]
        refine ⟨_, rfl, fun hv => ⟨by omega, by have := of_decide_eq_false hv; omega, fun c hc => ?_⟩⟩
        obtain ⟨i, hi⟩ := List.getElem?_of_mem hc
        exact h i (by have := lt_of_get hi; omega) c hi
    · rw [if_neg h]; exact ⟨true, rfl, fun h => by cases h⟩
  · intro i hi
    have hp : t.Code[i]? = some t.Code[i] := List.getElem?_eq_getElem (by omega)
    generalize t.Code[i] = c at hp
    simp only [jn_eq, bifd]
    rw [if_pos (by omega), if_pos (by omega), getI_of hp, sbind, m_ref09_Long_eq, sbind]
    by_cases h : c.N.N.length ≤ k ∧ c.N.D.length ≤ k
    · rw [decide_eq_true h, Bool.not_true, bifF, w1 (by omega)]
      exact ⟨fun _ => rfl, fun g => absurd (fun d hd => by rw [hp] at hd; cases hd; exact h) g⟩
    · rw [decide_eq_false h, Bool.not_false, bifT]
      exact ⟨fun g => absurd (g c hp) h, fun _ => rfl⟩
  · simp only [jn_eq, bifd]
    by_cases h : min t.Code.length many < t.Code.length
    · rw [if_pos (by omega), if_neg (by omega)]
    · rw [if_neg (by omega), bifF]
  · unfold big at hn; omega
theorem m_law24_To_eq {n : Nat} {t : M_retrospectref24_Tape} (hn : big ≤ n) (h1 : t.Code.length ≤ 1000000) (h2 : t.Outs.length ≤ 1000000) : m_retrospectlaw24_To n t = some ⟨t.Code.map tI, t.Outs, t.Dim, t.Par⟩ := by
  unfold m_retrospectlaw24_To
  rw [appM_ok (by simp; omega) (by simp; omega), sbind]
  rw [loop_acc (fun i => ((t.Code.take i).map tI, (i : Int))) t.Code.length (t.Code.map tI)]
  · rfl
  · intro i hi
    have hp : t.Code[i]? = some t.Code[i] := List.getElem?_eq_getElem hi
    generalize t.Code[i] = p at hp
    simp only [bifd, m_retrospectlaw09_To, sbind]
    rw [if_pos (by omega), getI_of hp, sbind, appM_ok (by simp; omega) (by simp; omega), sbind, w1 (by omega), take_map_succ tI hp]; rfl
  · simp only [bifd]; rw [if_neg (by omega), List.take_length]
  · unfold big at hn; omega
  · rfl
def tF (x : M_retrospectref09_Frac) : M_frac_Frac := ⟨⟨x.Neg, x.N⟩, x.D⟩
theorem m_law11_To_eq {n : Nat} {l : List M_retrospectref09_Frac} (hn : big ≤ n) (h1 : l.length ≤ 1000000) : m_retrospectlaw11_To n l = some (l.map tF) := by
  unfold m_retrospectlaw11_To
  rw [loop_acc (fun i => ((l.take i).map tF, (i : Int))) l.length (l.map tF)]
  · intro i hi
    have hp : l[i]? = some l[i] := List.getElem?_eq_getElem hi
    generalize l[i] = p at hp
    simp only [bifd, m_retrospectlaw09_To, sbind]
    rw [if_pos (by omega), getI_of hp, sbind, appM_ok (by simp; omega) (by simp; omega), sbind, w1 (by omega), take_map_succ tF hp]; rfl
  · simp only [bifd]; rw [if_neg (by omega), List.take_length]
  · unfold big at hn; omega
  · rfl
theorem m_law12_To_eq {n : Nat} {l : List (List M_retrospectref09_Frac)} (hn : big ≤ n) (h1 : l.length ≤ 1000000) (h2 : ∀ r ∈ l, r.length ≤ 1000000) : m_retrospectlaw12_To n l = some (l.map (·.map tF)) := by
  unfold m_retrospectlaw12_To
  rw [loop_acc (fun i => ((l.take i).map (·.map tF), (i : Int))) l.length (l.map (·.map tF))]
  · intro i hi
    have hp : l[i]? = some l[i] := List.getElem?_eq_getElem hi
    generalize l[i] = p at hp
    simp only [bifd]
    rw [if_pos (by omega), getI_of hp, sbind, m_law11_To_eq hn (h2 p (mem_of_get hp)), sbind, appM_ok (by simp; omega) (by simp; omega), sbind, w1 (by omega), take_map_succ (·.map tF) hp]
  · simp only [bifd]; rw [if_neg (by omega), List.take_length]
  · unfold big at hn; omega
  · rfl
/-- Not too long, and of numbers that are not. -/
def FL (many k : Nat) (l : List M_retrospectref09_Frac) : Prop := l.length ≤ many ∧ ∀ x ∈ l, x.N.length ≤ k ∧ x.D.length ≤ k
theorem m_ref11_Long_ok {n : Nat} {l : List M_retrospectref09_Frac} {many k : Nat} (hn : big ≤ n) (hm : many ≤ 1000000) : ∃ v, m_retrospectref11_Long n l (many : Int) (k : Int) = some v ∧ (v = false → FL many k l) := by
  unfold m_retrospectref11_Long
  rw [loop_chk (fun i => ∀ c, l[i]? = some c → c.N.length ≤ k ∧ c.D.length ≤ k) (min l.length many) (r := true)]
  · by_cases h : ∀ i, i < min l.length many → ∀ c, l[i]? = some c → c.N.length ≤ k ∧ c.D.length ≤ k
    · rw [if_pos h]
      refine ⟨_, rfl, fun hv => ⟨by have := of_decide_eq_false hv; omega, fun c hc => ?_⟩⟩
      have := of_decide_eq_false hv
      obtain ⟨i, hi⟩ := List.getElem?_of_mem hc
      exact h i (by have := lt_of_get hi; omega) c hi
    · rw [if_neg h]; exact ⟨true, rfl, fun h => by cases h⟩
  · intro i hi
    have hp : l[i]? = some l[i] := List.getElem?_eq_getElem (by omega)
    generalize l[i] = c at hp
    simp only [jn_eq, bifd]
    rw [if_pos (by omega), if_pos (by omega), getI_of hp, sbind, m_ref09_Long_eq, sbind]
    by_cases h : c.N.length ≤ k ∧ c.D.length ≤ k
    · rw [decide_eq_true h, Bool.not_true, bifF, w1 (by omega)]
      exact ⟨fun _ => rfl, fun g => absurd (fun d hd => by rw [hp] at hd; cases hd; exact h) g⟩
    · rw [decide_eq_false h, Bool.not_false, bifT]
      exact ⟨fun g => absurd (g c hp) h, fun _ => rfl⟩
  · simp only [jn_eq, bifd]
    by_cases h : min l.length many < l.length
    · rw [if_pos (by omega), if_neg (by omega)]
    · rw [if_neg (by omega), bifF]
  · unfold big at hn; omega
theorem m_ref30_Long_ok {n : Nat} {s : M_retrospectref30_Scheme} {many k : Nat} (hn : big ≤ n) (hm : many ≤ 1000000) : ∃ v, m_retrospectref30_Long n s (many : Int) (k : Int) = some v ∧
    (v = false → s.Name.length ≤ 50 ∧ s.A.length ≤ many ∧ FL many k s.B ∧ FL many k s.C ∧ FL many k s.E ∧ ∀ r ∈ s.A, FL many k r) := by
  unfold m_retrospectref30_Long
  simp only [jn_eq, bifd]
  by_cases h1 : (50 : Int) < (s.Name.length : Int)
  · rw [if_pos h1]; exact ⟨true, rfl, fun h => by cases h⟩
  rw [if_neg h1]
  by_cases h2 : (many : Int) < (s.A.length : Int)
  · rw [if_pos h2]; exact ⟨true, rfl, fun h => by cases h⟩
  rw [if_neg h2]
  obtain ⟨b, e1, e2⟩ := m_ref11_Long_ok (l := s.B) (k := k) hn hm
  rw [e1, sbind]
  cases b
  case true => exact ⟨true, rfl, fun h => by cases h⟩
  rw [bifF]
  obtain ⟨c, e3, e4⟩ := m_ref11_Long_ok (l := s.C) (k := k) hn hm
  rw [e3, sbind]
  cases c
  case true => exact ⟨true, rfl, fun h => by cases h⟩
  rw [bifF]
  obtain ⟨e, e5, e6⟩ := m_ref11_Long_ok (l := s.E) (k := k) hn hm
  rw [e5, sbind]
  cases e
  case true => exact ⟨true, rfl, fun h => by cases h⟩
  rw [bifF]
  have hb : ∀ r, ∃ v, m_retrospectref11_Long n r (many : Int) (k : Int) = some v ∧ (v = false → FL many k r) := fun r => m_ref11_Long_ok hn hm
  have hl := loop_chk (f := fun (s28 : Int) =>
        if s28 < (s.A.length : Int) then (
          (getI s.A s28).bind fun y29 =>
          (m_retrospectref11_Long n y29 (many : Int) (k : Int)).bind fun r31 =>
          bif r31 then (
            some (Lp.out (Lp.out (true))))
          else (
            some (Lp.go (wrap64 (s28 + (1 : Int))))))
        else (
          some (Lp.out (Lp.go ())))) (n := n) (K := fun (_ : Unit) => some false) (r := true) (fun i => ∀ r, s.A[i]? = some r → m_retrospectref11_Long n r (many : Int) (k : Int) = some false) s.A.length (fun i hi => by
      have hp : s.A[i]? = some s.A[i] := List.getElem?_eq_getElem hi
      generalize s.A[i] = r at hp
      obtain ⟨v, g1, g2⟩ := hb r
      rw [if_pos (by omega), getI_of hp, sbind, g1, sbind]
      cases v
      · rw [bifF, w1 (by omega)]
        exact ⟨fun _ => rfl, fun g => absurd (fun d hd => by rw [hp] at hd; cases hd; exact g1) g⟩
      · rw [bifT]
        exact ⟨fun g => (by have := g r hp; rw [g1] at this; cases this), fun _ => rfl⟩) (by rw [if_neg (by omega)]) (by unfold big at hn; omega)
  rw [hl]
  by_cases h : ∀ i, i < s.A.length → ∀ r, s.A[i]? = some r → m_retrospectref11_Long n r (many : Int) (k : Int) = some false
  · rw [if_pos h]
    refine ⟨false, rfl, fun _ => ⟨by omega, by omega, e2 rfl, e4 rfl, e6 rfl, fun r hr => ?_⟩⟩
    obtain ⟨i, hi⟩ := List.getElem?_of_mem hr
    obtain ⟨v, g1, g2⟩ := hb r
    have := h i (lt_of_get hi) r hi
    rw [g1] at this
    exact g2 (Option.some.inj this)
  · rw [if_neg h]; exact ⟨true, rfl, fun h => by cases h⟩
theorem m_ref33_Long_ok {n : Nat} {p : M_retrospectref33_Problem} {a b k : Nat} (hn : big ≤ n) (ha : a ≤ 1000000) (hb : b ≤ 1000000) : ∃ v, m_retrospectref33_Long n p (a : Int) (b : Int) (k : Int) = some v ∧
    (v = false → (p.Tape.Code.length ≤ a ∧ p.Tape.Outs.length ≤ a ∧ ∀ c ∈ p.Tape.Code, c.N.N.length ≤ k ∧ c.N.D.length ≤ k) ∧ (p.Scheme.Name.length ≤ 50 ∧ p.Scheme.A.length ≤ b ∧ FL b 4 p.Scheme.B ∧ FL b 4 p.Scheme.C ∧ FL b 4 p.Scheme.E ∧ ∀ r ∈ p.Scheme.A, FL b 4 r) ∧ FL 6 k p.P) := by
  unfold m_retrospectref33_Long
  simp only [jn_eq]
  obtain ⟨u, e1, e2⟩ := m_ref24_Long_ok (t := p.Tape) (k := k) hn ha
  rw [e1, sbind]
  cases u
  case true => exact ⟨true, rfl, fun h => by cases h⟩
  rw [bifF]
  obtain ⟨u, e3, e4⟩ := m_ref30_Long_ok (s := p.Scheme) (k := 4) hn hb
  rw [show ((4 : Nat) : Int) = 4 from rfl] at e3
  rw [e3, sbind]
  cases u
  case true => exact ⟨true, rfl, fun h => by cases h⟩
  rw [bifF]
  obtain ⟨u, e5, e6⟩ := m_ref11_Long_ok (l := p.P) (many := 6) (k := k) hn (by decide)
  rw [show ((6 : Nat) : Int) = 6 from rfl] at e5
  rw [e5, sbind]
  exact ⟨u, rfl, fun h => ⟨e2 rfl, e4 rfl, e6 h⟩⟩
theorem m_law33_Long_ok {n : Nat} {f : M_retrospectlaw33_From} (hn : big ≤ n) : ∃ v, m_retrospectlaw33_Long n f = some v ∧ (v = false → (f.T.N.length ≤ 2 ∧ f.T.D.length ≤ 2) ∧ (f.H.N.length ≤ 2 ∧ f.H.D.length ≤ 2) ∧ FL 4 2 f.Y) := by
  unfold m_retrospectlaw33_Long
  simp only [jn_eq]
  have e : ∀ g : M_retrospectref09_Frac, m_retrospectref09_Long g 2 = some (!decide (g.N.length ≤ 2 ∧ g.D.length ≤ 2)) := fun g => m_ref09_Long_eq g 2
  rw [e, sbind]
  by_cases h1 : f.T.N.length ≤ 2 ∧ f.T.D.length ≤ 2
  case neg => rw [decide_eq_false h1]; exact ⟨true, rfl, fun h => by cases h⟩
  rw [decide_eq_true h1, Bool.not_true, bifF, e, sbind]
  by_cases h2 : f.H.N.length ≤ 2 ∧ f.H.D.length ≤ 2
  case neg => rw [decide_eq_false h2]; exact ⟨true, rfl, fun h => by cases h⟩
  rw [decide_eq_true h2, Bool.not_true, bifF]
  obtain ⟨u, e5, e6⟩ := m_ref11_Long_ok (l := f.Y) (many := 4) (k := 2) hn (by decide)
  rw [show ((4 : Nat) : Int) = 4 from rfl, show ((2 : Nat) : Int) = 2 from rfl] at e5
  rw [e5, sbind]
  exact ⟨u, rfl, fun h => ⟨h1, h2, e6 h⟩⟩
def tS (s : M_retrospectref30_Scheme) : M_scheme_Scheme := ⟨s.Name, s.C.map tF, s.A.map (·.map tF), s.B.map tF, s.E.map tF⟩
def tT (t : M_retrospectref24_Tape) : M_tape_Tape := ⟨t.Code.map tI, t.Outs, t.Dim, t.Par⟩
def tP (p : M_retrospectref33_Problem) : M_step_Problem := ⟨tT p.Tape, tS p.Scheme, p.P.map tF, p.Bits⟩
theorem m_law33_To_eq {n : Nat} {p : M_retrospectref33_Problem} (hn : big ≤ n) (h1 : p.Tape.Code.length ≤ 1000000) (h2 : p.Tape.Outs.length ≤ 1000000) (h3 : p.Scheme.A.length ≤ 1000000) (h4 : p.Scheme.B.length ≤ 1000000) (h5 : p.Scheme.C.length ≤ 1000000) (h6 : p.Scheme.E.length ≤ 1000000)
    (h7 : ∀ r ∈ p.Scheme.A, r.length ≤ 1000000) (h8 : p.P.length ≤ 1000000) : m_retrospectlaw33_To n p = some (tP p) := by
  unfold m_retrospectlaw33_To m_retrospectlaw30_To
  rw [m_law24_To_eq hn h1 h2, sbind, m_law11_To_eq hn h5, sbind, m_law12_To_eq hn h3 h7, sbind, m_law11_To_eq hn h4, sbind, m_law11_To_eq hn h6, sbind, sbind, m_law11_To_eq hn h8, sbind]
  rfl
end Go.Proofs.YtcmhibdigkdjiaaGreatDoor
