import Derived.Test.YtcmhibdigkdjiaaGreatDoorPlMa
import Derived.KernelRfl
namespace Go.Proofs.YtcmhibdigkdjiaaGreatDoor
open Go Go.RowKit
set_option maxRecDepth 100000
theorem w38 : m_retrospectlaw38_works big = some true := by kernel_rfl
theorem Fk_tF {k : Nat} {x : M_retrospectref09_Frac} (hB : B_retrospectref09_Frac x) (h : x.N.length ≤ k ∧ x.D.length ≤ k) : Fk k (tF x) := ⟨hB.2.1.2, h.1, hB.2.2.1.2, h.2⟩
theorem FR_tF {many k : Nat} {l : List M_retrospectref09_Frac} (hB : B_S_retrospectref09_Frac l) (h : FL many k l) : FR k (l.map tF) := fun x hx => by
  obtain ⟨y, hy, rfl⟩ := List.mem_map.1 hx
  exact Fk_tF (hB.2 y hy) (h.2 y hy)
theorem PrbW_tP {a b k : Nat} {p : M_retrospectref33_Problem} {bits : Int} (hB : B_retrospectref33_Problem p) (hk : k ≤ 129)
    (h : (p.Tape.Code.length ≤ a ∧ p.Tape.Outs.length ≤ a ∧ ∀ c ∈ p.Tape.Code, c.N.N.length ≤ k ∧ c.N.D.length ≤ k) ∧ (p.Scheme.Name.length ≤ 50 ∧ p.Scheme.A.length ≤ b ∧ FL b 4 p.Scheme.B ∧ FL b 4 p.Scheme.C ∧ FL b 4 p.Scheme.E ∧ ∀ r ∈ p.Scheme.A, FL b 4 r) ∧ FL 6 k p.P) :
    PrbW 129 ⟨tT p.Tape, tS p.Scheme, p.P.map tF, bits⟩ := by
  obtain ⟨bt, bs, bp, _⟩ := hB
  obtain ⟨⟨t1, t2, t3⟩, ⟨s1, s2, s3, s4, s5, s6⟩, p1⟩ := h
  refine ⟨fun c hc => ?_, bt.2.2.1, ⟨fun r hr => ?_, FR_mono (FR_tF bs.2.2.2.1 s3) (by omega), FR_mono (FR_tF bs.2.1 s4) (by omega), FR_mono (FR_tF bs.2.2.2.2.1 s5) (by omega), by show p.Scheme.Name.length ≤ _; omega⟩, FR_mono (FR_tF bp p1) hk⟩
  · obtain ⟨d, hd, rfl⟩ := List.mem_map.1 hc
    exact Fk_mono (Fk_tF (bt.1.2 d hd).2.2.2.1 (t3 d hd)) hk
  · obtain ⟨d, hd, rfl⟩ := List.mem_map.1 hr
    exact FR_mono (FR_tF (bs.2.2.1.2 d hd) (s6 d hd)) (by omega)
theorem PrbW.mono {j k : Nat} {p : M_step_Problem} (h : PrbW j p) (hk : j ≤ k) : PrbW k p :=
  ⟨fun c hc => Fk_mono (h.t c hc) hk, h.d, ⟨fun r hr => FR_mono (h.s.a r hr) hk, FR_mono h.s.b hk, FR_mono h.s.c hk, FR_mono h.s.e hk, h.s.n⟩, FR_mono h.p hk⟩
/-! ### On and on -/
theorem law_MarchOn (p : M_retrospectref33_Problem) (f : M_retrospectlaw33_From) (sizes : List M_retrospectref09_Frac) (m : Int) (hB : B_retrospectref33_Problem p) (hF : B_retrospectlaw33_From f) (hS : B_S_retrospectref09_Frac sizes) : ∃ n, m_retrospectlaw38_MarchOn n p f sizes m = some true := by
  refine ⟨big, ?_⟩
  have hn : big ≤ big := Nat.le_refl _
  unfold m_retrospectlaw38_MarchOn
  simp only [jn_eq]
  obtain ⟨v, e1, e2⟩ := m_ref33_Long_ok (p := p) (a := 10) (b := 4) (k := 2) hn (by decide) (by decide)
  rw [show ((10 : Nat) : Int) = 10 from rfl, show ((4 : Nat) : Int) = 4 from rfl, show ((2 : Nat) : Int) = 2 from rfl] at e1
  rw [e1, sbind]
  cases v
  case true => rw [bifT, bifT, w38]; rfl
  obtain ⟨⟨t1, t2, t3⟩, ⟨s1, s2, s3, s4, s5, s6⟩, p1⟩ := e2 rfl
  obtain ⟨v, e3, e4⟩ := m_law33_Long_ok (f := f) hn
  rw [bifF, e3, sbind]
  cases v
  case true => rw [bifT, bifT, w38]; rfl
  obtain ⟨f1, f2, f3⟩ := e4 rfl
  obtain ⟨v, e5, e6⟩ := m_ref11_Long_ok (l := sizes) (many := 3) (k := 2) hn (by decide)
  rw [show ((3 : Nat) : Int) = 3 from rfl, show ((2 : Nat) : Int) = 2 from rfl] at e5
  rw [bifF, e5, sbind]
  cases v
  case true => rw [bifT, bifT, w38]; rfl
  have z1 := e6 rfl
  rw [bifF]
  by_cases c1 : m < 0
  · rw [decide_eq_true c1, bifT, bifT, w38]; rfl
  rw [decide_eq_false c1, bifF]
  by_cases c2 : (sizes.length : Int) < m
  · rw [decide_eq_true c2, bifT, w38]; rfl
  rw [decide_eq_false c2, bifF]
  obtain ⟨m, rfl⟩ : ∃ k : Nat, m = (k : Int) := ⟨m.toNat, by omega⟩
  have hw := (PrbW_tP (bits := 1500) hB (by decide) (e2 rfl)).mono (k := 2000) (by decide)
  have hT : Fk 129 (tF f.T) := Fk_mono (Fk_tF hF.1 f1) (by decide)
  have hY : FR 129 (f.Y.map tF) := FR_mono (FR_tF hF.2.2.1 f3) (by decide)
  have hZ : FR 2 (sizes.map tF) := FR_tF hS z1
  have hyl : (f.Y.map tF).length ≤ 1000 := by have := f3.1; simp; omega
  have hzl : (sizes.map tF).length = sizes.length := by simp
  have hz3 := z1.1
  rw [m_law33_To_eq hn (by omega) (by omega) (by omega) (by have := s3.1; omega) (by have := s4.1; omega) (by have := s5.1; omega) (fun r hr => by have := (s6 r hr).1; omega) (by have := p1.1; omega), sbind, m_law11_To_eq hn (by omega), sbind]
  unfold m_retrospectlaw09_To
  rw [sbind, m_law11_To_eq hn (by have := f3.1; omega), sbind]
  have ht : (⟨⟨f.T.Neg, f.T.N⟩, f.T.D⟩ : M_frac_Frac) = tF f.T := rfl
  have hp' : (⟨(tP p).Tape, (tP p).Scheme, (tP p).P, 1500⟩ : M_step_Problem) = ⟨tT p.Tape, tS p.Scheme, p.P.map tF, 1500⟩ := rfl
  rw [ht, hp']
  generalize (⟨tT p.Tape, tS p.Scheme, p.P.map tF, 1500⟩ : M_step_Problem) = q at *
  generalize hyy : f.Y.map tF = y at *
  generalize tF f.T = t at *
  generalize hll : sizes.map tF = l at *
  have hsub : sub l 0 (m : Int) = some (l.take m) := sub_take (by omega)
  have hsub2 : sub l (m : Int) (l.length : Int) = some (l.drop m) := by rw [sub_mid (by omega) (Nat.le_refl _), List.take_length]
  have hZ1 : FR 2 (l.take m) := fun x hx => hZ x (List.mem_of_mem_take hx)
  have hZ2 : FR 2 (l.drop m) := fun x hx => hZ x (List.mem_of_mem_drop hx)
  obtain ⟨a1, a2⟩ := m_march_Fixed_eq (a := 129) (j := 2) (k := 2000) (t := t) (y := y) (hs := l) hn (by decide) (by decide) (by decide) (by decide) hw hT hY hyl hZ
  obtain ⟨b1, b2⟩ := m_march_Fixed_eq (a := 129) (j := 2) (k := 2000) (t := t) (y := y) (hs := l.take m) hn (by decide) (by decide) (by decide) (by decide) hw hT hY hyl hZ1
  rw [a1, sbind, sbind, sbind, hsub, sbind, b1, sbind]
  have happ : rv l = rv (l.take m) ++ rv (l.drop m) := by unfold rv; rw [← List.map_append, List.take_append_drop]
  by_cases hmay : mayQ q (rv y) (rv l)
  case neg =>
    simp only [if_neg hmay]
    rw [show decide True = true from rfl, bifT, w38]; rfl
  have hm1 : mayQ q (rv y) (rv (l.take m)) := ⟨hmay.1, hmay.2.1, fun h hh => hmay.2.2.1 h (by rw [happ]; exact List.mem_append_left _ hh), by rw [rv_len]; simp; omega⟩
  simp only [if_pos hmay, if_pos hm1] at a2 b2 ⊢
  rw [happ, march_app]
  have hb : ∀ (b : Bool) (X : Option Bool), X = some true → (bif b then (m_retrospectlaw38_works big).bind fun r16 => some r16 else X) = some true := fun b X hX => by
    cases b
    · exact hX
    · rw [bifT, w38]; rfl
  refine hb _ _ ?_
  cases hA : marchQ q (rv (l.take m)) 0 (fv t) (rv y) [] with
  | inl e =>
    have hk := b2 hm1 e hA
    simp only []
    obtain ⟨k1, k2, k3, k4⟩ := e
    rw [eqbF_kind hk, Bool.not_false, bifT, eqbF_self, bifT, w38]; rfl
  | inr z =>
    simp only []
    rw [eqbF_self, Bool.not_true, bifF, hsub2, sbind]
    obtain ⟨q1, q2, q3, q4⟩ := march_ok (a := 129) (j := 2) (by have := qw_fv hT (by decide); omega) (QR_rv hZ1 (by decide)) (QR_mono (QR_rv hY (by decide)) (by decide)) (by rw [rv_len]; have := hmay.2.1; rw [rv_len] at this; exact this) hA
    have q1' : qw z.2.1 ≤ 200 := by
      have : (0 + (rv (l.take m)).length) * (2 + 1) ≤ 3 * 3 := Nat.mul_le_mul (by rw [rv_len]; simp; omega) (by omega)
      omega
    have q2' : QR 200 z.2.2 := QR_mono q2 (by decide)
    have hdim := hmay.1.1.1
    obtain ⟨d1, d2⟩ := m_march_Fixed_eq (a := 200) (j := 2) (k := 2000) (t := toF z.2.1) (y := toR z.2.2) (hs := l.drop m) hn (by decide) (by decide) (by decide) (by decide) hw (Fk_toF q1') (FR_toR q2') (by rw [toR_len]; have := hdim.1.2; omega) hZ2
    rw [fv_toF, rv_toR] at d1 d2
    have hm2 : mayQ q z.2.2 (rv (l.drop m)) := ⟨hmay.1, q3, fun h hh => hmay.2.2.1 h (by rw [happ]; exact List.mem_append_right _ hh), by rw [rv_len]; simp; omega⟩
    rw [if_pos hm2] at d1
    rw [d1, sbind]
    have hlm : (rv (l.take m)).length = m := by rw [rv_len]; simp; omega
    have hsh := march_shift (p := q) (m := m) (hs := rv (l.drop m)) (i := 0) (T := z.2.1) (Y := z.2.2) (tr := []) (tr' := z.1)
    rw [List.append_nil] at hsh
    simp only [hlm, hsh]
    cases hD : marchQ q (rv (l.drop m)) 0 z.2.1 z.2.2 [] with
    | inl e =>
      have hk := d2 hm2 e hD
      obtain ⟨g1, g2⟩ := march_step hD
      rw [rv_len, List.length_drop] at g2
      obtain ⟨k1, k2, k3, k4⟩ := e
      simp only [] at g1 g2 ⊢
      rw [eqbF_kind hk, Bool.not_false, bifT, sbind, w64 (by omega) (by omega), eqbF_self, bifT, w38]; rfl
    | inr w =>
      simp only []
      obtain ⟨r1, r2, r3, r4⟩ := march_ok (a := 200) (j := 2) (by omega) (QR_rv hZ2 (by decide)) (QR_mono q2' (by decide)) q3 hD
      have r1' : qw w.2.1 ≤ 300 := by
        have : (0 + (rv (l.drop m)).length) * (2 + 1) ≤ 3 * 3 := Nat.mul_le_mul (by rw [rv_len]; simp; omega) (by omega)
        omega
      rw [eqbF_self, Bool.not_true, bifF, bifT, m_frac_Same_eq (k := 300) hn (by decide) (by decide) (Fk_toF r1') (Fk_toF r1'), sbind, decide_eq_true rfl, bifT, m_row_Same_eq (k := 300) hn (by decide) (by decide) (FR_toR (QR_mono r2 (by decide))) (FR_toR (QR_mono r2 (by decide))), sbind, decide_eq_true rfl, bifT, sbind]
      have hl1 : (z.1.map toTry).length = z.1.length := by simp
      have hl2 : (w.1.map toTry).length = w.1.length := by simp
      have hl3 : ((z.1 ++ w.1).map toTry).length = z.1.length + w.1.length := by simp
      have hl4 : z.1.length ≤ 3 := by rw [q4]; simp only [List.length_nil]; omega
      have hl5 : w.1.length ≤ 3 := by rw [r4, rv_len, List.length_drop]; simp only [List.length_nil]; omega
      rw [hl1, hl2, hl3, w64 (by omega) (by omega), decide_eq_true (by omega), bifT, w38]; rfl
end Go.Proofs.YtcmhibdigkdjiaaGreatDoor
