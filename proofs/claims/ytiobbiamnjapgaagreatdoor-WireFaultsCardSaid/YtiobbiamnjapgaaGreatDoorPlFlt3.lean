import Derived.Test.YtiobbiamnjapgaaGreatDoorPlFlt2
namespace Go.Proofs.YtiobbiamnjapgaaGreatDoor
open Go Go.RowKit
theorem m_ref48_Kinds_eq : m_retrospectref48_Kinds = some kndsL := by unfold m_retrospectref48_Kinds; rw [sbind]; rfl
def gK (a : List UInt8) : Nat → Int
  | 0 => -1
  | k + 1 => if a = kndsL.getD k [] then (k : Int) else gK a k
theorem gK_knd {i : Nat} (hi : i < 9) : gK (kndsL.getD i []) 9 = i := by
  have e : ∀ i, i < 9 → gK (kndsL.getD i []) 9 = i := by decide
  exact e i hi
theorem gK_get (a : List UInt8) : ∀ k, k ≤ 9 → gK a k = -1 ∨ ∃ i, i < k ∧ gK a k = (i : Int) ∧ a = kndsL.getD i []
  | 0, _ => .inl rfl
  | k + 1, h => by
    unfold gK
    by_cases g : a = kndsL.getD k []
    · rw [if_pos g]; exact .inr ⟨k, by omega, rfl, g⟩
    · rw [if_neg g]
      rcases gK_get a k (by omega) with h1 | ⟨i, h1, h2, h3⟩
      · exact .inl h1
      · exact .inr ⟨i, by omega, h2, h3⟩
theorem kndsL_get {k : Nat} (h : k < 9) : getI kndsL (k : Int) = some (kndsL.getD k []) := by
  rw [getI_cast, List.getD_eq_getElem?_getD]
  have : k < kndsL.length := h
  rw [List.getElem?_eq_getElem this]; rfl
theorem knd_loop {R : Type} {n : Nat} {s a : List UInt8} {y : List Int} {p : Nat} {K : M_A4_i64 → Option R} (hn : big ≤ n) (hy : getI y (0 : Int) = some (p : Int)) (hp : sub s (0 : Int) (p : Int) = some a) :
    (loopM (τ := M_A4_i64) (fun (s83 : M_A4_i64 × Int) =>
      bif decide (s83.2 < (9 : Int)) then (
        jn (fun (j92 : (M_A4_i64) → Option _) =>
          (getI y (0 : Int)).bind fun y95 =>
          (sub s (0 : Int) y95).bind fun y97 =>
          (m_retrospectref48_Kinds ).bind fun r99 =>
          (getI r99 s83.2).bind fun y101 =>
          bif decide (y97 = y101) then (
            j92 (⟨s83.2, s83.1.a1, s83.1.a2, s83.1.a3⟩ : M_A4_i64))
          else (
            j92 s83.1)) (fun (s94 : M_A4_i64) =>
          some (Lp.go (s94, wrap64 (s83.2 + (1 : Int))))))
      else (
        some (Lp.out s83.1))) n ((⟨(-1 : Int), (0 : Int), (0 : Int), (0 : Int)⟩ : M_A4_i64), (0 : Int))).bind K = K ⟨gK a 9, 0, 0, 0⟩ := by
  rw [loop_acc (fun i => ((⟨gK a i, 0, 0, 0⟩ : M_A4_i64), (i : Int))) 9 (⟨gK a 9, 0, 0, 0⟩ : M_A4_i64)]
  · intro i hi
    simp only [bifd, jn_eq]
    rw [if_pos (by omega), hy, sbind, hp, sbind, m_ref48_Kinds_eq, sbind, kndsL_get hi, sbind, w1 (by omega)]
    by_cases h : a = kndsL.getD i []
    · rw [if_pos h]; simp only [gK, if_pos h]
    · rw [if_neg h]; simp only [gK, if_neg h]
  · rfl
  · unfold big at hn; omega
  · rfl
def setA (A : M_A4_i64) (i : Nat) (x : Int) : M_A4_i64 := ofl_A4_i64 (List.set [A.a0, A.a1, A.a2, A.a3] (i + 1) x)
theorem num_step {n : Nat} {s w : List UInt8} {y : List Int} {A : M_A4_i64} {i lo : Nat} {hi : Int} (hn : big ≤ n) (hi3 : i < 3) (h1 : getI y (i : Int) = some (lo : Int)) (h2 : getI y ((i + 1 : Nat) : Int) = some hi) (hs : sub s ((lo + 1 : Nat) : Int) hi = some w) (hw : w.length ≤ 1000) (hlo : lo ≤ 1000000)
    (f : M_A4_i64 × Int → Option (Lp (M_A4_i64 × Int) (Lp M_A4_i64 (M_A4_i64 × Bool)))) (hf : f = (fun (s221 : M_A4_i64 × Int) =>
      bif decide (s221.2 < (3 : Int)) then (
        (getI y s221.2).bind fun y222 =>
        (getI y (wrap64 (s221.2 + (1 : Int)))).bind fun y224 =>
        (sub s (wrap64 (y222 + (1 : Int))) y224).bind fun y226 =>
        bif decide ((8 : Int) < (y226.length : Int)) then (
          some (Lp.out (Lp.out (((⟨0, 0, 0, 0⟩ : M_A4_i64), false)))))
        else (
          (m_retrospectref08_Read n y226).bind fun r228 =>
          jn (fun (j232 : (Bool) → Option _) =>
            bif decide ((0 : Int) ≤ r228.2) then (
              j232 true)
            else (
              (m_retrospectref08_Text n r228.1).bind fun r235 =>
              j232 (!decide (r235 = y226)))) (fun (s234 : Bool) =>
            bif s234 then (
              some (Lp.out (Lp.out (((⟨0, 0, 0, 0⟩ : M_A4_i64), false)))))
            else (
              (loopM (fun (s253 : Int × Int) =>
                bif decide (s253.2 < (y226.length : Int)) then (
                  jn (fun (j259 : (Int) → Option _) =>
                    (getS y226 s253.2).bind fun y262 =>
                    bif !decide (y262 = 45) then (
                      (getS y226 s253.2).bind fun y264 =>
                      (some (wrap64 ((wrap64 ((wrap64 ((10 : Int) * s253.1)) + (y264 : Int))) - (48 : Int)))).bind fun z266 =>
                      j259 z266)
                    else (
                      j259 s253.1)) (fun (s261 : Int) =>
                    some (Lp.go (s261, wrap64 (s253.2 + (1 : Int))))))
                else (
                  some (Lp.out s253.1))) n ((0 : Int), (0 : Int))).bind fun (t251 : Int) =>
              bif decide ((1000000 : Int) < t251) then (
                some (Lp.out (Lp.out (((⟨0, 0, 0, 0⟩ : M_A4_i64), false)))))
              else (
                jn (fun (j267 : (Int) → Option _) =>
                  bif r228.1.Neg then (
                    j267 (wrap64 (-t251)))
                  else (
                    j267 t251)) (fun (s269 : Int) =>
                  (getI ([s221.1.a0, s221.1.a1, s221.1.a2, s221.1.a3] : List Int) (wrap64 (s221.2 + (1 : Int)))).bind fun y270 =>
                  some (Lp.go ((ofl_A4_i64 (List.set ([s221.1.a0, s221.1.a1, s221.1.a2, s221.1.a3] : List Int) (Int.toNat (wrap64 (s221.2 + (1 : Int)))) s269)), wrap64 (s221.2 + (1 : Int))))))))))
      else (
        some (Lp.out (Lp.go s221.1))))) :
    (∀ x, mil x → w = Lib.itoa x → f (A, (i : Int)) = some (Lp.go (setA A i x, ((i + 1 : Nat) : Int)))) ∧ ((¬ ∃ x, mil x ∧ w = Lib.itoa x) → f (A, (i : Int)) = some (Lp.out (Lp.out (⟨0, 0, 0, 0⟩, false)))) := by
  have e : getI [A.a0, A.a1, A.a2, A.a3] ((i + 1 : Nat) : Int) ≠ none := by
    match i, hi3 with
    | 0, _ => intro h; cases h
    | 1, _ => intro h; cases h
    | 2, _ => intro h; cases h
  obtain ⟨z, hz⟩ := Option.ne_none_iff_exists'.1 e
  obtain ⟨md, e1, e2, e3⟩ := ref_word (R := Lp (M_A4_i64 × Int) (Lp M_A4_i64 (M_A4_i64 × Bool))) (n := n) (w := w) (bad := Lp.out (Lp.out (⟨0, 0, 0, 0⟩, false))) (K := fun s269 => (getI ([A.a0, A.a1, A.a2, A.a3] : List Int) (wrap64 ((i : Int) + (1 : Int)))).bind fun _ => some (Lp.go ((ofl_A4_i64 (List.set ([A.a0, A.a1, A.a2, A.a3] : List Int) (Int.toNat (wrap64 ((i : Int) + (1 : Int)))) s269)), wrap64 ((i : Int) + (1 : Int))))) hn hw
  have key : ∀ x, ((getI ([A.a0, A.a1, A.a2, A.a3] : List Int) (wrap64 ((i : Int) + (1 : Int)))).bind fun _ => some (Lp.go (τ := Lp M_A4_i64 (M_A4_i64 × Bool)) ((ofl_A4_i64 (List.set ([A.a0, A.a1, A.a2, A.a3] : List Int) (Int.toNat (wrap64 ((i : Int) + (1 : Int)))) x)), wrap64 ((i : Int) + (1 : Int))))) = some (Lp.go (setA A i x, ((i + 1 : Nat) : Int))) := by
    intro x
    rw [w1 (by omega), hz, sbind, Int.toNat_natCast]; rfl
  have hb : f (A, (i : Int)) = md → (∀ x, mil x → w = Lib.itoa x → f (A, (i : Int)) = some (Lp.go (setA A i x, ((i + 1 : Nat) : Int)))) ∧ ((¬ ∃ x, mil x ∧ w = Lib.itoa x) → f (A, (i : Int)) = some (Lp.out (Lp.out (⟨0, 0, 0, 0⟩, false)))) := by
    intro hg
    rw [hg]
    exact ⟨fun x hx hwx => (e2 x hx hwx).trans (key x), e3⟩
  refine hb ?_
  rw [hf]
  simp only []
  rw [decide_eq_true (show (i : Int) < 3 by omega), bifT, h1, sbind, w1 (i := i) (by omega), h2, sbind, w1 (i := lo) (by omega), hs, sbind]
  rw [w1 (i := i) (by omega)] at e1
  exact e1
/-- Four pieces, and where they lie. -/
theorem sub_at {s p w r : List UInt8} {i : Nat} (h : s = p ++ (w ++ r)) (hi : p.length = i) : sub s (i : Int) ((i + w.length : Nat) : Int) = some w := by
  rw [sub_mid (by omega) (by rw [h]; simp; omega), h, ← hi, List.drop_take, List.drop_left]
  congr 1
  rw [Nat.add_sub_cancel_left, List.take_left']
  rfl
theorem m_ref48_Unfault_eq {n : Nat} {s : List UInt8} (hn : big ≤ n) (hs : s.length ≤ 1000) : ∃ f ok, m_retrospectref48_Unfault n s = some (f, ok) ∧ (ok = true → fitsF ⟨f.a0, f.a1, f.a2, f.a3⟩ ∧ s = faultS ⟨f.a0, f.a1, f.a2, f.a3⟩) ∧ (ok = false → f = ⟨0, 0, 0, 0⟩) ∧
    ∀ g, fitsF g → s = faultS g → ok = true := by
  unfold m_retrospectref48_Unfault
  rw [cuts_loop hn (by omega)]
  have hno : ∀ g, fitsF g → s = faultS g → ∃ p q r, posC 32 0 s = [p, q, r] := by
    rintro g _ rfl
    unfold faultS
    exact ⟨_, _, _, by rw [posC_app (knd_no32 _) (by decide), posC_app (itoa_no32 _) (by decide), posC_app (itoa_no32 _) (by decide), posC_free (itoa_no32 _)]⟩
  by_cases h3 : (((posC 32 0 s).map fun p : Nat => (p : Int)).length : Int) = 3
  · rw [decide_eq_true h3]
    simp only [Bool.not_true, bifF]
    have hl3 : (posC 32 0 s).length = 3 := by rw [List.length_map] at h3; omega
    match hp : posC 32 0 s, hl3 with
    | [p, q, r], _ =>
      obtain ⟨w0, x0, t0, d0, c0, f0, rfl, hq⟩ := posC_cut hp
      obtain ⟨w1', x1, t1, d1, c1, f1, rfl, hr⟩ := posC_cut hq.symm
      obtain ⟨w2', x2, w3, d2, c2, f2, rfl, hz⟩ := posC_cut hr.symm
      have f3 := posC_nil hz.symm
      have e32 : (32 : UInt8).toNat = 32 := by decide
      obtain rfl : x0 = 32 := UInt8.toNat_inj.1 c0
      obtain rfl : x1 = 32 := UInt8.toNat_inj.1 c1
      obtain rfl : x2 = 32 := UInt8.toNat_inj.1 c2
      subst d2; subst d1
      clear hp hq hr hz h3 hl3
      have hlen := congrArg List.length d0
      simp only [List.length_append, List.length_cons] at hlen
      simp only [List.map_cons, List.map_nil]
      rw [appM_ok (by simp) (by simp), sbind]
      simp only [List.cons_append, List.nil_append]
      have s0 : sub s (0 : Int) ((0 + w0.length : Nat) : Int) = some w0 := by
        have := sub_at (s := s) (p := []) (w := w0) (r := 32 :: (w1' ++ 32 :: (w2' ++ 32 :: w3))) (i := 0) (by rw [d0]; simp) rfl
        exact this
      have s1 : sub s ((0 + w0.length + 1 : Nat) : Int) ((0 + w0.length + 1 + w1'.length : Nat) : Int) = some w1' :=
        sub_at (p := w0 ++ [32]) (w := w1') (r := 32 :: (w2' ++ 32 :: w3)) (by rw [d0]; simp) (by simp)
      have s2 : sub s ((0 + w0.length + 1 + w1'.length + 1 : Nat) : Int) ((0 + w0.length + 1 + w1'.length + 1 + w2'.length : Nat) : Int) = some w2' :=
        sub_at (p := w0 ++ 32 :: (w1' ++ [32])) (w := w2') (r := 32 :: w3) (by rw [d0]; simp) (by simp; omega)
      have s3 : sub s ((0 + w0.length + 1 + w1'.length + 1 + w2'.length + 1 : Nat) : Int) (s.length : Int) = some w3 := by
        have := sub_at (s := s) (p := w0 ++ 32 :: (w1' ++ 32 :: (w2' ++ [32]))) (w := w3) (r := []) (i := 0 + w0.length + 1 + w1'.length + 1 + w2'.length + 1) (by rw [d0]; simp) (by simp; omega)
        rw [show 0 + w0.length + 1 + w1'.length + 1 + w2'.length + 1 + w3.length = s.length by omega] at this
        exact this
      rw [knd_loop hn (p := 0 + w0.length) (a := w0) rfl s0]
      have hfit : ∀ g, fitsF g → s = faultS g → w0 = kndW g.Kind ∧ w1' = Lib.itoa g.Step ∧ w2' = Lib.itoa g.Stage ∧ w3 = Lib.itoa g.At := by
        intro g _ h
        have h1 : splitC 32 s = [w0, w1', w2', w3] := by
          rw [d0, splitC_app f0 (by decide), splitC_app f1 (by decide), splitC_app f2 (by decide), splitC_free f3]
        rw [h, splitC_fault] at h1
        simp only [List.cons.injEq, and_true] at h1
        exact ⟨h1.1.symm, h1.2.1.symm, h1.2.2.1.symm, h1.2.2.2.symm⟩
      have c1 := num_step (A := ⟨gK w0 9, 0, 0, 0⟩) (i := 0) (y := [((0 + w0.length : Nat) : Int), ((0 + w0.length + 1 + w1'.length : Nat) : Int), ((0 + w0.length + 1 + w1'.length + 1 + w2'.length : Nat) : Int), (s.length : Int)]) hn (by decide) rfl rfl s1 (by omega) (by omega) _ rfl
      have c2 := fun x => num_step (A := ⟨gK w0 9, x, 0, 0⟩) (i := 1) (y := [((0 + w0.length : Nat) : Int), ((0 + w0.length + 1 + w1'.length : Nat) : Int), ((0 + w0.length + 1 + w1'.length + 1 + w2'.length : Nat) : Int), (s.length : Int)]) hn (by decide) rfl rfl s2 (by omega) (by omega) _ rfl
      have c3 := fun x z => num_step (A := ⟨gK w0 9, x, z, 0⟩) (i := 2) (y := [((0 + w0.length : Nat) : Int), ((0 + w0.length + 1 + w1'.length : Nat) : Int), ((0 + w0.length + 1 + w1'.length + 1 + w2'.length : Nat) : Int), (s.length : Int)]) hn (by decide) rfl rfl s3 (by omega) (by omega) _ rfl
      have hbig : 4 < n := by unfold big at hn; omega
      obtain ⟨m, rfl⟩ : ∃ m, n = m + 4 := ⟨n - 4, by omega⟩
      have bad : ∀ {F : M_A4_i64 × Bool}, F = (⟨0, 0, 0, 0⟩, false) → (∀ g, fitsF g → ¬ s = faultS g) → ∃ f ok, some F = some (f, ok) ∧ (ok = true → fitsF ⟨f.a0, f.a1, f.a2, f.a3⟩ ∧ s = faultS ⟨f.a0, f.a1, f.a2, f.a3⟩) ∧ (ok = false → f = ⟨0, 0, 0, 0⟩) ∧ ∀ g, fitsF g → s = faultS g → ok = true := by
        rintro F rfl h
        exact ⟨_, _, rfl, (fun h => by cases h), fun _ => rfl, fun g hf hg => absurd hg (h g hf)⟩
      by_cases v1 : ∃ x, mil x ∧ w1' = Lib.itoa x
      · obtain ⟨x1, m1, k1⟩ := v1
        rw [loop_go (c1.1 x1 m1 k1)]
        by_cases v2 : ∃ x, mil x ∧ w2' = Lib.itoa x
        · obtain ⟨x2, m2, k2⟩ := v2
          rw [show setA ⟨gK w0 9, 0, 0, 0⟩ 0 x1 = ⟨gK w0 9, x1, 0, 0⟩ from rfl, loop_go ((c2 x1).1 x2 m2 k2)]
          by_cases v3 : ∃ x, mil x ∧ w3 = Lib.itoa x
          · obtain ⟨x3, m3, k3⟩ := v3
            rw [show setA ⟨gK w0 9, x1, 0, 0⟩ 1 x2 = ⟨gK w0 9, x1, x2, 0⟩ from rfl, loop_go ((c3 x1 x2).1 x3 m3 k3), show setA ⟨gK w0 9, x1, x2, 0⟩ 2 x3 = ⟨gK w0 9, x1, x2, x3⟩ from rfl,
              loop_out (t := Lp.go ⟨gK w0 9, x1, x2, x3⟩) (by simp only []; rw [decide_eq_false (by decide), bifF]) (by omega), sbind, lpK_go]
            simp only [bifd]
            rcases gK_get w0 9 (Nat.le_refl _) with hg | ⟨i, i9, hg, ia⟩
            · rw [hg, if_pos (by decide)]
              refine bad rfl fun g hf h => ?_
              obtain ⟨h0, _⟩ := hfit g hf h
              have hk9 : g.Kind.toNat < 9 := by have := hf.1; have := hf.2.1; omega
              have ek : kndW g.Kind = kndsL.getD g.Kind.toNat [] := by unfold kndW; rw [kndI_eq hf.1 hf.2.1]
              rw [h0, ek, gK_knd hk9] at hg
              omega
            · rw [hg, if_neg (by omega)]
              refine ⟨_, _, rfl, fun _ => ⟨⟨by show (0 : Int) ≤ (i : Int); omega, by show (i : Int) ≤ 8; omega, m1, m2, m3⟩, ?_⟩, (fun h => by cases h), fun _ _ _ => rfl⟩
              rw [d0]
              unfold faultS
              simp only [kndW_of i9, ← ia, ← k1, ← k2, ← k3]
          · rw [show setA ⟨gK w0 9, x1, 0, 0⟩ 1 x2 = ⟨gK w0 9, x1, x2, 0⟩ from rfl, loop_out ((c3 x1 x2).2 v3) (by omega), sbind, lpK_out]
            exact bad rfl fun g hf h => v3 ⟨_, hf.2.2.2.2, (hfit g hf h).2.2.2⟩
        · rw [show setA ⟨gK w0 9, 0, 0, 0⟩ 0 x1 = ⟨gK w0 9, x1, 0, 0⟩ from rfl, loop_out ((c2 x1).2 v2) (by omega), sbind, lpK_out]
          exact bad rfl fun g hf h => v2 ⟨_, hf.2.2.2.1, (hfit g hf h).2.2.1⟩
      · rw [loop_out (c1.2 v1) (by omega), sbind, lpK_out]
        exact bad rfl fun g hf h => v1 ⟨_, hf.2.2.1, (hfit g hf h).2.1⟩
  · rw [decide_eq_false h3]
    simp only [Bool.not_false, bifT]
    refine ⟨_, _, rfl, (fun h => by cases h), fun _ => rfl, fun g hf h => ?_⟩
    obtain ⟨p, q, r, hp⟩ := hno g hf h
    rw [hp] at h3
    exact absurd rfl h3
theorem kndW_a0 (k : Int) : kndW k = kndsL.getD (if 0 < k ∧ k ≤ 8 then k.toNat else 0) [] := by
  unfold kndW kndI
  by_cases h : 0 < k ∧ k < 9
  · rw [if_pos h, if_pos ⟨h.1, by omega⟩]
  · rw [if_neg h, if_neg fun g => h ⟨g.1, by omega⟩]
theorem m_ref48_Fault_eq {n : Nat} {x : M_A4_i64} (hn : big ≤ n) (h1 : b64 x.a1) (h2 : b64 x.a2) (h3 : b64 x.a3) : m_retrospectref48_Fault n x = some (faultS ⟨x.a0, x.a1, x.a2, x.a3⟩) := by
  have l1 := itoa_len h1; have l2 := itoa_len h2; have l3 := itoa_len h3; have l0 := kndW_len x.a0
  unfold m_retrospectref48_Fault
  have key : ∀ k : Nat, k < 9 → kndsL.getD k [] = kndW x.a0 → ((m_retrospectref48_Kinds ).bind fun r10 =>
    (getI r10 (k : Int)).bind fun y12 =>
    (catS y12 ([32] : List UInt8)).bind fun y14 =>
    (m_retrospectref20_Int n x.a1).bind fun r16 =>
    (catS y14 r16).bind fun y18 =>
    (catS y18 ([32] : List UInt8)).bind fun y20 =>
    (m_retrospectref20_Int n x.a2).bind fun r22 =>
    (catS y20 r22).bind fun y24 =>
    (catS y24 ([32] : List UInt8)).bind fun y26 =>
    (m_retrospectref20_Int n x.a3).bind fun r28 =>
    (catS y26 r28).bind fun y30 =>
    some y30) = some (faultS ⟨x.a0, x.a1, x.a2, x.a3⟩) := by
    intro k hk he
    rw [m_ref48_Kinds_eq, sbind, kndsL_get hk, sbind, he, catS_ok (by simp; omega), sbind, m_ref20_Int_eq hn h1, sbind, catS_ok (by simp; omega), sbind, catS_ok (by simp; omega), sbind, m_ref20_Int_eq hn h2, sbind, catS_ok (by simp; omega), sbind, catS_ok (by simp; omega), sbind, m_ref20_Int_eq hn h3, sbind, catS_ok (by simp; omega), sbind]
    unfold faultS; simp
  have e := kndW_a0 x.a0
  simp only [jn_eq, bifd]
  by_cases g0 : 0 < x.a0
  · rw [if_pos g0]
    by_cases g1 : x.a0 ≤ 8
    · rw [if_pos g1]
      rw [if_pos ⟨g0, g1⟩] at e
      have := key x.a0.toNat (by omega) e.symm
      rw [Int.toNat_of_nonneg (by omega)] at this
      exact this
    · rw [if_neg g1]
      rw [if_neg fun g => g1 g.2] at e
      exact key 0 (by decide) e.symm
  · rw [if_neg g0, bifF]
    rw [if_neg fun g => g0 g.1] at e
    exact key 0 (by decide) e.symm
theorem law_WireFaults (x : M_A4_i64) (s : List UInt8) (hx : B_A4_i64 x) : ∃ n, m_retrospectlaw48_WireFaults n x s = some true := by
  refine ⟨big, ?_⟩
  have hn : big ≤ big := Nat.le_refl _
  unfold m_retrospectlaw48_WireFaults
  rw [bifd]
  by_cases h : 200 < (s.length : Int)
  · rw [if_pos h, m_law48_works_eq hn, sbind]
  have hb1 : b64 x.a1 := hx.2.1
  have hb2 : b64 x.a2 := hx.2.2.1
  have hb3 : b64 x.a3 := hx.2.2.2.1
  obtain ⟨f, ok, e1, e2, e3, e4⟩ := m_wire_Unfault_eq (s := s) (by omega)
  obtain ⟨g, ok', g1, g2, g3, g4⟩ := m_ref48_Unfault_eq (s := s) hn (by omega)
  have hok : ok = ok' := by
    cases ok with
    | true => exact (g4 f (e2 rfl).1 (e2 rfl).2).symm
    | false =>
      cases ok' with
      | false => rfl
      | true => exact (e4 _ (g2 rfl).1 (g2 rfl).2).2
  have hfg : f = ⟨g.a0, g.a1, g.a2, g.a3⟩ := by
    cases ok' with
    | true => exact (e4 _ (g2 rfl).1 (g2 rfl).2).1
    | false => rw [e3 hok, g3 rfl]
  rw [if_neg h, e1, sbind, g1, sbind, jn_eq, m_wire_Fault_eq hb1 hb2 hb3, sbind, m_ref48_Fault_eq hn hb1 hb2 hb3, sbind, decide_eq_true rfl, bifT]
  simp only []
  rw [eqb_true hfg, bifT, hok, show (ok' == ok') = true by simp, bifT, m_law48_works_eq hn, sbind, sbind, sbind]
end Go.Proofs.YtiobbiamnjapgaaGreatDoor
