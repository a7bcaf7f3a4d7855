import Derived.Test.YtcmhibdigkdjiaaGreatDoorPlAr4
namespace Go.Proofs.YtcmhibdigkdjiaaGreatDoor
open Go Go.RowKit
/-! ### Long division: the loop -/
theorem kn_a {P vl V2 ul U3 q qh : Nat} (h1 : ul < P) (hq : q < 4294967296) (hU : q * (vl + P * V2) ≤ ul + P * U3) (hm : qh + 1 = 4294967296 ∨ U3 < (qh + 1) * V2) : q ≤ qh := by
  rcases hm with hm | hm
  · omega
  · have e1 : P * (q * V2) ≤ q * (vl + P * V2) := by rw [Nat.mul_add, Nat.mul_left_comm]; exact Nat.le_add_left _ _
    have e2 : P * (q * V2) < P * (U3 + 1) := by rw [Nat.mul_add, Nat.mul_one]; omega
    have e3 : q * V2 < U3 + 1 := Nat.lt_of_mul_lt_mul_left e2
    have e4 : q * V2 < (qh + 1) * V2 := by omega
    exact Nat.le_of_lt_succ (Nat.lt_of_mul_lt_mul_right e4)
theorem kn_b {P vl V2 ul U3 qh : Nat} (h1 : vl < P) (hq : qh < 4294967296) (h2 : 4294967296 ≤ V2) (hm : qh * V2 ≤ U3) : qh * (vl + P * V2) ≤ (ul + P * U3) + (vl + P * V2) := by
  have e1 : qh * (vl + P * V2) = qh * vl + P * (qh * V2) := by rw [Nat.mul_add, Nat.mul_left_comm]
  have e2 : P * (qh * V2) ≤ P * U3 := Nat.mul_le_mul_left _ hm
  have e3 : qh * vl ≤ V2 * P := Nat.mul_le_mul (by omega) (by omega)
  rw [e1]
  rw [Nat.mul_comm V2 P] at e3
  omega
theorem kn_z {P vl v3 v4 ul z x1 x2 : Nat} (h1 : vl < P) (h4 : v4 < 4294967296) (hU : ul + P * ((z * 4294967296 + x1) * 4294967296 + x2) < 4294967296 * (vl + P * (v3 * 4294967296 + v4))) : z ≤ v3 := by
  have e1 : P * (z * 4294967296 * 4294967296) ≤ P * ((z * 4294967296 + x1) * 4294967296 + x2) := Nat.mul_le_mul_left _ (by omega)
  have e2 : vl + P * (v3 * 4294967296 + v4) < P * ((v3 + 1) * 4294967296) := by
    have : P * (v3 * 4294967296 + v4 + 1) ≤ P * ((v3 + 1) * 4294967296) := Nat.mul_le_mul_left _ (by omega)
    rw [Nat.mul_add _ _ 1, Nat.mul_one] at this
    omega
  have e3 : P * (z * 4294967296 * 4294967296) < P * ((v3 + 1) * 4294967296 * 4294967296) := by
    have a1 : P * ((v3 + 1) * 4294967296 * 4294967296) = P * ((v3 + 1) * 4294967296) * 4294967296 := (Nat.mul_assoc _ _ _).symm
    omega
  have e4 := Nat.lt_of_mul_lt_mul_left e3
  omega
theorem dm_of {U V q r : Nat} (h : r + q * V = U) (hr : r < V) : U / V = q ∧ U % V = r := by
  subst h
  rw [Nat.add_mul_div_right _ _ (by omega), Nat.div_eq_of_lt hr, Nat.add_mul_mod_self_right, Nat.mod_eq_of_lt hr]; omega
theorem last2 {l : List Nat} {m : Nat} (h : l.length = m + 2) : ∃ l' a b, l = l' ++ [a, b] ∧ l'.length = m := by
  refine ⟨l.take m, l[m], l[m + 1], ?_, by simp; omega⟩
  have h1 := take_succ_get (a := l) (k := m) (by omega)
  have h2 := take_succ_get (a := l) (k := m + 1) (by omega)
  rw [List.take_of_length_le (by omega)] at h2
  refine h2.trans ?_
  rw [h1, List.append_assoc]; rfl
theorem long_fin (p y w qs V U j : Nat) (q r : Nat) (hU : U = y + 4294967296 * w) (h : r + q * V = U) : (p + j * y) + j * 4294967296 * (w + V * qs) = p + j * (r + V * (q + 4294967296 * qs)) := by grind
/-- One round: what guess, take and give make of a window. -/
theorem long_round {n : Nat} {p w rest v : List Nat} {z : Nat} (hn : big ≤ n) {vl wl : List Nat} {v3 v4 x1 x2 : Nat} (hv : v = vl ++ [v4, v3]) (hw : w = wl ++ [x2, x1]) (hl : wl.length = vl.length)
    (hwv : Wd v) (hww : Wd w) (hz : z < 4294967296) (h3 : v3 ≠ 0) (hp : p.length + w.length + 1 + rest.length ≤ 4611686018427387904) (hU : val (w ++ [z]) < 4294967296 * val v) :
    ∃ r qh, m_quot_guess n z x1 x2 v3 v4 = some qh ∧ r.length = v.length + 1 ∧ Wd r ∧ val r = val (w ++ [z]) % val v ∧ val (w ++ [z]) / val v < 4294967296 ∧
      ((m_quot_take (p ++ w ++ z :: rest) (p.length : Int) v qh = some (false, p ++ r ++ rest) ∧ qh = val (w ++ [z]) / val v) ∨
       (∃ r1, m_quot_take (p ++ w ++ z :: rest) (p.length : Int) v qh = some (true, r1) ∧ m_quot_give r1 (p.length : Int) v = some (p ++ r ++ rest) ∧ (qh + 4294967296 - 1) % 4294967296 = val (w ++ [z]) / val v)) := by
  have hwl : w.length = v.length := by rw [hv, hw]; simp [hl]
  have w1 : Wd vl ∧ v4 < 4294967296 ∧ v3 < 4294967296 := by rw [hv] at hwv; exact ⟨(Wd_append.1 hwv).1, (Wd_cons.1 (Wd_append.1 hwv).2).1, (Wd_cons.1 (Wd_cons.1 (Wd_append.1 hwv).2).2).1⟩
  have w2 : Wd wl ∧ x2 < 4294967296 ∧ x1 < 4294967296 := by rw [hw] at hww; exact ⟨(Wd_append.1 hww).1, (Wd_cons.1 (Wd_append.1 hww).2).1, (Wd_cons.1 (Wd_cons.1 (Wd_append.1 hww).2).2).1⟩
  obtain ⟨w1, w3, w4⟩ := w1
  obtain ⟨w2, w5, w6⟩ := w2
  have hV : val v = val vl + bp vl.length * (v3 * 4294967296 + v4) := by rw [hv, val_append]; simp only [val]; congr 2; omega
  have hW : val (w ++ [z]) = val wl + bp vl.length * ((z * 4294967296 + x1) * 4294967296 + x2) := by rw [hw, List.append_assoc, val_append, hl]; simp only [List.cons_append, List.nil_append, val]; congr 2; omega
  have l1 := val_lt w1
  have l2 := val_lt w2
  rw [hl] at l2
  have hz3 : z ≤ v3 := by rw [hV, hW] at hU; exact kn_z l1 w3 hU
  obtain ⟨qh, g1, g2, g3, g4⟩ := m_quot_guess_eq hn hz3 w6 w5 w4 w3 h3
  have hVp : 0 < val v := by
    rcases Nat.eq_zero_or_pos (val v) with h | h
    · rw [h] at hU; omega
    · exact h
  have hqB : val (w ++ [z]) / val v < 4294967296 := (Nat.div_lt_iff_lt_mul hVp).2 hU
  have hqa : val (w ++ [z]) / val v ≤ qh := by
    have := Nat.div_mul_le_self (val (w ++ [z])) (val v)
    exact kn_a (vl := val vl) l2 hqB (by rw [← hV, ← hW]; exact this) g4
  have hqb : qh * val v ≤ val (w ++ [z]) + val v := by
    rw [hV, hW]; exact kn_b l1 g2 (by omega) g3
  have hUq : val (w ++ [z]) < (qh + 1) * val v := Nat.lt_of_lt_of_le ((Nat.div_lt_iff_lt_mul hVp).1 (Nat.lt_succ_self _)) (Nat.mul_le_mul_right _ (by omega))
  obtain ⟨r, b, t1, t2, t3, t4, t5⟩ := m_quot_take_eq (p := p) (m := w) (q' := rest) (v := v) (z := z) (q := qh) hwl hp hww hwv hz g2
  rw [Nat.add_mul, Nat.one_mul] at hUq
  have hvb := val_lt hwv
  have hbb : bp v.length ≤ bp (v.length + 1) := bp_le (by omega)
  by_cases hb : b = 0
  · subst hb
    rw [Nat.mul_zero, Nat.add_zero] at t5
    obtain ⟨d1, d2⟩ := dm_of t5 (by omega)
    exact ⟨r, qh, g1, t2, t3, d2.symm, hqB, .inl ⟨t1, d1.symm⟩⟩
  · obtain rfl : b = 1 := by omega
    rw [Nat.mul_one] at t5
    have hr := val_lt t3
    rw [t2] at hr
    obtain ⟨r0, rz, e1⟩ : ∃ r0 rz, r = r0 ++ [rz] := by
      rcases List.eq_nil_or_concat r with h | ⟨r0, rz, h⟩
      · rw [h] at t2; simp at t2
      · exact ⟨r0, rz, by rw [h, List.concat_eq_append]⟩
    have e2 : r0.length = v.length := by rw [e1] at t2; simpa using t2
    have e3 : Wd r0 ∧ rz < 4294967296 := by rw [e1] at t3; exact ⟨(Wd_append.1 t3).1, (Wd_cons.1 (Wd_append.1 t3).2).1⟩
    obtain ⟨r', b2, u1, u2, u3, u4, u5⟩ := m_quot_give_eq (p := p) (m := r0) (q' := rest) (v := v) (z := rz) e2 (by omega) e3.1 hwv e3.2
    have hr' := val_lt u3
    rw [u2] at hr'
    rw [← e1] at u5
    obtain ⟨qq, rfl⟩ : ∃ qq, qh = qq + 1 := ⟨qh - 1, by
      have : qh ≠ 0 := by rintro rfl; omega
      omega⟩
    rw [Nat.add_mul, Nat.one_mul] at *
    have hb2 : b2 = 1 := by
      rcases Nat.eq_zero_or_pos b2 with h | h
      · subst h; rw [Nat.mul_zero] at u5; omega
      · omega
    subst hb2
    rw [Nat.mul_one] at u5
    obtain ⟨d1, d2⟩ := dm_of (U := val (w ++ [z])) (V := val v) (q := qq) (r := val r') (by omega) (by omega)
    refine ⟨r', qq + 1, g1, u2, u3, d2.symm, hqB, .inr ⟨p ++ r ++ rest, t1, ?_, by rw [d1]; omega⟩⟩
    rw [e1, show p ++ (r0 ++ [rz]) ++ rest = p ++ r0 ++ rz :: rest by simp]; exact u1
theorem m_quot_long_eq {n : Nat} {u v vl : List Nat} {v3 v4 : Nat} (hn : big ≤ n) (hv : v = vl ++ [v4, v3]) (h3 : v3 ≠ 0) (hwu : Wd u) (hwv : Wd v) (hu : u.length < 35184372088832) (hl : v.length ≤ u.length) (ht : val (u.drop (u.length - v.length)) < val v) :
    ∃ r, m_quot_long n u v = some r ∧ (r.1.length = u.length - v.length ∧ Wd r.1 ∧ r.2.length = u.length ∧ Wd r.2 ∧ val u = val v * val r.1 + val r.2 ∧ val r.2 < val v) := by
  unfold m_quot_long
  have hn' := hn
  unfold big at hn'
  have hvl : v.length = vl.length + 2 := by rw [hv]; simp
  rw [w64 (x := (u.length : Int) - (v.length : Int)) (by omega) (by omega), show (u.length : Int) - (v.length : Int) = ((u.length - v.length : Nat) : Int) by omega, mkM_ok (by omega) (by omega), sbind]
  refine loop_bindE (fun s => (s.2.2 + 1).toNat) (fun s => ∃ (k : Nat) (p w qs : List Nat), s.2.2 = (k : Int) - 1 ∧ k ≤ u.length - v.length ∧ s.1 = p ++ w ∧ p.length = k ∧ w.length = u.length - k ∧ Wd p ∧ Wd w ∧ val w < val v ∧ s.2.1 = List.replicate k 0 ++ qs ∧ qs.length = u.length - v.length - k ∧ Wd qs ∧ val u = val p + bp k * (val w + val v * val qs))
    (fun t => t.2.length = u.length - v.length ∧ Wd t.2 ∧ t.1.length = u.length ∧ Wd t.1 ∧ val u = val v * val t.2 + val t.1 ∧ val t.1 < val v) ⟨u.length - v.length, u.take (u.length - v.length), u.drop (u.length - v.length), [], ?_, Nat.le_refl _, by simp only [List.take_append_drop], by simp, by simp, Wd_take hwu, Wd_drop hwu, ht, by simp only [List.append_nil], by simp, Wd_nil, ?_⟩ ?_ ?_ (fun t ht => ⟨_, rfl, ht⟩)
  · simp only []; rw [List.length_replicate, w64 (by omega) (by omega)]
  · simp only [val, Nat.mul_zero, Nat.add_zero]
    conv => lhs; rw [← List.take_append_drop (u.length - v.length) u]
    rw [val_append, List.length_take, Nat.min_eq_left (by omega)]
  · simp only []; rw [List.length_replicate, w64 (by omega) (by omega)]; omega
  · rintro ⟨uu, qq, i⟩ ⟨k, p, w, qs, i1, i2, i3, i4, i5, i6, i7, i8, i9, i10, i11, i12⟩
    simp only at i1 i3 i9
    subst i1 i3 i9
    simp only [jn_eq, bifd]
    by_cases h0 : 0 < k
    · left
      obtain ⟨j, rfl⟩ : ∃ j, k = j + 1 := ⟨k - 1, by omega⟩
      obtain ⟨p1, y, e1⟩ : ∃ p1 y, p = p1 ++ [y] := by
        rcases List.eq_nil_or_concat p with h | ⟨p1, y, h⟩
        · rw [h] at i4; simp at i4
        · exact ⟨p1, y, by rw [h, List.concat_eq_append]⟩
      subst e1
      have e2 : p1.length = j := by simpa using i4
      have e3 : Wd p1 ∧ y < 4294967296 := ⟨(Wd_append.1 i6).1, (Wd_cons.1 (Wd_append.1 i6).2).1⟩
      have e4 : Wd (y :: w) := Wd_cons.2 ⟨e3.2, i7⟩
      have e5 : v.length < (y :: w).length := by simp; omega
      have e6 : y :: w = (y :: w).take v.length ++ (y :: w)[v.length] :: (y :: w).drop (v.length + 1) := split_mid e5
      have e7 : val ((y :: w).drop (v.length + 1)) = 0 := by
        rw [List.drop_succ_cons, ← val_dropd i7]
        exact Nat.div_eq_of_lt (Nat.lt_trans i8 (val_lt hwv))
      have e8 : val ((y :: w).take v.length ++ [(y :: w)[v.length]]) = y + 4294967296 * val w := by
        have := congrArg val e6
        rw [show ∀ (a b : List Nat) (x : Nat), a ++ x :: b = (a ++ [x]) ++ b by intro a b x; simp, val_append, e7, Nat.mul_zero, Nat.add_zero] at this
        rw [← this]; rfl
      have w1 : Wd ((y :: w).take v.length) := Wd_take e4
      have w2 : (y :: w)[v.length] < 4294967296 := Wd_get e4 e5
      have w3 : Wd ((y :: w).drop (v.length + 1)) := Wd_drop e4
      have w4 : ((y :: w).take v.length).length = v.length := by rw [List.length_take, Nat.min_eq_left (by omega)]
      have w5 : ((y :: w).drop (v.length + 1)).length = u.length - j - (v.length + 1) := by rw [List.length_drop, List.length_cons]; omega
      rw [show p1 ++ [y] ++ w = p1 ++ (y :: w) by simp, e6]
      generalize (y :: w).take v.length = W at *
      generalize (y :: w)[v.length] = z at *
      generalize (y :: w).drop (v.length + 1) = R at *
      obtain ⟨wl, x2, x1, f1, f2⟩ := last2 (l := W) (m := vl.length) (by omega)
      obtain ⟨r, qh, g1, g2, g3, g4, g5, g6⟩ := long_round (p := p1) (w := W) (rest := R) (v := v) (z := z) hn hv f1 f2 hwv w1 w2 h3 (by rw [w4, w5]; omega) (by rw [e8]; omega)
      rw [if_pos (by omega), show ((j + 1 : Nat) : Int) - 1 = (j : Int) by omega]
      rw [w64 (x := (j : Int) + (v.length : Int)) (by omega) (by omega), show (j : Int) + (v.length : Int) = ((j + vl.length + 2 : Nat) : Int) by omega]
      rw [w64 (x := ((j + vl.length + 2 : Nat) : Int) - 1) (by omega) (by omega), w64 (x := ((j + vl.length + 2 : Nat) : Int) - 2) (by omega) (by omega), show ((j + vl.length + 2 : Nat) : Int) - 1 = ((j + vl.length + 1 : Nat) : Int) by omega, show ((j + vl.length + 2 : Nat) : Int) - 2 = ((j + vl.length : Nat) : Int) by omega]
      rw [w64 (x := (v.length : Int) - 1) (by omega) (by omega), w64 (x := (v.length : Int) - 2) (by omega) (by omega), show (v.length : Int) - 1 = ((vl.length + 1 : Nat) : Int) by omega, show (v.length : Int) - 2 = ((vl.length : Nat) : Int) by omega]
      have a1 : getI (p1 ++ (W ++ z :: R)) ((j + vl.length + 2 : Nat) : Int) = some z := by
        rw [← List.append_assoc]; exact get_mid' (by rw [List.length_append, w4]; omega)
      have a2 : getI (p1 ++ (W ++ z :: R)) ((j + vl.length + 1 : Nat) : Int) = some x1 := by
        rw [f1, show p1 ++ (wl ++ [x2, x1] ++ z :: R) = (p1 ++ wl ++ [x2]) ++ x1 :: (z :: R) by simp]; exact get_mid' (by simp; omega)
      have a3 : getI (p1 ++ (W ++ z :: R)) ((j + vl.length : Nat) : Int) = some x2 := by
        rw [f1, show p1 ++ (wl ++ [x2, x1] ++ z :: R) = (p1 ++ wl) ++ x2 :: (x1 :: z :: R) by simp]; exact get_mid' (by simp; omega)
      have a4 : getI v ((vl.length + 1 : Nat) : Int) = some v3 := by
        rw [hv, show vl ++ [v4, v3] = (vl ++ [v4]) ++ v3 :: [] by simp]; exact get_mid' (by simp)
      have a5 : getI v ((vl.length : Nat) : Int) = some v4 := by
        rw [hv]; exact get_mid' rfl
      rw [a1, sbind, a2, sbind, a3, sbind, a4, sbind, a5, sbind, g1, sbind]
      have a6 : ∀ (q' : Nat), getI (List.replicate (j + 1) 0 ++ qs) (j : Int) = some 0 ∧ (List.replicate (j + 1) 0 ++ qs).set (Int.toNat (j : Int)) q' = List.replicate j 0 ++ q' :: qs := fun q' => by
        rw [List.replicate_succ', List.append_assoc, List.singleton_append]; exact ⟨get_mid' (by simp), set_mid' (by simp)⟩
      rw [e2, List.append_assoc] at g6
      have hfin : ∀ q', q' = val (W ++ [z]) / val v → ∃ s', (some (Lp.go (p1 ++ r ++ R, List.replicate j 0 ++ q' :: qs, wrap64 ((j : Int) - 1))) : Option (Lp (List Nat × List Nat × Int) (List Nat × List Nat))) = some (Lp.go s') ∧ (∃ (k : Nat) (p w qs : List Nat), s'.2.2 = (k : Int) - 1 ∧ k ≤ u.length - v.length ∧ s'.1 = p ++ w ∧ p.length = k ∧ w.length = u.length - k ∧ Wd p ∧ Wd w ∧ val w < val v ∧ s'.2.1 = List.replicate k 0 ++ qs ∧ qs.length = u.length - v.length - k ∧ Wd qs ∧ val u = val p + bp k * (val w + val v * val qs)) ∧ (s'.2.2 + 1).toNat < ((j : Int) + 1).toNat := by
        intro q' hq'
        have hVp : 0 < val v := by omega
        rw [w64 (by omega) (by omega)]
        refine ⟨_, rfl, ⟨j, p1, r ++ R, q' :: qs, rfl, by omega, by rw [List.append_assoc], e2, by rw [List.length_append, g2, w5]; omega, e3.1, Wd_append.2 ⟨g3, w3⟩, ?_, rfl, by rw [List.length_cons]; omega, Wd_cons.2 ⟨by omega, i11⟩, ?_⟩, by simp only []; omega⟩
        · rw [val_append, e7, Nat.mul_zero, Nat.add_zero, g4]; exact Nat.mod_lt _ hVp
        · rw [i12, val_snoc, e2, bp_succ, val_append, e7, Nat.mul_zero, Nat.add_zero]
          simp only [val]
          refine long_fin _ _ _ _ _ _ _ _ _ e8 ?_
          rw [g4, hq', Nat.mul_comm]; exact Nat.mod_add_div _ _
      rcases g6 with ⟨t1, t2⟩ | ⟨r1, t1, t2, t3⟩
      · rw [t1, sbind]
        simp only [bifF]
        rw [(a6 qh).1, sbind, (a6 qh).2]
        exact hfin _ t2
      · rw [t1, sbind]
        simp only [bifT]
        rw [t2, sbind, (a6 ((qh + 4294967296 - 1) % 4294967296)).1, sbind, (a6 _).2]
        exact hfin _ t3
    · right
      obtain rfl : k = 0 := by omega
      obtain rfl : p = [] := List.eq_nil_of_length_eq_zero i4
      rw [if_neg (by omega)]
      refine ⟨_, rfl, by simp only [List.replicate_zero, List.nil_append]; omega, by simpa using i11, by simp only [List.nil_append]; omega, by simpa using i7, ?_, by simpa using i8⟩
      rw [i12, bp_zero]; simp [val]; omega
end Go.Proofs.YtcmhibdigkdjiaaGreatDoor
