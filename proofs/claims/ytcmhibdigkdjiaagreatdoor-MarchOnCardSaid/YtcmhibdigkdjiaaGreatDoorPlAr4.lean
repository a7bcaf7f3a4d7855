import Derived.Test.YtcmhibdigkdjiaaGreatDoorPlAr3
namespace Go.Proofs.YtcmhibdigkdjiaaGreatDoor
open Go Go.RowKit
/-! ### Long division -/
theorem gs_stop {q r x0 x1 x2 x3 x4 : Nat} (h1 : q * x3 + r = x0 * 4294967296 + x1) (h2 : q * x4 ≤ r * 4294967296 + x2) : q * (x3 * 4294967296 + x4) ≤ (x0 * 4294967296 + x1) * 4294967296 + x2 := by
  rw [← h1]; grind
theorem gs_next {q r x0 x1 x2 x3 x4 : Nat} (h1 : (q + 1) * x3 + r = x0 * 4294967296 + x1) (h2 : r * 4294967296 + x2 < (q + 1) * x4) : (x0 * 4294967296 + x1) * 4294967296 + x2 < (q + 1) * (x3 * 4294967296 + x4) := by
  rw [← h1]; grind
theorem gs_down {q r x3 : Nat} {U : Nat} (h1 : (q + 1) * x3 + r = U) : q * x3 + (r + x3) = U := by rw [← h1]; grind
theorem gs_over {q r x0 x1 x2 x3 x4 : Nat} (h1 : q * x3 + r = x0 * 4294967296 + x1) (hr : 4294967296 ≤ r) (hq : q < 4294967296) (h4 : x4 < 4294967296) : q * (x3 * 4294967296 + x4) ≤ (x0 * 4294967296 + x1) * 4294967296 + x2 := by
  have e1 : q * x4 ≤ 4294967295 * 4294967295 := Nat.mul_le_mul (by omega) (by omega)
  exact gs_stop h1 (by omega)
theorem gs_aux {X u w x2 : Nat} (h : X < u) (h2 : x2 < 4294967296) : X * 4294967296 + x2 < u * 4294967296 + w := by omega
theorem gs_max {q x0 x1 x2 x3 x4 : Nat} (h : x0 * 4294967296 + x1 < (q + 1) * x3) (h2 : x2 < 4294967296) : (x0 * 4294967296 + x1) * 4294967296 + x2 < (q + 1) * (x3 * 4294967296 + x4) := by
  have e2 : (q + 1) * (x3 * 4294967296 + x4) = ((q + 1) * x3) * 4294967296 + (q + 1) * x4 := by rw [Nat.mul_add, Nat.mul_assoc]
  rw [e2]
  exact gs_aux h h2
theorem guess_loop {n q0 r0 x0 x1 x2 x3 x4 : Nat} (hn : big ≤ n) (h2 : x2 < 4294967296) (h3 : x3 < 4294967296) (h4 : x4 < 4294967296) (hq : q0 < 4294967296) (hr : r0 < 4294967296)
    (he : q0 * x3 + r0 = x0 * 4294967296 + x1) (hm : q0 + 1 = 4294967296 ∨ (x0 * 4294967296 + x1) * 4294967296 + x2 < (q0 + 1) * (x3 * 4294967296 + x4)) :
    ∃ q, (loopM (fun (s34 : Nat × Nat) =>
      (m_limb_Mul s34.1 x4 0 0).bind fun r35 =>
      jn (fun (j37 : (Bool) → Option _) =>
        bif decide (r35.1 < s34.2) then (
          j37 true)
        else (
          bif decide (r35.1 = s34.2) then (
            j37 (decide (r35.2 ≤ x2)))
          else (
            j37 false))) (fun (s39 : Bool) =>
        bif s39 then (
          some (Lp.out s34.1))
        else (
          (m_limb_Add s34.2 x3 0).bind fun r40 =>
          bif decide (0 < r40.2) then (
            some (Lp.out ((s34.1 + 4294967296 - 1) % 4294967296)))
          else (
            some (Lp.go (((s34.1 + 4294967296 - 1) % 4294967296), r40.1)))))) n (q0, r0)).bind (fun (t32 : Nat) => some t32) = some q ∧
      (q < 4294967296 ∧ q * (x3 * 4294967296 + x4) ≤ (x0 * 4294967296 + x1) * 4294967296 + x2 ∧ (q + 1 = 4294967296 ∨ (x0 * 4294967296 + x1) * 4294967296 + x2 < (q + 1) * (x3 * 4294967296 + x4))) := by
  unfold big at hn
  refine loop_bindE (fun s => s.1) (fun s => s.1 < 4294967296 ∧ s.2 < 4294967296 ∧ s.1 * x3 + s.2 = x0 * 4294967296 + x1 ∧ (s.1 + 1 = 4294967296 ∨ (x0 * 4294967296 + x1) * 4294967296 + x2 < (s.1 + 1) * (x3 * 4294967296 + x4)))
    (fun q => q < 4294967296 ∧ q * (x3 * 4294967296 + x4) ≤ (x0 * 4294967296 + x1) * 4294967296 + x2 ∧ (q + 1 = 4294967296 ∨ (x0 * 4294967296 + x1) * 4294967296 + x2 < (q + 1) * (x3 * 4294967296 + x4))) ⟨hq, hr, he, hm⟩ (by simp only []; omega) ?_ (fun t ht => ⟨t, rfl, ht⟩)
  rintro ⟨q, r⟩ ⟨g1, g2, g3, g4⟩
  simp only at g1 g2 g3 g4
  simp only [jn_eq, bifd]
  rw [m_limb_Mul_eq g1 h4 (by omega) (by omega), sbind]
  simp only [Nat.add_zero]
  have key : (bif decide (q * x4 ≤ r * 4294967296 + x2) then some (Lp.out q) else
      (m_limb_Add r x3 0).bind fun r40 => if 0 < r40.2 then some (Lp.out ((q + 4294967296 - 1) % 4294967296)) else some (Lp.go ((q + 4294967296 - 1) % 4294967296, r40.1)) : Option (Lp (Nat × Nat) Nat)) =
     (if q * x4 / 4294967296 < r then bif true then some (Lp.out q) else
        (m_limb_Add r x3 0).bind fun r40 => if 0 < r40.2 then some (Lp.out ((q + 4294967296 - 1) % 4294967296)) else some (Lp.go ((q + 4294967296 - 1) % 4294967296, r40.1))
      else if q * x4 / 4294967296 = r then if q * x4 % 4294967296 ≤ x2 then some (Lp.out q) else
        (m_limb_Add r x3 0).bind fun r40 => if 0 < r40.2 then some (Lp.out ((q + 4294967296 - 1) % 4294967296)) else some (Lp.go ((q + 4294967296 - 1) % 4294967296, r40.1))
      else bif false then some (Lp.out q) else
        (m_limb_Add r x3 0).bind fun r40 => if 0 < r40.2 then some (Lp.out ((q + 4294967296 - 1) % 4294967296)) else some (Lp.go ((q + 4294967296 - 1) % 4294967296, r40.1))) := by
    have hd := Nat.div_add_mod (q * x4) 4294967296
    have hm := Nat.mod_lt (q * x4) (show 4294967296 > 0 by decide)
    by_cases c1 : q * x4 / 4294967296 < r
    · rw [if_pos c1, decide_eq_true (by omega)]
    · rw [if_neg c1]
      by_cases c2 : q * x4 / 4294967296 = r
      · rw [if_pos c2, ← bifd]; congr 1; exact decide_eq_decide.2 (by omega)
      · rw [if_neg c2, decide_eq_false (by omega)]
  rw [← key, bifd]
  by_cases hs : q * x4 ≤ r * 4294967296 + x2
  · right
    rw [if_pos hs]
    exact ⟨q, rfl, g1, gs_stop g3 hs, g4⟩
  · rw [if_neg hs, m_limb_Add_eq g2 h3 (by omega), sbind]
    obtain ⟨q', rfl⟩ : ∃ q', q = q' + 1 := ⟨q - 1, by
      have : q ≠ 0 := by rintro rfl; simp at hs
      omega⟩
    have hq' : (q' + 1 + 4294967296 - 1) % 4294967296 = q' := by omega
    have hnx := gs_next (x2 := x2) (x4 := x4) g3 (by omega)
    have hdn := gs_down g3
    simp only [Nat.add_zero]
    rw [hq']
    by_cases ho : 0 < (r + x3) / 4294967296
    · right
      rw [if_pos ho]
      exact ⟨q', rfl, by omega, gs_over hdn (by omega) (by omega) h4, .inr hnx⟩
    · left
      rw [if_neg ho]
      refine ⟨_, rfl, ⟨by simp only []; omega, by simp only []; omega, ?_, .inr hnx⟩, by simp only []; omega⟩
      simp only []
      rw [Nat.mod_eq_of_lt (by omega)]; exact hdn
theorem m_quot_guess_eq {n x0 x1 x2 x3 x4 : Nat} (hn : big ≤ n) (h0 : x0 ≤ x3) (h1 : x1 < 4294967296) (h2 : x2 < 4294967296) (h3 : x3 < 4294967296) (h4 : x4 < 4294967296) (hz : x3 ≠ 0) :
    ∃ q, m_quot_guess n x0 x1 x2 x3 x4 = some q ∧ (q < 4294967296 ∧ q * (x3 * 4294967296 + x4) ≤ (x0 * 4294967296 + x1) * 4294967296 + x2 ∧ (q + 1 = 4294967296 ∨ (x0 * 4294967296 + x1) * 4294967296 + x2 < (q + 1) * (x3 * 4294967296 + x4))) := by
  unfold m_quot_guess
  by_cases hlt : x0 < x3
  · rw [m_limb_Div_eq hlt h1 h3, sbind]
    have hq : (x0 * 4294967296 + x1) / x3 < 4294967296 := Nat.div_lt_of_lt_mul (by
      have : x0 * 4294967296 + 4294967296 ≤ x3 * 4294967296 := by omega
      omega)
    have hr : (x0 * 4294967296 + x1) % x3 < x3 := Nat.mod_lt _ (by omega)
    exact guess_loop hn h2 h3 h4 hq (Nat.lt_trans hr h3) (by rw [Nat.mul_comm]; exact Nat.div_add_mod _ _) (.inr (gs_max ((Nat.div_lt_iff_lt_mul (by omega)).1 (Nat.lt_succ_self _)) h2))
  · obtain rfl : x0 = x3 := by omega
    rw [show m_limb_Div x0 x1 x0 = some (0, 0, false) by unfold m_limb_Div; rw [bifd, if_pos (by omega)], sbind]
    rw [jn_eq]
    simp only [Bool.not_false, bifT]
    rw [m_limb_Add_eq h1 h3 (by omega), sbind, jn_eq, bifd, if_neg (by omega)]
    simp only [Nat.add_zero]
    rw [bifd]
    have he : 4294967295 * x0 + (x1 + x0) = x0 * 4294967296 + x1 := by omega
    by_cases ho : 0 < (x1 + x0) / 4294967296
    · rw [if_pos ho]
      exact ⟨_, rfl, by omega, gs_over he (by omega) (by omega) h4, .inl rfl⟩
    · rw [if_neg ho, Nat.mod_eq_of_lt (by omega)]
      exact guess_loop hn h2 h3 h4 (by omega) (by omega) he (.inl rfl)
theorem take_step (P M c b d lo hi b' q y u V W : Nat) (e1 : 4294967296 * hi + lo = q * y + c) (e2 : d + lo + b = u + 4294967296 * b') (h : W + q * V = M + P * (c + b)) : W + P * d + q * (V + P * y) = M + P * u + P * 4294967296 * (hi + b') := by
  have e3 : P * d + P * lo + P * b = P * u + P * 4294967296 * b' := by rw [← Nat.mul_add, ← Nat.mul_add, e2]; grind
  have e4 : P * 4294967296 * hi + P * lo = P * (q * y) + P * c := by rw [← Nat.mul_add, ← e1]; grind
  grind
theorem m_quot_take_eq {p m q' v : List Nat} {z q : Nat} (hm : m.length = v.length) (hp : p.length + m.length + 1 + q'.length ≤ 4611686018427387904) (hwm : Wd m) (hwv : Wd v) (hz : z < 4294967296) (hq : q < 4294967296) :
    ∃ r b, m_quot_take (p ++ m ++ z :: q') (p.length : Int) v q = some (decide (0 < b), p ++ r ++ q') ∧ r.length = v.length + 1 ∧ Wd r ∧ b ≤ 1 ∧ val r + q * val v = val (m ++ [z]) + bp (v.length + 1) * b := by
  have key : ∃ R, m_quot_take (p ++ m ++ z :: q') (p.length : Int) v q = some R ∧ ∃ r b, R = (decide (0 < b), p ++ r ++ q') ∧ r.length = v.length + 1 ∧ Wd r ∧ b ≤ 1 ∧ val r + q * val v = val (m ++ [z]) + bp (v.length + 1) * b := by
    unfold m_quot_take
    refine range_bindE (fun j (s : List Nat × Nat × Nat) => ∃ m1, s.1 = p ++ m1 ++ (m.drop j ++ z :: q') ∧ m1.length = j ∧ j ≤ v.length ∧ Wd m1 ∧ s.2.1 < 4294967296 ∧ s.2.2 ≤ 1 ∧ val m1 + q * val (v.take j) = val (m.take j) + bp j * (s.2.1 + s.2.2)) ⟨[], by simp, rfl, Nat.zero_le _, Wd_nil, by simp, by simp, by simp [val]⟩ ?_ ?_
    · rintro j y ⟨o, c, b⟩ hj ⟨m1, h1, h2, h3, h4, h5, h6, h7⟩
      simp only at h1 h5 h6 h7
      subst h1
      have hjv : j < v.length := lt_of_getq hj
      have hy : v[j] = y := by simpa [hjv] using hj
      have hyw : y < 4294967296 := by rw [← hy]; exact Wd_get hwv hjv
      have hmj : j < m.length := by omega
      have hmw := Wd_get hwm hmj
      have hlen : (p ++ m1).length = p.length + j := by simp; omega
      have hmul := mul_word hq hyw h5 (show 0 < 4294967296 by omega)
      obtain ⟨d, b', g1, g2, g3, g4⟩ := m_limb_Sub_eq (x := m[j]) (y := (q * y + c + 0) % 4294967296) (c := b) hmw (by omega) h6
      rw [m_limb_Mul_eq hq hyw h5 (by omega), sbind, w64 (by omega) (by omega), show ((p.length : Int) + (j : Int)) = ((p.length + j : Nat) : Int) by omega, List.drop_eq_getElem_cons hmj, List.cons_append]
      simp only []
      rw [get_mid' hlen, sbind, g1, sbind, sbind, set_mid' hlen]
      refine ⟨_, rfl, m1 ++ [d], by simp, by simp [h2], by omega, Wd_append.2 ⟨h4, Wd_cons.2 ⟨g2, Wd_nil⟩⟩, by simp only []; omega, g3, ?_⟩
      simp only []
      rw [val_take_succ, take_succ_get hmj, val_snoc, val_snoc, h2, bp_succ, show v.getD j 0 = y by rw [← hy]; simp [hjv], List.length_take, Nat.min_eq_left (by omega)]
      exact take_step _ _ _ _ _ _ _ _ _ _ _ _ _ (Nat.div_add_mod (q * y + c) 4294967296) g4 h7
    · rintro ⟨o, c, b⟩ ⟨m1, h1, h2, h3, h4, h5, h6, h7⟩
      simp only at h1 h5 h6 h7
      subst h1
      simp only [lpK_go]
      have hlen : (p ++ m1).length = p.length + v.length := by simp; omega
      obtain ⟨d, b', g1, g2, g3, g4⟩ := m_limb_Sub_eq (x := z) (y := c) (c := b) hz h5 h6
      rw [w64 (by omega) (by omega), show ((p.length : Int) + (v.length : Int)) = ((p.length + v.length : Nat) : Int) by omega, List.drop_of_length_le (by omega), List.nil_append, get_mid' hlen, sbind, g1, sbind, sbind, set_mid' hlen]
      refine ⟨_, rfl, m1 ++ [d], b', by simp, by simp [h2], Wd_append.2 ⟨h4, Wd_cons.2 ⟨g2, Wd_nil⟩⟩, g3, ?_⟩
      rw [List.take_of_length_le (Nat.le_refl _), List.take_of_length_le (by omega)] at h7
      rw [val_snoc, val_snoc, h2, hm, bp_succ]
      have := take_step (bp v.length) (val m) c b d c 0 b' q 0 z (val v) (val m1) (by omega) g4 h7
      simpa using this
  obtain ⟨R, h1, r, b, h2, h3⟩ := key
  exact ⟨r, b, by rw [h1, h2], h3⟩
theorem give_step (P M c d c' y u V W : Nat) (e1 : 4294967296 * c' + d = u + y + c) (h : W + P * c = M + V) : W + P * d + P * 4294967296 * c' = M + P * u + (V + P * y) := by grind
theorem m_quot_give_eq {p m q' v : List Nat} {z : Nat} (hm : m.length = v.length) (hp : p.length + m.length + 1 + q'.length ≤ 4611686018427387904) (hwm : Wd m) (hwv : Wd v) (hz : z < 4294967296) :
    ∃ r b, m_quot_give (p ++ m ++ z :: q') (p.length : Int) v = some (p ++ r ++ q') ∧ r.length = v.length + 1 ∧ Wd r ∧ b ≤ 1 ∧ val r + bp (v.length + 1) * b = val (m ++ [z]) + val v := by
  have key : ∃ R, m_quot_give (p ++ m ++ z :: q') (p.length : Int) v = some R ∧ ∃ r b, R = p ++ r ++ q' ∧ r.length = v.length + 1 ∧ Wd r ∧ b ≤ 1 ∧ val r + bp (v.length + 1) * b = val (m ++ [z]) + val v := by
    unfold m_quot_give
    refine range_bindE (fun j (s : List Nat × Nat) => ∃ m1, s.1 = p ++ m1 ++ (m.drop j ++ z :: q') ∧ m1.length = j ∧ j ≤ v.length ∧ Wd m1 ∧ s.2 ≤ 1 ∧ val m1 + bp j * s.2 = val (m.take j) + val (v.take j)) ⟨[], by simp, rfl, Nat.zero_le _, Wd_nil, by simp, by simp [val]⟩ ?_ ?_
    · rintro j y ⟨o, c⟩ hj ⟨m1, h1, h2, h3, h4, h6, h7⟩
      simp only at h1 h6 h7
      subst h1
      have hjv : j < v.length := lt_of_getq hj
      have hy : v[j] = y := by simpa [hjv] using hj
      have hyw : y < 4294967296 := by rw [← hy]; exact Wd_get hwv hjv
      have hmj : j < m.length := by omega
      have hmw := Wd_get hwm hmj
      have hlen : (p ++ m1).length = p.length + j := by simp; omega
      rw [w64 (by omega) (by omega), show ((p.length : Int) + (j : Int)) = ((p.length + j : Nat) : Int) by omega, List.drop_eq_getElem_cons hmj, List.cons_append]
      rw [get_mid' hlen, sbind, m_limb_Add_eq hmw hyw (by simp only []; omega), sbind, sbind, set_mid' hlen]
      refine ⟨_, rfl, m1 ++ [(m[j] + y + c) % 4294967296], by simp, by simp [h2], by omega, Wd_append.2 ⟨h4, Wd_cons.2 ⟨by omega, Wd_nil⟩⟩, by simp only []; omega, ?_⟩
      simp only []
      rw [val_take_succ, val_take_succ, val_snoc, h2, bp_succ, show v.getD j 0 = y by rw [← hy]; simp [hjv], show m.getD j 0 = m[j] by simp [hmj]]
      exact give_step _ _ _ _ _ _ _ _ _ (Nat.div_add_mod (m[j] + y + c) 4294967296) h7
    · rintro ⟨o, c⟩ ⟨m1, h1, h2, h3, h4, h6, h7⟩
      simp only at h1 h6 h7
      subst h1
      simp only [lpK_go]
      have hlen : (p ++ m1).length = p.length + v.length := by simp; omega
      rw [w64 (by omega) (by omega), show ((p.length : Int) + (v.length : Int)) = ((p.length + v.length : Nat) : Int) by omega, List.drop_of_length_le (by omega), List.nil_append, get_mid' hlen, sbind, sbind, set_mid' hlen, sbind]
      refine ⟨_, rfl, m1 ++ [(z + c) % 4294967296], (z + c) / 4294967296, by simp, by simp [h2], Wd_append.2 ⟨h4, Wd_cons.2 ⟨by omega, Wd_nil⟩⟩, by omega, ?_⟩
      rw [List.take_of_length_le (Nat.le_refl _), List.take_of_length_le (by omega)] at h7
      rw [val_snoc, val_snoc, h2, hm, bp_succ]
      have := give_step (bp v.length) (val m) c ((z + c) % 4294967296) ((z + c) / 4294967296) 0 z (val v) (val m1) (by omega) h7
      simpa using this
  obtain ⟨R, h1, r, b, h2, h3⟩ := key
  exact ⟨r, b, by rw [h1, h2], h3⟩
end Go.Proofs.YtcmhibdigkdjiaaGreatDoor
