import Derived.Test.YtiobbiamnjapgaaGreatDoorPlWire2
namespace Go.Proofs.YtiobbiamnjapgaaGreatDoor
open Go Go.RowKit
theorem itW_bind {σ τ R : Type} {s : List UInt8} {f : σ → Option (Lp σ (Lp τ R))} {K : τ → Option R} (mk : List M_wire_Piece → Nat → σ) (bad : Nat → R) (done : List M_wire_Piece → τ)
    (h1 : ∀ out a p a', a < s.length → out.length ≤ a → stepW s.length a (s.drop a) = .inl (p, a') → f (mk out a) = some (.go (mk (out ++ [p]) a')))
    (h2 : ∀ out a x, a < s.length → out.length ≤ a → stepW s.length a (s.drop a) = .inr x → f (mk out a) = some (.out (.out (bad x))))
    (h3 : ∀ out, f (mk out s.length) = some (.out (.go (done out)))) : ∀ (m a : Nat) (out : List M_wire_Piece) (n : Nat) (s0 : σ), a ≤ s.length → out.length ≤ a → s.length - a < m → m ≤ n → s0 = mk out a →
    (loopM f n s0).bind (lpK K) = match itW s m a out with
      | .inl l => K (done l)
      | .inr x => some (bad x)
  | 0, _, _, _, _, _, _, h, _, _ => absurd h (Nat.not_lt_zero _)
  | m + 1, a, out, n, s0, ha, ho, hm, hn, h0 => by
    obtain ⟨k, rfl⟩ : ∃ k, n = k + 1 := ⟨n - 1, by omega⟩
    subst h0
    unfold itW
    by_cases hl : a < s.length
    · rw [if_pos hl]
      cases hst : stepW s.length a (s.drop a) with
      | inr x => simp only []; rw [loop_out (h2 out a x hl ho hst) (by omega), Option.bind_some, lpK_out]
      | inl q =>
        obtain ⟨p, a'⟩ := q
        obtain ⟨_, _, _, _, g4, g5, g6⟩ := stepW_inl hst
        rw [List.length_drop] at g5
        simp only []
        rw [loop_go (h1 out a p a' hl ho hst)]
        exact itW_bind mk bad done h1 h2 h3 m a' (out ++ [p]) k _ (by omega) (by simp; omega) (by omega) (by omega) rfl
    · rw [if_neg hl]
      obtain rfl : a = s.length := by omega
      simp only []
      rw [loop_out (h3 out) (by omega), Option.bind_some, lpK_go]
open Classical in
/-- What a text is taken apart to: the pieces, the kind of the fault, its place. -/
noncomputable def unpW (s : List UInt8) : List M_wire_Piece × Int × Nat := match itW s (s.length + 1) 0 [] with
  | .inl l => if MayP l then (l, 0, 0) else ([], 2, 0)
  | .inr x => ([], 1, x)
theorem eqb_kind {k x : Int} (h : k ≠ 0) : eqb_api_Fault (⟨k, 0, 0, x⟩ : M_api_Fault) ⟨0, 0, 0, 0⟩ = false := by simp [eqb_api_Fault, h]
open Classical in
theorem m_wire_Unpack_eq {n : Nat} {s : List UInt8} (hn : big ≤ n) (hs : s.length ≤ 1000000) : m_wire_Unpack n s = some ((unpW s).1, ⟨(unpW s).2.1, 0, 0, (unpW s).2.2⟩) := by
  unfold m_wire_Unpack
  rw [itW_bind (s := s) (fun out a => (out, (⟨s, (a : Int)⟩ : M_wire_reader))) (fun x => ([], ⟨1, 0, 0, (x : Int)⟩)) (fun l => l) ?_ ?_ ?_ (s.length + 1) 0 [] n ([], (⟨s, 0⟩ : M_wire_reader)) (by omega) (by simp) (by omega) (by unfold big at hn; omega) rfl]
  · unfold unpW
    cases hi : itW s (s.length + 1) 0 [] with
    | inr x => rfl
    | inl l =>
      obtain ⟨g1, g2⟩ := itW_spec _ _ _ _ hi (by omega) rfl (fun _ h => by cases h)
      simp only []
      rw [m_wire_may_eq hn (fun p hp => by have := wd2_len (g2 p hp).1; omega), sbind]
      by_cases h : MayP l
      · rw [if_pos h, decide_eq_true h]; rfl
      · rw [if_neg h, decide_eq_false h]; rfl
  · intro out a p a' hl ho hst
    obtain ⟨rd, e1, e2⟩ := m_piece_eq hn hs (Nat.le_of_lt hl)
    rw [hst] at e1
    rw [e2 p a' hst] at e1
    simp only [encW] at e1
    simp only [bifd]
    rw [if_pos (by omega), e1, sbind]
    simp only [eqb_self, Bool.not_true, bifF]
    rw [appM_ok (by simp; omega) (by simp; omega), sbind]
  · intro out a x hl _ hst
    obtain ⟨rd, e1, e2⟩ := m_piece_eq hn hs (Nat.le_of_lt hl)
    rw [hst] at e1
    simp only [encW] at e1
    simp only [bifd]
    rw [if_pos (by omega), e1, sbind]
    simp only [eqb_kind (show (1 : Int) ≠ 0 by decide), Bool.not_false, bifT]
  · intro out
    simp only [bifd]
    rw [if_neg (by omega)]
/-! the document's way -/
theorem m_ref48_find_eq {n : Nat} {s : List UInt8} {a c : Nat} (hn : big ≤ n) (ha : a ≤ s.length) (hs : s.length ≤ 1000000) : m_retrospectref48_find n s (a : Int) c = some ((a + ((s.drop a).takeWhile (ntc c)).length : Nat) : Int) := by
  have hN := takeWhile_le (ntc c) (s.drop a)
  rw [List.length_drop] at hN
  unfold m_retrospectref48_find
  rw [loop_acc (fun i => ((a + i : Nat) : Int)) ((s.drop a).takeWhile (ntc c)).length ((a + ((s.drop a).takeWhile (ntc c)).length : Nat) : Int)]
  · intro i hi
    obtain ⟨x, hx, hp⟩ := takeWhile_get hi
    rw [List.getElem?_drop] at hx
    have hp' : x.toNat ≠ c := by simpa [ntc] using hp
    simp only [jn_eq, bifd]
    rw [if_pos (by omega), getS_cast, hx, Option.map_some, sbind, decide_eq_false hp']
    simp only [Bool.not_false, bifT]
    rw [w1 (by omega)]; rfl
  · simp only [jn_eq, bifd]
    by_cases h : a + ((s.drop a).takeWhile (ntc c)).length = s.length
    · rw [if_neg (by omega)]; rfl
    · rw [if_pos (by omega)]
      obtain ⟨x, hx, hp⟩ := tw_at (c := c) (l := s.drop a) (by rw [List.length_drop]; omega)
      rw [List.getElem?_drop] at hx
      rw [getS_cast, hx, Option.map_some, sbind, decide_eq_true hp]; rfl
  · unfold big at hn; omega
  · rfl
theorem sub_tw {s : List UInt8} {a : Nat} (p : UInt8 → Bool) (ha : a ≤ s.length) : sub s (a : Int) ((a + ((s.drop a).takeWhile p).length : Nat) : Int) = some ((s.drop a).takeWhile p) := by
  have hN := takeWhile_le p (s.drop a)
  rw [List.length_drop] at hN
  rw [sub_mid (by omega) (by omega), List.drop_take, Nat.add_sub_cancel_left, ← tw_take]
theorem r1W_drop (s : List UInt8) (a : Nat) : r1W (s.drop a) = s.drop (a + (nmW (s.drop a)).length + 1) := by
  unfold r1W nmW; rw [dw_drop, List.drop_drop, List.drop_drop]; rfl
theorem r2W_drop (s : List UInt8) (a : Nat) : r2W (s.drop a) = s.drop (a + (nmW (s.drop a)).length + 1 + (nuW (s.drop a)).length + 1) := by
  have e := r1W_drop s a
  unfold r2W nuW; rw [dw_drop, List.drop_drop, e, List.drop_drop]; rfl
theorem wdig (v c : Nat) (hv : v < 100000) (h1 : 48 ≤ c) (h2 : c ≤ 57) : wrap64 (wrap64 (wrap64 (10 * (v : Int)) + (c : Int)) - 48) = ((v * 10 + (c - 48) : Nat) : Int) := by
  rw [w64 (x := 10 * (v : Int)) (by omega) (by omega), w64 (x := 10 * (v : Int) + (c : Int)) (by omega) (by omega), w64 (by omega) (by omega)]; omega
theorem numD_take {t : List UInt8} {i : Nat} {x : UInt8} (hx : t[i]? = some x) : numD (t.take (i + 1)) 0 = numD (t.take i) 0 * 10 + (x.toNat - 48) := by rw [take_snoc hx, numD_snoc]
theorem w2 (x : Nat) (h : x < 9223372036854775806) : wrap64 ((x : Int) + 2) = ((x + 2 : Nat) : Int) := by rw [w64 (by omega) (by omega)]; omega
theorem any_false {c : Nat} {l : List UInt8} : (l.any fun b => !ntc c b) = false ↔ (l.takeWhile (ntc c)).length = l.length := by
  have h1 := any_tw c l
  have h2 := takeWhile_le (ntc c) l
  constructor
  · intro h
    rcases Nat.lt_or_ge (l.takeWhile (ntc c)).length l.length with h3 | h3
    · rw [h1.2 h3] at h; cases h
    · omega
  · intro h
    cases hb : l.any fun b => !ntc c b
    · rfl
    · have := h1.1 hb; omega

/-- The decimal value, read digit by digit. -/
theorem dig_loop {R : Type} {n : Nat} {t : List UInt8} {K : Int → Option R} (hn : big ≤ n) (hD : isD t) (h5 : t.length ≤ 5) :
    (loopM (τ := Int) (fun (s134 : Int × Int) =>
      if s134.2 < (t.length : Int) then
        (getS t s134.2).bind fun y135 => some (Lp.go (wrap64 ((wrap64 ((wrap64 ((10 : Int) * s134.1)) + (y135 : Int))) - (48 : Int)), wrap64 (s134.2 + (1 : Int))))
      else some (Lp.out s134.1)) n ((0 : Int), (0 : Int))).bind K = K (numD t 0 : Int) := by
  rw [loop_acc (fun i => ((numD (t.take i) 0 : Int), (i : Int))) t.length (numD t 0 : Int)]
  · intro i hi
    have hx : t[i]? = some t[i] := List.getElem?_eq_getElem hi
    have hd := hD t[i] (List.getElem_mem hi)
    generalize t[i] = x at hx hd
    have hv := numD_5 (isD_take (k := i) hD) (by simp; omega)
    simp only []
    rw [if_pos (by omega), getS_cast, hx, Option.map_some, sbind, wdig _ _ hv hd.1 hd.2, numD_take hx, w1 (by omega)]
  · simp only []
    rw [if_neg (by omega), List.take_length]
  · unfold big at hn; omega
  · rfl
theorem lng_cond {t : List UInt8} : lngW t < 0 ↔ ¬ (t.length ≤ 5 ∧ wrongI t < 0 ∧ trimS t = t) := by
  unfold lngW
  constructor
  · intro h g
    rw [if_pos ⟨g.2.1, g.1, g.2.2⟩] at h; omega
  · intro h
    rw [if_neg fun g => h ⟨g.2.1, g.1, g.2.2⟩]; omega
theorem lng_pos {t : List UInt8} (h : ¬ lngW t < 0) : lngW t = (numD t 0 : Int) ∧ t.length ≤ 5 ∧ wrongI t < 0 ∧ trimS t = t := by
  unfold lngW at h ⊢
  split at h
  · rename_i g; rw [if_pos g]; exact ⟨rfl, g.2.1, g.1, g.2.2⟩
  · omega
def refS (out : List M_retrospectref48_Piece) : (M_wire_Piece × Nat) ⊕ Nat → Lp (List M_retrospectref48_Piece × Int) (Lp (List M_retrospectref48_Piece) (List M_retrospectref48_Piece × M_A2_i64))
  | .inl (p, a) => .go (out ++ [rW p], (a : Int))
  | .inr x => .out (.out ([], ⟨1, (x : Int)⟩))
open Classical in
theorem m_ref48_Unpack_eq {n : Nat} {s : List UInt8} (hn : big ≤ n) (hs : s.length ≤ 1000000) : m_retrospectref48_Unpack n s = some ((unpW s).1.map rW, ⟨(unpW s).2.1, ((unpW s).2.2 : Int)⟩) := by
  unfold m_retrospectref48_Unpack
  have step : ∀ (out : List M_retrospectref48_Piece) (a : Nat), a < s.length → out.length ≤ a → ∀ f : List M_retrospectref48_Piece × Int → Option (Lp (List M_retrospectref48_Piece × Int) (Lp (List M_retrospectref48_Piece) (List M_retrospectref48_Piece × M_A2_i64))),
      f = (fun (s99 : (List M_retrospectref48_Piece) × Int) =>
    bif decide (s99.2 < (s.length : Int)) then (
      (m_retrospectref48_find n s s99.2 61).bind fun r100 =>
      jn (fun (j106 : (Bool) → Option _) =>
        bif decide ((12 : Int) < (wrap64 (r100 - s99.2))) then (
          j106 true)
        else (
          (sub s s99.2 r100).bind fun y109 =>
          (m_retrospectref48_named n y109).bind fun r111 =>
          j106 (!r111))) (fun (s108 : Bool) =>
        bif s108 then (
          some (Lp.out (Lp.out ((([] : List M_retrospectref48_Piece), (⟨(1 : Int), s99.2⟩ : M_A2_i64))))))
        else (
          bif decide (r100 = (s.length : Int)) then (
            some (Lp.out (Lp.out ((([] : List M_retrospectref48_Piece), (⟨(1 : Int), (s.length : Int)⟩ : M_A2_i64))))))
          else (
            (m_retrospectref48_find n s (wrap64 (r100 + (1 : Int))) 58).bind fun r113 =>
            (sub s (wrap64 (r100 + (1 : Int))) r113).bind fun y115 =>
            jn (fun (j121 : (Bool) → Option _) =>
              bif decide (r113 = (s.length : Int)) then (
                j121 true)
              else (
                bif decide ((5 : Int) < (y115.length : Int)) then (
                  j121 true)
                else (
                  (m_retrospectref07_Wrong n y115).bind fun r124 =>
                  bif decide ((0 : Int) ≤ r124) then (
                    j121 true)
                  else (
                    (m_retrospectref07_Trim n y115).bind fun r126 =>
                    j121 (!decide (r126 = y115)))))) (fun (s123 : Bool) =>
              bif s123 then (
                some (Lp.out (Lp.out ((([] : List M_retrospectref48_Piece), (⟨(1 : Int), wrap64 (r100 + (1 : Int))⟩ : M_A2_i64))))))
              else (
                (loopM (fun (s134 : Int × Int) =>
                  bif decide (s134.2 < (y115.length : Int)) then (
                    (getS y115 s134.2).bind fun y135 =>
                    (some (wrap64 ((wrap64 ((wrap64 ((10 : Int) * s134.1)) + (y135 : Int))) - (48 : Int)))).bind fun z137 =>
                    some (Lp.go (z137, wrap64 (s134.2 + (1 : Int)))))
                  else (
                    some (Lp.out s134.1))) n ((0 : Int), (0 : Int))).bind fun (t132 : Int) =>
                (some (decide ((s.length : Int) < (wrap64 ((wrap64 ((wrap64 (r113 + (1 : Int))) + t132)) + (1 : Int)))))).bind fun z138 =>
                bif z138 then (
                  some (Lp.out (Lp.out ((([] : List M_retrospectref48_Piece), (⟨(1 : Int), (s.length : Int)⟩ : M_A2_i64))))))
                else (
                  (getS s (wrap64 ((wrap64 (r113 + (1 : Int))) + t132))).bind fun y139 =>
                  bif !decide (y139 = 59) then (
                    some (Lp.out (Lp.out ((([] : List M_retrospectref48_Piece), (⟨(1 : Int), wrap64 ((wrap64 (r113 + (1 : Int))) + t132)⟩ : M_A2_i64))))))
                  else (
                    (sub s s99.2 r100).bind fun y141 =>
                    (sub s (wrap64 (r113 + (1 : Int))) (wrap64 ((wrap64 (r113 + (1 : Int))) + t132))).bind fun y143 =>
                    (appM 32 s99.1 ([(⟨y141, y143⟩ : M_retrospectref48_Piece)] : List M_retrospectref48_Piece)).bind fun y145 =>
                    some (Lp.go (y145, wrap64 ((wrap64 (r113 + t132)) + (2 : Int))))))))))))
    else (
      some (Lp.out (Lp.go s99.1)))) → f (out, (a : Int)) = some (refS out (stepW s.length a (s.drop a))) := by
    intro out a hl ho f hf
    subst hf
    have q1 := nmW_le (s.drop a)
    have d1 := r1W_drop s a
    have d2 := r2W_drop s a
    rw [List.length_drop] at q1
    simp only [bifd]
    rw [if_pos (by omega), m_ref48_find_eq hn (by omega) hs, sbind, show (s.drop a).takeWhile (ntc 61) = nmW (s.drop a) from rfl]
    have s1 : sub s (a : Int) ((a + (nmW (s.drop a)).length : Nat) : Int) = some (nmW (s.drop a)) := sub_tw _ (by omega)
    simp only [jn_eq, s1, sbind, m_ref48_named_eq hn]
    have a1 := any_false (c := 61) (l := s.drop a)
    rw [show (s.drop a).takeWhile (ntc 61) = nmW (s.drop a) from rfl, List.length_drop] at a1
    have a2 := any_false (c := 58) (l := r1W (s.drop a))
    rw [show (r1W (s.drop a)).takeWhile (ntc 58) = nuW (s.drop a) from rfl] at a2
    have q3 := nuW_le (s.drop a)
    have lr1 := congrArg List.length d1
    rw [List.length_drop] at lr1
    have lr2 := congrArg List.length d2
    rw [List.length_drop] at lr2
    unfold stepW
    rw [show wrap64 (((a + (nmW (s.drop a)).length : Nat) : Int) - (a : Int)) = (((nmW (s.drop a)).length : Nat) : Int) by rw [w64 (by omega) (by omega)]; omega]
    by_cases h12 : 12 < ((nmW (s.drop a)).length : Int)
    · rw [if_pos h12, bifT]
      cases h1 : wdB 2 (nmW (s.drop a))
      · rw [if_pos rfl]; rfl
      · have := wd2_len h1; omega
    rw [if_neg h12]
    cases h1 : wdB 2 (nmW (s.drop a))
    · rw [if_pos rfl]; rfl
    rw [if_neg (show ¬ true = false by decide)]
    simp only [Bool.not_true, bifF]
    by_cases h2 : (a + (nmW (s.drop a)).length) = s.length
    · rw [if_pos (by omega), if_pos (a1.2 (by omega))]; rfl
    rw [if_neg (by omega), if_neg (fun h => h2 (by have := a1.1 h; omega)), w1 (by omega), m_ref48_find_eq hn (by omega) hs, ← d1, sbind, show (r1W (s.drop a)).takeWhile (ntc 58) = nuW (s.drop a) from rfl]
    have s2 : sub s ((a + (nmW (s.drop a)).length + 1 : Nat) : Int) ((a + (nmW (s.drop a)).length + 1 + (nuW (s.drop a)).length : Nat) : Int) = some (nuW (s.drop a)) := by
      have := sub_tw (s := s) (a := a + (nmW (s.drop a)).length + 1) (ntc 58) (by omega)
      rw [← d1] at this; exact this
    rw [s2, sbind]
    clear s2 d1
    by_cases h3 : a + (nmW (s.drop a)).length + 1 + (nuW (s.drop a)).length = s.length
    · rw [if_pos (by omega), bifT, if_pos (show lngW (nuW (s.drop a)) < 0 ∨ ((r1W (s.drop a)).any fun b => !ntc 58 b) = false from .inr (a2.2 (by omega)))]; rfl
    rw [if_neg (by omega)]
    by_cases h4 : 5 < ((nuW (s.drop a)).length : Int)
    · rw [if_pos h4, bifT, if_pos (show lngW (nuW (s.drop a)) < 0 ∨ ((r1W (s.drop a)).any fun b => !ntc 58 b) = false from .inl (lng_cond.2 fun g => by omega))]; rfl
    rw [if_neg h4, m_ref07_Wrong_eq hn (by unfold maxLen; omega), sbind]
    by_cases h5 : 0 ≤ wrongI (nuW (s.drop a))
    · rw [if_pos h5, bifT, if_pos (show lngW (nuW (s.drop a)) < 0 ∨ ((r1W (s.drop a)).any fun b => !ntc 58 b) = false from .inl (lng_cond.2 fun g => by omega))]; rfl
    rw [if_neg h5, m_ref07_Trim_eq hn (by unfold maxLen; omega), sbind]
    by_cases h6 : trimS (nuW (s.drop a)) = nuW (s.drop a)
    · rw [decide_eq_true h6]
      have hnl : ¬ lngW (nuW (s.drop a)) < 0 := fun h => lng_cond.1 h ⟨by omega, by omega, h6⟩
      obtain ⟨hv, _, _, _⟩ := lng_pos hnl
      obtain ⟨hD, _, _⟩ := wrongI_neg (show wrongI (nuW (s.drop a)) < 0 by omega)
      have hv5 := numD_5 hD (by omega)
      rw [if_neg (show ¬ (lngW (nuW (s.drop a)) < 0 ∨ ((r1W (s.drop a)).any fun b => !ntc 58 b) = false) by
        rintro (h | h)
        · exact hnl h
        · exact h3 (by have := a2.1 h; omega))]
      simp only [Bool.not_true, bifF]
      rw [dig_loop hn hD (by omega), hv, Int.toNat_natCast]
      clear hv hnl
      generalize numD (nuW (s.drop a)) 0 = v at *
      rw [w1 (i := a + (nmW (s.drop a)).length + 1 + (nuW (s.drop a)).length) (by omega), wadd _ v (by omega), w1 (by omega), bifd]
      by_cases h7 : (r2W (s.drop a)).length < v + 1
      · rw [if_pos h7, if_pos (by omega)]; rfl
      rw [if_neg h7, if_neg (by omega)]
      have hg : (r2W (s.drop a))[v]? = some (r2W (s.drop a))[v] := List.getElem?_eq_getElem (by omega)
      generalize (r2W (s.drop a))[v] = x at hg
      have hg' := hg
      rw [d2, List.getElem?_drop] at hg'
      rw [getS_cast, hg', Option.map_some, sbind, bifnd]
      by_cases h8 : x.toNat = 59
      · have hx : x = 59 := UInt8.toNat_inj.1 h8
        rw [if_pos h8, if_neg (by rw [hg, hx]; simp), sub_mid (by omega) (by omega), sbind, appM_ok (by simp; omega) (by simp; omega), sbind, wadd _ v (by omega), w2 _ (by omega), List.drop_take, Nat.add_sub_cancel_left, ← d2]
        simp only [refS, rW]
        congr 4
        omega
      · rw [if_neg h8, if_pos (by rw [hg]; intro h; cases h; exact h8 rfl)]; rfl
    · rw [decide_eq_false h6, if_pos (show lngW (nuW (s.drop a)) < 0 ∨ ((r1W (s.drop a)).any fun b => !ntc 58 b) = false from .inl (lng_cond.2 fun g => h6 g.2.2))]
      simp only [Bool.not_false, bifT]; rfl
  rw [itW_bind (s := s) (fun out a => (out.map rW, (a : Int))) (fun x => ([], ⟨1, (x : Int)⟩)) (fun l => l.map rW) ?_ ?_ ?_ (s.length + 1) 0 [] n ([], (0 : Int)) (by omega) (by simp) (by omega) (by unfold big at hn; omega) rfl]
  · unfold unpW
    cases hi : itW s (s.length + 1) 0 [] with
    | inr x => rfl
    | inl l =>
      simp only []
      rw [m_ref48_May_eq hn, sbind, List.map_map, show tW ∘ rW = id from rfl, List.map_id]
      by_cases h : MayP l
      · rw [if_pos h, decide_eq_true h]; rfl
      · rw [if_neg h, decide_eq_false h]; rfl
  · intro out a p a' hl ho hst
    rw [step (out.map rW) a hl (by simpa using ho) _ rfl, hst]
    simp [refS]
  · intro out a x hl ho hst
    rw [step (out.map rW) a hl (by simpa using ho) _ rfl, hst]; rfl
  · intro out
    simp only [bifd]
    rw [if_neg (by omega)]
end Go.Proofs.YtiobbiamnjapgaaGreatDoor
