import Derived.Test.YtcmhibdigkdjiaaGreatDoorPlRt
import Derived.KernelRfl
namespace Go.Proofs.YtcmhibdigkdjiaaGreatDoor
open Go Go.RowKit
/-! ### Tapes: which may be, what counts -/
theorem m_tape_below_eq (x m : Int) : m_tape_below x m = some (decide (0 ≤ x ∧ x < m)) := by
  unfold m_tape_below; simp only [jn_eq, bifd]
  by_cases h : 0 ≤ x
  · rw [if_pos h]; simp [h]
  · rw [if_neg h]; simp [h]
def rdT (i : M_tape_Inst) : List Int := if i.Op = 6 ∨ i.Op = 11 then [i.A] else if i.Op = 7 ∨ i.Op = 8 ∨ i.Op = 9 ∨ i.Op = 10 then [i.A, i.B] else []
theorem m_tape_Reads_eq (i : M_tape_Inst) : m_tape_Reads i = some (rdT i) := by
  unfold m_tape_Reads rdT
  simp only [jn_eq, bifd]
  by_cases h6 : i.Op = 6
  · simp [h6]
  by_cases h11 : i.Op = 11
  · simp [h11]
  by_cases h7 : i.Op = 7
  · simp [h7]
  by_cases h8 : i.Op = 8
  · simp [h8]
  by_cases h9 : i.Op = 9
  · simp [h9]
  by_cases h10 : i.Op = 10
  · simp [h10]
  simp [h6, h7, h8, h9, h10, h11]
theorem rdT_len (i : M_tape_Inst) : (rdT i).length ≤ 2 := by unfold rdT; split <;> (try split) <;> simp
/-- A range that is left at the first thing that is not as it should be, with what depends on its place. -/
theorem range_fst {α R : Type} {f : Nat → α → Unit → Option (Lp Unit R)} {K : Unit → Option R} (P : Nat → α → Prop) (r : Nat → R) : ∀ (xs : List α) (k : Nat),
    (∀ i x, xs[i]? = some x → (f (k + i) x () = some (.go ()) ∧ P (k + i) x) ∨ f (k + i) x () = some (.out (r (k + i)))) →
    ((∀ i x, xs[i]? = some x → P (k + i) x) ∧ (rangeL f xs k ()).bind (lpK K) = K ()) ∨ ∃ j, (rangeL f xs k ()).bind (lpK K) = some (r j)
  | [], k, _ => .inl ⟨fun i x h => by simp at h, rfl⟩
  | x :: xs, k, hb => by
    have h0 := hb 0 x rfl
    simp only [Nat.add_zero] at h0
    rcases h0 with ⟨h1, h2⟩ | h1
    · have ih := range_fst P r (K := K) (f := f) xs (k + 1) (fun i y hy => by have := hb (i + 1) y (by simpa using hy); rw [show k + (i + 1) = k + 1 + i by omega] at this; exact this)
      simp only [rangeL, h1, sbind]
      rcases ih with ⟨h3, h4⟩ | h3
      · refine .inl ⟨fun i y hy => ?_, h4⟩
        cases i with
        | zero => simp at hy; subst hy; exact h2
        | succ i => rw [show k + (i + 1) = k + 1 + i by omega]; exact h3 i y (by simpa using hy)
      · exact .inr h3
    · exact .inr ⟨k, by simp only [rangeL, h1, sbind]; rfl⟩
theorem range_fstE {α R : Type} {f : Nat → α → Unit → Option (Lp Unit R)} {K : Unit → Option R} {Q : R → Prop} {xs : List α} (P : Nat → α → Prop) (r : Nat → R)
    (hb : ∀ i x, xs[i]? = some x → (f i x () = some (.go ()) ∧ P i x) ∨ f i x () = some (.out (r i))) (hK : (∀ i x, xs[i]? = some x → P i x) → ∃ b, K () = some b ∧ Q b) (hr : ∀ j, Q (r j)) :
    ∃ b, (rangeL f xs 0 ()).bind (lpK K) = some b ∧ Q b := by
  rcases range_fst P r (K := K) xs 0 (fun i x hx => by rw [Nat.zero_add]; exact hb i x hx) with ⟨h1, h2⟩ | ⟨j, h⟩
  · rw [h2]; exact hK fun i x hx => by have := h1 i x hx; rwa [Nat.zero_add] at this
  · exact ⟨_, h, hr j⟩
/-- The tape's fractions are short. -/
def TW (t : M_tape_Tape) : Prop := ∀ c ∈ t.Code, Fw c.N
theorem m_tape_may_ok {n : Nat} {t : M_tape_Tape} {i : Nat} {x : M_tape_Inst} (hn : big ≤ n) (ht : TW t) (hx : t.Code[i]? = some x) : ∃ b, m_tape_may n t (i : Int) = some b ∧ (b = true → ∀ r ∈ rdT x, 0 ≤ r ∧ r < (i : Int)) := by
  unfold m_tape_may
  rw [getI_of hx, sbind, bifd]
  by_cases h1 : x.Op = 1
  · rw [if_pos h1]
    have hr : rdT x = [] := by unfold rdT; simp [h1]
    have hR := m_frac_Right_eq hn (ht x (mem_of_get hx))
    simp only [jn_eq, m_tape_of, sbind]
    cases he : eqb_tape_numbers (⟨x.Op, x.A, x.B⟩ : M_tape_numbers) ⟨1, 0, 0⟩
    · exact ⟨false, rfl, fun h => by cases h⟩
    · rw [bifT, hR, sbind]; exact ⟨_, rfl, fun _ r hr' => by rw [hr] at hr'; cases hr'⟩
  rw [if_neg h1]
  have hbl : ∃ b, m_tape_blank x.N = some b := by
    unfold m_tape_blank
    simp only [jn_eq]
    cases x.N.Num.Neg
    · simp only [Bool.not_false, bifT, bifd]
      by_cases g : (x.N.Num.Abs.length : Int) = 0
      · rw [if_pos g]; exact ⟨_, rfl⟩
      · rw [if_neg g]; exact ⟨_, rfl⟩
    · exact ⟨_, rfl⟩
  obtain ⟨b, hb⟩ := hbl
  rw [hb, sbind]
  cases b
  · exact ⟨false, rfl, fun h => by cases h⟩
  simp only [Bool.not_true, bifF]
  rw [m_tape_Reads_eq, sbind]
  refine range_fstE (fun _ r => 0 ≤ r ∧ r < (i : Int)) (fun _ => false) (fun j r _ => ?_) (fun h2 => ?_) (fun _ h => by cases h)
  · simp only [m_tape_below_eq, sbind]
    by_cases g : 0 ≤ r ∧ r < (i : Int)
    · rw [decide_eq_true g]; exact .inl ⟨rfl, g⟩
    · rw [decide_eq_false g]; exact .inr rfl
  · have hall : ∀ r ∈ rdT x, 0 ≤ r ∧ r < (i : Int) := fun r hr => by
      obtain ⟨j, hj⟩ := List.getElem?_of_mem hr
      exact h2 j r hj
    have fin : ∀ {o : Option Bool}, (∃ b, o = some b) → ∃ b, o = some b ∧ (b = true → ∀ r ∈ rdT x, 0 ≤ r ∧ r < (i : Int)) := fun ⟨b, hb⟩ => ⟨b, hb, fun _ => hall⟩
    apply fin
    simp only [jn_eq, m_tape_of, sbind, m_tape_below_eq, m_tape_Reads_eq, bifd]
    by_cases g2 : x.Op = 2
    · rw [if_pos g2]; exact ⟨_, rfl⟩
    rw [if_neg g2]
    by_cases g3 : x.Op = 3
    · rw [if_pos g3]
      by_cases g : 0 ≤ x.A ∧ x.A < t.Dim
      · rw [if_pos g]; exact ⟨_, rfl⟩
      · rw [if_neg g]; exact ⟨_, rfl⟩
    rw [if_neg g3]
    by_cases g4 : x.Op = 4
    · rw [if_pos g4]
      by_cases g : 0 ≤ x.A ∧ x.A < t.Par
      · rw [if_pos g]; exact ⟨_, rfl⟩
      · rw [if_neg g]; exact ⟨_, rfl⟩
    rw [if_neg g4]
    by_cases g6 : x.Op = 6
    · rw [if_pos g6]; exact ⟨_, rfl⟩
    rw [if_neg g6]
    by_cases g11 : x.Op = 11
    · rw [if_pos g11]
      by_cases g : -8 ≤ x.B
      · rw [if_pos g]; exact ⟨_, rfl⟩
      · rw [if_neg g]; exact ⟨_, rfl⟩
    rw [if_neg g11]; exact ⟨_, rfl⟩
/-- What is known of a right tape. -/
def RT (t : M_tape_Tape) : Prop := (∀ (i : Nat) x, t.Code[i]? = some x → ∀ r ∈ rdT x, 0 ≤ r ∧ r < (i : Int)) ∧ ∀ o ∈ t.Outs, 0 ≤ o ∧ o < (t.Code.length : Int)
theorem m_tape_Right_ok {n : Nat} {t : M_tape_Tape} (hn : big ≤ n) (ht : TW t) : ∃ b, m_tape_Right n t = some b ∧ (b = true → RT t) := by
  have hW : ∃ v, m_tape_Wrong n t = some v ∧ (v = -1 → RT t) := by
    unfold m_tape_Wrong
    have hw : ∃ b, m_tape_whole t = some b := by
      unfold m_tape_whole
      simp only [jn_eq, m_tape_below_eq, sbind, bifd]
      by_cases g1 : 0 ≤ wrap64 (t.Dim - 1) ∧ wrap64 (t.Dim - 1) < 6
      · rw [if_pos g1]
        by_cases g2 : 0 ≤ t.Par ∧ t.Par < 7
        · rw [if_pos g2]
          by_cases g3 : (t.Outs.length : Int) = t.Dim
          · rw [if_pos g3]; exact ⟨_, rfl⟩
          · rw [if_neg g3]; exact ⟨_, rfl⟩
        · rw [if_neg g2]; exact ⟨_, rfl⟩
      · rw [if_neg g1]; exact ⟨_, rfl⟩
    obtain ⟨b, hb⟩ := hw
    rw [hb, sbind]
    cases b
    · exact ⟨-2, rfl, fun h => by omega⟩
    simp only [Bool.not_true, bifF]
    refine range_fstE (fun i x => ∀ r ∈ rdT x, 0 ≤ r ∧ r < (i : Int)) (fun i => (i : Int)) (fun i x hx => ?_) (fun h2 => ?_) (fun j h => by omega)
    · obtain ⟨b, h1, h2⟩ := m_tape_may_ok hn ht hx
      rw [h1, sbind]
      cases b
      · exact .inr rfl
      · exact .inl ⟨rfl, h2 rfl⟩
    · refine range_fstE (fun _ o => 0 ≤ o ∧ o < (t.Code.length : Int)) (fun _ => (t.Code.length : Int)) (fun i o _ => ?_) (fun h4 => ?_) (fun j h => by omega)
      · simp only [m_tape_below_eq, sbind]
        by_cases g : 0 ≤ o ∧ o < (t.Code.length : Int)
        · rw [decide_eq_true g]; exact .inl ⟨rfl, g⟩
        · rw [decide_eq_false g]; exact .inr rfl
      · refine ⟨-1, rfl, fun _ => ⟨h2, fun o ho => ?_⟩⟩
        obtain ⟨j, hj⟩ := List.getElem?_of_mem ho
        exact h4 j o hj
  obtain ⟨v, h1, h2⟩ := hW
  unfold m_tape_Right
  rw [h1, sbind]
  exact ⟨_, rfl, fun h => h2 (of_decide_eq_true h)⟩

/-! what counts -/
def setT (s : List Bool) (o : Int) : List Bool := List.set s o.toNat true
theorem setT_len (s : List Bool) (o : Int) : (setT s o).length = s.length := by unfold setT; simp
theorem setT_mono {s : List Bool} {o : Int} {k : Nat} (h : s[k]? = some true) : (setT s o)[k]? = some true := by
  unfold setT
  rw [List.getElem?_set]
  split
  · rw [if_pos (by have := lt_of_get h; omega)]
  · exact h
theorem setT_other {s : List Bool} {o : Int} {k : Nat} (h : o.toNat ≠ k) : (setT s o)[k]? = s[k]? := by
  unfold setT; rw [List.getElem?_set_ne h]
theorem setT_same {s : List Bool} {o : Int} (h : o.toNat < s.length) : (setT s o)[o.toNat]? = some true := by
  unfold setT; simp [h]
/-- Setting the places of a list. -/
theorem setAll {R : Type} {N p : Nat} (K : List Bool → Option R) : ∀ (l : List Int) (s : List Bool) (k : Nat), (∀ o ∈ l, 0 ≤ o ∧ o < (p : Int)) → p ≤ N → s.length = N →
    ∃ s', (rangeL (τ := R) (fun (_ : Nat) (x20 : Int) (s18 : (List Bool)) =>
      (getI s18 x20).bind fun _ =>
      some (Lp.go (List.set s18 (Int.toNat x20) true))) l k s).bind (lpK K) = K s' ∧ s'.length = N ∧ (∀ o ∈ l, s'[o.toNat]? = some true) ∧ (∀ j : Nat, s[j]? = some true → s'[j]? = some true) ∧ ∀ j : Nat, p ≤ j → s'[j]? = s[j]?
  | [], s, k, _, _, hN => ⟨s, rfl, hN, (fun o h => by cases h), fun _ h => h, fun _ _ => rfl⟩
  | o :: l, s, k, hl, hp, hN => by
    obtain ⟨h1, h2⟩ := hl o (.head _)
    obtain ⟨m, rfl⟩ : ∃ m : Nat, o = m := ⟨o.toNat, by omega⟩
    have hm : m < s.length := by omega
    obtain ⟨s', g1, g2, g3, g4, g5⟩ := setAll K l (setT s (m : Int)) (k + 1) (fun o ho => hl o (.tail _ ho)) hp (by rw [setT_len]; exact hN)
    refine ⟨s', ?_, g2, ?_, ?_, ?_⟩
    · simp only [rangeL]
      rw [getI_get hm, sbind, sbind]
      exact g1
    · intro o ho
      rcases List.mem_cons.1 ho with rfl | ho
      · exact g4 _ (setT_same (by simpa using hm))
      · exact g3 o ho
    · intro j hj; exact g4 j (setT_mono hj)
    · intro j hj; rw [g5 j hj, setT_other (by simp; omega)]
/-- What counts: the outs do, and with an instruction its operands. -/
def LiveP (t : M_tape_Tape) (s : List Bool) : Prop := s.length = t.Code.length ∧ (∀ o ∈ t.Outs, s[o.toNat]? = some true) ∧ ∀ (i : Nat) x, t.Code[i]? = some x → s[i]? = some true → ∀ r ∈ rdT x, s[r.toNat]? = some true
theorem m_tape_Live_ok {n : Nat} {t : M_tape_Tape} (hn : big ≤ n) (ht : TW t) (hl : t.Code.length ≤ 1000) : ∃ b s, m_tape_Right n t = some b ∧ m_tape_Live n t = some s ∧ (b = false → s = []) ∧ (b = true → RT t ∧ LiveP t s) := by
  obtain ⟨b, hb, hR⟩ := m_tape_Right_ok hn ht
  unfold m_tape_Live
  rw [hb, sbind]
  cases b
  · exact ⟨false, [], rfl, rfl, fun _ => rfl, fun h => by cases h⟩
  obtain ⟨h1, h2⟩ := hR rfl
  simp only [Bool.not_true, bifF]
  rw [mkM_ok (by omega) (by omega), sbind]
  obtain ⟨s0, e0, l0, o0, _, _⟩ := setAll (R := List Bool) (N := t.Code.length) (p := t.Code.length) (fun (s24 : (List Bool)) =>
    (loopM (fun (s121 : (List Bool) × Int) =>
      bif decide ((0 : Int) ≤ s121.2) then (
        jn (fun (j142 : ((List Bool)) → Option _) =>
          (getI s121.1 s121.2).bind fun y145 =>
          bif !y145 then (
            j142 s121.1)
          else (
            (getI t.Code s121.2).bind fun y147 =>
            (m_tape_Reads y147).bind fun r149 =>
            (rangeL (fun (_ : Nat) (x160 : Int) (s158 : (List Bool)) =>
              (getI s158 x160).bind fun _ =>
              some (Lp.go (List.set s158 (Int.toNat x160) true))) r149 0 s121.1).bind (lpK fun (s164 : (List Bool)) =>
            j142 s164))) (fun (s144 : (List Bool)) =>
          some (Lp.go (s144, wrap64 (s121.2 - (1 : Int))))))
      else (
        some (Lp.out s121.1))) n (s24, wrap64 ((t.Code.length : Int) - (1 : Int)))).bind fun (t119 : (List Bool)) =>
    some t119) t.Outs (List.replicate t.Code.length false) 0 h2 (Nat.le_refl _) (by simp)
  have hlp : ∃ s, ((loopM (fun (s121 : (List Bool) × Int) =>
      bif decide ((0 : Int) ≤ s121.2) then (
        jn (fun (j142 : ((List Bool)) → Option _) =>
          (getI s121.1 s121.2).bind fun y145 =>
          bif !y145 then (
            j142 s121.1)
          else (
            (getI t.Code s121.2).bind fun y147 =>
            (m_tape_Reads y147).bind fun r149 =>
            (rangeL (fun (_ : Nat) (x160 : Int) (s158 : (List Bool)) =>
              (getI s158 x160).bind fun _ =>
              some (Lp.go (List.set s158 (Int.toNat x160) true))) r149 0 s121.1).bind (lpK fun (s164 : (List Bool)) =>
            j142 s164))) (fun (s144 : (List Bool)) =>
          some (Lp.go (s144, wrap64 (s121.2 - (1 : Int))))))
      else (
        some (Lp.out s121.1))) n (s0, wrap64 ((t.Code.length : Int) - (1 : Int)))).bind fun (t119 : (List Bool)) =>
    some t119) = some s ∧ LiveP t s := by
    refine loop_bindE (fun s => (s.2 + 1).toNat) (fun s => ∃ m : Nat, s.2 = (m : Int) - 1 ∧ m ≤ t.Code.length ∧ s.1.length = t.Code.length ∧ (∀ o ∈ t.Outs, s.1[o.toNat]? = some true) ∧ ∀ (i : Nat) x, m ≤ i → t.Code[i]? = some x → s.1[i]? = some true → ∀ r ∈ rdT x, s.1[r.toNat]? = some true) (fun s => LiveP t s)
      ⟨t.Code.length, by rw [w64 (by omega) (by omega)], Nat.le_refl _, l0, o0, fun i x hi hx => by have := lt_of_get hx; omega⟩ (by rw [w64 (by omega) (by omega)]; unfold big at hn; simp only []; omega) ?_ (fun s hs => ⟨s, rfl, hs⟩)
    rintro ⟨s, z⟩ ⟨m, hz, hm, hls, hos, hps⟩
    simp only at hz hls hos hps
    subst hz
    cases m with
    | zero =>
      refine .inr ⟨s, ?_, hls, hos, fun i x hx => hps i x (Nat.zero_le _) hx⟩
      simp only [bifd]; rw [if_neg (by omega)]
    | succ m =>
      refine .inl ?_
      have hx : t.Code[m]? = some t.Code[m] := List.getElem?_eq_getElem (by omega)
      generalize t.Code[m] = x at hx
      have hv : s[m]? = some (s[m]'(by omega)) := List.getElem?_eq_getElem (by omega)
      have ez : ((m + 1 : Nat) : Int) - 1 = (m : Int) := by omega
      have ew : wrap64 ((m : Int) - 1) = (m : Int) - 1 := w64 (by omega) (by omega)
      simp only [jn_eq, ez]
      rw [decide_eq_true (show (0 : Int) ≤ (m : Int) by omega), bifT, getI_of hv, sbind]
      cases hb : s[m]'(by omega) with
      | false =>
        rw [hb] at hv
        refine ⟨(s, (m : Int) - 1), by simp only [Bool.not_false, bifT]; rw [ew], ⟨m, rfl, by omega, hls, hos, fun i y hi hy hs r hr => ?_⟩, by simp only []; omega⟩
        rcases Nat.eq_or_lt_of_le hi with h | h
        · subst h; rw [hv] at hs; cases hs
        · exact hps i y h hy hs r hr
      | true =>
        rw [hb] at hv
        simp only [Bool.not_true, bifF]
        rw [getI_of hx, sbind, m_tape_Reads_eq, sbind]
        obtain ⟨s', g1, g2, g3, g4, g5⟩ := setAll (R := Lp (List Bool × Int) (List Bool)) (N := t.Code.length) (p := m) (fun s164 => some (Lp.go (s164, wrap64 ((m : Int) - 1)))) (rdT x) s 0 (fun r hr => h1 m x hx r hr) (by omega) hls
        refine ⟨(s', (m : Int) - 1), by rw [g1, ew], ⟨m, rfl, by omega, g2, fun o ho => g4 _ (hos o ho), fun i y hi hy hs r hr => ?_⟩, by simp only []; omega⟩
        rcases Nat.eq_or_lt_of_le hi with h | h
        · subst h; rw [hx] at hy; cases hy; exact g3 r hr
        · rw [g5 i hi] at hs
          exact g4 _ (hps i y h hy hs r hr)
  obtain ⟨s, e1, e2⟩ := hlp
  exact ⟨true, s, rfl, e0.trans e1, fun h => (by cases h), fun _ => ⟨⟨h1, h2⟩, e2⟩⟩
end Go.Proofs.YtcmhibdigkdjiaaGreatDoor
