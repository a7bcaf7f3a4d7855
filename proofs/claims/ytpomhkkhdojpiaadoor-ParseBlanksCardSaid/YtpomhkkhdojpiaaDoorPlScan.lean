import Derived.Test.YtpomhkkhdojpiaaDoorPlLex
namespace Go.Proofs.YtpomhkkhdojpiaaDoor
open Go Go.RowKit
/-! ### The words of a text, as the reference reads them -/
def blkB (c : Nat) : Bool := decide (c = 32 ∨ c = 9 ∨ c = 10 ∨ c = 13)
theorem dropWhile_le {α : Type} (p : α → Bool) : ∀ (l : List α), (l.dropWhile p).length ≤ l.length
  | [] => Nat.le_refl _
  | x :: l => by
    rw [List.dropWhile_cons]; split
    · exact Nat.le_succ_of_le (dropWhile_le p l)
    · exact Nat.le_refl _
def wcons (w : M_retrospectref16_Word) : List M_retrospectref16_Word ⊕ Nat → List M_retrospectref16_Word ⊕ Nat
  | .inl l => .inl (w :: l)
  | .inr p => .inr p
def tailK (k : Int) (r : List UInt8) : List UInt8 := r.takeWhile (fun b => goC k b.toNat)
def scanS : List UInt8 → Nat → List M_retrospectref16_Word ⊕ Nat
  | [], _ => .inl []
  | c :: r, i =>
    if blkB c.toNat then scanS r (i + 1)
    else if c.toNat = 35 then scanS (r.dropWhile (fun b => b.toNat ≠ 10)) (i + 1 + (r.takeWhile (fun b => b.toNat ≠ 10)).length)
    else if kindC c.toNat = 0 then .inr i
    else if mostC (kindC c.toNat) < 1 + (tailK (kindC c.toNat) r).length then .inr (i + mostC (kindC c.toNat))
    else wcons ⟨kindC c.toNat, c :: tailK (kindC c.toNat) r, i⟩ (scanS (r.drop (tailK (kindC c.toNat) r).length) (i + 1 + (tailK (kindC c.toNat) r).length))
termination_by s => s.length
decreasing_by
  all_goals simp only [List.length_cons, List.length_drop]
  · omega
  · have := dropWhile_le (fun b : UInt8 => decide (b.toNat ≠ 10)) r; omega
  · omega
theorem scanS_nil (i : Nat) : scanS [] i = .inl [] := by rw [scanS]
theorem scanS_cons (c : UInt8) (r : List UInt8) (i : Nat) : scanS (c :: r) i =
    if blkB c.toNat then scanS r (i + 1)
    else if c.toNat = 35 then scanS (r.dropWhile (fun b => b.toNat ≠ 10)) (i + 1 + (r.takeWhile (fun b => b.toNat ≠ 10)).length)
    else if kindC c.toNat = 0 then .inr i
    else if mostC (kindC c.toNat) < 1 + (tailK (kindC c.toNat) r).length then .inr (i + mostC (kindC c.toNat))
    else wcons ⟨kindC c.toNat, c :: tailK (kindC c.toNat) r, i⟩ (scanS (r.drop (tailK (kindC c.toNat) r).length) (i + 1 + (tailK (kindC c.toNat) r).length)) := by rw [scanS]
/-- One byte of the reference's loop. -/
def rstep (i : Nat) (c : UInt8) (b : List M_retrospectref16_Word × Bool) : (List M_retrospectref16_Word × Bool) ⊕ (List M_retrospectref16_Word × Int) :=
  let note := if c.toNat = 35 then true else if c.toNat = 10 then false else b.2
  if note || blkB c.toNat then .inl (b.1, note)
  else match b.1.getLast? with
    | some w => if w.At + w.Text.length = i ∧ goC w.Kind c.toNat = true then
        (if w.Kind = 0 ∨ mostC w.Kind < w.Text.length + 1 then .inr ([], (i : Int)) else .inl (b.1.dropLast ++ [⟨w.Kind, w.Text ++ [c], w.At⟩], note))
      else if kindC c.toNat = 0 then .inr ([], (i : Int)) else .inl (b.1 ++ [⟨kindC c.toNat, [c], i⟩], note)
    | none => if kindC c.toNat = 0 then .inr ([], (i : Int)) else .inl (b.1 ++ [⟨kindC c.toNat, [c], i⟩], note)
def rscan (s : List UInt8) (i : Nat) (b : List M_retrospectref16_Word × Bool) : List M_retrospectref16_Word × Int := runG rstep (fun b => (b.1, (-1 : Int))) s i b
theorem most_pos (k : Int) : 1 ≤ mostC k ∧ mostC k ≤ 60 := by unfold mostC; grind
theorem sub_one {α : Type} {s : List α} {i : Nat} {x : α} (h : s[i]? = some x) (hs : s.length ≤ 4611686018427387904) : sub s (i : Int) (wrap64 ((i : Int) + 1)) = some [x] := by
  have hi := lt_of_get h
  rw [w1 (by omega), sub_mid (by omega) (by omega), take_succ_get hi]
  have : s[i] = x := by have := List.getElem?_eq_getElem hi; rw [h] at this; exact (Option.some.inj this).symm
  rw [this, List.drop_append_of_le_length (by simp; omega), List.drop_of_length_le (by simp; omega)]; rfl
theorem m_ref16_Scan_eq {n : Nat} {s : List UInt8} (hn : big ≤ n) : m_retrospectref16_Scan n s = some (if 4000 < s.length then ([], 4000) else rscan s 0 ([], false)) := by
  unfold m_retrospectref16_Scan
  simp only [bifd]
  by_cases hs : 4000 < s.length
  · rw [if_pos (by omega), if_pos hs]
  · rw [if_neg (by omega), if_neg hs]
    have hn' := hn
    unfold big at hn
    unfold rscan
    refine loop_lpK (fun b i => (b.1, b.2, (i : Int))) rstep (fun b => b.1) _ (fun i b => b.1.length ≤ i ∧ ∀ w ∈ b.1, 0 ≤ w.At ∧ w.At + w.Text.length ≤ i) s ([], false) (fun i c b hx hI => ?_) (fun b _ => by simp) (fun b _ => rfl) (by simp) (by omega)
    obtain ⟨hI1, hI2⟩ := hI
    have hi := lt_of_get hx
    have hsub := sub_one hx (by omega)
    have hg : getS s (i : Int) = some c.toNat := by rw [getS_cast, hx]; rfl
    obtain ⟨out, note⟩ := b
    simp only at hI1 hI2
    simp only [if_pos (show (i : Int) < (s.length : Int) by omega), jn_eq, hg, sbind, hsub, m_ref16_Kind_eq hn', m_ref16_more_eq, m_ref16_Most_eq]
    have hw1 : wrap64 ((i : Int) + 1) = ((i + 1 : Nat) : Int) := w1 (by omega)
    have hkeep : ∀ nt : Bool, rstep i c (out, note) = .inl (out, nt) → ∀ b' : List M_retrospectref16_Word × Bool, rstep i c (out, note) = .inl b' → b'.1.length ≤ i + 1 ∧ ∀ w ∈ b'.1, 0 ≤ w.At ∧ w.At + w.Text.length ≤ ((i + 1 : Nat) : Int) := by
      intro nt h b' hb'
      rw [h] at hb'; cases hb'
      exact ⟨by simp only []; omega, fun w hw => by have := hI2 w hw; omega⟩
    by_cases h35 : c.toNat = 35
    · have hr : rstep i c (out, note) = .inl (out, true) := by simp [rstep, h35]
      refine ⟨?_, hkeep true hr⟩
      rw [hr]; simp [h35, hw1, toLpp]
    · by_cases h10 : c.toNat = 10
      · have hr : rstep i c (out, note) = .inl (out, false) := by simp [rstep, h10, blkB]
        refine ⟨?_, hkeep false hr⟩
        rw [hr]; simp [h10, hw1, toLpp]
      · cases note with
        | true =>
          have hr : rstep i c (out, true) = .inl (out, true) := by simp [rstep, h10, h35]
          refine ⟨?_, hkeep true hr⟩
          rw [hr]; simp [h10, h35, hw1, toLpp]
        | false =>
          by_cases hb : blkB c.toNat = true
          · have hr : rstep i c (out, false) = .inl (out, false) := by simp [rstep, h10, h35, hb]
            refine ⟨?_, hkeep false hr⟩
            rw [hr]
            simp only [blkB, decide_eq_true_eq, h10, false_or] at hb
            rcases hb with h | h | h <;> simp [h, hw1, toLpp]
          · have hb' : blkB c.toNat = false := by simpa using hb
            have g1 : c.toNat ≠ 32 := fun h => hb (by simp [blkB, h])
            have g2 : c.toNat ≠ 9 := fun h => hb (by simp [blkB, h])
            have g3 : c.toNat ≠ 13 := fun h => hb (by simp [blkB, h])
            simp only [if_neg h35, if_neg h10, if_neg g1, if_neg g2, bifF, decide_eq_false g3]
            have hnew : ((appM 32 out [(⟨kindC c.toNat, [c], (i : Int)⟩ : M_retrospectref16_Word)]).bind fun y596 =>
                (getI y596 (wrap64 ((y596.length : Int) - 1))).bind fun y598 =>
                  if y598.Kind = 0 then bif true then some (Lp.out (Lp.out (([] : List M_retrospectref16_Word), (i : Int)))) else some (Lp.go (y596, false, wrap64 ((i : Int) + 1)))
                  else bif decide ((mostC y598.Kind : Int) < (y598.Text.length : Int)) then some (Lp.out (Lp.out (([] : List M_retrospectref16_Word), (i : Int)))) else some (Lp.go (y596, false, wrap64 ((i : Int) + 1)))) =
                some (toLpp (τ0 := List M_retrospectref16_Word) (fun (b : List M_retrospectref16_Word × Bool) i => (b.1, b.2, (i : Int))) i (if kindC c.toNat = 0 then .inr ([], (i : Int)) else .inl (out ++ [⟨kindC c.toNat, [c], i⟩], false))) := by
              rw [appM_ok (by simp; omega) (by simp; omega), sbind, getI_lastq (by omega), sbind]
              by_cases h0 : kindC c.toNat = 0
              · simp only [h0, if_true, bifT, toLpp]
              · simp only [if_neg h0]
                rw [decide_eq_false (by have := (most_pos (kindC c.toNat)).1; simp; omega), hw1]; rfl
            have hinv : ∀ b' : List M_retrospectref16_Word × Bool, (if kindC c.toNat = 0 then (.inr ([], (i : Int)) : (List M_retrospectref16_Word × Bool) ⊕ (List M_retrospectref16_Word × Int)) else .inl (out ++ [⟨kindC c.toNat, [c], i⟩], false)) = .inl b' →
                b'.1.length ≤ i + 1 ∧ ∀ w ∈ b'.1, 0 ≤ w.At ∧ w.At + w.Text.length ≤ ((i + 1 : Nat) : Int) := by
              intro b' h
              by_cases h0 : kindC c.toNat = 0
              · rw [if_pos h0] at h; cases h
              · rw [if_neg h0] at h; cases h
                refine ⟨by simp; omega, fun w hw => ?_⟩
                rcases List.mem_append.1 hw with h | h
                · have := hI2 w h; omega
                · rw [List.mem_singleton.1 h]; simp
            rcases List.eq_nil_or_concat out with rfl | ⟨l, w, rfl⟩
            · have hr : rstep i c ([], false) = (if kindC c.toNat = 0 then .inr ([], (i : Int)) else .inl ([] ++ [⟨kindC c.toNat, [c], i⟩], false)) := by simp [rstep, h10, h35, hb']
              rw [hr]
              refine ⟨?_, hinv⟩
              rw [if_neg (by simp)]
              exact hnew
            · rw [List.concat_eq_append] at *
              have hw := hI2 w (by simp)
              have hll : l.length + 1 ≤ i := by simpa using hI1
              have hlast : getI (l ++ [w]) (wrap64 (((l ++ [w]).length : Int) - 1)) = some w := getI_lastq (by omega)
              have hr : rstep i c (l ++ [w], false) = (if w.At + w.Text.length = i ∧ goC w.Kind c.toNat = true then
                  (if w.Kind = 0 ∨ mostC w.Kind < w.Text.length + 1 then .inr ([], (i : Int)) else .inl (l ++ [⟨w.Kind, w.Text ++ [c], w.At⟩], false))
                else if kindC c.toNat = 0 then .inr ([], (i : Int)) else .inl (l ++ [w] ++ [⟨kindC c.toNat, [c], i⟩], false)) := by simp [rstep, h10, h35, hb']
              rw [hr]
              rw [if_pos (show 0 < ((l ++ [w]).length : Int) by rw [List.length_append, List.length_singleton]; omega)]
              simp only [hlast, sbind]
              rw [w64 (by omega) (by omega)]
              by_cases hat : w.At + w.Text.length = i
              · rw [if_pos hat]
                by_cases hgo : goC w.Kind c.toNat = true
                · rw [if_pos ⟨hat, hgo⟩]
                  simp only [hgo, bifT]
                  rw [catS_ok (by simp; omega), sbind, set_lastq (by omega), getI_lastq (by omega), sbind]
                  by_cases h0 : w.Kind = 0
                  · simp only [h0, if_true, true_or, toLpp]
                    exact ⟨trivial, fun b' hb' => by cases hb'⟩
                  · by_cases hm : mostC w.Kind < w.Text.length + 1
                    · have hd : decide ((mostC w.Kind : Int) < ((w.Text ++ [c]).length : Int)) = true := decide_eq_true (by simp; omega)
                      simp only [h0, if_false, hd, bifT, false_or, if_pos hm]
                      exact ⟨rfl, fun b' hb' => by cases hb'⟩
                    · have hd : decide ((mostC w.Kind : Int) < ((w.Text ++ [c]).length : Int)) = false := decide_eq_false (by simp; omega)
                      simp only [h0, if_false, hd, bifF, false_or, if_neg hm, hw1]
                      refine ⟨rfl, fun b' hb' => ?_⟩
                      cases hb'
                      refine ⟨by simp; omega, fun v hv => ?_⟩
                      rcases List.mem_append.1 hv with h | h
                      · have := hI2 v (by simp [h]); omega
                      · rw [List.mem_singleton.1 h]; simp; omega
                · rw [if_neg (fun h => hgo h.2)]
                  simp only [show goC w.Kind c.toNat = false by simpa using hgo, bifF]
                  exact ⟨hnew, hinv⟩
              · rw [if_neg hat, if_neg (fun h => hat h.1)]
                exact ⟨hnew, hinv⟩
def wsR (out : List M_retrospectref16_Word) : List M_retrospectref16_Word ⊕ Nat → List M_retrospectref16_Word × Int
  | .inl ws => (out ++ ws, -1)
  | .inr p => ([], (p : Int))
theorem wsR_inl (out ws) : wsR out (.inl ws) = (out ++ ws, -1) := Eq.symm (Eq.symm rfl)
theorem wsR_inr (out p) : wsR out (.inr p) = ([], (p : Int)) := Eq.symm (Eq.symm rfl)
theorem rscan_nil (i b) : rscan [] i b = (b.1, (-1 : Int)) := Eq.symm (Eq.symm rfl)
theorem rscan_inl {c r i b b'} (h : rstep i c b = .inl b') : rscan (c :: r) i b = rscan r (i + 1) b' := by unfold rscan; simp only [runG, h]
theorem rscan_inr {c r i b t} (h : rstep i c b = .inr t) : rscan (c :: r) i b = t := by unfold rscan; simp only [runG, h]
theorem kind_blk {c : Nat} (h : kindC c ≠ 0) : blkB c = false ∧ c ≠ 35 := by
  constructor
  · cases hb : blkB c with
    | false => rfl
    | true =>
      exfalso; apply h
      simp only [blkB, decide_eq_true_eq] at hb
      rcases hb with rfl | rfl | rfl | rfl <;> decide
  · rintro rfl; exact h (by decide)
theorem go_kind {k : Int} {c : Nat} (h : goC k c = true) : kindC c ≠ 0 := by
  unfold goC at h; unfold kindC
  simp only [Bool.or_eq_true, Bool.and_eq_true] at h
  rcases h with ⟨_, h⟩ | ⟨_, h | h⟩
  · rw [if_pos h]; decide
  · rw [if_pos h]; split <;> decide
  · rw [if_pos h]; decide
theorem blk10 : blkB 10 = true := by decide
theorem note_run : ∀ (s : List UInt8) (i : Nat) (out), rscan s i (out, true) = rscan (s.dropWhile (fun b => b.toNat ≠ 10)) (i + (s.takeWhile (fun b => b.toNat ≠ 10)).length) (out, true)
  | [], i, out => rfl
  | c :: s, i, out => by
    rw [List.dropWhile_cons, List.takeWhile_cons]
    by_cases h : c.toNat = 10
    · simp [h]
    · simp only [ne_eq, h, not_false_eq_true, decide_true, if_true, List.length_cons]
      have hr : rstep i c (out, true) = .inl (out, true) := by unfold rstep; simp only [h, if_false]; split <;> simp
      rw [rscan_inl hr, note_run s (i + 1) out]
      rw [show i + ((s.takeWhile (fun b => decide (b.toNat ≠ 10))).length + 1) = i + 1 + (s.takeWhile (fun b => decide (b.toNat ≠ 10))).length by omega]
theorem last_snoc (l : List M_retrospectref16_Word) (w) : (l ++ [w]).getLast? = some w := by simp
theorem rstep_open {i : Nat} {c : UInt8} {l} {k : Int} {t : List UInt8} {a : Nat} (hgo : goC k c.toNat = true) (ha : a + t.length = i) (hk : k ≠ 0) :
    rstep i c (l ++ [⟨k, t, a⟩], false) = if mostC k < t.length + 1 then .inr ([], (i : Int)) else .inl (l ++ [⟨k, t ++ [c], a⟩], false) := by
  obtain ⟨g1, g2⟩ := kind_blk (go_kind hgo)
  have g3 : c.toNat ≠ 10 := fun h => by rw [h, blk10] at g1; cases g1
  unfold rstep
  simp only [if_neg g2, if_neg g3, g1, Bool.or_self, Bool.false_eq_true, if_false, last_snoc]
  rw [if_pos ⟨by omega, hgo⟩]
  simp only [hk, false_or, List.dropLast_concat]
theorem open_run : ∀ (p s : List UInt8) (i : Nat) (l : List M_retrospectref16_Word) (k : Int) (t : List UInt8) (a : Nat), (∀ b ∈ p, goC k b.toNat = true) → a + t.length = i → k ≠ 0 → t.length ≤ mostC k →
    rscan (p ++ s) i (l ++ [⟨k, t, a⟩], false) = if mostC k < t.length + p.length then ([], ((a + mostC k : Nat) : Int)) else rscan s (i + p.length) (l ++ [⟨k, t ++ p, a⟩], false)
  | [], s, i, l, k, t, a, _, _, _, hl => by
    rw [if_neg (by simp; omega)]; simp
  | c :: p, s, i, l, k, t, a, hp, ha, hk, hl => by
    have hs := rstep_open (l := l) (hp c (.head _)) ha hk
    rw [List.cons_append]
    by_cases hm : mostC k < t.length + 1
    · rw [if_pos hm] at hs
      rw [rscan_inr hs, if_pos (by simp; omega)]
      rw [show i = a + mostC k by omega]
    · rw [if_neg hm] at hs
      rw [rscan_inl hs, open_run p s (i + 1) l k (t ++ [c]) a (fun b hb => hp b (.tail _ hb)) (by simp; omega) hk (by simp; omega)]
      simp only [List.length_append, List.length_cons, List.append_assoc, List.singleton_append, List.length_nil]
      rw [show t.length + (0 + 1) + p.length = t.length + (p.length + 1) by omega, show i + 1 + p.length = i + (p.length + 1) by omega]
def fresh (out : List M_retrospectref16_Word) (i : Nat) (s : List UInt8) : Prop := ∀ w, out.getLast? = some w → w.At + w.Text.length ≤ i ∧ ∀ c r, s = c :: r → w.At + w.Text.length = (i : Int) → goC w.Kind c.toNat = false
theorem fresh_far {out : List M_retrospectref16_Word} {i j : Nat} {s s'} (h : fresh out i s) (hj : i < j) : fresh out j s' := fun w hw => by
  obtain ⟨h1, _⟩ := h w hw
  exact ⟨by omega, fun c r _ h3 => by omega⟩
theorem rstep_fresh {i : Nat} {c : UInt8} {r out} (hf : fresh out i (c :: r)) (h1 : blkB c.toNat = false) (h2 : c.toNat ≠ 35) :
    rstep i c (out, false) = if kindC c.toNat = 0 then .inr ([], (i : Int)) else .inl (out ++ [⟨kindC c.toNat, [c], i⟩], false) := by
  have g3 : c.toNat ≠ 10 := fun h => by rw [h, blk10] at h1; cases h1
  unfold rstep
  simp only [if_neg h2, if_neg g3, h1, Bool.or_self, Bool.false_eq_true, if_false]
  cases ho : out.getLast? with
  | none => rfl
  | some w =>
    obtain ⟨k1, k2⟩ := hf w ho
    simp only []
    rw [if_neg (fun h => by have := k2 c r rfl h.1; rw [h.2] at this; cases this)]
theorem wsR_wcons (out w x) : wsR out (wcons w x) = wsR (out ++ [w]) x := by cases x <;> simp [wsR, wcons]
theorem scan_eq : ∀ (m : Nat) (s : List UInt8) (i : Nat) (out), s.length ≤ m → fresh out i s → rscan s i (out, false) = wsR out (scanS s i)
  | _, [], i, out, _, _ => by rw [rscan_nil, scanS_nil]; simp [wsR]
  | 0, _ :: _, _, _, h, _ => by simp at h
  | m + 1, c :: r, i, out, hm, hf => by
    rw [scanS_cons]
    have hrm : r.length ≤ m := by simp at hm; omega
    by_cases hb : blkB c.toNat = true
    · rw [if_pos hb]
      have h35 : c.toNat ≠ 35 := fun h => by rw [h] at hb; exact absurd hb (by decide)
      have hs : rstep i c (out, false) = .inl (out, false) := by unfold rstep; simp only [if_neg h35, hb, Bool.or_true, if_true]; split <;> rfl
      rw [rscan_inl hs]
      exact scan_eq m r (i + 1) out hrm (fresh_far hf (by omega))
    · rw [if_neg hb]
      have hb' : blkB c.toNat = false := by simpa using hb
      by_cases h35 : c.toNat = 35
      · rw [if_pos h35]
        have hs : rstep i c (out, false) = .inl (out, true) := by unfold rstep; simp only [if_pos h35, Bool.true_or, if_true]
        rw [rscan_inl hs, note_run]
        have hd := dropWhile_le (fun b : UInt8 => decide (b.toNat ≠ 10)) r
        generalize hj : i + 1 + (r.takeWhile (fun b => decide (b.toNat ≠ 10))).length = j
        have hij : i < j := by omega
        cases hq : r.dropWhile (fun b => decide (b.toNat ≠ 10)) with
        | nil => rw [rscan_nil, scanS_nil]; simp [wsR]
        | cons d q =>
          have hd10 : d.toNat = 10 := by
            have := List.head?_dropWhile_not (fun b : UInt8 => decide (b.toNat ≠ 10)) r
            rw [hq] at this; simpa using this
          have hs2 : rstep j d (out, true) = .inl (out, false) := by unfold rstep; simp [hd10, blkB]
          rw [rscan_inl hs2, scanS_cons, if_pos (by rw [hd10]; decide)]
          rw [hq] at hd
          exact scan_eq m q (j + 1) out (by simp at hd; omega) (fresh_far hf (by omega))
      · rw [if_neg h35]
        have hs := rstep_fresh hf hb' h35
        by_cases h0 : kindC c.toNat = 0
        · rw [if_pos h0] at hs ⊢
          rw [rscan_inr hs]; rfl
        · rw [if_neg h0] at hs ⊢
          rw [rscan_inl hs]
          generalize hk : kindC c.toNat = k at *
          have hall : ∀ b ∈ tailK k r, goC k b.toNat = true := fun b hb => by
            have := List.all_takeWhile (p := fun b : UInt8 => goC k b.toNat) (l := r)
            exact (List.all_eq_true.1 this) b hb
          have hsplit : r = tailK k r ++ r.drop (tailK k r).length := by
            have h1 := takeWhile_take (fun b : UInt8 => goC k b.toNat) r
            have h2 : tailK k r = r.take (tailK k r).length := h1
            conv => lhs; rw [← List.take_append_drop (tailK k r).length r]
            rw [← h2]
          have hrun := open_run (tailK k r) (r.drop (tailK k r).length) (i + 1) out k [c] i hall (by simp) h0 (most_pos k).1
          rw [← hsplit] at hrun
          rw [hrun]
          simp only [List.length_singleton, List.singleton_append]
          by_cases hm2 : mostC k < 1 + (tailK k r).length
          · rw [if_pos hm2, if_pos hm2]; rfl
          · rw [if_neg hm2, if_neg hm2, wsR_wcons]
            refine scan_eq m _ _ _ (by rw [List.length_drop]; omega) ?_
            intro w hw
            rw [last_snoc] at hw
            cases hw
            refine ⟨by simp; omega, fun d q hq _ => ?_⟩
            have : r[(tailK k r).length]? = some d := by
              have := congrArg (fun l => l[0]?) hq
              simpa using this
            exact takeWhile_end (p := fun b : UInt8 => goC k b.toNat) this
theorem m_ref16_Scan_spec {n : Nat} {s : List UInt8} (hn : big ≤ n) : m_retrospectref16_Scan n s = some (if 4000 < s.length then ([], 4000) else wsR [] (scanS s 0)) := by
  rw [m_ref16_Scan_eq hn, scan_eq s.length s 0 [] (Nat.le_refl _) (fun w h => by cases h)]
theorem scanS_len : ∀ (m : Nat) (s : List UInt8) (i : Nat) (ws), s.length ≤ m → scanS s i = .inl ws → ∀ w ∈ ws, w.Text.length ≤ s.length
  | _, [], i, ws, _, h => by rw [scanS_nil] at h; cases h; simp
  | 0, _ :: _, _, _, h, _ => by simp at h
  | m + 1, c :: r, i, ws, hm, h => by
    have hrm : r.length ≤ m := by simp at hm; omega
    rw [scanS_cons] at h
    intro w hw
    rw [List.length_cons]
    by_cases hb : blkB c.toNat = true
    · rw [if_pos hb] at h
      have := scanS_len m r _ ws hrm h w hw; omega
    · rw [if_neg hb] at h
      by_cases h35 : c.toNat = 35
      · rw [if_pos h35] at h
        have hd := dropWhile_le (fun b : UInt8 => decide (b.toNat ≠ 10)) r
        have := scanS_len m _ _ ws (by omega) h w hw; omega
      · rw [if_neg h35] at h
        by_cases h0 : kindC c.toNat = 0
        · rw [if_pos h0] at h; cases h
        · rw [if_neg h0] at h
          by_cases hm2 : mostC (kindC c.toNat) < 1 + (tailK (kindC c.toNat) r).length
          · rw [if_pos hm2] at h; cases h
          · rw [if_neg hm2] at h
            cases hq : scanS (r.drop (tailK (kindC c.toNat) r).length) (i + 1 + (tailK (kindC c.toNat) r).length) with
            | inr p => rw [hq] at h; cases h
            | inl l =>
              rw [hq] at h; cases h
              rcases List.mem_cons.1 hw with rfl | h'
              · simp only [List.length_cons]
                have : (tailK (kindC c.toNat) r).length ≤ r.length := takeWhile_le _ _
                omega
              · have := scanS_len m _ _ l (by rw [List.length_drop]; omega) hq w h'
                rw [List.length_drop] at this; omega
theorem wdB_cons (k : Int) (c : UInt8) (r : List UInt8) : wdB k (c :: r) = true ↔ k ≠ 0 ∧ kindC c.toNat = k ∧ r.all (fun b => goC k b.toNat) = true ∧ r.length + 1 ≤ mostC k := by
  simp [wdB]
theorem tailK_all {k : Int} {r : List UInt8} (h : r.all (fun b => goC k b.toNat) = true) : tailK k r = r := by
  have h1 := all_takeWhile.2 h
  have h2 := takeWhile_take (fun b : UInt8 => goC k b.toNat) r
  unfold tailK
  rw [h2, h1, List.take_length]
/-- A word alone. -/
theorem scan_one {k : Int} {t : List UInt8} (h : wdB k t = true) (i : Nat) : scanS t i = .inl [⟨k, t, i⟩] := by
  cases t with
  | nil => cases h
  | cons c r =>
    obtain ⟨h1, h2, h3, h4⟩ := (wdB_cons k c r).1 h
    obtain ⟨g1, g2⟩ := kind_blk (c := c.toNat) (by rw [h2]; exact h1)
    rw [scanS_cons, if_neg (by rw [g1]; decide), if_neg g2, h2, if_neg h1, tailK_all h3, if_neg (by omega), List.drop_length, scanS_nil]; rfl
theorem m_ref16_Right_eq {n : Nat} {w : M_retrospectref16_Word} (hn : big ≤ n) : m_retrospectref16_Right n w = some (wdB w.Kind w.Text) := by
  unfold m_retrospectref16_Right
  rw [m_ref16_Scan_spec hn, sbind]
  by_cases hl : 4000 < w.Text.length
  · rw [if_pos hl]
    have : wdB w.Kind w.Text = false := by
      cases hw : w.Text with
      | nil => rfl
      | cons c r =>
        rw [hw] at hl
        cases hb : wdB w.Kind (c :: r) with
        | false => rfl
        | true => have := ((wdB_cons _ c r).1 hb).2.2.2; have := (most_pos w.Kind).2; simp at hl; omega
    rw [this]; rfl
  · rw [if_neg hl]
    cases hb : wdB w.Kind w.Text with
    | true => rw [scan_one hb]; simp [wsR, jn_eq, getI]
    | false =>
      cases hs : scanS w.Text 0 with
      | inr p => rw [wsR_inr]; simp only [jn_eq, bifd]; rw [if_neg (by omega)]
      | inl ws =>
        rw [wsR_inl, List.nil_append]
        simp only [jn_eq, bifd]
        rw [if_pos (by decide)]
        match ws, hs with
        | [], _ => rfl
        | [v], hs =>
          simp only [show (([v].length : Nat) : Int) = 1 by rfl, if_true, show getI [v] (0 : Int) = some v by rfl, sbind]
          by_cases hk : v.Kind = w.Kind
          · rw [if_pos hk]
            by_cases ht : v.Text = w.Text
            · exfalso
              -- the word is the text
              cases hw : w.Text with
              | nil => rw [hw, scanS_nil] at hs; cases hs
              | cons c r =>
                rw [hw] at hs hb ht
                rw [scanS_cons] at hs
                by_cases g1 : blkB c.toNat = true
                · rw [if_pos g1] at hs
                  have := scanS_len r.length r _ _ (Nat.le_refl _) hs v (by simp)
                  rw [ht] at this; simp at this; omega
                · rw [if_neg g1] at hs
                  by_cases h35 : c.toNat = 35
                  · rw [if_pos h35] at hs
                    have hd := dropWhile_le (fun b : UInt8 => decide (b.toNat ≠ 10)) r
                    have := scanS_len _ _ _ _ (Nat.le_refl _) hs v (by simp)
                    rw [ht] at this; simp at this; simp at hd; omega
                  · rw [if_neg h35] at hs
                    by_cases h0 : kindC c.toNat = 0
                    · rw [if_pos h0] at hs; cases hs
                    · rw [if_neg h0] at hs
                      by_cases hm2 : mostC (kindC c.toNat) < 1 + (tailK (kindC c.toNat) r).length
                      · rw [if_pos hm2] at hs; cases hs
                      · rw [if_neg hm2] at hs
                        cases hq : scanS (r.drop (tailK (kindC c.toNat) r).length) (0 + 1 + (tailK (kindC c.toNat) r).length) with
                        | inr p => rw [hq] at hs; cases hs
                        | inl l =>
                          rw [hq] at hs
                          simp only [wcons, Sum.inl.injEq, List.cons.injEq] at hs
                          obtain ⟨rfl, _⟩ := hs
                          simp only at ht hk
                          have ht' : tailK (kindC c.toNat) r = r := (List.cons.inj ht).2
                          have : wdB w.Kind (c :: r) = true := by
                            rw [wdB_cons, ← hk]
                            refine ⟨h0, rfl, ?_, by rw [ht'] at hm2; omega⟩
                            exact all_takeWhile.1 (by have := congrArg List.length ht'; exact this)
                          rw [this] at hb; cases hb
            · simp [ht]
          · rw [if_neg hk]
        | v :: u :: l, _ => rw [if_neg (by simp; omega)]
end Go.Proofs.YtpomhkkhdojpiaaDoor
