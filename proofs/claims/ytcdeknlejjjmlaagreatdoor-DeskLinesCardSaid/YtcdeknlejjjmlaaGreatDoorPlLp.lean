import Derived.Test.YtcdeknlejjjmlaaGreatDoorPl1
namespace Go.Proofs.YtcdeknlejjjmlaaGreatDoor
open Go Go.RowKit
/-! ### Loops whose states are known, loops that check -/
theorem loop_acc' {σ τ : Type} {f : σ → Option (Lp σ τ)} (F : Nat → σ) {t : τ} : ∀ (N k n : Nat), (∀ i, i < N → f (F (k + i)) = some (.go (F (k + i + 1)))) → f (F (k + N)) = some (.out t) → N < n → loopM f n (F k) = some t
  | 0, k, n, _, he, hn => loop_out he (by omega)
  | N + 1, k, n, hb, he, hn => by
    obtain ⟨m, rfl⟩ : ∃ m, n = m + 1 := ⟨n - 1, by omega⟩
    have h0 := hb 0 (by omega)
    simp only [Nat.add_zero] at h0
    rw [loop_go h0]
    exact loop_acc' F N (k + 1) m (fun i hi => by have := hb (i + 1) (by omega); rw [show k + (i + 1) = k + 1 + i by omega] at this; exact this) (by rw [show k + 1 + N = k + (N + 1) by omega]; exact he) (by omega)
theorem loop_acc {σ τ R : Type} {f : σ → Option (Lp σ τ)} {s : σ} {K : τ → Option R} {n : Nat} (F : Nat → σ) (N : Nat) (t : τ) (hb : ∀ i, i < N → f (F i) = some (.go (F (i + 1)))) (he : f (F N) = some (.out t)) (hn : N < n) (hs : s = F 0) : (loopM f n s).bind K = K t := by
  rw [hs, loop_acc' F (t := t) N 0 n (fun i hi => by rw [Nat.zero_add]; exact hb i hi) (by rw [Nat.zero_add]; exact he) hn, Option.bind_some]
theorem range_acc' {α σ τ : Type} {f : Nat → α → σ → Option (Lp σ τ)} (F : Nat → σ) : ∀ (xs : List α) (k : Nat), (∀ i x, xs[i]? = some x → f (k + i) x (F (k + i)) = some (.go (F (k + i + 1)))) → rangeL f xs k (F k) = some (.go (F (k + xs.length)))
  | [], _, _ => rfl
  | x :: xs, k, hb => by
    have h0 := hb 0 x rfl
    simp only [Nat.add_zero] at h0
    simp only [rangeL, h0, Option.bind_some]
    rw [range_acc' F xs (k + 1) (fun i y hy => by have := hb (i + 1) y (by simpa using hy); rw [show k + (i + 1) = k + 1 + i by omega] at this; exact this), List.length_cons, show k + 1 + xs.length = k + (xs.length + 1) by omega]
theorem range_acc {α σ τ R : Type} {f : Nat → α → σ → Option (Lp σ τ)} {s : σ} {K : Lp σ τ → Option R} (F : Nat → σ) (xs : List α) (hb : ∀ i x, xs[i]? = some x → f i x (F i) = some (.go (F (i + 1)))) (hs : s = F 0) : (rangeL f xs 0 s).bind K = K (.go (F xs.length)) := by
  rw [hs, range_acc' F xs 0 (fun i x hx => by rw [Nat.zero_add]; exact hb i x hx), Option.bind_some, Nat.zero_add]
theorem range_chk' {α R : Type} {f : Nat → α → Unit → Option (Lp Unit R)} {r : R} (P : Nat → α → Prop) : ∀ (xs : List α) (k : Nat), (∀ i x, xs[i]? = some x → (P (k + i) x → f (k + i) x () = some (.go ())) ∧ (¬ P (k + i) x → f (k + i) x () = some (.out r))) →
    ((∀ i x, xs[i]? = some x → P (k + i) x) → rangeL f xs k () = some (.go ())) ∧ (¬ (∀ i x, xs[i]? = some x → P (k + i) x) → rangeL f xs k () = some (.out r))
  | [], k, _ => ⟨fun _ => rfl, fun h => absurd (fun i x hx => by simp at hx) h⟩
  | x :: xs, k, hb => by
    obtain ⟨h1, h2⟩ := hb 0 x rfl
    simp only [Nat.add_zero] at h1 h2
    obtain ⟨g1, g2⟩ := range_chk' P xs (k + 1) (fun i y hy => by have := hb (i + 1) y (by simpa using hy); rw [show k + (i + 1) = k + 1 + i by omega] at this; exact this)
    by_cases hp : P k x
    · have e : (∀ i y, (x :: xs)[i]? = some y → P (k + i) y) ↔ (∀ i y, xs[i]? = some y → P (k + 1 + i) y) := by
        constructor
        · intro h i y hy; have := h (i + 1) y (by simpa using hy); rw [show k + (i + 1) = k + 1 + i by omega] at this; exact this
        · intro h i y hy
          cases i with
          | zero => simp at hy; subst hy; exact hp
          | succ i => rw [show k + (i + 1) = k + 1 + i by omega]; exact h i y (by simpa using hy)
      rw [e]
      simp only [rangeL, h1 hp, Option.bind_some]
      exact ⟨g1, g2⟩
    · refine ⟨fun h => absurd (h 0 x rfl) hp, fun _ => ?_⟩
      simp only [rangeL, h2 hp, Option.bind_some]
open Classical in
/-- A range that is left with r at the first thing that is not as it should be. -/
theorem range_chk {α R : Type} {f : Nat → α → Unit → Option (Lp Unit R)} {K : Unit → Option R} {r : R} (P : Nat → α → Prop) (xs : List α)
    (hb : ∀ i x, xs[i]? = some x → (P i x → f i x () = some (.go ())) ∧ (¬ P i x → f i x () = some (.out r))) :
    (rangeL f xs 0 ()).bind (lpK K) = if (∀ i x, xs[i]? = some x → P i x) then K () else some r := by
  obtain ⟨g1, g2⟩ := range_chk' P xs 0 (fun i x hx => by rw [Nat.zero_add]; exact hb i x hx)
  simp only [Nat.zero_add] at g1 g2
  by_cases h : ∀ i x, xs[i]? = some x → P i x
  · rw [if_pos h, g1 h, Option.bind_some, lpK_go]
  · rw [if_neg h, g2 h, Option.bind_some, lpK_out]
theorem loop_chk' {R : Type} {f : Int → Option (Lp Int (Lp Unit R))} {r : R} (P : Nat → Prop) : ∀ (N k n : Nat), (∀ i, i < k + N → k ≤ i → (P i → f (i : Int) = some (.go ((i + 1 : Nat) : Int))) ∧ (¬ P i → f (i : Int) = some (.out (.out r)))) → f ((k + N : Nat) : Int) = some (.out (.go ())) → N < n →
    ((∀ i, k ≤ i → i < k + N → P i) → loopM f n (k : Int) = some (.go ())) ∧ (¬ (∀ i, k ≤ i → i < k + N → P i) → loopM f n (k : Int) = some (.out r))
  | 0, k, n, _, he, hn => ⟨fun _ => loop_out he (by omega), fun h => absurd (fun i h1 h2 => by omega) h⟩
  | N + 1, k, n, hb, he, hn => by
    obtain ⟨m, rfl⟩ : ∃ m, n = m + 1 := ⟨n - 1, by omega⟩
    obtain ⟨h1, h2⟩ := hb k (by omega) (Nat.le_refl _)
    obtain ⟨g1, g2⟩ := loop_chk' P N (k + 1) m (fun i hi hk => hb i (by omega) (by omega)) (by rw [show k + 1 + N = k + (N + 1) by omega]; exact he) (by omega)
    by_cases hp : P k
    · have e : (∀ i, k ≤ i → i < k + (N + 1) → P i) ↔ (∀ i, k + 1 ≤ i → i < k + 1 + N → P i) := by
        constructor
        · intro h i a b; exact h i (by omega) (by omega)
        · intro h i a b
          rcases Nat.eq_or_lt_of_le a with c | c
          · exact c ▸ hp
          · exact h i c (by omega)
      rw [e, loop_go (h1 hp)]
      exact ⟨g1, g2⟩
    · exact ⟨fun h => absurd (h k (Nat.le_refl _) (by omega)) hp, fun _ => loop_out (h2 hp) (by omega)⟩
open Classical in
/-- The same, of a loop over 0 .. N - 1. -/
theorem loop_chk {R : Type} {f : Int → Option (Lp Int (Lp Unit R))} {K : Unit → Option R} {r : R} {n : Nat} (P : Nat → Prop) (N : Nat)
    (hb : ∀ i, i < N → (P i → f (i : Int) = some (.go ((i + 1 : Nat) : Int))) ∧ (¬ P i → f (i : Int) = some (.out (.out r)))) (he : f (N : Int) = some (.out (.go ()))) (hn : N < n) :
    (loopM f n 0).bind (lpK K) = if (∀ i, i < N → P i) then K () else some r := by
  obtain ⟨g1, g2⟩ := loop_chk' (n := n) (r := r) P N 0 (fun i hi _ => hb i (by omega)) (by rw [Nat.zero_add]; exact he) hn
  simp only [Nat.zero_add, Nat.zero_le, true_implies] at g1 g2
  by_cases h : ∀ i, i < N → P i
  · rw [if_pos h]
    have := g1 h
    rw [show ((0 : Nat) : Int) = 0 from rfl] at this
    rw [this, Option.bind_some, lpK_go]
  · rw [if_neg h]
    have := g2 h
    rw [show ((0 : Nat) : Int) = 0 from rfl] at this
    rw [this, Option.bind_some, lpK_out]
/-- A loop that makes a list, thing by thing. -/
theorem take_map_succ {α β : Type} (h : α → β) {l : List α} {i : Nat} {x : α} (hx : l[i]? = some x) : (l.take (i + 1)).map h = (l.take i).map h ++ [h x] := by
  rw [List.take_succ_eq_append_getElem (lt_of_get hx), List.map_append]
  have : l[i]'(lt_of_get hx) = x := by
    have := List.getElem?_eq_getElem (lt_of_get hx)
    rw [this] at hx; exact Option.some.inj hx
  simp [this]
end Go.Proofs.YtcdeknlejjjmlaaGreatDoor
