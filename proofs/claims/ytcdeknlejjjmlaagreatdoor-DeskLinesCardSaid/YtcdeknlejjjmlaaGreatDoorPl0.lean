import Derived.Test.YtcdeknlejjjmlaaGreatDoorLibM
namespace Go.Proofs.YtcdeknlejjjmlaaGreatDoor
open Go Go.RowKit
/-! ### Plain laws of the models' words -/
def big : Nat := 18446744073709551616
theorem w64 {x : Int} (h1 : -9223372036854775808 ≤ x) (h2 : x ≤ 9223372036854775807) : wrap64 x = x := by unfold wrap64; omega
theorem bifd {α : Type} (p : Prop) [Decidable p] (a b : α) : (bif decide p then a else b) = if p then a else b := by by_cases h : p <;> simp [h]
theorem bifnd {α : Type} (p : Prop) [Decidable p] (a b : α) : (bif !decide p then a else b) = if p then b else a := by by_cases h : p <;> simp [h]
theorem bifT {α : Type} (a b : α) : (bif true then a else b) = a := Eq.symm (Eq.symm rfl)
theorem bifF {α : Type} (a b : α) : (bif false then a else b) = b := Eq.symm (Eq.symm rfl)
theorem jn_eq {σ ρ : Type} (A : (σ → Option ρ) → Option ρ) (k : σ → Option ρ) : jn A k = A k := Eq.symm (Eq.symm rfl)
theorem lpK_go {τ ρ : Type} (k : τ → Option ρ) (t : τ) : lpK k (.go t) = k t := Eq.symm (Eq.symm rfl)
theorem lpK_out {τ ρ : Type} (k : τ → Option ρ) (r : ρ) : lpK k (.out r) = some r := Eq.symm (Eq.symm rfl)
theorem sbind {α β : Type} (a : α) (f : α → Option β) : (some a).bind f = f a := Eq.symm (Eq.symm rfl)
theorem getI_cast {α : Type} (l : List α) (i : Nat) : getI l (i : Int) = l[i]? := by simp [getI]
theorem getI_get {α : Type} {l : List α} {i : Nat} (h : i < l.length) : getI l (i : Int) = some l[i] := by rw [getI_cast]; simp [h]
theorem getS_cast (l : List UInt8) (i : Nat) : getS l (i : Int) = (l[i]?).map (·.toNat) := by simp [getS]
theorem getS_get {l : List UInt8} {i : Nat} (h : i < l.length) : getS l (i : Int) = some l[i].toNat := by rw [getS_cast]; simp [h]
theorem grd_t {b : Bool} (h : b = true) : grd b = some () := by rw [h]; rfl
theorem sub_take {α : Type} {l : List α} {k : Nat} (h : k ≤ l.length) : sub l 0 (k : Int) = some (l.take k) := by
  unfold sub; rw [if_pos (by omega)]; simp
theorem sub_mid {α : Type} {l : List α} {i k : Nat} (h1 : i ≤ k) (h : k ≤ l.length) : sub l (i : Int) (k : Int) = some ((l.take k).drop i) := by
  unfold sub; rw [if_pos (by omega)]; simp
theorem appM_ok {α : Type} {b : Nat} {l r : List α} (h : (l.length + r.length) * b ≤ 140737488355328) (h2 : l.length + r.length ≤ 9223372036854775807) : appM b l r = some (l ++ r) := by
  unfold appM; rw [if_pos ⟨h, h2⟩]
theorem mkM_ok {α : Type} {b : Nat} {z : α} {n : Nat} (h : n * b ≤ 140737488355328) (h2 : n ≤ 9223372036854775807) : mkM b z (n : Int) = some (List.replicate n z) := by
  unfold mkM; rw [if_pos (by omega)]; simp
theorem catS_ok {l r : List UInt8} (h2 : l.length + r.length ≤ 9223372036854775807) : catS l r = some (l ++ r) := by
  unfold catS; rw [if_pos h2]
/-- A loop, by an invariant and a measure. -/
theorem loop_run {σ τ : Type} {f : σ → Option (Lp σ τ)} (μ : σ → Nat) (I : σ → Prop) (Q : τ → Prop)
    (hb : ∀ s, I s → (∃ s', f s = some (.go s') ∧ I s' ∧ μ s' < μ s) ∨ (∃ t, f s = some (.out t) ∧ Q t)) : ∀ (n : Nat) (s : σ), I s → μ s < n → ∃ t, loopM f n s = some t ∧ Q t
  | 0, _, _, h => absurd h (Nat.not_lt_zero _)
  | n + 1, s, hI, hn => by
    rcases hb s hI with ⟨s', h1, h2, h3⟩ | ⟨t, h1, h2⟩
    · obtain ⟨t, h4, h5⟩ := loop_run μ I Q hb n s' h2 (by omega)
      exact ⟨t, by simp only [loopM, h1, Option.bind_some]; exact h4, h5⟩
    · exact ⟨t, by simp only [loopM, h1, Option.bind_some], h2⟩
theorem loop_bind {σ τ R : Type} {f : σ → Option (Lp σ τ)} {n : Nat} {s : σ} {k : τ → Option R} {r : R} (μ : σ → Nat) (I : σ → Prop) (Q : τ → Prop) (h0 : I s) (hn : μ s < n)
    (hb : ∀ s, I s → (∃ s', f s = some (.go s') ∧ I s' ∧ μ s' < μ s) ∨ (∃ t, f s = some (.out t) ∧ Q t)) (hk : ∀ t, Q t → k t = some r) : (loopM f n s).bind k = some r := by
  obtain ⟨t, h1, h2⟩ := loop_run μ I Q hb n s h0 hn
  rw [h1, Option.bind_some]; exact hk t h2
theorem loop_bindE {σ τ R : Type} {f : σ → Option (Lp σ τ)} {n : Nat} {s : σ} {k : τ → Option R} {P : R → Prop} (μ : σ → Nat) (I : σ → Prop) (Q : τ → Prop) (h0 : I s) (hn : μ s < n)
    (hb : ∀ s, I s → (∃ s', f s = some (.go s') ∧ I s' ∧ μ s' < μ s) ∨ (∃ t, f s = some (.out t) ∧ Q t)) (hk : ∀ t, Q t → ∃ r, k t = some r ∧ P r) : ∃ r, (loopM f n s).bind k = some r ∧ P r := by
  obtain ⟨t, h1, h2⟩ := loop_run μ I Q hb n s h0 hn
  rw [h1, Option.bind_some]; exact hk t h2
theorem loop_bindX {σ τ R β : Type} {f : σ → Option (Lp σ τ)} {n : Nat} {s : σ} {k : τ → Option R} {g : β → R} {P : β → Prop} (μ : σ → Nat) (I : σ → Prop) (Q : τ → Prop) (h0 : I s) (hn : μ s < n)
    (hb : ∀ s, I s → (∃ s', f s = some (.go s') ∧ I s' ∧ μ s' < μ s) ∨ (∃ t, f s = some (.out t) ∧ Q t)) (hk : ∀ t, Q t → ∃ b, k t = some (g b) ∧ P b) : ∃ b, (loopM f n s).bind k = some (g b) ∧ P b := by
  obtain ⟨t, h1, h2⟩ := loop_run μ I Q hb n s h0 hn
  rw [h1, Option.bind_some]; exact hk t h2
/-- A loop whose rounds are known: i counts them. -/
theorem loop_go {σ τ : Type} {f : σ → Option (Lp σ τ)} {s s' : σ} {n : Nat} (h : f s = some (.go s')) : loopM f (n + 1) s = loopM f n s' := by simp only [loopM, h, Option.bind_some]
theorem loop_out {σ τ : Type} {f : σ → Option (Lp σ τ)} {s : σ} {t : τ} {n : Nat} (h : f s = some (.out t)) (hn : 0 < n) : loopM f n s = some t := by
  obtain ⟨m, rfl⟩ : ∃ m, n = m + 1 := ⟨n - 1, by omega⟩
  simp only [loopM, h, Option.bind_some]
/-- A range loop that is never left. -/
theorem range_run {α σ τ : Type} {f : Nat → α → σ → Option (Lp σ τ)} (I : Nat → σ → Prop) : ∀ (xs : List α) (i : Nat) (s : σ), I i s → (∀ j x s, xs[j]? = some x → I (i + j) s → ∃ s', f (i + j) x s = some (.go s') ∧ I (i + j + 1) s') →
    ∃ s', rangeL f xs i s = some (.go s') ∧ I (i + xs.length) s'
  | [], i, s, h, _ => ⟨s, rfl, h⟩
  | x :: xs, i, s, h, hb => by
    obtain ⟨s1, h1, h2⟩ := hb 0 x s rfl h
    simp only [Nat.add_zero] at h1 h2
    obtain ⟨s2, h3, h4⟩ := range_run I xs (i + 1) s1 h2 (fun j y t hj ht => by
      have := hb (j + 1) y t (by simpa using hj) (by rw [show i + (j + 1) = i + 1 + j by omega]; exact ht)
      rw [show i + (j + 1) = i + 1 + j by omega] at this
      exact this)
    refine ⟨s2, by simp only [rangeL, h1, Option.bind_some]; exact h3, ?_⟩
    rw [List.length_cons, show i + (xs.length + 1) = i + 1 + xs.length by omega]; exact h4
theorem range_bind {α σ τ R : Type} {f : Nat → α → σ → Option (Lp σ τ)} {xs : List α} {s : σ} {k : Lp σ τ → Option R} {r : R} (I : Nat → σ → Prop) (h0 : I 0 s)
    (hb : ∀ j x s, xs[j]? = some x → I j s → ∃ s', f j x s = some (.go s') ∧ I (j + 1) s') (hk : ∀ t, I xs.length t → k (.go t) = some r) : (rangeL f xs 0 s).bind k = some r := by
  obtain ⟨s', h1, h2⟩ := range_run I xs 0 s h0 (fun j x s hj hs => by rw [Nat.zero_add] at hs ⊢; exact hb j x s hj hs)
  rw [h1, Option.bind_some]; exact hk s' (by simpa using h2)
theorem range_bindE {α σ τ R : Type} {f : Nat → α → σ → Option (Lp σ τ)} {xs : List α} {s : σ} {k : Lp σ τ → Option R} {P : R → Prop} (I : Nat → σ → Prop) (h0 : I 0 s)
    (hb : ∀ j x s, xs[j]? = some x → I j s → ∃ s', f j x s = some (.go s') ∧ I (j + 1) s') (hk : ∀ t, I xs.length t → ∃ r, k (.go t) = some r ∧ P r) : ∃ r, (rangeL f xs 0 s).bind k = some r ∧ P r := by
  obtain ⟨s', h1, h2⟩ := range_run I xs 0 s h0 (fun j x s hj hs => by rw [Nat.zero_add] at hs ⊢; exact hb j x s hj hs)
  rw [h1, Option.bind_some]; exact hk s' (by simpa using h2)
end Go.Proofs.YtcdeknlejjjmlaaGreatDoor
