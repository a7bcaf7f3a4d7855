import Derived.Test.YtcdeknlejjjmlaaGreatDoorPl0
namespace Go.Proofs.YtcdeknlejjjmlaaGreatDoor
open Go Go.RowKit
/-! ### Loops over lists as functions -/
def runG {α β τ : Type} (g : Nat → α → β → β ⊕ τ) (e : β → τ) : List α → Nat → β → τ
  | [], _, b => e b
  | x :: xs, i, b => match g i x b with
    | .inl b' => runG g e xs (i + 1) b'
    | .inr t => t
def toLp {β σ τ : Type} (mk : β → Nat → σ) (i : Nat) : β ⊕ τ → Lp σ τ
  | .inl b => .go (mk b (i + 1))
  | .inr t => .out t
theorem loop_runG' {α β σ τ : Type} {f : σ → Option (Lp σ τ)} (mk : β → Nat → σ) (g : Nat → α → β → β ⊕ τ) (e : β → τ) (I : Nat → β → Prop) : ∀ (xs : List α) (k : Nat) (b : β) (n : Nat),
    (∀ i x b, xs[i]? = some x → I (k + i) b → f (mk b (k + i)) = some (toLp mk (k + i) (g (k + i) x b)) ∧ ∀ b', g (k + i) x b = .inl b' → I (k + i + 1) b') →
    (∀ b, I (k + xs.length) b → f (mk b (k + xs.length)) = some (.out (e b))) → I k b → xs.length < n → loopM f n (mk b k) = some (runG g e xs k b)
  | [], k, b, n, _, he, h0, hn => by
    simp only [List.length_nil, Nat.add_zero] at he
    rw [loop_out (he b h0) (by omega)]; rfl
  | x :: xs, k, b, n, hb, he, h0, hn => by
    obtain ⟨m, rfl⟩ : ∃ m, n = m + 1 := ⟨n - 1, by simp at hn; omega⟩
    obtain ⟨h1, h2⟩ := hb 0 x b rfl h0
    simp only [Nat.add_zero] at h1 h2
    simp only [runG]
    cases hg : g k x b with
    | inl b' =>
      rw [hg] at h1
      rw [loop_go h1]
      refine loop_runG' mk g e I xs (k + 1) b' m (fun i y c hy hc => ?_) (fun c hc => ?_) (h2 b' hg) (by simp at hn; omega)
      · have := hb (i + 1) y c (by simpa using hy)
        rw [show k + (i + 1) = k + 1 + i by omega] at this
        exact this hc
      · have := he c
        rw [List.length_cons, show k + (xs.length + 1) = k + 1 + xs.length by omega] at this
        exact this hc
    | inr t => rw [hg] at h1; rw [loop_out h1 (by omega)]
theorem loop_runG {α β σ τ : Type} {f : σ → Option (Lp σ τ)} (mk : β → Nat → σ) (g : Nat → α → β → β ⊕ τ) (e : β → τ) (I : Nat → β → Prop) (xs : List α) {b : β} {n : Nat}
    (hb : ∀ i x b, xs[i]? = some x → I i b → f (mk b i) = some (toLp mk i (g i x b)) ∧ ∀ b', g i x b = .inl b' → I (i + 1) b')
    (he : ∀ b, I xs.length b → f (mk b xs.length) = some (.out (e b))) (h0 : I 0 b) (hn : xs.length < n) : loopM f n (mk b 0) = some (runG g e xs 0 b) :=
  loop_runG' mk g e I xs 0 b n (fun i x c hx hc => by rw [Nat.zero_add] at hc ⊢; exact hb i x c hx hc) (fun c hc => by rw [Nat.zero_add] at hc ⊢; exact he c hc) h0 hn
theorem loop_bnd {α β σ τ R : Type} {f : σ → Option (Lp σ τ)} {k : τ → Option R} {r : Option R} {s0 : σ} (mk : β → Nat → σ) (g : Nat → α → β → β ⊕ τ) (e : β → τ) (I : Nat → β → Prop) (xs : List α) (b : β) {n : Nat}
    (hb : ∀ i x b, xs[i]? = some x → I i b → f (mk b i) = some (toLp mk i (g i x b)) ∧ ∀ b', g i x b = .inl b' → I (i + 1) b')
    (he : ∀ b, I xs.length b → f (mk b xs.length) = some (.out (e b))) (h0 : I 0 b) (hn : xs.length < n) (hk : k (runG g e xs 0 b) = r) (hs : s0 = mk b 0 := by rfl) : (loopM f n s0).bind k = r := by
  rw [hs, loop_runG mk g e I xs hb he h0 hn, Option.bind_some, hk]
def toLpp {β σ τ0 τ : Type} (mk : β → Nat → σ) (i : Nat) : β ⊕ τ → Lp σ (Lp τ0 τ)
  | .inl b => .go (mk b (i + 1))
  | .inr t => .out (.out t)
/-- A loop that may be left by a return, with what comes behind it. -/
theorem loop_lpK {α β σ τ0 τ : Type} {f : σ → Option (Lp σ (Lp τ0 τ))} {k : τ0 → Option τ} {s0 : σ} (mk : β → Nat → σ) (g : Nat → α → β → β ⊕ τ) (e0 : β → τ0) (e : β → τ) (I : Nat → β → Prop) (xs : List α) (b : β) {n : Nat}
    (hb : ∀ i x b, xs[i]? = some x → I i b → f (mk b i) = some (toLpp mk i (g i x b)) ∧ ∀ b', g i x b = .inl b' → I (i + 1) b')
    (he : ∀ b, I xs.length b → f (mk b xs.length) = some (.out (.go (e0 b)))) (hk : ∀ b, I xs.length b → k (e0 b) = some (e b)) (h0 : I 0 b) (hn : xs.length < n) (hs : s0 = mk b 0 := by rfl) :
    (loopM f n s0).bind (lpK k) = some (runG g e xs 0 b) := by
  have key : ∀ (xs : List α) (j : Nat) (b : β) (n : Nat),
      (∀ i x b, xs[i]? = some x → I (j + i) b → f (mk b (j + i)) = some (toLpp mk (j + i) (g (j + i) x b)) ∧ ∀ b', g (j + i) x b = .inl b' → I (j + i + 1) b') →
      (∀ b, I (j + xs.length) b → f (mk b (j + xs.length)) = some (.out (.go (e0 b)))) → (∀ b, I (j + xs.length) b → k (e0 b) = some (e b)) → I j b → xs.length < n → (loopM f n (mk b j)).bind (lpK k) = some (runG g e xs j b) := by
    intro xs
    induction xs with
    | nil =>
      intro j b n _ he hk h0 hn
      simp only [List.length_nil, Nat.add_zero] at he hk
      rw [loop_out (he b h0) (by omega), Option.bind_some]
      exact hk b h0
    | cons x xs ih =>
      intro j b n hb he hk h0 hn
      obtain ⟨m, rfl⟩ : ∃ m, n = m + 1 := ⟨n - 1, by simp at hn; omega⟩
      obtain ⟨h1, h2⟩ := hb 0 x b rfl h0
      simp only [Nat.add_zero] at h1 h2
      simp only [runG]
      cases hg : g j x b with
      | inl b' =>
        rw [hg] at h1
        rw [loop_go h1]
        refine ih (j + 1) b' m (fun i y c hy hc => ?_) (fun c hc => ?_) (fun c hc => ?_) (h2 b' hg) (by simp at hn; omega)
        · have := hb (i + 1) y c (by simpa using hy)
          rw [show j + (i + 1) = j + 1 + i by omega] at this
          exact this hc
        · have := he c
          rw [List.length_cons, show j + (xs.length + 1) = j + 1 + xs.length by omega] at this
          exact this hc
        · have := hk c
          rw [List.length_cons, show j + (xs.length + 1) = j + 1 + xs.length by omega] at this
          exact this hc
      | inr t => rw [hg] at h1; rw [loop_out h1 (by omega)]; rfl
  rw [hs]
  exact key xs 0 b n (fun i x c hx hc => by rw [Nat.zero_add] at hc ⊢; exact hb i x c hx hc) (fun c hc => by rw [Nat.zero_add] at hc ⊢; exact he c hc) (fun c hc => hk c (by rwa [Nat.zero_add] at hc)) h0 hn
/-- The same, of a loop over numbers below N. -/
def runN {β τ : Type} (g : Nat → β → β ⊕ τ) (e : β → τ) : Nat → Nat → β → τ
  | 0, _, b => e b
  | m + 1, i, b => match g i b with
    | .inl b' => runN g e m (i + 1) b'
    | .inr t => t
theorem loop_runN' {β σ τ : Type} {f : σ → Option (Lp σ τ)} (mk : β → Nat → σ) (g : Nat → β → β ⊕ τ) (e : β → τ) (I : Nat → β → Prop) : ∀ (N k : Nat) (b : β) (n : Nat),
    (∀ i b, i < k + N → I i b → f (mk b i) = some (toLp mk i (g i b)) ∧ ∀ b', g i b = .inl b' → I (i + 1) b') →
    (∀ b, I (k + N) b → f (mk b (k + N)) = some (.out (e b))) → I k b → N < n → loopM f n (mk b k) = some (runN g e N k b)
  | 0, k, b, n, _, he, h0, hn => by
    simp only [Nat.add_zero] at he
    rw [loop_out (he b h0) (by omega)]; rfl
  | N + 1, k, b, n, hb, he, h0, hn => by
    obtain ⟨m, rfl⟩ : ∃ m, n = m + 1 := ⟨n - 1, by omega⟩
    obtain ⟨h1, h2⟩ := hb k b (by omega) h0
    simp only [runN]
    cases hg : g k b with
    | inl b' =>
      rw [hg] at h1
      rw [loop_go h1]
      exact loop_runN' mk g e I N (k + 1) b' m (fun i c hi hc => hb i c (by omega) hc) (fun c hc => by have := he c; rw [show k + (N + 1) = k + 1 + N by omega] at this; exact this hc) (h2 b' hg) (by omega)
    | inr t => rw [hg] at h1; rw [loop_out h1 (by omega)]
theorem loop_runN {β σ τ : Type} {f : σ → Option (Lp σ τ)} (mk : β → Nat → σ) (g : Nat → β → β ⊕ τ) (e : β → τ) (I : Nat → β → Prop) (N : Nat) {b : β} {n : Nat}
    (hb : ∀ i b, i < N → I i b → f (mk b i) = some (toLp mk i (g i b)) ∧ ∀ b', g i b = .inl b' → I (i + 1) b')
    (he : ∀ b, I N b → f (mk b N) = some (.out (e b))) (h0 : I 0 b) (hn : N < n) : loopM f n (mk b 0) = some (runN g e N 0 b) :=
  loop_runN' mk g e I N 0 b n (fun i c hi hc => hb i c (by omega) hc) (fun c hc => by rw [Nat.zero_add] at hc ⊢; exact he c hc) h0 hn
/-- Range loops. -/
def toLq {β τ : Type} : β ⊕ τ → Lp β τ
  | .inl b => .go b
  | .inr t => .out t
theorem range_runG' {α β τ : Type} {f : Nat → α → β → Option (Lp β τ)} (g : Nat → α → β → β ⊕ τ) (I : Nat → β → Prop) : ∀ (xs : List α) (k : Nat) (b : β),
    (∀ i x b, xs[i]? = some x → I (k + i) b → f (k + i) x b = some (toLq (g (k + i) x b)) ∧ ∀ b', g (k + i) x b = .inl b' → I (k + i + 1) b') → I k b →
    rangeL f xs k b = some (runG (fun i x b => (g i x b).map id Lp.out) Lp.go xs k b)
  | [], k, b, _, h0 => rfl
  | x :: xs, k, b, hb, h0 => by
    obtain ⟨h1, h2⟩ := hb 0 x b rfl h0
    simp only [Nat.add_zero] at h1 h2
    simp only [runG]
    cases hg : g k x b with
    | inl b' =>
      rw [hg] at h1
      simp only [rangeL, h1, toLq, Option.bind_some, Sum.map]
      exact range_runG' g I xs (k + 1) b' (fun i y c hy hc => by
        have := hb (i + 1) y c (by simpa using hy)
        rw [show k + (i + 1) = k + 1 + i by omega] at this
        exact this hc) (h2 b' hg)
    | inr t => rw [hg] at h1; simp only [rangeL, h1, toLq, Option.bind_some, Sum.map]; rfl
theorem runG_map {α β τ ρ : Type} (h : τ → ρ) (g : Nat → α → β → β ⊕ τ) (e : β → τ) : ∀ (xs : List α) (i : Nat) (b : β), h (runG g e xs i b) = runG (fun i x b => (g i x b).map id h) (fun b => h (e b)) xs i b
  | [], _, _ => rfl
  | x :: xs, i, b => by
    simp only [runG]
    cases g i x b with
    | inl b' => exact runG_map h g e xs (i + 1) b'
    | inr t => rfl
theorem range_lpK' {α β τ : Type} (g : Nat → α → β → β ⊕ τ) (e : β → τ) : ∀ (xs : List α) (i : Nat) (b : β), lpK (fun b => some (e b)) (runG (fun i x b => (g i x b).map id Lp.out) Lp.go xs i b) = some (runG g e xs i b)
  | [], _, _ => rfl
  | x :: xs, i, b => by
    simp only [runG]
    cases g i x b with
    | inl b' => exact range_lpK' g e xs (i + 1) b'
    | inr t => rfl
/-- A range loop, with what comes behind it. -/
theorem range_runG {α β τ : Type} {f : Nat → α → β → Option (Lp β τ)} {k : β → Option τ} (g : Nat → α → β → β ⊕ τ) (e : β → τ) (I : Nat → β → Prop) (xs : List α) {b : β}
    (hb : ∀ i x b, xs[i]? = some x → I i b → f i x b = some (toLq (g i x b)) ∧ ∀ b', g i x b = .inl b' → I (i + 1) b') (h0 : I 0 b) (hk : ∀ b, I xs.length b → k b = some (e b)) :
    (rangeL f xs 0 b).bind (lpK k) = some (runG g e xs 0 b) := by
  rw [range_runG' g I xs 0 b (fun i x c hx hc => by rw [Nat.zero_add] at hc ⊢; exact hb i x c hx hc) h0, Option.bind_some]
  have key : ∀ (ys : List α) (i : Nat) (c : β), (∀ j x b, ys[j]? = some x → I (i + j) b → ∀ b', g (i + j) x b = .inl b' → I (i + j + 1) b') → (∀ b, I (i + ys.length) b → k b = some (e b)) → I i c →
      lpK k (runG (fun i x b => (g i x b).map id Lp.out) Lp.go ys i c) = some (runG g e ys i c) := by
    intro ys
    induction ys with
    | nil => intro i c _ h2 h3; exact h2 c h3
    | cons y ys ih =>
      intro i c h1 h2 h3
      simp only [runG]
      cases hg : g i y c with
      | inl b' =>
        refine ih (i + 1) b' (fun j x b hx hI b'' hb'' => ?_) (fun b hI => h2 b (by rw [List.length_cons, show i + (ys.length + 1) = i + 1 + ys.length by omega]; exact hI)) (h1 0 y c rfl h3 b' hg)
        have := h1 (j + 1) x b (by simpa using hx)
        rw [show i + (j + 1) = i + 1 + j by omega] at this
        exact this hI b'' hb''
      | inr t => rfl
  exact key xs 0 b (fun j x c hx hI b' hb' => by rw [Nat.zero_add] at hI hb' ⊢; exact (hb j x c hx hI).2 b' hb') (fun c hI => hk c (by rwa [Nat.zero_add] at hI)) h0
theorem runG_congr {α β τ : Type} {g g' : Nat → α → β → β ⊕ τ} {e e' : β → τ} : ∀ {xs : List α} {i : Nat} {b : β}, (∀ i x b, x ∈ xs → g i x b = g' i x b) → (∀ b, e b = e' b) → runG g e xs i b = runG g' e' xs i b
  | [], _, b, _, he => he b
  | x :: xs, i, b, h, he => by
    simp only [runG, h i x b (.head _)]
    cases g' i x b with
    | inl b' => exact runG_congr (fun i y c hy => h i y c (.tail _ hy)) he
    | inr t => rfl
theorem runG_mapL {α α' β τ : Type} (h : α → α') (g : Nat → α' → β → β ⊕ τ) (e : β → τ) : ∀ (xs : List α) (i : Nat) (b : β), runG g e (xs.map h) i b = runG (fun i x b => g i (h x) b) e xs i b
  | [], _, _ => rfl
  | x :: xs, i, b => by
    simp only [runG, List.map_cons]
    cases g i (h x) b with
    | inl b' => exact runG_mapL h g e xs (i + 1) b'
    | inr t => rfl
theorem runG_fold {α β : Type} (g : α → β → β) : ∀ (xs : List α) (i : Nat) (b : β), runG (τ := β) (fun _ x b => .inl (g x b)) (fun b => b) xs i b = xs.foldl (fun b x => g x b) b
  | [], _, _ => rfl
  | x :: xs, i, b => by simp only [runG, List.foldl_cons]; exact runG_fold g xs (i + 1) (g x b)
theorem foldl_snoc {α β : Type} (h : α → β) : ∀ (xs : List α) (l : List β), xs.foldl (fun b x => b ++ [h x]) l = l ++ xs.map h
  | [], l => by simp
  | x :: xs, l => by rw [List.foldl_cons, foldl_snoc h xs]; simp
theorem ifd {α : Type} {p : Prop} [Decidable p] {a b c : α} (h1 : p → a = c) (h2 : ¬p → b = c) : (if p then a else b) = c := by
  by_cases h : p
  · rw [if_pos h]; exact h1 h
  · rw [if_neg h]; exact h2 h
theorem getI_of {α : Type} {l : List α} {i : Nat} {x : α} (h : l[i]? = some x) : getI l (i : Int) = some x := by rw [getI_cast, h]
theorem lt_of_get {α : Type} {l : List α} {i : Nat} {x : α} (h : l[i]? = some x) : i < l.length := by
  rcases Nat.lt_or_ge i l.length with h1 | h1
  · exact h1
  · rw [List.getElem?_eq_none h1] at h; cases h
theorem mem_of_get {α : Type} {l : List α} {i : Nat} {x : α} (h : l[i]? = some x) : x ∈ l := List.mem_of_getElem? h
theorem w1 {i : Nat} (h : i < 9223372036854775807) : wrap64 ((i : Int) + 1) = ((i + 1 : Nat) : Int) := by rw [w64 (by omega) (by omega)]; omega
theorem bif_dist {α β : Type} (f : α → β) (c : Bool) (a b : α) : f (bif c then a else b) = bif c then f a else f b := by cases c <;> rfl
theorem getI_lastq {α : Type} {l : List α} {x : α} (h : l.length < 9223372036854775807) : getI (l ++ [x]) (wrap64 (((l ++ [x]).length : Int) - 1)) = some x := by
  rw [List.length_append, List.length_singleton, w64 (by omega) (by omega), show (((l.length + 1 : Nat) : Int) - 1) = ((l.length : Nat) : Int) by omega, getI_cast]; simp
theorem sub_lastq {α : Type} {l : List α} {x : α} (h : l.length < 9223372036854775807) : sub (l ++ [x]) (0 : Int) (wrap64 (((l ++ [x]).length : Int) - 1)) = some l := by
  rw [List.length_append, List.length_singleton, w64 (by omega) (by omega), show (((l.length + 1 : Nat) : Int) - 1) = ((l.length : Nat) : Int) by omega, sub_take (by simp)]; simp
theorem set_lastq {α : Type} {l : List α} {x y : α} (h : l.length < 9223372036854775807) : List.set (l ++ [x]) (Int.toNat (wrap64 (((l ++ [x]).length : Int) - 1))) y = l ++ [y] := by
  rw [List.length_append, List.length_singleton, w64 (by omega) (by omega), show (((l.length + 1 : Nat) : Int) - 1) = ((l.length : Nat) : Int) by omega, Int.toNat_natCast]; simp
end Go.Proofs.YtcdeknlejjjmlaaGreatDoor
