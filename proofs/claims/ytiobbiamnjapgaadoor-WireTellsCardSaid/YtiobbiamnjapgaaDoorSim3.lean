import Derived.Test.YtiobbiamnjapgaaDoorSim2
namespace Go.Proofs.YtiobbiamnjapgaaDoor
open Go Go.RowKit

def cpB (b : Bool) : CP where
  p := fun _ _ v => v = .bool b
  one := by intro _ _ v h; subst h; rfl
  mono := fun h _ _ => h
def bl (b : Bool) : Ly := .cell (cpB b)

def cpI (k : IntKind) (x : Int) : CP where
  p := fun _ _ v => v = .int k x ∧ k.min ≤ x ∧ x ≤ k.max
  one := by intro _ _ v h; obtain ⟨rfl, _⟩ := h; rfl
  mono := fun h _ _ => h
def i64 (x : Int) : Ly := .cell (cpI .i64 x)

/-- Every entry of the first list is in the second one. -/
def SubL : List (Nat × Ly) → List (Nat × Ly) → Prop
  | [], _ => True
  | (d, ly) :: r, l => lk l d = some ly ∧ SubL r l

theorem SubL.lk {l' l : List (Nat × Ly)} (h : SubL l' l) : ∀ d ly, Go.Proofs.YtiobbiamnjapgaaDoor.lk l' d = some ly → Go.Proofs.YtiobbiamnjapgaaDoor.lk l d = some ly := by
  induction l' with
  | nil => intro d ly h; cases h
  | cons e r ih =>
    obtain ⟨i, x⟩ := e
    intro d ly hd
    simp only [Go.Proofs.YtiobbiamnjapgaaDoor.lk] at hd
    cases hb : Nat.beq i d
    · rw [hb] at hd; exact ih h.2 d ly hd
    · rw [hb] at hd
      have : i = d := Nat.eq_of_beq_eq_true hb
      subst this
      simp at hd; subst hd; exact h.1

/-- Two lists of contents say the same. -/
def EqM1 : List (Nat × Ct) → List (Nat × Ct) → List (Nat × Ct) → Prop
  | [], _, _ => True
  | (d, _) :: r, m, m' => lk m d = lk m' d ∧ EqM1 r m m'
def EqM (m m' : List (Nat × Ct)) : Prop := EqM1 m m m' ∧ EqM1 m' m m'

theorem lk_none_of_EqM1 : ∀ (r m m' : List (Nat × Ct)) (d : Nat), EqM1 r m m' → lk r d ≠ none → lk m d = lk m' d
  | [], _, _, _, _, h => absurd rfl h
  | (i, x) :: r, m, m', d, h, hd => by
    simp only [lk] at hd
    cases hb : Nat.beq i d
    · rw [hb] at hd; exact lk_none_of_EqM1 r m m' d h.2 hd
    · have : i = d := Nat.eq_of_beq_eq_true hb
      subst this; exact h.1

theorem EqM.eq {m m' : List (Nat × Ct)} (h : EqM m m') : lk m = lk m' := by
  funext d
  by_cases h1 : lk m d = none
  · by_cases h2 : lk m' d = none
    · rw [h1, h2]
    · exact lk_none_of_EqM1 m' m m' d h.2 h2
  · exact lk_none_of_EqM1 m m m' d h.1 h1

/-- From every state that is as l and m say, one can say l' and m' instead. -/
def Ent (X : Cx) (l : List (Nat × Ly)) (m : List (Nat × Ct)) (l' : List (Nat × Ly)) (m' : List (Nat × Ct)) : Prop :=
  ∀ a w γ, Inv X (lk l) (lk m) a w γ → ∃ γ', Inv X (lk l') (lk m') a w γ'

theorem entI {X : Cx} {l l' m m'} (h : SubL l' l) (hm : EqM m m') : Ent X l m l' m' := fun a w γ hi =>
  ⟨γ, by rw [← hm.eq]; exact { hi with sts := fun d ly hd => hi.sts d ly (h.lk d ly hd) }⟩

/-- What names the new list has, and whence. -/
def Rn (σ : List (Nat × Nat)) (ly ly' : Ly) : Prop := ∀ w S (γ γ' : Nm), (∀ y x, lk σ y = some x → γ' y = γ x) →
  (∀ cs, ly.hold w S γ cs → ly'.hold w S γ' cs) ∧ (∀ v, ly.val w S γ v → ly'.val w S γ' v)
def Rns (σ : List (Nat × Nat)) (l l' : List Ly) : Prop := ∀ w S (γ γ' : Nm), (∀ y x, lk σ y = some x → γ' y = γ x) →
  (∀ cs, Ly.holds w S γ l cs → Ly.holds w S γ' l' cs) ∧ (∀ v, Ly.vals w S γ l v → Ly.vals w S γ' l' v)

/-- No name stands in it. -/
def IF (ly : Ly) : Prop := ∀ w S (γ γ' : Nm), (∀ cs, ly.hold w S γ cs → ly.hold w S γ' cs) ∧ (∀ v, ly.val w S γ v → ly.val w S γ' v)
def IFs (l : List Ly) : Prop := ∀ w S (γ γ' : Nm), (∀ cs, Ly.holds w S γ l cs → Ly.holds w S γ' l cs) ∧ (∀ v, Ly.vals w S γ l v → Ly.vals w S γ' l v)

theorem if_cell (p : CP) : IF (.cell p) := fun w S γ γ' => ⟨fun cs h => h, fun v h => by simpa [Ly.val] using h⟩
theorem if_any : IF .any := fun w S γ γ' => ⟨fun cs h => h, fun v h => by simp [Ly.val]⟩
theorem ifs_nil : IFs [] := fun w S γ γ' => ⟨fun cs h => h, fun v h => by simpa [Ly.vals] using h⟩
theorem ifs_cons {ly l} (h1 : IF ly) (h2 : IFs l) : IFs (ly :: l) := fun w S γ γ' =>
  ⟨fun cs h => by obtain ⟨c1, c2, rfl, g1, g2⟩ := h; exact ⟨c1, c2, rfl, (h1 w S γ γ').1 _ g1, (h2 w S γ γ').1 _ g2⟩,
   fun v h => by
     simp only [Ly.vals] at h ⊢
     obtain ⟨u, r, rfl, g1, g2⟩ := h; exact ⟨u, r, rfl, (h1 w S γ γ').2 _ g1, (h2 w S γ γ').2 _ g2⟩⟩
theorem ifs_map {α : Type} {f : α → Ly} (h : ∀ x, IF (f x)) : ∀ xs : List α, IFs (xs.map f)
  | [] => ifs_nil
  | x :: xs => ifs_cons (h x) (ifs_map h xs)
theorem if_agg {l} (h : IFs l) : IF (.agg l) := fun w S γ γ' =>
  ⟨fun cs g => by simp only [Ly.hold] at g ⊢; exact (h w S γ γ').1 cs g,
   fun v g => by simp only [Ly.val] at g ⊢; obtain ⟨cs, rfl, g⟩ := g; exact ⟨cs, rfl, (h w S γ γ').1 _ g⟩⟩
theorem if_tup {l} (h : IFs l) : IF (.tup l) := fun w S γ γ' =>
  ⟨fun cs g => by simp [Ly.hold] at g,
   fun v g => by simp only [Ly.val] at g ⊢; obtain ⟨cs, rfl, g⟩ := g; exact ⟨cs, rfl, (h w S γ γ').2 _ g⟩⟩
theorem if_ref {ly} (h : IF ly) : IF (.ref ly) := fun w S γ γ' => by
  have hh : ∀ cs, (Ly.ref ly).hold w S γ cs → (Ly.ref ly).hold w S γ' cs := by
    rintro cs ⟨b, o, us, h1, h2, h3, h4, h5⟩
    exact ⟨b, o, us, h1, h2, h3, h4, (h w S γ γ').1 _ h5⟩
  exact ⟨hh, fun v g => by simp only [Ly.val] at g ⊢; exact hh _ g⟩

theorem rn_id {σ ly} (h : IF ly) : Rn σ ly ly := fun w S γ γ' _ => h w S γ γ'
theorem rn_own {σ y x} (h : lk σ y = some x) : Rn σ (.own x) (.own y) := fun w S γ γ' hg => by
  have := hg y x h
  exact ⟨fun cs g => by obtain ⟨v, rfl, g1, g2⟩ := g; exact ⟨v, rfl, by rw [this]; exact g1, g2⟩, fun v g => by simp only [Ly.val] at g ⊢; rw [this]; exact g⟩
theorem rn_ptr {σ y x off} (h : lk σ y = some x) : Rn σ (.ptr x off) (.ptr y off) := fun w S γ γ' hg => by
  have := hg y x h
  exact ⟨fun cs g => by obtain ⟨v0, b, g1, g2⟩ := g; exact ⟨v0, b, by rw [this]; exact g1, g2⟩, fun v g => by simp only [Ly.val] at g ⊢; rw [this]; exact g⟩
theorem rn_por {σ y x} (h : lk σ y = some x) : Rn σ (.por x) (.por y) := fun w S γ γ' hg => by
  have := hg y x h
  exact ⟨fun cs g => by
    obtain ⟨v, rfl, g⟩ := g
    exact ⟨v, rfl, orM g (fun x => x) (fun ⟨v0, b, g1, g2⟩ => ⟨v0, b, by rw [this]; exact g1, g2⟩)⟩,
   fun v g => by
    simp only [Ly.val] at g ⊢; rw [this]; exact g⟩
theorem rns_nil {σ} : Rns σ [] [] := fun w S γ γ' _ => ⟨fun cs h => h, fun v h => by simpa [Ly.vals] using h⟩
theorem rns_cons {σ ly ly' l l'} (h1 : Rn σ ly ly') (h2 : Rns σ l l') : Rns σ (ly :: l) (ly' :: l') := fun w S γ γ' hg =>
  ⟨fun cs h => by obtain ⟨c1, c2, rfl, g1, g2⟩ := h; exact ⟨c1, c2, rfl, (h1 w S γ γ' hg).1 _ g1, (h2 w S γ γ' hg).1 _ g2⟩,
   fun v h => by
     simp only [Ly.vals] at h ⊢
     obtain ⟨u, r, rfl, g1, g2⟩ := h; exact ⟨u, r, rfl, (h1 w S γ γ' hg).2 _ g1, (h2 w S γ γ' hg).2 _ g2⟩⟩
theorem rns_id {σ l} (h : IFs l) : Rns σ l l := fun w S γ γ' _ => h w S γ γ'
theorem rn_agg {σ l l'} (h : Rns σ l l') : Rn σ (.agg l) (.agg l') := fun w S γ γ' hg =>
  ⟨fun cs g => by simp only [Ly.hold] at g ⊢; exact (h w S γ γ' hg).1 cs g,
   fun v g => by simp only [Ly.val] at g ⊢; obtain ⟨cs, rfl, g⟩ := g; exact ⟨cs, rfl, (h w S γ γ' hg).1 _ g⟩⟩
theorem rn_tup {σ l l'} (h : Rns σ l l') : Rn σ (.tup l) (.tup l') := fun w S γ γ' hg =>
  ⟨fun cs g => by simp [Ly.hold] at g,
   fun v g => by simp only [Ly.val] at g ⊢; obtain ⟨cs, rfl, g⟩ := g; exact ⟨cs, rfl, (h w S γ γ' hg).2 _ g⟩⟩

def RnC (σ : List (Nat × Nat)) : Ct → Ct → Prop
  | .sl E k ls, .sl E' k' ls' => E = E' ∧ k = k' ∧ ls.length = ls'.length ∧ Rns σ ls ls' ∧ ((∀ ly ∈ ls, ly.sz = k) → ∀ ly ∈ ls', ly.sz = k)
  | .bx E ly, .bx E' ly' => E = E' ∧ Rn σ ly ly'
  | .ob o, .ob o' => o = o'
  | _, _ => False

theorem rc_sl {σ E k ls} (h : IFs ls) : RnC σ (.sl E k ls) (.sl E k ls) := ⟨rfl, rfl, rfl, rns_id h, fun h => h⟩
theorem rc_ob {σ o} : RnC σ (.ob o) (.ob o) := rfl
theorem rc_bx {σ E ly ly'} (h : Rn σ ly ly') : RnC σ (.bx E ly) (.bx E ly') := ⟨rfl, h⟩

def RnC1 (σ : List (Nat × Nat)) (c c' : Ct) : Prop := RnC σ c c' ∨ c' = .gone
theorem rci {σ c c'} (h : RnC σ c c') : RnC1 σ c c' := .inl h
theorem rcg {σ c} : RnC1 σ c .gone := .inr rfl
def alO : Option Ct → Bool
  | some c => c.alive
  | none => false
/-- The names that are alive behind. -/
def alv (σ : List (Nat × Nat)) (m : List (Nat × Ct)) : List (Nat × Nat) := σ.filter fun e => alO (lk m e.1)
theorem alv_mem {σ : List (Nat × Nat)} {m : List (Nat × Ct)} {y x c} (h : (y, x) ∈ σ) (hm : lk m y = some c) (hc : c.alive = true) : (y, x) ∈ alv σ m :=
  List.mem_filter.2 ⟨h, by simp [alO, hm, hc]⟩
def RnL (σ : List (Nat × Nat)) (l : List (Nat × Ly)) : List (Nat × Ly) → Prop
  | [] => True
  | (d, ly') :: r => (∃ ly, lk l d = some ly ∧ Rn σ ly ly') ∧ RnL σ l r
def RnM (σ : List (Nat × Nat)) (m : List (Nat × Ct)) : List (Nat × Ct) → Prop
  | [] => True
  | (y, c') :: r => (∃ x c, lk σ y = some x ∧ lk m x = some c ∧ RnC1 σ c c') ∧ RnM σ m r
/-- Every name of σ has a content. -/
def NmM (m' : List (Nat × Ct)) : List (Nat × Nat) → Prop
  | [] => True
  | (y, _) :: r => (∃ c, lk m' y = some c) ∧ NmM m' r
def nodupB : List Nat → Bool
  | [] => true
  | x :: r => !(r.any (Nat.beq x)) && nodupB r
def KeepS (σ : List (Nat × Nat)) (g0 : Nm) : Prop := ∀ id v, g0 id = some v → lk σ id = some id

theorem RnL.get {σ l} : ∀ {l'}, RnL σ l l' → ∀ d ly', lk l' d = some ly' → ∃ ly, lk l d = some ly ∧ Rn σ ly ly'
  | [], _, d, ly', h => by cases h
  | (i, x) :: r, hh, d, ly', h => by
    simp only [lk] at h
    cases hb : Nat.beq i d
    · rw [hb] at h; exact RnL.get hh.2 d ly' h
    · rw [hb] at h
      have : i = d := Nat.eq_of_beq_eq_true hb
      subst this; simp at h; subst h; exact hh.1
theorem RnM.get {σ m} : ∀ {m'}, RnM σ m m' → ∀ y c', lk m' y = some c' → ∃ x c, lk σ y = some x ∧ lk m x = some c ∧ RnC1 σ c c'
  | [], _, d, ly', h => by cases h
  | (i, x) :: r, hh, d, ly', h => by
    simp only [lk] at h
    cases hb : Nat.beq i d
    · rw [hb] at h; exact RnM.get hh.2 d ly' h
    · rw [hb] at h
      have : i = d := Nat.eq_of_beq_eq_true hb
      subst this; simp at h; subst h; exact hh.1
theorem NmM.get {m'} : ∀ {σ : List (Nat × Nat)}, NmM m' σ → ∀ y x, lk σ y = some x → ∃ c, lk m' y = some c
  | [], _, y, x, h => by cases h
  | (i, x0) :: r, hh, y, x, h => by
    simp only [lk] at h
    cases hb : Nat.beq i y
    · rw [hb] at h; exact NmM.get hh.2 y x h
    · have : i = y := Nat.eq_of_beq_eq_true hb
      subst this; exact hh.1
theorem lk_mem {σ : List (Nat × Nat)} : ∀ {y x}, lk σ y = some x → (y, x) ∈ σ := by
  induction σ with
  | nil => intro y x h; cases h
  | cons e r ih =>
    obtain ⟨i, x0⟩ := e
    intro y x h
    simp only [lk] at h
    cases hb : Nat.beq i y
    · rw [hb] at h; exact List.mem_cons_of_mem _ (ih h)
    · rw [hb] at h
      have : i = y := Nat.eq_of_beq_eq_true hb
      subst this; simp at h; subst h; exact List.mem_cons_self
theorem nodup_inj : ∀ {σ : List (Nat × Nat)}, nodupB (σ.map (·.2)) = true → ∀ {y y' x}, (y, x) ∈ σ → (y', x) ∈ σ → lk σ y = some x → lk σ y' = some x → y = y'
  | [], _, _, _, _, h, _, _, _ => by cases h
  | (i, x0) :: r, hn, y, y', x, h1, h2, h3, h4 => by
    simp only [List.map_cons, nodupB, Bool.and_eq_true, Bool.not_eq_true'] at hn
    have hx0 : ∀ z, (z, x0) ∉ r := by
      intro z hz
      have : (r.map (·.2)).any (Nat.beq x0) = true := List.any_eq_true.2 ⟨x0, List.mem_map.2 ⟨_, hz, rfl⟩, by simp⟩
      rw [this] at hn; simp at hn
    simp only [lk] at h3 h4
    cases hb : Nat.beq i y <;> cases hb' : Nat.beq i y'
    · rw [hb] at h3; rw [hb'] at h4
      exact nodup_inj hn.2 (lk_mem h3) (lk_mem h4) h3 h4
    · rw [hb'] at h4; simp at h4; subst h4
      rw [hb] at h3; exact absurd (lk_mem h3) (hx0 y)
    · rw [hb] at h3; simp at h3; subst h3
      rw [hb'] at h4; exact absurd (lk_mem h4) (hx0 y')
    · have e1 : i = y := Nat.eq_of_beq_eq_true hb
      have e2 : i = y' := Nat.eq_of_beq_eq_true hb'
      omega

theorem nodup_inj' : ∀ {σ : List (Nat × Nat)}, nodupB (σ.map (·.2)) = true → ∀ {y y' x}, (y, x) ∈ σ → (y', x) ∈ σ → y = y'
  | [], _, _, _, _, h, _ => by cases h
  | (i, x0) :: r, hn, y, y', x, h1, h2 => by
    simp only [List.map_cons, nodupB, Bool.and_eq_true, Bool.not_eq_true'] at hn
    have hx0 : ∀ z, (z, x0) ∉ r := by
      intro z hz
      have : (r.map (·.2)).any (Nat.beq x0) = true := List.any_eq_true.2 ⟨x0, List.mem_map.2 ⟨_, hz, rfl⟩, by simp⟩
      rw [this] at hn; simp at hn
    rcases List.mem_cons.1 h1 with e | k1 <;> rcases List.mem_cons.1 h2 with e' | k2
    · exact (congrArg Prod.fst e).trans (congrArg Prod.fst e').symm
    · have e3 : x = x0 := congrArg Prod.snd e
      rw [e3] at k2; exact absurd k2 (hx0 y')
    · have e3 : x = x0 := congrArg Prod.snd e'
      rw [e3] at k1; exact absurd k1 (hx0 y)
    · exact nodup_inj' hn.2 k1 k2
theorem CtHold.rn {w S γ γ' σ x y c c'} (hg : ∀ y x, lk σ y = some x → γ' y = γ x) (hy : lk σ y = some x) (h : CtHold w S γ x c) (hr : RnC σ c c') : CtHold w S γ' y c' := by
  have hxy := hg y x hy
  cases c <;> cases c' <;> simp only [RnC] at hr
  case sl.sl E k ls E' k' ls' =>
    obtain ⟨rfl, rfl, hl, hn, hz⟩ := hr
    obtain ⟨v, cs, h1, h2, h3, h4⟩ := h
    exact ⟨v, cs, by rw [hxy]; exact h1, by rw [← hl]; exact h2, (hn w S γ γ' hg).1 _ h3, hz h4⟩
  case bx.bx E ly E' ly' =>
    obtain ⟨rfl, hn⟩ := hr
    obtain ⟨g, cur, h1, h2, h3⟩ := h
    exact ⟨g, cur, by rw [hxy]; exact h1, h2, (hn w S γ γ' hg).1 _ h3⟩
  case ob.ob o o' =>
    subst hr
    obtain ⟨g, h1, h2⟩ := h
    exact ⟨g, by rw [hxy]; exact h1, h2⟩

theorem RnC.alive {σ c c'} (h : RnC σ c c') : c.alive = true ∧ c'.alive = true := by
  cases c <;> cases c' <;> simp only [RnC] at h <;> exact ⟨rfl, rfl⟩

theorem RnC1.al {σ c c'} (h : RnC1 σ c c') (h2 : c'.alive = true) : c.alive = true := by
  rcases h with h | rfl
  · exact h.alive.1
  · cases h2
theorem CtHold.rn1 {w S γ γ' σ x y c c'} (hg : ∀ y x, lk σ y = some x → γ' y = γ x) (hy : lk σ y = some x) (h : CtHold w S γ x c) (hr : RnC1 σ c c') : CtHold w S γ' y c' := by
  rcases hr with hr | rfl
  · exact h.rn hg hy hr
  · trivial

theorem entR {X : Cx} {l l' m m'} (σ : List (Nat × Nat)) (hn : nodupB ((alv σ m').map (·.2)) = true) (hk : KeepS σ X.g0) (hs : NmM m' σ) (hm : RnM σ m m') (hl : RnL σ l l') : Ent X l m l' m' := by
  intro a w γ hi
  let γ' : Nm := fun y => match lk σ y with | some x => γ x | none => none
  have hg : ∀ y x, lk σ y = some x → γ' y = γ x := fun y x h => by simp only [γ', h]
  have how : ∀ b, Ow γ' (lk m') b → Ow γ (lk m) b := by
    rintro b ⟨y, c', v, h1, h2, h3, h4⟩
    obtain ⟨x, c, g1, g2, g3⟩ := hm.get y c' h1
    exact ⟨x, c, v, g2, g3.al h2, by rw [← hg y x g1]; exact h3, h4⟩
  have hS : ∀ b, X.S γ' (lk m') b → X.S γ (lk m) b := fun b h => orM h (fun x => x) (how b)
  refine ⟨γ', { hi with keep := ?_, fresh := ?_, cts := ?_, apart := ?_, mine := ?_, sts := ?_ }⟩
  · intro id v hv
    rw [hg id id (hk id v hv)]; exact hi.keep id v hv
  · intro y hy
    cases h : lk σ y with
    | none => simp only [γ', h]
    | some x => obtain ⟨c, hc⟩ := hs.get y x h; rw [hy] at hc; cases hc
  · intro y c' hc'
    obtain ⟨x, c, g1, g2, g3⟩ := hm.get y c' hc'
    have h0 := hi.cts x c g2
    have h1 : CtHold w (X.S γ' (lk m')) γ x c := h0.mono (Kp.refl _ _) (fun b hb => .inl (hS b hb)) (Ng.refl _) (fun _ _ _ _ => rfl)
    exact h1.rn1 hg g1 g3
  · intro y y' c c' v v' b h1 h2 h3 h4 h5 h6 h7 h8
    obtain ⟨x, d, g1, g2, g3⟩ := hm.get y c h1
    obtain ⟨x', d', g1', g2', g3'⟩ := hm.get y' c' h3
    rw [hg y x g1] at h5
    rw [hg y' x' g1'] at h6
    have := hi.apart x x' d d' v v' b g2 (g3.al h2) g2' (g3'.al h4) h5 h6 h7 h8
    subst this
    exact nodup_inj' hn (alv_mem (lk_mem g1) h1 h2) (alv_mem (lk_mem g1') h3 h4)
  · intro b hb; exact hi.mine b (how b hb)
  · intro d ly' hd
    obtain ⟨ly, g1, g2⟩ := hl.get d ly' hd
    obtain ⟨v, hv, hval⟩ := hi.sts d ly g1
    exact ⟨v, hv, (g2 w _ γ γ' hg).2 v (Ly.val_mono (Kp.refl _ _) (fun b hb => .inl (hS b hb)) (Ng.refl _) ly v hval)⟩

/-! ### The judgement's rules -/
inductive Lp (σ τ : Type) where
  | go (s : σ)
  | out (t : τ)

def loopM {σ τ : Type} (f : σ → Option (Lp σ τ)) : Nat → σ → Option τ
  | 0, _ => none
  | n + 1, s => (f s).bind fun | .go s' => loopM f n s' | .out t => some t

def rangeL {α σ τ : Type} (f : Nat → α → σ → Option (Lp σ τ)) : List α → Nat → σ → Option (Lp σ τ)
  | [], _, s => some (.go s)
  | x :: xs, i, s => (f i x s).bind fun | .go s' => rangeL f xs (i + 1) s' | .out t => some (.out t)

section rules
variable {R : Type} {X : Cx} {l : List (Nat × Ly)} {m : List (Nat × Ct)} {md : Option R} {Q : R → Exit → Act → World → Prop} {G : R → Act → World → Prop}

theorem bd {α : Type} {x : Option α} {f : α → Option R} (h : ∀ y, x = some y → Sq X l m (f y) G) : Sq X l m (x.bind f) G := by
  intro r a w γ hr hi
  cases hx : x with
  | none => rw [hx] at hr; cases hr
  | some y => rw [hx] at hr; exact h y hx r a w γ hr hi

theorem bd2 {α β : Type} {x : Option α} {f : α → Option β} {k : β → Option R} (h : ∀ y, x = some y → Sq X l m ((f y).bind k) G) : Sq X l m ((x.bind f).bind k) G := by
  rw [Option.bind_assoc]; exact bd h

theorem sent {l' m'} (h : Ent X l m l' m') (k : Sq X l' m' md G) : Sq X l m md G := by
  intro r a w γ hr hi
  obtain ⟨γ', hi'⟩ := h a w γ hi
  exact k r a w γ' hr hi'

theorem wk {l'} (h : SubL l' l) (k : Sq X l' m md G) : Sq X l m md G :=
  sent (fun _ _ γ hi => ⟨γ, { hi with sts := fun d ly hd => hi.sts d ly (h.lk d ly hd) }⟩) k

/-- Two ways meet again. -/
theorem join {σ : Type} {A : Option σ} {k : σ → Option R} {G' : R → Act → World → Prop} (L : σ → List (Nat × Ly)) (M : σ → List (Nat × Ct))
    (h : (∀ s, Sq X (L s) (M s) (k s) G') → Sq X l m (A.bind k) G) (J : ∀ s, Sq X (L s) (M s) (k s) G') : Sq X l m (A.bind k) G := h J

theorem sif {b : Bool} {m1 m2 : Option R} (h1 : b = true → Sq X l m m1 G) (h2 : b = false → Sq X l m m2 G) : Sq X l m (bif b then m1 else m2) G := by
  cases b
  · exact h2 rfl
  · exact h1 rfl

/-- A test whose slot is needed. -/
theorem sifd {b : Bool} {m1 m2 : Option R} (d : Nat) (hd : lk l d = some (bl b)) (h1 : Sq X ((d, bl true) :: l) m m1 G) (h2 : Sq X ((d, bl false) :: l) m m2 G) : Sq X l m (bif b then m1 else m2) G := by
  refine sif (fun hb => ?_) (fun hb => ?_) <;> subst hb
  · exact sent (fun a w γ hi => ⟨γ, { hi with sts := fun i ly h => hi.sts i ly (by
      simp only [lk] at h
      cases e : Nat.beq d i
      · rw [e] at h; exact h
      · rw [e] at h; rw [← Nat.eq_of_beq_eq_true e, hd]; exact h) }⟩) h1
  · exact sent (fun a w γ hi => ⟨γ, { hi with sts := fun i ly h => hi.sts i ly (by
      simp only [lk] at h
      cases e : Nat.beq d i
      · rw [e] at h; exact h
      · rw [e] at h; rw [← Nat.eq_of_beq_eq_true e, hd]; exact h) }⟩) h2

theorem sifdJ {σ : Type} {b : Bool} {m1 m2 : Option σ} {k : σ → Option R} (d : Nat) (hd : lk l d = some (bl b)) (h1 : Sq X ((d, bl true) :: l) m (m1.bind k) G) (h2 : Sq X ((d, bl false) :: l) m (m2.bind k) G) :
    Sq X l m ((bif b then m1 else m2).bind k) G := by
  have : (bif b then m1 else m2).bind k = bif b then m1.bind k else m2.bind k := by cases b <;> rfl
  rw [this]; exact sifd d hd h1 h2

def OpdF (st : Nat → Option Ly) : Operand → Ly → Prop
  | .tmp t, ly => st t = some ly
  | .const v, ly => ∀ w S γ, ly.val w S γ v
  | .func f, ly => ∀ w S γ, ly.val w S γ (.func (.func f) #[] #[])
  | .global g, ly => ∀ w S γ, ly.val w S γ (.pointer (some ⟨g, 0, none⟩))

theorem OpdF.val {st mm a w γ} (hi : Inv X st mm a w γ) {x : Operand} {ly : Ly} (h : OpdF st x ly) : ly.val w (X.S γ mm) γ (a.eval x) := by
  cases x with
  | tmp t => obtain ⟨v, hv, hl⟩ := hi.sts t ly h; simpa [Act.eval, hv] using hl
  | const v => exact h _ _ _
  | func f => exact h _ _ _
  | global g => exact h _ _ _

theorem scond {b : Bool} {c : Operand} {x y : Code} {m1 m2 : Option R} (hc : OpdF (lk l) c (bl b))
    (h1 : Sq X l m m1 (fun r => x.wp X.P (Q r))) (h2 : Sq X l m m2 (fun r => y.wp X.P (Q r))) :
    Sq X l m (bif b then m1 else m2) (fun r => (Code.cond c x y).wp X.P (Q r)) := by
  intro r a w γ hr hi
  have := hc.val hi
  simp only [bl, Ly.val, cpB] at this
  refine wp_cond_split this (fun hb => ?_) (fun hb => ?_) <;> subst hb
  · exact h1 r a w γ hr hi
  · exact h2 r a w γ hr hi

theorem scondJ {σ : Type} {b : Bool} {c : Operand} {x y : Code} {m1 m2 : Option σ} {k : σ → Option R} (hc : OpdF (lk l) c (bl b))
    (h1 : Sq X l m (m1.bind k) (fun r => x.wp X.P (Q r))) (h2 : Sq X l m (m2.bind k) (fun r => y.wp X.P (Q r))) :
    Sq X l m ((bif b then m1 else m2).bind k) (fun r => (Code.cond c x y).wp X.P (Q r)) := by
  have : (bif b then m1 else m2).bind k = bif b then m1.bind k else m2.bind k := by cases b <;> rfl
  rw [this]; exact scond hc h1 h2

theorem sskip (h : Sq X l m md (fun r => Q r .normal)) : Sq X l m md (fun r => Code.skip.wp X.P (Q r)) := fun r a w γ hr hi => wp_skip (h r a w γ hr hi)
theorem sexit {id : Nat} (h : Sq X l m md (fun r => Q r (.exit id))) : Sq X l m md (fun r => (Code.exit id).wp X.P (Q r)) := fun r a w γ hr hi => wp_exit (h r a w γ hr hi)
theorem sret (h : Sq X l m md (fun r => Q r .ret)) : Sq X l m md (fun r => Code.ret.wp X.P (Q r)) := fun r a w γ hr hi => wp_ret (h r a w γ hr hi)
theorem sseq {x y : Code} (h : Sq X l m md (fun r => x.wp X.P (Exit.then (y.wp X.P (Q r)) (Q r)))) : Sq X l m md (fun r => (Code.seq x y).wp X.P (Q r)) :=
  fun r a w γ hr hi => wp_seq (h r a w γ hr hi)
theorem sblk {id : Nat} {c : Code} (h : Sq X l m md (fun r => c.wp X.P (Exit.inBlock id (Q r)))) : Sq X l m md (fun r => (Code.block id c).wp X.P (Q r)) :=
  fun r a w γ hr hi => wp_block (h r a w γ hr hi)
theorem sreg {id : Nat} {ls : List Oper} (h : Sq X l m md (fun r => wpList X.P ⟨ls⟩ (Q r) ls)) : Sq X l m md (fun r => (Code.region id ⟨ls⟩ false).wp X.P (Q r)) :=
  fun r a w γ hr hi => wp_region_list (h r a w γ hr hi)
theorem snil {ops : Array Oper} (h : Sq X l m md (fun r => Q r .normal)) : Sq X l m md (fun r => wpList X.P ops (Q r) []) := h
/-- The exit of the block that stands next. -/
theorem sx {id : Nat} (h : Sq X l m md (fun r => Q r .normal)) : Sq X l m md (fun r => Exit.inBlock id (Q r) (.exit id)) :=
  fun r a w γ hr hi => by simp only [Exit.inBlock, if_true]; exact h r a w γ hr hi
/-- The exit of a farther block. -/
theorem sxo {id id' : Nat} (hne : Nat.beq id' id = false) (h : Sq X l m md (fun r => Q r (.exit id'))) : Sq X l m md (fun r => Exit.inBlock id (Q r) (.exit id')) :=
  fun r a w γ hr hi => by
    have : id' ≠ id := fun e => by subst e; simp at hne
    simp only [Exit.inBlock, if_neg this]; exact h r a w γ hr hi

/-- One operation. -/
theorem so {d op ty pos after} {ops : Array Oper} {rest : List Oper} {el em} (h : OpOk X (lk l) (lk m) ⟨d, op, ty, pos, after, none⟩ el em)
    (k : Sq X (el ++ l) (em ++ m) md (fun r => wpList X.P ops (Q r) rest)) : Sq X l m md (fun r => wpList X.P ops (Q r) (⟨d, op, ty, pos, after, none⟩ :: rest)) := by
  intro r a w γ hr hi
  refine wpList_plain rfl fun K hK => h a w γ K (Q r) hi fun a' w' γ' hi' => hK a' w' (k r a' w' γ' hr ?_)
  rw [up_lk, up_lk] at hi'; exact hi'
/-- One operation that turns one slot, and nothing else. -/
theorem s1 {d op ty pos after} {ops : Array Oper} {rest : List Oper} {e} (h : OpOk X (lk l) (lk m) ⟨d, op, ty, pos, after, none⟩ [e] [])
    (k : Sq X (e :: l) m md (fun r => wpList X.P ops (Q r) rest)) : Sq X l m md (fun r => wpList X.P ops (Q r) (⟨d, op, ty, pos, after, none⟩ :: rest)) := so h k

theorem OpOk.guard {st mm d op ty pos after gd el em} (h : OpOk X st mm ⟨d, op, ty, pos, after, none⟩ el em) : OpOk X st mm ⟨d, op, ty, pos, after, gd⟩ el em := h

theorem yielded_of {ops : Array Oper} {j dj : Nat} {b : Bool} {st mm a w γ} (hi : Inv X st mm a w γ) (hj : ((ops[j]?).bind (·.dst)) = some dj) (hv : st dj = some (bl b)) : yielded ops a.tmps j = some b := by
  obtain ⟨v, hv', hl⟩ := hi.sts dj _ hv
  simp only [bl, Ly.val, cpB] at hl
  subst hl
  unfold yielded
  simp [hj, hv']

/-- A guarded operation that is wanted. -/
theorem sg {d op ty pos after j b} {ops : Array Oper} {rest : List Oper} {el em} (dj : Nat) (hj : ((ops[j]?).bind (·.dst)) = some dj) (hv : lk l dj = some (bl b)) (h : OpOk X (lk l) (lk m) ⟨d, op, ty, pos, after, none⟩ el em)
    (k : Sq X (el ++ l) (em ++ m) md (fun r => wpList X.P ops (Q r) rest)) : Sq X l m md (fun r => wpList X.P ops (Q r) (⟨d, op, ty, pos, after, some (j, b)⟩ :: rest)) := by
  intro r a w γ hr hi
  refine wpList_step fun K hK => ?_
  rw [if_pos (by simp [Region.wanted, yielded_of hi hj hv])]
  refine h a w γ K (Q r) hi fun a' w' γ' hi' => hK a' w' (k r a' w' γ' hr ?_)
  rw [up_lk, up_lk] at hi'; exact hi'
/-- A guarded operation that is passed by. -/
theorem sp {d op ty pos after j b} {ops : Array Oper} {rest : List Oper} (dj : Nat) (hj : ((ops[j]?).bind (·.dst)) = some dj) (hv : lk l dj = some (bl (!b))) (hd : Nat.blt d X.N = true)
    (k : Sq X ((d, .any) :: l) m md (fun r => wpList X.P ops (Q r) rest)) : Sq X l m md (fun r => wpList X.P ops (Q r) (⟨some d, op, ty, pos, after, some (j, b)⟩ :: rest)) := by
  intro r a w γ hr hi
  refine wpList_step fun K hK => ?_
  rw [if_neg (by cases b <;> simp [Region.wanted, yielded_of hi hj hv])]
  refine hK _ w (k r _ w γ hr ?_)
  have := hi.put (d := d) (v := undef) (ly := .any) (by simpa using hd) (by simp [Ly.val])
  rw [up_lk] at this; exact this

/-! ### Loops -/
def LpQ {σ τ : Type} (X : Cx) (L : σ → List (Nat × Ly)) (M : σ → List (Nat × Ct)) (k : τ → Option R) (Q : R → Exit → Act → World → Prop) : Lp σ τ → Exit → Act → World → Prop
  | .go s, e, a, w => e = .normal ∧ ∃ γ, Inv X (lk (L s)) (lk (M s)) a w γ
  | .out t, e, a, w => e ≠ .normal ∧ ∀ r, k t = some r → Q r e a w

theorem sgo {σ τ : Type} {L : σ → List (Nat × Ly)} {M : σ → List (Nat × Ct)} {k : τ → Option R} {s : σ} (h : Ent X l m (L s) (M s)) :
    Sq X l m (some (Lp.go s)) (fun o => LpQ X L M k Q o .normal) := by
  intro o a w γ ho hi
  cases ho
  exact ⟨rfl, h a w γ hi⟩
theorem sout {σ τ : Type} {L : σ → List (Nat × Ly)} {M : σ → List (Nat × Ct)} {k : τ → Option R} {t : τ} {e : Exit} (he : e ≠ .normal) (h : Sq X l m (k t) (fun r => Q r e)) :
    Sq X l m (some (Lp.out t)) (fun (o : Lp σ τ) => LpQ X L M k Q o e) := by
  intro o a w γ ho hi
  cases ho
  exact ⟨he, fun r hr => h r a w γ hr hi⟩

theorem wp_loop_n {P : Program} {Q : Exit → Act → World → Prop} {c : Code} (I : Nat → Act → World → Prop)
    (round : ∀ n a w, I n a w → c.wp P (Exit.then (fun a' w' => ∃ n', n' < n ∧ I n' a' w') Q) a w) : ∀ n a w, I n a w → (Code.loop c).wp P Q a w := by
  intro n0 a0 w0 h0 b k cs
  have key : ∀ n a w, I n a w → ∃ e a' w', Q e a' w' ∧ Arrives P (lone (b.at a (.code c :: .inLoop c :: k)) cs w) b k cs e a' w' := by
    intro n
    induction n using Nat.strongRecOn with
    | _ n ih =>
      intro a w hI
      obtain ⟨e, a₁, w₁, hq, harr⟩ := round n a w hI b (.inLoop c :: k) cs
      cases e with
      | normal =>
        obtain ⟨n', hlt, hI₁⟩ := hq
        obtain ⟨e₂, a₂, w₂, hq₂, harr₂⟩ := ih n' hlt a₁ w₁ hI₁
        exact ⟨e₂, a₂, w₂, hq₂, .of_steps (Steps.trans harr (.one step_inLoop)) harr₂⟩
      | exit id => exact ⟨_, a₁, w₁, hq, .pass (x := .inLoop c) rfl (fun _ _ => .inl (by simp)) harr⟩
      | goto l => exact ⟨_, a₁, w₁, hq, .pass (x := .inLoop c) rfl (fun _ _ => .inl (by simp)) harr⟩
      | ret => exact ⟨_, a₁, w₁, hq, .pass (x := .inLoop c) rfl (fun _ _ => .inl (by simp)) harr⟩
      | panic ch => exact ⟨_, a₁, w₁, hq, .pass (x := .inLoop c) rfl (fun _ _ => .inl (by simp)) harr⟩
      | outgrown => exact ⟨_, a₁, w₁, hq, .pass (x := .inLoop c) rfl (fun _ _ => .inl (by simp)) harr⟩
  obtain ⟨e, a', w', hq, harr⟩ := key n0 a0 w0 h0
  exact ⟨e, a', w', hq, .of_steps (.one step_loop) harr⟩

theorem sloop {σ τ τ0 : Type} {body : Code} {f : σ → Option (Lp σ τ)} {n : Nat} {s0 : σ} {k : τ → Option R} {G' : R → Act → World → Prop} (inj : τ0 → τ)
    (L : σ → List (Nat × Ly)) (M : σ → List (Nat × Ct)) (Lo : τ0 → List (Nat × Ly)) (Mo : τ0 → List (Nat × Ct)) (h0 : Ent X l m (L s0) (M s0))
    (hb : (∀ t, Sq X (Lo t) (Mo t) (k (inj t)) G') → ∀ s, Sq X (L s) (M s) (f s) (fun o => body.wp X.P (LpQ X L M k Q o)))
    (hJ : ∀ t, Sq X (Lo t) (Mo t) (k (inj t)) G') :
    Sq X l m ((loopM f n s0).bind k) (fun r => (Code.loop body).wp X.P (Q r)) := by
  have hb := hb hJ
  intro r a w γ hr hi
  obtain ⟨γ0, hi0⟩ := h0 a w γ hi
  refine wp_loop_n (fun n a w => ∃ s γ, ((loopM f n s).bind k = some r) ∧ Inv X (lk (L s)) (lk (M s)) a w γ) ?_ n a w ⟨s0, γ0, hr, hi0⟩
  rintro n a w ⟨s, γ, hr, hi⟩
  cases n with
  | zero => cases hr
  | succ n =>
    cases hf : f s with
    | none => simp [loopM, hf] at hr
    | some o =>
      refine Code.wp_mono (fun e a' w' hq => ?_) (hb s o a w γ hf hi)
      cases o with
      | go s' =>
        obtain ⟨rfl, γ', hi'⟩ := hq
        exact ⟨n, Nat.lt_succ_self n, s', γ', by simpa [loopM, hf] using hr, hi'⟩
      | out t =>
        obtain ⟨hne, hq⟩ := hq
        have hkt : k t = some r := by simpa [loopM, hf] using hr
        have := hq r hkt
        cases e <;> first | exact this | exact absurd rfl hne

/-! ### Ways through the code that stands around -/
theorem pnm {y : Code} (h : Sq X l m md (fun r => y.wp X.P (Q r))) : Sq X l m md (fun r => Exit.then (y.wp X.P (Q r)) (Q r) .normal) := h
theorem pth {N : R → Act → World → Prop} (h : Sq X l m md (fun r => Q r .ret)) : Sq X l m md (fun r => Exit.then (N r) (Q r) .ret) := h
theorem ptx {N : R → Act → World → Prop} {id : Nat} (h : Sq X l m md (fun r => Q r (.exit id))) : Sq X l m md (fun r => Exit.then (N r) (Q r) (.exit id)) := h
theorem pbn {id : Nat} (h : Sq X l m md (fun r => Q r .normal)) : Sq X l m md (fun r => Exit.inBlock id (Q r) .normal) := h
theorem pbl {id : Nat} (h : Sq X l m md (fun r => Q r .ret)) : Sq X l m md (fun r => Exit.inBlock id (Q r) .ret) := h

/-- Ways that meet again: the model names what comes then. -/
def jn {σ ρ : Type} (A : (σ → Option ρ) → Option ρ) (k : σ → Option ρ) : Option ρ := A k
theorem sjn {σ : Type} {A : (σ → Option R) → Option R} {k : σ → Option R} {G' : R → Act → World → Prop} (L : σ → List (Nat × Ly)) (M : σ → List (Nat × Ct))
    (h : ∀ j : σ → Option R, (∀ s, Sq X (L s) (M s) (j s) G') → Sq X l m (A j) G) (J : ∀ s, Sq X (L s) (M s) (k s) G') : Sq X l m (jn A k) G := h k J

/-- A test that parts the ways, its outcome laid in its slot. -/
theorem snd {α : Type} {x : α} {k : α → Option R} (h : Sq X l m (k x) G) : Sq X l m ((some x).bind k) G := h

def nkey {α : Type} (d : Nat) : List (Nat × α) → Bool
  | [] => true
  | (i, _) :: l => !(Nat.beq i d) && nkey d l

theorem lk_nkey {α : Type} {d : Nat} : ∀ {l : List (Nat × α)}, nkey d l = true → lk l d = none
  | [], _ => rfl
  | (i, _) :: l, h => by
    simp only [nkey, Bool.and_eq_true, Bool.not_eq_true'] at h
    simp only [lk, h.1, cond_false]
    exact lk_nkey h.2

theorem srange {α σ τ : Type} {f : Nat → α → σ → Option (Lp σ τ)} {xs : List α} {s0 : σ} {k : Lp σ τ → Option R}
    {id1 id2 e tc ti tn t2 T1 T2 T3 T4 ty1 ty2 ty3 : Nat} {p1 p2 p3 : String} {f1 f2 f3 : Array Edge} {B : Code}
    (L : σ → List (Nat × Ly)) (M : σ → List (Nat × Ct))
    (hd : (Nat.blt tc X.N && Nat.blt ti X.N && Nat.blt t2 X.N && !(Nat.beq tc ti) && !(Nat.beq tc tn) && !(Nat.beq ti tn) && !(Nat.beq t2 tn) && !(Nat.beq t2 ti)) = true)
    (hk : ∀ s, (nkey tc (L s) && nkey ti (L s) && nkey t2 (L s) && nkey tn (L s)) = true)
    (h0 : Ent X l m ((ti, i64 (0 : Nat)) :: (tn, i64 xs.length) :: L s0) (M s0))
    (hb : ∀ (i : Nat) x s, xs[i]? = some x → Sq X ((ti, i64 i) :: (tn, i64 xs.length) :: L s) (M s) (f i x s)
      (fun o => B.wp X.P (LpQ X (fun s => (ti, i64 i) :: (tn, i64 xs.length) :: L s) M (fun t => k (.out t)) Q o)))
    (hJ : ∀ s, Sq X (L s) (M s) (k (.go s)) (fun r => Q r (.exit e))) :
    Sq X l m ((rangeL f xs 0 s0).bind k) (fun r => (Code.loop (.seq (.region id1 ⟨[⟨some tc, .binOp .lss T1 (.tmp ti) (.tmp tn) T2, ty1, p1, f1, none⟩]⟩ false)
      (.seq (.cond (.tmp tc) .skip (.exit e)) (.seq B (.region id2 ⟨[⟨some t2, .binOp .add T3 (.tmp ti) (.const (.int .i64 1)) T4, ty2, p2, f2, none⟩, ⟨some ti, .move (.tmp t2), ty3, p3, f3, none⟩]⟩ false))))).wp X.P (Q r)) := by
  simp only [Bool.and_eq_true, Bool.not_eq_true', Nat.blt_eq] at hd
  obtain ⟨⟨⟨⟨⟨⟨⟨hN1, hN2⟩, hN3⟩, e1⟩, e2⟩, e3⟩, e4⟩, e5⟩ := hd
  intro r a w γ hr hi
  obtain ⟨γ0, hi0⟩ := h0 a w γ hi
  refine wp_loop_n (fun n a w => ∃ i s γ, n = xs.length - i ∧ i ≤ xs.length ∧ ((rangeL f (xs.drop i) i s).bind k = some r) ∧ Inv X (lk ((ti, i64 i) :: (tn, i64 xs.length) :: L s)) (lk (M s)) a w γ) ?_ xs.length a w ⟨0, s0, γ0, rfl, Nat.zero_le _, by simpa using hr, hi0⟩
  rintro n a w ⟨i, s, γ, rfl, hile, hr, hi⟩
  have hks := hk s
  simp only [Bool.and_eq_true] at hks
  obtain ⟨⟨⟨k1, k2⟩, k3⟩, k4⟩ := hks
  -- the test
  have hti := OpdF.val hi (x := .tmp ti) (ly := i64 i) (by simp [OpdF, lk])
  have htn := OpdF.val hi (x := .tmp tn) (ly := i64 xs.length) (by simp [OpdF, lk, e3])
  simp only [i64, Ly.val, cpI] at hti htn
  refine wp_seq (wp_region_list (wpList_plain rfl fun K hK => ?_))
  have hrun : (execOp a.eval ⟨some tc, .binOp .lss T1 (.tmp ti) (.tmp tn) T2, ty1, p1, f1, none⟩).run X.P w = .ok (.value (.bool (decide (i < xs.length)))) w := by
    simp only [execOp, hti.1, htn.1]
    simp [eqGuard, binOp, Op.intCmp, bind, Sem.bind, pure]
  unfold Oper.wp
  rw [hrun]
  refine hK _ _ ?_
  have hi1 : Inv X (lk ((tc, bl (decide (i < xs.length))) :: (ti, i64 i) :: (tn, i64 xs.length) :: L s)) (lk (M s)) (a.put (some tc) (.bool (decide (i < xs.length)))) w γ := by
    have := hi.put (d := tc) (v := .bool (decide (i < xs.length))) (ly := bl (decide (i < xs.length))) hN1 (by simp [bl, Ly.val, cpB])
    rw [up_lk] at this; exact this
  show Code.wp _ _ _ _ _
  have hcv := OpdF.val hi1 (x := .tmp tc) (ly := bl (decide (i < xs.length))) (by simp [OpdF, lk])
  simp only [bl, Ly.val, cpB] at hcv
  by_cases hlt : i < xs.length
  · obtain ⟨x, hx⟩ : ∃ x, xs[i]? = some x := ⟨_, List.getElem?_eq_getElem hlt⟩
    have hdrop : xs.drop i = x :: xs.drop (i + 1) := by
      rw [List.drop_eq_getElem_cons hlt]
      rw [List.getElem?_eq_getElem hlt] at hx
      simp at hx; rw [hx]
    rw [hdrop] at hr
    have hdt : decide (i < xs.length) = true := by simp [hlt]
    rw [hdt] at hcv hi1 ⊢
    refine wp_seq (wp_cond_true hcv (wp_skip ?_))
    show Code.wp _ _ _ _ _
    cases hf : f i x s with
    | none => simp [rangeL, hf] at hr
    | some o =>
      have hi2 : Inv X (lk ((ti, i64 i) :: (tn, i64 xs.length) :: L s)) (lk (M s)) (a.put (some tc) (.bool true)) w γ :=
        { hi1 with sts := fun d ly hd => hi1.sts d ly (by
            have hne : Nat.beq tc d = false := by
              cases hb : Nat.beq tc d
              · rfl
              · have : tc = d := Nat.eq_of_beq_eq_true hb
                subst this
                have e1' : Nat.beq ti tc = false := by
                  cases hb : Nat.beq ti tc
                  · rfl
                  · rw [Nat.eq_of_beq_eq_true hb] at e1; simp at e1
                have e2' : Nat.beq tn tc = false := by
                  cases hb : Nat.beq tn tc
                  · rfl
                  · rw [Nat.eq_of_beq_eq_true hb] at e2; simp at e2
                simp only [lk, e1', e2', cond_false, lk_nkey k1] at hd
                cases hd
            show lk ((tc, bl true) :: _) d = _
            rw [lk, hne]; exact hd) }
      refine wp_seq (Code.wp_mono (fun e' a' w' hq => ?_) (hb i x s hx o _ w γ hf hi2))
      cases o with
      | out t =>
        obtain ⟨hne, hq⟩ := hq
        have hkt : k (.out t) = some r := by simpa [rangeL, hf] using hr
        have := hq r hkt
        cases e' <;> first | exact this | exact absurd rfl hne
      | go s' =>
        obtain ⟨rfl, γ', hi'⟩ := hq
        have hr' : (rangeL f (xs.drop (i + 1)) (i + 1) s').bind k = some r := by simpa [rangeL, hf] using hr
        have hti' := OpdF.val hi' (x := .tmp ti) (ly := i64 i) (by simp [OpdF, lk])
        have htn' := OpdF.val hi' (x := .tmp tn) (ly := i64 xs.length) (by simp [OpdF, lk, e3])
        simp only [i64, Ly.val, cpI] at hti' htn'
        have hw : IntKind.i64.wrap ((i : Int) + 1) = ((i + 1 : Nat) : Int) := by
          have h1 : (xs.length : Int) ≤ 9223372036854775807 := by simpa [IntKind.max, IntKind.signed, IntKind.bits] using htn'.2.2
          rw [IntKind.wrap_i64]; omega
        show Code.wp _ _ _ _ _
        refine wp_region_list (wpList_plain rfl fun K hK => ?_)
        have hrun2 : (execOp a'.eval ⟨some t2, .binOp .add T3 (.tmp ti) (.const (.int .i64 1)) T4, ty2, p2, f2, none⟩).run X.P w' = .ok (.value (.int .i64 ((i + 1 : Nat) : Int))) w' := by
          simp only [execOp]
          rw [hti'.1]
          show Sem.run X.P _ w' = _
          simp [eqGuard, binOp, Op.intArith, bind, Sem.bind, pure, Act.eval, hw]
        unfold Oper.wp
        rw [hrun2]
        refine hK _ _ ?_
        have hb1 : ((i + 1 : Nat) : Int) ≤ IntKind.i64.max := by
          have h1 := htn'.2.2
          omega
        have hb0 : IntKind.i64.min ≤ ((i + 1 : Nat) : Int) := by
          have h1 : IntKind.i64.min ≤ 0 := by decide
          omega
        have hi3 := hi'.put (d := t2) (v := .int .i64 ((i + 1 : Nat) : Int)) (ly := i64 ((i + 1 : Nat) : Int)) hN3 ⟨rfl, hb0, hb1⟩
        rw [up_lk] at hi3
        have ht2 := OpdF.val hi3 (x := .tmp t2) (ly := i64 ((i + 1 : Nat) : Int)) (by simp [OpdF, lk])
        simp only [i64, Ly.val, cpI] at ht2
        refine wpList_plain rfl fun K hK => ?_
        unfold Oper.wp
        have hrun3 : (execOp (Act.put a' (some t2) (.int .i64 ((i + 1 : Nat) : Int))).eval ⟨some ti, .move (.tmp t2), ty3, p3, f3, none⟩).run X.P w' = .ok (.value (.int .i64 ((i + 1 : Nat) : Int))) w' := by
          simp only [execOp, ht2.1]; rfl
        rw [hrun3]
        refine hK _ _ ?_
        have hi4 := hi3.put (d := ti) (v := .int .i64 ((i + 1 : Nat) : Int)) (ly := i64 ((i + 1 : Nat) : Int)) hN2 ⟨rfl, hb0, hb1⟩
        rw [up_lk] at hi4
        have hks := hk s'
        simp only [Bool.and_eq_true] at hks
        obtain ⟨⟨⟨k1', k2'⟩, k3'⟩, k4'⟩ := hks
        refine ⟨xs.length - (i + 1), by omega, i + 1, s', γ', rfl, by omega, hr', { hi4 with sts := fun d ly hd => hi4.sts d ly ?_ }⟩
        show lk ((ti, _) :: (t2, _) :: (ti, _) :: (tn, _) :: _) d = some ly
        simp only [lk] at hd ⊢
        cases hb1 : Nat.beq ti d
        · simp only [hb1, cond_false] at hd ⊢
          cases hb2 : Nat.beq t2 d
          · simpa using hd
          · have : t2 = d := Nat.eq_of_beq_eq_true hb2
            subst this
            have e4' : Nat.beq tn t2 = false := by
              cases hb : Nat.beq tn t2
              · rfl
              · rw [Nat.eq_of_beq_eq_true hb] at e4; simp at e4
            rw [e4', cond_false, lk_nkey k3'] at hd; cases hd
        · simp only [hb1, cond_true] at hd ⊢; exact hd
  · have : xs.drop i = [] := List.drop_eq_nil_of_le (by omega)
    rw [this] at hr
    have hdf : decide (i < xs.length) = false := by simp [hlt]
    rw [hdf] at hcv hi1 ⊢
    refine wp_seq (wp_cond_false hcv (wp_exit ?_))
    show Q r (.exit e) _ _
    refine hJ s r _ w γ (by simpa [rangeL] using hr) { hi1 with sts := fun d ly hd => hi1.sts d ly ?_ }
    have nk : ∀ t, nkey t (L s) = true → Nat.beq t d = false := fun t ht => by
      cases hb : Nat.beq t d
      · rfl
      · rw [Nat.eq_of_beq_eq_true hb] at ht
        rw [lk_nkey ht] at hd; cases hd
    show lk ((tc, _) :: (ti, _) :: (tn, _) :: _) d = some ly
    simp only [lk, nk tc k1, nk ti k2, nk tn k4, cond_false]
    exact hd
end rules
end Go.Proofs.YtiobbiamnjapgaaDoor
