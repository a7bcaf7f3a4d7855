import Derived.WalkKit
import Derived.KernelRfl
import Derived.Orders
namespace Go.Proofs.YtiobbiamnjapgaaDoor
open Go

theorem orM {a b c d : Prop} (h : a ∨ b) (f : a → c) (g : b → d) : c ∨ d := h.elim (fun x => .inl (f x)) (fun x => .inr (g x))
/-- From w to w' nothing has changed outside S, and no block has gone. -/
def Kp (S : Nat → Prop) (w w' : World) : Prop :=
  w.heap.size ≤ w'.heap.size ∧ ∀ b, b < w.heap.size → ¬ S b → w'.heap[b]? = w.heap[b]?

theorem Kp.refl (S : Nat → Prop) (w : World) : Kp S w w := ⟨Nat.le_refl _, fun _ _ _ => rfl⟩

/-- What is known of the value of one cell: kept when memory changes outside S only. -/
structure CP where
  p : World → (Nat → Prop) → Value → Prop
  one : ∀ {w S v}, p w S v → v.oneCell' = true
  mono : ∀ {w S v w' S'}, p w S v → Kp S w w' → (∀ b, S' b → S b ∨ w.heap.size ≤ b) → p w' S' v

/-- What is known of a value: its layout, with what each cell holds. -/
inductive Ly where
  | cell (p : CP)
  | agg (l : List Ly)
  | own (id : Nat)
  | ptr (id off : Nat)
  | ref (ly : Ly)
  | por (id : Nat)
  | win (id off len : Nat)
  | ifc (T : Nat) (ly : Ly)
  | tup (l : List Ly)
  | any

def blkOf : Value → Option Nat
  | .slice (some a) _ _ => some a.block
  | .pointer (some a) => some a.block
  | _ => none

/-- A piece of a row that is owned. -/
def WinV (γ : Nat → Option Value) (id off len : Nat) (v : Value) : Prop := ∃ v0, γ id = some v0 ∧ ((v = .slice none 0 0 ∧ v0 = .slice none 0 0 ∧ len = 0) ∨ ∃ g cap o, blkOf v0 = some g ∧ v = .slice (some ⟨g, o, none⟩) len cap ∧ (0 < len → o = off) ∧ len ≤ cap ∧ cap ≤ maxLen)

/-- Names of blocks that the call owns: the value that leads to each. -/
abbrev Nm := Nat → Option Value

mutual
def Ly.hold (w : World) (S : Nat → Prop) (γ : Nm) : Ly → List Value → Prop
  | .cell p, cs => ∃ v, cs = [v] ∧ p.p w S v
  | .agg l, cs => Ly.holds w S γ l cs
  | .own id, cs => ∃ v, cs = [v] ∧ γ id = some v ∧ v.oneCell' = true
  | .ptr id off, cs => ∃ v0 g, γ id = some v0 ∧ blkOf v0 = some g ∧ cs = [.pointer (some ⟨g, off, none⟩)]
  | .ref ly, cs => ∃ b o us, cs = [.pointer (some ⟨b, o, none⟩)] ∧ b < w.heap.size ∧ ¬ S b ∧ (∀ j u, us[j]? = some u → w.cell? ⟨b, o + j, none⟩ = some u) ∧ Ly.hold w S γ ly us
  | .por id, cs => ∃ v, cs = [v] ∧ (v = .pointer none ∨ ∃ v0 g, γ id = some v0 ∧ blkOf v0 = some g ∧ v = .pointer (some ⟨g, 0, none⟩))
  | .win id off len, cs => ∃ v, cs = [v] ∧ WinV γ id off len v
  | .ifc _ _, _ => False
  | .tup _, _ => False
  | .any, _ => False
def Ly.holds (w : World) (S : Nat → Prop) (γ : Nm) : List Ly → List Value → Prop
  | [], cs => cs = []
  | ly :: l, cs => ∃ c1 c2, cs = c1 ++ c2 ∧ Ly.hold w S γ ly c1 ∧ Ly.holds w S γ l c2
end

mutual
def Ly.val (w : World) (S : Nat → Prop) (γ : Nm) : Ly → Value → Prop
  | .agg l, v => ∃ cs, v = .agg cs ∧ Ly.holds w S γ l cs.toList
  | .tup l, v => ∃ vs, v = .tuple vs ∧ Ly.vals w S γ l vs.toList
  | .any, _ => True
  | .cell p, v => p.p w S v
  | .own id, v => γ id = some v ∧ v.oneCell' = true
  | .ptr id off, v => ∃ v0 g, γ id = some v0 ∧ blkOf v0 = some g ∧ v = .pointer (some ⟨g, off, none⟩)
  | .ref ly, v => Ly.hold w S γ (.ref ly) [v]
  | .por id, v => v = .pointer none ∨ ∃ v0 g, γ id = some v0 ∧ blkOf v0 = some g ∧ v = .pointer (some ⟨g, 0, none⟩)
  | .win id off len, v => WinV γ id off len v
  | .ifc T ly, v => ∃ u, v = .iface T u ∧ Ly.val w S γ ly u
def Ly.vals (w : World) (S : Nat → Prop) (γ : Nm) : List Ly → List Value → Prop
  | [], vs => vs = []
  | ly :: l, vs => ∃ v r, vs = v :: r ∧ Ly.val w S γ ly v ∧ Ly.vals w S γ l r
end

mutual
def Ly.sz : Ly → Nat
  | .agg l => Ly.szs l
  | _ => 1
def Ly.szs : List Ly → Nat
  | [] => 0
  | ly :: l => ly.sz + Ly.szs l
end

mutual
theorem Ly.hold_sz {w S γ} : ∀ (ly : Ly) (cs : List Value), ly.hold w S γ cs → cs.length = ly.sz
  | .cell p, cs, h => by obtain ⟨v, rfl, _⟩ := h; rfl
  | .agg l, cs, h => by simpa [Ly.sz] using Ly.holds_sz l cs (by simpa [Ly.hold] using h)
  | .own id, cs, h => by obtain ⟨v, rfl, _⟩ := h; rfl
  | .ptr id off, cs, h => by obtain ⟨_, g, _, _, rfl⟩ := h; rfl
  | .ref ly, cs, h => by obtain ⟨b, o, us, rfl, _⟩ := h; rfl
  | .por id, cs, h => by obtain ⟨v, rfl, _⟩ := h; rfl
  | .win id off len, cs, h => by obtain ⟨v, rfl, _⟩ := h; rfl
  | .ifc _ _, _, h => by simp [Ly.hold] at h
  | .tup _, _, h => by simp [Ly.hold] at h
  | .any, _, h => by simp [Ly.hold] at h
theorem Ly.holds_sz {w S γ} : ∀ (l : List Ly) (cs : List Value), Ly.holds w S γ l cs → cs.length = Ly.szs l
  | [], cs, h => by simp [Ly.holds] at h; simp [h, Ly.szs]
  | ly :: l, cs, h => by
    obtain ⟨c1, c2, rfl, h1, h2⟩ := h
    simp [Ly.szs, Ly.hold_sz ly c1 h1, Ly.holds_sz l c2 h2]
end

theorem Kp.cell {S : Nat → Prop} {w w' : World} (h : Kp S w w') {b o : Nat} {v : Value} (hS : ¬ S b) (hc : w.cell? ⟨b, o, none⟩ = some v) :
    w'.cell? ⟨b, o, none⟩ = some v := by
  have hb : b < w.heap.size := by
    rcases Nat.lt_or_ge b w.heap.size with h | h
    · exact h
    · simp [World.cell?, Array.getElem?_eq_none h] at hc
  rw [World.cell?_of_block (w := w) (h.2 b hb hS)]; exact hc

theorem Kp.trans {S S' : Nat → Prop} {a b c : World} (h : Kp S a b) (k : Kp S' b c) (hs : ∀ x, S' x → S x ∨ a.heap.size ≤ x) : Kp S a c :=
  ⟨Nat.le_trans h.1 k.1, fun x hx hn => by
    rw [k.2 x (Nat.lt_of_lt_of_le hx h.1) (fun hx' => (hs x hx').elim hn (fun h' => by omega))]
    exact h.2 x hx hn⟩

/-- Names are only added. -/
def Ng (γ γ' : Nm) : Prop := ∀ id v, γ id = some v → γ' id = some v
theorem Ng.refl (γ : Nm) : Ng γ γ := fun _ _ h => h
theorem WinV.mono {γ γ' : Nm} (hg : Ng γ γ') {id off len : Nat} {v : Value} (h : WinV γ id off len v) : WinV γ' id off len v := by
  obtain ⟨v0, h1, h2⟩ := h; exact ⟨v0, hg _ _ h1, h2⟩
theorem WinV.one {γ : Nm} {id off len : Nat} {v : Value} (h : WinV γ id off len v) : v.oneCell' = true := by
  obtain ⟨v0, _, ⟨rfl, _⟩ | ⟨g, cap, o, _, rfl, _⟩⟩ := h <;> rfl

mutual
theorem Ly.hold_mono {w w' : World} {S S' : Nat → Prop} {γ γ' : Nm} (hk : Kp S w w') (hs : ∀ b, S' b → S b ∨ w.heap.size ≤ b) (hg : Ng γ γ') :
    ∀ (ly : Ly) (cs : List Value), ly.hold w S γ cs → ly.hold w' S' γ' cs
  | .cell p, cs, h => by obtain ⟨v, rfl, hp⟩ := h; exact ⟨v, rfl, p.mono hp hk hs⟩
  | .agg l, cs, h => by
    simp only [Ly.hold] at h ⊢
    exact Ly.holds_mono hk hs hg l cs h
  | .own id, cs, h => by obtain ⟨v, rfl, h1, h2⟩ := h; exact ⟨v, rfl, hg _ _ h1, h2⟩
  | .ptr id off, cs, h => by obtain ⟨v0, g, h1, h2, rfl⟩ := h; exact ⟨v0, g, hg _ _ h1, h2, rfl⟩
  | .ref ly, cs, h => by
    obtain ⟨b, o, us, rfl, hb, hS, hc, h1⟩ := h
    refine ⟨b, o, us, rfl, Nat.lt_of_lt_of_le hb hk.1, fun h' => (hs b h').elim hS (fun h'' => by omega), fun j u hj => hk.cell hS (hc j u hj), Ly.hold_mono hk hs hg ly us h1⟩
  | .por id, cs, h => by
    obtain ⟨v, rfl, h⟩ := h
    exact ⟨v, rfl, orM h (fun x => x) (fun ⟨v0, g, h1, h2, h3⟩ => ⟨v0, g, hg _ _ h1, h2, h3⟩)⟩
  | .win id off len, cs, h => by obtain ⟨v, rfl, h⟩ := h; exact ⟨v, rfl, h.mono hg⟩
  | .ifc _ _, _, h => by simp [Ly.hold] at h
  | .tup _, _, h => by simp [Ly.hold] at h
  | .any, _, h => by simp [Ly.hold] at h
theorem Ly.holds_mono {w w' : World} {S S' : Nat → Prop} {γ γ' : Nm} (hk : Kp S w w') (hs : ∀ b, S' b → S b ∨ w.heap.size ≤ b) (hg : Ng γ γ') :
    ∀ (l : List Ly) (cs : List Value), Ly.holds w S γ l cs → Ly.holds w' S' γ' l cs
  | [], cs, h => h
  | ly :: l, cs, h => by
    obtain ⟨c1, c2, rfl, h1, h2⟩ := h
    exact ⟨c1, c2, rfl, Ly.hold_mono hk hs hg ly c1 h1, Ly.holds_mono hk hs hg l c2 h2⟩
end

mutual
theorem Ly.val_mono {w w' : World} {S S' : Nat → Prop} {γ γ' : Nm} (hk : Kp S w w') (hs : ∀ b, S' b → S b ∨ w.heap.size ≤ b) (hg : Ng γ γ') :
    ∀ (ly : Ly) (v : Value), ly.val w S γ v → ly.val w' S' γ' v
  | .agg l, v, h => by
    simp only [Ly.val] at h ⊢
    obtain ⟨cs, rfl, h⟩ := h; exact ⟨cs, rfl, Ly.holds_mono hk hs hg l _ h⟩
  | .tup l, v, h => by
    simp only [Ly.val] at h ⊢
    obtain ⟨vs, rfl, h⟩ := h; exact ⟨vs, rfl, Ly.vals_mono hk hs hg l _ h⟩
  | .any, v, h => by simp [Ly.val]
  | .cell p, v, h => by simp only [Ly.val] at h ⊢; exact p.mono h hk hs
  | .own id, v, h => by simp only [Ly.val] at h ⊢; exact ⟨hg _ _ h.1, h.2⟩
  | .ptr id off, v, h => by simp only [Ly.val] at h ⊢; obtain ⟨v0, g, h1, h2, rfl⟩ := h; exact ⟨v0, g, hg _ _ h1, h2, rfl⟩
  | .ref ly, v, h => by simp only [Ly.val] at h ⊢; exact Ly.hold_mono hk hs hg (.ref ly) [v] h
  | .por id, v, h => by simp only [Ly.val] at h ⊢; exact orM h (fun x => x) (fun ⟨v0, g, h1, h2, h3⟩ => ⟨v0, g, hg _ _ h1, h2, h3⟩)
  | .win id off len, v, h => by simp only [Ly.val] at h ⊢; exact h.mono hg
  | .ifc T ly, v, h => by
    simp only [Ly.val] at h ⊢
    obtain ⟨u, rfl, h⟩ := h; exact ⟨u, rfl, Ly.val_mono hk hs hg ly u h⟩
theorem Ly.vals_mono {w w' : World} {S S' : Nat → Prop} {γ γ' : Nm} (hk : Kp S w w') (hs : ∀ b, S' b → S b ∨ w.heap.size ≤ b) (hg : Ng γ γ') :
    ∀ (l : List Ly) (vs : List Value), Ly.vals w S γ l vs → Ly.vals w' S' γ' l vs
  | [], vs, h => by simp only [Ly.vals] at h ⊢; exact h
  | ly :: l, vs, h => by
    simp only [Ly.vals] at h ⊢
    obtain ⟨v, r, rfl, h1, h2⟩ := h
    exact ⟨v, r, rfl, Ly.val_mono hk hs hg ly v h1, Ly.vals_mono hk hs hg l r h2⟩
end

/-- Whether a layout lies in cells (a struct, an array, or one cell). -/
def Ly.lies : Ly → Bool
  | .tup _ => false
  | .any => false
  | .ifc _ _ => false
  | _ => true
def Ly.isN : Ly → Bool
  | .agg _ => true
  | _ => false

theorem Ly.hold_of_val {w S γ} {ly : Ly} {v : Value} (hl : ly.lies = true) (h : ly.val w S γ v) : ly.hold w S γ v.cells.toList := by
  cases ly <;> simp [Ly.lies] at hl <;> simp only [Ly.val] at h
  case cell p => 
    have := p.one h
    cases v <;> simp [Value.oneCell'] at this <;> exact ⟨_, rfl, h⟩
  case agg l => obtain ⟨cs, rfl, h⟩ := h; simpa [Ly.hold, Value.cells] using h
  case own id => 
    obtain ⟨h1, h2⟩ := h
    cases v <;> simp [Value.oneCell'] at h2 <;> exact ⟨_, rfl, h1, rfl⟩
  case ptr id off => obtain ⟨v0, g, h1, h2, rfl⟩ := h; exact ⟨v0, g, h1, h2, rfl⟩
  case ref ly => 
    have h' := h
    obtain ⟨b, o, us, hv, _⟩ := h
    simp at hv; subst hv; exact h'
  case por id =>
    rcases h with rfl | ⟨v0, g, h1, h2, rfl⟩
    · exact ⟨_, rfl, .inl rfl⟩
    · exact ⟨_, rfl, .inr ⟨v0, g, h1, h2, rfl⟩⟩
  case win id off len =>
    have h' := h.one
    cases v <;> simp [Value.oneCell'] at h' <;> exact ⟨_, rfl, h⟩

theorem Ly.val_of_hold1 {w S γ} {ly : Ly} {v : Value} (hn : ly.isN = false) (h : ly.hold w S γ [v]) : ly.val w S γ v := by
  cases ly <;> simp [Ly.isN] at hn
  case cell p => obtain ⟨u, hu, h⟩ := h; simp at hu; subst hu; simpa [Ly.val] using h
  case own id => obtain ⟨u, hu, h1, h2⟩ := h; simp at hu; subst hu; exact ⟨h1, h2⟩
  case ptr id off => obtain ⟨v0, g, h1, h2, hu⟩ := h; simp at hu; subst hu; exact ⟨v0, g, h1, h2, rfl⟩
  case ref ly => simpa [Ly.val] using h
  case por id => obtain ⟨u, hu, h⟩ := h; simp at hu; subst hu; simpa [Ly.val] using h
  case win id off len => obtain ⟨u, hu, h⟩ := h; simp at hu; subst hu; simpa [Ly.val] using h
  case tup l => simp [Ly.hold] at h
  case ifc T l => simp [Ly.hold] at h
  case any => trivial

theorem Ly.oneCell_of_hold1 {w S γ} {ly : Ly} {v : Value} (hn : ly.isN = false) (h : ly.hold w S γ [v]) : v.oneCell' = true := by
  cases ly <;> simp [Ly.isN] at hn
  case cell p => obtain ⟨u, hu, h⟩ := h; simp at hu; subst hu; exact p.one h
  case own id => obtain ⟨u, hu, h1, h2⟩ := h; simp at hu; subst hu; exact h2
  case ptr id off => obtain ⟨_, g, h1, _, hu⟩ := h; simp at hu; subst hu; rfl
  case ref ly => obtain ⟨b, o, us, hu, _⟩ := h; simp at hu; subst hu; rfl
  case por id =>
    obtain ⟨u, hu, h⟩ := h; simp at hu; subst hu
    rcases h with rfl | ⟨v0, g, h1, h2, rfl⟩ <;> rfl
  case win id off len => obtain ⟨u, hu, h⟩ := h; simp at hu; subst hu; exact h.one
  case tup l => simp [Ly.hold] at h
  case ifc T l => simp [Ly.hold] at h
  case any => simp [Ly.hold] at h

mutual
theorem Ly.oneCell_of_hold {w S γ} : ∀ (ly : Ly) (cs : List Value), ly.hold w S γ cs → ∀ u ∈ cs, u.oneCell' = true
  | .cell p, cs, h => by obtain ⟨v, rfl, hp⟩ := h; intro u hu; simp at hu; subst hu; exact p.one hp
  | .agg l, cs, h => by simp only [Ly.hold] at h; exact Ly.oneCell_of_holds l cs h
  | .own id, cs, h => by obtain ⟨v, rfl, h1, h2⟩ := h; intro u hu; simp at hu; subst hu; exact h2
  | .ptr id off, cs, h => by obtain ⟨_, g, h1, _, rfl⟩ := h; intro u hu; simp at hu; subst hu; rfl
  | .ref ly, cs, h => by obtain ⟨b, o, us, rfl, _⟩ := h; intro u hu; simp at hu; subst hu; rfl
  | .por id, cs, h => by
    obtain ⟨v, rfl, h⟩ := h; intro u hu; simp at hu; subst hu
    rcases h with rfl | ⟨v0, g, h1, h2, rfl⟩ <;> rfl
  | .win id off len, cs, h => by obtain ⟨v, rfl, h⟩ := h; intro u hu; simp at hu; subst hu; exact h.one
  | .ifc _ _, _, h => by simp [Ly.hold] at h
  | .tup _, _, h => by simp [Ly.hold] at h
  | .any, _, h => by simp [Ly.hold] at h
theorem Ly.oneCell_of_holds {w S γ} : ∀ (l : List Ly) (cs : List Value), Ly.holds w S γ l cs → ∀ u ∈ cs, u.oneCell' = true
  | [], cs, h => by simp only [Ly.holds] at h; subst h; intro u hu; cases hu
  | ly :: l, cs, h => by
    obtain ⟨c1, c2, rfl, h1, h2⟩ := h
    intro u hu
    rcases List.mem_append.1 hu with h | h
    · exact Ly.oneCell_of_hold ly c1 h1 u h
    · exact Ly.oneCell_of_holds l c2 h2 u h
end

end Go.Proofs.YtiobbiamnjapgaaDoor
