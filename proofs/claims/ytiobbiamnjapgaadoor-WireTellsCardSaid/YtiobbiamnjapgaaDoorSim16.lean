import Derived.Test.YtiobbiamnjapgaaDoorSim15
namespace Go.Proofs.YtiobbiamnjapgaaDoor
open Go Go.RowKit

section
variable {R : Type} {X : Cx} {l : List (Nat × Ly)} {m : List (Nat × Ct)} {md : Option R} {G : R → Act → World → Prop}
/-- A slot's value gets a name. -/
theorem sbn {α : Type} {F : α → Ly} {x : α} {k : α → Option R} (d : Nat) (hd : lk l d = some (F x)) (h : ∀ y, Sq X ((d, F y) :: l) m (k y) G) : Sq X l m ((some x).bind k) G := by
  refine sent (fun a w γ hi => ⟨γ, { hi with sts := fun i ly h => hi.sts i ly (by
      simp only [lk] at h
      cases e : Nat.beq d i
      · rw [e] at h; exact h
      · rw [e] at h; rw [← Nat.eq_of_beq_eq_true e, hd]; exact h) }⟩) (h x)
theorem entW {l'} (h : SubL l' l) : Ent X l m l' m := fun _ _ γ hi => ⟨γ, { hi with sts := fun d ly hd => hi.sts d ly (h.lk d ly hd) }⟩
end

section ops
variable {X : Cx} {st : Nat → Option Ly} {mm : Nat → Option Ct}
theorem kLm {α : Type} (f : α → Ly) {k} : OpdF st (.const (.slice none 0 0)) (sli k (List.map f [])) := fun _ _ _ => .inl ⟨rfl, rfl⟩

theorem stB2 {x y T ty pos af ag k lx id E ly lz ln ly2 off} (p : List Nat) (hpu : Ly.pu ln p ly = ly2) (hm : mm id = some (.bx E ly)) (hg : Ly.go p ly = some (lz, off)) (hT : Shp X.P T ag k) (hz : lz.sz = k) (hnz : ln.sz = k) (hnl : ln.lies = true)
    (hx : OpdF st x lx) (ho : OwnP mm lx id off) (hy : OpdF st y ln) :
    OpOk X st mm ⟨none, .store T x y, ty, pos, af, none⟩ [] [(id, .bx E ly2)] := hpu ▸ stB p hm hg hT hz hnz hnl hx ho hy

theorem beqB_ok {d o x y T T2 ty pos af p q b} (h : ∀ w, (binOp o T (.bool p) (.bool q)).run X.P w = .ok (.bool b) w) (hd : Nat.blt d X.N = true) (hx : OpdF st x (bl p)) (hy : OpdF st y (bl q)) :
    OpOk X st mm ⟨some d, .binOp o T x y T2, ty, pos, af, none⟩ [(d, bl b)] [] :=
  bin_ok hd hx hy fun w S γ vx vy h1 h2 => by
    simp only [bl, Ly.val, cpB] at h1 h2
    subst h1; subst h2
    exact ⟨_, fun w => by cases o <;> simp [eqGuard], h, by simp [bl, Ly.val, cpB]⟩
theorem eqB {d x y T T2 ty pos af p q} (hT : X.P.underlying T = some .bool) (hd : Nat.blt d X.N = true) (hx : OpdF st x (bl p)) (hy : OpdF st y (bl q)) :
    OpOk X st mm ⟨some d, .binOp .eql T x y T2, ty, pos, af, none⟩ [(d, bl (p == q))] [] := beqB_ok (fun w => by simp [binOp, run_equal_bool w T p q hT]) hd hx hy
theorem neB {d x y T T2 ty pos af p q} (hT : X.P.underlying T = some .bool) (hd : Nat.blt d X.N = true) (hx : OpdF st x (bl p)) (hy : OpdF st y (bl q)) :
    OpOk X st mm ⟨some d, .binOp .neq T x y T2, ty, pos, af, none⟩ [(d, bl (p != q))] [] := beqB_ok (fun w => by simp [binOp, run_equal_bool w T p q hT]; cases p <;> cases q <;> rfl) hd hx hy

theorem nzI {q : Int} {u : Unit} (h : grd (q != 0) = some u) : (q == 0) = false := by
  have := grd_some h; simpa [bne] using this
theorem nzU {q : Nat} {u : Unit} (h : grd (q != 0) = some u) : Nat.beq q 0 = false := by
  have := grd_some h
  cases q with
  | zero => exact absurd this (by decide)
  | succ n => rfl
theorem ge0 {q : Int} {u : Unit} (h : grd (decide (0 ≤ q)) = some u) : (decide (0 ≤ q)) = true := grd_some h
theorem shrI {d x y T T2 ty pos af p k'} {q : Int} (hq : (decide (0 ≤ q)) = true) (hd : Nat.blt d X.N = true) (hx : OpdF st x (i64 p)) (hy : OpdF st y (.cell (cpI k' q))) :
    OpOk X st mm ⟨some d, .binOp .shr T x y T2, ty, pos, af, none⟩ [(d, i64 (p.fdiv (2 ^ (min q.toNat 64))))] [] :=
  bin_ok hd hx hy fun w S γ vx vy h1 h2 => by
    obtain ⟨rfl, a1, a2⟩ := h1; obtain ⟨rfl, _⟩ := h2
    have : ¬ q < 0 := by have := of_decide_eq_true hq; omega
    refine ⟨_, fun w => by simp [eqGuard], fun w => by simp only [binOp, Op.shift, if_neg this]; rfl, rfl, ?_⟩
    have hp : (0 : Int) < 2 ^ (min q.toNat 64) := Int.pow_pos (by decide)
    rw [Int.fdiv_eq_ediv_of_nonneg _ (Int.le_of_lt hp)]
    have h1 : IntKind.i64.min = -9223372036854775808 := by decide
    have h2 : IntKind.i64.max = 9223372036854775807 := by decide
    rw [h1] at a1 ⊢; rw [h2] at a2 ⊢
    have hpos : (1 : Int) ≤ 2 ^ (min q.toNat 64) := by omega
    rcases Int.le_total 0 p with h | h
    · have e1 := Int.ediv_nonneg h (Int.le_of_lt hp)
      have e2 := Int.ediv_le_self (a := p) (2 ^ (min q.toNat 64)) h
      omega
    · have e1 : p ≤ p / 2 ^ (min q.toNat 64) := by
        rw [Int.le_ediv_iff_mul_le hp]
        have := Int.mul_le_mul_of_nonpos_left h hpos
        simpa using this
      have e2 : p / 2 ^ (min q.toNat 64) ≤ 0 := by
        have := Int.ediv_le_ediv (c := 2 ^ (min q.toNat 64)) hp h
        simpa using this
      omega
end ops
end Go.Proofs.YtiobbiamnjapgaaDoor
