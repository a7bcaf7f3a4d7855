import Derived.Test.YtiobbiamnjapgaaDoorSim3
namespace Go.Proofs.YtiobbiamnjapgaaDoor
open Go Go.RowKit

def i32 (x : Int) : Ly := .cell (cpI .i32 x)
def uk (k : IntKind) (x : Nat) : Ly := .cell (cpI k x)
abbrev u8 (x : Nat) : Ly := uk .u8 x
abbrev u32 (x : Nat) : Ly := uk .u32 x
abbrev u64 (x : Nat) : Ly := uk .u64 x

/-- Just this value (a function, a nil). -/
def cpX (v0 : Value) (h : v0.oneCell' = true) : CP where
  p := fun _ _ v => v = v0
  one := by intro _ _ v hv; subst hv; exact h
  mono := fun h _ _ => h

def cpS (s : List UInt8) : CP where
  p := fun _ _ v => v = .string ⟨s.toArray⟩ ∧ s.length ≤ maxLen
  one := by intro _ _ v h; obtain ⟨rfl, _⟩ := h; rfl
  mono := fun h _ _ => h
def str (s : List UInt8) : Ly := .cell (cpS s)

/-- A slice that is read: its elements' layouts; k cells each. -/
def cpL (k : Nat) (ls : List Ly) : CP where
  p := fun w S v => (v = .slice none 0 0 ∧ ls = []) ∨ (∃ b o cap cs, v = .slice (some ⟨b, o, none⟩) ls.length cap ∧ ls.length ≤ cap ∧ cap ≤ maxLen ∧ b < w.heap.size ∧ ¬ S b ∧
    (∀ j u, cs[j]? = some u → w.cell? ⟨b, o + j, none⟩ = some u) ∧ Ly.holds w S (fun _ => none) ls cs ∧ ∀ ly ∈ ls, ly.sz = k) ∨ (ls = [] ∧ ∃ ad, v = .slice (some ad) 0 0)
  one := by rintro _ _ v (⟨rfl, _⟩ | ⟨b, o, cap, cs, rfl, _⟩ | ⟨_, ad, rfl⟩) <;> rfl
  mono := by
    rintro w S v w' S' (⟨rfl, h⟩ | ⟨b, o, cap, cs, rfl, h1, h2, h3, h4, h5, h6, h7⟩ | h) hk hs
    · exact .inl ⟨rfl, h⟩
    · exact .inr (.inl ⟨b, o, cap, cs, rfl, h1, h2, Nat.lt_of_lt_of_le h3 hk.1, fun h' => (hs b h').elim h4 (fun h'' => by omega), fun j u hj => hk.cell h4 (h5 j u hj), Ly.holds_mono hk hs (Ng.refl _) ls cs h6, h7⟩)
    · exact .inr (.inr h)
def sli (k : Nat) (ls : List Ly) : Ly := .cell (cpL k ls)

theorem if_i64 {x} : IF (i64 x) := if_cell _
theorem if_i32 {x} : IF (i32 x) := if_cell _
theorem if_u8 {x} : IF (u8 x) := if_cell _
theorem if_u32 {x} : IF (u32 x) := if_cell _
theorem if_u64 {x} : IF (u64 x) := if_cell _
theorem if_bl {x} : IF (bl x) := if_cell _
theorem if_str {x} : IF (str x) := if_cell _
theorem if_sli {k x} : IF (sli k x) := if_cell _

section ops
variable {X : Cx} {st : Nat → Option Ly} {mm : Nat → Option Ct}

theorem ok_val {d op ty pos af ly} (hd : Nat.blt d X.N = true)
    (h : ∀ a w γ, Inv X st mm a w γ → ∃ v, (execOp a.eval ⟨some d, op, ty, pos, af, none⟩).run X.P w = .ok (.value v) w ∧ ly.val w (X.S γ mm) γ v) :
    OpOk X st mm ⟨some d, op, ty, pos, af, none⟩ [(d, ly)] [] := by
  intro a w γ K Q hi hK
  obtain ⟨v, hr, hv⟩ := h a w γ hi
  unfold Oper.wp
  rw [hr]
  exact hK _ _ γ (hi.put (by simpa using hd) hv)

theorem mv {d x ty pos af ly} (hd : Nat.blt d X.N = true) (hx : OpdF st x ly) : OpOk X st mm ⟨some d, .move x, ty, pos, af, none⟩ [(d, ly)] [] :=
  ok_val hd fun _ _ _ hi => ⟨_, rfl, hx.val hi⟩
theorem asg {d x ty pos af ly} (hd : Nat.blt d X.N = true) (hx : OpdF st x ly) : OpOk X st mm ⟨some d, .assign x, ty, pos, af, none⟩ [(d, ly)] [] :=
  ok_val hd fun _ _ _ hi => ⟨_, rfl, hx.val hi⟩

theorem pickT {d c x y ty pos af ly} (hd : Nat.blt d X.N = true) (hc : OpdF st c (bl true)) (hx : OpdF st x ly) : OpOk X st mm ⟨some d, .pick c x y, ty, pos, af, none⟩ [(d, ly)] [] :=
  ok_val hd fun _ _ _ hi => ⟨_, by
    have := hc.val hi; simp only [bl, Ly.val, cpB] at this
    simp only [execOp, this]; rfl, hx.val hi⟩
theorem pickF {d c x y ty pos af ly} (hd : Nat.blt d X.N = true) (hc : OpdF st c (bl false)) (hx : OpdF st y ly) : OpOk X st mm ⟨some d, .pick c x y, ty, pos, af, none⟩ [(d, ly)] [] :=
  ok_val hd fun _ _ _ hi => ⟨_, by
    have := hc.val hi; simp only [bl, Ly.val, cpB] at this
    simp only [execOp, this]; rfl, hx.val hi⟩

/-! constants -/
theorem kB {b} : OpdF st (.const (.bool b)) (bl b) := fun _ _ _ => by simp [bl, Ly.val, cpB]
theorem kI {x : Int} (h : (decide (-9223372036854775808 ≤ x) && decide (x ≤ 9223372036854775807)) = true) : OpdF st (.const (.int .i64 x)) (i64 x) := fun _ _ _ => by
  simp only [Bool.and_eq_true, decide_eq_true_eq] at h
  exact ⟨rfl, h.1, h.2⟩
theorem k32 {x : Nat} (h : Nat.ble x 4294967295 = true) : OpdF st (.const (.int .u32 x)) (u32 x) := fun _ _ _ => by
  have := Nat.le_of_ble_eq_true h
  exact ⟨rfl, by show (0 : Int) ≤ _; omega, by show (x : Int) ≤ 4294967295; omega⟩
theorem k8 {x : Nat} (h : Nat.ble x 255 = true) : OpdF st (.const (.int .u8 x)) (u8 x) := fun _ _ _ => by
  have := Nat.le_of_ble_eq_true h
  exact ⟨rfl, by show (0 : Int) ≤ _; omega, by show (x : Int) ≤ 255; omega⟩
theorem k64 {x : Nat} (h : Nat.ble x 18446744073709551615 = true) : OpdF st (.const (.int .u64 x)) (u64 x) := fun _ _ _ => by
  have := Nat.le_of_ble_eq_true h
  exact ⟨rfl, by show (0 : Int) ≤ _; omega, by show (x : Int) ≤ 18446744073709551615; omega⟩
theorem kS {s : List UInt8} (h : Nat.ble s.length 1000000 = true) : OpdF st (.const (.string ⟨s.toArray⟩)) (str s) := fun _ _ _ =>
  ⟨rfl, by have := Nat.le_of_ble_eq_true h; unfold maxLen; omega⟩
theorem kL {k} : OpdF st (.const (.slice none 0 0)) (sli k []) := fun _ _ _ => .inl ⟨rfl, rfl⟩

/-! integers -/
theorem bin_ok {d o T x y T2 ty pos af lx l2 lz} (hd : Nat.blt d X.N = true) (hx : OpdF st x lx) (hy : OpdF st y l2)
    (h : ∀ w S γ vx vy, lx.val w S γ vx → l2.val w S γ vy → ∃ v, (∀ w, (eqGuard o T x y vx vy).run X.P w = .ok () w) ∧ (∀ w, (binOp o T vx vy).run X.P w = .ok v w) ∧ lz.val w S γ v) :
    OpOk X st mm ⟨some d, .binOp o T x y T2, ty, pos, af, none⟩ [(d, lz)] [] :=
  ok_val hd fun a w γ hi => by
    obtain ⟨v, h1, h2, h3⟩ := h w _ γ _ _ (hx.val hi) (hy.val hi)
    refine ⟨v, ?_, h3⟩
    simp only [execOp]
    simp [h1, h2]


theorem w64_b (n : Int) : IntKind.i64.min ≤ wrap64 n ∧ wrap64 n ≤ IntKind.i64.max := by
  have h1 : IntKind.i64.min = -9223372036854775808 := by decide
  have h2 : IntKind.i64.max = 9223372036854775807 := by decide
  rw [h1, h2]; unfold wrap64; omega
theorem w64_eq (n : Int) : IntKind.i64.wrap n = wrap64 n := by rw [IntKind.wrap_i64]; simp only [wrap64]

theorem arI {d x y T T2 ty pos af p q z} {o : BinOp} (hz : ∀ w, (binOp o T (.int .i64 p) (.int .i64 q)).run X.P w = .ok (.int .i64 (wrap64 z)) w) (ho : (o matches .eql | .neq) = false)
    (hd : Nat.blt d X.N = true) (hx : OpdF st x (i64 p)) (hy : OpdF st y (i64 q)) :
    OpOk X st mm ⟨some d, .binOp o T x y T2, ty, pos, af, none⟩ [(d, i64 (wrap64 z))] [] :=
  bin_ok hd hx hy fun w S γ vx vy h1 h2 => by
    obtain ⟨rfl, _⟩ := h1; obtain ⟨rfl, _⟩ := h2
    exact ⟨_, fun w => by cases o <;> simp_all [eqGuard], hz, rfl, w64_b z⟩
theorem addI {d x y T T2 ty pos af p q} (hd : Nat.blt d X.N = true) (hx : OpdF st x (i64 p)) (hy : OpdF st y (i64 q)) :
    OpOk X st mm ⟨some d, .binOp .add T x y T2, ty, pos, af, none⟩ [(d, i64 (wrap64 (p + q)))] [] := arI (fun w => by simp [binOp, Op.intArith, w64_eq]) rfl hd hx hy
theorem subI {d x y T T2 ty pos af p q} (hd : Nat.blt d X.N = true) (hx : OpdF st x (i64 p)) (hy : OpdF st y (i64 q)) :
    OpOk X st mm ⟨some d, .binOp .sub T x y T2, ty, pos, af, none⟩ [(d, i64 (wrap64 (p - q)))] [] := arI (fun w => by simp [binOp, Op.intArith, w64_eq]) rfl hd hx hy
theorem mulI {d x y T T2 ty pos af p q} (hd : Nat.blt d X.N = true) (hx : OpdF st x (i64 p)) (hy : OpdF st y (i64 q)) :
    OpOk X st mm ⟨some d, .binOp .mul T x y T2, ty, pos, af, none⟩ [(d, i64 (wrap64 (p * q)))] [] := arI (fun w => by simp [binOp, Op.intArith, w64_eq]) rfl hd hx hy
theorem quoI {d x y T T2 ty pos af p q} (hq : (q == 0) = false) (hd : Nat.blt d X.N = true) (hx : OpdF st x (i64 p)) (hy : OpdF st y (i64 q)) :
    OpOk X st mm ⟨some d, .binOp .quo T x y T2, ty, pos, af, none⟩ [(d, i64 (wrap64 (p.tdiv q)))] [] :=
  arI (fun w => by have : q ≠ 0 := by simpa using hq
                   simp [binOp, Op.intDiv, w64_eq, this]) rfl hd hx hy
theorem remI {d x y T T2 ty pos af p q} (hq : (q == 0) = false) (hd : Nat.blt d X.N = true) (hx : OpdF st x (i64 p)) (hy : OpdF st y (i64 q)) :
    OpOk X st mm ⟨some d, .binOp .rem T x y T2, ty, pos, af, none⟩ [(d, i64 (p.tmod q))] [] :=
  bin_ok hd hx hy fun w S γ vx vy h1 h2 => by
    have hq' : q ≠ 0 := by simpa using hq
    obtain ⟨rfl, hp1, hp2⟩ := h1; obtain ⟨rfl, hq1, hq2⟩ := h2
    refine ⟨_, fun w => by simp [eqGuard], fun w => by simp [binOp, Op.intDiv, hq'], rfl, ?_⟩
    have h1 : IntKind.i64.min = -9223372036854775808 := by decide
    have h2 : IntKind.i64.max = 9223372036854775807 := by decide
    rw [h1] at hp1 hq1 ⊢; rw [h2] at hp2 hq2 ⊢
    have h3 : (p.tmod q).natAbs = p.natAbs % q.natAbs := Int.natAbs_tmod p q
    have h4 : p.natAbs % q.natAbs < q.natAbs := Nat.mod_lt _ (by omega)
    omega
theorem negI {d x T ty pos af p} (hd : Nat.blt d X.N = true) (hx : OpdF st x (i64 p)) :
    OpOk X st mm ⟨some d, .unOp .neg T x, ty, pos, af, none⟩ [(d, i64 (wrap64 (-p)))] [] :=
  ok_val hd fun a w γ hi => by
    obtain ⟨h1, _⟩ := hx.val hi
    exact ⟨.int .i64 (wrap64 (-p)), by simp only [execOp, h1]; simp [Op.unary, Op.intArith, w64_eq], rfl, w64_b _⟩
theorem notB {d x T ty pos af b} (hd : Nat.blt d X.N = true) (hx : OpdF st x (bl b)) :
    OpOk X st mm ⟨some d, .unOp .not T x, ty, pos, af, none⟩ [(d, bl (!b))] [] :=
  ok_val hd fun a w γ hi => by
    have h1 := hx.val hi
    simp only [bl, Ly.val, cpB] at h1
    exact ⟨.bool (!b), by simp only [execOp, h1]; simp [Op.unary], by simp [bl, Ly.val, cpB]⟩

theorem cmI {d x y T T2 ty pos af p q b} {o : BinOp} {k : IntKind} (hz : ∀ w, (binOp o T (.int k p) (.int k q)).run X.P w = .ok (.bool b) w)
    (hd : Nat.blt d X.N = true) (hx : OpdF st x (.cell (cpI k p))) (hy : OpdF st y (.cell (cpI k q))) :
    OpOk X st mm ⟨some d, .binOp o T x y T2, ty, pos, af, none⟩ [(d, bl b)] [] :=
  bin_ok hd hx hy fun w S γ vx vy h1 h2 => by
    obtain ⟨rfl, _⟩ := h1; obtain ⟨rfl, _⟩ := h2
    exact ⟨_, fun w => by cases o <;> simp [eqGuard], hz, by simp [bl, Ly.val, cpB]⟩
theorem ltI {d x y T T2 ty pos af p q} (hd : Nat.blt d X.N = true) (hx : OpdF st x (i64 p)) (hy : OpdF st y (i64 q)) :
    OpOk X st mm ⟨some d, .binOp .lss T x y T2, ty, pos, af, none⟩ [(d, bl (decide (p < q)))] [] := cmI (fun w => by simp [binOp, Op.intCmp]) hd hx hy
theorem leI {d x y T T2 ty pos af p q} (hd : Nat.blt d X.N = true) (hx : OpdF st x (i64 p)) (hy : OpdF st y (i64 q)) :
    OpOk X st mm ⟨some d, .binOp .leq T x y T2, ty, pos, af, none⟩ [(d, bl (decide (p ≤ q)))] [] := cmI (fun w => by simp [binOp, Op.intCmp]) hd hx hy
theorem gtI {d x y T T2 ty pos af p q} (hd : Nat.blt d X.N = true) (hx : OpdF st x (i64 p)) (hy : OpdF st y (i64 q)) :
    OpOk X st mm ⟨some d, .binOp .gtr T x y T2, ty, pos, af, none⟩ [(d, bl (decide (q < p)))] [] := cmI (fun w => by simp [binOp, Op.intCmp]) hd hx hy
theorem geI {d x y T T2 ty pos af p q} (hd : Nat.blt d X.N = true) (hx : OpdF st x (i64 p)) (hy : OpdF st y (i64 q)) :
    OpOk X st mm ⟨some d, .binOp .geq T x y T2, ty, pos, af, none⟩ [(d, bl (decide (q ≤ p)))] [] := cmI (fun w => by simp [binOp, Op.intCmp]) hd hx hy
theorem eqI {d x y T T2 ty pos af p q} (hd : Nat.blt d X.N = true) (hx : OpdF st x (i64 p)) (hy : OpdF st y (i64 q)) :
    OpOk X st mm ⟨some d, .binOp .eql T x y T2, ty, pos, af, none⟩ [(d, bl (decide (p = q)))] [] := cmI (fun w => by simp [binOp, Op.intCmp]; rfl) hd hx hy
theorem neI {d x y T T2 ty pos af p q} (hd : Nat.blt d X.N = true) (hx : OpdF st x (i64 p)) (hy : OpdF st y (i64 q)) :
    OpOk X st mm ⟨some d, .binOp .neq T x y T2, ty, pos, af, none⟩ [(d, bl (!decide (p = q)))] [] := cmI (fun w => by simp [binOp, Op.intCmp]; rfl) hd hx hy
/-! naturals of a kind -/
theorem ltU {d x y T T2 ty pos af p q} (k : IntKind) (hd : Nat.blt d X.N = true) (hx : OpdF st x (uk k p)) (hy : OpdF st y (uk k q)) :
    OpOk X st mm ⟨some d, .binOp .lss T x y T2, ty, pos, af, none⟩ [(d, bl (decide (p < q)))] [] := cmI (k := k) (p := p) (q := q) (fun w => by simp [binOp, Op.intCmp]) hd hx hy
theorem leU {d x y T T2 ty pos af p q} (k : IntKind) (hd : Nat.blt d X.N = true) (hx : OpdF st x (uk k p)) (hy : OpdF st y (uk k q)) :
    OpOk X st mm ⟨some d, .binOp .leq T x y T2, ty, pos, af, none⟩ [(d, bl (decide (p ≤ q)))] [] := cmI (k := k) (p := p) (q := q) (fun w => by simp [binOp, Op.intCmp]) hd hx hy
theorem gtU {d x y T T2 ty pos af p q} (k : IntKind) (hd : Nat.blt d X.N = true) (hx : OpdF st x (uk k p)) (hy : OpdF st y (uk k q)) :
    OpOk X st mm ⟨some d, .binOp .gtr T x y T2, ty, pos, af, none⟩ [(d, bl (decide (q < p)))] [] := cmI (k := k) (p := p) (q := q) (fun w => by simp [binOp, Op.intCmp]) hd hx hy
theorem geU {d x y T T2 ty pos af p q} (k : IntKind) (hd : Nat.blt d X.N = true) (hx : OpdF st x (uk k p)) (hy : OpdF st y (uk k q)) :
    OpOk X st mm ⟨some d, .binOp .geq T x y T2, ty, pos, af, none⟩ [(d, bl (decide (q ≤ p)))] [] := cmI (k := k) (p := p) (q := q) (fun w => by simp [binOp, Op.intCmp]) hd hx hy
theorem eqU {d x y T T2 ty pos af p q} (k : IntKind) (hd : Nat.blt d X.N = true) (hx : OpdF st x (uk k p)) (hy : OpdF st y (uk k q)) :
    OpOk X st mm ⟨some d, .binOp .eql T x y T2, ty, pos, af, none⟩ [(d, bl (decide (p = q)))] [] := cmI (k := k) (p := p) (q := q) (fun w => by
      have : ((p : Int) == (q : Int)) = decide (p = q) := by rw [Bool.eq_iff_iff]; simp; omega
      simp [binOp, Op.intCmp, this]) hd hx hy
theorem neU {d x y T T2 ty pos af p q} (k : IntKind) (hd : Nat.blt d X.N = true) (hx : OpdF st x (uk k p)) (hy : OpdF st y (uk k q)) :
    OpOk X st mm ⟨some d, .binOp .neq T x y T2, ty, pos, af, none⟩ [(d, bl (!decide (p = q)))] [] := cmI (k := k) (p := p) (q := q) (fun w => by
      have : ((p : Int) != (q : Int)) = !decide (p = q) := by rw [Bool.eq_iff_iff]; simp; omega
      simp [binOp, Op.intCmp, this]) hd hx hy

structure UK (k : IntKind) (N : Nat) : Prop where
  wrap : ∀ n : Int, k.wrap n = n % N
  min : k.min = 0
  max : k.max = (N : Int) - 1
  bits : 2 ^ k.bits = N
  pos : 0 < N
theorem uk8 : UK .u8 256 := ⟨fun n => IntKind.wrap_u8 n, by decide, by decide, by decide, by decide⟩
theorem uk32 : UK .u32 4294967296 := ⟨fun n => IntKind.wrap_u32 n, by decide, by decide, by decide, by decide⟩
theorem uk64 : UK .u64 18446744073709551616 := ⟨fun n => IntKind.wrap_u64 n, by decide, by decide, by decide, by decide⟩
theorem uk_b {k N} (h : UK k N) (x : Nat) (hx : x < N) : k.min ≤ (x : Int) ∧ (x : Int) ≤ k.max := by rw [h.min, h.max]; omega

theorem arU {d x y T T2 ty pos af p q} {z : Nat} {o : BinOp} {k N} (hu : UK k N) (hz : p < N → q < N → z < N ∧ ∀ w, (binOp o T (.int k p) (.int k q)).run X.P w = .ok (.int k z) w) (ho : (o matches .eql | .neq) = false)
    (hd : Nat.blt d X.N = true) (hx : OpdF st x (uk k p)) (hy : OpdF st y (uk k q)) :
    OpOk X st mm ⟨some d, .binOp o T x y T2, ty, pos, af, none⟩ [(d, uk k z)] [] :=
  bin_ok hd hx hy fun w S γ vx vy h1 h2 => by
    obtain ⟨rfl, _, a2⟩ := h1; obtain ⟨rfl, _, b2⟩ := h2
    rw [hu.max] at a2 b2
    obtain ⟨h3, h4⟩ := hz (by omega) (by omega)
    exact ⟨_, fun w => by cases o <;> simp_all [eqGuard], h4, rfl, uk_b hu z h3⟩
theorem addU {d x y T T2 ty pos af p q k N} (hu : UK k N) (hd : Nat.blt d X.N = true) (hx : OpdF st x (uk k p)) (hy : OpdF st y (uk k q)) :
    OpOk X st mm ⟨some d, .binOp .add T x y T2, ty, pos, af, none⟩ [(d, uk k ((p + q) % N))] [] :=
  arU hu (fun _ _ => ⟨Nat.mod_lt _ hu.pos, fun w => by simp [binOp, Op.intArith, hu.wrap]⟩) rfl hd hx hy
theorem subU {d x y T T2 ty pos af p q k N} (hu : UK k N) (hd : Nat.blt d X.N = true) (hx : OpdF st x (uk k p)) (hy : OpdF st y (uk k q)) :
    OpOk X st mm ⟨some d, .binOp .sub T x y T2, ty, pos, af, none⟩ [(d, uk k ((p + N - q) % N))] [] :=
  arU hu (fun hp hq => ⟨Nat.mod_lt _ hu.pos, fun w => by
    have : ((p : Int) - q) % (N : Int) = ((p + N - q : Nat) : Int) % (N : Int) := by
      rw [Int.ofNat_sub (by omega), Int.natCast_add, show (p : Int) + N - q = p - q + N by omega, Int.add_emod_right]
    simp [binOp, Op.intArith, hu.wrap, this]⟩) rfl hd hx hy
theorem mulU {d x y T T2 ty pos af p q k N} (hu : UK k N) (hd : Nat.blt d X.N = true) (hx : OpdF st x (uk k p)) (hy : OpdF st y (uk k q)) :
    OpOk X st mm ⟨some d, .binOp .mul T x y T2, ty, pos, af, none⟩ [(d, uk k ((p * q) % N))] [] :=
  arU hu (fun _ _ => ⟨Nat.mod_lt _ hu.pos, fun w => by simp [binOp, Op.intArith, hu.wrap]⟩) rfl hd hx hy
theorem quoU {d x y T T2 ty pos af p q k N} (hu : UK k N) (hq : Nat.beq q 0 = false) (hd : Nat.blt d X.N = true) (hx : OpdF st x (uk k p)) (hy : OpdF st y (uk k q)) :
    OpOk X st mm ⟨some d, .binOp .quo T x y T2, ty, pos, af, none⟩ [(d, uk k (p / q))] [] :=
  arU hu (fun hp _ => ⟨Nat.lt_of_le_of_lt (Nat.div_le_self _ _) hp, fun w => by
    have h0 : q ≠ 0 := by rintro rfl; simp at hq
    have h1 : ((p / q : Nat) : Int) % (N : Int) = ((p / q : Nat) : Int) := by
      rw [Int.emod_eq_of_lt (Int.natCast_nonneg _)]
      exact_mod_cast Nat.lt_of_le_of_lt (Nat.div_le_self _ _) hp
    have h2 : (p : Int).tdiv q = ((p / q : Nat) : Int) := rfl
    simp [binOp, Op.intDiv, hu.wrap, h0, h2]
    simpa using h1⟩) rfl hd hx hy
theorem remU {d x y T T2 ty pos af p q k N} (hu : UK k N) (hq : Nat.beq q 0 = false) (hd : Nat.blt d X.N = true) (hx : OpdF st x (uk k p)) (hy : OpdF st y (uk k q)) :
    OpOk X st mm ⟨some d, .binOp .rem T x y T2, ty, pos, af, none⟩ [(d, uk k (p % q))] [] :=
  arU hu (fun hp _ => ⟨Nat.lt_of_le_of_lt (Nat.mod_le _ _) hp, fun w => by
    have h0 : q ≠ 0 := by rintro rfl; simp at hq
    have h2 : (p : Int).tmod q = ((p % q : Nat) : Int) := rfl
    simp [binOp, Op.intDiv, h0, h2]⟩) rfl hd hx hy
theorem orU {d x y T T2 ty pos af p q k N} (hu : UK k N) (hd : Nat.blt d X.N = true) (hx : OpdF st x (uk k p)) (hy : OpdF st y (uk k q)) :
    OpOk X st mm ⟨some d, .binOp .or T x y T2, ty, pos, af, none⟩ [(d, uk k (p ||| q))] [] :=
  arU hu (fun hp hq => by
    have hlt : p ||| q < N := by rw [← hu.bits] at hp hq ⊢; exact Nat.or_lt_two_pow hp hq
    refine ⟨hlt, fun w => ?_⟩
    have e1 : ∀ n : Nat, n < N → n % 2 ^ k.bits = n := fun n hn => by
      rw [hu.bits]; exact Nat.mod_eq_of_lt hn
    have : ((p ||| q : Nat) : Int) % (N : Int) = ((p ||| q : Nat) : Int) := Int.emod_eq_of_lt (Int.natCast_nonneg _) (by exact_mod_cast hlt)
    simp only [binOp, Op.intBits]
    simp [BitVec.toNat_or, hu.wrap, e1 p hp, e1 q hq]
    exact this) rfl hd hx hy
theorem andU {d x y T T2 ty pos af p q k N} (hu : UK k N) (hd : Nat.blt d X.N = true) (hx : OpdF st x (uk k p)) (hy : OpdF st y (uk k q)) :
    OpOk X st mm ⟨some d, .binOp .and T x y T2, ty, pos, af, none⟩ [(d, uk k (p &&& q))] [] :=
  arU hu (fun hp hq => by
    have hlt : p &&& q < N := Nat.lt_of_le_of_lt Nat.and_le_left hp
    refine ⟨hlt, fun w => ?_⟩
    have e1 : ∀ n : Nat, n < N → n % 2 ^ k.bits = n := fun n hn => by
      rw [hu.bits]; exact Nat.mod_eq_of_lt hn
    have : ((p &&& q : Nat) : Int) % (N : Int) = ((p &&& q : Nat) : Int) := Int.emod_eq_of_lt (Int.natCast_nonneg _) (by exact_mod_cast hlt)
    simp only [binOp, Op.intBits]
    simp [BitVec.toNat_and, hu.wrap, e1 p hp, e1 q hq]
    exact this) rfl hd hx hy

end ops
end Go.Proofs.YtiobbiamnjapgaaDoor
