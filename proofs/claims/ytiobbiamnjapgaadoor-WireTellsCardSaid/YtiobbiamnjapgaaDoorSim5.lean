import Derived.Test.YtiobbiamnjapgaaDoorSim4
namespace Go.Proofs.YtiobbiamnjapgaaDoor
open Go Go.RowKit

/-! ### What the models use -/
def getI {α : Type} (l : List α) (i : Int) : Option α := if 0 ≤ i then l[i.toNat]? else none
def getS (l : List UInt8) (i : Int) : Option Nat := if 0 ≤ i then (l[i.toNat]?).map (·.toNat) else none
def grd (b : Bool) : Option Unit := bif b then some () else none
def sub {α : Type} (l : List α) (lo hi : Int) : Option (List α) := if 0 ≤ lo ∧ lo ≤ hi ∧ hi ≤ l.length then some ((l.take hi.toNat).drop lo.toNat) else none
def setI {α : Type} (l : List α) (i : Int) (y : α) : Option (List α) := if 0 ≤ i ∧ i < l.length then some (l.set i.toNat y) else none
def appM {α : Type} (b : Nat) (l r : List α) : Option (List α) := if (l.length + r.length) * b ≤ 140737488355328 ∧ l.length + r.length ≤ 9223372036854775807 then some (l ++ r) else none
def mkM {α : Type} (b : Nat) (z : α) (n : Int) : Option (List α) := if 0 ≤ n ∧ n * b ≤ 140737488355328 ∧ n ≤ 9223372036854775807 then some (List.replicate n.toNat z) else none
def catS (x y : List UInt8) : Option (List UInt8) := if x.length + y.length ≤ 9223372036854775807 then some (x ++ y) else none

theorem grd_some {b : Bool} {u : Unit} (h : grd b = some u) : b = true := by cases b <;> simp [grd] at h; rfl

section ops
variable {X : Cx} {st : Nat → Option Ly} {mm : Nat → Option Ct}

/-! ### conversions of integers -/
theorem cv_ok {d x S T ty pos af lx lz ds k} (hS : X.P.underlying S = some ds) (hT : X.P.underlying T = some (.int k)) (hd : Nat.blt d X.N = true) (hx : OpdF st x lx)
    (h : ∀ w S γ v, lx.val w S γ v → ∃ k' n, v = .int k' n ∧ lz.val w S γ (.int k (k.wrap n))) :
    OpOk X st mm ⟨some d, .convert S T x, ty, pos, af, none⟩ [(d, lz)] [] :=
  ok_val hd fun a w γ hi => by
    obtain ⟨k', n, hv, hl⟩ := h w _ γ _ (hx.val hi)
    refine ⟨_, ?_, hl⟩
    simp only [execOp, hv]
    simp [convert, underlying, hS, hT, Conv.intToInt]

theorem cvU {d x S T ty pos af ds k k' N p} (hu : UK k N) (hS : X.P.underlying S = some ds) (hT : X.P.underlying T = some (.int k)) (hd : Nat.blt d X.N = true) (hx : OpdF st x (uk k' p)) :
    OpOk X st mm ⟨some d, .convert S T x, ty, pos, af, none⟩ [(d, uk k (p % N))] [] :=
  cv_ok hS hT hd hx fun w S γ v hv => by
    obtain ⟨rfl, _⟩ := hv
    refine ⟨_, _, rfl, ?_, uk_b hu _ (Nat.mod_lt _ hu.pos)⟩
    rw [hu.wrap]; simp
theorem cvUw {d x S T ty pos af ds k k' N N' p} (hu : UK k N) (hu' : UK k' N') (hN : Nat.ble N' N = true) (hS : X.P.underlying S = some ds) (hT : X.P.underlying T = some (.int k)) (hd : Nat.blt d X.N = true) (hx : OpdF st x (uk k' p)) :
    OpOk X st mm ⟨some d, .convert S T x, ty, pos, af, none⟩ [(d, uk k p)] [] :=
  cv_ok hS hT hd hx fun w S γ v hv => by
    obtain ⟨rfl, _, h2⟩ := hv
    rw [hu'.max] at h2
    have := Nat.le_of_ble_eq_true hN
    have hp : p < N := by omega
    refine ⟨_, _, rfl, ?_, uk_b hu _ hp⟩
    rw [hu.wrap, Int.emod_eq_of_lt (Int.natCast_nonneg _) (by exact_mod_cast hp)]
theorem cvIU {d x S T ty pos af ds k k' N} {p : Int} (hu : UK k N) (hS : X.P.underlying S = some ds) (hT : X.P.underlying T = some (.int k)) (hd : Nat.blt d X.N = true) (hx : OpdF st x (.cell (cpI k' p))) :
    OpOk X st mm ⟨some d, .convert S T x, ty, pos, af, none⟩ [(d, uk k (p % (N : Int)).toNat)] [] :=
  cv_ok hS hT hd hx fun w S γ v hv => by
    obtain ⟨rfl, _⟩ := hv
    have hN := hu.pos
    have h0 := Int.emod_nonneg p (b := (N : Int)) (by omega)
    have h1 := Int.emod_lt_of_pos p (b := (N : Int)) (by omega)
    refine ⟨_, _, rfl, ?_, uk_b hu _ (by omega)⟩
    rw [hu.wrap, Int.toNat_of_nonneg h0]
theorem cvUI {d x S T ty pos af ds k' p} (hS : X.P.underlying S = some ds) (hT : X.P.underlying T = some (.int .i64)) (hd : Nat.blt d X.N = true) (hx : OpdF st x (uk k' p)) :
    OpOk X st mm ⟨some d, .convert S T x, ty, pos, af, none⟩ [(d, i64 (wrap64 p))] [] :=
  cv_ok hS hT hd hx fun w S γ v hv => by
    obtain ⟨rfl, _⟩ := hv
    exact ⟨_, _, rfl, by rw [w64_eq], w64_b _⟩
theorem cvUIw {d x S T ty pos af ds k' N' p} (hu' : UK k' N') (hN : Nat.ble N' 9223372036854775808 = true) (hS : X.P.underlying S = some ds) (hT : X.P.underlying T = some (.int .i64)) (hd : Nat.blt d X.N = true) (hx : OpdF st x (uk k' p)) :
    OpOk X st mm ⟨some d, .convert S T x, ty, pos, af, none⟩ [(d, i64 p)] [] :=
  cv_ok hS hT hd hx fun w S γ v hv => by
    obtain ⟨rfl, _, h2⟩ := hv
    rw [hu'.max] at h2
    have := Nat.le_of_ble_eq_true hN
    have e : wrap64 (p : Int) = p := by unfold wrap64; omega
    have hb := w64_b (p : Int)
    rw [e] at hb
    exact ⟨_, _, rfl, by rw [w64_eq, e], hb⟩

/-! ### shifts -/
theorem shlU {d x y T T2 ty pos af p k N k'} {q : Int} (hu : UK k N) (hq : (decide (0 ≤ q)) = true) (hd : Nat.blt d X.N = true) (hx : OpdF st x (uk k p)) (hy : OpdF st y (.cell (cpI k' q))) :
    OpOk X st mm ⟨some d, .binOp .shl T x y T2, ty, pos, af, none⟩ [(d, uk k ((p * 2 ^ (min q.toNat k.bits)) % N))] [] :=
  bin_ok hd hx hy fun w S γ vx vy h1 h2 => by
    obtain ⟨rfl, _⟩ := h1; obtain ⟨rfl, _⟩ := h2
    have : ¬ q < 0 := by have := of_decide_eq_true hq; omega
    exact ⟨_, fun w => by simp [eqGuard], fun w => by simp [binOp, Op.shift, this, hu.wrap]; rfl, by simp, uk_b hu _ (Nat.mod_lt _ hu.pos)⟩
theorem shrU {d x y T T2 ty pos af p k N k'} {q : Int} (hu : UK k N) (hq : (decide (0 ≤ q)) = true) (hd : Nat.blt d X.N = true) (hx : OpdF st x (uk k p)) (hy : OpdF st y (.cell (cpI k' q))) :
    OpOk X st mm ⟨some d, .binOp .shr T x y T2, ty, pos, af, none⟩ [(d, uk k (p / 2 ^ (min q.toNat k.bits)))] [] :=
  bin_ok hd hx hy fun w S γ vx vy h1 h2 => by
    obtain ⟨rfl, a1, a2⟩ := h1; obtain ⟨rfl, _⟩ := h2
    rw [hu.max] at a2
    have : ¬ q < 0 := by have := of_decide_eq_true hq; omega
    have e : (p : Int).fdiv (2 ^ (min q.toNat k.bits)) = ((p / 2 ^ (min q.toNat k.bits) : Nat) : Int) := by
      rw [Int.fdiv_eq_ediv_of_nonneg _ (by exact_mod_cast Nat.zero_le _)]; norm_cast
    refine ⟨_, fun w => by simp [eqGuard], fun w => by simp only [binOp, Op.shift, if_neg this, e]; rfl, rfl, uk_b hu _ (Nat.lt_of_le_of_lt (Nat.div_le_self _ _) (by omega))⟩

/-! ### lengths -/
theorem len_ok {d x T ty pos af lx n} (hd : Nat.blt d X.N = true) (hx : OpdF st x lx)
    (h : ∀ a w γ, Inv X st mm a w γ → ∀ v, lx.val w (X.S γ mm) γ v → (Builtin.len_ #[T] ty #[v]).run X.P w = .ok (.int .i64 n) w ∧ IntKind.i64.min ≤ n ∧ n ≤ IntKind.i64.max) :
    OpOk X st mm ⟨some d, .call { callee := .builtin .len, args := #[x], argTypes := #[T] }, ty, pos, af, none⟩ [(d, i64 n)] [] :=
  ok_val hd fun a w γ hi => by
    obtain ⟨h1, h2, h3⟩ := h a w γ hi _ (hx.val hi)
    refine ⟨_, ?_, rfl, h2, h3⟩
    simp only [execOp, resolve]
    simp [invoke, builtin, h1]

theorem len_b {n : Nat} (h : n ≤ maxLen) : IntKind.i64.min ≤ (n : Int) ∧ (n : Int) ≤ IntKind.i64.max := by
  have h1 : IntKind.i64.min = -9223372036854775808 := by decide
  have h2 : IntKind.i64.max = 9223372036854775807 := by decide
  unfold maxLen at h
  rw [h1, h2]; omega

theorem lenL {d x T ty pos af E k} {α : Type} {f : α → Ly} {xs : List α} (hT : X.P.underlying T = some (.slice E)) (hd : Nat.blt d X.N = true) (hx : OpdF st x (sli k (xs.map f))) :
    OpOk X st mm ⟨some d, .call { callee := .builtin .len, args := #[x], argTypes := #[T] }, ty, pos, af, none⟩ [(d, i64 xs.length)] [] :=
  len_ok hd hx fun a w γ hi v hv => by
    rcases hv with ⟨rfl, hn⟩ | ⟨b, o, cap, cs, rfl, h1, h2, _⟩ | ⟨hn, ad, rfl⟩
    · have : xs = [] := by simpa using hn
      subst this
      exact ⟨by unfold Builtin.len_; simp [underlying, hT, goInt], len_b (Nat.zero_le _)⟩
    · simp only [List.length_map] at h1 ⊢
      exact ⟨by unfold Builtin.len_; simp [underlying, hT, goInt], len_b (by omega)⟩
    · have : xs = [] := by simpa using hn
      subst this
      exact ⟨by unfold Builtin.len_; simp [underlying, hT, goInt], len_b (Nat.zero_le _)⟩
theorem lenO {d x T ty pos af E E' k id} {α : Type} {f : α → Ly} {xs : List α} (hT : X.P.underlying T = some (.slice E)) (hm : mm id = some (.sl E' k (xs.map f))) (hd : Nat.blt d X.N = true) (hx : OpdF st x (.own id)) :
    OpOk X st mm ⟨some d, .call { callee := .builtin .len, args := #[x], argTypes := #[T] }, ty, pos, af, none⟩ [(d, i64 xs.length)] [] :=
  len_ok hd hx fun a w γ hi v hv => by
    obtain ⟨u, cs, h1, h2, _⟩ := hi.cts id _ hm
    obtain ⟨hv1, _⟩ := hv
    rw [hv1] at h1; simp at h1; subst h1
    obtain ⟨_, h3⟩ := h2
    rcases h3 with ⟨rfl, hn⟩ | ⟨g, cap, cur, rfl, _, _, h4, h5, _⟩
    · have : xs = [] := by simpa using hn
      subst this
      exact ⟨by unfold Builtin.len_; simp [underlying, hT, goInt], len_b (Nat.zero_le _)⟩
    · simp only [List.length_map] at h4 ⊢
      exact ⟨by unfold Builtin.len_; simp [underlying, hT, goInt], len_b (by omega)⟩
theorem lenS {d x T ty pos af s} (hT : X.P.underlying T = some .string) (hd : Nat.blt d X.N = true) (hx : OpdF st x (str s)) :
    OpOk X st mm ⟨some d, .call { callee := .builtin .len, args := #[x], argTypes := #[T] }, ty, pos, af, none⟩ [(d, i64 s.length)] [] :=
  len_ok hd hx fun a w γ hi v hv => by
    obtain ⟨rfl, h1⟩ := hv
    have e : (ByteArray.mk s.toArray).size = s.length := rfl
    exact ⟨by unfold Builtin.len_; simp [underlying, hT, goInt, e], len_b h1⟩

theorem maxI {d x y ty pos af T1 T2 p q} (hd : Nat.blt d X.N = true) (hx : OpdF st x (i64 p)) (hy : OpdF st y (i64 q)) :
    OpOk X st mm ⟨some d, .call { callee := .builtin .max, args := #[x, y], argTypes := #[T1, T2] }, ty, pos, af, none⟩ [(d, i64 (max p q))] [] :=
  ok_val hd fun a w γ hi => by
    obtain ⟨h1, h2, h3⟩ := hx.val hi; obtain ⟨g1, g2, g3⟩ := hy.val hi
    have e : max p q = if q > p then q else p := by split <;> omega
    refine ⟨.int .i64 (max p q), ?_, rfl, by omega, by omega⟩
    simp only [execOp, resolve]
    simp [invoke, builtin, h1, g1, Builtin.max_, Builtin.max2, e]
theorem minI {d x y ty pos af T1 T2 p q} (hd : Nat.blt d X.N = true) (hx : OpdF st x (i64 p)) (hy : OpdF st y (i64 q)) :
    OpOk X st mm ⟨some d, .call { callee := .builtin .min, args := #[x, y], argTypes := #[T1, T2] }, ty, pos, af, none⟩ [(d, i64 (min p q))] [] :=
  ok_val hd fun a w γ hi => by
    obtain ⟨h1, h2, h3⟩ := hx.val hi; obtain ⟨g1, g2, g3⟩ := hy.val hi
    have e : min p q = if q < p then q else p := by split <;> omega
    refine ⟨.int .i64 (min p q), ?_, rfl, by omega, by omega⟩
    simp only [execOp, resolve]
    simp [invoke, builtin, h1, g1, Builtin.min_, Builtin.min2, e]

/-! ### strings -/
theorem ixS {kk : IntKind} {d x i T ty pos af s p y} (hT : X.P.underlying T = some .string) (hg : getS s p = some y) (hd : Nat.blt d X.N = true) (hx : OpdF st x (str s)) (hi : OpdF st i (.cell (cpI kk p))) :
    OpOk X st mm ⟨some d, .index T x i, ty, pos, af, none⟩ [(d, uk .u8 y)] [] :=
  ok_val hd fun a w γ hI => by
    obtain ⟨h1, h2⟩ := hx.val hI; obtain ⟨g1, _⟩ := hi.val hI
    unfold getS at hg
    split at hg
    · rename_i h0
      simp only [Option.map_eq_some_iff] at hg
      obtain ⟨c, hc, rfl⟩ := hg
      refine ⟨.int .u8 c.toNat, ?_, rfl, uk_b uk8 _ c.toNat_lt⟩
      simp only [execOp, h1, g1]
      have hlt : p.toNat < s.length := by
        rcases Nat.lt_or_ge p.toNat s.length with h | h
        · exact h
        · simp [List.getElem?_eq_none h] at hc
      have hc' : (ByteArray.mk s.toArray)[p.toNat]? = some c := by
        rw [getElem?_pos _ _ (by simpa [ByteArray.size] using hlt)]
        have : s[p.toNat] = c := by rw [List.getElem?_eq_getElem hlt] at hc; simpa using hc
        rw [← this]; rfl
      simp [Instr.index, asIntOf, underlying, hT, h0, hc']
    · cases hg

theorem bin_S {d o T x y T2 ty pos af s t lz} (hd : Nat.blt d X.N = true) (hx : OpdF st x (str s)) (hy : OpdF st y (str t))
    (h : s.length ≤ maxLen → t.length ≤ maxLen → ∃ v, (∀ w, (Op.stringOp o ⟨s.toArray⟩ ⟨t.toArray⟩).run X.P w = .ok v w) ∧ ∀ w S γ, lz.val w S γ v) (ho : ∀ (_ _ : IntKind × Int), (o matches .shl | .shr) = false) :
    OpOk X st mm ⟨some d, .binOp o T x y T2, ty, pos, af, none⟩ [(d, lz)] [] :=
  bin_ok hd hx hy fun w S γ vx vy h1 h2 => by
    obtain ⟨rfl, a1⟩ := h1; obtain ⟨rfl, a2⟩ := h2
    obtain ⟨v, hr, hv⟩ := h a1 a2
    have ho' := ho (.i64, 0) (.i64, 0)
    refine ⟨v, fun w => by cases o <;> simp [eqGuard], fun w => ?_, hv _ _ _⟩
    have : binOp o T (.string ⟨s.toArray⟩) (.string ⟨t.toArray⟩) = Op.stringOp o ⟨s.toArray⟩ ⟨t.toArray⟩ := by cases o <;> simp at ho' <;> rfl
    rw [this]; exact hr w

theorem ba_toList (s : List UInt8) : (ByteArray.mk s.toArray).toList = s := by rw [ByteArray.toList_eq]
theorem dec_eq (s t : List UInt8) : (s == t) = decide (s = t) := by rw [Bool.eq_iff_iff]; simp
theorem catStr {d x y T T2 ty pos af s t z} (hz : catS s t = some z) (hd : Nat.blt d X.N = true) (hx : OpdF st x (str s)) (hy : OpdF st y (str t)) :
    OpOk X st mm ⟨some d, .binOp .add T x y T2, ty, pos, af, none⟩ [(d, str z)] [] :=
  bin_S hd hx hy (fun h1 h2 => by
    unfold catS at hz
    split at hz
    · rename_i hle
      cases hz
      refine ⟨_, fun w => ?_, fun w S γ => ⟨rfl, by unfold maxLen; simp; omega⟩⟩
      have : ¬ (((s.length + t.length : Nat) : Int) > IntKind.i64.max) := by
        have h2 : IntKind.i64.max = 9223372036854775807 := by decide
        rw [h2]; omega
      have e : Op.stringOp .add ⟨s.toArray⟩ ⟨t.toArray⟩ = if (((ByteArray.mk s.toArray).size + (ByteArray.mk t.toArray).size : Nat) : Int) > IntKind.i64.max then unsupported (.resourceLimit "string concatenation: a sum of the lengths that is no int") else pure (.string (⟨s.toArray⟩ ++ ⟨t.toArray⟩)) := rfl
      have e2 : (ByteArray.mk s.toArray) ++ (ByteArray.mk t.toArray) = ⟨(s ++ t).toArray⟩ := by
        apply ByteArray.ext; simp [ByteArray.data_append]
      rw [e, if_neg (by simpa [ByteArray.size] using this), e2]; rfl
    · cases hz) (fun _ _ => rfl)
theorem eqS {d x y T T2 ty pos af s t} (hd : Nat.blt d X.N = true) (hx : OpdF st x (str s)) (hy : OpdF st y (str t)) :
    OpOk X st mm ⟨some d, .binOp .eql T x y T2, ty, pos, af, none⟩ [(d, bl (decide (s = t)))] [] :=
  bin_S hd hx hy (fun h1 h2 => ⟨_, fun w => by simp only [Op.stringOp, ba_toList]; rfl, fun w S γ => by rw [dec_eq]; simp [bl, Ly.val, cpB]⟩) (fun _ _ => rfl)
theorem neS {d x y T T2 ty pos af s t} (hd : Nat.blt d X.N = true) (hx : OpdF st x (str s)) (hy : OpdF st y (str t)) :
    OpOk X st mm ⟨some d, .binOp .neq T x y T2, ty, pos, af, none⟩ [(d, bl (!decide (s = t)))] [] :=
  bin_S hd hx hy (fun h1 h2 => ⟨_, fun w => by simp only [Op.stringOp, ba_toList]; rfl, fun w S γ => by rw [dec_eq]; simp [bl, Ly.val, cpB]⟩) (fun _ _ => rfl)

end ops
end Go.Proofs.YtiobbiamnjapgaaDoor
