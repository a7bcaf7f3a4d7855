import Derived.Test.YtiobbiamnjapgaaDoorSim20
namespace Go.Proofs.YtiobbiamnjapgaaDoor
open Go Go.RowKit

theorem run_part' {P : Program} {T : Nat} {ag : Bool} {k off : Nat} {w w' : World} {S γ} {ly : Ly} {cs : Array Value} {a u b : List Value} (h : Shp P T ag k) (hn : ly.isN = ag) (hz : ly.sz = k)
    (hc : cs.toList = a ++ u ++ b) (hl : a.length = off) (hu : ly.hold w S γ u) : ∃ v, (part T cs off).run P w' = .ok v w' ∧ ly.val w S γ v := by
  have hul := Ly.hold_sz _ _ hu
  cases ag with
  | true =>
    refine ⟨.agg u.toArray, ?_, ?_⟩
    · have : cs.extract off (off + k) = u.toArray := by
        apply Array.ext'
        rw [Array.toList_extract, hc]
        simp only [List.extract_eq_take_drop]
        rw [← hl, List.append_assoc, List.drop_left, ← hz, ← hul, show a.length + u.length - a.length = u.length by omega, List.take_left]
      simp [part, run_isAgg h, run_sizeOf h, this]
    · cases ly <;> simp [Ly.isN] at hn
      simp only [Ly.val, Ly.hold] at hu ⊢
      exact ⟨_, rfl, hu⟩
  | false =>
    have h1 : u.length = 1 := by cases ly <;> simp [Ly.isN] at hn <;> simpa [Ly.sz] using hul
    obtain ⟨v, rfl⟩ : ∃ v, u = [v] := by
      match u, h1 with
      | [v], _ => exact ⟨v, rfl⟩
    refine ⟨v, ?_, Ly.val_of_hold1 hn hu⟩
    have : cs[off]? = some v := by
      rw [← Array.getElem?_toList, hc, ← hl, List.append_assoc, List.getElem?_append_right (Nat.le_refl _)]
      simp
    simp [part, run_isAgg h, this]

/-- What == says of two values of a type. -/
def EqF (P : Program) (n T : Nat) {α : Type} (f : α → Ly) (e : α → α → Bool) : Prop :=
  ∀ d w w' S γ x y vx vy, (f x).val w S γ vx → (f y).val w S γ vy → (Op.equalIn (d + n) T vx vy).run P w' = .ok (e x y) w'

theorem eqf_i64 {P n T} (h : P.underlying T = some (.int .i64)) : EqF P (n + 1) T i64 (fun x y => x == y) := by
  intro d w w' S γ x y vx vy h1 h2
  obtain ⟨rfl, _⟩ := h1; obtain ⟨rfl, _⟩ := h2
  exact run_equalIn_int w' (d + n) T _ _ x y h
theorem eqf_uk {P n T} (k : IntKind) (h : P.underlying T = some (.int k)) : EqF P (n + 1) T (uk k) (fun x y => x == y) := by
  intro d w w' S γ x y vx vy h1 h2
  obtain ⟨rfl, _⟩ := h1; obtain ⟨rfl, _⟩ := h2
  have := run_equalIn_int w' (d + n) T k k (x : Int) (y : Int) h
  have e : ((x : Int) == (y : Int)) = (x == y) := by rw [Bool.eq_iff_iff]; simp; omega
  rw [e] at this; exact this
theorem eqf_bl {P n T} (h : P.underlying T = some .bool) : EqF P (n + 1) T bl (fun x y => x == y) := by
  intro d w w' S γ x y vx vy h1 h2
  simp only [bl, Ly.val, cpB] at h1 h2
  subst h1; subst h2
  exact run_equalIn_bool w' (d + n) T x y h
theorem eqf_str {P n T} (h : P.underlying T = some .string) : EqF P (n + 1) T str (fun x y => x == y) := by
  intro d w w' S γ x y vx vy h1 h2
  obtain ⟨rfl, _⟩ := h1; obtain ⟨rfl, _⟩ := h2
  have := run_equalIn_string (P := P) (w := w') (d + n) T ⟨x.toArray⟩ ⟨y.toArray⟩ h
  rw [ba_toList, ba_toList] at this
  exact this

theorem eqf_comp {P n T} {α β : Type} {f : α → Ly} {e : α → α → Bool} (g : β → α) (h : EqF P n T f e) : EqF P n T (fun x => f (g x)) (fun x y => e (g x) (g y)) := fun d w w' S γ x y => h d w w' S γ (g x) (g y)

def EqFs (P : Program) (n : Nat) (fs : List Field) (off : Nat) {α : Type} (f : α → List Ly) (e : α → α → Bool) : Prop :=
  ∀ d w w' S γ x y (xs ys : Array Value) a1 u1 a2 u2, xs.toList = a1 ++ u1 → a1.length = off → Ly.holds w S γ (f x) u1 → ys.toList = a2 ++ u2 → a2.length = off → Ly.holds w S γ (f y) u2 →
    (Op.eqFields (d + n) xs ys fs).run P w' = .ok (e x y) w'
theorem eqfs_nil {P n off} {α : Type} : EqFs P n [] off (fun _ : α => []) (fun _ _ => true) := by
  intro d w w' S γ x y xs ys a1 u1 a2 u2 _ _ _ _ _ _
  simp [Op.eqFields]
theorem eqfs_cons {P n off k ag} {α : Type} {F : Field} {fs : List Field} {g : α → Ly} {f : α → List Ly} {e1 e2 : α → α → Bool} (hname : (F.name == "_") = false) (hoff : F.offset = off) (hT : Shp P F.type ag k) (hn : ∀ x, (g x).isN = ag) (hz : ∀ x, (g x).sz = k)
    (h1 : EqF P n F.type g e1) (h2 : EqFs P n fs (off + k) f e2) : EqFs P n (F :: fs) off (fun x => g x :: f x) (fun x y => e1 x y && e2 x y) := by
  intro d w w' S γ x y xs ys a1 u1 a2 u2 hx hxl hxh hy hyl hyh
  obtain ⟨c1, c2, rfl, p1, p2⟩ := hxh
  obtain ⟨d1, d2, rfl, q1, q2⟩ := hyh
  have hne : F.name ≠ "_" := by simpa using hname
  obtain ⟨v, r1, r2⟩ := run_part' (w := w) (w' := w') (S := S) (γ := γ) (off := off) hT (hn x) (hz x) (cs := xs) (b := c2) (by rw [hx, List.append_assoc]) hxl p1
  obtain ⟨v', s1, s2⟩ := run_part' (w := w) (w' := w') (S := S) (γ := γ) (off := off) hT (hn y) (hz y) (cs := ys) (b := d2) (by rw [hy, List.append_assoc]) hyl q1
  have he := h1 d w w' S γ x y v v' r2 s2
  have hrest := h2 d w w' S γ x y xs ys (a1 ++ c1) c2 (a2 ++ d1) d2 (by rw [hx, List.append_assoc]) (by rw [List.length_append, hxl, Ly.hold_sz _ _ p1, hz]) p2 (by rw [hy, List.append_assoc]) (by rw [List.length_append, hyl, Ly.hold_sz _ _ q1, hz]) q2
  simp only [Op.eqFields, hoff]
  rw [if_pos hne]
  simp only [Sem.run_bind, r1, s1, Result.andThen_ok, he]
  cases h : e1 x y
  · simp
  · simp [hrest]
theorem eqf_struct {P n T} {α : Type} {fs : Array Field} {f : α → List Ly} {e : α → α → Bool} (hT : P.underlying T = some (.struct fs)) (hp : P.stoodInHeld T = false) (h : EqFs P n fs.toList 0 f e) : EqF P (n + 1) T (fun x => .agg (f x)) e := by
  intro d w w' S γ x y vx vy h1 h2
  obtain ⟨cs, rfl, hh⟩ := h1
  obtain ⟨ds, rfl, hh2⟩ := h2
  have hf : P.fieldsOf T = fs := by simp [Program.fieldsOf, hT]
  rw [show d + (n + 1) = (d + n) + 1 by omega, run_equalIn_struct w' (d + n) T cs ds (by rw [hf]; exact hT) hp, hf]
  exact h d w w' S γ x y cs ds [] _ [] _ rfl rfl hh rfl rfl hh2

section ops
variable {X : Cx} {st : Nat → Option Ly} {mm : Nat → Option Ct}
theorem beqA_ok {d o x y T T2 ty pos af n} {α : Type} {f : α → List Ly} {e : α → α → Bool} {p q : α} {b : Bool} (he : EqF X.P n T (fun x => .agg (f x)) e) (hn : Nat.ble n 10000 = true) (hg : X.P.eqGuardType X.P.depth T = false)
    (hrun : ∀ cs ds w, (Op.equal T (.agg cs) (.agg ds)).run X.P w = .ok (e p q) w → (binOp o T (.agg cs) (.agg ds)).run X.P w = .ok (.bool b) w)
    (hd : Nat.blt d X.N = true) (hx : OpdF st x (.agg (f p))) (hy : OpdF st y (.agg (f q))) :
    OpOk X st mm ⟨some d, .binOp o T x y T2, ty, pos, af, none⟩ [(d, bl b)] [] :=
  bin_ok hd hx hy fun w S γ vx vy h1 h2 => by
    have hle := Nat.le_of_ble_eq_true hn
    have hr := fun w' : World => he (10000 - n) w w' S γ p q vx vy h1 h2
    rw [show 10000 - n + n = 10000 by omega] at hr
    simp only [Ly.val] at h1 h2
    obtain ⟨cs, rfl, _⟩ := h1
    obtain ⟨ds, rfl, _⟩ := h2
    refine ⟨.bool b, fun w' => ?_, fun w' => hrun cs ds w' (hr w'), by simp [bl, Ly.val, cpB]⟩
    cases o <;> simp [eqGuard, hg]
theorem eqA {d x y T T2 ty pos af n} {α : Type} {f : α → List Ly} {e : α → α → Bool} {p q : α} (he : EqF X.P n T (fun x => .agg (f x)) e) (hn : Nat.ble n 10000 = true) (hg : X.P.eqGuardType X.P.depth T = false)
    (hd : Nat.blt d X.N = true) (hx : OpdF st x (.agg (f p))) (hy : OpdF st y (.agg (f q))) :
    OpOk X st mm ⟨some d, .binOp .eql T x y T2, ty, pos, af, none⟩ [(d, bl (e p q))] [] :=
  beqA_ok he hn hg (fun cs ds w h => by simp [binOp, h]) hd hx hy
theorem neA {d x y T T2 ty pos af n} {α : Type} {f : α → List Ly} {e : α → α → Bool} {p q : α} (he : EqF X.P n T (fun x => .agg (f x)) e) (hn : Nat.ble n 10000 = true) (hg : X.P.eqGuardType X.P.depth T = false)
    (hd : Nat.blt d X.N = true) (hx : OpdF st x (.agg (f p))) (hy : OpdF st y (.agg (f q))) :
    OpOk X st mm ⟨some d, .binOp .neq T x y T2, ty, pos, af, none⟩ [(d, bl (!(e p q)))] [] :=
  beqA_ok he hn hg (fun cs ds w h => by simp [binOp, h]) hd hx hy
end ops
end Go.Proofs.YtiobbiamnjapgaaDoor
