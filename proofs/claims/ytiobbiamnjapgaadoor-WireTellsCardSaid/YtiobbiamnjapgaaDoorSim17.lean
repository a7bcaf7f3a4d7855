import Derived.Test.YtiobbiamnjapgaaDoorSim16
namespace Go.Proofs.YtiobbiamnjapgaaDoor
open Go Go.RowKit

section
variable {R : Type} {X : Cx} {l : List (Nat × Ly)} {m : List (Nat × Ct)} {md : Option R} {Q : R → Exit → Act → World → Prop} {G : R → Act → World → Prop}
theorem scT {c : Operand} {x y : Code} (hc : OpdF (lk l) c (bl true)) (h : Sq X l m md (fun r => x.wp X.P (Q r))) : Sq X l m md (fun r => (Code.cond c x y).wp X.P (Q r)) := by
  intro r a w γ hr hi
  have := hc.val hi
  simp only [bl, Ly.val, cpB] at this
  refine wp_cond_split this (fun _ => h r a w γ hr hi) (fun hb => by cases hb)
theorem scF {c : Operand} {x y : Code} (hc : OpdF (lk l) c (bl false)) (h : Sq X l m md (fun r => y.wp X.P (Q r))) : Sq X l m md (fun r => (Code.cond c x y).wp X.P (Q r)) := by
  intro r a w γ hr hi
  have := hc.val hi
  simp only [bl, Ly.val, cpB] at this
  refine wp_cond_split this (fun hb => by cases hb) (fun _ => h r a w γ hr hi)
/-- A content gets a name. -/
theorem sbm {α : Type} {C : α → Ct} {x : α} {k : α → Option R} (d : Nat) (hd : lk m d = some (C x)) (h : ∀ y, Sq X l ((d, C y) :: m) (k y) G) : Sq X l m ((some x).bind k) G := by
  refine sent (fun a w γ hi => ⟨γ, ?_⟩) (h x)
  have : lk ((d, C x) :: m) = lk m := by
    funext i
    simp only [lk]
    cases e : Nat.beq d i
    · rfl
    · rw [← Nat.eq_of_beq_eq_true e, hd]; rfl
  rw [this]; exact hi

def lpK {τ ρ : Type} (k : τ → Option ρ) : Lp τ ρ → Option ρ
  | .go t => k t
  | .out r => some r

/-- A loop that is left by a return alone. -/
theorem sloop0 {σ : Type} {body : Code} {f : σ → Option (Lp σ R)} {n : Nat} {s0 : σ}
    (L : σ → List (Nat × Ly)) (M : σ → List (Nat × Ct)) (h0 : Ent X l m (L s0) (M s0))
    (hb : ∀ s, Sq X (L s) (M s) (f s) (fun o => body.wp X.P (LpQ X L M some Q o))) :
    Sq X l m (loopM f n s0) (fun r => (Code.loop body).wp X.P (Q r)) := by
  have := sloop (k := some) (G' := fun _ _ _ => True) (Q := Q) (X := X) (l := l) (m := m) (n := n) (τ0 := Empty) (fun e => e.elim) L M (fun _ => []) (fun _ => []) h0 (fun _ => hb) (fun t => t.elim)
  rw [show (loopM f n s0).bind some = loopM f n s0 by cases loopM f n s0 <;> rfl] at this
  exact this
def rgJ {σ ρ : Type} (k : σ → Option ρ) : Lp σ (Lp σ ρ) → Option ρ
  | .go s => k s
  | .out (.go s) => k s
  | .out (.out r) => some r

theorem srangeN {α σ : Type} {f : Nat → α → σ → Option (Lp σ R)} {xs : List α} {s0 : σ} {k : σ → Option R}
    {id1 id2 e tc ti tn t2 T1 T2 T3 T4 ty1 ty2 ty3 : Nat} {p1 p2 p3 : String} {f1 f2 f3 : Array Edge} {B : Code}
    (L : σ → List (Nat × Ly)) (M : σ → List (Nat × Ct))
    (hd : (Nat.blt tc X.N && Nat.blt ti X.N && Nat.blt t2 X.N && !(Nat.beq tc ti) && !(Nat.beq tc tn) && !(Nat.beq ti tn) && !(Nat.beq t2 tn) && !(Nat.beq t2 ti)) = true)
    (hk : ∀ s, (nkey tc (L s) && nkey ti (L s) && nkey t2 (L s) && nkey tn (L s)) = true)
    (h0 : Ent X l m ((ti, i64 (0 : Nat)) :: (tn, i64 xs.length) :: L s0) (M s0))
    (hb : ∀ (i : Nat) x s, xs[i]? = some x → Sq X ((ti, i64 i) :: (tn, i64 xs.length) :: L s) (M s) (f i x s)
      (fun o => B.wp X.P (LpQ X (fun s => (ti, i64 i) :: (tn, i64 xs.length) :: L s) M (fun t => lpK k (.out t)) Q o)))
    (hJ : ∀ s, Sq X (L s) (M s) (k s) (fun r => Q r (.exit e))) :
    Sq X l m ((rangeL f xs 0 s0).bind (lpK k)) (fun r => (Code.loop (.seq (.region id1 ⟨[⟨some tc, .binOp .lss T1 (.tmp ti) (.tmp tn) T2, ty1, p1, f1, none⟩]⟩ false)
      (.seq (.cond (.tmp tc) .skip (.exit e)) (.seq B (.region id2 ⟨[⟨some t2, .binOp .add T3 (.tmp ti) (.const (.int .i64 1)) T4, ty2, p2, f2, none⟩, ⟨some ti, .move (.tmp t2), ty3, p3, f3, none⟩]⟩ false))))).wp X.P (Q r)) :=
  srange (k := lpK k) L M hd hk h0 hb hJ
theorem srangeB {α σ : Type} {f : Nat → α → σ → Option (Lp σ (Lp σ R))} {xs : List α} {s0 : σ} {k : σ → Option R}
    {id1 id2 e tc ti tn t2 T1 T2 T3 T4 ty1 ty2 ty3 : Nat} {p1 p2 p3 : String} {f1 f2 f3 : Array Edge} {B : Code}
    (L : σ → List (Nat × Ly)) (M : σ → List (Nat × Ct))
    (hd : (Nat.blt tc X.N && Nat.blt ti X.N && Nat.blt t2 X.N && !(Nat.beq tc ti) && !(Nat.beq tc tn) && !(Nat.beq ti tn) && !(Nat.beq t2 tn) && !(Nat.beq t2 ti)) = true)
    (hk : ∀ s, (nkey tc (L s) && nkey ti (L s) && nkey t2 (L s) && nkey tn (L s)) = true)
    (h0 : Ent X l m ((ti, i64 (0 : Nat)) :: (tn, i64 xs.length) :: L s0) (M s0))
    (hb : (∀ s, Sq X (L s) (M s) (k s) (fun r => Q r (.exit e))) → ∀ (i : Nat) x s, xs[i]? = some x → Sq X ((ti, i64 i) :: (tn, i64 xs.length) :: L s) (M s) (f i x s)
      (fun o => B.wp X.P (LpQ X (fun s => (ti, i64 i) :: (tn, i64 xs.length) :: L s) M (fun t => rgJ k (.out t)) Q o)))
    (hJ : ∀ s, Sq X (L s) (M s) (k s) (fun r => Q r (.exit e))) :
    Sq X l m ((rangeL f xs 0 s0).bind (rgJ k)) (fun r => (Code.loop (.seq (.region id1 ⟨[⟨some tc, .binOp .lss T1 (.tmp ti) (.tmp tn) T2, ty1, p1, f1, none⟩]⟩ false)
      (.seq (.cond (.tmp tc) .skip (.exit e)) (.seq B (.region id2 ⟨[⟨some t2, .binOp .add T3 (.tmp ti) (.const (.int .i64 1)) T4, ty2, p2, f2, none⟩, ⟨some ti, .move (.tmp t2), ty3, p3, f3, none⟩]⟩ false))))).wp X.P (Q r)) :=
  srange (k := rgJ k) L M hd hk h0 (hb hJ) hJ
end

section ops
variable {X : Cx} {st : Nat → Option Ly} {mm : Nat → Option Ct}
theorem cvI {d x S T ty pos af ds p} (hS : X.P.underlying S = some ds) (hT : X.P.underlying T = some (.int .i64)) (hd : Nat.blt d X.N = true) (hx : OpdF st x (i64 p)) :
    OpOk X st mm ⟨some d, .convert S T x, ty, pos, af, none⟩ [(d, i64 p)] [] :=
  cv_ok hS hT hd hx fun w S γ v hv => by
    obtain ⟨rfl, h1, h2⟩ := hv
    have a1 : IntKind.i64.min = -9223372036854775808 := by decide
    have a2 : IntKind.i64.max = 9223372036854775807 := by decide
    have e : wrap64 p = p := by rw [a1] at h1; rw [a2] at h2; unfold wrap64; omega
    exact ⟨_, _, rfl, by rw [w64_eq, e]; exact ⟨rfl, h1, h2⟩⟩
theorem sge0 {n : Nat} : decide (0 ≤ (n : Int)) = true := by simp
theorem getI_ix {α : Type} {xs : List α} {p : Int} {y : α} (h : getI xs p = some y) : xs[p.toNat]? = some y := (getI_some h).2
end ops
end Go.Proofs.YtiobbiamnjapgaaDoor
