import Derived.Test.YtiobbiamnjapgaaDoorSim17
namespace Go.Proofs.YtiobbiamnjapgaaDoor
open Go Go.RowKit
theorem eqm0 : EqM [] [] := ⟨trivial, trivial⟩
theorem sj {R : Type} {X : Cx} {l l' m m'} {md : Option R} {G : R → Act → World → Prop} (k : Sq X l' m' md G) (h : Ent X l m l' m') : Sq X l m md G := sent h k
def MiF (ρ : List (Nat × Nat)) (mm : Nat → Option Ct) : List (Nat × Ct) → Prop
  | [] => True
  | (x, c') :: r => (∃ y c, lk ρ x = some y ∧ mm y = some c ∧ RnC ρ c c') ∧ MiF ρ mm r
theorem MiF.get {ρ mm} : ∀ {mi : List (Nat × Ct)}, MiF ρ mm mi → ∀ x c', lk mi x = some c' → ∃ y c, lk ρ x = some y ∧ mm y = some c ∧ RnC ρ c c'
  | [], _, _, _, h => by cases h
  | (i, c0) :: r, hh, x, c', h => by
    simp only [lk] at h
    cases hb : Nat.beq i x
    · rw [hb] at h; exact MiF.get hh.2 x c' h
    · rw [hb] at h
      have : i = x := Nat.eq_of_beq_eq_true hb
      subst this; simp at h; subst h; exact hh.1
section
variable {R : Type} {X : Cx} {l : List (Nat × Ly)} {m : List (Nat × Ct)} {md : Option R} {Q : R → Exit → Act → World → Prop} {G : R → Act → World → Prop}
theorem sjq {σ : Type} {x y : Code} {A : (σ → Option R) → Option R} {k : σ → Option R} (L : σ → List (Nat × Ly)) (M : σ → List (Nat × Ct))
    (h : ∀ j : σ → Option R, (∀ s, Sq X (L s) (M s) (j s) (fun r => y.wp X.P (Q r))) → Sq X l m (A j) (fun r => x.wp X.P (Exit.then (y.wp X.P (Q r)) (Q r))))
    (J : ∀ s, Sq X (L s) (M s) (k s) (fun r => y.wp X.P (Q r))) : Sq X l m (jn A k) (fun r => (Code.seq x y).wp X.P (Q r)) := sseq (h k J)
theorem sloopE {σ τ τ0 : Type} {body : Code} {f : σ → Option (Lp σ τ)} {n : Nat} {s0 : σ} {k : τ → Option R} (e : Nat) (inj : τ0 → τ)
    (L : σ → List (Nat × Ly)) (M : σ → List (Nat × Ct)) (Lo : τ0 → List (Nat × Ly)) (Mo : τ0 → List (Nat × Ct)) (h0 : Ent X l m (L s0) (M s0))
    (hb : (∀ t, Sq X (Lo t) (Mo t) (k (inj t)) (fun r => Q r (.exit e))) → ∀ s, Sq X (L s) (M s) (f s) (fun o => body.wp X.P (LpQ X L M k Q o)))
    (hJ : ∀ t, Sq X (Lo t) (Mo t) (k (inj t)) (fun r => Q r (.exit e))) :
    Sq X l m ((loopM f n s0).bind k) (fun r => (Code.loop body).wp X.P (Q r)) := sloop inj L M Lo Mo h0 hb hJ
end
end Go.Proofs.YtiobbiamnjapgaaDoor
