import Derived.Test.YtiobbiamnjapgaaDoorSim19
namespace Go.Proofs.YtiobbiamnjapgaaDoor
open Go Go.RowKit

section
variable {X : Cx} {st : Nat → Option Ly} {mm : Nat → Option Ct}
theorem bnd {kk x p q} (h : OpdF st x (.cell (cpI kk q))) : BndF st p (some x) q := ⟨kk, h⟩
theorem bnd0 {p} : BndF st p none p := rfl
/-- append: onto nil. -/
theorem appN {d x T ty pos af y E k b z lx} {α : Type} {f : α → Ly} {ys zs : List α} (hz : appM b [] ys = some zs) (hT : X.P.underlying T = some (.slice E)) (hE : TyI X.P E k b z) (hzk : z.cells.size = k) (hk0 : Nat.blt 0 k = true)
    (hx : OpdF st x lx) (hF : SlF mm lx k (ys.map f)) (hy : mm y = none) (hd : Nat.blt d X.N = true) :
    OpOk X st mm ⟨some d, .call { callee := .builtin .append, args := #[.const (.slice none 0 0), x], argTypes := #[T, T] }, ty, pos, af, none⟩ [(d, .own y)] [(y, .sl E k (zs.map f))] := by
  unfold appM at hz
  split at hz
  case isFalse => cases hz
  rename_i hle
  obtain ⟨hbytes, h63⟩ := hle
  cases hz
  obtain ⟨i, hi, hz0, hsz, hby⟩ := hE
  have hk0' : 0 < k := by simpa using hk0
  simp only [List.length_nil, Nat.zero_add] at hbytes h63
  refine new_ok hd hy rfl fun a w γ hI => ?_
  have hnil : w.ownsRow w.heap.size E k (.slice none 0 0) 0 [] := ⟨by simp, .inl ⟨rfl, rfl⟩⟩
  have fin : ∀ v' w' news, (Builtin.append_ #[T, T] ty #[.slice none 0 0, a.eval x]).run X.P w = .ok v' w' → w'.ownsRow w.heap.size E k v' ys.length news → w.grownBy w' (Value.slice none 0 0).ownBlock → Ly.holds w (X.S γ mm) γ (ys.map f) news →
      (∀ ly ∈ ys.map f, ly.sz = k) →
      ∃ v w', (execOp a.eval ⟨some d, .call { callee := .builtin .append, args := #[.const (.slice none 0 0), x], argTypes := #[T, T] }, ty, pos, af, none⟩).run X.P w = .ok (.value v) w' ∧ w'.os = w.os ∧ w'.tape = w.tape ∧ w'.output = w.output ∧ Kp (fun _ => False) w w' ∧ v.oneCell' = true ∧
      (∀ S γ', (∀ b, S b → X.S γ mm b ∨ w.heap.size ≤ b) → Ng γ γ' → γ' y = some v → CtHold w' S γ' y (.sl E k (([] ++ ys).map f))) ∧ (∀ b, blkOf v = some b → w.heap.size ≤ b ∧ b < w'.heap.size) := by
    intro v' w' news hr hown hg hh hz2
    have hk : Kp (fun _ => False) w w' := ⟨hg.size, fun b hb' _ => hg.block b hb' (by simp [Value.ownBlock])⟩
    refine ⟨v', w', ?_, hg.os, hg.tape, hg.output, hk, ?_, ?_, ?_⟩
    · simp only [execOp, resolve]
      have e : a.eval (.const (.slice none 0 0)) = .slice none 0 0 := rfl
      simp [invoke, builtin, e, hr]
    · rcases hown.2 with ⟨rfl, _⟩ | ⟨g, cap, cur, rfl, _⟩ <;> rfl
    · intro S γ' hS hng hy'
      refine ⟨v', news, hy', ?_, ?_, ?_⟩
      · simp only [List.nil_append, List.length_map]
        refine ⟨hown.1, ?_⟩
        rcases hown.2 with h | ⟨g, cap, cur, h1, h2, h3⟩
        · exact .inl h
        · exact .inr ⟨g, cap, cur, h1, Nat.zero_le _, h3⟩
      · exact Ly.holds_mono (⟨hk.1, fun b hb hn => hk.2 b hb (fun h => h)⟩) hS hng _ _ (by simpa using hh)
      · intro ly hly; exact hz2 ly (by simpa using hly)
    · intro b hb
      rcases hown.2 with ⟨rfl, _⟩ | ⟨g, cap, cur, rfl, hge, h2, _⟩
      · simp [blkOf] at hb
      · simp [blkOf] at hb; subst hb
        refine ⟨hge, ?_⟩
        rcases Nat.lt_or_ge g w'.heap.size with h | h
        · exact h
        · simp [Array.getElem?_eq_none h] at h2
  rcases slF_read hI hF hx with ⟨h1, h2⟩ | ⟨bb, o, cap, news, h1, h2, h3, h4, h5, h6, h7⟩ | ⟨h2, ad, h1⟩
  rotate_left 2
  · have : ys = [] := by simpa using h2
    subst this
    have hr := run_append_owned_empty (P := X.P) w w.heap.size T ty E i k hT hi (.slice none 0 0) 0 [] hnil ad
    refine fin _ w [] (by rw [h1]; exact hr) (by simpa using hnil) ⟨rfl, rfl, rfl, Nat.le_refl _, fun _ _ _ => rfl⟩ (by simp [Ly.holds]) (fun ly h => by cases h)
  · have : ys = [] := by simpa using h2
    subst this
    have hr := run_append_owned_none (P := X.P) w w.heap.size T ty E i k hT hi (.slice none 0 0) 0 [] hnil
    refine fin _ w [] (by rw [h1]; exact hr) (by simpa using hnil) ⟨rfl, rfl, rfl, Nat.le_refl _, fun _ _ _ => rfl⟩ (by simp [Ly.holds]) (fun ly h => by cases h)
  · have hnl : news.length = ys.length * k := by
      have := Ly.holds_sz _ _ h6
      rw [szs_all h7] at this; simpa using this
    rw [List.length_map] at h1
    obtain ⟨v', w', r1, r2, r3, r4⟩ := run_append_own (P := X.P) w w.heap.size T ty E i z k b hT hi hz0 hsz hby hzk hk0' (.slice none 0 0) 0 [] hnil ⟨bb, o, none⟩ ys.length cap news hnl
      (fun j u hj => by rw [add0]; exact h5 j u hj) (Ly.oneCell_of_holds _ _ h6) (by unfold maxLen; omega) (by simpa using hbytes) (Nat.le_refl _)
    exact fin v' w' news (by rw [h1]; exact r1) (by simpa using r2) r3 h6 h7
end
end Go.Proofs.YtiobbiamnjapgaaDoor
