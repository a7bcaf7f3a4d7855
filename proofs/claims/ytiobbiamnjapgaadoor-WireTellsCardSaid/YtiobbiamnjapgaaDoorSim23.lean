import Derived.Test.YtiobbiamnjapgaaDoorSim22
namespace Go.Proofs.YtiobbiamnjapgaaDoor
open Go Go.RowKit
section ops
variable {X : Cx} {st : Nat → Option Ly} {mm : Nat → Option Ct}
theorem grd_dec {p : Prop} [Decidable p] {u : Unit} (h : grd (decide p) = some u) : p := of_decide_eq_true (grd_some h)
/-- All of an array of one's own, as a slice; the array is written no more. -/
theorem slA {d x T ty pos af n E k b z id E0} {α : Type} {f : α → Ly} {xs : List α} (hT : X.P.underlying T = some (.array n E)) (hE : TyI X.P E k b z) (hm : mm id = some (.bx E0 (.agg (xs.map f)))) (hn : xs.length = n) (hle : Nat.ble n 1000000 = true)
    (hif : ∀ x, IF (f x)) (hz : ∀ x, (f x).sz = k) (hd : Nat.blt d X.N = true) (hx : OpdF st x (.own id)) :
    OpOk X st mm ⟨some d, .slice T x none none none, ty, pos, af, none⟩ [(d, sli k (xs.map f))] [(id, .gone)] := by
  intro a w γ K Q hI hK
  have hle' := Nat.le_of_ble_eq_true hle
  obtain ⟨g, cur, h1, h2, h3⟩ := bxI hI hm
  obtain ⟨hv, _⟩ := hx.val hI
  rw [h1] at hv
  have hv : a.eval x = .pointer (some ⟨g, 0, none⟩) := by simpa using hv.symm
  have hdr := hI.drop id
  have hmine := hI.mine g ⟨id, _, _, hm, rfl, h1, rfl⟩
  have hS : ∀ b, X.S γ (up mm [(id, .gone)]) b → X.S γ mm b := by
    rintro b (h | ⟨i, c', u, k1, k2, k3, k4⟩)
    · exact .inl h
    · rw [up_one] at k1
      by_cases e : id = i
      · simp [e] at k1; subst k1; simp [Ct.alive] at k2
      · simp [e] at k1; exact .inr ⟨i, c', u, k1, k2, k3, k4⟩
  have hrun : (execOp a.eval ⟨some d, .slice T x none none none, ty, pos, af, none⟩).run X.P w = .ok (.value (.slice (some ⟨g, 0, none⟩) n n)) w := by
    have hb := run_sliceBounds (P := X.P) (w := w) (isS := false) (len := n) (cap := n) (lo := none) (hi := none) (p := 0) (q := n) (.inl ⟨rfl, rfl⟩) (.inl ⟨rfl, rfl⟩) (by omega) (by omega) (by omega)
    simp only [execOp, hv]
    by_cases hn0 : n = 0
    · subst hn0; simp at hb
      simp [Instr.sliceAt, underlying, hT, hb, run_sizeOf' hE, Instr.sureAddr]
    · simp [Instr.sliceAt, underlying, hT, hb, run_sizeOf' hE, Instr.sureAddr, hn0, add0]
  have hp : (cpL k (xs.map f)).p w (X.S γ (up mm [(id, .gone)])) (.slice (some ⟨g, 0, none⟩) n n) := by
    have hl : (xs.map f).length = n := by simp [hn]
    refine .inr (.inl ⟨g, 0, n, cur.toList, by rw [hl], by rw [hl]; exact Nat.le_refl _, by unfold maxLen; omega, hmine.2.1, ?_, fun j u hj => ?_, ?_, fun ly hly => ?_⟩)
    · rintro (h | ⟨i, c', u, k1, k2, k3, k4⟩)
      · exact hmine.2.2 h
      · rw [up_one] at k1
        by_cases e : id = i
        · simp [e] at k1; subst k1; simp [Ct.alive] at k2
        · simp [e] at k1
          exact e (hI.apart id i _ c' _ u g hm rfl k1 k2 h1 k3 rfl k4)
    · rw [cell_of_heap h2, ← Array.getElem?_toList, Nat.zero_add]; exact hj
    · have h3' : Ly.holds w (X.S γ mm) γ (xs.map f) cur.toList := by simpa [Ly.hold] using h3
      exact Ly.holds_mono (Kp.refl _ _) (fun b hb => .inl (hS b hb)) (Ng.refl _) _ _ ((ifs_map hif xs w _ γ (fun _ => none)).1 _ h3')
    · obtain ⟨x, _, rfl⟩ := List.mem_map.1 hly; exact hz x
  unfold Oper.wp
  rw [hrun]
  exact hK _ _ _ (hdr.put (d := d) (ly := sli k (xs.map f)) (by simpa using hd) hp)
end ops
end Go.Proofs.YtiobbiamnjapgaaDoor
