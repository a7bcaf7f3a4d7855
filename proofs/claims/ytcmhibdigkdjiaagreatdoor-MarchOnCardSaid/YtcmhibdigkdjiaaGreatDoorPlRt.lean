import Derived.Test.YtcmhibdigkdjiaaGreatDoorPlFr
import Derived.Test.YtcmhibdigkdjiaaGreatDoorPlLp
namespace Go.Proofs.YtcmhibdigkdjiaaGreatDoor
open Go Go.RowKit
/-! ### Right fractions -/
theorem val_inj : ∀ {a b : List Nat}, Wd a → Wd b → a.length = b.length → val a = val b → a = b
  | [], [], _, _, _, _ => rfl
  | [], _ :: _, _, _, h, _ => by simp at h
  | _ :: _, [], _, _, h, _ => by simp at h
  | x :: a, y :: b, ha, hb, hl, hv => by
    obtain ⟨h1, h2⟩ := Wd_cons.1 ha
    obtain ⟨h3, h4⟩ := Wd_cons.1 hb
    simp only [val] at hv
    have : x = y := by omega
    subst this
    rw [val_inj h2 h4 (by simpa using hl) (by omega)]
theorem cmpI_zero {x y : Nat} : cmpI x y = 0 ↔ x = y := by
  unfold cmpI
  split
  · constructor <;> intro h <;> omega
  · split
    · constructor <;> intro h <;> omega
    · constructor <;> intro h <;> omega
open Classical in
theorem m_frac_Right_eq {n : Nat} {f : M_frac_Frac} (hn : big ≤ n) (hf : Fw f) : m_frac_Right n f = some (decide (f = toF (fv f))) := by
  unfold m_frac_Right
  rw [m_frac_Norm_eq hn hf, sbind, jn_eq]
  have w1 : Wd (toF (fv f)).Num.Abs := Wd_toL _
  have w2 : Wd (toF (fv f)).Den := Wd_toL _
  generalize toF (fv f) = g at *
  obtain ⟨⟨h1, h2⟩, h3, h4⟩ := hf
  obtain ⟨⟨s, a⟩, d⟩ := f
  obtain ⟨⟨t, b⟩, e⟩ := g
  simp only at h1 h2 h3 h4 w1 w2 ⊢
  have hno : ∀ {P : Prop}, (P → False) → (some false : Option Bool) = some (decide P) := fun h => by rw [decide_eq_false h]
  by_cases c1 : s = t
  · subst c1
    rw [show (s == s) = true by simp, bifT]
    by_cases c2 : (a.length : Int) = (b.length : Int)
    · rw [decide_eq_true c2, bifT]
      by_cases c3 : (d.length : Int) = (e.length : Int)
      · rw [decide_eq_true c3, bifT, m_nat_Cmp_eq hn (by omega) (by omega) h1 w1, sbind]
        by_cases c4 : val a = val b
        · rw [decide_eq_true (cmpI_zero.2 c4), bifT, m_nat_Cmp_eq hn (by omega) (by omega) h3 w2, sbind]
          by_cases c5 : val d = val e
          · rw [decide_eq_true (cmpI_zero.2 c5), val_inj h1 w1 (by omega) c4, val_inj h3 w2 (by omega) c5, decide_eq_true rfl]
          · rw [decide_eq_false fun h => c5 (cmpI_zero.1 h)]; exact hno fun h => by cases h; exact c5 rfl
        · rw [decide_eq_false fun h => c4 (cmpI_zero.1 h), bifF]; exact hno fun h => by cases h; exact c4 rfl
      · rw [decide_eq_false c3, bifF]; exact hno fun h => by cases h; exact c3 rfl
    · rw [decide_eq_false c2, bifF]; exact hno fun h => by cases h; exact c2 rfl
  · rw [show (s == t) = false by simpa using c1, bifF]; exact hno fun h => by cases h; exact c1 rfl
end Go.Proofs.YtcmhibdigkdjiaaGreatDoor
