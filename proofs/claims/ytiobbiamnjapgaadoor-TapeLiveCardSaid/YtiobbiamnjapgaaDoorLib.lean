import Derived.Test.YtiobbiamnjapgaaDoorLibM
import Derived.Test.YtiobbiamnjapgaaDoorShelf
import Derived.Test.YtiobbiamnjapgaaDoorChecked
import Derived.Lib.IndexMore
namespace Go.Proofs.YtiobbiamnjapgaaDoor
open Go Go.RowKit
/-! ### How the kit's words of the library stand to ours -/
theorem ix_one (c : UInt8) : ∀ s : List UInt8, Lib.index s [c] = if (s.any fun b => !ntc c.toNat b) = true then ((s.takeWhile (ntc c.toNat)).length : Int) else -1
  | [] => rfl
  | b :: s => by
    unfold Lib.index
    have e : [c].isPrefixOf (b :: s) = !ntc c.toNat b := by
      simp only [List.isPrefixOf, Bool.and_true, ntc]
      by_cases h : c = b
      · subst h; simp
      · have : b.toNat ≠ c.toNat := fun g => h (UInt8.toNat_inj.1 g).symm
        simp [h, this]
    rw [e, ix_one c s, List.any_cons, List.takeWhile_cons]
    cases h : ntc c.toNat b
    · simp
    · simp only [if_true, List.length_cons]
      generalize (s.takeWhile (ntc c.toNat)).length = L
      cases (s.any fun b => !ntc c.toNat b)
      · rfl
      · simp only [Bool.not_true, Bool.false_or, if_true, Bool.false_eq_true, if_false]
        rw [if_neg (by simp <;> omega)]; omega
theorem cut_one (c : UInt8) (s : List UInt8) : Lib.cut s [c] = cutC c.toNat s := by
  have dw : ∀ (l : List UInt8), l.dropWhile (ntc c.toNat) = l.drop (l.takeWhile (ntc c.toNat)).length := by
    intro l
    induction l with
    | nil => rfl
    | cons a l ih =>
      rw [List.dropWhile_cons, List.takeWhile_cons]
      cases ntc c.toNat a
      · rfl
      · simp [ih]
  have tw : ∀ (l : List UInt8), l.takeWhile (ntc c.toNat) = l.take (l.takeWhile (ntc c.toNat)).length := by
    intro l
    induction l with
    | nil => rfl
    | cons a l ih =>
      rw [List.takeWhile_cons]
      cases ntc c.toNat a
      · rfl
      · simp only [if_true, List.length_cons, List.take_succ_cons]; rw [← ih]
  have al : ∀ (l : List UInt8), (l.any fun b => !ntc c.toNat b) = false → l.takeWhile (ntc c.toNat) = l := by
    intro l
    induction l with
    | nil => intro _; rfl
    | cons a l ih =>
      intro h
      rw [List.any_cons, Bool.or_eq_false_iff] at h
      have : ntc c.toNat a = true := by simpa using h.1
      rw [List.takeWhile_cons, this, if_pos rfl, ih h.2]
  unfold Lib.cut
  rw [ix_one]
  have hh := al s
  cases h : (s.any fun b => !ntc c.toNat b)
  · unfold cutC
    rw [h, if_neg (show ¬ false = true by decide), if_neg (show ¬ (0 : Int) ≤ -1 by decide), dw, hh h]; simp
  · rw [if_pos rfl, if_pos (by omega), Int.toNat_natCast]
    unfold cutC
    rw [h, dw, List.drop_drop]
    rw [← tw s]
    rfl
theorem nDig_le (u : Nat) : Lib.nDigits u ≤ u / 10 + 1 := by
  induction u using Nat.strongRecOn with
  | _ u ih =>
    rw [Lib.nDigits]
    split
    · omega
    · have := ih (u / 10) (by omega); omega
theorem itoa_max {x : Int} (h1 : -9223372036854775808 ≤ x) (h2 : x ≤ 9223372036854775807) : (Lib.itoa x).length ≤ maxLen := by
  unfold Lib.itoa maxLen
  split
  · have := nDig_le x.natAbs
    rw [List.length_cons, Lib.decDigits_length]; omega
  · have := nDig_le x.toNat
    rw [Lib.decDigits_length]; omega
theorem below_gr (w : World) (k : Nat) (os : Array Obj) : Below w.heap.size w (Go.Sort.grow (w.drewN k) os) :=
  ⟨rfl, rfl, rfl, by simp [Go.Sort.grow, World.drewN], fun j hj => by
    show (w.heap ++ os)[j]? = _
    rw [Array.getElem?_append, if_pos hj]⟩
theorem below_dr (w : World) (n : Nat) : Below w.heap.size w (w.drewN n) := ⟨rfl, rfl, rfl, Nat.le_refl _, fun _ _ => rfl⟩
theorem c_strings_TrimLeft {x0 x1 : List UInt8} : ∀ r, m_strings_TrimLeft x0 x1 = some r → FnOk Tryd.prog 80 [str x0, str x1] [] (str r) [] := by
  intro r hr
  match x1, hr with
  | [c], hr =>
    simp only [m_strings_TrimLeft] at hr
    split at hr
    case isFalse => cases hr
    rename_i hc
    cases hr
    refine fn_pure ⟨_, Tryd.func80, by kernel_rfl, rfl⟩ fun w S γ vs hv => ?_
    obtain ⟨v1, r1, e1, ⟨rfl, hl⟩, v2, r2, rfl, ⟨rfl, _⟩, rfl⟩ := hv
    have hvs : vs = #[.string ⟨x0.toArray⟩, .string ⟨#[c]⟩] := by apply Array.ext'; simpa using e1
    subst hvs
    refine (Tryd.strings_TrimLeft_one ⟨x0.toArray⟩ c hc w).mono ?_
    rintro e w' ⟨rfl, rfl⟩
    refine ⟨_, rfl, rfl, ?_⟩
    simp only [Lib.trimLeftB]
    exact ⟨by simp, Nat.le_trans (List.dropWhile_suffix _).length_le hl⟩
theorem c_strconv_Itoa {x0 : Int} : ∀ r, m_strconv_Itoa x0 = some r → FnOk Tryd.prog 31 [i64 x0] [] (str r) [] := by
  intro r hr
  cases hr
  refine fn_lib ⟨_, Tryd.func31, by kernel_rfl, rfl⟩ fun w S γ vs hS hg hv => ?_
  obtain ⟨v1, r1, e1, ⟨rfl, hl1, hl2⟩, rfl⟩ := hv
  have hvs : vs = #[.int .i64 x0] := by apply Array.ext'; simpa using e1
  subst hvs
  refine (Tryd.strconv_Itoa x0 hl1 hl2 w (gf_pow hg)).mono ?_
  rintro e w' ⟨rfl, k, os, rfl⟩
  exact ⟨_, rfl, below_gr w k os, rfl, itoa_max hl1 hl2⟩
end Go.Proofs.YtiobbiamnjapgaaDoor
