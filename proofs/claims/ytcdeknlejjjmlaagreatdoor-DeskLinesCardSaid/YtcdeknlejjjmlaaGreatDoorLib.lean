import Derived.Test.YtcdeknlejjjmlaaGreatDoorLibM
import Derived.Test.YtcdeknlejjjmlaaGreatDoorShelf
import Derived.Test.YtcdeknlejjjmlaaGreatDoorChecked
import Derived.Lib.IndexMore
import Derived.Lib.AtoiAllCases
import Derived.Lib.AtoiErrMem
namespace Go.Proofs.YtcdeknlejjjmlaaGreatDoor
open Go Go.RowKit
/-! ### How the kit's words of the library stand to ours -/
theorem ix_one (c : UInt8) : ∀ s : List UInt8, Lib.index s [c] = if (s.any fun b => !ntc c.toNat b) = true then ((s.takeWhile (ntc c.toNat)).length : Int) else -1
  | [] => rfl
  | b :: s => by
    unfold Lib.index
    have e : [c].isPrefixOf (b :: s) = !ntc c.toNat b := by
      simp only [List.isPrefixOf, Bool.and_true, ntc]
      by_cases h : c = b
      · subst h; simp
      · have : b.toNat ≠ c.toNat := fun g => h (UInt8.toNat_inj.1 g).symm
        simp [h, this]
    rw [e, ix_one c s, List.any_cons, List.takeWhile_cons]
    cases h : ntc c.toNat b
    · simp
    · simp only [if_true, List.length_cons]
      generalize (s.takeWhile (ntc c.toNat)).length = L
      cases (s.any fun b => !ntc c.toNat b)
      · rfl
      · simp only [Bool.not_true, Bool.false_or, if_true, Bool.false_eq_true, if_false]
        rw [if_neg (by simp <;> omega)]; omega
theorem cut_one (c : UInt8) (s : List UInt8) : Lib.cut s [c] = cutC c.toNat s := by
  have dw : ∀ (l : List UInt8), l.dropWhile (ntc c.toNat) = l.drop (l.takeWhile (ntc c.toNat)).length := by
    intro l
    induction l with
    | nil => rfl
    | cons a l ih =>
      rw [List.dropWhile_cons, List.takeWhile_cons]
      cases ntc c.toNat a
      · rfl
      · simp [ih]
  have tw : ∀ (l : List UInt8), l.takeWhile (ntc c.toNat) = l.take (l.takeWhile (ntc c.toNat)).length := by
    intro l
    induction l with
    | nil => rfl
    | cons a l ih =>
      rw [List.takeWhile_cons]
      cases ntc c.toNat a
      · rfl
      · simp only [if_true, List.length_cons, List.take_succ_cons]; rw [← ih]
  have al : ∀ (l : List UInt8), (l.any fun b => !ntc c.toNat b) = false → l.takeWhile (ntc c.toNat) = l := by
    intro l
    induction l with
    | nil => intro _; rfl
    | cons a l ih =>
      intro h
      rw [List.any_cons, Bool.or_eq_false_iff] at h
      have : ntc c.toNat a = true := by simpa using h.1
      rw [List.takeWhile_cons, this, if_pos rfl, ih h.2]
  unfold Lib.cut
  rw [ix_one]
  have hh := al s
  cases h : (s.any fun b => !ntc c.toNat b)
  · unfold cutC
    rw [h, if_neg (show ¬ false = true by decide), if_neg (show ¬ (0 : Int) ≤ -1 by decide), dw, hh h]; simp
  · rw [if_pos rfl, if_pos (by omega), Int.toNat_natCast]
    unfold cutC
    rw [h, dw, List.drop_drop]
    rw [← tw s]
    rfl
theorem below_dr (w : World) (n : Nat) : Below w.heap.size w (w.drewN n) := ⟨rfl, rfl, rfl, Nat.le_refl _, fun _ _ => rfl⟩
theorem c_strings_TrimLeft {x0 x1 : List UInt8} : ∀ r, m_strings_TrimLeft x0 x1 = some r → FnOk Tryz.prog 238 [str x0, str x1] [] (str r) [] := by
  intro r hr
  match x1, hr with
  | [c], hr =>
    simp only [m_strings_TrimLeft] at hr
    split at hr
    case isFalse => cases hr
    rename_i hc
    cases hr
    refine fn_pure ⟨_, Tryz.func238, by kernel_rfl, rfl⟩ fun w S γ vs hv => ?_
    obtain ⟨v1, r1, e1, ⟨rfl, hl⟩, v2, r2, rfl, ⟨rfl, _⟩, rfl⟩ := hv
    have hvs : vs = #[.string ⟨x0.toArray⟩, .string ⟨#[c]⟩] := by apply Array.ext'; simpa using e1
    subst hvs
    refine (Tryz.strings_TrimLeft_one ⟨x0.toArray⟩ c hc w).mono ?_
    rintro e w' ⟨rfl, rfl⟩
    refine ⟨_, rfl, rfl, ?_⟩
    simp only [Lib.trimLeftB]
    exact ⟨by simp, Nat.le_trans (List.dropWhile_suffix _).length_le hl⟩
theorem nDig_le (u : Nat) : Lib.nDigits u ≤ u / 10 + 1 := by
  induction u using Nat.strongRecOn with
  | _ u ih =>
    rw [Lib.nDigits]
    split
    · omega
    · have := ih (u / 10) (by omega); omega
theorem itoa_max {x : Int} (h1 : -9223372036854775808 ≤ x) (h2 : x ≤ 9223372036854775807) : (Lib.itoa x).length ≤ maxLen := by
  unfold Lib.itoa maxLen
  split
  · have := nDig_le x.natAbs
    rw [List.length_cons, Lib.decDigits_length]; omega
  · have := nDig_le x.toNat
    rw [Lib.decDigits_length]; omega
theorem below_gr (w : World) (k : Nat) (os : Array Obj) : Below w.heap.size w (Go.Sort.grow (w.drewN k) os) :=
  ⟨rfl, rfl, rfl, by simp [Go.Sort.grow, World.drewN], fun j hj => by
    show (w.heap ++ os)[j]? = _
    rw [Array.getElem?_append, if_pos hj]⟩
theorem c_strconv_Itoa {x0 : Int} : ∀ r, m_strconv_Itoa x0 = some r → FnOk Tryz.prog 87 [i64 x0] [] (str r) [] := by
  intro r hr
  cases hr
  refine fn_lib ⟨_, Tryz.func87, by kernel_rfl, rfl⟩ fun w S γ vs hS hg hv => ?_
  obtain ⟨v1, r1, e1, ⟨rfl, hl1, hl2⟩, rfl⟩ := hv
  have hvs : vs = #[.int .i64 x0] := by apply Array.ext'; simpa using e1
  subst hvs
  refine (Tryz.strconv_Itoa x0 hl1 hl2 w (gf_pow hg)).mono ?_
  rintro e w' ⟨rfl, k, os, rfl⟩
  exact ⟨_, rfl, below_gr w k os, rfl, itoa_max hl1 hl2⟩
theorem c_strings_Cut {x0 x1 : List UInt8} : ∀ r, m_strings_Cut x0 x1 = some r → FnOk Tryz.prog 88 [str x0, str x1] [] (.tup [str r.1, str r.2.1, bl r.2.2]) [] := by
  intro r hr
  match x1, hr with
  | [c], hr =>
    simp only [m_strings_Cut] at hr
    split at hr
    case isFalse => cases hr
    rename_i hc
    cases hr
    refine fn_lib ⟨_, Tryz.func88, by kernel_rfl, rfl⟩ fun w S γ vs hS hg hv => ?_
    obtain ⟨v1, r1, e1, ⟨rfl, hl⟩, v2, r2, rfl, ⟨rfl, _⟩, rfl⟩ := hv
    have hvs : vs = #[.string ⟨x0.toArray⟩, .string ⟨#[c]⟩] := by apply Array.ext'; simpa using e1
    subst hvs
    obtain ⟨m, hm⟩ := hg.1
    refine (Tryz.strings_Cut ⟨x0.toArray⟩ ⟨#[c]⟩ m w hc hm).mono ?_
    rintro e w' ⟨rfl, k, rfl⟩
    refine ⟨_, rfl, below_dr w k, ?_⟩
    have e2 : Lib.cut (ByteArray.mk x0.toArray).data.toList (ByteArray.mk #[c]).data.toList = cutC c.toNat x0 := cut_one c x0
    rw [e2]
    have k1 : (cutC c.toNat x0).1.length ≤ maxLen := Nat.le_trans (List.takeWhile_sublist _).length_le hl
    have k2 : (cutC c.toNat x0).2.1.length ≤ maxLen := by
      refine Nat.le_trans ?_ hl
      unfold cutC
      simp only [List.length_drop]
      exact Nat.le_trans (Nat.sub_le _ _) (List.dropWhile_suffix _).length_le
    exact ⟨_, rfl, _, _, rfl, ⟨rfl, k1⟩, _, _, rfl, ⟨rfl, k2⟩, _, _, rfl, rfl, rfl⟩
theorem c_strconv_Atoi {x0 : List UInt8} : ∀ r, m_strconv_Atoi x0 = some r → FnOk Tryz.prog 400 [str x0] [] (.tup [i64 r.1, erl r.2]) [] := by
  intro r hr
  unfold m_strconv_Atoi at hr
  split at hr
  case isFalse => cases hr
  rename_i hc
  refine fn_lib ⟨_, Tryz.func400, by kernel_rfl, rfl⟩ fun w S γ vs hS hg hv => ?_
  obtain ⟨v1, r1, e1, ⟨rfl, hl⟩, rfl⟩ := hv
  have hvs : vs = #[.string ⟨x0.toArray⟩] := by apply Array.ext'; simpa using e1
  subst hvs
  have i64v : ∀ (w : World) (S : Nat → Prop) (γ : Nm) (x : Int), -9223372036854775808 ≤ x → x ≤ 9223372036854775807 → (i64 x).val w S γ (.int .i64 x) := fun w S γ x h1 h2 => ⟨rfl, h1, h2⟩
  cases ha : Lib.atoiAll x0
  · rename_i v
    rw [ha] at hr
    cases hr
    have hb := Lib.atoiAll_bounds ha
    refine (Tryz.strconv_Atoi_ok ⟨x0.toArray⟩ (Nat.le_trans hc (by decide)) v ha w).mono ?_
    rintro e w' ⟨rfl, h⟩
    refine ⟨_, rfl, ?_, _, rfl, _, _, rfl, i64v _ _ _ _ hb.1 hb.2, _, _, rfl, .inl ⟨rfl, rfl⟩, rfl⟩
    rcases h with rfl | ⟨t, rfl⟩
    · exact Below.refl _ _
    · exact Lib.bytesWorld_below _ _ _
  · rw [ha] at hr
    cases hr
    obtain ⟨t, u, h1⟩ := hg.2.2.1
    refine (Any.strconv_Atoi_syntax Tryz.laysC172 ⟨x0.toArray⟩ hc ha _ w h1 (.inr ⟨t, u, rfl⟩)).mono ?_
    rintro e w' ⟨N, rfl, _, _, hb⟩
    exact ⟨_, rfl, hb, _, rfl, _, _, rfl, i64v _ _ _ _ (by decide) (by decide), _, _, rfl, .inr ⟨rfl, _, _, rfl⟩, rfl⟩
  · rw [ha] at hr
    cases hr
    obtain ⟨t, u, h1⟩ := hg.2.2.2
    have hb2 := Lib.atoiSat_bounds x0
    refine (Tryz.strconv_Atoi_range ⟨x0.toArray⟩ hc ha _ w h1 (.inr ⟨t, u, rfl⟩)).mono ?_
    rintro e w' ⟨N, rfl, _, _, hb⟩
    exact ⟨_, rfl, hb, _, rfl, _, _, rfl, i64v _ _ _ _ hb2.1 hb2.2, _, _, rfl, .inr ⟨rfl, _, _, rfl⟩, rfl⟩
end Go.Proofs.YtcdeknlejjjmlaaGreatDoor
