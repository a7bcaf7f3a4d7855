import Derived.Test.YtpomhkkhdojpiaaDoorLibM
import Derived.Test.YtpomhkkhdojpiaaDoorShelf
import Derived.Test.YtpomhkkhdojpiaaDoorChecked
import Derived.Lib.IndexMore
import Derived.Lib.AtoiAllCases
import Derived.Lib.AtoiErrMem
namespace Go.Proofs.YtpomhkkhdojpiaaDoor
open Go Go.RowKit
/-! ### How the kit's words of the library stand to ours -/
theorem ix_one (c : UInt8) : ∀ s : List UInt8, Lib.index s [c] = if (s.any fun b => !ntc c.toNat b) = true then ((s.takeWhile (ntc c.toNat)).length : Int) else -1
  | [] => rfl
  | b :: s => by
    unfold Lib.index
    have e : [c].isPrefixOf (b :: s) = !ntc c.toNat b := by
      simp only [List.isPrefixOf, Bool.and_true, ntc]
      by_cases h : c = b
      · subst h; simp
      · have : b.toNat ≠ c.toNat := fun g => h (UInt8.toNat_inj.1 g).symm
        simp [h, this]
    rw [e, ix_one c s, List.any_cons, List.takeWhile_cons]
    cases h : ntc c.toNat b
    · simp
    · simp only [if_true, List.length_cons]
      generalize (s.takeWhile (ntc c.toNat)).length = L
      cases (s.any fun b => !ntc c.toNat b)
      · rfl
      · simp only [Bool.not_true, Bool.false_or, if_true, Bool.false_eq_true, if_false]
        rw [if_neg (by simp <;> omega)]; omega
theorem cut_one (c : UInt8) (s : List UInt8) : Lib.cut s [c] = cutC c.toNat s := by
  have dw : ∀ (l : List UInt8), l.dropWhile (ntc c.toNat) = l.drop (l.takeWhile (ntc c.toNat)).length := by
    intro l
    induction l with
    | nil => rfl
    | cons a l ih =>
      rw [List.dropWhile_cons, List.takeWhile_cons]
      cases ntc c.toNat a
      · rfl
      · simp [ih]
  have tw : ∀ (l : List UInt8), l.takeWhile (ntc c.toNat) = l.take (l.takeWhile (ntc c.toNat)).length := by
    intro l
    induction l with
    | nil => rfl
    | cons a l ih =>
      rw [List.takeWhile_cons]
      cases ntc c.toNat a
      · rfl
      · simp only [if_true, List.length_cons, List.take_succ_cons]; rw [← ih]
  have al : ∀ (l : List UInt8), (l.any fun b => !ntc c.toNat b) = false → l.takeWhile (ntc c.toNat) = l := by
    intro l
    induction l with
    | nil => intro _; rfl
    | cons a l ih =>
      intro h
      rw [List.any_cons, Bool.or_eq_false_iff] at h
      have : ntc c.toNat a = true := by simpa using h.1
      rw [List.takeWhile_cons, this, if_pos rfl, ih h.2]
  unfold Lib.cut
  rw [ix_one]
  have hh := al s
  cases h : (s.any fun b => !ntc c.toNat b)
  · unfold cutC
    rw [h, if_neg (show ¬ false = true by decide), if_neg (show ¬ (0 : Int) ≤ -1 by decide), dw, hh h]; simp
  · rw [if_pos rfl, if_pos (by omega), Int.toNat_natCast]
    unfold cutC
    rw [h, dw, List.drop_drop]
    rw [← tw s]
    rfl
theorem below_dr (w : World) (n : Nat) : Below w.heap.size w (w.drewN n) := ⟨rfl, rfl, rfl, Nat.le_refl _, fun _ _ => rfl⟩
theorem c_strings_Cut {x0 x1 : List UInt8} : ∀ r, m_strings_Cut x0 x1 = some r → FnOk Tryd.prog 26 [str x0, str x1] [] (.tup [str r.1, str r.2.1, bl r.2.2]) [] := by
  intro r hr
  match x1, hr with
  | [c], hr =>
    simp only [m_strings_Cut] at hr
    split at hr
    case isFalse => cases hr
    rename_i hc
    cases hr
    refine fn_lib ⟨_, Tryd.func26, by kernel_rfl, rfl⟩ fun w S γ vs hS hg hv => ?_
    obtain ⟨v1, r1, e1, ⟨rfl, hl⟩, v2, r2, rfl, ⟨rfl, _⟩, rfl⟩ := hv
    have hvs : vs = #[.string ⟨x0.toArray⟩, .string ⟨#[c]⟩] := by apply Array.ext'; simpa using e1
    subst hvs
    obtain ⟨m, hm⟩ := hg.1
    refine (Tryd.strings_Cut ⟨x0.toArray⟩ ⟨#[c]⟩ m w hc hm).mono ?_
    rintro e w' ⟨rfl, k, rfl⟩
    refine ⟨_, rfl, below_dr w k, ?_⟩
    have e2 : Lib.cut (ByteArray.mk x0.toArray).data.toList (ByteArray.mk #[c]).data.toList = cutC c.toNat x0 := cut_one c x0
    rw [e2]
    have k1 : (cutC c.toNat x0).1.length ≤ maxLen := Nat.le_trans (List.takeWhile_sublist _).length_le hl
    have k2 : (cutC c.toNat x0).2.1.length ≤ maxLen := by
      refine Nat.le_trans ?_ hl
      unfold cutC
      simp only [List.length_drop]
      exact Nat.le_trans (Nat.sub_le _ _) (List.dropWhile_suffix _).length_le
    exact ⟨_, rfl, _, _, rfl, ⟨rfl, k1⟩, _, _, rfl, ⟨rfl, k2⟩, _, _, rfl, rfl, rfl⟩
theorem strs_cells {w : World} {S : Nat → Prop} {γ : Nm} : ∀ (l : List (List UInt8)) (cs : List Value), Ly.holds w S γ (l.map str) cs → cs = l.map fun x => Value.string ⟨x.toArray⟩
  | [], cs, h => h
  | x :: l, cs, h => by
    obtain ⟨c1, c2, rfl, ⟨v, rfl, rfl, _⟩, h2⟩ := h
    rw [strs_cells l c2 h2]; rfl
theorem c_strings_Join {x0 : List (List UInt8)} {x1 : List UInt8} : ∀ r, m_strings_Join x0 x1 = some r → FnOk Tryd.prog 21 [sli 1 (List.map str x0), str x1] [] (str r) [] := by
  intro r hr
  simp only [m_strings_Join] at hr
  split at hr
  case isFalse => cases hr
  rename_i hc
  cases hr
  refine fn_lib ⟨_, Tryd.func21, by kernel_rfl, rfl⟩ fun w S γ vs hS hg hv => ?_
  obtain ⟨v1, r1, e1, hs, v2, r2, rfl, ⟨rfl, _⟩, rfl⟩ := hv
  have hm : (Lib.join x0 x1).length ≤ maxLen := Nat.le_trans hc.2 (by decide)
  have none' : ∀ (a : Option Addr) (c : Nat), x0 = [] → vs = #[.slice a 0 c, .string ⟨x1.toArray⟩] → Calls Tryd.prog 21 vs w fun e w' => ∃ v, e = .returned v ∧ Below w.heap.size w w' ∧ (str (Lib.join x0 x1)).val w' S γ v := by
    intro a c h0 hvs
    subst hvs h0
    refine (Tryd.strings_Join_none a c ⟨x1.toArray⟩ w).mono ?_
    rintro e w' ⟨rfl, rfl⟩
    exact ⟨_, rfl, Below.refl _ _, rfl, by simp [Lib.join_nil]⟩
  rcases hs with ⟨rfl, h0⟩ | ⟨b, o, cap, cs, rfl, h1, h2, h3, h4, h5, h6, h7⟩ | ⟨h0, ad, rfl⟩
  · exact none' none 0 (by simpa using h0) (by apply Array.ext'; simpa using e1)
  · have e2 := strs_cells x0 cs h6
    subst e2
    have hvs : vs = #[.slice (some ⟨b, o, none⟩) x0.length cap, .string ⟨x1.toArray⟩] := by apply Array.ext'; simpa using e1
    subst hvs
    have ed : (x0.map fun x => ByteArray.mk x.toArray).map (·.data.toList) = x0 := by simp [List.map_map, Function.comp_def]
    have hj := Tryd.strings_Join b o cap (x0.map fun x => ⟨x.toArray⟩) ⟨x1.toArray⟩ w (fun j x hx => h5 j _ (by
      rw [List.getElem?_map] at hx ⊢
      cases hg : x0[j]? <;> rw [hg] at hx <;> simp at hx
      subst hx; rfl)) h3 (by simpa using hc.1) (by simpa using h1) (by rw [ed]; exact hc.2)
    rw [ed, List.length_map] at hj
    refine hj.mono ?_
    rintro e w' ⟨rfl, hb⟩
    exact ⟨_, rfl, hb, rfl, hm⟩
  · exact none' (some ad) 0 (by simpa using h0) (by apply Array.ext'; simpa using e1)
theorem c_strconv_Atoi {x0 : List UInt8} : ∀ r, m_strconv_Atoi x0 = some r → FnOk Tryd.prog 65 [str x0] [] (.tup [i64 r.1, erl r.2]) [] := by
  intro r hr
  unfold m_strconv_Atoi at hr
  split at hr
  case isFalse => cases hr
  rename_i hc
  refine fn_lib ⟨_, Tryd.func65, by kernel_rfl, rfl⟩ fun w S γ vs hS hg hv => ?_
  obtain ⟨v1, r1, e1, ⟨rfl, hl⟩, rfl⟩ := hv
  have hvs : vs = #[.string ⟨x0.toArray⟩] := by apply Array.ext'; simpa using e1
  subst hvs
  have i64v : ∀ (w : World) (S : Nat → Prop) (γ : Nm) (x : Int), -9223372036854775808 ≤ x → x ≤ 9223372036854775807 → (i64 x).val w S γ (.int .i64 x) := fun w S γ x h1 h2 => ⟨rfl, h1, h2⟩
  cases ha : Lib.atoiAll x0
  · rename_i v
    rw [ha] at hr
    cases hr
    have hb := Lib.atoiAll_bounds ha
    refine (Tryd.strconv_Atoi_ok ⟨x0.toArray⟩ (Nat.le_trans hc (by decide)) v ha w).mono ?_
    rintro e w' ⟨rfl, h⟩
    refine ⟨_, rfl, ?_, _, rfl, _, _, rfl, i64v _ _ _ _ hb.1 hb.2, _, _, rfl, .inl ⟨rfl, rfl⟩, rfl⟩
    rcases h with rfl | ⟨t, rfl⟩
    · exact Below.refl _ _
    · exact Lib.bytesWorld_below _ _ _
  · rw [ha] at hr
    cases hr
    obtain ⟨t, u, h1⟩ := hg.2.2.1
    refine (Any.strconv_Atoi_syntax Tryd.laysC172 ⟨x0.toArray⟩ hc ha _ w h1 (.inr ⟨t, u, rfl⟩)).mono ?_
    rintro e w' ⟨N, rfl, _, _, hb⟩
    exact ⟨_, rfl, hb, _, rfl, _, _, rfl, i64v _ _ _ _ (by decide) (by decide), _, _, rfl, .inr ⟨rfl, _, _, rfl⟩, rfl⟩
  · rw [ha] at hr
    cases hr
    obtain ⟨t, u, h1⟩ := hg.2.2.2
    have hb2 := Lib.atoiSat_bounds x0
    refine (Tryd.strconv_Atoi_range ⟨x0.toArray⟩ hc ha _ w h1 (.inr ⟨t, u, rfl⟩)).mono ?_
    rintro e w' ⟨N, rfl, _, _, hb⟩
    exact ⟨_, rfl, hb, _, rfl, _, _, rfl, i64v _ _ _ _ hb2.1 hb2.2, _, _, rfl, .inr ⟨rfl, _, _, rfl⟩, rfl⟩
end Go.Proofs.YtpomhkkhdojpiaaDoor
