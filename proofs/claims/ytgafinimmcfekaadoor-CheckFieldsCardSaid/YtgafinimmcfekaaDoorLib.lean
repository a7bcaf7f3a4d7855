import Derived.Test.YtgafinimmcfekaaDoorSim28
import Derived.Test.YtgafinimmcfekaaDoorShelf
import Derived.Test.YtgafinimmcfekaaDoorChecked
namespace Go.Proofs.YtgafinimmcfekaaDoor
open Go Go.RowKit
/-- strings.TrimLeft at one ASCII byte. -/
def m_strings_TrimLeft (x0 x1 : List UInt8) : Option (List UInt8) :=
  match x1 with
  | [c] => if c.toNat < 128 then some (x0.dropWhile (· == c)) else none
  | _ => none
theorem c_strings_TrimLeft {x0 x1 : List UInt8} : ∀ r, m_strings_TrimLeft x0 x1 = some r → FnOk Tryd.prog 48 [str x0, str x1] [] (str r) [] := by
  intro r hr
  match x1, hr with
  | [c], hr =>
    simp only [m_strings_TrimLeft] at hr
    split at hr
    case isFalse => cases hr
    rename_i hc
    cases hr
    refine fn_pure ⟨_, Tryd.func48, by kernel_rfl, rfl⟩ fun w S γ vs hv => ?_
    obtain ⟨v1, r1, e1, ⟨rfl, hl⟩, v2, r2, rfl, ⟨rfl, _⟩, rfl⟩ := hv
    have hvs : vs = #[.string ⟨x0.toArray⟩, .string ⟨#[c]⟩] := by apply Array.ext'; simpa using e1
    subst hvs
    refine (Tryd.strings_TrimLeft_one ⟨x0.toArray⟩ c hc w).mono ?_
    rintro e w' ⟨rfl, rfl⟩
    refine ⟨_, rfl, rfl, ?_⟩
    simp only [Lib.trimLeftB]
    exact ⟨by simp, Nat.le_trans (List.dropWhile_suffix _).length_le hl⟩
end Go.Proofs.YtgafinimmcfekaaDoor
