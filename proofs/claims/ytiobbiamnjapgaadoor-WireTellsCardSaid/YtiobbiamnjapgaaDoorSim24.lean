import Derived.Test.YtiobbiamnjapgaaDoorSim23
import Derived.Laws.BytesString
import Derived.Laws.BytesArg
import Derived.Lib.ConvBytes
namespace Go.Proofs.YtiobbiamnjapgaaDoor
open Go Go.RowKit
/-- Bytes as numbers, as a string. -/
def bS (xs : List Nat) : List UInt8 := xs.map UInt8.ofNat
def sB (s : List UInt8) : List Nat := s.map (·.toNat)
theorem holds_u8 {w S γ} : ∀ {xs : List Nat} {cs : List Value}, Ly.holds w S γ (xs.map u8) cs → cs = (xs.map (fun x : Nat => (x : Int))).map (Value.int .u8)
  | [], cs, h => by simp only [List.map_nil, Ly.holds] at h; simp [h]
  | x :: xs, cs, h => by
    obtain ⟨c1, c2, rfl, h1, h2⟩ := h
    obtain ⟨v, rfl, rfl, _⟩ := h1
    rw [holds_u8 h2]; simp
section ops
variable {X : Cx} {st : Nat → Option Ly} {mm : Nat → Option Ct}
theorem cvBS {d x S T E ty pos af} {xs : List Nat} (hS : X.P.underlying S = some (.slice E)) (hE : X.P.underlying E = some (.int .u8)) (hT : X.P.underlying T = some .string) (hd : Nat.blt d X.N = true) (hx : OpdF st x (sli 1 (xs.map u8))) :
    OpOk X st mm ⟨some d, .convert S T x, ty, pos, af, none⟩ [(d, str (bS xs))] [] :=
  ok_val hd fun a w γ hI => by
    rcases hx.val hI with ⟨h1, hn⟩ | ⟨bb, o, cap, cs, h1, h2, h3, h4, h5, h6, h7, h8⟩ | ⟨hn, ad, h1⟩
    rotate_left 2
    · have : xs = [] := by simpa using hn
      subst this
      refine ⟨.string ByteArray.empty, ?_, rfl, by simp [bS]⟩
      have hl : (loadCells ad 0).run X.P w = .ok #[] w := by simp [loadCells, loadCellsFrom]
      simp only [execOp, h1]
      rw [Sem.run_bind, run_convert_bytes_string w S T E _ _ _ hS hE hT, run_bytesToString w _ _ 0 [] (by simpa using hl)]
      simp
    · have : xs = [] := by simpa using hn
      subst this
      refine ⟨.string ByteArray.empty, ?_, rfl, by simp [bS]⟩
      simp only [execOp, h1, run_convert_bytes_nil (P := X.P) w S E hS hE 0 0 T hT, Sem.run_bind, Result.andThen_ok, Sem.run_pure]
    · rw [List.length_map] at h1 h2
      have hcs := holds_u8 h7
      have hl : (loadCells ⟨bb, o, none⟩ xs.length).run X.P w = .ok ((xs.map (fun x : Nat => (x : Int))).map (Value.int .u8)).toArray w := by
        have := run_loadCellsFrom (P := X.P) (b := bb) (o := o) (w := w) cs 0 #[] (fun j u hj => by simpa using h6 j u hj)
        have hlen : cs.length = xs.length := by rw [hcs]; simp
        rw [hlen] at this
        rw [← hcs]
        simpa [loadCells] using this
      have hr : (convert S T (.slice (some ⟨bb, o, none⟩) xs.length cap)).run X.P w = .ok (.string ⟨(bS xs).toArray⟩) w := by
        rw [run_convert_bytes_string w S T E _ _ _ hS hE hT, run_bytesToString w _ _ cap _ hl, foldl_push_bytes]
        congr 2
        apply ByteArray.ext
        simp [bS, ByteArray.empty, ByteArray.emptyWithCapacity, Function.comp_def]
        rfl
      refine ⟨.string ⟨(bS xs).toArray⟩, ?_, rfl, by simp [bS]; omega⟩
      simp only [execOp, h1]
      simp [hr]
end ops
end Go.Proofs.YtiobbiamnjapgaaDoor
