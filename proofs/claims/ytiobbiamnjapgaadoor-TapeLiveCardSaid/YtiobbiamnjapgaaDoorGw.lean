import Derived.WalkKit
import Derived.KernelRfl
import Derived.Lib.LaidTab
import Derived.Lib.ItoaNum
import Derived.Test.YtiobbiamnjapgaaDoorProg
namespace Go.Proofs.YtiobbiamnjapgaaDoor
open Go
/-- What is known of the package's variables: MaxLen holds some int, the table of powers is the table of powers. -/
def gN : Nat := 2
def GF (w : World) : Prop := (∃ m, w.cell? ⟨0, 0, none⟩ = some (.int .i64 m)) ∧ Lib.TabIs Tryd.prog w "internal/strconv.uint64pow10" .u64 Lib.pow10Tab
theorem gf_pow {w : World} (h : GF w) : Lib.TabIs Tryd.prog w "internal/strconv.uint64pow10" .u64 Lib.pow10Tab := h.2
theorem GF_st {w w' : World} (h : GF w) (_ : w.heap.size ≤ w'.heap.size) (hb : ∀ b, b < gN → w'.heap[b]? = w.heap[b]?) : GF w' := by
  obtain ⟨⟨m, hm⟩, ht⟩ := h
  have b1 := hb 0 (by decide)
  have b2 := hb 1 (by decide)
  refine ⟨⟨m, by rw [← hm]; simp only [World.cell?, b1]⟩, ?_⟩
  have hg : Tryd.prog.globalNamed "internal/strconv.uint64pow10" = some 1 := by kernel_rfl
  unfold Lib.TabIs World.var? at ht ⊢
  rw [← ht, hg]
  simp only [Option.bind_some, b2]
end Go.Proofs.YtiobbiamnjapgaaDoor
