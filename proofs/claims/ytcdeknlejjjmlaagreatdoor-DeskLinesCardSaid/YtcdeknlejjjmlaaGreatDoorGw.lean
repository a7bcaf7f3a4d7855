import Derived.WalkKit
import Derived.KernelRfl
import Derived.Lib.LaidTab
import Derived.Lib.ItoaNum
import Derived.Test.YtcdeknlejjjmlaaGreatDoorProg
namespace Go.Proofs.YtcdeknlejjjmlaaGreatDoor
open Go
/-- What is known of the package's variables: MaxLen holds some int, the table of powers is the table of powers, the errors are errors. -/
def gN : Nat := 8
def GF (w : World) : Prop := (∃ m, w.cell? ⟨0, 0, none⟩ = some (.int .i64 m)) ∧ Lib.TabIs Tryz.prog w "internal/strconv.uint64pow10" .u64 Lib.pow10Tab ∧ (∃ t u, w.cell? ⟨6, 0, none⟩ = some (.iface t u)) ∧ ∃ t u, w.cell? ⟨7, 0, none⟩ = some (.iface t u)
theorem gf_pow {w : World} (h : GF w) : Lib.TabIs Tryz.prog w "internal/strconv.uint64pow10" .u64 Lib.pow10Tab := h.2.1
theorem GF_st {w w' : World} (h : GF w) (_ : w.heap.size ≤ w'.heap.size) (hb : ∀ b, b < gN → w'.heap[b]? = w.heap[b]?) : GF w' := by
  obtain ⟨⟨m, hm⟩, ht, ⟨t1, u1, h1⟩, t2, u2, h2⟩ := h
  have b1 := hb 0 (by decide)
  have b2 := hb 1 (by decide)
  have b3 := hb 6 (by decide)
  have b4 := hb 7 (by decide)
  refine ⟨⟨m, by rw [← hm]; simp only [World.cell?, b1]⟩, ?_, ⟨t1, u1, by rw [← h1]; simp only [World.cell?, b3]⟩, t2, u2, by rw [← h2]; simp only [World.cell?, b4]⟩
  have hg : Tryz.prog.globalNamed "internal/strconv.uint64pow10" = some 1 := by kernel_rfl
  unfold Lib.TabIs World.var? at ht ⊢
  rw [← ht, hg]
  simp only [Option.bind_some, b2]
end Go.Proofs.YtcdeknlejjjmlaaGreatDoor
