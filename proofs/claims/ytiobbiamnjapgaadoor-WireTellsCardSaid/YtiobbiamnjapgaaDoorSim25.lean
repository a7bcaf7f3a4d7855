import Derived.Test.YtiobbiamnjapgaaDoorSim24
import Derived.Laws.RangeString
namespace Go.Proofs.YtiobbiamnjapgaaDoor
open Go Go.RowKit
/-! ### Ranges over strings; arrays at an index -/
def sIt (s : List UInt8) (p : Nat) : Obj := .stringIter ⟨s.toArray⟩ p
def decR (s : List UInt8) (p : Nat) : Nat := (Utf8.decode ⟨s.toArray⟩ p).1
def decW (s : List UInt8) (p : Nat) : Nat := (Utf8.decode ⟨s.toArray⟩ p).2
theorem decR_le (s : List UInt8) (p : Nat) : decR s p ≤ 1114111 := by
  unfold decR Utf8.decode
  simp only []
  split
  · rename_i h; simp at h ⊢; omega
  · split
    · split
      · rename_i h h'; simp at h ⊢; omega
      · simp [Utf8.runeError]
    · split
      · split
        · rename_i h; simp [Utf8.valid] at h ⊢; omega
        · simp [Utf8.runeError]
      · split
        · split
          · rename_i h; simp [Utf8.valid] at h ⊢; omega
          · simp [Utf8.runeError]
        · simp [Utf8.runeError]
section ops
variable {X : Cx} {st : Nat → Option Ly} {mm : Nat → Option Ct}
theorem rngS {d T x ty pos af s y} (hT : X.P.underlying T = some .string) (hx : OpdF st x (str s)) (hy : mm y = none) (hd : Nat.blt d X.N = true) :
    OpOk X st mm ⟨some d, .range T x, ty, pos, af, none⟩ [(d, .own y)] [(y, .ob (sIt s 0))] :=
  new_ok hd hy rfl fun a w γ hi => by
    obtain ⟨hv, _⟩ := hx.val hi
    refine ⟨.pointer (some ⟨w.heap.size, 0, none⟩), w.alloc (sIt s 0), ?_, rfl, rfl, rfl, Kp_alloc _ _ _, rfl,
      fun S γ' hS hg hy' => ⟨w.heap.size, hy', heap_new _ _⟩, fun b hb => by simp [blkOf] at hb; subst hb; simp⟩
    simp only [execOp, hv]
    simp [run_range_string w T _ hT, World.iter, sIt]
theorem obI {id o} {a w γ} (hI : Inv X st mm a w γ) (hm : mm id = some (.ob o)) : ∃ g, γ id = some (.pointer (some ⟨g, 0, none⟩)) ∧ w.heap[g]? = some o := hI.cts id _ hm
theorem nxtF {d x ty pos af id s p} (h : decide (p < s.length) = false) (hm : mm id = some (.ob (sIt s p))) (hd : Nat.blt d X.N = true) (hx : OpdF st x (.own id)) :
    OpOk X st mm ⟨some d, .next x true, ty, pos, af, none⟩ [(d, .tup [bl false])] [] := by
  refine ok_val hd fun a w γ hI => ?_
  obtain ⟨g, h1, h2⟩ := obI hI hm
  obtain ⟨hv, _⟩ := hx.val hI
  rw [h1] at hv
  have hv : a.eval x = .pointer (some ⟨g, 0, none⟩) := by simpa using hv.symm
  have h' : ¬ p < (ByteArray.mk s.toArray).size := by simpa [ByteArray.size] using h
  refine ⟨.tuple #[.bool false], ?_, #[.bool false], rfl, _, [], rfl, rfl, rfl⟩
  simp only [execOp, hv]
  simp only [sIt] at h2
  simp [Instr.next, getObj, Sem.run, h2, h']
theorem nxtT {d x ty pos af id s p} (h : decide (p < s.length) = true) (hle : Nat.ble s.length 1000000 = true) (hm : mm id = some (.ob (sIt s p))) (hd : Nat.blt d X.N = true) (hx : OpdF st x (.own id)) :
    OpOk X st mm ⟨some d, .next x true, ty, pos, af, none⟩ [(d, .tup [bl true, i64 (p : Int), i32 (decR s p : Nat)])] [(id, .ob (sIt s (p + decW s p)))] := by
  intro a w γ K Q hI hK
  have hle' := Nat.le_of_ble_eq_true hle
  obtain ⟨g, h1, h2⟩ := obI hI hm
  obtain ⟨hv, _⟩ := hx.val hI
  rw [h1] at hv
  have hv : a.eval x = .pointer (some ⟨g, 0, none⟩) := by simpa using hv.symm
  have hp : p < s.length := of_decide_eq_true h
  have h' : p < (ByteArray.mk s.toArray).size := by simpa [ByteArray.size] using hp
  have hg : g < w.heap.size := by
    rcases Nat.lt_or_ge g w.heap.size with h | h
    · exact h
    · simp [Array.getElem?_eq_none h] at h2
  let w' : World := { w with heap := w.heap.setIfInBounds g (sIt s (p + decW s p)) }
  have hrun : (execOp a.eval ⟨some d, .next x true, ty, pos, af, none⟩).run X.P w = .ok (.value (.tuple #[.bool true, .int .i64 p, .int .i32 (decR s p : Nat)])) w' := by
    simp only [execOp, hv]
    simp only [sIt] at h2
    simp [Instr.next, getObj, setObj, Sem.run, h2, h', goInt, w', decR, decW, sIt]
  have hkp : Kp (fun b => b = g) w w' := ⟨by simp [w'], fun b hb hn => by simp [w', Array.getElem?_setIfInBounds_ne (Ne.symm hn)]⟩
  have hnew : w'.heap[g]? = some (sIt s (p + decW s p)) := by simp [w', hg]
  have hI' := hI.setc (w' := w') (ct := .ob (sIt s (p + decW s p))) rfl rfl rfl hm rfl h1 rfl hkp rfl ⟨g, h1, hnew⟩
  unfold Oper.wp
  rw [hrun]
  have hr := decR_le s p
  refine hK _ _ _ (hI'.put (d := d) (ly := .tup [bl true, i64 (p : Int), i32 (decR s p : Nat)]) (by simpa using hd) ⟨#[.bool true, .int .i64 p, .int .i32 (decR s p : Nat)], rfl, _, _, rfl, rfl, _, _, rfl, ⟨rfl, ?_, ?_⟩, _, _, rfl, ⟨rfl, ?_, ?_⟩, rfl⟩)
  all_goals simp [IntKind.min, IntKind.max, IntKind.bits, IntKind.signed] <;> omega

theorem goA0 {α : Type} {f : α → Ly} {k : Nat} (hz : ∀ x, (f x).sz = k) {xs : List α} {i : Int} {y : α} (h : getI xs i = some y) : Ly.go [i.toNat] (.agg (xs.map f)) = some (f y, 0 + i.toNat * k) := by
  rw [Nat.zero_add]; exact goA hz (getI_some h).2
theorem puA0 {α : Type} {f : α → Ly} {xs : List α} {i : Int} {y y' : α} {ly : Ly} (h : getI xs i = some y) (hl : .agg ((xs.set i.toNat y').map f) = ly) : Ly.pu (f y') [i.toNat] (.agg (xs.map f)) = ly := by
  rw [← hl]; exact puA (getI_some h).2
theorem getI_dec {α : Type} {xs : List α} {i : Int} {y : α} {n : Nat} (hn : xs.length = n) (h : getI xs i = some y) : (decide (0 ≤ i) && decide (i < (n : Int))) = true := by
  obtain ⟨h0, h1⟩ := getI_some h
  have : i.toNat < xs.length := by
    rcases Nat.lt_or_ge i.toNat xs.length with h | h
    · exact h
    · simp [List.getElem?_eq_none h] at h1
  simp; omega
/-- An element of an array that is a value. -/
theorem ixV {kk : IntKind} {d T x i ty pos af n E ag k} {p : Int} {α : Type} {f : α → Ly} {xs : List α} {y : α} (hT : X.P.underlying T = some (.array n E)) (hS : Shp X.P E ag k) (hn : Nat.beq xs.length n = true) (hg : getI xs p = some y)
    (hz : ∀ x, (f x).sz = k) (ha : ∀ x, (f x).isN = ag) (hd : Nat.blt d X.N = true) (hx : OpdF st x (.agg (xs.map f))) (hi : OpdF st i (.cell (cpI kk p))) :
    OpOk X st mm ⟨some d, .index T x i, ty, pos, af, none⟩ [(d, f y)] [] :=
  ok_val hd fun a w γ hI => by
    have hxn : xs.length = n := Nat.eq_of_beq_eq_true hn
    have hb := getI_dec hxn hg
    simp only [Bool.and_eq_true, decide_eq_true_eq] at hb
    obtain ⟨h0, hg⟩ := getI_some hg
    obtain ⟨g1, _⟩ := hi.val hI
    obtain ⟨cs, hv, hh⟩ := hx.val hI
    obtain ⟨a1, u, b1, hc, e1, e2, _⟩ := go_hold (w := w) (S := X.S γ mm) (γ := γ) [p.toNat] (goA hz hg) (cs := cs.toList) (by simpa [Ly.hold] using hh)
    obtain ⟨v, r1, r2⟩ := run_part' (P := X.P) (w' := w) hS (ha y) (hz y) hc e1 e2
    refine ⟨v, ?_, r2⟩
    simp only [execOp, hv, g1]
    simp [Instr.index, asIntOf, underlying, hT, hb.1, hb.2, run_sizeOf hS, r1]
end ops
end Go.Proofs.YtiobbiamnjapgaaDoor
