import Derived.Test.YtiobbiamnjapgaaDoorSim21
namespace Go.Proofs.YtiobbiamnjapgaaDoor
open Go Go.RowKit

theorem goA {α : Type} {f : α → Ly} {k : Nat} (hz : ∀ x, (f x).sz = k) {xs : List α} {i : Nat} {y : α} (h : xs[i]? = some y) : Ly.go [i] (.agg (xs.map f)) = some (f y, i * k) := by
  have hm : (xs.map f)[i]? = some (f y) := by simp [h]
  have hi : i < xs.length := by
    rcases Nat.lt_or_ge i xs.length with h' | h'
    · exact h'
    · simp [List.getElem?_eq_none h'] at h
  have hs : Ly.szs ((xs.map f).take i) = i * k := szs_take (fun ly hl => by obtain ⟨x, _, rfl⟩ := List.mem_map.1 hl; exact hz x) (by simp; omega)
  simp [Ly.go, hm, hs]
theorem puA {α : Type} {f : α → Ly} {xs : List α} {i : Nat} {y y' : α} (h : xs[i]? = some y) : Ly.pu (f y') [i] (.agg (xs.map f)) = .agg ((xs.set i y').map f) := by
  have hm : (xs.map f)[i]? = some (f y) := by simp [h]
  simp [Ly.pu, hm, List.map_set]

section ops
variable {X : Cx} {st : Nat → Option Ly} {mm : Nat → Option Ct}
/-- The address of an element of an owned array. -/
theorem ixAO {kk : IntKind} {d x i T ty pos af n E k b z id off lx} {p : Int} (hT : X.P.underlying T = some (.array n E)) (hE : TyI X.P E k b z) (hp : (decide (0 ≤ p) && decide (p < (n : Int))) = true) (ho : OwnP mm lx id off)
    (hd : Nat.blt d X.N = true) (hx : OpdF st x lx) (hi : OpdF st i (.cell (cpI kk p))) :
    OpOk X st mm ⟨some d, .indexAddr T x i, ty, pos, af, none⟩ [(d, .ptr id (off + p.toNat * k))] [] :=
  ok_val hd fun a w γ hI => by
    simp only [Bool.and_eq_true, decide_eq_true_eq] at hp
    obtain ⟨v0, g, h1, h2, h3⟩ := ownP_addr hI ho hx
    obtain ⟨g1, _⟩ := hi.val hI
    refine ⟨.pointer (some ⟨g, off + p.toNat * k, none⟩), ?_, v0, g, h1, h2, rfl⟩
    simp only [execOp, h3, g1]
    simp [Instr.indexAt, asIntOf, underlying, hT, hp.1, hp.2, run_sizeOf' hE, add0, Instr.sureAddr]
/-- The address of an element of an array that is read. -/
theorem ixAR {kk : IntKind} {d x i T ty pos af n E k b z} {p : Int} {α : Type} {f : α → Ly} {xs : List α} {y : α} (hT : X.P.underlying T = some (.array n E)) (hE : TyI X.P E k b z) (hn : Nat.beq xs.length n = true) (hg : getI xs p = some y) (hz : ∀ x, (f x).sz = k)
    (hd : Nat.blt d X.N = true) (hx : OpdF st x (.ref (.agg (xs.map f)))) (hi : OpdF st i (.cell (cpI kk p))) :
    OpOk X st mm ⟨some d, .indexAddr T x i, ty, pos, af, none⟩ [(d, .ref (f y))] [] :=
  ok_val hd fun a w γ hI => by
    obtain ⟨h0, hg⟩ := getI_some hg
    obtain ⟨g1, _⟩ := hi.val hI
    have hlt : p.toNat < xs.length := by
      rcases Nat.lt_or_ge p.toNat xs.length with h | h
      · exact h
      · simp [List.getElem?_eq_none h] at hg
    have hxn : xs.length = n := Nat.eq_of_beq_eq_true hn
    obtain ⟨bb, o, us, h1, h2, h3, h4, h5⟩ := hx.val hI
    simp at h1
    obtain ⟨a1, u, b1, rfl, e1, e2, _⟩ := go_hold [p.toNat] (goA hz hg) h5
    have hpl : p < (n : Int) := by omega
    refine ⟨.pointer (some ⟨bb, o + p.toNat * k, none⟩), ?_, bb, o + p.toNat * k, u, rfl, h2, h3, fun i v hj => ?_, e2⟩
    · simp only [execOp, h1, g1]
      simp [Instr.indexAt, asIntOf, underlying, hT, h0, hpl, run_sizeOf' hE, add0, Instr.sureAddr]
    · have := h4 (a1.length + i) v (by
        rw [List.append_assoc, List.getElem?_append_right (by omega), Nat.add_sub_cancel_left]
        rw [List.getElem?_append_left (by
          rcases Nat.lt_or_ge i u.length with h | h
          · exact h
          · simp [List.getElem?_eq_none h] at hj)]
        exact hj)
      rw [e1] at this
      rw [Nat.add_assoc]; exact this

/-- A build of an array. -/
def APart (st : Nat → Option Ly) (k : Nat) : List (Nat × Operand) → Ly → Ly → Prop
  | [], z, r => z = r
  | (i, x) :: ps, z, r => ∃ ly lz off, OpdF st x ly ∧ ly.lies = true ∧ Ly.go [i] z = some (lz, off) ∧ off = i * k ∧ lz.sz = k ∧ ly.sz = k ∧ APart st k ps (Ly.pu ly [i] z) r
theorem apart_b {st k} : ∀ {ps : List (Nat × Operand)} {z r : Ly} (pl : List (Nat × Nat)), (∀ i x, (i, x) ∈ ps → pl[i]? = some (i * k, k)) → APart st k ps z r → BPart st pl ps z r
  | [], z, r, pl, _, h => h
  | (i, x) :: ps, z, r, pl, hp, h => by
    obtain ⟨ly, lz, off, h1, h2, h3, h4, h5, h6, h7⟩ := h
    subst h4
    exact ⟨ly, lz, _, h1, h2, h3, by rw [h5]; exact hp i x List.mem_cons_self, by rw [h5]; exact h6, apart_b pl (fun j y hj => hp j y (List.mem_cons_of_mem _ hj)) h7⟩
theorem fill_congr {g g' : Nat → Option (Nat × Nat)} : ∀ (ps : List (Nat × Value)) (cells : Array Value), (∀ i x, (i, x) ∈ ps → g i = g' i) → Instr.fill g cells ps = Instr.fill g' cells ps
  | [], _, _ => rfl
  | (i, x) :: ps, cells, h => by
    simp only [Instr.fill, h i x List.mem_cons_self]
    split
    · rfl
    · split
      · rfl
      · exact fill_congr ps _ (fun j y hj => h j y (List.mem_cons_of_mem _ hj))
theorem bldA {d T n E parts ty pos af kT bT zT k b z lz l} (hT : X.P.underlying T = some (.array n E)) (hTz : TyI X.P T kT bT zT) (hE : TyI X.P E k b z) (hz : Zr lz zT.cells.toList) (hle : (parts.all fun p => Nat.blt p.1 n) = true) (hp : APart st k parts lz (.agg l)) (hd : Nat.blt d X.N = true) :
    OpOk X st mm ⟨some d, .build T ⟨parts⟩, ty, pos, af, none⟩ [(d, .agg l)] [] :=
  ok_val hd fun a w γ hI => by
    have hpl : ∀ i x, (i, x) ∈ parts → ((List.range n).map (fun i => (i * k, k)))[i]? = some (i * k, k) := by
      intro i x hix
      have := List.all_eq_true.1 hle _ hix
      simp at this
      simp [this]
    obtain ⟨cells', g1, g2⟩ := fill_struct hI parts lz (.agg l) zT.cells (apart_b _ hpl hp) (hz _ _ _)
    refine ⟨.agg cells', ?_, ⟨_, rfl, by simpa [Ly.hold] using g2⟩⟩
    have hfill : Instr.fill (fun i => some (i * k, k)) zT.cells (parts.map fun (i, x) => (i, a.eval x)) = some cells' := by
      rw [← g1]
      refine fill_congr _ _ fun i x hix => ?_
      obtain ⟨⟨j, y⟩, hjy, he⟩ := List.mem_map.1 hix
      simp at he
      rw [← he.1]; exact (hpl j y hjy).symm
    simp only [execOp, Instr.build]
    simp only [Sem.run_bind, run_zeroValue hTz, Result.andThen_ok, underlying, run_program, hT, Sem.run_pure, run_sizeOf' hE]
    simp only [List.map_toArray, hfill]
    rfl
end ops
end Go.Proofs.YtiobbiamnjapgaaDoor
