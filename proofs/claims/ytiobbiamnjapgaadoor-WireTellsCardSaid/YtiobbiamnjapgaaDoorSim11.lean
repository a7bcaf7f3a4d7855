import Derived.Test.YtiobbiamnjapgaaDoorSim10
import Derived.Deep.AppendSrc
namespace Go.Proofs.YtiobbiamnjapgaaDoor
open Go Go.RowKit

section ops
variable {X : Cx} {st : Nat → Option Ly} {mm : Nat → Option Ct}

theorem ext {d x i ty pos af l ly} (hl : l[i]? = some ly) (hd : Nat.blt d X.N = true) (hx : OpdF st x (.tup l)) : OpOk X st mm ⟨some d, .extract x i, ty, pos, af, none⟩ [(d, ly)] [] :=
  ok_val hd fun a w γ hi => by
    obtain ⟨vs, h1, h2⟩ := hx.val hi
    have key : ∀ {l : List Ly} {vs : List Value} {i : Nat} {ly}, Ly.vals w (X.S γ mm) γ l vs → l[i]? = some ly → ∃ v, vs[i]? = some v ∧ ly.val w (X.S γ mm) γ v := by
      intro l
      induction l with
      | nil => intro vs i ly _ h; simp at h
      | cons x l ih =>
        intro vs i ly hv h
        simp only [Ly.vals] at hv
        obtain ⟨v, r, rfl, k1, k2⟩ := hv
        cases i with
        | zero => simp at h; subst h; exact ⟨v, by simp, k1⟩
        | succ i =>
          obtain ⟨u, g1, g2⟩ := ih (vs := r) (i := i) (ly := ly) k2 (by simpa using h)
          exact ⟨u, by simpa using g1, g2⟩
    obtain ⟨v, g1, g2⟩ := key h2 hl
    exact ⟨v, by simp only [execOp, h1]; simp only [Array.getElem?_toList] at g1; simp [Instr.extract, g1], g2⟩

/-- A pointer that is known not to be nil. -/
def NotNil (mm : Nat → Option Ct) : Ly → Prop
  | .ptr _ _ => True
  | .ref _ => True
  | .own id => ∃ E ly, mm id = some (.bx E ly)
  | _ => False
theorem nck {d x ty pos af ly} (hn : NotNil mm ly) (hd : Nat.blt d X.N = true) (hx : OpdF st x ly) : OpOk X st mm ⟨some d, .nilCheck x, ty, pos, af, none⟩ [(d, ly)] [] :=
  ok_val hd fun a w γ hi => by
    have hv := hx.val hi
    have : ∃ ad, a.eval x = .pointer (some ad) := by
      cases ly with
      | ptr id off => obtain ⟨_, g, _, _, h⟩ := hv; exact ⟨_, h⟩
      | ref l => obtain ⟨b, o, us, h, _⟩ := hv; simp at h; exact ⟨_, h⟩
      | own id =>
        obtain ⟨E, ly, hm⟩ := hn
        obtain ⟨g, cur, h1, _⟩ := bxI hi hm
        obtain ⟨h2, _⟩ := hv
        rw [h1] at h2; simp at h2; exact ⟨_, h2.symm⟩
      | _ => exact hn.elim
    obtain ⟨ad, h⟩ := this
    exact ⟨_, by simp only [execOp, h]; rfl, h ▸ hv⟩

/-- A field of a struct that is a value. -/
theorem fld {d x T j ty pos af l lz fo ag k} (hF : ∃ fs F, X.P.underlying T = some (.struct fs) ∧ fs[j]? = some F ∧ F.offset = fo ∧ Shp X.P F.type ag k) (hg : Ly.go [j] (.agg l) = some (lz, fo)) (hn : lz.isN = ag) (hz : lz.sz = k)
    (hd : Nat.blt d X.N = true) (hx : OpdF st x (.agg l)) : OpOk X st mm ⟨some d, .field T x j, ty, pos, af, none⟩ [(d, lz)] [] :=
  ok_val hd fun a w γ hi => by
    obtain ⟨fs, F, h1, h2, h3, h4⟩ := hF
    obtain ⟨cs, hv, hh⟩ := hx.val hi
    obtain ⟨a1, u, b1, hc, hl, hu, _⟩ := go_hold [j] hg (by simpa [Ly.hold] using hh)
    have hul := Ly.hold_sz _ _ hu
    subst h3
    cases ag with
    | true =>
      refine ⟨.agg u.toArray, ?_, ?_⟩
      · simp only [execOp, hv]
        have : cs.extract F.offset (F.offset + k) = u.toArray := by
          apply Array.ext'
          rw [Array.toList_extract, hc]
          simp only [List.extract_eq_take_drop]
          rw [← hl, List.append_assoc, List.drop_left, ← hz, ← hul, show a1.length + u.length - a1.length = u.length by omega, List.take_left]
        simp [Instr.field, underlying, h1, h2, part, asAgg, run_isAgg h4, run_sizeOf h4, this]
      · cases lz <;> simp [Ly.isN] at hn
        simp only [Ly.val, Ly.hold] at hu ⊢
        exact ⟨_, rfl, hu⟩
    | false =>
      have h1' : u.length = 1 := by cases lz <;> simp [Ly.isN] at hn <;> simpa [Ly.sz] using hul
      obtain ⟨v, rfl⟩ : ∃ v, u = [v] := by
        match u, h1' with
        | [v], _ => exact ⟨v, rfl⟩
      refine ⟨v, ?_, Ly.val_of_hold1 hn hu⟩
      have : cs[F.offset]? = some v := by rw [← Array.getElem?_toList, hc, ← hl]; simp
      simp only [execOp, hv]
      simp [Instr.field, underlying, h1, h2, part, asAgg, run_isAgg h4, this]

/-! ### Making slices -/
theorem madeCells_eq {z : Array Value} {n k : Nat} (hz : z.size = k) (_ : 0 < k) : (madeCells z (n * k)).toList = (List.replicate n z.toList).flatten := by
  induction n with
  | zero => simp [madeCells]
  | succ n ih =>
    have : (madeCells z ((n + 1) * k)).toList = (madeCells z (n * k)).toList ++ z.toList := by
      unfold madeCells
      simp only [Array.toList_map, Array.toList_range]
      rw [show (n + 1) * k = n * k + k by rw [Nat.succ_mul], List.range_add, List.map_append, List.map_map]
      congr 1
      apply List.ext_getElem
      · simp [hz]
      · intro i h1 h2
        simp only [List.length_map, List.length_range] at h1
        simp only [List.getElem_map, List.getElem_range, Function.comp_def, hz]
        have e : (n * k + i) % k = i := by rw [Nat.mul_comm, Nat.mul_add_mod]; exact Nat.mod_eq_of_lt h1
        rw [e]
        simp [getElem!_pos z i (by omega)]
    rw [this, ih, List.replicate_succ', List.flatten_append]; simp

theorem mks {d x1 x2 T ty pos af y E k b z n} {α : Type} {f : α → Ly} {zx : α} {xs : List α} (hm : mkM b zx n = some xs) (hT : X.P.underlying T = some (.slice E)) (hE : TyI X.P E k b z) (hz : Zr (f zx) z.cells.toList) (hk : (f zx).sz = k) (hk0 : Nat.blt 0 k = true) (hy : mm y = none)
    (hd : Nat.blt d X.N = true) (hx1 : OpdF st x1 (i64 n)) (hx2 : OpdF st x2 (i64 n)) :
    OpOk X st mm ⟨some d, .makeSlice T x1 x2, ty, pos, af, none⟩ [(d, .own y)] [(y, .sl E k (xs.map f))] := by
  have hk0' : 0 < k := by simpa using hk0
  unfold mkM at hm
  split at hm
  · rename_i hn
    obtain ⟨hn0, hnb, hn63⟩ := hn
    cases hm
    obtain ⟨i, hi, hz0, hsz, hby⟩ := hE
    have hzl : z.cells.size = k := by
      have := Ly.hold_sz _ _ (hz default (fun _ => False) (fun _ => none))
      rw [hk] at this; simpa using this
    refine new_ok hd hy rfl fun a w γ hI => ?_
    obtain ⟨h1, _⟩ := hx1.val hI
    obtain ⟨h2, _⟩ := hx2.val hI
    have hr := run_make (P := X.P) w T E i z hT hi hz0 .i64 .i64 n n hn0 (Int.le_refl _) (by rw [hby, Int.mul_comm]; omega) hn63
    refine ⟨.slice (some ⟨w.heap.size, 0, none⟩) n.toNat n.toNat, w.alloc (.cells (madeCells z.cells (n.toNat * i.size)) E), by simp only [execOp, h1, h2]; simp [hr], rfl, rfl, rfl, Kp_alloc _ _ _, rfl, fun S γ' hS hg hy' => ?_, fun bb hb => by simp [blkOf] at hb; subst hb; simp⟩
    have hcells : (madeCells z.cells (n.toNat * i.size)).toList = (List.replicate n.toNat z.cells.toList).flatten := by rw [hsz]; exact madeCells_eq hzl hk0'
    have hmap : (List.replicate n.toNat zx).map f = List.replicate n.toNat (f zx) := by simp
    refine ⟨_, (List.replicate n.toNat z.cells.toList).flatten, hy', ⟨?_, .inr ⟨w.heap.size, n.toNat, _, by simp, Nat.zero_le _, heap_new _ _, by simp, by unfold maxLen; omega, by rw [size_madeCells, hsz], ?_⟩⟩, ?_, ?_⟩
    · simp [hzl]
    · rw [hcells, List.take_of_length_le]; simp [hzl]
    · rw [hmap]; exact zrs_replicate hz _ _ _ _
    · intro ly hly; rw [hmap] at hly; rw [List.eq_of_mem_replicate hly]; exact hk
  · cases hm

/-- Parts of a slice's literal, each in its place. -/
def Parts (st : Nat → Option Ly) (k : Nat) : Nat → List (Nat × Operand) → List Ly → Prop
  | _, [], [] => True
  | j, (i, x) :: ps, ly :: ls => i = j ∧ OpdF st x ly ∧ ly.sz = k ∧ ly.lies = true ∧ Parts st k (j + 1) ps ls
  | _, _, _ => False

theorem foldl_set (vs : List Value) : ∀ (cells : Array Value) (off n : Nat), off + n + vs.length ≤ cells.size →
    ((vs.zipIdx n).foldl (fun cs (c, j) => cs.setIfInBounds (off + j) c) cells).toList = cells.toList.take (off + n) ++ vs ++ cells.toList.drop (off + n + vs.length) := by
  induction vs with
  | nil => intro cells off n _; simp
  | cons v vs ih =>
    intro cells off n h
    simp only [List.length_cons] at h
    rw [List.zipIdx_cons, List.foldl_cons, ih _ off (n + 1) (by simp; omega)]
    simp only [Array.toList_setIfInBounds, List.length_cons]
    rw [show off + (n + 1) = off + n + 1 by omega, List.take_succ_eq_append_getElem (by simp; omega)]
    simp only [List.getElem_set_self, List.append_assoc, List.cons_append, List.nil_append]
    rw [List.take_set_of_le (by omega)]
    congr 2
    rw [List.drop_set_of_lt (by omega)]
    congr 2; omega

theorem fill_parts {a w γ k} (hi : Inv X st mm a w γ) : ∀ (ps : List (Nat × Operand)) (ls : List Ly) (j : Nat) (cells : Array Value) , Parts st k j ps ls → (j + ps.length) * k ≤ cells.size →
    ∃ cells' cs, Instr.fill (fun i => some (i * k, k)) cells (ps.map fun (i, x) => (i, a.eval x)) = some cells' ∧ cells'.size = cells.size ∧ Ly.holds w (X.S γ mm) γ ls cs ∧ cs.length = ps.length * k ∧ cells'.toList = cells.toList.take (j * k) ++ cs ++ cells.toList.drop ((j + ps.length) * k)
  | [], [], j, cells, _, _ => ⟨cells, [], by simp [Instr.fill], rfl, rfl, by simp, by simp⟩
  | (i, x) :: ps, ly :: ls, j, cells, h, hsz => by
    obtain ⟨rfl, hx, hz, hl, h⟩ := h
    have hv := Ly.hold_of_val hl (hx.val hi)
    have hvl : (a.eval x).cells.size = k := by have := Ly.hold_sz _ _ hv; rw [hz] at this; simpa using this
    simp only [List.length_cons] at hsz
    have h1 : i * k + k ≤ cells.size := by
      have : (i + (ps.length + 1)) * k = i * k + (ps.length * k + k) := by rw [Nat.add_mul, Nat.succ_mul]
      omega
    have hfold := foldl_set (a.eval x).cells.toList cells (i * k) 0 (by simp [hvl]; omega)
    simp only [Nat.add_zero, Array.length_toList, hvl] at hfold
    let cells1 := ((a.eval x).cells.toList.zipIdx 0).foldl (fun cs (c, j) => cs.setIfInBounds (i * k + j) c) cells
    have hc1 : cells1.toList = cells.toList.take (i * k) ++ (a.eval x).cells.toList ++ cells.toList.drop (i * k + k) := hfold
    have hsz1 : cells1.size = cells.size := by
      have := congrArg List.length hc1
      simp only [Array.length_toList, List.length_append, List.length_take, List.length_drop] at this
      omega
    obtain ⟨cells', cs, g1, g2, g3, g4, g5⟩ := fill_parts hi ps ls (i + 1) cells1 h (by rw [hsz1, show i + 1 + ps.length = i + (ps.length + 1) by omega]; exact hsz)
    refine ⟨cells', (a.eval x).cells.toList ++ cs, ?_, by rw [g2, hsz1], ⟨_, _, rfl, hv, g3⟩, by simp [hvl, g4, Nat.succ_mul]; omega, ?_⟩
    · simp only [List.map_cons, Instr.fill]
      rw [if_neg (by simp [hvl]; omega)]
      rw [show (a.eval x).cells.zipIdx.foldl (fun cs (c, j) => cs.setIfInBounds (i * k + j) c) cells = cells1 by
        rw [← Array.foldl_toList, Array.toList_zipIdx]]
      exact g1
    · rw [g5, hc1]
      have e1 : (i + 1) * k = i * k + k := by rw [Nat.succ_mul]
      have e2 : (i + 1 + ps.length) * k = i * k + k + ps.length * k := by rw [Nat.add_mul, e1]
      have e3 : (i + (ps.length + 1)) * k = i * k + k + ps.length * k := by rw [← e2]; congr 1; omega
      have l1 : (cells.toList.take (i * k) ++ (a.eval x).cells.toList).length = i * k + k := by simp [hvl]; omega
      rw [e1, e2, List.length_cons, e3, List.take_left' l1]
      have e4 : (cells.toList.take (i * k) ++ (a.eval x).cells.toList ++ cells.toList.drop (i * k + k)).drop (i * k + k + ps.length * k) = cells.toList.drop (i * k + k + ps.length * k) := by
        rw [List.drop_append, l1, show i * k + k + ps.length * k - (i * k + k) = ps.length * k by omega, List.drop_of_length_le (by rw [l1]; omega), List.drop_drop, List.nil_append]
      rw [e4]; simp
  | [], _ :: _, _, _, h, _ => h.elim
  | (_, _) :: _, [], _, _, h, _ => h.elim

end ops
end Go.Proofs.YtiobbiamnjapgaaDoor
