import Derived.Test.YtiobbiamnjapgaaDoorSim13
namespace Go.Proofs.YtiobbiamnjapgaaDoor
open Go Go.RowKit

section ops
variable {X : Cx} {st : Nat → Option Ly} {mm : Nat → Option Ct}

/-- copy: into an owned slice. -/
theorem cpy {d t s T T2 ty pos af id E k b z lx} {α : Type} {f : α → Ly} {xs ys : List α} (hm : mm id = some (.sl E k (xs.map f))) (hT : X.P.underlying T = some (.slice E)) (hE : TyI X.P E k b z)
    (ht : OpdF st t (.own id)) (hs : OpdF st s lx) (hF : SlF mm lx k (ys.map f)) (hd : Nat.blt d X.N = true) :
    OpOk X st mm ⟨some d, .call { callee := .builtin .copy, args := #[t, s], argTypes := #[T, T2] }, ty, pos, af, none⟩ [(d, i64 (min ys.length xs.length : Nat))] [(id, .sl E k ((cpyL xs ys).map f))] := by
  intro a w γ K Q hI hK
  have hsz := run_sizeOf' (P := X.P) hE
  obtain ⟨v, cs, e1, e2, e3, e4⟩ := slI hI hm
  obtain ⟨hv, hv1⟩ := ht.val hI
  have hvs : a.eval t = v := by rw [hv] at e1; simpa using e1
  rw [List.length_map] at e2
  have len64 : ∀ n : Nat, n ≤ maxLen → IntKind.i64.min ≤ (n : Int) ∧ (n : Int) ≤ IntKind.i64.max := fun n h => len_b h
  -- nothing is copied
  have none_ : (min ys.length xs.length = 0) → (Builtin.copy_ #[T, T2] ty #[v, a.eval s]).run X.P w = .ok (.int .i64 (0 : Nat)) w → Oper.wp X.P ⟨some d, .call { callee := .builtin .copy, args := #[t, s], argTypes := #[T, T2] }, ty, pos, af, none⟩ a w K Q := by
    intro h0 hr
    have hrun : (execOp a.eval ⟨some d, .call { callee := .builtin .copy, args := #[t, s], argTypes := #[T, T2] }, ty, pos, af, none⟩).run X.P w = .ok (.value (.int .i64 (0 : Nat))) w := by
      simp only [execOp, resolve]
      simp [invoke, builtin, hvs, hr]
    unfold Oper.wp
    rw [hrun]
    have hxs : cpyL xs ys = xs := by
      unfold cpyL
      rcases Nat.min_eq_zero_iff.1 h0 with h | h
      · have : ys = [] := List.eq_nil_of_length_eq_zero h
        subst this; simp
      · have : xs = [] := List.eq_nil_of_length_eq_zero h
        subst this; simp
    have hinv : Inv X st (up mm [(id, .sl E k ((cpyL xs ys).map f))]) a w γ := by
      rw [hxs]
      have : up mm [(id, .sl E k (xs.map f))] = mm := by
        funext i; rw [up_one]; split
        · rename_i h; subst h; exact hm.symm
        · rfl
      rw [this]; exact hI
    exact hK _ _ _ (hinv.put (d := d) (v := .int .i64 (0 : Nat)) (by simpa using hd) (by rw [h0]; exact ⟨rfl, len64 0 (Nat.zero_le _)⟩))
  rcases slF_read hI hF hs with ⟨h1, h2⟩ | ⟨bb, o, cap, news, h1, h2, h3, h4, h5, h6, h7⟩ | ⟨h2, ad, h1⟩
  rotate_left 2
  · have : ys = [] := by simpa using h2
    subst this
    refine none_ (by simp) ?_
    rw [h1]
    rcases e2.2 with ⟨rfl, _⟩ | ⟨g, cap, cur, rfl, _⟩ <;> simp [Builtin.copy_, underlying, hT, Builtin.lenOf, Builtin.firstCells, hsz, goInt, storeCells, loadCells, loadCellsFrom]
  · have : ys = [] := by simpa using h2
    subst this
    refine none_ (by simp) ?_
    rw [h1]
    rcases e2.2 with ⟨rfl, _⟩ | ⟨g, cap, cur, rfl, _⟩ <;> simp [Builtin.copy_, underlying, hT, Builtin.lenOf, Builtin.firstCells, hsz, goInt, storeCells]
  · rw [List.length_map] at h1 h2
    rcases e2 with ⟨hcl, ⟨rfl, hn⟩ | ⟨g, cap0, cur, rfl, _, g2, g3, g4, g5, g6⟩⟩
    · refine none_ (by omega) ?_
      rw [h1]
      simp [Builtin.copy_, underlying, hT, Builtin.lenOf, Builtin.firstCells, hsz, goInt, loadCells, loadCellsFrom]
    · let n := Nat.min ys.length xs.length
      have hnl : news.length = ys.length * k := by
        have := Ly.holds_sz _ _ h6
        rw [szs_all h7] at this; simpa using this
      have hnA : ys.length ≤ xs.length → n = ys.length := fun h => Nat.min_eq_left h
      have hnB : xs.length ≤ ys.length → n = xs.length := fun h => Nat.min_eq_right h
      have hn1 : n ≤ ys.length := Nat.min_le_left _ _
      have hn2 : n ≤ xs.length := Nat.min_le_right _ _
      have hnk1 : n * k ≤ news.length := by rw [hnl]; exact Nat.mul_le_mul_right _ hn1
      have hnk2 : n * k ≤ cs.length := by rw [hcl]; exact Nat.mul_le_mul_right _ hn2
      have hcur : cs.length ≤ cur.size := by rw [hcl, g5]; exact Nat.mul_le_mul_right _ g3
      have hload : (loadCells ⟨bb, o, none⟩ (n * k)).run X.P w = .ok (news.take (n * k)).toArray w := by
        have := run_loadCellsFrom (P := X.P) (b := bb) (o := o) (w := w) (news.take (n * k)) 0 #[] (fun j u hj => by
          rw [List.getElem?_take] at hj
          split at hj
          · simpa using h5 j u hj
          · cases hj)
        rw [List.length_take, Nat.min_eq_left hnk1] at this
        simpa [loadCells] using this
      obtain ⟨w', cur', r1, r2, r3, r4, r5, r6, r7⟩ := run_storeCells (P := X.P) (b := g) (o := 0) (E := E) (news.take (n * k)) 0 w cur g2 (by simp; omega) (fun u hu => Ly.oneCell_of_holds _ _ h6 u (List.mem_of_mem_take hu))
      have hrun : (execOp a.eval ⟨some d, .call { callee := .builtin .copy, args := #[t, s], argTypes := #[T, T2] }, ty, pos, af, none⟩).run X.P w = .ok (.value (.int .i64 (n : Nat))) w' := by
        simp only [execOp, resolve]
        simp [invoke, builtin, hvs, h1, Builtin.copy_, underlying, hT, Builtin.lenOf, Builtin.firstCells, hsz, goInt]
        rw [show (ys.length.min xs.length) = n from rfl, hload]
        simp [r1]
      unfold Oper.wp
      rw [hrun]
      have hkS : Kp (X.S γ mm) w w' := ⟨r4.1, fun b hb hn => r4.2 b hb (fun ee => hn (.inr ⟨id, _, _, hm, rfl, e1, by rw [ee]; rfl⟩))⟩
      obtain ⟨a1, _⟩ := holds_sub n h6 h7
      obtain ⟨_, a2⟩ := holds_sub n e3 e4
      have hcl2 : (cpyL xs ys).length = xs.length := by unfold cpyL; simp; omega
      have hcp : cpyL xs ys = ys.take n ++ xs.drop n := by
        unfold cpyL
        have e5 : ys.take xs.length = ys.take n := by
          rcases Nat.le_total ys.length xs.length with h | h
          · rw [List.take_of_length_le h, List.take_of_length_le (by rw [hnA h]; exact Nat.le_refl _)]
          · rw [hnB h]
        have e6 : xs.drop ys.length = xs.drop n := by
          rcases Nat.le_total ys.length xs.length with h | h
          · rw [hnA h]
          · rw [List.drop_of_length_le h, List.drop_of_length_le (by rw [hnB h]; exact Nat.le_refl _)]
        rw [e5, e6]
      have hhold : Ly.holds w (X.S γ mm) γ ((cpyL xs ys).map f) (news.take (n * k) ++ cs.drop (n * k)) := by
        rw [hcp, List.map_append, List.map_take, List.map_drop]
        exact holds_append a1 a2
      have htk : (news.take (n * k)).length = n * k := by simp; omega
      have hcs : cs = cur.toList.take (xs.length * k) := g6.symm
      have hcur' : cur'.toList.take (xs.length * k) = news.take (n * k) ++ cs.drop (n * k) := by
        rw [r3]
        simp only [splice, Nat.zero_add, List.take_zero, List.nil_append, htk]
        rw [List.take_append, htk, hcs, List.drop_take]
        congr 1
        exact List.take_of_length_le (by rw [htk, ← hcl]; exact hnk2)
      have hct : CtHold w' (X.S γ mm) γ id (.sl E k ((cpyL xs ys).map f)) := by
        refine ⟨_, news.take (n * k) ++ cs.drop (n * k), e1, ⟨?_, .inr ⟨g, cap0, cur', by simp [hcl2], Nat.zero_le _, r2, by simpa [hcl2] using g3, g4, ?_, ?_⟩⟩, Ly.holds_mono hkS (fun b hb => .inl hb) (Ng.refl _) _ _ hhold, ?_⟩
        · simp only [List.length_append, List.length_drop, htk, List.length_map, hcl2]; omega
        · have := congrArg List.length r3
          simp only [splice, Array.length_toList, List.length_append, List.length_take, List.length_drop] at this
          rw [← g5]; omega
        · rw [List.length_map, hcl2]; exact hcur'
        · intro ly hly
          rw [hcp, List.map_append, List.map_take, List.map_drop] at hly
          rcases List.mem_append.1 hly with h | h
          · exact h7 ly (List.mem_of_mem_take h)
          · exact e4 ly (List.mem_of_mem_drop h)
      have hinv := hI.setc r5 r6 r7 hm rfl e1 rfl r4 rfl hct
      exact hK _ _ γ (hinv.put (d := d) (v := .int .i64 (n : Nat)) (by simpa using hd) ⟨rfl, len64 n (by omega)⟩)

/-! ### A struct's literal -/
/-- A struct type's fields: places and sizes. -/
def Plc (P : Program) (T : Nat) (pl : List (Nat × Nat)) : Prop := ∃ fs, P.underlying T = some (.struct fs) ∧ (fs.toList.map fun f => (P.info? f.type).map fun i => (f.offset, i.size)) = pl.map some

def BPart (st : Nat → Option Ly) (pl : List (Nat × Nat)) : List (Nat × Operand) → Ly → Ly → Prop
  | [], z, r => z = r
  | (i, x) :: ps, z, r => ∃ ly lz off, OpdF st x ly ∧ ly.lies = true ∧ Ly.go [i] z = some (lz, off) ∧ pl[i]? = some (off, lz.sz) ∧ ly.sz = lz.sz ∧ BPart st pl ps (Ly.pu ly [i] z) r

theorem fill_struct {a w γ pl} (hi : Inv X st mm a w γ) : ∀ (ps : List (Nat × Operand)) (z r : Ly) (cells : Array Value), BPart st pl ps z r → Ly.hold w (X.S γ mm) γ z cells.toList →
    ∃ cells', Instr.fill (pl[·]?) cells (ps.map fun (i, x) => (i, a.eval x)) = some cells' ∧ Ly.hold w (X.S γ mm) γ r cells'.toList
  | [], z, r, cells, h, hh => by
    simp only [BPart] at h; subst h
    exact ⟨cells, by simp [Instr.fill], hh⟩
  | (i, x) :: ps, z, r, cells, h, hh => by
    obtain ⟨ly, lz, off, h1, h2, h3, h4, h5, h6⟩ := h
    have hv := Ly.hold_of_val h2 (h1.val hi)
    have hvl : (a.eval x).cells.size = lz.sz := by have := Ly.hold_sz _ _ hv; rw [h5] at this; simpa using this
    obtain ⟨a1, u, b1, hc, hl, hu, hp⟩ := go_hold [i] h3 hh
    have hul := Ly.hold_sz _ _ hu
    have hcs : cells.size = a1.length + u.length + b1.length := by
      have := congrArg List.length hc; simpa [Nat.add_assoc] using this
    have hfold := foldl_set (a.eval x).cells.toList cells off 0 (by simp [hvl]; omega)
    simp only [Nat.add_zero, Array.length_toList, hvl] at hfold
    let cells1 := ((a.eval x).cells.toList.zipIdx 0).foldl (fun cs (c, j) => cs.setIfInBounds (off + j) c) cells
    have hc1 : cells1.toList = a1 ++ (a.eval x).cells.toList ++ b1 := by
      rw [show cells1.toList = cells.toList.take off ++ (a.eval x).cells.toList ++ cells.toList.drop (off + lz.sz) from hfold, hc, ← hl, ← hul]
      simp
    obtain ⟨cells', g1, g2⟩ := fill_struct hi ps _ r cells1 h6 (by rw [hc1]; exact hp _ _ hv)
    refine ⟨cells', ?_, g2⟩
    simp only [List.map_cons, Instr.fill, h4]
    rw [if_neg (by simp [hvl]; omega)]
    rw [show (a.eval x).cells.zipIdx.foldl (fun cs (c, j) => cs.setIfInBounds (off + j) c) cells = cells1 by
      rw [← Array.foldl_toList, Array.toList_zipIdx]]
    exact g1

theorem run_places {P : Program} {w : World} : ∀ (fs : List Field) (pl : List (Nat × Nat)), (fs.map fun f => (P.info? f.type).map fun i => (f.offset, i.size)) = pl.map some →
    (fs.mapM (fun f => (do pure (f.offset, ← sizeOf f.type) : Sem (Nat × Nat)))).run P w = .ok pl w
  | [], [], _ => by simp
  | f :: fs, (o, s) :: pl, h => by
    simp only [List.map_cons, List.cons.injEq] at h
    obtain ⟨h1, h2⟩ := h
    cases hi : P.info? f.type with
    | none => rw [hi] at h1; cases h1
    | some i =>
      rw [hi] at h1; simp at h1
      obtain ⟨rfl, rfl⟩ := h1
      have hs : (sizeOf f.type).run P w = .ok i.size w := by simp [sizeOf, typeInfo, hi]
      simp only [List.mapM_cons, Sem.run_bind, hs, Result.andThen_ok, Sem.run_pure, run_places fs pl h2]
  | [], _ :: _, h => by simp at h
  | _ :: _, [], h => by simp at h

theorem bld {d T parts ty pos af pl k b z lz l} (hT : Plc X.P T pl) (hE : TyI X.P T k b z) (hz : Zr lz z.cells.toList) (hp : BPart st pl parts lz (.agg l)) (hd : Nat.blt d X.N = true) :
    OpOk X st mm ⟨some d, .build T ⟨parts⟩, ty, pos, af, none⟩ [(d, .agg l)] [] :=
  ok_val hd fun a w γ hI => by
    obtain ⟨fs, h1, h2⟩ := hT
    obtain ⟨cells', g1, g2⟩ := fill_struct hI parts lz (.agg l) z.cells hp (hz _ _ _)
    refine ⟨.agg cells', ?_, ⟨_, rfl, by simpa [Ly.hold] using g2⟩⟩
    have hpl : (fs.mapM (fun f => (do pure (f.offset, ← sizeOf f.type) : Sem (Nat × Nat)))).run X.P w = .ok pl.toArray w := by
      have e : fs.mapM (fun f => (do pure (f.offset, ← sizeOf f.type) : Sem (Nat × Nat))) = List.toArray <$> (fs.toList.mapM (fun f => (do pure (f.offset, ← sizeOf f.type) : Sem (Nat × Nat)))) := by
        conv => lhs; rw [← Array.toArray_toList (xs := fs)]
        rw [List.mapM_toArray]
      rw [e]; simp only [Sem.run_map, run_places _ _ h2, Result.andThen_ok]
    simp only [execOp, Instr.build]
    have hfill : Instr.fill (fun i => pl.toArray[i]?) z.cells (parts.map fun (i, x) => (i, a.eval x)) = some cells' := by simpa using g1
    simp only [Sem.run_bind, run_zeroValue hE, Result.andThen_ok, underlying, run_program, h1, Sem.run_pure, hpl]
    simp only [List.map_toArray, hfill]
    rfl

end ops
end Go.Proofs.YtiobbiamnjapgaaDoor
