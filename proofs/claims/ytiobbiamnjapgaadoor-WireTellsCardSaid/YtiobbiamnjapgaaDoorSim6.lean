import Derived.Test.YtiobbiamnjapgaaDoorSim5
namespace Go.Proofs.YtiobbiamnjapgaaDoor
open Go Go.RowKit

/-! ### Types -/
def TyI (P : Program) (E k b : Nat) (z : Value) : Prop := ∃ i, P.info? E = some i ∧ i.zero = some z ∧ i.size = k ∧ i.bytes = b
theorem tyI {P : Program} {E k b : Nat} {z : Value} (h : (P.info? E).map (fun i => (i.zero, i.size, i.bytes)) = some (some z, k, b)) : TyI P E k b z := by
  cases hi : P.info? E with
  | none => rw [hi] at h; cases h
  | some i => rw [hi] at h; simp at h; exact ⟨i, hi, h.1, h.2.1, h.2.2⟩
def agB : TypeDesc → Bool
  | .struct _ => true
  | .array _ _ => true
  | _ => false
def Shp (P : Program) (T : Nat) (ag : Bool) (k : Nat) : Prop := ∃ d, P.underlying T = some d ∧ agB d = ag ∧ ∃ i, P.info? T = some i ∧ i.size = k
theorem shp {P : Program} {T : Nat} {ag : Bool} {k b : Nat} {d : TypeDesc} {z : Value} (hd : P.underlying T = some d) (ha : agB d = ag) (hi : TyI P T k b z) : Shp P T ag k := by
  obtain ⟨i, h1, h2, h3, h4⟩ := hi
  exact ⟨d, hd, ha, i, h1, h3⟩

theorem run_isAgg {P T ag k} (h : Shp P T ag k) (w : World) : (isAgg T).run P w = .ok ag w := by
  obtain ⟨d, h1, h2, _⟩ := h
  subst h2
  cases d <;> simp [isAgg, underlying, h1, agB]
theorem run_sizeOf {P T ag k} (h : Shp P T ag k) (w : World) : (sizeOf T).run P w = .ok k w := by
  obtain ⟨d, h1, h2, i, h3, h4⟩ := h
  subst h4
  simp [sizeOf, typeInfo, h3]
theorem run_sizeOf' {P T k b z} (h : TyI P T k b z) (w : World) : (sizeOf T).run P w = .ok k w := by
  obtain ⟨i, h3, h4, h5, h6⟩ := h
  subst h5
  simp [sizeOf, typeInfo, h3]
theorem run_zeroValue {P T k b z} (h : TyI P T k b z) (w : World) : (zeroValue T).run P w = .ok z w := by
  obtain ⟨i, h3, h4, _⟩ := h
  simp [zeroValue, typeInfo, h3, h4]

/-! ### Cells -/
theorem add0 (b o n : Nat) : Addr.add ⟨b, o, none⟩ n = ⟨b, o + n, none⟩ := by
  unfold Addr.add; split <;> simp_all

theorem run_loadCellsFrom {P : Program} {b o : Nat} {w : World} : ∀ (us : List Value) (i : Nat) (acc : Array Value), (∀ j u, us[j]? = some u → w.cell? ⟨b, o + i + j, none⟩ = some u) →
    (loadCellsFrom ⟨b, o, none⟩ i us.length acc).run P w = .ok (acc ++ us.toArray) w
  | [], i, acc, _ => by simp [loadCellsFrom]
  | u :: us, i, acc, h => by
    have h0 := h 0 u rfl
    simp only [Nat.add_zero] at h0
    have ih := run_loadCellsFrom (P := P) us (i + 1) (acc.push u) (fun j v hj => by have := h (j + 1) v hj; rw [show o + (i + 1) + j = o + i + (j + 1) by omega]; exact this)
    simp only [List.length_cons, loadCellsFrom, Sem.run_bind, run_load, add0, h0, Result.andThen_ok, ih]
    simp

theorem run_loadVar {P : Program} {T : Nat} {ag : Bool} {k b o : Nat} {w : World} {S γ} {ly : Ly} {us : List Value} (h : Shp P T ag k) (hn : ly.isN = ag) (hz : ly.sz = k)
    (hc : ∀ j u, us[j]? = some u → w.cell? ⟨b, o + j, none⟩ = some u) (hh : ly.hold w S γ us) : ∃ v, (loadVar T ⟨b, o, none⟩).run P w = .ok v w ∧ ly.val w S γ v := by
  have hl := Ly.hold_sz ly us hh
  unfold loadVar
  cases ag with
  | true =>
    refine ⟨.agg us.toArray, ?_, ?_⟩
    · have := run_loadCellsFrom (P := P) us 0 #[] (fun j u hj => by simpa using hc j u hj)
      rw [hl, hz] at this
      simp [run_isAgg h, run_sizeOf h, loadCells, this]
    · cases ly <;> simp [Ly.isN] at hn
      simp only [Ly.val, Ly.hold] at hh ⊢
      exact ⟨_, rfl, hh⟩
  | false =>
    have h1 : us.length = 1 := by cases ly <;> simp [Ly.isN] at hn <;> simpa [Ly.sz] using hl
    obtain ⟨u, rfl⟩ : ∃ u, us = [u] := by
      match us, h1 with
      | [u], _ => exact ⟨u, rfl⟩
    refine ⟨u, ?_, Ly.val_of_hold1 hn hh⟩
    have := hc 0 u rfl
    simp [run_isAgg h, show w.cell? ⟨b, o, none⟩ = some u by simpa using this]

/-- A list with some of it written over. -/
def splice (l : List Value) (p : Nat) (vs : List Value) : List Value := l.take p ++ vs ++ l.drop (p + vs.length)

theorem cell_of_heap {w : World} {b : Nat} {cur : Array Value} {E : Nat} {fz : Nat × Nat} (h : w.heap[b]? = some (.cells cur E fz)) (o : Nat) : w.cell? ⟨b, o, none⟩ = cur[o]? := by
  simp [World.cell?, h]

theorem run_storeCells {P : Program} {b o E : Nat} : ∀ (vs : List Value) (i : Nat) (w : World) (cur : Array Value), w.heap[b]? = some (.cells cur E (0, 0)) → o + i + vs.length ≤ cur.size → (∀ u ∈ vs, u.oneCell' = true) →
    ∃ w' cur', (storeCells ⟨b, o, none⟩ vs i).run P w = .ok () w' ∧ w'.heap[b]? = some (.cells cur' E (0, 0)) ∧ cur'.toList = splice cur.toList (o + i) vs ∧ Kp (fun x => x = b) w w' ∧ w'.os = w.os ∧ w'.tape = w.tape ∧ w'.output = w.output
  | [], i, w, cur, h, _, _ => ⟨w, cur, by simp [storeCells], h, by simp [splice], Kp.refl _ _, rfl, rfl, rfl⟩
  | v :: vs, i, w, cur, h, hl, ho => by
    simp only [List.length_cons] at hl
    have hb : b < w.heap.size := by
      rcases Nat.lt_or_ge b w.heap.size with h' | h'
      · exact h'
      · simp [Array.getElem?_eq_none h'] at h
    have hlt : o + i < cur.size := by omega
    have hcell : w.cell? ⟨b, o + i, none⟩ = some cur[o + i] := by rw [cell_of_heap h, Array.getElem?_eq_getElem hlt]
    have hfz : w.frozen? ⟨b, o + i, none⟩ = false := by simp [World.frozen?, h]
    have hv : v.oneCell' = true := ho v List.mem_cons_self
    have hh : (w.setCell ⟨b, o + i, none⟩ v).heap[b]? = some (.cells (cur.setIfInBounds (o + i) v) E (0, 0)) := by
      simp only [World.setCell, Array.getElem?_modify, if_pos, h]; simp
    obtain ⟨w', cur', h1, h2, h3, h4, h5, h6, h7⟩ := run_storeCells (P := P) (b := b) (o := o) (E := E) vs (i + 1) (w.setCell ⟨b, o + i, none⟩ v) (cur.setIfInBounds (o + i) v) hh (by simp; omega) (fun u hu => ho u (List.mem_cons_of_mem _ hu))
    refine ⟨w', cur', ?_, h2, ?_, ?_, h5, h6, h7⟩
    · simp only [storeCells, Sem.run_bind, add0]
      rw [run_store P w _ v _ hv, hcell]
      simp [hfz, h1]
    · rw [h3]
      simp only [splice, Array.toList_setIfInBounds, List.length_cons]
      rw [show o + (i + 1) = o + i + 1 by omega, List.take_succ_eq_append_getElem (by simpa using hlt)]
      simp only [List.getElem_set_self, List.append_assoc, List.cons_append, List.nil_append]
      rw [List.take_set_of_le (by omega)]
      congr 2
      rw [List.drop_set_of_lt (by omega)]
      congr 2; omega
    · refine Kp.trans (S' := fun x => x = b) ⟨by simp [World.setCell], fun x hx hn => ?_⟩ h4 (fun x hx => .inl hx)
      exact Below.heap_setCell _ _ _ _ (by simpa using hn)

end Go.Proofs.YtiobbiamnjapgaaDoor
