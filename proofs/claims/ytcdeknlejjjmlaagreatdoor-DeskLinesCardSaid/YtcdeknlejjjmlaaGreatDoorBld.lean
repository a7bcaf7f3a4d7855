import Derived.Test.YtcdeknlejjjmlaaGreatDoorSB
import Derived.Test.YtcdeknlejjjmlaaGreatDoorChecked
import Derived.Orders
import Derived.RegionTactic
set_option maxRecDepth 100000
namespace Go.Proofs.YtcdeknlejjjmlaaGreatDoor
open Go Go.RowKit
theorem tiB : TyI Tryz.prog 141 2 32 (.agg #[.pointer none, .slice none 0 0]) := tyI (by kernel_rfl)
theorem mixB : Tryz.prog.follows .mixedOrders = true := by kernel_rfl
set_option maxHeartbeats 1000000 in
theorem cc_used (b : Nat) (w : World) (h0 : w.cell? ⟨b, 0, none⟩ = some (.pointer (some ⟨b, 0, none⟩))) :
    Calls Tryz.prog 119 #[.pointer (some ⟨b, 0, none⟩)] w fun e w' => e = .returned (.tuple #[]) ∧ w' = w := by
  obtain ⟨j, hj, _, hjs, _⟩ := tiB
  go_enter Tryz.func119, Tryz.ntmps119
  go_wp2
  rw [Lib.run_neq_ptr_same w _ Tryz.underlying138 hj]
  go_wp2
  go_end0
  exact ⟨rfl, rfl⟩
set_option maxHeartbeats 1000000 in
theorem cc_fresh (b : Nat) (w : World) (h0 : w.cell? ⟨b, 0, none⟩ = some (.pointer none)) (hsh : w.shape? b = some (141, 2)) (hfz : w.frozen? ⟨b, 0, none⟩ = false) :
    Calls Tryz.prog 119 #[.pointer (some ⟨b, 0, none⟩)] w fun e w' => e = .returned (.tuple #[]) ∧ w' = w.setCell ⟨b, 0, none⟩ (.pointer (some ⟨b, 0, none⟩)) := by
  obtain ⟨j, hj, _, hjs, _⟩ := tiB
  go_enter Tryz.func119, Tryz.ntmps119
  go_wp2
  rw [Lib.run_to_unsafe w ⟨b, 0, none⟩ Tryz.underlying138 Tryz.underlying324 hj (by rw [hjs]; decide) hsh (Nat.zero_lt_succ 1)]
  simp only [Result.andThen]
  rw [Oper.upon_value]
  go_wp2
  rw [run_callFunc_extern Tryz.func196 (by kernel_rfl) (by kernel_rfl) (by kernel_rfl) (e := Extern.AbiNoEscape.same) (by kernel_rfl)]
  rw [Lib.run_noEscape]
  simp only [Result.andThen]
  rw [Oper.upon_value]
  go_wp2
  rw [Lib.run_from_unsafe w ⟨b, 0, none⟩ Tryz.underlying324 Tryz.underlying138 hj hsh (by kernel_rfl)]
  simp only [Result.andThen]
  rw [Oper.upon_value]
  go_wp2
  go_end0
  exact ⟨rfl, rfl⟩
/-- copyCheck, within the calculus: nothing that is known turns. -/
theorem ccOp {X : Cx} {st : Nat → Option Ly} {mm : Nat → Option Ct} {d x id lb argTypes ty pos af} (hP : X.P = Tryz.prog) (hm : mm id = some (.bx 141 (.agg [.por id, lb]))) (hd : Nat.blt d X.N = true) (hx : OpdF st x (.own id)) (hl1 : lb.sz = 1) :
    OpOk X st mm ⟨some d, .call { callee := .value (.func 119), args := #[x], argTypes := argTypes }, ty, pos, af, none⟩ [(d, .tup [])] [] := by
  intro a w γ K Q hI hK
  obtain ⟨g, cur, h1, h2, h3⟩ := bxI hI hm
  obtain ⟨hv, _⟩ := hx.val hI
  rw [h1] at hv
  have hv : a.eval x = .pointer (some ⟨g, 0, none⟩) := by simpa using hv.symm
  have h3' := h3
  simp only [Ly.hold] at h3
  obtain ⟨c1, c2, hc, ⟨v0, rfl, hv0⟩, c3, c4, rfl, h4, rfl⟩ := h3
  have hl := Ly.hold_sz _ _ h4
  rw [hl1] at hl
  obtain ⟨u, rfl⟩ : ∃ u, c3 = [u] := by
    match c3, hl with
    | [u], _ => exact ⟨u, rfl⟩
  have hcur : cur = #[v0, u] := by
    apply Array.ext'; simpa using hc
  subst hcur
  have hcell : w.cell? ⟨g, 0, none⟩ = some v0 := by rw [cell_of_heap h2]; rfl
  have hfn : ∃ fn, X.P.funcs[119]? = some fn ∧ (fn.name == "runtime.NumGoroutine") = false ∧ fn.body.isSome = true := by
    rw [hP]; exact ⟨_, Tryz.func119, by kernel_rfl, rfl⟩
  have hput : ∀ w', Inv X st mm a w' γ → K (a.put (some d) (.tuple #[])) w' := fun w' h => by
    have := h.put (d := d) (v := .tuple #[]) (ly := .tup []) (by simpa using hd) ⟨#[], rfl, rfl⟩
    exact hK _ _ _ (by simpa [up_nil] using this)
  have hup : up mm [(id, .bx 141 (.agg [.por id, lb]))] = mm := by
    funext i; rw [up_one]
    by_cases e : id = i
    · subst e; simp [hm]
    · simp [e]
  rcases hv0 with rfl | ⟨v1, g', e1, e2, rfl⟩
  · refine op_of_calls (args := [x]) hfn (by rw [hP]; simpa [hv] using cc_fresh g w hcell (by simp [World.shape?, h2]) (by simp [World.frozen?, h2])) ?_
    rintro e w' ⟨rfl, rfl⟩
    refine ⟨_, rfl, hput _ ?_⟩
    have hnew : (w.setCell ⟨g, 0, none⟩ (.pointer (some ⟨g, 0, none⟩))).heap[g]? = some (.cells #[.pointer (some ⟨g, 0, none⟩), u] 141 (0, 0)) := by
      simp [World.setCell, Array.getElem?_modify, h2]
    have hkp : Kp (fun b => b = g) w (w.setCell ⟨g, 0, none⟩ (.pointer (some ⟨g, 0, none⟩))) := ⟨by simp [World.setCell], fun b hb hn => Below.heap_setCell _ _ _ _ (fun e => hn (by simpa using e))⟩
    have hkS : Kp (X.S γ mm) w (w.setCell ⟨g, 0, none⟩ (.pointer (some ⟨g, 0, none⟩))) := ⟨hkp.1, fun b hb hn => hkp.2 b hb (fun e => hn (.inr ⟨id, _, _, hm, rfl, h1, by rw [e]; rfl⟩))⟩
    have hI' := hI.setc (w' := w.setCell ⟨g, 0, none⟩ (.pointer (some ⟨g, 0, none⟩))) (ct := .bx 141 (.agg [.por id, lb])) rfl rfl rfl hm rfl h1 rfl hkp rfl
      ⟨g, _, h1, hnew, by
        simp only [Ly.hold]
        exact ⟨[_], [u], rfl, ⟨_, rfl, .inr ⟨_, g, h1, rfl, rfl⟩⟩, [u], [], rfl, Ly.hold_mono hkS (fun b hb => .inl hb) (Ng.refl _) _ _ h4, rfl⟩⟩
    rw [hup] at hI'; exact hI'
  · rw [h1] at e1; simp at e1; subst e1; simp [blkOf] at e2; subst e2
    refine op_of_calls (args := [x]) hfn (by rw [hP]; simpa [hv] using cc_used g w hcell) ?_
    rintro e w' ⟨rfl, rfl⟩
    exact ⟨_, rfl, hput _ hI⟩

/-! ### String -/
theorem turns_freeze (w : World) (g n : Nat) (h : n ≠ 0) : Turns (some g) w (w.drew.freeze ⟨g, 0, none⟩ n) := by
  unfold World.freeze
  rw [if_neg h]
  refine ⟨rfl, rfl, rfl, ?_, ?_⟩
  · simp only [Array.size_modify]; exact Nat.le_refl _
  · intro k hk hn
    rw [Array.getElem?_modify, if_neg (fun e => hn (by rw [← e]))]; rfl
theorem turns_alloc (w : World) (o : Obj) : Turns none w (w.alloc o).drew :=
  ⟨rfl, rfl, rfl, by show w.heap.size ≤ (w.heap.push o).size; simp, fun k hk hn => Lib.alloc_old w _ k hk⟩
theorem turns_drew (w : World) : Turns none w w.drew := ⟨rfl, rfl, rfl, Nat.le_refl _, fun _ _ _ => rfl⟩
set_option maxHeartbeats 2000000 in
theorem st_some (b g cap n : Nat) (p : Value) (l : List UInt8) (cur : Array Value) (w : World) (hn : n = l.length) (hbk : w.heap[b]? = some (.cells #[p, .slice (some ⟨g, 0, none⟩) n cap] 141 (0, 0))) (hg : w.heap[g]? = some (.cells cur 5 (0, 0)))
    (hnc : l.length ≤ cap) (hcm : cap ≤ maxLen) (hcs : cur.size = cap) (htake : cur.toList.take l.length = Lib.byteCells l) (h0 : l ≠ []) :
    Calls Tryz.prog 64 #[.pointer (some ⟨b, 0, none⟩)] w fun e w' => e = .returned (.string ⟨l.toArray⟩) ∧ Turns (some g) w w' := by
  subst hn
  have hl0 : l.length ≠ 0 := by simpa using h0
  have c1 : w.drew.cell? ⟨b, 1, none⟩ = some (.slice (some ⟨g, 0, none⟩) l.length cap) := by
    have : w.drew.heap[b]? = some (.cells #[p, .slice (some ⟨g, 0, none⟩) l.length cap] 141 (0, 0)) := hbk
    rw [Lib.cell_of_heap this]; rfl
  have hSD : (Builtin.unsafeSliceData_ #[139] 231 #[.slice (some ⟨g, 0, none⟩) l.length cap]).run Tryz.prog w.drew = .ok (.pointer (some ⟨g, 0, none⟩)) w.drew :=
    Lib.run_unsafeSliceData_row _ _ _ _ _ _ (by omega)
  have hUS : (Builtin.unsafeString_ #[231, 3] 9 #[.pointer (some ⟨g, 0, none⟩), .int .i64 l.length]).run Tryz.prog w.drew = .ok (.string ⟨l.toArray⟩) (w.drew.freeze ⟨g, 0, none⟩ l.length) := by
    refine Lib.run_unsafeString_row w.drew 231 3 9 5 Tryz.underlying231 (by kernel_rfl) g cur.size (by have hg' : w.drew.heap[g]? = some (.cells cur 5 (0, 0)) := hg; simp [World.shape?, hg']) l h0 (by omega) (by unfold maxLen at hcm; omega) ?_
    intro j x hx
    have hj : j < l.length := by
      rcases Nat.lt_or_ge j l.length with h | h
      · exact h
      · simp [List.getElem?_eq_none h] at hx
    have hg' : w.drew.heap[g]? = some (.cells cur 5 (0, 0)) := hg
    rw [add0, cell_of_heap hg', ← Array.getElem?_toList, Nat.zero_add]
    have : (cur.toList.take l.length)[j]? = some (.int .u8 x.toNat) := by rw [htake]; simp [Lib.byteCells, hx]
    rw [List.getElem?_take] at this
    simpa [hj] using this
  go_enter Tryz.func64, Tryz.ntmps64
  go_wp2
  go_region
  all_goals (go_wp2; go_ret; exact ⟨rfl, turns_freeze w g _ hl0⟩)
set_option maxHeartbeats 2000000 in
theorem st_nil (b : Nat) (p : Value) (w : World) (hbk : w.heap[b]? = some (.cells #[p, .slice none 0 0] 141 (0, 0))) :
    Calls Tryz.prog 64 #[.pointer (some ⟨b, 0, none⟩)] w fun e w' => e = .returned (.string ⟨#[]⟩) ∧ Turns none w w' := by
  have hUS : ∀ (W : World) (q : Option Addr), (Builtin.unsafeString_ #[231, 3] 9 #[.pointer q, .int .i64 0]).run Tryz.prog W = .ok (.string .empty) W := fun W q => Lib.run_unsafeString_none W _ _ _ q
  have c1 : w.drew.cell? ⟨b, 1, none⟩ = some (.slice none 0 0) := by
    have : w.drew.heap[b]? = some (.cells #[p, .slice none 0 0] 141 (0, 0)) := hbk
    rw [Lib.cell_of_heap this]; rfl
  have hSD : (Builtin.unsafeSliceData_ #[139] 231 #[.slice none 0 0]).run Tryz.prog w.drew = .ok (.pointer none) w.drew := rfl
  go_enter Tryz.func64, Tryz.ntmps64
  go_wp2
  go_region
  all_goals (go_wp2; go_ret; exact ⟨rfl, turns_drew w⟩)
set_option maxHeartbeats 2000000 in
theorem st_none (b g : Nat) (p : Value) (cur : Array Value) (w : World) (hbk : w.heap[b]? = some (.cells #[p, .slice (some ⟨g, 0, none⟩) 0 0] 141 (0, 0))) (hg : w.heap[g]? = some (.cells cur 5 (0, 0))) :
    Calls Tryz.prog 64 #[.pointer (some ⟨b, 0, none⟩)] w fun e w' => e = .returned (.string ⟨#[]⟩) ∧ Turns none w w' := by
  have hUS : ∀ (W : World) (q : Option Addr), (Builtin.unsafeString_ #[231, 3] 9 #[.pointer q, .int .i64 0]).run Tryz.prog W = .ok (.string .empty) W := fun W q => Lib.run_unsafeString_none W _ _ _ q
  have hlt : b < w.heap.size := by
    rcases Nat.lt_or_ge b w.heap.size with h' | h'
    · exact h'
    · simp [Array.getElem?_eq_none h'] at hbk
  have c1 : w.drew.cell? ⟨b, 1, none⟩ = some (.slice (some ⟨g, 0, none⟩) 0 0) := by
    have : w.drew.heap[b]? = some (.cells #[p, .slice (some ⟨g, 0, none⟩) 0 0] 141 (0, 0)) := hbk
    rw [Lib.cell_of_heap this]; rfl
  have hSD : (Builtin.unsafeSliceData_ #[139] 231 #[.slice (some ⟨g, 0, none⟩) 0 0]).run Tryz.prog w.drew = .ok (.pointer (some ⟨w.drew.heap.size, 0, none⟩)) (w.drew.alloc (.view ⟨g, 0, none⟩ 5)) :=
    Lib.run_unsafeSliceData_zero w.drew _ _ 5 Tryz.underlying231 ⟨g, 0, none⟩ 0 (5, cur.size) (by have hg' : w.drew.heap[g]? = some (.cells cur 5 (0, 0)) := hg; simp [World.shape?, hg'])
  have c2 : (w.drew.alloc (.view ⟨g, 0, none⟩ 5)).cell? ⟨b, 1, none⟩ = some (.slice (some ⟨g, 0, none⟩) 0 0) := by
    have : (w.drew.alloc (.view ⟨g, 0, none⟩ 5)).heap[b]? = _ := (Lib.alloc_old w.drew _ b hlt).trans hbk
    rw [Lib.cell_of_heap this]; rfl
  have c3 : (w.alloc (.view ⟨g, 0, none⟩ 5)).drew.cell? ⟨b, 1, none⟩ = some (.slice (some ⟨g, 0, none⟩) 0 0) := c2
  have c0 : w.cell? ⟨b, 1, none⟩ = some (.slice (some ⟨g, 0, none⟩) 0 0) := c1
  go_enter Tryz.func64, Tryz.ntmps64
  go_wp2
  go_region
  all_goals (go_wp2; go_ret; exact ⟨rfl, turns_alloc w _⟩)
set_option maxHeartbeats 2000000 in
theorem st_room (b g cap : Nat) (p : Value) (w : World) (hc0 : cap ≠ 0) (hbk : w.heap[b]? = some (.cells #[p, .slice (some ⟨g, 0, none⟩) 0 cap] 141 (0, 0))) :
    Calls Tryz.prog 64 #[.pointer (some ⟨b, 0, none⟩)] w fun e w' => e = .returned (.string ⟨#[]⟩) ∧ Turns none w w' := by
  have hUS : ∀ (W : World) (q : Option Addr), (Builtin.unsafeString_ #[231, 3] 9 #[.pointer q, .int .i64 0]).run Tryz.prog W = .ok (.string .empty) W := fun W q => Lib.run_unsafeString_none W _ _ _ q
  have c1 : w.drew.cell? ⟨b, 1, none⟩ = some (.slice (some ⟨g, 0, none⟩) 0 cap) := by
    have : w.drew.heap[b]? = some (.cells #[p, .slice (some ⟨g, 0, none⟩) 0 cap] 141 (0, 0)) := hbk
    rw [Lib.cell_of_heap this]; rfl
  have hSD : (Builtin.unsafeSliceData_ #[139] 231 #[.slice (some ⟨g, 0, none⟩) 0 cap]).run Tryz.prog w.drew = .ok (.pointer (some ⟨g, 0, none⟩)) w.drew :=
    Lib.run_unsafeSliceData_row _ _ _ _ _ _ hc0
  clear hc0
  go_enter Tryz.func64, Tryz.ntmps64
  go_wp2
  go_region
  all_goals (go_wp2; go_ret; exact ⟨rfl, turns_drew w⟩)
theorem holds_ubs {w S γ} : ∀ {xs : List UInt8} {cs : List Value}, Ly.holds w S γ (xs.map ub) cs → cs = Lib.byteCells xs
  | [], cs, h => by simp only [List.map_nil, Ly.holds] at h; simp [h, Lib.byteCells]
  | x :: xs, cs, h => by
    obtain ⟨c1, c2, rfl, h1, h2⟩ := h
    obtain ⟨v, rfl, rfl, _⟩ := h1
    rw [holds_ubs h2]; simp [Lib.byteCells]
/-- String, within the calculus: the builder is given up. -/
theorem strOp {X : Cx} {st : Nat → Option Ly} {mm : Nat → Option Ct} {d x id id2 argTypes ty pos af} {xs : List UInt8} (hP : X.P = Tryz.prog) (hm : mm id = some (.bx 141 (.agg [.por id, .own id2]))) (hm2 : mm id2 = some (.sl 5 1 (xs.map ub))) (hd : Nat.blt d X.N = true) (hx : OpdF st x (.own id)) :
    OpOk X st mm ⟨some d, .call { callee := .value (.func 64), args := #[x], argTypes := argTypes }, ty, pos, af, none⟩ [(d, str xs)] [(id, .gone), (id2, .gone)] := by
  intro a w γ K Q hI hK
  obtain ⟨g, cur, h1, h2, h3⟩ := bxI hI hm
  obtain ⟨hv, _⟩ := hx.val hI
  rw [h1] at hv
  have hv : a.eval x = .pointer (some ⟨g, 0, none⟩) := by simpa using hv.symm
  simp only [Ly.hold] at h3
  obtain ⟨c1, c2, hc, ⟨v0, rfl, hv0⟩, c3, c4, rfl, ⟨u, rfl, hu, hu1⟩, rfl⟩ := h3
  have hcur : cur = #[v0, u] := by
    apply Array.ext'; simpa using hc
  subst hcur
  obtain ⟨v, cs, e1, e2, e3, e4⟩ := slI hI hm2
  rw [hu] at e1; simp at e1; subst e1
  rw [List.length_map] at e2
  have hcs := holds_ubs e3
  subst hcs
  have hfn : ∃ fn, X.P.funcs[64]? = some fn ∧ (fn.name == "runtime.NumGoroutine") = false ∧ fn.body.isSome = true := by
    rw [hP]; exact ⟨_, Tryz.func64, by kernel_rfl, rfl⟩
  have hne : id2 ≠ id := by rintro rfl; rw [hm] at hm2; cases hm2
  have hlen : xs.length ≤ maxLen := by
    rcases e2.2 with ⟨_, h0⟩ | ⟨g2, cap, cur2, _, _, _, k1, k2, _⟩
    · rw [h0]; exact Nat.zero_le _
    · omega
  have fin : ∀ w', Turns (blkOf u) w w' → K (a.put (some d) (.string ⟨xs.toArray⟩)) w' := fun w' ⟨t1, t2, t3, t4⟩ => by
    have i1 := hI.dropc (w' := w') t1 t2 t3 hm2 rfl hu t4
    have i2 := i1.drop id
    rw [← up_cons] at i2
    exact hK _ _ _ (i2.put (d := d) (v := .string ⟨xs.toArray⟩) (ly := str xs) (by simpa using hd) ⟨rfl, hlen⟩)
  have fin0 : ∀ w', Turns none w w' → K (a.put (some d) (.string ⟨xs.toArray⟩)) w' := fun w' ⟨t1, t2, t3, t4⟩ =>
    fin w' ⟨t1, t2, t3, t4.1, fun b hb _ => t4.2 b hb (by simp)⟩
  rcases e2.2 with ⟨rfl, h0⟩ | ⟨g2, cap, cur2, rfl, _, k0, k1, k2, k3, k4⟩
  · have : xs = [] := List.eq_nil_of_length_eq_zero h0
    subst this
    refine op_of_calls (args := [x]) hfn (by rw [hP]; simpa [hv] using st_nil g v0 w h2) ?_
    rintro e w' ⟨rfl, ht⟩
    exact ⟨_, rfl, fin0 w' ht⟩
  · by_cases hx0 : xs = []
    · subst hx0
      by_cases hc0 : cap = 0
      · subst hc0
        refine op_of_calls (args := [x]) hfn (by rw [hP]; simpa [hv] using st_none g g2 v0 cur2 w h2 k0) ?_
        rintro e w' ⟨rfl, ht⟩
        exact ⟨_, rfl, fin0 w' ht⟩
      · refine op_of_calls (args := [x]) hfn (by rw [hP]; simpa [hv] using st_room g g2 cap v0 w hc0 h2) ?_
        rintro e w' ⟨rfl, ht⟩
        exact ⟨_, rfl, fin0 w' ht⟩
    · refine op_of_calls (args := [x]) hfn (by rw [hP]; simpa [hv] using st_some g g2 cap _ v0 xs cur2 w rfl h2 k0 k1 k2 (by omega) (by simpa using k4) hx0) ?_
      rintro e w' ⟨rfl, ht⟩
      exact ⟨_, rfl, fin w' ht⟩
/-! ### WriteString -/
theorem tiST : TyI Tryz.prog 139 1 24 (.slice none 0 0) := tyI (by kernel_rfl)
theorem shST : Shp Tryz.prog 139 false 1 := shp Tryz.underlying139 rfl tiST
theorem tiE : TyI Tryz.prog 5 1 1 (.int .u8 0) := tyI (by kernel_rfl)
theorem fdB : FldAt Tryz.prog 141 1 1 := by
  obtain ⟨i, h1, _, h3, _⟩ := tiST
  exact ⟨_, _, Tryz.underlying141, rfl, rfl, i, h1, by rw [h3]; decide⟩
theorem ws_ok {xs s : List UInt8} : ∀ r, ((appM 1 xs s).bind fun z => some z) = some r → FnOk Tryz.prog 61 [.own 0, str s] [(0, .bx 141 (.agg [.por 0, .own 1])), (1, .sl 5 1 (xs.map ub))] (.tup [i64 (s.length : Int), nilI]) [(0, .bx 141 (.agg [.por 0, .own 52])), (1, .gone), (52, .sl 5 1 (r.map ub))] := by
  refine fn_of_sq (res := fun (r : List UInt8) => .tup [i64 (s.length : Int), nilI]) (mo := fun (r : List UInt8) => [(0, .bx 141 (.agg [.por 0, .own 52])), (1, .gone), (52, .sl 5 1 (r.map ub))]) Tryz.func61 rfl rfl (by kernel_rfl) rfl ?_
  intro w S0 γ hγ
  refine sseq ?_
  refine sreg ?_
  refine s1 (asg rfl (kI (x := 0) rfl)) ?_
  refine s1 (asg rfl kNI) ?_
  refine snil ?_
  refine pnm ?_
  refine sseq ?_
  refine sreg ?_
  refine s1 (mv rfl rfl) ?_
  refine s1 (ccOp (id := 0) (lb := .own 1) rfl rfl rfl rfl rfl) ?_
  refine snil ?_
  refine pnm ?_
  refine sseq ?_
  refine sreg ?_
  refine s1 (mv rfl rfl) ?_
  refine s1 (mv rfl rfl) ?_
  refine s1 (nck (by exact ⟨_, _, rfl⟩) rfl rfl) ?_
  refine s1 (faO rfl fdB rfl rfl) ?_
  refine s1 (ldB [1] rfl (by exact rfl) shST (by exact rfl) (by exact rfl) rfl rfl (.inl rfl)) ?_
  refine s1 (mv rfl rfl) ?_
  refine bd fun z hz => ?_
  refine so (appS (y := 100) hz rfl Tryz.underlying139 Tryz.underlying9 tiE rfl rfl rfl rfl rfl rfl) ?_
  refine s1 (nck (by exact ⟨_, _, rfl⟩) rfl rfl) ?_
  refine s1 (faO rfl fdB rfl rfl) ?_
  refine so (stB2 (ly2 := .agg [.por 0, .own 100]) [1] (by exact rfl) rfl (by exact rfl) shST (by exact rfl) (by exact rfl) (by exact rfl) rfl (.inl rfl) rfl) ?_
  refine snil ?_
  refine pnm ?_
  refine sseq ?_
  refine sreg ?_
  refine s1 (mv rfl rfl) ?_
  refine s1 (lenS Tryz.underlying9 rfl rfl) ?_
  refine s1 (asg rfl rfl) ?_
  refine s1 (asg rfl kNI) ?_
  refine snil ?_
  refine pnm ?_
  refine sret ?_
  exact ret [(0, 0), (1, 1), (52, 100)] [.tmp 4, .tmp 5] [_, _] [_, _] .ret hγ (.inl rfl) rfl ⟨rfl, rfl, trivial⟩ rfl ⟨rfl, rfl, trivial⟩ ⟨⟨_, rfl⟩, ⟨_, rfl⟩, ⟨_, rfl⟩, trivial⟩ ⟨⟨_, _, rfl, rfl, rci (rc_bx (rn_agg (rns_cons (rn_por rfl) (rns_cons (rn_own rfl) rns_nil))))⟩, ⟨_, _, rfl, rfl, rcg⟩, ⟨_, _, rfl, rfl, rci (rc_sl (ifs_map (f := ub) (fun _ => if_ub) _))⟩, trivial⟩ (rns_cons (rn_id if_i64) (rns_cons (rn_id if_nilI) rns_nil)) rfl
theorem ws_ok' {xs s z : List UInt8} (h : appM 1 xs s = some z) : FnOk Tryz.prog 61 [.own 0, str s] [(0, .bx 141 (.agg [.por 0, .own 1])), (1, .sl 5 1 (xs.map ub))] (.tup [i64 (s.length : Int), nilI]) [(0, .bx 141 (.agg [.por 0, .own 52])), (1, .gone), (52, .sl 5 1 (z.map ub))] :=
  ws_ok z (by rw [h]; rfl)
end Go.Proofs.YtcdeknlejjjmlaaGreatDoor
