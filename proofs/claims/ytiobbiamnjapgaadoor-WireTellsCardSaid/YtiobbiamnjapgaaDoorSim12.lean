import Derived.Test.YtiobbiamnjapgaaDoorSim11
namespace Go.Proofs.YtiobbiamnjapgaaDoor
open Go Go.RowKit

def cpyL {α : Type} (xs ys : List α) : List α := ys.take xs.length ++ xs.drop ys.length

section ops
variable {X : Cx} {st : Nat → Option Ly} {mm : Nat → Option Ct}

/-- A slice whose elements can be read: one that came in, or an owned one. -/
def SlF (mm : Nat → Option Ct) (lx : Ly) (k : Nat) (ls : List Ly) : Prop := lx = sli k ls ∨ ∃ id E, lx = .own id ∧ mm id = some (.sl E k ls)

theorem slF_read {lx k ls x a w γ} (hI : Inv X st mm a w γ) (h : SlF mm lx k ls) (hx : OpdF st x lx) :
    (a.eval x = .slice none 0 0 ∧ ls = []) ∨ (∃ b o cap cs, a.eval x = .slice (some ⟨b, o, none⟩) ls.length cap ∧ ls.length ≤ cap ∧ cap ≤ maxLen ∧ b < w.heap.size ∧
      (∀ j u, cs[j]? = some u → w.cell? ⟨b, o + j, none⟩ = some u) ∧ Ly.holds w (X.S γ mm) γ ls cs ∧ ∀ ly ∈ ls, ly.sz = k) ∨ (ls = [] ∧ ∃ ad, a.eval x = .slice (some ad) 0 0) := by
  rcases h with rfl | ⟨id, E, rfl, hm⟩
  · rcases hx.val hI with ⟨h1, h2⟩ | ⟨b, o, cap, cs, h1, h2, h3, h4, h5, h6, h7, h8⟩ | h
    · exact .inl ⟨h1, h2⟩
    · exact .inr (.inl ⟨b, o, cap, cs, h1, h2, h3, h4, h6, Ly.holds_mono (Kp.refl _ _) (fun b hb => .inl hb) (fun _ _ h => by cases h) _ _ h7, h8⟩)
    · exact .inr (.inr h)
  · obtain ⟨v, cs, e1, ⟨e2, e3⟩, e4, e5⟩ := slI hI hm
    obtain ⟨hv, _⟩ := hx.val hI
    rw [hv] at e1; simp at e1
    rcases e3 with ⟨h1, hn⟩ | ⟨g, cap, cur, h1, _, h2, h3, h4, h5, h6⟩
    · exact .inl ⟨by rw [e1, h1], by simpa using hn⟩
    · refine .inr (.inl ⟨g, 0, cap, cs, by rw [e1, h1], h3, h4, ?_, fun j u hj => ?_, e4, e5⟩)
      · rcases Nat.lt_or_ge g w.heap.size with h | h
        · exact h
        · simp [Array.getElem?_eq_none h] at h2
      · rw [cell_of_heap h2, ← Array.getElem?_toList, Nat.zero_add]
        rw [← h6] at hj
        rw [List.getElem?_take] at hj
        split at hj
        · exact hj
        · cases hj

theorem run_append_owned_empty {P : Program} (w : World) (base : Nat) (T ty E : TypeId) (i : TypeInfo) (k : Nat) (hT : P.underlying T = some (.slice E)) (hi : P.info? E = some i) (v : Value) (n : Nat) (cs : List Value) (h : w.ownsRow base E k v n cs) (ad : Addr) :
    (Builtin.append_ #[T, T] ty #[v, .slice (some ad) 0 0]).run P w = .ok v w := by
  rcases h.2 with ⟨rfl, rfl⟩ | ⟨g, cap, cur, rfl, _, _, h3, _⟩
  · simp [Builtin.append_, underlying, hT, sizeOf, typeInfo, hi, Builtin.lenOf, Builtin.firstCells, loadCells, loadCellsFrom]
  · simp [Builtin.append_, underlying, hT, sizeOf, typeInfo, hi, Builtin.lenOf, Builtin.firstCells, loadCells, loadCellsFrom, storeCells, h3]
theorem holds_append {w S γ} : ∀ {l1 l2 : List Ly} {c1 c2 : List Value}, Ly.holds w S γ l1 c1 → Ly.holds w S γ l2 c2 → Ly.holds w S γ (l1 ++ l2) (c1 ++ c2)
  | [], l2, c1, c2, h1, h2 => by simp only [Ly.holds] at h1; subst h1; simpa using h2
  | ly :: l1, l2, c1, c2, h1, h2 => by
    obtain ⟨d1, d2, rfl, g1, g2⟩ := h1
    exact ⟨d1, d2 ++ c2, by simp, g1, holds_append g2 h2⟩
theorem szs_all {k : Nat} : ∀ {l : List Ly}, (∀ ly ∈ l, ly.sz = k) → Ly.szs l = l.length * k
  | [], _ => by simp [Ly.szs]
  | ly :: l, h => by simp [Ly.szs, h ly List.mem_cons_self, szs_all (fun x hx => h x (List.mem_cons_of_mem _ hx)), Nat.succ_mul]; omega

/-- append: onto an owned slice. -/
theorem app {d s x T ty pos af y id E k b z lx} {α : Type} {f : α → Ly} {xs ys zs : List α} (hz : appM b xs ys = some zs) (hm : mm id = some (.sl E k (xs.map f))) (hT : X.P.underlying T = some (.slice E)) (hE : TyI X.P E k b z) (hzk : z.cells.size = k) (hk0 : Nat.blt 0 k = true)
    (hs : OpdF st s (.own id)) (hx : OpdF st x lx) (hF : SlF mm lx k (ys.map f)) (hy : mm y = none) (hd : Nat.blt d X.N = true) :
    OpOk X st mm ⟨some d, .call { callee := .builtin .append, args := #[s, x], argTypes := #[T, T] }, ty, pos, af, none⟩ [(d, .own y)] [(y, .sl E k (zs.map f)), (id, .gone)] := by
  intro a w γ K Q hI hK
  unfold appM at hz
  split at hz
  case isFalse => cases hz
  rename_i hle
  obtain ⟨hbytes, h63⟩ := hle
  cases hz
  obtain ⟨i, hi, hz0, hsz, hby⟩ := hE
  have hk0' : 0 < k := by simpa using hk0
  obtain ⟨v, cs, e1, e2, e3, e4⟩ := slI hI hm
  obtain ⟨hv, hv1⟩ := hs.val hI
  have hvs : a.eval s = v := by rw [hv] at e1; simpa using e1
  rw [List.length_map] at e2
  -- the end, for whatever comes out
  have fin : ∀ v' w' news, (Builtin.append_ #[T, T] ty #[v, a.eval x]).run X.P w = .ok v' w' → w'.ownsRow 0 E k v' (xs.length + ys.length) (cs ++ news) → w.grownBy w' v.ownBlock → Ly.holds w (X.S γ mm) γ (ys.map f) news →
      (∀ b, blkOf v' = some b → (blkOf v = some b ∨ w.heap.size ≤ b)) → (∀ ly ∈ ys.map f, ly.sz = k) →
      Oper.wp X.P ⟨some d, .call { callee := .builtin .append, args := #[s, x], argTypes := #[T, T] }, ty, pos, af, none⟩ a w K Q := by
    intro v' w' news hr hown hg hh hb hz2
    have hrun : (execOp a.eval ⟨some d, .call { callee := .builtin .append, args := #[s, x], argTypes := #[T, T] }, ty, pos, af, none⟩).run X.P w = .ok (.value v') w' := by
      simp only [execOp, resolve]
      simp [invoke, builtin, hvs, hr]
    unfold Oper.wp
    rw [hrun]
    have hob : v.ownBlock = blkOf v := by
      rcases e2.2 with ⟨rfl, _⟩ | ⟨g, cap, cur, rfl, _⟩ <;> rfl
    have hk : Kp (fun b => blkOf v = some b) w w' := ⟨hg.size, fun b hb' hn => hg.block b hb' (by rw [hob]; exact fun h => hn h.symm)⟩
    have hkS : Kp (X.S γ mm) w w' := ⟨hg.size, fun b hb' hn => hk.2 b hb' (fun h => hn (.inr ⟨id, _, v, hm, rfl, e1, h⟩))⟩
    have hone : v'.oneCell' = true := by rcases hown.2 with ⟨rfl, _⟩ | ⟨g, cap, cur, rfl, _⟩ <;> rfl
    have hinv := hI.replace hg.os hg.tape hg.output hm rfl e1 hk (y := y) (ct := .sl E k ((xs ++ ys).map f)) (v' := v') hy rfl
      (fun S γ' hS hng hy' => by
        refine ⟨v', cs ++ news, hy', by simpa using hown, ?_, ?_⟩
        · rw [List.map_append]
          exact Ly.holds_mono hkS hS hng _ _ (holds_append e3 hh)
        · intro ly hly
          rw [List.map_append] at hly
          rcases List.mem_append.1 hly with h | h
          · exact e4 ly h
          · exact hz2 ly h)
      (fun b hb' => ⟨hb b hb', by
        rcases hown.2 with ⟨rfl, _⟩ | ⟨g, cap, cur, rfl, _, h2, _⟩
        · simp [blkOf] at hb'
        · simp [blkOf] at hb'; subst hb'
          rcases Nat.lt_or_ge g w'.heap.size with h | h
          · exact h
          · simp [Array.getElem?_eq_none h] at h2⟩)
    exact hK _ _ _ (hinv.put (d := d) (v := v') (ly := .own y) (by simpa using hd) ⟨by simp [Inv.gset], hone⟩)
  rcases slF_read hI hF hx with ⟨h1, h2⟩ | ⟨bb, o, cap, news, h1, h2, h3, h4, h5, h6, h7⟩ | ⟨h2, ad, h1⟩
  rotate_left 2
  · have : ys = [] := by simpa using h2
    subst this
    have hr := run_append_owned_empty (P := X.P) w 0 T ty E i k hT hi v xs.length cs e2 ad
    exact fin v w [] (by rw [h1]; exact hr) (by simpa using e2) ⟨rfl, rfl, rfl, Nat.le_refl _, fun _ _ _ => rfl⟩ (by simp [Ly.holds]) (fun b h => .inl h) (fun ly h => by cases h)
  · have : ys = [] := by simpa using h2
    subst this
    have hr := run_append_owned_none (P := X.P) w 0 T ty E i k hT hi v xs.length cs e2
    exact fin v w [] (by rw [h1]; exact hr) (by simpa using e2) ⟨rfl, rfl, rfl, Nat.le_refl _, fun _ _ _ => rfl⟩ (by simp [Ly.holds]) (fun b h => .inl h) (fun ly h => by cases h)
  · have hnl : news.length = ys.length * k := by
      have := Ly.holds_sz _ _ h6
      rw [szs_all h7] at this; simpa using this
    rw [List.length_map] at h1
    obtain ⟨v', w', r1, r2, r3, r4⟩ := run_append_own (P := X.P) w 0 T ty E i z k b hT hi hz0 hsz hby hzk hk0' v xs.length cs e2 ⟨bb, o, none⟩ ys.length cap news hnl
      (fun j u hj => by rw [add0]; exact h5 j u hj) (Ly.oneCell_of_holds _ _ h6) (by unfold maxLen; omega) hbytes (Nat.zero_le _)
    refine fin v' w' news (by rw [h1]; exact r1) r2 r3 h6 (fun bk hb => ?_) h7
    -- the new value's block
    have hsrc : Src X.P i.size T (.slice (some ⟨bb, o, none⟩) ys.length cap) ys.length news w := Src.ofSlice w hT _ _ _ _ (by rw [hsz]; exact hnl) (fun j u hj => by rw [add0]; exact h5 j u hj) (Ly.oneCell_of_holds _ _ h6)
    rcases e2 with ⟨hcl, ⟨rfl, hn0⟩ | ⟨g, cap0, cur, rfl, _, g2, g3, g4, g5, g6⟩⟩
    · -- from nil
      obtain ⟨v2, w2, q1, q2, _, _⟩ := run_append_own (P := X.P) w w.heap.size T ty E i z k b hT hi hz0 hsz hby hzk hk0' (.slice none 0 0) xs.length cs ⟨hcl, .inl ⟨rfl, hn0⟩⟩ ⟨bb, o, none⟩ ys.length cap news hnl
        (fun j u hj => by rw [add0]; exact h5 j u hj) (Ly.oneCell_of_holds _ _ h6) (by unfold maxLen; omega) hbytes (Nat.le_refl _)
      rw [r1] at q1
      obtain ⟨rfl, rfl⟩ : v' = v2 ∧ w' = w2 := by simpa using q1
      rcases q2.2 with ⟨rfl, _⟩ | ⟨g, cap1, cur1, rfl, hge, _⟩
      · simp [blkOf] at hb
      · simp [blkOf] at hb; subst hb; exact .inr hge
    · by_cases hroom : xs.length + ys.length ≤ cap0
      · have hr2 := run_append_room_src (P := X.P) w T T ty E i hT hi g 0 xs.length cap0 _ ys.length news hsrc hroom
          (fun j hj => by
            rw [cell_of_heap g2, hsz]
            have : 0 + xs.length * k + j < cur.size := by
              rw [g5]
              have := Nat.mul_le_mul_right k hroom
              rw [Nat.add_mul] at this; omega
            rw [Array.getElem?_eq_getElem this]; rfl)
          (fun j hj => by simp [World.frozen?, g2])
        rw [r1] at hr2
        simp at hr2
        rw [hr2.1] at hb
        exact .inl hb
      · have hold : (Builtin.firstCells i.size xs.length (.slice (some ⟨g, 0, none⟩) xs.length cap0)).run X.P w.drew = .ok cs.toArray w.drew :=
          run_firstCells_some w.drew i.size xs.length ⟨g, 0, none⟩ xs.length cap0 cs (by rw [hsz]; exact hcl) (fun j u hj => by
            rw [add0, Nat.zero_add]
            have : w.drew.cell? ⟨g, j, none⟩ = w.cell? ⟨g, j, none⟩ := rfl
            rw [this, cell_of_heap g2, ← Array.getElem?_toList]
            rw [← g6, List.getElem?_take] at hj
            split at hj
            · exact hj
            · cases hj)
        have hr2 := run_append_grow_src (P := X.P) w T T ty E i z hT hi hz0 (some ⟨g, 0, none⟩) xs.length cap0 cs hold _ ys.length news hsrc (by omega) (by omega) (growslice_fits (by omega) (by rw [hby]; exact hbytes))
        rw [r1] at hr2
        simp at hr2
        rw [hr2.1] at hb
        simp [blkOf] at hb; subst hb
        exact .inr (Nat.le_refl _)

end ops
end Go.Proofs.YtiobbiamnjapgaaDoor
