import Derived.Test.YtiobbiamnjapgaaDoorSim6
namespace Go.Proofs.YtiobbiamnjapgaaDoor
open Go Go.RowKit

/-! ### A part of a layout, by its path -/
def Ly.go : List Nat → Ly → Option (Ly × Nat)
  | [], ly => some (ly, 0)
  | i :: p, .agg l => match l[i]? with
    | some x => match Ly.go p x with
      | some (y, c) => some (y, Ly.szs (l.take i) + c)
      | none => none
    | none => none
  | _ :: _, _ => none
def Ly.pu (n : Ly) : List Nat → Ly → Ly
  | [], _ => n
  | i :: p, .agg l => match l[i]? with
    | some x => .agg (l.set i (Ly.pu n p x))
    | none => .agg l
  | _ :: _, ly => ly

theorem holds_split {w S γ} : ∀ {l : List Ly} {cs : List Value} {i : Nat} {x : Ly}, Ly.holds w S γ l cs → l[i]? = some x →
    ∃ a u b, cs = a ++ u ++ b ∧ a.length = Ly.szs (l.take i) ∧ Ly.hold w S γ x u ∧ ∀ (n : Ly) (u' : List Value), Ly.hold w S γ n u' → Ly.holds w S γ (l.set i n) (a ++ u' ++ b)
  | [], cs, i, x, _, hx => by simp at hx
  | ly :: l, cs, 0, x, h, hx => by
    obtain ⟨c1, c2, rfl, h1, h2⟩ := h
    simp at hx; subst hx
    exact ⟨[], c1, c2, by simp, by simp [Ly.szs], h1, fun n u' hn => ⟨u', c2, by simp, hn, h2⟩⟩
  | ly :: l, cs, i + 1, x, h, hx => by
    obtain ⟨c1, c2, rfl, h1, h2⟩ := h
    obtain ⟨a, u, b, rfl, h3, h4, h5⟩ := holds_split (i := i) h2 (by simpa using hx)
    refine ⟨c1 ++ a, u, b, by simp, ?_, h4, fun n u' hn => ⟨c1, a ++ u' ++ b, by simp, h1, h5 n u' hn⟩⟩
    simp [Ly.szs, h3, Ly.hold_sz ly c1 h1]

theorem go_hold {w S γ} : ∀ (p : List Nat) {ly lz : Ly} {c : Nat} {cs : List Value}, Ly.go p ly = some (lz, c) → Ly.hold w S γ ly cs →
    ∃ a u b, cs = a ++ u ++ b ∧ a.length = c ∧ Ly.hold w S γ lz u ∧ ∀ (n : Ly) (u' : List Value), Ly.hold w S γ n u' → Ly.hold w S γ (Ly.pu n p ly) (a ++ u' ++ b)
  | [], ly, lz, c, cs, hg, h => by
    simp only [Ly.go, Option.some.injEq, Prod.mk.injEq] at hg
    obtain ⟨rfl, rfl⟩ := hg
    exact ⟨[], cs, [], by simp, rfl, h, fun n u' hn => by simpa [Ly.pu] using hn⟩
  | i :: p, ly, lz, c, cs, hg, h => by
    cases ly with
    | agg l =>
      simp only [Ly.go] at hg
      cases hx : l[i]? with
      | none => simp [hx] at hg
      | some x =>
        simp only [hx] at hg
        cases hy : Ly.go p x with
        | none => simp [hy] at hg
        | some yc =>
          obtain ⟨y, c'⟩ := yc
          simp only [hy, Option.some.injEq, Prod.mk.injEq] at hg
          obtain ⟨rfl, rfl⟩ := hg
          simp only [Ly.hold] at h
          obtain ⟨a, u, b, rfl, h1, h2, h3⟩ := holds_split h hx
          obtain ⟨a', u', b', rfl, g1, g2, g3⟩ := go_hold p hy h2
          refine ⟨a ++ a', u', b' ++ b, by simp, by simp [h1, g1], g2, fun n v hn => ?_⟩
          have := h3 _ _ (g3 n v hn)
          simp only [Ly.pu, hx, Ly.hold]
          simpa using this
    | _ => simp [Ly.go] at hg

theorem szs_take {k : Nat} : ∀ {l : List Ly} {i : Nat}, (∀ ly ∈ l, ly.sz = k) → i ≤ l.length → Ly.szs (l.take i) = i * k
  | [], i, _, hi => by simp at hi; subst hi; simp [Ly.szs]
  | ly :: l, 0, _, _ => by simp [Ly.szs]
  | ly :: l, i + 1, h, hi => by
    simp only [List.take_succ_cons, Ly.szs]
    rw [szs_take (fun x hx => h x (List.mem_cons_of_mem _ hx)) (by simpa using hi), h ly List.mem_cons_self, Nat.succ_mul]; omega

theorem splice_eq {a u b vs : List Value} (h : vs.length = u.length) : splice (a ++ u ++ b) a.length vs = a ++ vs ++ b := by
  simp [splice, h, List.drop_append]

section ops
variable {X : Cx} {st : Nat → Option Ly} {mm : Nat → Option Ct}

/-! ### Read only memory -/
theorem getI_some {α : Type} {l : List α} {i : Int} {y : α} (h : getI l i = some y) : 0 ≤ i ∧ l[i.toNat]? = some y := by
  unfold getI at h; split at h
  · exact ⟨by assumption, h⟩
  · cases h
theorem getI_nat {α : Type} {l : List α} {i : Nat} {y : α} (h : l[i]? = some y) : getI l (i : Int) = some y := by
  simp [getI, h]

/-- The address of an element of a slice that is read. -/
theorem ixR {kk : IntKind} {d x i T ty pos af E k b z p} {α : Type} {f : α → Ly} {xs : List α} {y : α} (hT : X.P.underlying T = some (.slice E)) (hE : TyI X.P E k b z) (hg : getI xs p = some y)
    (hd : Nat.blt d X.N = true) (hx : OpdF st x (sli k (xs.map f))) (hi : OpdF st i (.cell (cpI kk p))) :
    OpOk X st mm ⟨some d, .indexAddr T x i, ty, pos, af, none⟩ [(d, .ref (f y))] [] :=
  ok_val hd fun a w γ hI => by
    obtain ⟨h0, hg⟩ := getI_some hg
    obtain ⟨g1, _⟩ := hi.val hI
    have hlt : p.toNat < xs.length := by
      rcases Nat.lt_or_ge p.toNat xs.length with h | h
      · exact h
      · simp [List.getElem?_eq_none h] at hg
    rcases hx.val hI with ⟨h1, hn⟩ | ⟨bb, o, cap, cs, h1, h2, h3, h4, h5, h6, h7, h8⟩ | ⟨hn, _⟩
    rotate_left 2
    · have : xs = [] := by simpa using hn
      subst this; simp at hlt
    · have : xs = [] := by simpa using hn
      subst this; simp at hlt
    · have hmap : (xs.map f)[p.toNat]? = some (f y) := by simp [hg]
      obtain ⟨a1, u, b1, rfl, e1, e2, _⟩ := holds_split h7 hmap
      rw [szs_take h8 (by simp; omega)] at e1
      refine ⟨.pointer (some ⟨bb, o + p.toNat * k, none⟩), ?_, ?_⟩
      · have hpl : p < (xs.length : Int) := by omega
        simp only [execOp, h1, g1]
        simp [Instr.indexAt, asIntOf, underlying, hT, h0, hpl, run_sizeOf' hE, add0]
      · exact ⟨bb, o + p.toNat * k, u, rfl, h4, h5, fun j v hj => by
          have := h6 (a1.length + j) v (by
            rw [List.append_assoc, List.getElem?_append_right (by omega), Nat.add_sub_cancel_left]
            rw [List.getElem?_append_left (by
              rcases Nat.lt_or_ge j u.length with h | h
              · exact h
              · simp [List.getElem?_eq_none h] at hj)]
            exact hj)
          rw [e1] at this
          rw [Nat.add_assoc]; exact this, Ly.hold_mono (Kp.refl _ _) (fun b hb => .inl hb) (fun _ _ h => by cases h) _ _ e2⟩

/-- A variable is read through a pointer that only reads. -/
theorem ldR {d x T ty pos af ag k ly} (hT : Shp X.P T ag k) (hn : ly.isN = ag) (hz : ly.sz = k) (hd : Nat.blt d X.N = true) (hx : OpdF st x (.ref ly)) :
    OpOk X st mm ⟨some d, .load T x, ty, pos, af, none⟩ [(d, ly)] [] :=
  ok_val hd fun a w γ hI => by
    obtain ⟨b, o, us, h1, h2, h3, h4, h5⟩ := hx.val hI
    simp at h1
    obtain ⟨v, hr, hv⟩ := run_loadVar (P := X.P) hT hn hz h4 h5
    exact ⟨v, by simp only [execOp, h1]; simp [Instr.loadAt, Instr.sureAddr, hr], hv⟩

def FldAt (P : Program) (T j fo : Nat) : Prop := ∃ fs F, P.underlying T = some (.struct fs) ∧ fs[j]? = some F ∧ F.offset = fo ∧ ∃ i, P.info? F.type = some i ∧ i.size ≠ 0
theorem run_fieldAt {P T j fo b o} (h : FldAt P T j fo) (w : World) : (Instr.fieldAt T (.pointer (some ⟨b, o, none⟩)) j).run P w = .ok (.pointer (some ⟨b, o + fo, none⟩)) w := by
  obtain ⟨fs, F, h1, h2, h3, i, h4, h5⟩ := h
  subst h3
  simp [Instr.fieldAt, underlying, h1, h2, Instr.sureAddr, fieldPlace, sizeOf, typeInfo, h4, h5, add0]

/-- The address of a field, of a struct that is read. -/
theorem faR {d x T j ty pos af fo l lz} (hF : FldAt X.P T j fo) (hg : Ly.go [j] (.agg l) = some (lz, fo)) (hd : Nat.blt d X.N = true) (hx : OpdF st x (.ref (.agg l))) :
    OpOk X st mm ⟨some d, .fieldAddr T x j, ty, pos, af, none⟩ [(d, .ref lz)] [] :=
  ok_val hd fun a w γ hI => by
    obtain ⟨b, o, us, h1, h2, h3, h4, h5⟩ := hx.val hI
    simp at h1
    obtain ⟨a1, u, b1, rfl, e1, e2, _⟩ := go_hold [j] hg h5
    refine ⟨_, by simp only [execOp, h1]; simp [run_fieldAt hF], b, o + fo, u, rfl, h2, h3, fun i v hj => ?_, e2⟩
    have := h4 (a1.length + i) v (by
      rw [List.append_assoc, List.getElem?_append_right (by omega), Nat.add_sub_cancel_left]
      rw [List.getElem?_append_left (by
        rcases Nat.lt_or_ge i u.length with h | h
        · exact h
        · simp [List.getElem?_eq_none h] at hj)]
      exact hj)
    rw [e1] at this
    rw [Nat.add_assoc]; exact this

/-! ### Variables of the call's own -/
theorem bxI {id E ly} {a w γ} (hI : Inv X st mm a w γ) (hm : mm id = some (.bx E ly)) : ∃ g cur, γ id = some (.pointer (some ⟨g, 0, none⟩)) ∧ w.heap[g]? = some (.cells cur E (0, 0)) ∧ Ly.hold w (X.S γ mm) γ ly cur.toList := hI.cts id _ hm

/-- The address of a field of an owned variable. -/
theorem faO {d x T j ty pos af fo id E ly} (hm : mm id = some (.bx E ly)) (hF : FldAt X.P T j fo) (hd : Nat.blt d X.N = true) (hx : OpdF st x (.own id)) :
    OpOk X st mm ⟨some d, .fieldAddr T x j, ty, pos, af, none⟩ [(d, .ptr id fo)] [] :=
  ok_val hd fun a w γ hI => by
    obtain ⟨g, cur, h1, h2, h3⟩ := bxI hI hm
    obtain ⟨hv, _⟩ := hx.val hI
    rw [h1] at hv; simp at hv
    exact ⟨.pointer (some ⟨g, fo, none⟩), by simp only [execOp, ← hv]; simp [run_fieldAt hF], _, g, h1, rfl, rfl⟩
theorem faP {d x T j ty pos af fo id off} (hF : FldAt X.P T j fo) (hd : Nat.blt d X.N = true) (hx : OpdF st x (.ptr id off)) :
    OpOk X st mm ⟨some d, .fieldAddr T x j, ty, pos, af, none⟩ [(d, .ptr id (off + fo))] [] :=
  ok_val hd fun a w γ hI => by
    obtain ⟨v0, g, h1, h2, h3⟩ := hx.val hI
    exact ⟨.pointer (some ⟨g, off + fo, none⟩), by simp only [execOp, h3]; simp [run_fieldAt hF], v0, g, h1, h2, rfl⟩

/-- The address of an owned variable, whole. -/
def OwnP (mm : Nat → Option Ct) (lx : Ly) (id off : Nat) : Prop := lx = .ptr id off ∨ (lx = .own id ∧ off = 0 ∧ ∃ E ly, mm id = some (.bx E ly))
theorem ownP_addr {st mm a w γ lx id off x} (hI : Inv X st mm a w γ) (h : OwnP mm lx id off) (hx : OpdF st x lx) : ∃ v0 g, γ id = some v0 ∧ blkOf v0 = some g ∧ a.eval x = .pointer (some ⟨g, off, none⟩) := by
  rcases h with rfl | ⟨rfl, rfl, E, ly, hm⟩
  · exact hx.val hI
  · obtain ⟨g, cur, h1, h2, h3⟩ := bxI hI hm
    obtain ⟨hv, _⟩ := hx.val hI
    rw [h1] at hv; simp at hv
    exact ⟨_, g, h1, rfl, hv.symm⟩

theorem ldB {d x T ty pos af ag k lx id E ly lz off} (p : List Nat) (hm : mm id = some (.bx E ly)) (hg : Ly.go p ly = some (lz, off)) (hT : Shp X.P T ag k) (hn : lz.isN = ag) (hz : lz.sz = k)
    (hd : Nat.blt d X.N = true) (hx : OpdF st x lx) (ho : OwnP mm lx id off) :
    OpOk X st mm ⟨some d, .load T x, ty, pos, af, none⟩ [(d, lz)] [] :=
  ok_val hd fun a w γ hI => by
    obtain ⟨g, cur, h1, h2, h3⟩ := bxI hI hm
    obtain ⟨v0, g', e1, e2, e3⟩ := ownP_addr hI ho hx
    rw [h1] at e1; simp at e1; subst e1; simp [blkOf] at e2; subst e2
    obtain ⟨a1, u, b1, hc, hl, hh, _⟩ := go_hold p hg h3
    obtain ⟨v, hr, hv⟩ := run_loadVar (P := X.P) (b := g) (o := off) hT hn hz (us := u) (w := w) (fun j v hj => by
      rw [cell_of_heap h2, ← Array.getElem?_toList, hc, List.append_assoc, List.getElem?_append_right (by omega), hl, Nat.add_sub_cancel_left]
      rw [List.getElem?_append_left (by
        rcases Nat.lt_or_ge j u.length with h | h
        · exact h
        · simp [List.getElem?_eq_none h] at hj)]
      exact hj) hh
    exact ⟨v, by simp only [execOp, e3]; simp [Instr.loadAt, Instr.sureAddr, hr], hv⟩

/-- What a store does to a world: one block is written. -/
theorem store_run {P : Program} {T ag k b o E} {w : World} {cur : Array Value} {v : Value} {vs : List Value} (hT : Shp P T ag k) (hb : w.heap[b]? = some (.cells cur E (0, 0))) (hv : v.cells.toList = vs) (hl : vs.length = k)
    (hc : o + k ≤ cur.size) (h1 : ∀ u ∈ vs, u.oneCell' = true) :
    ∃ w' cur', (Instr.storeAt T (.pointer (some ⟨b, o, none⟩)) v).run P w = .ok () w' ∧ w'.heap[b]? = some (.cells cur' E (0, 0)) ∧ cur'.toList = splice cur.toList o vs ∧ Kp (fun x => x = b) w w' ∧ w'.os = w.os ∧ w'.tape = w.tape ∧ w'.output = w.output := by
  obtain ⟨w', cur', g1, g2, g3, g4, g5, g6, g7⟩ := run_storeCells (P := P) (b := b) (o := o) (E := E) vs 0 w cur hb (by omega) h1
  have hsz : v.cells.size = k := by rw [← hl, ← hv]; simp
  refine ⟨w', cur', ?_, g2, g3, g4, g5, g6, g7⟩
  simp [Instr.storeAt, Instr.sureAddr, storeVar, run_sizeOf hT, hsz, hv, g1]

theorem stB {x y T ty pos af ag k lx id E ly lz ln off} (p : List Nat) (hm : mm id = some (.bx E ly)) (hg : Ly.go p ly = some (lz, off)) (hT : Shp X.P T ag k) (hz : lz.sz = k) (hnz : ln.sz = k) (hnl : ln.lies = true)
    (hx : OpdF st x lx) (ho : OwnP mm lx id off) (hy : OpdF st y ln) :
    OpOk X st mm ⟨none, .store T x y, ty, pos, af, none⟩ [] [(id, .bx E (Ly.pu ln p ly))] := by
  intro a w γ K Q hI hK
  obtain ⟨g, cur, h1, h2, h3⟩ := bxI hI hm
  obtain ⟨v0, g', e1, e2, e3⟩ := ownP_addr hI ho hx
  rw [h1] at e1; simp at e1; subst e1; simp [blkOf] at e2; subst e2
  obtain ⟨a1, u, b1, hc, hl, hh, hp⟩ := go_hold p hg h3
  have hv := Ly.hold_of_val hnl (hy.val hI)
  have hvl := Ly.hold_sz _ _ hv
  have hul := Ly.hold_sz _ _ hh
  have hcs : cur.size = a1.length + u.length + b1.length := by
    have := congrArg List.length hc; simpa [Nat.add_assoc] using this
  obtain ⟨w', cur', r1, r2, r3, r4, r5, r6, r7⟩ := store_run (P := X.P) (o := off) (v := a.eval y) hT h2 rfl (by rw [hvl, hnz]) (by omega) (Ly.oneCell_of_hold _ _ hv)
  have hrun : (execOp a.eval ⟨none, .store T x y, ty, pos, af, none⟩).run X.P w = .ok .skip w' := by
    simp only [execOp, e3]; simp [r1]
  unfold Oper.wp
  rw [hrun]
  have hkS : Kp (X.S γ mm) w w' := ⟨r4.1, fun b hb hn => r4.2 b hb (fun e => hn (.inr ⟨id, _, _, hm, rfl, h1, by rw [e]; rfl⟩))⟩
  have hhold := hp _ _ hv
  have hct : CtHold w' (X.S γ mm) γ id (.bx E (Ly.pu ln p ly)) := by
    refine ⟨g, cur', h1, r2, ?_⟩
    rw [r3, hc, ← hl, splice_eq (by rw [hvl, hul, hnz, hz])]
    exact Ly.hold_mono hkS (fun b hb => .inl hb) (Ng.refl _) _ _ hhold
  exact hK _ _ γ (hI.setc r5 r6 r7 hm rfl h1 rfl r4 rfl hct)

end ops
end Go.Proofs.YtiobbiamnjapgaaDoor
