import Derived.Test.YtiobbiamnjapgaaDoorSim26
import Derived.Lib.AppendStr
import Derived.Lib.Builder
import Derived.Lib.UnsafeStr
namespace Go.Proofs.YtiobbiamnjapgaaDoor
open Go Go.RowKit
/-! ### What is nil at first, and owned -/
def nilM (ys : List (Nat × Nat × Nat)) : List (Nat × Ct) := ys.map fun e => (e.1, .sl e.2.1 e.2.2 [])
def NilIn (ys : List (Nat × Nat × Nat)) (γ : Nm) : Prop := ∀ e ∈ ys, γ e.1 = some (.slice none 0 0)
def FreshN (mm : Nat → Option Ct) : List (Nat × Nat × Nat) → Prop
  | [] => True
  | e :: r => mm e.1 = none ∧ FreshN mm r
theorem up_cons (mm : Nat → Option Ct) (i : Nat) (c : Ct) (l : List (Nat × Ct)) : up mm ((i, c) :: l) = up (up mm l) [(i, c)] := by
  funext d
  simp only [up, lk]
  cases Nat.beq i d <;> rfl
theorem lk_nilM {ys : List (Nat × Nat × Nat)} {y : Nat} (h : ∀ e ∈ ys, e.1 ≠ y) : lk (nilM ys) y = none := by
  induction ys with
  | nil => rfl
  | cons e ys ih =>
    have h1 := h e List.mem_cons_self
    have hb : Nat.beq e.1 y = false := by
      cases hb : Nat.beq e.1 y
      · rfl
      · exact absurd (Nat.eq_of_beq_eq_true hb) h1
    simp only [nilM, List.map_cons, lk, hb, cond]
    exact ih fun e he => h e (List.mem_cons_of_mem _ he)
theorem Inv.nils {X : Cx} {st a w} : ∀ (ys : List (Nat × Nat × Nat)) {γ mm}, Inv X st mm a w γ → FreshN mm ys → nodupB (ys.map (·.1)) = true → ∃ γ', Inv X st (up mm (nilM ys)) a w γ' ∧ Ng γ γ' ∧ NilIn ys γ' ∧ ∀ z, mm z = none → (∀ e ∈ ys, e.1 ≠ z) → γ' z = none
  | [], γ, mm, hI, _, _ => ⟨γ, hI, Ng.refl _, (fun _ h => by cases h), fun z hz _ => hI.fresh z hz⟩
  | e :: ys, γ, mm, hI, hf, hn => by
    simp only [List.map_cons, nodupB, Bool.and_eq_true, Bool.not_eq_true'] at hn
    obtain ⟨γ1, h1, h2, h3, h4⟩ := Inv.nils ys hI hf.2 hn.2
    have hne : ∀ e' ∈ ys, e'.1 ≠ e.1 := by
      intro e' he' h
      have : (ys.map (·.1)).any (Nat.beq e.1) = true := List.any_eq_true.2 ⟨e'.1, List.mem_map.2 ⟨e', he', rfl⟩, by rw [h]; simp⟩
      rw [this] at hn; simp at hn
    have hfr : up mm (nilM ys) e.1 = none := by
      simp only [up, lk_nilM hne]; exact hf.1
    have := h1.new (w' := w) (y := e.1) (ct := .sl e.2.1 e.2.2 []) (v := .slice none 0 0) rfl rfl rfl (Kp.refl _ _) hfr rfl
      (fun S γ' _ _ _ hy' => ⟨_, [], hy', ⟨by simp, .inl ⟨rfl, rfl⟩⟩, rfl, fun _ h => by cases h⟩) (fun b hb => by simp [blkOf] at hb)
    rw [← up_cons] at this
    refine ⟨_, this, ?_, ?_, ?_⟩
    · intro id v hv
      have hv1 := h2 id v hv
      by_cases he : e.1 = id
      · subst he; rw [hI.fresh e.1 hf.1] at hv; cases hv
      · simp [Inv.gset, he, hv1]
    · intro e' he'
      rcases List.mem_cons.1 he' with rfl | he'
      · simp [Inv.gset]
      · have := hne e' he'
        simp only [Inv.gset]
        rw [if_neg (fun h => this h.symm)]; exact h3 e' he'
    · intro z hz hzy
      have := hzy e List.mem_cons_self
      simp only [Inv.gset]
      rw [if_neg this]
      exact h4 z hz fun e' he' => hzy e' (List.mem_cons_of_mem _ he')
def inN (ys : List (Nat × Nat × Nat)) (y : Nat) : Bool := ys.any fun e => Nat.beq e.1 y
def ZrO (ys : List (Nat × Nat × Nat)) (ly : Ly) (cs : List Value) : Prop := ∀ w S γ, NilIn ys γ → ly.hold w S γ cs
def ZrOs (ys : List (Nat × Nat × Nat)) (l : List Ly) (cs : List Value) : Prop := ∀ w S γ, NilIn ys γ → Ly.holds w S γ l cs
theorem zo_of {ys ly cs} (h : Zr ly cs) : ZrO ys ly cs := fun w S γ _ => h w S γ
theorem zo_own {ys y} (h : inN ys y = true) : ZrO ys (.own y) [.slice none 0 0] := fun w S γ hn => by
  obtain ⟨e, he, hy⟩ := List.any_eq_true.1 h
  have := Nat.eq_of_beq_eq_true hy
  subst this
  exact ⟨_, rfl, hn e he, rfl⟩
theorem zo_por {ys y} : ZrO ys (.por y) [.pointer none] := fun _ _ _ _ => ⟨_, rfl, .inl rfl⟩
theorem zo_agg {ys l cs} (h : ZrOs ys l cs) : ZrO ys (.agg l) cs := fun w S γ hn => by simp only [Ly.hold]; exact h w S γ hn
theorem zos_nil {ys} : ZrOs ys [] [] := fun _ _ _ _ => rfl
theorem zos_cons {ys ly l c1 c2} (h1 : ZrO ys ly c1) (h2 : ZrOs ys l c2) : ZrOs ys (ly :: l) (c1 ++ c2) := fun w S γ hn => ⟨c1, c2, rfl, h1 w S γ hn, h2 w S γ hn⟩
section ops
variable {X : Cx} {st : Nat → Option Ly} {mm : Nat → Option Ct}
theorem alOw {d T ty pos af y k b z ly} (ys : List (Nat × Nat × Nat)) (hT : TyI X.P T k b z) (hz : ZrO ys ly z.cells.toList) (hf : FreshN mm ys) (hn : nodupB (y :: ys.map (·.1)) = true) (hy : mm y = none) (hd : Nat.blt d X.N = true) :
    OpOk X st mm ⟨some d, .alloc T, ty, pos, af, none⟩ [(d, .own y)] ((y, .bx T ly) :: nilM ys) := by
  intro a w γ K Q hI hK
  simp only [nodupB, Bool.and_eq_true, Bool.not_eq_true'] at hn
  obtain ⟨γ1, h1, h2, h3, h4⟩ := hI.nils ys hf hn.2
  have hne : ∀ e' ∈ ys, e'.1 ≠ y := by
    intro e' he' h
    have : (ys.map (·.1)).any (Nat.beq y) = true := List.any_eq_true.2 ⟨e'.1, List.mem_map.2 ⟨e', he', rfl⟩, by rw [h]; simp⟩
    rw [this] at hn; simp at hn
  have hfr : up mm (nilM ys) y = none := by simp only [up, lk_nilM hne]; exact hy
  have hnew := h1.new (w' := w.alloc (.cells z.cells T)) (y := y) (ct := .bx T ly) (v := .pointer (some ⟨w.heap.size, 0, none⟩)) rfl rfl rfl (Kp_alloc _ _ _) hfr rfl
    (fun S γ' _ _ hg hy' => ⟨w.heap.size, z.cells, hy', heap_new _ _, hz _ _ _ (fun e he => hg _ _ (h3 e he))⟩) (fun b hb => by simp [blkOf] at hb; subst hb; simp)
  rw [← up_cons] at hnew
  have hrun : (execOp a.eval ⟨some d, .alloc T, ty, pos, af, none⟩).run X.P w = .ok (.value (.pointer (some ⟨w.heap.size, 0, none⟩))) (w.alloc (.cells z.cells T)) := by
    simp only [execOp]; simp [Instr.alloc, run_zeroValue hT, newVar, newRow]
  unfold Oper.wp
  rw [hrun]
  exact hK _ _ _ (hnew.put (d := d) (ly := .own y) (by simpa using hd) ⟨by simp [Inv.gset], rfl⟩)
theorem bldO {d T parts ty pos af pl k b z lz l} (ys : List (Nat × Nat × Nat)) (hT : Plc X.P T pl) (hE : TyI X.P T k b z) (hz : ZrO ys lz z.cells.toList) (hf : FreshN mm ys) (hn : nodupB (ys.map (·.1)) = true) (hp : BPart st pl parts lz (.agg l)) (hd : Nat.blt d X.N = true) :
    OpOk X st mm ⟨some d, .build T ⟨parts⟩, ty, pos, af, none⟩ [(d, .agg l)] (nilM ys) := by
  intro a w γ K Q hI0 hK
  obtain ⟨γ1, hI, h2, h3, h4⟩ := hI0.nils ys hf hn
  obtain ⟨fs, h1, h2⟩ := hT
  obtain ⟨cells', g1, g2⟩ := fill_struct hI parts lz (.agg l) z.cells hp (hz _ _ _ h3)
  have hpl : (fs.mapM (fun f => (do pure (f.offset, ← sizeOf f.type) : Sem (Nat × Nat)))).run X.P w = .ok pl.toArray w := by
    have e : fs.mapM (fun f => (do pure (f.offset, ← sizeOf f.type) : Sem (Nat × Nat))) = List.toArray <$> (fs.toList.mapM (fun f => (do pure (f.offset, ← sizeOf f.type) : Sem (Nat × Nat)))) := by
      conv => lhs; rw [← Array.toArray_toList (xs := fs)]
      rw [List.mapM_toArray]
    rw [e]; simp only [Sem.run_map, run_places _ _ h2, Result.andThen_ok]
  have hrun : (execOp a.eval ⟨some d, .build T ⟨parts⟩, ty, pos, af, none⟩).run X.P w = .ok (.value (.agg cells')) w := by
    simp only [execOp, Instr.build]
    have hfill : Instr.fill (fun i => pl.toArray[i]?) z.cells (parts.map fun (i, x) => (i, a.eval x)) = some cells' := by simpa using g1
    simp only [Sem.run_bind, run_zeroValue hE, Result.andThen_ok, underlying, run_program, h1, Sem.run_pure, hpl]
    simp only [List.map_toArray, hfill]
    rfl
  unfold Oper.wp
  rw [hrun]
  exact hK _ _ _ (hI.put (d := d) (ly := .agg l) (by simpa using hd) ⟨_, rfl, by simpa [Ly.hold] using g2⟩)

/-! ### Bytes of a string, appended -/
def ub (b : UInt8) : Ly := u8 b.toNat
theorem if_ub {x} : IF (ub x) := if_cell _
theorem pl_ub {x} : Pl (ub x) := pl_u8
def nilI : Ly := .cell (cpX .nilIface rfl)
theorem if_nilI : IF nilI := if_cell _
theorem kNI : OpdF st (.const .nilIface) nilI := fun _ _ _ => by simp [nilI, Ly.val, cpX]
theorem holds_ub {w S γ} : ∀ (s : List UInt8), Ly.holds w S γ (s.map ub) (s.map fun b => Value.int .u8 b.toNat)
  | [] => rfl
  | b :: s => ⟨[_], _, rfl, ⟨_, rfl, rfl, by have := b.toNat_lt; simp [IntKind.min, IntKind.signed], by have := b.toNat_lt; simp [IntKind.max, IntKind.bits, IntKind.signed]; omega⟩, holds_ub s⟩
/-- append: the bytes of a string onto an owned slice. -/
theorem appS {d s x T U ty pos af y id E b z} {xs str0 zs : List UInt8} (hz : appM b xs str0 = some zs) (hm : mm id = some (.sl E 1 (xs.map ub))) (hT : X.P.underlying T = some (.slice E)) (hU : X.P.underlying U = some .string) (hE : TyI X.P E 1 b z) (hz0 : z = .int .u8 0) (hb1 : b = 1)
    (hs : OpdF st s (.own id)) (hx : OpdF st x (str str0)) (hy : mm y = none) (hd : Nat.blt d X.N = true) :
    OpOk X st mm ⟨some d, .call { callee := .builtin .append, args := #[s, x], argTypes := #[T, U] }, ty, pos, af, none⟩ [(d, .own y)] [(y, .sl E 1 (zs.map ub)), (id, .gone)] := by
  subst hz0 hb1
  intro a w γ K Q hI hK
  unfold appM at hz
  split at hz
  case isFalse => cases hz
  rename_i hle
  obtain ⟨hbytes, h63⟩ := hle
  cases hz
  obtain ⟨i, hi, hz0, hsz, hby⟩ := hE
  obtain ⟨v, cs, e1, e2, e3, e4⟩ := slI hI hm
  obtain ⟨hv, hv1⟩ := hs.val hI
  have hvs : a.eval s = v := by rw [hv] at e1; simpa using e1
  rw [List.length_map] at e2
  obtain ⟨hxv, hxl⟩ := hx.val hI
  have hss : (ByteArray.mk str0.toArray).size = str0.length := by simp [ByteArray.size]
  have hsc : Lib.strCells ⟨str0.toArray⟩ = str0.map fun b => Value.int .u8 b.toNat := by simp [Lib.strCells]
  obtain ⟨v', w', r1, r2, r3, r4⟩ := Lib.run_append_own_string (P := X.P) w 0 T U ty E i hT hU hi hz0 hsz hby v xs.length cs e2 ⟨str0.toArray⟩ (by rw [hss]; unfold maxLen; omega) (by rw [hss]; omega) (Nat.zero_le _)
  rw [hss, hsc] at r2
  have hob : v.ownBlock = blkOf v := by
    rcases e2.2 with ⟨rfl, _⟩ | ⟨g, cap, cur, rfl, _⟩ <;> rfl
  have hrun : (execOp a.eval ⟨some d, .call { callee := .builtin .append, args := #[s, x], argTypes := #[T, U] }, ty, pos, af, none⟩).run X.P w = .ok (.value v') w' := by
    simp only [execOp, resolve]
    simp [invoke, builtin, hvs, hxv, r1]
  have hk : Kp (fun b => blkOf v = some b) w w' := ⟨r3.size, fun b hb' hn => r3.block b hb' (by rw [hob]; exact fun h => hn h.symm)⟩
  have hkS : Kp (X.S γ mm) w w' := ⟨r3.size, fun b hb' hn => hk.2 b hb' (fun h => hn (.inr ⟨id, _, v, hm, rfl, e1, h⟩))⟩
  have hone : v'.oneCell' = true := by rcases r2.2 with ⟨rfl, _⟩ | ⟨g, cap, cur, rfl, _⟩ <;> rfl
  have hblk : ∀ b, blkOf v' = some b → (blkOf v = some b ∨ w.heap.size ≤ b) := by
    intro b hb
    rcases e2 with ⟨hcl, ⟨rfl, hn0⟩ | ⟨g, cap0, cur, rfl, _, g2, g3, g4, g5, g6⟩⟩
    · obtain ⟨v2, w2, q1, q2, _, _⟩ := Lib.run_append_own_string (P := X.P) w w.heap.size T U ty E i hT hU hi hz0 hsz hby (.slice none 0 0) xs.length cs ⟨hcl, .inl ⟨rfl, hn0⟩⟩ ⟨str0.toArray⟩ (by rw [hss]; unfold maxLen; omega) (by rw [hss]; omega) (Nat.le_refl _)
      rw [r1] at q1
      obtain ⟨rfl, rfl⟩ : v' = v2 ∧ w' = w2 := by simpa using q1
      rcases q2.2 with ⟨rfl, _⟩ | ⟨g, cap1, cur1, rfl, hge, _⟩
      · simp [blkOf] at hb
      · simp [blkOf] at hb; subst hb; exact .inr hge
    · have hsrc : Src X.P i.size U (.string ⟨str0.toArray⟩) (ByteArray.mk str0.toArray).size (byteCells ⟨str0.toArray⟩) w := by rw [hsz]; exact Src.ofString w hU _
      by_cases hroom : xs.length + str0.length ≤ cap0
      · have hr2 := run_append_room_src (P := X.P) w T U ty E i hT hi g 0 xs.length cap0 _ _ _ hsrc (by rw [hss]; exact hroom)
          (fun j hj => by
            rw [byteCells_length, hss] at hj
            rw [cell_of_heap g2, hsz]
            have : 0 + xs.length * 1 + j < cur.size := by omega
            rw [Array.getElem?_eq_getElem this]; rfl)
          (fun j hj => by simp [World.frozen?, g2])
        rw [r1] at hr2
        simp at hr2
        rw [hr2.1] at hb
        exact .inl hb
      · have hold : (Builtin.firstCells i.size xs.length (.slice (some ⟨g, 0, none⟩) xs.length cap0)).run X.P w.drew = .ok cs.toArray w.drew :=
          run_firstCells_some w.drew i.size xs.length ⟨g, 0, none⟩ xs.length cap0 cs (by rw [hsz]; exact hcl) (fun j u hj => by
            rw [add0, Nat.zero_add]
            have : w.drew.cell? ⟨g, j, none⟩ = w.cell? ⟨g, j, none⟩ := rfl
            rw [this, cell_of_heap g2, ← Array.getElem?_toList]
            rw [← g6, List.getElem?_take] at hj
            split at hj
            · exact hj
            · cases hj)
        have hr2 := run_append_grow_src (P := X.P) w T U ty E i _ hT hi hz0 (some ⟨g, 0, none⟩) xs.length cap0 cs hold _ _ _ hsrc (by rw [hss]; omega) (by rw [hss]; omega) (growslice_fits (by rw [hss]; omega) (by rw [hby, hss]; omega))
        rw [r1] at hr2
        simp at hr2
        rw [hr2.1] at hb
        simp [blkOf] at hb; subst hb
        exact .inr (Nat.le_refl _)
  unfold Oper.wp
  rw [hrun]
  have hinv := hI.replace r3.os r3.tape r3.output hm rfl e1 hk (y := y) (ct := .sl E 1 ((xs ++ str0).map ub)) (v' := v') hy rfl
    (fun S γ' hS hng hy' => by
      refine ⟨v', cs ++ str0.map (fun b => Value.int .u8 b.toNat), hy', by simpa using r2, ?_, ?_⟩
      · rw [List.map_append]
        exact holds_append (Ly.holds_mono hkS hS hng _ _ e3) (holds_ub _)
      · intro ly hly
        obtain ⟨x, _, rfl⟩ := List.mem_map.1 hly; rfl)
    (fun b hb' => ⟨hblk b hb', by
      rcases r2.2 with ⟨rfl, _⟩ | ⟨g, cap, cur, rfl, _, h2, _⟩
      · simp [blkOf] at hb'
      · simp [blkOf] at hb'; subst hb'
        rcases Nat.lt_or_ge g w'.heap.size with h | h
        · exact h
        · simp [Array.getElem?_eq_none h] at h2⟩)
  exact hK _ _ _ (hinv.put (d := d) (v := v') (ly := .own y) (by simpa using hd) ⟨by simp [Inv.gset], hone⟩)
end ops
end Go.Proofs.YtiobbiamnjapgaaDoor
