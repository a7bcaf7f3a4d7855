import Derived.Test.YtiobbiamnjapgaaDoorSim27
import Derived.Scope
namespace Go.Proofs.YtiobbiamnjapgaaDoor
open Go Go.RowKit
/-- An owned block is given up, and has turned in that moment. -/
theorem Inv.dropc {X : Cx} {st mm a w γ} (h : Inv X st mm a w γ) {w' : World} (hos : w'.os = w.os) (ht : w'.tape = w.tape) (hout : w'.output = w.output) {id : Nat} {c : Ct} {v : Value} (hid : mm id = some c) (hc : c.alive = true) (hv : γ id = some v)
    (hk : Kp (fun b => blkOf v = some b) w w') : Inv X st (up mm [(id, .gone)]) a w' γ := by
  have how : ∀ b, Ow γ (up mm [(id, .gone)]) b → ∃ i c' u, i ≠ id ∧ mm i = some c' ∧ c'.alive = true ∧ γ i = some u ∧ blkOf u = some b := by
    rintro b ⟨i, c', u, h1, h2, h3, h4⟩
    rw [up_one] at h1
    by_cases e : id = i
    · simp [e] at h1; subst h1; simp [Ct.alive] at h2
    · simp [e] at h1
      exact ⟨i, c', u, fun e' => e e'.symm, h1, h2, h3, h4⟩
  have hS : ∀ b, X.S γ (up mm [(id, .gone)]) b → X.S γ mm b := fun b h => orM h (fun x => x) (fun h => by
    obtain ⟨i, c', u, _, h1, h2, h3, h4⟩ := how b h; exact ⟨i, c', u, h1, h2, h3, h4⟩)
  have hkS : Kp (X.S γ mm) w w' := ⟨hk.1, fun b hb hn => hk.2 b hb (fun e => hn (.inr ⟨id, c, v, hid, hc, hv, e⟩))⟩
  refine { h with os := hos.trans h.os, tape := ht.trans h.tape, output := hout.trans h.output, grow := Nat.le_trans h.grow hk.1, old := ?_, fresh := ?_, cts := ?_, apart := ?_, mine := ?_, sts := ?_ }
  · intro b hb hM
    rw [hk.2 b (Nat.lt_of_lt_of_le hb h.grow) (fun e => by
      rcases (h.mine b ⟨id, c, v, hid, hc, hv, e⟩).1 with h1 | h1
      · omega
      · exact hM h1)]
    exact h.old b hb hM
  · intro i hi
    rw [up_one] at hi
    by_cases e : id = i
    · simp [e] at hi
    · simp [e] at hi; exact h.fresh i hi
  · intro i c' hc'
    rw [up_one] at hc'
    by_cases e : id = i
    · simp [e] at hc'; subst hc'; trivial
    · simp [e] at hc'
      by_cases hal' : c'.alive = true
      · refine (h.cts i c' hc').mono hkS (fun b hb => .inl (hS b hb)) (Ng.refl _) ?_
        intro u b hu hb
        exact hk.2 b (h.mine b ⟨i, c', u, hc', hal', hu, hb⟩).2.1 (fun hbe => e (h.apart id i c c' v u b hid hc hc' hal' hv hu hbe hb))
      · cases c' <;> simp [Ct.alive] at hal'
        trivial
  · intro i i' c1 c2 u u' b h1 h2 h3 h4
    rw [up_one] at h1 h3
    by_cases e : id = i
    · simp [e] at h1; subst h1; simp [Ct.alive] at h2
    · by_cases e' : id = i'
      · simp [e'] at h3; subst h3; simp [Ct.alive] at h4
      · simp [e] at h1; simp [e'] at h3
        exact h.apart i i' c1 c2 u u' b h1 h2 h3 h4
  · intro b hb
    obtain ⟨i, c', u, _, h1, h2, h3, h4⟩ := how b hb
    obtain ⟨g1, g2, g3⟩ := h.mine b ⟨i, c', u, h1, h2, h3, h4⟩
    exact ⟨g1, Nat.lt_of_lt_of_le g2 hk.1, g3⟩
  · intro d ly hd
    obtain ⟨u, hu, hl⟩ := h.sts d ly hd
    exact ⟨u, hu, Ly.val_mono hkS (fun b hb => .inl (hS b hb)) (Ng.refl _) ly u hl⟩
/-- A call, by what is known of it. -/
theorem op_of_calls {P : Program} {d f : Nat} {args : List Operand} {argTypes ty pos af} {a : Act} {w : World} {K : Act → World → Prop} {Q : Exit → Act → World → Prop} {R : Ending → World → Prop}
    (hf : ∃ fn, P.funcs[f]? = some fn ∧ (fn.name == "runtime.NumGoroutine") = false ∧ fn.body.isSome = true) (hc : Calls P f (args.map a.eval).toArray w R)
    (hK : ∀ e w', R e w' → ∃ v, e = .returned v ∧ K (a.put (some d) v) w') :
    Oper.wp P ⟨some d, .call { callee := .value (.func f), args := ⟨args⟩, argTypes := argTypes }, ty, pos, af, none⟩ a w K Q := by
  obtain ⟨fn, hfn, hname, hbody⟩ := hf
  have hrun : (execOp a.eval ⟨some d, .call { callee := .value (.func f), args := ⟨args⟩, argTypes := argTypes }, ty, pos, af, none⟩).run P w = .ok (.enter f (args.map a.eval).toArray) w := by
    have e1 : fn.body.isNone = false := by cases h : fn.body <;> simp [h] at hbody ⊢
    have e2 : ¬ fn.name = "runtime.NumGoroutine" := by simpa using hname
    simp only [execOp, resolve, Act.eval]
    simp [Deferred.ofValue, invoke, callFunc, hfn, e2]
    intro e3
    rw [e3] at e1; cases e1
  unfold Oper.wp
  rw [hrun, Oper.upon_enter]
  refine hc.mono ?_
  intro e w' hR
  obtain ⟨v, rfl, hk⟩ := hK e w' hR
  exact hk
/-- One block has turned, or new ones are there. -/
def Turns (g : Option Nat) (w w' : World) : Prop := w'.os = w.os ∧ w'.tape = w.tape ∧ w'.output = w.output ∧ Kp (fun b => g = some b) w w'
/-- A function that only computes. -/
theorem fn_pure {P : Program} {f : Nat} {args : List Ly} {res : Ly} (hf : ∃ fn, P.funcs[f]? = some fn ∧ (fn.name == "runtime.NumGoroutine") = false ∧ fn.body.isSome = true)
    (h : ∀ w S γ (vs : Array Value), Ly.vals w S γ args vs.toList → Calls P f vs w fun e w' => ∃ v, e = .returned v ∧ w' = w ∧ res.val w S γ v) : FnOk P f args [] res [] := by
  refine ⟨hf, fun w S0 γ vs h1 h2 h3 h4 h5 h6 _ => (h w _ γ vs h6).mono ?_⟩
  rintro e w' ⟨v, rfl, rfl, hv⟩
  exact ⟨v, γ, rfl, ⟨rfl, rfl, rfl, Nat.le_refl _, fun _ _ _ => rfl, Ng.refl _, h2, (fun _ _ h => by cases h), (fun _ _ _ _ _ _ _ h => by cases h), (fun b ⟨_, _, _, h, _⟩ => by cases h), hv⟩⟩
/-- A function that only computes, out of what is known of the variables too. -/
theorem fn_pureG {P : Program} {f : Nat} {args : List Ly} {res : Ly} (hf : ∃ fn, P.funcs[f]? = some fn ∧ (fn.name == "runtime.NumGoroutine") = false ∧ fn.body.isSome = true)
    (h : ∀ w S γ (vs : Array Value), GF w → Ly.vals w S γ args vs.toList → Calls P f vs w fun e w' => ∃ v, e = .returned v ∧ w' = w ∧ res.val w S γ v) : FnOk P f args [] res [] := by
  refine ⟨hf, fun w S0 γ vs h1 h2 h3 h4 h5 h6 h7 => (h w _ γ vs h7.2 h6).mono ?_⟩
  rintro e w' ⟨v, rfl, rfl, hv⟩
  exact ⟨v, γ, rfl, ⟨rfl, rfl, rfl, Nat.le_refl _, fun _ _ _ => rfl, Ng.refl _, h2, (fun _ _ h => by cases h), (fun _ _ _ _ _ _ _ h => by cases h), (fun b ⟨_, _, _, h, _⟩ => by cases h), hv⟩⟩
section
variable {R : Type} {X : Cx} {l : List (Nat × Ly)} {m : List (Nat × Ct)} {md : Option R} {Q : R → Exit → Act → World → Prop}
theorem sscp {c : Code} (h : Sq X l m md (fun r => c.wp X.P (Exit.noGoto (Q r)))) : Sq X l m md (fun r => (Code.scope c).wp X.P (Q r)) := fun r a w γ hr hi => wp_scope_straight (h r a w γ hr hi)
theorem slab {i : Nat} (h : Sq X l m md (fun r => Q r .normal)) : Sq X l m md (fun r => (Code.label i).wp X.P (Q r)) := fun r a w γ hr hi => wp_label (h r a w γ hr hi)
theorem pgn (h : Sq X l m md (fun r => Q r .normal)) : Sq X l m md (fun r => Exit.noGoto (Q r) .normal) := h
theorem pgr (h : Sq X l m md (fun r => Q r .ret)) : Sq X l m md (fun r => Exit.noGoto (Q r) .ret) := h
theorem pgx {i : Nat} (h : Sq X l m md (fun r => Q r (.exit i))) : Sq X l m md (fun r => Exit.noGoto (Q r) (.exit i)) := h
end
section ops
variable {X : Cx} {st : Nat → Option Ly} {mm : Nat → Option Ct}
theorem negU {d x T ty pos af p k N} (hu : UK k N) (hd : Nat.blt d X.N = true) (hx : OpdF st x (uk k p)) :
    OpOk X st mm ⟨some d, .unOp .neg T x, ty, pos, af, none⟩ [(d, uk k ((N - p) % N))] [] :=
  ok_val hd fun a w γ hi => by
    obtain ⟨h1, _, h2⟩ := hx.val hi
    rw [hu.max] at h2
    have : (0 - (p : Int)) % (N : Int) = (((N - p) % N : Nat) : Int) := by
      rw [Int.natCast_emod, Int.ofNat_sub (by omega), show (0 : Int) - p = (N : Int) - p + (-1) * N by omega, Int.add_mul_emod_self_right]
    refine ⟨.int k (((N - p) % N : Nat) : Int), by simp only [execOp, h1]; simp only [Op.unary, Op.intArith, hu.wrap, this]; rfl, rfl, uk_b hu _ (Nat.mod_lt _ hu.pos)⟩
/-- Bits of two numbers. -/
def andZ (p q : Int) : Int := ((BitVec.ofInt 64 p &&& BitVec.ofInt 64 q).toNat : Int)
theorem andI {d x y T T2 ty pos af p q} (hd : Nat.blt d X.N = true) (hx : OpdF st x (i64 p)) (hy : OpdF st y (i64 q)) :
    OpOk X st mm ⟨some d, .binOp .and T x y T2, ty, pos, af, none⟩ [(d, i64 (wrap64 (andZ p q)))] [] := arI (fun w => by simp only [binOp, Op.intBits, w64_eq, andZ]; rfl) rfl hd hx hy
end ops
theorem rn_win {σ y x off len} (h : lk σ y = some x) : Rn σ (.win x off len) (.win y off len) := fun w S γ γ' hg => by
  have := hg y x h
  exact ⟨fun cs g => by obtain ⟨v, rfl, v0, g1, g2⟩ := g; exact ⟨v, rfl, v0, by rw [this]; exact g1, g2⟩, fun v g => by simp only [Ly.val] at g ⊢; obtain ⟨v0, g1, g2⟩ := g; exact ⟨v0, by rw [this]; exact g1, g2⟩⟩
theorem pl_win {x off len} : Pl (.win x off len) := fun _ _ _ _ => ⟨fun _ h => h, fun v h => by simp only [Ly.val] at h ⊢; exact h⟩
/-- A row of one's own, seen as a piece. -/
theorem owW {R : Type} {X : Cx} {l : List (Nat × Ly)} {m : List (Nat × Ct)} {md : Option R} {G : R → Act → World → Prop} (d : Nat) {id E ls n} (hd : lk l d = some (.own id)) (hm : lk m id = some (.sl E 1 ls)) (hn : n = ls.length)
    (K : Sq X ((d, .win id 0 n) :: l) m md G) : Sq X l m md G := by
  subst hn
  intro r a w γ hr hi
  refine K r a w γ hr { hi with sts := fun i ly h => ?_ }
  simp only [lk] at h
  cases hb : Nat.beq d i
  · rw [hb] at h; exact hi.sts i ly h
  · rw [hb] at h
    have : d = i := Nat.eq_of_beq_eq_true hb
    subst this
    simp only [cond, Option.some.injEq] at h
    subst h
    obtain ⟨v, h1, h2, _⟩ := hi.sts d _ hd
    refine ⟨v, h1, ?_⟩
    obtain ⟨u, cs, e1, ⟨e2, e3⟩, _⟩ := slI hi hm
    rw [h2] at e1; cases e1
    refine ⟨v, h2, ?_⟩
    rcases e3 with ⟨rfl, hn⟩ | ⟨g, cap, cur, rfl, _, _, h3, h4, _⟩
    · exact .inl ⟨rfl, rfl, hn⟩
    · exact .inr ⟨g, cap, 0, rfl, rfl, fun _ => rfl, h3, h4⟩
def winS (i : Int) (len : Nat) : Bool := decide (0 ≤ i) && decide (i < len)
def winC (lo hi : Int) (len : Nat) : Bool := decide (0 ≤ lo) && (decide (lo ≤ hi) && decide (hi ≤ len))
def subW {α : Type} (xs : List α) (off len : Nat) : Option (List α) := if off + len ≤ xs.length then some ((xs.drop off).take len) else none
theorem subW_le {α : Type} {xs : List α} {off len y} (h : subW xs off len = some y) : off + len ≤ xs.length := by
  unfold subW at h; split at h
  · assumption
  · cases h
theorem subW_leM {α : Type} {f : α → Ly} {xs : List α} {off len y} (h : subW xs off len = some y) : off + len ≤ (xs.map f).length := by rw [List.length_map]; exact subW_le h
theorem subW_map {α : Type} {f : α → Ly} {xs : List α} {off len y} (h : subW xs off len = some y) : sli 1 (y.map f) = sli 1 (((xs.map f).drop off).take len) := by
  unfold subW at h; split at h
  · cases h; rw [← List.map_drop, ← List.map_take]
  · cases h
/-- A piece of a row of one's own is handed over to all who read. -/
theorem frzW {R : Type} {X : Cx} {l : List (Nat × Ly)} {m : List (Nat × Ct)} {md : Option R} {G : R → Act → World → Prop} (d : Nat) {id off len E} {α : Type} {f : α → Ly} {xs y : List α} (hs : subW xs off len = some y)
    (hd : lk l d = some (.win id off len)) (hm : lk m id = some (.sl E 1 (xs.map f))) (hif : IFs (xs.map f)) (K : Sq X ((d, sli 1 (y.map f)) :: l) ((id, .gone) :: m) md G) : Sq X l m md G := by
  intro r a w γ hr hi
  rw [subW_map hs] at K
  refine K r a w γ hr ?_
  have hle := subW_leM (f := f) hs
  generalize xs.map f = ls at *
  obtain ⟨v, cs, e1, ⟨e2, e3⟩, e4, e5⟩ := slI hi hm
  obtain ⟨v1, t1, v0, f1, f2⟩ := hi.sts d _ hd
  rw [e1] at f1; cases f1
  have hdr := hi.drop id
  have hS : ∀ b, X.S γ (up (lk m) [(id, .gone)]) b → X.S γ (lk m) b := by
    rintro b (h | ⟨i, c', u, h1, h2, h3, h4⟩)
    · exact .inl h
    · rw [up_one] at h1
      by_cases e : id = i
      · simp [e] at h1; subst h1; simp [Ct.alive] at h2
      · simp [e] at h1; exact .inr ⟨i, c', u, h1, h2, h3, h4⟩
  have hhs : Ly.holds w (X.S γ (up (lk m) [(id, .gone)])) (fun _ => none) ls cs := Ly.holds_mono (Kp.refl _ _) (fun b hb => .inl (hS b hb)) (Ng.refl _) _ _ ((hif w _ γ (fun _ => none)).1 _ e4)
  obtain ⟨_, s2⟩ := holds_sub off hhs e5
  obtain ⟨s3, _⟩ := holds_sub len s2 (fun ly hl => e5 ly (List.mem_of_mem_drop hl))
  have hp : (sli 1 ((ls.drop off).take len)).val w (X.S γ (up (lk m) [(id, .gone)])) γ v1 := by
    rcases f2 with ⟨f3, f4, f5⟩ | ⟨g, cap, o, f3, f4, fo, f5, f6⟩
    · rw [f3]; subst f5; exact .inl ⟨rfl, by simp⟩
    · rcases e3 with ⟨e3, _⟩ | ⟨g', cap', cur, e3, _, h2, h3, h4, h5, h6⟩
      · rw [e3] at f3; simp [blkOf] at f3
      · subst e3
        simp [blkOf] at f3; subst f3
        have hmine := hi.mine g' ⟨id, _, _, hm, rfl, e1, rfl⟩
        have hlen : ((ls.drop off).take len).length = len := by simp; omega
        rw [f4]
        refine .inr (.inl ⟨g', o, cap, (cs.drop (off * 1)).take (len * 1), ?_, ?_, f6, hmine.2.1, ?_, fun j u hj => ?_, s3, fun ly hl => e5 ly (List.mem_of_mem_drop (List.mem_of_mem_take hl))⟩)
        · rw [hlen]
        · rw [hlen]; exact f5
        · rintro (h | ⟨i, c', u, k1, k2, k3, k4⟩)
          · exact hmine.2.2 h
          · rw [up_one] at k1
            by_cases e : id = i
            · simp [e] at k1; subst k1; simp [Ct.alive] at k2
            · simp [e] at k1
              exact e (hi.apart id i _ c' _ u g' hm rfl k1 k2 e1 k3 rfl k4)
        · rw [cell_of_heap h2, ← Array.getElem?_toList]
          rw [List.getElem?_take] at hj
          split at hj
          · rw [fo (by omega)]
            rw [List.getElem?_drop, ← h6, List.getElem?_take] at hj
            split at hj
            · rw [Nat.mul_one] at hj; exact hj
            · cases hj
          · cases hj
  have hdr' : Inv X (lk l) (lk ((id, .gone) :: m)) a w γ := by have := hdr; rwa [up_lk] at this
  refine { hdr' with sts := fun i ly h => ?_ }
  simp only [lk] at h
  cases hb : Nat.beq d i
  · rw [hb] at h; exact hdr'.sts i ly h
  · rw [hb] at h
    have : d = i := Nat.eq_of_beq_eq_true hb
    subst this
    simp only [cond, Option.some.injEq] at h
    subst h
    refine ⟨v1, t1, ?_⟩
    have e : X.S γ (lk ((id, .gone) :: m)) = X.S γ (up (lk m) [(id, .gone)]) := by rw [up_lk]; rfl
    rw [e]; exact hp
section ops
variable {X : Cx} {st : Nat → Option Ly} {mm : Nat → Option Ct}
theorem lenW {d x T ty pos af E id off len} (hT : X.P.underlying T = some (.slice E)) (hd : Nat.blt d X.N = true) (hx : OpdF st x (.win id off len)) :
    OpOk X st mm ⟨some d, .call { callee := .builtin .len, args := #[x], argTypes := #[T] }, ty, pos, af, none⟩ [(d, i64 (len : Nat))] [] :=
  len_ok hd hx fun a w γ hi v hv => by
    obtain ⟨v0, _, ⟨rfl, _, rfl⟩ | ⟨g, cap, o, _, rfl, _, h1, h2⟩⟩ := hv
    · exact ⟨by unfold Builtin.len_; simp [underlying, hT, goInt], len_b (Nat.zero_le _)⟩
    · exact ⟨by unfold Builtin.len_; simp [underlying, hT, goInt], len_b (by omega)⟩
theorem ixW {kk : IntKind} {d x i T ty pos af E E' b z p id} {off len : Nat} {α : Type} {f : α → Ly} {xs : List α} {y : α} (hw : winS p len = true) (_ : mm id = some (.sl E' 1 (xs.map f))) (hT : X.P.underlying T = some (.slice E)) (hE : TyI X.P E 1 b z) (_ : getI xs ((off : Int) + p) = some y)
    (hd : Nat.blt d X.N = true) (hx : OpdF st x (.win id off len)) (hi : OpdF st i (.cell (cpI kk p))) :
    OpOk X st mm ⟨some d, .indexAddr T x i, ty, pos, af, none⟩ [(d, .ptr id (Int.toNat ((off : Int) + p) * 1))] [] :=
  ok_val hd fun a w γ hI => by
    simp only [winS, Bool.and_eq_true, decide_eq_true_eq] at hw
    obtain ⟨h0, hl⟩ := hw
    obtain ⟨g1, _⟩ := hi.val hI
    obtain ⟨v0, e1, ⟨_, _, h⟩ | ⟨g, cap, o, e2, e3, e4, e5, e6⟩⟩ := hx.val hI
    · omega
    · rw [e4 (by omega)] at e3
      refine ⟨.pointer (some ⟨g, Int.toNat ((off : Int) + p) * 1, none⟩), ?_, v0, g, e1, e2, rfl⟩
      simp only [execOp, e3, g1]
      rw [show Int.toNat ((off : Int) + p) * 1 = off + p.toNat * 1 by omega]
      simp [Instr.indexAt, asIntOf, underlying, hT, h0, hl, run_sizeOf' hE, add0]
theorem slW {d x lo hi T ty pos af E E' b z p q id off len} {ls : List Ly} (hw : winC p q len = true) (_ : mm id = some (.sl E' 1 ls)) (hT : X.P.underlying T = some (.slice E)) (hE : TyI X.P E 1 b z)
    (hd : Nat.blt d X.N = true) (hx : OpdF st x (.win id off len)) (hlo : BndF st 0 lo p) (hhi : BndF st len hi q) :
    OpOk X st mm ⟨some d, .slice T x lo hi none, ty, pos, af, none⟩ [(d, .win id (off + p.toNat) (q.toNat - p.toNat))] [] :=
  ok_val hd fun a w γ hI => by
    simp only [winC, Bool.and_eq_true, decide_eq_true_eq] at hw
    obtain ⟨h0, h1, h2⟩ := hw
    have hlo' : (lo.map a.eval = none ∧ p = 0) ∨ ∃ kk, lo.map a.eval = some (.int kk p) := by
      rcases bnd_val hI hlo with ⟨rfl, h⟩ | ⟨x, kk, rfl, h⟩
      · exact .inl ⟨rfl, h⟩
      · exact .inr ⟨kk, by simp [h]⟩
    have hhi' : (hi.map a.eval = none ∧ q = (len : Nat)) ∨ ∃ kk, hi.map a.eval = some (.int kk q) := by
      rcases bnd_val hI hhi with ⟨rfl, h⟩ | ⟨x, kk, rfl, h⟩
      · exact .inl ⟨rfl, h⟩
      · exact .inr ⟨kk, by simp [h]⟩
    obtain ⟨v0, e1, ⟨e2, e3, rfl⟩ | ⟨g, cap, o, e2, e3, e4, e5, e6⟩⟩ := hx.val hI
    · obtain rfl : q = 0 := by omega
      obtain rfl : p = 0 := by omega
      refine ⟨.slice none 0 0, ?_, v0, e1, .inl ⟨rfl, e3, rfl⟩⟩
      have := run_sliceBounds (P := X.P) (w := w) (isS := true) (len := 0) (cap := 0) hlo' hhi' (by omega) (by omega) (by omega)
      simp only [execOp, e2]
      simp [Instr.sliceAt, Instr.slice, underlying, hT, this, run_sizeOf' hE]
    · have hb := run_sliceBounds (P := X.P) (w := w) (isS := true) (len := len) (cap := cap) hlo' hhi' h0 h1 (by omega)
      by_cases hc : cap = p.toNat
      · subst hc
        refine ⟨.slice (some ⟨g, o, none⟩) (q.toNat - p.toNat) (p.toNat - p.toNat), ?_, v0, e1, .inr ⟨g, p.toNat - p.toNat, o, e2, rfl, fun h => by omega, by omega, by omega⟩⟩
        simp only [execOp, e3]
        simp [Instr.sliceAt, Instr.slice, underlying, hT, hb, run_sizeOf' hE]
      · refine ⟨.slice (some ⟨g, o + p.toNat * 1, none⟩) (q.toNat - p.toNat) (cap - p.toNat), ?_, v0, e1, .inr ⟨g, cap - p.toNat, o + p.toNat * 1, e2, rfl, fun h => by rw [e4 (by omega)]; omega, by omega, by omega⟩⟩
        simp only [execOp, e3]
        simp [Instr.sliceAt, Instr.slice, underlying, hT, hb, run_sizeOf' hE, hc, add0]
end ops
/-- A type's method, as its row has it. -/
def methRow (P : Program) (T : Nat) (nm : String) : Option (Bool × Option (Nat × Bool)) := (P.info? T).bind fun i => (i.methods.find? (·.name == nm)).map fun m => (m.path.isEmpty, m.func)
def MethF (P : Program) (T : Nat) (nm : String) (f : Nat) : Prop := methRow P T nm = some (true, some (f, false)) ∧ ∃ fs, P.underlying T = some (.struct fs)
section call
variable {X : Cx} {st : Nat → Option Ly} {mm : Nat → Option Ct}
theorem run_method {P : Program} {w : World} {T : Nat} {nm : String} {f k : Nat} {u : Value} (hm : MethF P T nm f) : (method (k + 1) T u nm).run P w = .ok (f, u) w := by
  obtain ⟨hr, fs, h5⟩ := hm
  obtain ⟨i, m, h1, h2, h3, h4⟩ : ∃ i m, P.info? T = some i ∧ i.methods.find? (·.name == nm) = some m ∧ m.path = #[] ∧ m.func = some (f, false) := by
    unfold methRow at hr
    cases h1 : P.info? T with
    | none => rw [h1] at hr; cases hr
    | some i =>
      rw [h1] at hr
      simp only [Option.bind_some] at hr
      cases h2 : i.methods.find? (·.name == nm) with
      | none => rw [h2] at hr; cases hr
      | some m =>
        rw [h2] at hr
        simp only [Option.map_some, Option.some.injEq, Prod.mk.injEq] at hr
        exact ⟨i, m, rfl, h2, by simpa using hr.1, hr.2⟩
  unfold method
  have e1 : (typeInfo T).run P w = .ok i w := by simp [typeInfo, h1]
  have e2 : (underlying T).run P w = .ok (.struct fs) w := by simp [underlying, h5]
  simp only [Sem.run_bind, e1, Result.andThen_ok, h2, h3, h4]
  simp [follow, receiverAt, e2, Place.get]
theorem mkIf {d T x ty pos af ly fs} (hT : X.P.underlying T = some (.struct fs)) (hd : Nat.blt d X.N = true) (hx : OpdF st x ly) :
    OpOk X st mm ⟨some d, .makeInterface T x, ty, pos, af, none⟩ [(d, .ifc T ly)] [] :=
  ok_val hd fun a w γ hi => by
    refine ⟨.iface T (a.eval x), ?_, ⟨_, rfl, hx.val hi⟩⟩
    simp only [execOp]
    simp [Instr.makeInterface, underlying, hT]
/-- A call of a method of an interface's value whose type is known. -/
theorem callI {d r nm T f args argTypes ty pos af ly0 ly1 largs mi res mo res' em} (ρ τ σ : List (Nat × Nat)) (hr : OpdF st r (.ifc T ly0)) (hm : MethF X.P T nm f) (hf : FnOk X.P f (ly1 :: largs) mi res mo) (hr1 : Rn ρ ly0 ly1)
    (ha : ArgF st ρ args largs) (hmi : ∀ x c', lk mi x = some c' → ∃ y c, lk ρ x = some y ∧ mm y = some c ∧ RnC ρ c c') (hρm : NmM mi ρ) (hρn : nodupB (ρ.map (·.2)) = true)
    (hτ : Fresh mm τ) (hσ : SigT τ ρ σ) (hσn : nodupB (σ.map (·.2)) = true) (hem : BackM σ ρ mo em) (hall : AllIn em (ρ.map (·.2))) (hall2 : AllIn em (τ.map (·.1)))
    (hres : Rn σ res res') (hd : Nat.blt d X.N = true) :
    OpOk X st mm ⟨some d, .call { callee := .invoke r nm, args := ⟨args⟩, argTypes := argTypes }, ty, pos, af, none⟩ [(d, res')] em := by
  refine callR ρ τ σ hf rfl (fun fn hfn hname hbody a w γ hi => ?_) hmi hρm hρn hτ hσ hσn hem hall hall2 hres hd
  obtain ⟨u, hu, hu2⟩ := hr.val hi
  refine ⟨#[u] ++ (args.map a.eval).toArray, ?_, fun γc S hgc hSc => ?_⟩
  · have e1 : fn.body.isNone = false := by cases h : fn.body <;> simp [h] at hbody ⊢
    have e2 : ¬ fn.name = "runtime.NumGoroutine" := by simpa using hname
    have hm' : (method (X.P.types.size + Made.depth) T u nm).run X.P w = .ok (f, u) w := run_method (k := X.P.types.size + (Made.depth - 1)) hm
    simp only [execOp, resolve]
    simp [invoke, callMethod, hu, hm', callFunc, hfn, e2]
    have e3 : ¬ fn.body = none := by intro h; rw [h] at e1; cases e1
    rw [if_neg e3, List.take_of_length_le (by simp)]
  · simp only [Array.toList_append, List.cons_append, List.nil_append, Ly.vals]
    refine ⟨u, _, rfl, Ly.val_mono (Kp.refl _ _) (fun b hb => .inl (hSc b hb)) (Ng.refl _) _ _ ((hr1 w _ γ γc hgc).2 _ hu2), by simpa using argF_vals hi hgc hSc ha⟩
end call
theorem zr_por : Zr (.por 0) [.pointer none] := fun _ _ _ => ⟨_, rfl, .inl rfl⟩
theorem kAny {st : Nat → Option Ly} {v : Value} : OpdF st (.const v) .any := fun _ _ _ => trivial
theorem szk {a b k : Nat} (h1 : a = k) (h2 : b = k) : a = b := h1.trans h2.symm
theorem slpk {R τ : Type} {X : Cx} {l m} {k : τ → Option R} {t : τ} {G : R → Act → World → Prop} (h : Sq X l m (k t) G) : Sq X l m (lpK k (.go t)) G := h
end Go.Proofs.YtiobbiamnjapgaaDoor
