import Derived.Test.YtiobbiamnjapgaaDoorSim25
namespace Go.Proofs.YtiobbiamnjapgaaDoor
open Go Go.RowKit
/-! ### Lending -/
/-- What is known of it hangs on no block. -/
def Pl (ly : Ly) : Prop := ∀ w S S' γ, (∀ cs, ly.hold w S γ cs → ly.hold w S' γ cs) ∧ (∀ v, ly.val w S γ v → ly.val w S' γ v)
def Pls (l : List Ly) : Prop := ∀ w S S' γ, (∀ cs, Ly.holds w S γ l cs → Ly.holds w S' γ l cs) ∧ (∀ v, Ly.vals w S γ l v → Ly.vals w S' γ l v)
theorem pl_cell (p : CP) (h : ∀ w S S' v, p.p w S v → p.p w S' v) : Pl (.cell p) := fun w S S' γ => ⟨fun cs ⟨v, h1, h2⟩ => ⟨v, h1, h _ _ _ _ h2⟩, fun v h1 => by simp only [Ly.val] at h1 ⊢; exact h _ _ _ _ h1⟩
theorem pl_i64 {x} : Pl (i64 x) := pl_cell _ fun _ _ _ _ h => h
theorem pl_i32 {x} : Pl (i32 x) := pl_cell _ fun _ _ _ _ h => h
theorem pl_u8 {x} : Pl (u8 x) := pl_cell _ fun _ _ _ _ h => h
theorem pl_u32 {x} : Pl (u32 x) := pl_cell _ fun _ _ _ _ h => h
theorem pl_u64 {x} : Pl (u64 x) := pl_cell _ fun _ _ _ _ h => h
theorem pl_bl {x} : Pl (bl x) := pl_cell _ fun _ _ _ _ h => h
theorem pl_str {x} : Pl (str x) := pl_cell _ fun _ _ _ _ h => h
theorem pl_own {x} : Pl (.own x) := fun _ _ _ _ => ⟨fun _ h => h, fun v h => by simp only [Ly.val] at h ⊢; exact h⟩
theorem pl_por {x} : Pl (.por x) := fun _ _ _ _ => ⟨fun _ h => h, fun v h => by simp only [Ly.val] at h ⊢; exact h⟩
theorem pls_nil : Pls [] := fun _ _ _ _ => ⟨fun _ h => h, fun v h => by simpa [Ly.vals] using h⟩
theorem pls_cons {ly l} (h1 : Pl ly) (h2 : Pls l) : Pls (ly :: l) := fun w S S' γ =>
  ⟨fun cs h => by obtain ⟨c1, c2, rfl, g1, g2⟩ := h; exact ⟨c1, c2, rfl, (h1 w S S' γ).1 _ g1, (h2 w S S' γ).1 _ g2⟩,
   fun v h => by
     simp only [Ly.vals] at h ⊢
     obtain ⟨u, r, rfl, g1, g2⟩ := h; exact ⟨u, r, rfl, (h1 w S S' γ).2 _ g1, (h2 w S S' γ).2 _ g2⟩⟩
theorem pls_map {α : Type} {f : α → Ly} (h : ∀ x, Pl (f x)) : ∀ xs : List α, Pls (xs.map f)
  | [] => pls_nil
  | x :: xs => pls_cons (h x) (pls_map h xs)
theorem pl_agg {l} (h : Pls l) : Pl (.agg l) := fun w S S' γ =>
  ⟨fun cs g => by simp only [Ly.hold] at g ⊢; exact (h w S S' γ).1 cs g,
   fun v g => by simp only [Ly.val] at g ⊢; obtain ⟨cs, rfl, g⟩ := g; exact ⟨cs, rfl, (h w S S' γ).1 _ g⟩⟩
theorem pl_tup {l} (h : Pls l) : Pl (.tup l) := fun w S S' γ =>
  ⟨fun cs g => by simp [Ly.hold] at g,
   fun v g => by simp only [Ly.val] at g ⊢; obtain ⟨cs, rfl, g⟩ := g; exact ⟨cs, rfl, (h w S S' γ).2 _ g⟩⟩
def PlC : Ct → Prop
  | .sl _ _ ls => Pls ls
  | .bx _ ly => Pl ly
  | _ => True
def PlM : List (Nat × Ct) → Prop
  | [] => True
  | (_, c) :: r => PlC c ∧ PlM r
theorem PlM.get : ∀ {m : List (Nat × Ct)}, PlM m → ∀ {x c}, lk m x = some c → PlC c
  | [], _, _, _, h => by cases h
  | (i, c0) :: r, hh, x, c, h => by
    simp only [lk] at h
    cases hb : Nat.beq i x
    · rw [hb] at h; exact PlM.get hh.2 h
    · rw [hb] at h; simp at h; subst h; exact hh.1
theorem CtHold.pl {w S S' γ id c} (h : CtHold w S γ id c) (hp : PlC c) : CtHold w S' γ id c := by
  cases c with
  | gone => trivial
  | sl E k ls => obtain ⟨v, cs, h1, h2, h3, h4⟩ := h; exact ⟨v, cs, h1, h2, (hp _ _ _ _).1 _ h3, h4⟩
  | bx E ly => obtain ⟨g, cur, h1, h2, h3⟩ := h; exact ⟨g, cur, h1, h2, (hp _ _ _ _).1 _ h3⟩
  | ob o => exact h
def lentB (lt : List Nat) (id : Nat) : Bool := lt.any (Nat.beq id)
def LArg (st : Nat → Option Ly) (mm : Nat → Option Ct) (lt : List Nat) (x : Operand) (ly' : Ly) : Prop :=
  ∃ id, lentB lt id = true ∧ ((OpdF st x (.own id) ∧ ((∃ E k ls, mm id = some (.sl E k ls) ∧ IFs ls ∧ ly' = sli k ls) ∨ (∃ E ly, mm id = some (.bx E ly) ∧ IF ly ∧ ly' = .ref ly))) ∨
    ∃ off len E ls, OpdF st x (.win id off len) ∧ mm id = some (.sl E 1 ls) ∧ IFs ls ∧ off + len ≤ ls.length ∧ ly' = sli 1 ((ls.drop off).take len))
def ArgL (st : Nat → Option Ly) (mm : Nat → Option Ct) (ρ : List (Nat × Nat)) (lt : List Nat) : List Operand → List Ly → Prop
  | [], [] => True
  | x :: xs, ly' :: lys => ((∃ ly, OpdF st x ly ∧ Rn ρ ly ly') ∨ LArg st mm lt x ly') ∧ ArgL st mm ρ lt xs lys
  | _, _ => False
section
variable {X : Cx} {st : Nat → Option Ly} {mm : Nat → Option Ct}
theorem larg_val {a w γ γc S lt x ly'} (hi : Inv X st mm a w γ) (hS : ∀ b, S b → X.S γ mm b)
    (hL : ∀ id c v b, lentB lt id = true → mm id = some c → c.alive = true → γ id = some v → blkOf v = some b → ¬ S b) (h : LArg st mm lt x ly') : ly'.val w S γc (a.eval x) := by
  obtain ⟨id, h0, h⟩ := h
  rcases h with ⟨hx, h⟩ | ⟨off, len, E, ls, hx, hm, hif, hle, rfl⟩
  rotate_left
  · obtain ⟨v, cs, e1, ⟨e2, e3⟩, e4, e5⟩ := slI hi hm
    obtain ⟨v0, f1, f2⟩ := hx.val hi
    rw [e1] at f1; cases f1
    have hhs : Ly.holds w S (fun _ => none) ls cs := Ly.holds_mono (Kp.refl _ _) (fun b hb => .inl (hS b hb)) (Ng.refl _) _ _ ((hif w _ γ (fun _ => none)).1 _ e4)
    obtain ⟨_, s2⟩ := holds_sub off hhs e5
    obtain ⟨s3, _⟩ := holds_sub len s2 (fun ly hl => e5 ly (List.mem_of_mem_drop hl))
    rcases f2 with ⟨f3, f4, f5⟩ | ⟨g, cap, o, f3, f4, fo, f5, f6⟩
    · rw [f3]
      subst f5
      exact .inl ⟨rfl, by simp⟩
    · rcases e3 with ⟨e3, _⟩ | ⟨g', cap', cur, e3, _, h2, h3, h4, h5, h6⟩
      · rw [e3] at f3; simp [blkOf] at f3
      · subst e3
        simp [blkOf] at f3; subst f3
        have hmine := hi.mine g' ⟨id, _, _, hm, rfl, e1, rfl⟩
        have hlen : ((ls.drop off).take len).length = len := by simp; omega
        rw [f4]
        refine .inr (.inl ⟨g', o, cap, (cs.drop (off * 1)).take (len * 1), ?_, ?_, f6, hmine.2.1, hL id _ _ g' h0 hm rfl e1 rfl, fun j u hj => ?_, s3, fun ly hl => e5 ly (List.mem_of_mem_drop (List.mem_of_mem_take hl))⟩)
        · rw [hlen]
        · rw [hlen]; exact f5
        · rw [cell_of_heap h2, ← Array.getElem?_toList]
          rw [List.getElem?_take] at hj
          split at hj
          · rw [fo (by omega)]
            rw [List.getElem?_drop, ← h6, List.getElem?_take] at hj
            split at hj
            · rw [Nat.mul_one] at hj; exact hj
            · cases hj
          · cases hj
  obtain ⟨hv, _⟩ := hx.val hi
  rcases h with ⟨E, k, ls, hm, hif, rfl⟩ | ⟨E, ly, hm, hif, rfl⟩
  · obtain ⟨v, cs, e1, ⟨e2, e3⟩, e4, e5⟩ := slI hi hm
    rw [hv] at e1; simp at e1
    rw [e1]; rw [e1] at hv
    rcases e3 with ⟨rfl, hn⟩ | ⟨g, cap, cur, rfl, _, h2, h3, h4, h5, h6⟩
    · exact .inl ⟨rfl, List.eq_nil_of_length_eq_zero hn⟩
    · have hmine := hi.mine g ⟨id, _, _, hm, rfl, hv, rfl⟩
      refine .inr (.inl ⟨g, 0, cap, cs, rfl, h3, h4, hmine.2.1, hL id _ _ g h0 hm rfl hv rfl, fun j u hj => ?_, ?_, e5⟩)
      · rw [cell_of_heap h2, ← Array.getElem?_toList, Nat.zero_add]
        rw [← h6, List.getElem?_take] at hj
        split at hj
        · exact hj
        · cases hj
      · exact Ly.holds_mono (Kp.refl _ _) (fun b hb => .inl (hS b hb)) (Ng.refl _) _ _ ((hif w _ γ (fun _ => none)).1 _ e4)
  · obtain ⟨g, cur, e1, e2, e3⟩ := bxI hi hm
    rw [hv] at e1; simp at e1
    rw [e1]; rw [e1] at hv
    have hmine := hi.mine g ⟨id, _, _, hm, rfl, hv, rfl⟩
    refine ⟨g, 0, cur.toList, rfl, hmine.2.1, hL id _ _ g h0 hm rfl hv rfl, fun j u hj => ?_, ?_⟩
    · rw [cell_of_heap e2, ← Array.getElem?_toList, Nat.zero_add]; exact hj
    · exact Ly.hold_mono (Kp.refl _ _) (fun b hb => .inl (hS b hb)) (Ng.refl _) _ _ ((hif w _ γ γc).1 _ e3)
theorem argL_vals {a w γ γc ρ S lt} (hi : Inv X st mm a w γ) (hg : ∀ y x, lk ρ y = some x → γc y = γ x) (hS : ∀ b, S b → X.S γ mm b)
    (hL : ∀ id c v b, lentB lt id = true → mm id = some c → c.alive = true → γ id = some v → blkOf v = some b → ¬ S b) :
    ∀ {xs : List Operand} {lys : List Ly}, ArgL st mm ρ lt xs lys → Ly.vals w S γc lys (xs.map a.eval)
  | [], [], _ => by simp [Ly.vals]
  | x :: xs, ly :: lys, h => by
    obtain ⟨h1, h3⟩ := h
    simp only [List.map_cons, Ly.vals]
    refine ⟨_, _, rfl, ?_, argL_vals hi hg hS hL h3⟩
    rcases h1 with ⟨ly0, h1, h2⟩ | h1
    · exact Ly.val_mono (Kp.refl _ _) (fun b hb => .inl (hS b hb)) (Ng.refl _) _ _ ((h2 w _ γ γc hg).2 _ (h1.val hi))
    · exact larg_val hi hS hL h1
  | [], _ :: _, h => h.elim
  | _ :: _, [], h => h.elim

/-- A call to which some of the caller's own is lent (lt). ρ: the callee's names of what is handed on, and the caller's; τ: new names, and the callee's; σ: both, from the caller's side; em: what is known afterwards. -/
theorem callL {d f args argTypes ty pos af largs mi res mo res' em} (lt : List Nat) (ρ τ σ : List (Nat × Nat)) (hlr : (lt.any fun id => ρ.any fun e => Nat.beq e.2 id) = false) (hf : FnOk X.P f largs mi res mo) (hpm : PlM mo) (hpr : Pl res')
    (ha : ArgL st mm ρ lt args largs) (hmi : ∀ x c', lk mi x = some c' → ∃ y c, lk ρ x = some y ∧ mm y = some c ∧ RnC ρ c c') (hρm : NmM mi ρ) (hρn : nodupB (ρ.map (·.2)) = true)
    (hτ : Fresh mm τ) (hσ : SigT τ ρ σ) (hσn : nodupB (σ.map (·.2)) = true) (hem : BackM σ ρ mo em) (hall : AllIn em (ρ.map (·.2))) (hall2 : AllIn em (τ.map (·.1)))
    (hres : Rn σ res res') (hd : Nat.blt d X.N = true) :
    OpOk X st mm ⟨some d, .call { callee := .value (.func f), args := ⟨args⟩, argTypes := argTypes }, ty, pos, af, none⟩ [(d, res')] em := by
  obtain ⟨⟨fn, hfn, hname, hbody⟩, hc⟩ := hf
  intro a w γ K Q hi hK
  -- the callee's side
  let γc : Nm := fun x => match lk ρ x with | some y => γ y | none => none
  have hgc : ∀ x y, lk ρ x = some y → γc x = γ y := fun x y h => by simp only [γc, h]
  let img : Nat → Prop := fun y => ∃ x, (x, y) ∈ ρ
  let S0c : Nat → Prop := fun b => X.S0 b ∨ ∃ id c v, mm id = some c ∧ c.alive = true ∧ ¬ img id ∧ lentB lt id = false ∧ γ id = some v ∧ blkOf v = some b
  let LB : Nat → Prop := fun b => ∃ id c v, lentB lt id = true ∧ mm id = some c ∧ c.alive = true ∧ γ id = some v ∧ blkOf v = some b
  have hli : ∀ id, lentB lt id = true → ¬ img id := by
    rintro id h ⟨x, hx⟩
    have : (lt.any fun id => ρ.any fun e => Nat.beq e.2 id) = true := by
      obtain ⟨z, hz, he⟩ := List.any_eq_true.1 h
      have : id = z := Nat.eq_of_beq_eq_true he
      subst this
      exact List.any_eq_true.2 ⟨id, hz, List.any_eq_true.2 ⟨(x, id), hx, by simp⟩⟩
    rw [hlr] at this; cases this
  have hS0c : ∀ b, S0c b → X.S γ mm b := by
    rintro b (h | ⟨id, c, v, h1, h2, h3, h3', h4, h5⟩)
    · exact .inl h
    · exact .inr ⟨id, c, v, h1, h2, h4, h5⟩
  have hOwc : ∀ b, Ow γc (lk mi) b → ∃ y c v, img y ∧ mm y = some c ∧ c.alive = true ∧ γ y = some v ∧ blkOf v = some b := by
    rintro b ⟨x, c', v, h1, h2, h3, h4⟩
    obtain ⟨y, c, g1, g2, g3⟩ := hmi x c' h1
    exact ⟨y, c, v, ⟨x, lk_mem g1⟩, g2, g3.alive.1, by rw [← hgc x y g1]; exact h3, h4⟩
  have hOwS : ∀ b, Ow γc (lk mi) b → X.S γ mm b := fun b h => by
    obtain ⟨y, c, v, h1, h2, h3, h4, h5⟩ := hOwc b h
    exact .inr ⟨y, c, v, h2, h3, h4, h5⟩
  have hSc : ∀ b, Sx S0c γc mi b → X.S γ mm b := fun b h => h.elim (hS0c b) (hOwS b)
  have hS0lt : ∀ b, S0c b → b < w.heap.size := by
    rintro b (h | ⟨id, c, v, h1, h2, h3, h3', h4, h5⟩)
    · exact Nat.lt_of_lt_of_le (hi.s0 b h) hi.grow
    · exact (hi.mine b ⟨id, c, v, h1, h2, h4, h5⟩).2.1
  have hdis : ∀ b, Ow γc (lk mi) b → ¬ S0c b := by
    intro b h hs
    obtain ⟨y, c, v, h1, h2, h3, h4, h5⟩ := hOwc b h
    rcases hs with hs | ⟨id, c2, v2, g1, g2, g3, g3', g4, g5⟩
    · exact (hi.mine b ⟨y, c, v, h2, h3, h4, h5⟩).2.2 hs
    · have := hi.apart y id c c2 v v2 b h2 h3 g1 g2 h4 g4 h5 g5
      subst this; exact g3 h1
  have hLn : ∀ id c v b, lentB lt id = true → mm id = some c → c.alive = true → γ id = some v → blkOf v = some b → ¬ Sx S0c γc mi b := by
    rintro id c v b h1 h2 h3 h4 h5 (h | h)
    · rcases h with h | ⟨id2, c2, v2, g1, g2, g3, g3', g4, g5⟩
      · exact (hi.mine b ⟨id, c, v, h2, h3, h4, h5⟩).2.2 h
      · have := hi.apart id id2 c c2 v v2 b h2 h3 g1 g2 h4 g4 h5 g5
        subst this; rw [h1] at g3'; cases g3'
    · obtain ⟨y, c2, v2, g1, g2, g3, g4, g5⟩ := hOwc b h
      have := hi.apart id y c c2 v v2 b h2 h3 g2 g3 h4 g4 h5 g5
      subst this; exact hli id h1 g1
  have hcall := hc w S0c γc (args.map a.eval).toArray hS0lt
    (fun x hx => by
      cases h : lk ρ x with
      | none => simp only [γc, h]
      | some y => obtain ⟨c, hc⟩ := hρm.get x y h; rw [hx] at hc; cases hc)
    (fun x c' hx => by
      obtain ⟨y, c, g1, g2, g3⟩ := hmi x c' hx
      have h0 := hi.cts y c g2
      have h1 : CtHold w (Sx S0c γc mi) γ y c := h0.mono (Kp.refl _ _) (fun b hb => .inl (hSc b hb)) (Ng.refl _) (fun _ _ _ _ => rfl)
      exact h1.rn hgc g1 g3)
    (fun x x' c c' v v' b h1 h2 h3 h4 h5 h6 h7 h8 => by
      obtain ⟨y, d, g1, g2, g3⟩ := hmi x c h1
      obtain ⟨y', d', g1', g2', g3'⟩ := hmi x' c' h3
      rw [hgc x y g1] at h5
      rw [hgc x' y' g1'] at h6
      have := hi.apart y y' d d' v v' b g2 g3.alive.1 g2' g3'.alive.1 h5 h6 h7 h8
      subst this
      exact nodup_inj hρn (lk_mem g1) (lk_mem g1') g1 g1')
    (fun b hb => by
      obtain ⟨y, c, v, h1, h2, h3, h4, h5⟩ := hOwc b hb
      exact ⟨(hi.mine b ⟨y, c, v, h2, h3, h4, h5⟩).2.1, hdis b hb⟩)
    (by simpa using argL_vals hi hgc hSc hLn ha) (hi.gw hSc)
  -- the operation
  have hrun : (execOp a.eval ⟨some d, .call { callee := .value (.func f), args := ⟨args⟩, argTypes := argTypes }, ty, pos, af, none⟩).run X.P w = .ok (.enter f (args.map a.eval).toArray) w := by
    have e1 : fn.body.isNone = false := by cases h : fn.body <;> simp [h] at hbody ⊢
    have e2 : ¬ fn.name = "runtime.NumGoroutine" := by simpa using hname
    simp only [execOp, resolve, Act.eval]
    simp [Deferred.ofValue, invoke, callFunc, hfn, e2]
    intro e3
    rw [e3] at e1; cases e1
  unfold Oper.wp
  rw [hrun, Oper.upon_enter]
  refine hcall.mono ?_
  rintro e w' ⟨v, γ', rfl, hb⟩
  show K (a.put (some d) v) w'
  -- back
  let γ'' : Nm := fun y => match lk τ y with | some x => γ' x | none => γ y
  have hnτ : ∀ y c, mm y = some c → lk τ y = none := fun y c hy => by
    cases h : lk τ y with
    | none => rfl
    | some x => rw [hτ.get y x h] at hy; cases hy
  have hng : Ng γ γ'' := by
    intro y u hu
    cases h : lk τ y with
    | none => simp only [γ'', h]; exact hu
    | some x => have := hi.fresh y (hτ.get y x h); rw [this] at hu; cases hu
  have hg2 : ∀ y x, lk σ y = some x → γ'' y = γ' x := by
    intro y x h
    rcases hσ.get y x h with h1 | h1
    · simp only [γ'', h1]
    · obtain ⟨c', hc'⟩ := hρm.get x y h1
      obtain ⟨y2, c, g1, g2, g3⟩ := hmi x c' hc'
      rw [h1] at g1; simp at g1; subst g1
      have hal := g3.alive.1
      have h0 := hi.cts y c g2
      obtain ⟨u, hu⟩ : ∃ u, γ y = some u := by
        cases c with
        | gone => simp [Ct.alive] at hal
        | sl E k ls => obtain ⟨u, _, hu, _⟩ := h0; exact ⟨u, hu⟩
        | bx E ly => obtain ⟨g, _, hu, _⟩ := h0; exact ⟨_, hu⟩
        | ob o => obtain ⟨g, hu, _⟩ := h0; exact ⟨_, hu⟩
      have e1 : γ'' y = γ y := by simp only [γ'', hnτ y c g2]
      rw [e1, hu]
      exact (hb.keep x u (by rw [hgc x y h1]; exact hu)).symm
  let mm2 := up mm em
  have hmm2 : ∀ y c, mm2 y = some c → lk em y = some c ∨ (lk em y = none ∧ mm y = some c) := by
    intro y c h
    simp only [mm2, up] at h
    cases he : lk em y with
    | none => rw [he] at h; exact .inr ⟨rfl, h⟩
    | some c' => rw [he] at h; exact .inl h
  have hnimg : ∀ y, lk em y = none → ¬ img y := by
    rintro y h ⟨x, hx⟩
    obtain ⟨c, hc⟩ := hall.get y (List.mem_map.2 ⟨_, hx, rfl⟩)
    rw [h] at hc; cases hc
  have how : ∀ b, Ow γ'' mm2 b → Ow γ' (lk mo) b ∨ S0c b ∨ LB b := by
    rintro b ⟨y, c, u, h1, h2, h3, h4⟩
    rcases hmm2 y c h1 with h | ⟨h, h'⟩
    · rcases hem.get y c h with ⟨x, c0, g1, g2, g3⟩ | ⟨rfl, _⟩
      · exact .inl ⟨x, c0, u, g2, g3.alive.1, by rw [← hg2 y x g1]; exact h3, h4⟩
      · simp [Ct.alive] at h2
    · have e1 : γ'' y = γ y := by simp only [γ'', hnτ y c h']
      rw [e1] at h3
      cases hl : lentB lt y
      · exact .inr (.inl (.inr ⟨y, c, u, h', h2, hnimg y h, hl, h3, h4⟩))
      · exact .inr (.inr ⟨y, c, u, hl, h', h2, h3, h4⟩)
  have hS2' : ∀ b, X.S γ'' mm2 b → X.S γ mm b ∨ w.heap.size ≤ b := by
    rintro b (h | h)
    · exact .inl (.inl h)
    rcases how b h with h | h | ⟨id, c, v, h0, h1, h2, h3, h4⟩
    · rcases (hb.mine b h).1 with h | h
      · exact .inr h
      · exact .inl (hOwS b h)
    · exact .inl (hS0c b h)
    · exact .inl (.inr ⟨id, c, v, h1, h2, h3, h4⟩)
  have hk : Kp (X.S γ mm) w w' := ⟨hb.grow, fun b hb' hn => hb.old b hb' (fun h => hn (hOwS b h))⟩
  have hinv : Inv X st mm2 a w' γ'' := {
    size := hi.size, defs := hi.defs, s0 := hi.s0, gx := hi.gx, keep := fun id u hu => hng id u (hi.keep id u hu)
    os := hb.os.trans hi.os, tape := hb.tape.trans hi.tape, output := hb.output.trans hi.output, grow := Nat.le_trans hi.grow hb.grow
    old := by
      intro b hb' hM
      rw [hb.old b (Nat.lt_of_lt_of_le hb' hi.grow) (fun h => by
        obtain ⟨y, c, u, h1, h2, h3, h4, h5⟩ := hOwc b h
        rcases (hi.mine b ⟨y, c, u, h2, h3, h4, h5⟩).1 with h | h
        · omega
        · exact hM h)]
      exact hi.old b hb' hM
    fresh := by
      intro y hy
      have h1 : lk em y = none := by
        cases he : lk em y with
        | none => rfl
        | some c => simp only [mm2, up, he] at hy; cases hy
      have h2 : mm y = none := by simpa only [mm2, up, h1] using hy
      have h3 : lk τ y = none := by
        cases h : lk τ y with
        | none => rfl
        | some x =>
          obtain ⟨c, hc⟩ := hall2.get y (List.mem_map.2 ⟨_, lk_mem h, rfl⟩)
          rw [h1] at hc; cases hc
      simp only [γ'', h3]; exact hi.fresh y h2
    cts := by
      intro y c hy
      rcases hmm2 y c hy with h | ⟨h, h'⟩
      · rcases hem.get y c h with ⟨x, c0, g1, g2, g3⟩ | ⟨rfl, _⟩
        · have h0 := hb.cts x c0 g2
          have h1 : CtHold w' (X.S γ'' mm2) γ' x c0 := h0.pl (hpm.get g2)
          exact h1.rn hg2 g1 g3
        · trivial
      · by_cases hal : c.alive = true
        · refine (hi.cts y c h').mono hk hS2' hng ?_
          intro u b hu hb'
          refine hb.old b (hi.mine b ⟨y, c, u, h', hal, hu, hb'⟩).2.1 (fun ho => ?_)
          obtain ⟨y2, c2, u2, k1, k2, k3, k4, k5⟩ := hOwc b ho
          have := hi.apart y y2 c c2 u u2 b h' hal k2 k3 hu k4 hb' k5
          subst this; exact hnimg y h k1
        · cases c <;> simp [Ct.alive] at hal
          trivial
    apart := by
      have cross : ∀ y y' c c' u u' b, lk em y = some c → c.alive = true → lk em y' = none → mm y' = some c' → c'.alive = true → γ'' y = some u → γ'' y' = some u' → blkOf u = some b → blkOf u' = some b → False := by
        intro y y' c c' u u' b h1 h2 h3 h4 h5 h6 h7 h8 h9
        rcases hem.get y c h1 with ⟨x, c0, g1, g2, g3⟩ | ⟨rfl, _⟩
        · have e1 : γ'' y' = γ y' := by simp only [γ'', hnτ y' c' h4]
          rw [e1] at h7
          obtain ⟨k1, _, k3⟩ := hb.mine b ⟨x, c0, u, g2, g3.alive.1, by rw [← hg2 y x g1]; exact h6, h8⟩
          cases hl : lentB lt y'
          · exact k3 (.inr ⟨y', c', u', h4, h5, hnimg y' h3, hl, h7, h9⟩)
          · rcases k1 with k1 | k1
            · have := (hi.mine b ⟨y', c', u', h4, h5, h7, h9⟩).2.1; omega
            · exact hLn y' c' u' b hl h4 h5 h7 h9 (.inr k1)
        · simp [Ct.alive] at h2
      intro y y' c c' u u' b h1 h2 h3 h4 h5 h6 h7 h8
      rcases hmm2 y c h1 with e1 | ⟨e1, e1'⟩ <;> rcases hmm2 y' c' h3 with e2 | ⟨e2, e2'⟩
      · rcases hem.get y c e1 with ⟨x, c0, g1, g2, g3⟩ | ⟨rfl, _⟩
        · rcases hem.get y' c' e2 with ⟨x', c0', g1', g2', g3'⟩ | ⟨rfl, _⟩
          · rw [hg2 y x g1] at h5
            rw [hg2 y' x' g1'] at h6
            have := hb.apart x x' c0 c0' u u' b g2 g3.alive.1 g2' g3'.alive.1 h5 h6 h7 h8
            subst this
            exact nodup_inj hσn (lk_mem g1) (lk_mem g1') g1 g1'
          · simp [Ct.alive] at h4
        · simp [Ct.alive] at h2
      · exact (cross y y' c c' u u' b e1 h2 e2 e2' h4 h5 h6 h7 h8).elim
      · exact (cross y' y c' c u' u b e2 h4 e1 e1' h2 h6 h5 h8 h7).elim
      · have k1 : γ'' y = γ y := by simp only [γ'', hnτ y c e1']
        have k2 : γ'' y' = γ y' := by simp only [γ'', hnτ y' c' e2']
        rw [k1] at h5; rw [k2] at h6
        exact hi.apart y y' c c' u u' b e1' h2 e2' h4 h5 h6 h7 h8
    mine := by
      intro b h
      rcases how b h with h | h | ⟨id, c2, u2, k0, k1, k2, k4, k5⟩
      · obtain ⟨g1, g2, g3⟩ := hb.mine b h
        refine ⟨?_, g2, fun h' => g3 (.inl h')⟩
        rcases g1 with g1 | g1
        · exact .inl (Nat.le_trans hi.grow g1)
        · obtain ⟨y, c, u, k1, k2, k3, k4, k5⟩ := hOwc b g1
          exact (hi.mine b ⟨y, c, u, k2, k3, k4, k5⟩).1
      · obtain ⟨y, c, u, h1, h2, h3, h4⟩ := ‹Ow γ'' mm2 b›
        rcases h with h | ⟨id, c2, u2, k1, k2, k3, k3', k4, k5⟩
        · rcases hmm2 y c h1 with e1 | ⟨e1, e1'⟩
          · rcases hem.get y c e1 with ⟨x, c0, g1, g2, g3⟩ | ⟨rfl, _⟩
            · exact ((hb.mine b ⟨x, c0, u, g2, g3.alive.1, by rw [← hg2 y x g1]; exact h3, h4⟩).2.2 (.inl h)).elim
            · simp [Ct.alive] at h2
          · have k1 : γ'' y = γ y := by simp only [γ'', hnτ y c e1']
            rw [k1] at h3
            obtain ⟨g1, g2, g3⟩ := hi.mine b ⟨y, c, u, e1', h2, h3, h4⟩
            exact (g3 h).elim
        · obtain ⟨g1, g2, g3⟩ := hi.mine b ⟨id, c2, u2, k1, k2, k4, k5⟩
          exact ⟨g1, Nat.lt_of_lt_of_le g2 hb.grow, g3⟩
      · obtain ⟨g1, g2, g3⟩ := hi.mine b ⟨id, c2, u2, k1, k2, k4, k5⟩
        exact ⟨g1, Nat.lt_of_lt_of_le g2 hb.grow, g3⟩
    sts := by
      intro i ly hly
      obtain ⟨u, hu, hl⟩ := hi.sts i ly hly
      exact ⟨u, hu, Ly.val_mono hk hS2' hng ly u hl⟩ }
  have hv : res'.val w' (X.S γ'' mm2) γ'' v := (hpr w' _ _ γ'').2 v ((hres w' _ γ' γ'' hg2).2 v hb.res)
  exact hK _ _ _ (hinv.put (by simpa using hd) hv)


end
end Go.Proofs.YtiobbiamnjapgaaDoor
