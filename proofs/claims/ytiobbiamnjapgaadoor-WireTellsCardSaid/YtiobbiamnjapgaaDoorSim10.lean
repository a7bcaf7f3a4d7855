import Derived.Test.YtiobbiamnjapgaaDoorSim9
namespace Go.Proofs.YtiobbiamnjapgaaDoor
open Go Go.RowKit

section call
variable {X : Cx} {st : Nat → Option Ly} {mm : Nat → Option Ct}

/-- What is handed on: each operand, named as the callee names it. -/
def ArgF (st : Nat → Option Ly) (ρ : List (Nat × Nat)) : List Operand → List Ly → Prop
  | [], [] => True
  | x :: xs, ly' :: lys => (∃ ly, OpdF st x ly ∧ Rn ρ ly ly') ∧ ArgF st ρ xs lys
  | _, _ => False

theorem argF_vals {a w γ γc ρ S} (hi : Inv X st mm a w γ) (hg : ∀ y x, lk ρ y = some x → γc y = γ x) (hS : ∀ b, S b → X.S γ mm b) :
    ∀ {xs : List Operand} {lys : List Ly}, ArgF st ρ xs lys → Ly.vals w S γc lys (xs.map a.eval)
  | [], [], _ => by simp [Ly.vals]
  | x :: xs, ly :: lys, h => by
    obtain ⟨⟨ly0, h1, h2⟩, h3⟩ := h
    simp only [List.map_cons, Ly.vals]
    exact ⟨_, _, rfl, Ly.val_mono (Kp.refl _ _) (fun b hb => .inl (hS b hb)) (Ng.refl _) _ _ ((h2 w _ γ γc hg).2 _ (h1.val hi)), argF_vals hi hg hS h3⟩
  | [], _ :: _, h => h.elim
  | _ :: _, [], h => h.elim

/-- What comes back into the names of the caller. -/
def BackM (σ ρ : List (Nat × Nat)) (mo : List (Nat × Ct)) : List (Nat × Ct) → Prop
  | [] => True
  | (y, c) :: r => ((∃ x c0, lk σ y = some x ∧ lk mo x = some c0 ∧ RnC σ c0 c) ∨ (c = .gone ∧ ∃ x, (x, y) ∈ ρ)) ∧ BackM σ ρ mo r

theorem BackM.get {σ ρ mo} : ∀ {em}, BackM σ ρ mo em → ∀ y c, lk em y = some c → (∃ x c0, lk σ y = some x ∧ lk mo x = some c0 ∧ RnC σ c0 c) ∨ (c = .gone ∧ ∃ x, (x, y) ∈ ρ)
  | [], _, y, c, h => by cases h
  | (i, x) :: r, hh, y, c, h => by
    simp only [lk] at h
    cases hb : Nat.beq i y
    · rw [hb] at h; exact BackM.get hh.2 y c h
    · rw [hb] at h
      have : i = y := Nat.eq_of_beq_eq_true hb
      subst this; simp at h; subst h; exact hh.1

/-- Every name that was handed on is told of; every new name is. -/
def AllIn (em : List (Nat × Ct)) : List Nat → Prop
  | [] => True
  | y :: r => (∃ c, lk em y = some c) ∧ AllIn em r
theorem AllIn.get {em} : ∀ {l}, AllIn em l → ∀ y ∈ l, ∃ c, lk em y = some c
  | [], _, y, h => by cases h
  | x :: l, hh, y, h => by
    rcases List.mem_cons.1 h with rfl | h
    · exact hh.1
    · exact AllIn.get hh.2 y h
def Fresh (mm : Nat → Option Ct) : List (Nat × Nat) → Prop
  | [] => True
  | (y, _) :: r => mm y = none ∧ Fresh mm r
theorem Fresh.get {mm} : ∀ {τ}, Fresh mm τ → ∀ y x, lk τ y = some x → mm y = none
  | [], _, y, x, h => by cases h
  | (i, x0) :: r, hh, y, x, h => by
    simp only [lk] at h
    cases hb : Nat.beq i y
    · rw [hb] at h; exact Fresh.get hh.2 y x h
    · rw [← Nat.eq_of_beq_eq_true hb]; exact hh.1
/-- Each name of the whole list is a new one, or was handed on. -/
def SigT (τ ρ : List (Nat × Nat)) : List (Nat × Nat) → Prop
  | [] => True
  | (y, x) :: r => (lk τ y = some x ∨ lk ρ x = some y) ∧ SigT τ ρ r
theorem SigT.get {τ ρ} : ∀ {σ}, SigT τ ρ σ → ∀ y x, lk σ y = some x → lk τ y = some x ∨ lk ρ x = some y
  | [], _, y, x, h => by cases h
  | (i, x0) :: r, hh, y, x, h => by
    simp only [lk] at h
    cases hb : Nat.beq i y
    · rw [hb] at h; exact SigT.get hh.2 y x h
    · rw [hb] at h
      have : i = y := Nat.eq_of_beq_eq_true hb
      subst this; simp at h; subst h; exact hh.1

/-- A call. ρ: the callee's names of what is handed on, and the caller's; τ: new names, and the callee's; σ: both, from the caller's side; em: what is known afterwards. -/
theorem callR {d f o largs mi res mo res' em} (ρ τ σ : List (Nat × Nat)) (hf : FnOk X.P f largs mi res mo) (hdst : o.dst = some d)
    (hrun : ∀ fn, X.P.funcs[f]? = some fn → (fn.name == "runtime.NumGoroutine") = false → fn.body.isSome = true → ∀ a w γ, Inv X st mm a w γ → ∃ vs : Array Value, (execOp a.eval o).run X.P w = .ok (.enter f vs) w ∧
      ∀ (γc : Nm) (S : Nat → Prop), (∀ y x, lk ρ y = some x → γc y = γ x) → (∀ b, S b → X.S γ mm b) → Ly.vals w S γc largs vs.toList)
    (hmi : ∀ x c', lk mi x = some c' → ∃ y c, lk ρ x = some y ∧ mm y = some c ∧ RnC ρ c c') (hρm : NmM mi ρ) (hρn : nodupB (ρ.map (·.2)) = true)
    (hτ : Fresh mm τ) (hσ : SigT τ ρ σ) (hσn : nodupB (σ.map (·.2)) = true) (hem : BackM σ ρ mo em) (hall : AllIn em (ρ.map (·.2))) (hall2 : AllIn em (τ.map (·.1)))
    (hres : Rn σ res res') (hd : Nat.blt d X.N = true) :
    OpOk X st mm o [(d, res')] em := by
  obtain ⟨⟨fn, hfn, hname, hbody⟩, hc⟩ := hf
  intro a w γ K Q hi hK
  obtain ⟨vs, hrun, hvals⟩ := hrun fn hfn hname hbody a w γ hi
  -- the callee's side
  let γc : Nm := fun x => match lk ρ x with | some y => γ y | none => none
  have hgc : ∀ x y, lk ρ x = some y → γc x = γ y := fun x y h => by simp only [γc, h]
  let img : Nat → Prop := fun y => ∃ x, (x, y) ∈ ρ
  let S0c : Nat → Prop := fun b => X.S0 b ∨ ∃ id c v, mm id = some c ∧ c.alive = true ∧ ¬ img id ∧ γ id = some v ∧ blkOf v = some b
  have hS0c : ∀ b, S0c b → X.S γ mm b := by
    rintro b (h | ⟨id, c, v, h1, h2, h3, h4, h5⟩)
    · exact .inl h
    · exact .inr ⟨id, c, v, h1, h2, h4, h5⟩
  have hOwc : ∀ b, Ow γc (lk mi) b → ∃ y c v, img y ∧ mm y = some c ∧ c.alive = true ∧ γ y = some v ∧ blkOf v = some b := by
    rintro b ⟨x, c', v, h1, h2, h3, h4⟩
    obtain ⟨y, c, g1, g2, g3⟩ := hmi x c' h1
    exact ⟨y, c, v, ⟨x, lk_mem g1⟩, g2, g3.alive.1, by rw [← hgc x y g1]; exact h3, h4⟩
  have hOwS : ∀ b, Ow γc (lk mi) b → X.S γ mm b := fun b h => by
    obtain ⟨y, c, v, h1, h2, h3, h4, h5⟩ := hOwc b h
    exact .inr ⟨y, c, v, h2, h3, h4, h5⟩
  have hSc : ∀ b, Sx S0c γc mi b → X.S γ mm b := fun b h => h.elim (hS0c b) (hOwS b)
  have hS0lt : ∀ b, S0c b → b < w.heap.size := by
    rintro b (h | ⟨id, c, v, h1, h2, h3, h4, h5⟩)
    · exact Nat.lt_of_lt_of_le (hi.s0 b h) hi.grow
    · exact (hi.mine b ⟨id, c, v, h1, h2, h4, h5⟩).2.1
  have hdis : ∀ b, Ow γc (lk mi) b → ¬ S0c b := by
    intro b h hs
    obtain ⟨y, c, v, h1, h2, h3, h4, h5⟩ := hOwc b h
    rcases hs with hs | ⟨id, c2, v2, g1, g2, g3, g4, g5⟩
    · exact (hi.mine b ⟨y, c, v, h2, h3, h4, h5⟩).2.2 hs
    · have := hi.apart y id c c2 v v2 b h2 h3 g1 g2 h4 g4 h5 g5
      subst this; exact g3 h1
  have hcall := hc w S0c γc vs hS0lt
    (fun x hx => by
      cases h : lk ρ x with
      | none => simp only [γc, h]
      | some y => obtain ⟨c, hc⟩ := hρm.get x y h; rw [hx] at hc; cases hc)
    (fun x c' hx => by
      obtain ⟨y, c, g1, g2, g3⟩ := hmi x c' hx
      have h0 := hi.cts y c g2
      have h1 : CtHold w (Sx S0c γc mi) γ y c := h0.mono (Kp.refl _ _) (fun b hb => .inl (hSc b hb)) (Ng.refl _) (fun _ _ _ _ => rfl)
      exact h1.rn hgc g1 g3)
    (fun x x' c c' v v' b h1 h2 h3 h4 h5 h6 h7 h8 => by
      obtain ⟨y, d, g1, g2, g3⟩ := hmi x c h1
      obtain ⟨y', d', g1', g2', g3'⟩ := hmi x' c' h3
      rw [hgc x y g1] at h5
      rw [hgc x' y' g1'] at h6
      have := hi.apart y y' d d' v v' b g2 g3.alive.1 g2' g3'.alive.1 h5 h6 h7 h8
      subst this
      exact nodup_inj hρn (lk_mem g1) (lk_mem g1') g1 g1')
    (fun b hb => by
      obtain ⟨y, c, v, h1, h2, h3, h4, h5⟩ := hOwc b hb
      exact ⟨(hi.mine b ⟨y, c, v, h2, h3, h4, h5⟩).2.1, hdis b hb⟩)
    (hvals γc _ hgc hSc) (hi.gw hSc)
  unfold Oper.wp
  rw [hrun, Oper.upon_enter]
  refine hcall.mono ?_
  rintro e w' ⟨v, γ', rfl, hb⟩
  show K (a.put o.dst v) w'
  rw [hdst]
  -- back
  let γ'' : Nm := fun y => match lk τ y with | some x => γ' x | none => γ y
  have hnτ : ∀ y c, mm y = some c → lk τ y = none := fun y c hy => by
    cases h : lk τ y with
    | none => rfl
    | some x => rw [hτ.get y x h] at hy; cases hy
  have hng : Ng γ γ'' := by
    intro y u hu
    cases h : lk τ y with
    | none => simp only [γ'', h]; exact hu
    | some x => have := hi.fresh y (hτ.get y x h); rw [this] at hu; cases hu
  have hg2 : ∀ y x, lk σ y = some x → γ'' y = γ' x := by
    intro y x h
    rcases hσ.get y x h with h1 | h1
    · simp only [γ'', h1]
    · obtain ⟨c', hc'⟩ := hρm.get x y h1
      obtain ⟨y2, c, g1, g2, g3⟩ := hmi x c' hc'
      rw [h1] at g1; simp at g1; subst g1
      have hal := g3.alive.1
      have h0 := hi.cts y c g2
      obtain ⟨u, hu⟩ : ∃ u, γ y = some u := by
        cases c with
        | gone => simp [Ct.alive] at hal
        | sl E k ls => obtain ⟨u, _, hu, _⟩ := h0; exact ⟨u, hu⟩
        | bx E ly => obtain ⟨g, _, hu, _⟩ := h0; exact ⟨_, hu⟩
        | ob o => obtain ⟨g, hu, _⟩ := h0; exact ⟨_, hu⟩
      have e1 : γ'' y = γ y := by simp only [γ'', hnτ y c g2]
      rw [e1, hu]
      exact (hb.keep x u (by rw [hgc x y h1]; exact hu)).symm
  let mm2 := up mm em
  have hmm2 : ∀ y c, mm2 y = some c → lk em y = some c ∨ (lk em y = none ∧ mm y = some c) := by
    intro y c h
    simp only [mm2, up] at h
    cases he : lk em y with
    | none => rw [he] at h; exact .inr ⟨rfl, h⟩
    | some c' => rw [he] at h; exact .inl h
  have hnimg : ∀ y, lk em y = none → ¬ img y := by
    rintro y h ⟨x, hx⟩
    obtain ⟨c, hc⟩ := hall.get y (List.mem_map.2 ⟨_, hx, rfl⟩)
    rw [h] at hc; cases hc
  have how : ∀ b, Ow γ'' mm2 b → Ow γ' (lk mo) b ∨ S0c b := by
    rintro b ⟨y, c, u, h1, h2, h3, h4⟩
    rcases hmm2 y c h1 with h | ⟨h, h'⟩
    · rcases hem.get y c h with ⟨x, c0, g1, g2, g3⟩ | ⟨rfl, _⟩
      · exact .inl ⟨x, c0, u, g2, g3.alive.1, by rw [← hg2 y x g1]; exact h3, h4⟩
      · simp [Ct.alive] at h2
    · refine .inr (.inr ⟨y, c, u, h', h2, hnimg y h, ?_, h4⟩)
      have e1 : γ'' y = γ y := by simp only [γ'', hnτ y c h']
      rw [← e1]; exact h3
  have hS2 : ∀ b, X.S γ'' mm2 b → Sx S0c γ' mo b := by
    rintro b (h | h)
    · exact .inl (.inl h)
    · rcases how b h with h | h
      · exact .inr h
      · exact .inl h
  have hS2' : ∀ b, X.S γ'' mm2 b → X.S γ mm b ∨ w.heap.size ≤ b := by
    intro b h
    rcases hS2 b h with h | h
    · exact .inl (hS0c b h)
    · rcases (hb.mine b h).1 with h | h
      · exact .inr h
      · exact .inl (hOwS b h)
  have hk : Kp (X.S γ mm) w w' := ⟨hb.grow, fun b hb' hn => hb.old b hb' (fun h => hn (hOwS b h))⟩
  have hinv : Inv X st mm2 a w' γ'' := {
    size := hi.size, defs := hi.defs, s0 := hi.s0, gx := hi.gx, keep := fun id u hu => hng id u (hi.keep id u hu)
    os := hb.os.trans hi.os, tape := hb.tape.trans hi.tape, output := hb.output.trans hi.output, grow := Nat.le_trans hi.grow hb.grow
    old := by
      intro b hb' hM
      rw [hb.old b (Nat.lt_of_lt_of_le hb' hi.grow) (fun h => by
        obtain ⟨y, c, u, h1, h2, h3, h4, h5⟩ := hOwc b h
        rcases (hi.mine b ⟨y, c, u, h2, h3, h4, h5⟩).1 with h | h
        · omega
        · exact hM h)]
      exact hi.old b hb' hM
    fresh := by
      intro y hy
      have h1 : lk em y = none := by
        cases he : lk em y with
        | none => rfl
        | some c => simp only [mm2, up, he] at hy; cases hy
      have h2 : mm y = none := by simpa only [mm2, up, h1] using hy
      have h3 : lk τ y = none := by
        cases h : lk τ y with
        | none => rfl
        | some x =>
          obtain ⟨c, hc⟩ := hall2.get y (List.mem_map.2 ⟨_, lk_mem h, rfl⟩)
          rw [h1] at hc; cases hc
      simp only [γ'', h3]; exact hi.fresh y h2
    cts := by
      intro y c hy
      rcases hmm2 y c hy with h | ⟨h, h'⟩
      · rcases hem.get y c h with ⟨x, c0, g1, g2, g3⟩ | ⟨rfl, _⟩
        · have h0 := hb.cts x c0 g2
          have h1 : CtHold w' (X.S γ'' mm2) γ' x c0 := h0.mono (Kp.refl _ _) (fun b hb => .inl (hS2 b hb)) (Ng.refl _) (fun _ _ _ _ => rfl)
          exact h1.rn hg2 g1 g3
        · trivial
      · by_cases hal : c.alive = true
        · refine (hi.cts y c h').mono hk hS2' hng ?_
          intro u b hu hb'
          refine hb.old b (hi.mine b ⟨y, c, u, h', hal, hu, hb'⟩).2.1 (fun ho => ?_)
          obtain ⟨y2, c2, u2, k1, k2, k3, k4, k5⟩ := hOwc b ho
          have := hi.apart y y2 c c2 u u2 b h' hal k2 k3 hu k4 hb' k5
          subst this; exact hnimg y h k1
        · cases c <;> simp [Ct.alive] at hal
          trivial
    apart := by
      have cross : ∀ y y' c c' u u' b, lk em y = some c → c.alive = true → lk em y' = none → mm y' = some c' → c'.alive = true → γ'' y = some u → γ'' y' = some u' → blkOf u = some b → blkOf u' = some b → False := by
        intro y y' c c' u u' b h1 h2 h3 h4 h5 h6 h7 h8 h9
        rcases hem.get y c h1 with ⟨x, c0, g1, g2, g3⟩ | ⟨rfl, _⟩
        · have := (hb.mine b ⟨x, c0, u, g2, g3.alive.1, by rw [← hg2 y x g1]; exact h6, h8⟩).2.2
          refine this (.inr ⟨y', c', u', h4, h5, hnimg y' h3, ?_, h9⟩)
          have e1 : γ'' y' = γ y' := by simp only [γ'', hnτ y' c' h4]
          rw [← e1]; exact h7
        · simp [Ct.alive] at h2
      intro y y' c c' u u' b h1 h2 h3 h4 h5 h6 h7 h8
      rcases hmm2 y c h1 with e1 | ⟨e1, e1'⟩ <;> rcases hmm2 y' c' h3 with e2 | ⟨e2, e2'⟩
      · rcases hem.get y c e1 with ⟨x, c0, g1, g2, g3⟩ | ⟨rfl, _⟩
        · rcases hem.get y' c' e2 with ⟨x', c0', g1', g2', g3'⟩ | ⟨rfl, _⟩
          · rw [hg2 y x g1] at h5
            rw [hg2 y' x' g1'] at h6
            have := hb.apart x x' c0 c0' u u' b g2 g3.alive.1 g2' g3'.alive.1 h5 h6 h7 h8
            subst this
            exact nodup_inj hσn (lk_mem g1) (lk_mem g1') g1 g1'
          · simp [Ct.alive] at h4
        · simp [Ct.alive] at h2
      · exact (cross y y' c c' u u' b e1 h2 e2 e2' h4 h5 h6 h7 h8).elim
      · exact (cross y' y c' c u' u b e2 h4 e1 e1' h2 h6 h5 h8 h7).elim
      · have k1 : γ'' y = γ y := by simp only [γ'', hnτ y c e1']
        have k2 : γ'' y' = γ y' := by simp only [γ'', hnτ y' c' e2']
        rw [k1] at h5; rw [k2] at h6
        exact hi.apart y y' c c' u u' b e1' h2 e2' h4 h5 h6 h7 h8
    mine := by
      intro b h
      rcases how b h with h | h
      · obtain ⟨g1, g2, g3⟩ := hb.mine b h
        refine ⟨?_, g2, fun h' => g3 (.inl h')⟩
        rcases g1 with g1 | g1
        · exact .inl (Nat.le_trans hi.grow g1)
        · obtain ⟨y, c, u, k1, k2, k3, k4, k5⟩ := hOwc b g1
          exact (hi.mine b ⟨y, c, u, k2, k3, k4, k5⟩).1
      · obtain ⟨y, c, u, h1, h2, h3, h4⟩ := ‹Ow γ'' mm2 b›
        rcases h with h | ⟨id, c2, u2, k1, k2, k3, k4, k5⟩
        · rcases hmm2 y c h1 with e1 | ⟨e1, e1'⟩
          · rcases hem.get y c e1 with ⟨x, c0, g1, g2, g3⟩ | ⟨rfl, _⟩
            · exact ((hb.mine b ⟨x, c0, u, g2, g3.alive.1, by rw [← hg2 y x g1]; exact h3, h4⟩).2.2 (.inl h)).elim
            · simp [Ct.alive] at h2
          · have k1 : γ'' y = γ y := by simp only [γ'', hnτ y c e1']
            rw [k1] at h3
            obtain ⟨g1, g2, g3⟩ := hi.mine b ⟨y, c, u, e1', h2, h3, h4⟩
            exact (g3 h).elim
        · obtain ⟨g1, g2, g3⟩ := hi.mine b ⟨id, c2, u2, k1, k2, k4, k5⟩
          exact ⟨g1, Nat.lt_of_lt_of_le g2 hb.grow, g3⟩
    sts := by
      intro i ly hly
      obtain ⟨u, hu, hl⟩ := hi.sts i ly hly
      exact ⟨u, hu, Ly.val_mono hk hS2' hng ly u hl⟩ }
  have hv : res'.val w' (X.S γ'' mm2) γ'' v := Ly.val_mono (Kp.refl _ _) (fun b hb => .inl (hS2 b hb)) (Ng.refl _) _ _ ((hres w' _ γ' γ'' hg2).2 v hb.res)
  exact hK _ _ _ (hinv.put (by simpa using hd) hv)

/-- A call of a function. -/
theorem callG {d f args argTypes ty pos af largs mi res mo res' em} (ρ τ σ : List (Nat × Nat)) (hf : FnOk X.P f largs mi res mo)
    (ha : ArgF st ρ args largs) (hmi : ∀ x c', lk mi x = some c' → ∃ y c, lk ρ x = some y ∧ mm y = some c ∧ RnC ρ c c') (hρm : NmM mi ρ) (hρn : nodupB (ρ.map (·.2)) = true)
    (hτ : Fresh mm τ) (hσ : SigT τ ρ σ) (hσn : nodupB (σ.map (·.2)) = true) (hem : BackM σ ρ mo em) (hall : AllIn em (ρ.map (·.2))) (hall2 : AllIn em (τ.map (·.1)))
    (hres : Rn σ res res') (hd : Nat.blt d X.N = true) :
    OpOk X st mm ⟨some d, .call { callee := .value (.func f), args := ⟨args⟩, argTypes := argTypes }, ty, pos, af, none⟩ [(d, res')] em := by
  refine callR ρ τ σ hf rfl (fun fn hfn hname hbody a w γ hi => ⟨(args.map a.eval).toArray, ?_, fun γc S hgc hSc => by simpa using argF_vals hi hgc hSc ha⟩) hmi hρm hρn hτ hσ hσn hem hall hall2 hres hd
  have hrun : (execOp a.eval ⟨some d, .call { callee := .value (.func f), args := ⟨args⟩, argTypes := argTypes }, ty, pos, af, none⟩).run X.P w = .ok (.enter f (args.map a.eval).toArray) w := by
    have e1 : fn.body.isNone = false := by cases h : fn.body <;> simp [h] at hbody ⊢
    have e2 : ¬ fn.name = "runtime.NumGoroutine" := by simpa using hname
    simp only [execOp, resolve, Act.eval]
    simp [Deferred.ofValue, invoke, callFunc, hfn, e2]
    intro e3
    rw [e3] at e1; cases e1
  exact hrun
/-- A call that is handed nothing of the caller's own, and hands back nothing of the kind. -/
theorem call0 {d f args argTypes ty pos af largs res} (hf : FnOk X.P f largs [] res []) (ha : ArgF st [] args largs) (hres : IF res) (hd : Nat.blt d X.N = true) :
    OpOk X st mm ⟨some d, .call { callee := .value (.func f), args := ⟨args⟩, argTypes := argTypes }, ty, pos, af, none⟩ [(d, res)] [] :=
  callG [] [] [] hf ha (fun _ _ h => by cases h) trivial rfl trivial trivial rfl trivial trivial trivial (rn_id hres) hd

end call
end Go.Proofs.YtiobbiamnjapgaaDoor
