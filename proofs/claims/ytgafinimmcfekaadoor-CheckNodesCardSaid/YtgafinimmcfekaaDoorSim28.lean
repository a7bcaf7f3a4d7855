import Derived.Test.YtgafinimmcfekaaDoorSim27
namespace Go.Proofs.YtgafinimmcfekaaDoor
open Go Go.RowKit
/-- An owned block is given up, and has turned in that moment. -/
theorem Inv.dropc {X : Cx} {st mm a w γ} (h : Inv X st mm a w γ) {w' : World} (hos : w'.os = w.os) (ht : w'.tape = w.tape) (hout : w'.output = w.output) {id : Nat} {c : Ct} {v : Value} (hid : mm id = some c) (hc : c.alive = true) (hv : γ id = some v)
    (hk : Kp (fun b => blkOf v = some b) w w') : Inv X st (up mm [(id, .gone)]) a w' γ := by
  have how : ∀ b, Ow γ (up mm [(id, .gone)]) b → ∃ i c' u, i ≠ id ∧ mm i = some c' ∧ c'.alive = true ∧ γ i = some u ∧ blkOf u = some b := by
    rintro b ⟨i, c', u, h1, h2, h3, h4⟩
    rw [up_one] at h1
    by_cases e : id = i
    · simp [e] at h1; subst h1; simp [Ct.alive] at h2
    · simp [e] at h1
      exact ⟨i, c', u, fun e' => e e'.symm, h1, h2, h3, h4⟩
  have hS : ∀ b, X.S γ (up mm [(id, .gone)]) b → X.S γ mm b := fun b h => orM h (fun x => x) (fun h => by
    obtain ⟨i, c', u, _, h1, h2, h3, h4⟩ := how b h; exact ⟨i, c', u, h1, h2, h3, h4⟩)
  have hkS : Kp (X.S γ mm) w w' := ⟨hk.1, fun b hb hn => hk.2 b hb (fun e => hn (.inr ⟨id, c, v, hid, hc, hv, e⟩))⟩
  refine { h with os := hos.trans h.os, tape := ht.trans h.tape, output := hout.trans h.output, grow := Nat.le_trans h.grow hk.1, old := ?_, fresh := ?_, cts := ?_, apart := ?_, mine := ?_, sts := ?_ }
  · intro b hb hM
    rw [hk.2 b (Nat.lt_of_lt_of_le hb h.grow) (fun e => by
      rcases (h.mine b ⟨id, c, v, hid, hc, hv, e⟩).1 with h1 | h1
      · omega
      · exact hM h1)]
    exact h.old b hb hM
  · intro i hi
    rw [up_one] at hi
    by_cases e : id = i
    · simp [e] at hi
    · simp [e] at hi; exact h.fresh i hi
  · intro i c' hc'
    rw [up_one] at hc'
    by_cases e : id = i
    · simp [e] at hc'; subst hc'; trivial
    · simp [e] at hc'
      by_cases hal' : c'.alive = true
      · refine (h.cts i c' hc').mono hkS (fun b hb => .inl (hS b hb)) (Ng.refl _) ?_
        intro u b hu hb
        exact hk.2 b (h.mine b ⟨i, c', u, hc', hal', hu, hb⟩).2.1 (fun hbe => e (h.apart id i c c' v u b hid hc hc' hal' hv hu hbe hb))
      · cases c' <;> simp [Ct.alive] at hal'
        trivial
  · intro i i' c1 c2 u u' b h1 h2 h3 h4
    rw [up_one] at h1 h3
    by_cases e : id = i
    · simp [e] at h1; subst h1; simp [Ct.alive] at h2
    · by_cases e' : id = i'
      · simp [e'] at h3; subst h3; simp [Ct.alive] at h4
      · simp [e] at h1; simp [e'] at h3
        exact h.apart i i' c1 c2 u u' b h1 h2 h3 h4
  · intro b hb
    obtain ⟨i, c', u, _, h1, h2, h3, h4⟩ := how b hb
    obtain ⟨g1, g2, g3⟩ := h.mine b ⟨i, c', u, h1, h2, h3, h4⟩
    exact ⟨g1, Nat.lt_of_lt_of_le g2 hk.1, g3⟩
  · intro d ly hd
    obtain ⟨u, hu, hl⟩ := h.sts d ly hd
    exact ⟨u, hu, Ly.val_mono hkS (fun b hb => .inl (hS b hb)) (Ng.refl _) ly u hl⟩
/-- A call, by what is known of it. -/
theorem op_of_calls {P : Program} {d f : Nat} {args : List Operand} {argTypes ty pos af} {a : Act} {w : World} {K : Act → World → Prop} {Q : Exit → Act → World → Prop} {R : Ending → World → Prop}
    (hf : ∃ fn, P.funcs[f]? = some fn ∧ (fn.name == "runtime.NumGoroutine") = false ∧ fn.body.isSome = true) (hc : Calls P f (args.map a.eval).toArray w R)
    (hK : ∀ e w', R e w' → ∃ v, e = .returned v ∧ K (a.put (some d) v) w') :
    Oper.wp P ⟨some d, .call { callee := .value (.func f), args := ⟨args⟩, argTypes := argTypes }, ty, pos, af, none⟩ a w K Q := by
  obtain ⟨fn, hfn, hname, hbody⟩ := hf
  have hrun : (execOp a.eval ⟨some d, .call { callee := .value (.func f), args := ⟨args⟩, argTypes := argTypes }, ty, pos, af, none⟩).run P w = .ok (.enter f (args.map a.eval).toArray) w := by
    have e1 : fn.body.isNone = false := by cases h : fn.body <;> simp [h] at hbody ⊢
    have e2 : ¬ fn.name = "runtime.NumGoroutine" := by simpa using hname
    simp only [execOp, resolve, Act.eval]
    simp [Deferred.ofValue, invoke, callFunc, hfn, e2]
    intro e3
    rw [e3] at e1; cases e1
  unfold Oper.wp
  rw [hrun, Oper.upon_enter]
  refine hc.mono ?_
  intro e w' hR
  obtain ⟨v, rfl, hk⟩ := hK e w' hR
  exact hk
/-- One block has turned, or new ones are there. -/
def Turns (g : Option Nat) (w w' : World) : Prop := w'.os = w.os ∧ w'.tape = w.tape ∧ w'.output = w.output ∧ Kp (fun b => g = some b) w w'
/-- A function that only computes. -/
theorem fn_pure {P : Program} {f : Nat} {args : List Ly} {res : Ly} (hf : ∃ fn, P.funcs[f]? = some fn ∧ (fn.name == "runtime.NumGoroutine") = false ∧ fn.body.isSome = true)
    (h : ∀ w S γ (vs : Array Value), Ly.vals w S γ args vs.toList → Calls P f vs w fun e w' => ∃ v, e = .returned v ∧ w' = w ∧ res.val w S γ v) : FnOk P f args [] res [] := by
  refine ⟨hf, fun w S0 γ vs h1 h2 h3 h4 h5 h6 => (h w _ γ vs h6).mono ?_⟩
  rintro e w' ⟨v, rfl, rfl, hv⟩
  exact ⟨v, γ, rfl, ⟨rfl, rfl, rfl, Nat.le_refl _, fun _ _ _ => rfl, Ng.refl _, h2, (fun _ _ h => by cases h), (fun _ _ _ _ _ _ _ h => by cases h), (fun b ⟨_, _, _, h, _⟩ => by cases h), hv⟩⟩
theorem szk {a b k : Nat} (h1 : a = k) (h2 : b = k) : a = b := h1.trans h2.symm
theorem slpk {R τ : Type} {X : Cx} {l m} {k : τ → Option R} {t : τ} {G : R → Act → World → Prop} (h : Sq X l m (k t) G) : Sq X l m (lpK k (.go t)) G := h
end Go.Proofs.YtgafinimmcfekaaDoor
