import Derived.Test.YtiobbiamnjapgaaDoorSim28
namespace Go.Proofs.YtiobbiamnjapgaaDoor
open Go Go.RowKit
/-! ### Errors, and functions of the library -/
/-- An error, or none. -/
def cpE (b : Bool) : CP where
  p := fun _ _ v => (b = false ∧ v = .nilIface) ∨ (b = true ∧ ∃ t u, v = .iface t u)
  one := by rintro _ _ v (⟨_, rfl⟩ | ⟨_, t, u, rfl⟩) <;> rfl
  mono := fun h _ _ => h
def erl (b : Bool) : Ly := .cell (cpE b)
theorem if_erl {b} : IF (erl b) := if_cell _
theorem zr_erl : Zr (erl false) [.nilIface] := fun _ _ _ => ⟨_, rfl, .inl ⟨rfl, rfl⟩⟩
section ops
variable {X : Cx} {st : Nat → Option Ly} {mm : Nat → Option Ct}
theorem er_nil {P : Program} {T : TypeId} {ms : Array (String × TypeId)} (hT : P.underlying T = some (.interface ms)) (w : World) : (Op.equal T .nilIface .nilIface).run P w = .ok true w := by
  have h : ∀ d : Nat, (Op.equalIn (d + 1) T .nilIface .nilIface).run P w = .ok true w := fun d => by simp [Op.equalIn, run_underlying hT]
  exact h 9999
theorem er_some {P : Program} {T : TypeId} {ms : Array (String × TypeId)} (hT : P.underlying T = some (.interface ms)) (t : TypeId) (u : Value) (w : World) : (Op.equal T (.iface t u) .nilIface).run P w = .ok false w := by
  have h : ∀ d : Nat, (Op.equalIn (d + 1) T (.iface t u) .nilIface).run P w = .ok false w := fun d => by simp [Op.equalIn, run_underlying hT]
  exact h 9999
theorem eqE {d x T T2 ty pos af p ms} (hT : X.P.underlying T = some (.interface ms)) (hd : Nat.blt d X.N = true) (hx : OpdF st x (erl p)) :
    OpOk X st mm ⟨some d, .binOp .eql T x (.const .nilIface) T2, ty, pos, af, none⟩ [(d, bl (!p))] [] :=
  bin_ok hd hx kNI fun w S γ vx vy h1 h2 => by
    have h2' : vy = .nilIface := h2
    subst h2'
    rcases h1 with ⟨rfl, rfl⟩ | ⟨rfl, t, u, rfl⟩
    · exact ⟨.bool true, fun w => by simp [eqGuard], fun w => by simp only [binOp]; simp [er_nil hT], rfl⟩
    · exact ⟨.bool false, fun w => by simp [eqGuard], fun w => by simp only [binOp]; simp [er_some hT], rfl⟩
theorem neE {d x T T2 ty pos af p ms} (hT : X.P.underlying T = some (.interface ms)) (hd : Nat.blt d X.N = true) (hx : OpdF st x (erl p)) :
    OpOk X st mm ⟨some d, .binOp .neq T x (.const .nilIface) T2, ty, pos, af, none⟩ [(d, bl p)] [] :=
  bin_ok hd hx kNI fun w S γ vx vy h1 h2 => by
    have h2' : vy = .nilIface := h2
    subst h2'
    rcases h1 with ⟨rfl, rfl⟩ | ⟨rfl, t, u, rfl⟩
    · exact ⟨.bool false, fun w => by simp [eqGuard], fun w => by simp only [binOp]; simp [er_nil hT], rfl⟩
    · exact ⟨.bool true, fun w => by simp [eqGuard], fun w => by simp only [binOp]; simp [er_some hT], rfl⟩
end ops
/-- A function of the library: it may make new blocks, and turns nothing that is there. -/
theorem fn_lib {P : Program} {f : Nat} {args : List Ly} {res : Ly} (hf : ∃ fn, P.funcs[f]? = some fn ∧ (fn.name == "runtime.NumGoroutine") = false ∧ fn.body.isSome = true)
    (h : ∀ w S γ (vs : Array Value), (∀ b, S b → b < w.heap.size) → GF w → Ly.vals w S γ args vs.toList → Calls P f vs w fun e w' => ∃ v, e = .returned v ∧ Below w.heap.size w w' ∧ res.val w' S γ v) : FnOk P f args [] res [] := by
  refine ⟨hf, fun w S0 γ vs h1 h2 h3 h4 h5 h6 h7 => (h w (Sx S0 γ []) γ vs (fun b hb => hb.elim (h1 b) (fun ⟨_, _, _, h, _⟩ => by cases h)) h7.2 h6).mono ?_⟩
  rintro e w' ⟨v, rfl, hb, hv⟩
  exact ⟨v, γ, rfl, ⟨hb.os, hb.tape, hb.output, hb.size, fun b hb' _ => hb.block b hb', Ng.refl _, h2, (fun _ _ h => by cases h), (fun _ _ _ _ _ _ _ h => by cases h), (fun b ⟨_, _, _, h, _⟩ => by cases h), hv⟩⟩
/-- A row of strings that is new. -/
theorem sli_new {w : World} {S : Nat → Prop} {γ : Nm} {E : TypeId} {ws : List (List UInt8)} (hS : ∀ b, S b → b < w.heap.size) (hl : ∀ x ∈ ws, x.length ≤ maxLen) (hn : ws.length ≤ maxLen) :
    (sli 1 (ws.map str)).val (w.alloc (.cells ((ws.map fun l => Value.string ⟨l.toArray⟩).toArray) E)) S γ (.slice (some ⟨w.heap.size, 0, none⟩) ws.length ws.length) := by
  have hh : ∀ (l : List (List UInt8)) (w : World) (S : Nat → Prop), (∀ x ∈ l, x.length ≤ maxLen) → Ly.holds w S (fun _ => none) (l.map str) (l.map fun l => Value.string ⟨l.toArray⟩) := by
    intro l
    induction l with
    | nil => intro w S _; rfl
    | cons x l ih => intro w S h; exact ⟨[_], _, rfl, ⟨_, rfl, rfl, h x (.head _)⟩, ih w S fun y hy => h y (.tail _ hy)⟩
  refine .inr (.inl ⟨w.heap.size, 0, ws.length, ws.map fun l => Value.string ⟨l.toArray⟩, by simp, by simp, hn, (by show w.heap.size < (w.heap.push _).size; simp), fun h => absurd (hS _ h) (Nat.lt_irrefl _), ?_, hh _ _ _ hl, ?_⟩)
  · intro j u hj
    have hb : (w.alloc (.cells ((ws.map fun l => Value.string ⟨l.toArray⟩).toArray) E)).heap[w.heap.size]? = some (.cells ((ws.map fun l => Value.string ⟨l.toArray⟩).toArray) E (0, 0)) := by
      show (w.heap.push _)[w.heap.size]? = _
      rw [Array.getElem?_push, if_pos rfl]
    simp only [World.cell?, hb, Nat.zero_add]
    simpa using hj
  · intro ly hly
    obtain ⟨x, _, rfl⟩ := List.mem_map.1 hly
    rfl
end Go.Proofs.YtiobbiamnjapgaaDoor
