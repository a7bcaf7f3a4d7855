import Derived.Test.YtiobbiamnjapgaaDoorSim8
namespace Go.Proofs.YtiobbiamnjapgaaDoor
open Go Go.RowKit

/-! ### What a function does -/
def Sx (S0 : Nat → Prop) (γ : Nm) (m : List (Nat × Ct)) (b : Nat) : Prop := S0 b ∨ Ow γ (lk m) b

def Apart (γ : Nm) (mm : Nat → Option Ct) : Prop := ∀ id id' c c' v v' b, mm id = some c → c.alive = true → mm id' = some c' → c'.alive = true → γ id = some v → γ id' = some v' → blkOf v = some b → blkOf v' = some b → id = id'

structure Back (w : World) (S0 : Nat → Prop) (γ : Nm) (mi : List (Nat × Ct)) (res : Ly) (mo : List (Nat × Ct)) (v : Value) (γ' : Nm) (w' : World) : Prop where
  os : w'.os = w.os
  tape : w'.tape = w.tape
  output : w'.output = w.output
  grow : w.heap.size ≤ w'.heap.size
  old : ∀ b, b < w.heap.size → ¬ Ow γ (lk mi) b → w'.heap[b]? = w.heap[b]?
  keep : Ng γ γ'
  fresh : ∀ id, lk mo id = none → γ' id = none
  cts : ∀ id c, lk mo id = some c → CtHold w' (Sx S0 γ' mo) γ' id c
  apart : Apart γ' (lk mo)
  mine : ∀ b, Ow γ' (lk mo) b → (w.heap.size ≤ b ∨ Ow γ (lk mi) b) ∧ b < w'.heap.size ∧ ¬ S0 b
  res : res.val w' (Sx S0 γ' mo) γ' v

def RetP (w : World) (S0 : Nat → Prop) (γ : Nm) (mi : List (Nat × Ct)) (res : Ly) (mo : List (Nat × Ct)) : Ending → World → Prop :=
  fun e w' => ∃ v γ', e = .returned v ∧ Back w S0 γ mi res mo v γ' w'

def FnOk (P : Program) (f : Nat) (args : List Ly) (mi : List (Nat × Ct)) (res : Ly) (mo : List (Nat × Ct)) : Prop :=
  (∃ fn, P.funcs[f]? = some fn ∧ (fn.name == "runtime.NumGoroutine") = false ∧ fn.body.isSome = true) ∧
  ∀ (w : World) (S0 : Nat → Prop) (γ : Nm) (vs : Array Value), (∀ b, S0 b → b < w.heap.size) → (∀ id, lk mi id = none → γ id = none) →
    (∀ id c, lk mi id = some c → CtHold w (Sx S0 γ mi) γ id c) → Apart γ (lk mi) → (∀ b, Ow γ (lk mi) b → b < w.heap.size ∧ ¬ S0 b) → Ly.vals w (Sx S0 γ mi) γ args vs.toList → GwOk w (Sx S0 γ mi) →
    Calls P f vs w (RetP w S0 γ mi res mo)

def argl : Nat → List Ly → List (Nat × Ly)
  | _, [] => []
  | i, ly :: l => (i, ly) :: argl (i + 1) l

theorem argl_get {w S γ} : ∀ {l : List Ly} {vs : List Value} (i : Nat), Ly.vals w S γ l vs → ∀ d ly, lk (argl i l) d = some ly → i ≤ d ∧ ∃ v, vs[d - i]? = some v ∧ ly.val w S γ v
  | [], _, _, _, d, ly, h => by cases h
  | x :: l, vs, i, hv, d, ly, h => by
    simp only [Ly.vals] at hv
    obtain ⟨v, r, rfl, h1, h2⟩ := hv
    simp only [argl, lk] at h
    cases hb : Nat.beq i d
    · rw [hb] at h
      obtain ⟨g1, u, g2, g3⟩ := argl_get (i + 1) h2 d ly h
      exact ⟨by omega, u, by rw [show d - i = (d - (i + 1)) + 1 by omega]; simpa using g2, g3⟩
    · rw [hb] at h; simp at h; subst h
      have : i = d := Nat.eq_of_beq_eq_true hb
      subst this
      exact ⟨Nat.le_refl _, v, by simp, h1⟩

theorem fn_of_sq {P : Program} {f N : Nat} {fn : Func} {c : Code} {args : List Ly} {mi : List (Nat × Ct)} {R : Type} {res : R → Ly} {mo : R → List (Nat × Ct)} {md : Option R}
    (hf : P.funcs[f]? = some fn) (hb : fn.body = some c) (hN : fn.ntmps = N) (hname : (fn.name == "runtime.NumGoroutine") = false) (hl : Nat.ble args.length N = true)
    (h : ∀ w S0 γ, (∀ id, lk mi id = none → γ id = none) → Sq ⟨P, N, w, S0, Ow γ (lk mi), γ⟩ (argl 0 args) mi md (fun r => c.wp P (bodyPost P fn (RetP w S0 γ mi (res r) (mo r))))) :
    ∀ r, md = some r → FnOk P f args mi (res r) (mo r) := by
  intro r hr
  refine ⟨⟨fn, hf, hname, by rw [hb]; rfl⟩, fun w S0 γ vs h1 h2 h3 h4 h5 h6 h7 => ?_⟩
  refine calls_of_wp hf hb (h w S0 γ h2 r _ w γ hr ?_)
  have hvl : vs.size = args.length := by
    have : ∀ (l : List Ly) (vs : List Value), Ly.vals w (Sx S0 γ mi) γ l vs → vs.length = l.length := by
      intro l
      induction l with
      | nil => intro vs h; simp only [Ly.vals] at h; simp [h]
      | cons x l ih => intro vs h; simp only [Ly.vals] at h; obtain ⟨v, r, rfl, _, h⟩ := h; simp [ih r h]
    simpa using this args vs.toList h6
  have hle := Nat.le_of_ble_eq_true hl
  exact { size := by simp [hN, hvl]; omega, defs := rfl, s0 := h1, gx := h7, keep := Ng.refl _, os := rfl, tape := rfl, output := rfl, grow := Nat.le_refl _, old := fun _ _ _ => rfl, fresh := h2, cts := h3, apart := h4,
          mine := fun b hb => ⟨.inr hb, (h5 b hb).1, (h5 b hb).2⟩,
          sts := fun d ly hd => by
            obtain ⟨_, v, g1, g2⟩ := argl_get 0 h6 d ly hd
            refine ⟨v, ?_, g2⟩
            simp only [Nat.sub_zero, Array.getElem?_toList] at g1
            show (vs ++ _)[d]? = _
            rw [Array.getElem?_append_left (by
              rcases Nat.lt_or_ge d vs.size with h | h
              · exact h
              · simp [Array.getElem?_eq_none h] at g1)]
            exact g1 }

/-! ### The return -/
def KpL (σ : List (Nat × Nat)) : List (Nat × Ct) → Prop
  | [] => True
  | (id, _) :: r => lk σ id = some id ∧ KpL σ r
theorem keepS {σ mi} {γ : Nm} (hγ : ∀ id, lk mi id = none → γ id = none) (h : KpL σ mi) : KeepS σ γ := by
  intro id v hv
  have hne : lk mi id ≠ none := fun e => by rw [hγ id e] at hv; cases hv
  clear hγ hv
  induction mi with
  | nil => exact absurd rfl hne
  | cons e r ih =>
    obtain ⟨i, c⟩ := e
    simp only [lk] at hne
    cases hb : Nat.beq i id
    · rw [hb] at hne; exact ih h.2 hne
    · rw [← Nat.eq_of_beq_eq_true hb]; exact h.1

def ResF (P : Program) (l : List (Nat × Ly)) (m : List (Nat × Ct)) : List ResultVar → List Ly → Prop
  | [], [] => True
  | .tmp t :: rs, ly :: lys => lk l t = some ly ∧ ResF P l m rs lys
  | .cell t T :: rs, ly :: lys => (∃ id E, lk l t = some (.own id) ∧ lk m id = some (.bx E ly) ∧ Shp P T ly.isN ly.sz) ∧ ResF P l m rs lys
  | _, _ => False

def resItem (tmps : Array Value) : ResultVar → Sem Value
  | .tmp t => pure (tmps.getD t undef)
  | .cell t T => do loadVar T (← asAddr (tmps.getD t undef))

theorem resF_run {X : Cx} {l m a w γ} (hi : Inv X (lk l) (lk m) a w γ) : ∀ (rs : List ResultVar) (lys : List Ly), ResF X.P l m rs lys →
    ∃ vs : List Value, (rs.mapM (resItem a.tmps)).run X.P w = .ok vs w ∧ Ly.vals w (X.S γ (lk m)) γ lys vs
  | [], [], _ => ⟨[], by simp, by simp [Ly.vals]⟩
  | .tmp t :: rs, ly :: lys, h => by
    obtain ⟨vs, h1, h2⟩ := resF_run hi rs lys h.2
    obtain ⟨v, g1, g2⟩ := hi.sts t ly h.1
    refine ⟨v :: vs, ?_, ?_⟩
    · simp [List.mapM_cons, resItem, g1, h1]
    · simp only [Ly.vals]; exact ⟨v, vs, rfl, g2, h2⟩
  | .cell t T :: rs, ly :: lys, h => by
    obtain ⟨⟨id, E, k1, k2, k3⟩, k4⟩ := h
    obtain ⟨vs, h1, h2⟩ := resF_run hi rs lys k4
    obtain ⟨u, g1, g2, _⟩ := hi.sts t _ k1
    obtain ⟨g, cur, e1, e2, e3⟩ := bxI hi k2
    rw [e1] at g2; simp at g2; subst g2
    obtain ⟨v, r1, r2⟩ := run_loadVar (P := X.P) (b := g) (o := 0) (w := w) k3 rfl rfl (us := cur.toList) (fun j u hj => by rw [cell_of_heap e2]; simpa using hj) e3
    refine ⟨v :: vs, ?_, ?_⟩
    · simp [List.mapM_cons, resItem, g1, asAddr, r1, h1]
    · simp only [Ly.vals]; exact ⟨v, vs, rfl, r2, h2⟩
  | .tmp _ :: _, [], h => h.elim
  | .cell _ _ :: _, [], h => h.elim
  | [], _ :: _, h => h.elim

def tupV : List Value → Value
  | [v] => v
  | vs => .tuple ⟨vs⟩

def resL : List Ly → Ly
  | [ly] => ly
  | l => .tup l

theorem run_results {P : Program} {w : World} {fn : Func} {tmps : Array Value} {rs : List ResultVar} {vs : List Value} (hr : fn.results = ⟨rs⟩)
    (h : (rs.mapM (resItem tmps)).run P w = .ok vs w) :
    (results fn tmps).run P w = .ok (tupV vs) w := by
  have e0 : results fn tmps = (do
      let vs ← fn.results.mapM (resItem tmps)
      pure (if h : vs.size = 1 then vs[0] else .tuple vs)) := by
    unfold results
    congr 1
  have e1 : Array.mapM (resItem tmps) (⟨rs⟩ : Array ResultVar) = List.toArray <$> (rs.mapM (resItem tmps)) := by
    rw [show (⟨rs⟩ : Array ResultVar) = rs.toArray from rfl, List.mapM_toArray]
  rw [e0, hr, e1]
  simp only [Sem.run_bind, Sem.run_map, h, Result.andThen_ok]
  rcases vs with _ | ⟨v, _ | ⟨v', vs⟩⟩ <;> simp [tupV]

theorem ret {P : Program} {N : Nat} {w0 : World} {S0 γ0} {mi : List (Nat × Ct)} {R : Type} {res : R → Ly} {mo : R → List (Nat × Ct)} {fn : Func} {l : List (Nat × Ly)} {m : List (Nat × Ct)} {r : R} (σ : List (Nat × Nat)) (rs : List ResultVar) (lys lys' : List Ly) (e : Exit)
    (hγ : ∀ id, lk mi id = none → γ0 id = none)
    (he : e = .ret ∨ e = .normal) (hr : fn.results = ⟨rs⟩) (hF : ResF P l m rs lys) (hn : nodupB ((alv σ (mo r)).map (·.2)) = true) (hk : KpL σ mi) (hs : NmM (mo r) σ) (hm : RnM σ m (mo r)) (hl : Rns σ lys lys') (hres : resL lys' = res r) :
    Sq ⟨P, N, w0, S0, Ow γ0 (lk mi), γ0⟩ l m (some r) (fun r => bodyPost P fn (RetP w0 S0 γ0 mi (res r) (mo r)) e) := by
  intro r' a w γ hr' hi
  cases hr'
  obtain ⟨vs, h1, h2⟩ := resF_run hi rs lys hF
  have hrun := run_results hr h1
  let γ' : Nm := fun y => match lk σ y with | some x => γ x | none => none
  have hg : ∀ y x, lk σ y = some x → γ' y = γ x := fun y x h => by simp only [γ', h]
  obtain ⟨γ'', hi'⟩ := entR (l' := []) (m' := mo r) σ hn (keepS hγ hk) hs hm trivial a w γ hi
  have key : ∀ b, Ow γ' (lk (mo r)) b → Ow γ (lk m) b := by
    rintro b ⟨y, c', v, k1, k2, k3, k4⟩
    obtain ⟨x, c, g1, g2, g3⟩ := hm.get y c' k1
    exact ⟨x, c, v, g2, g3.al k2, by rw [← hg y x g1]; exact k3, k4⟩
  have hS : ∀ b, Sx S0 γ' (mo r) b → Cx.S ⟨P, N, w0, S0, Ow γ0 (lk mi), γ0⟩ γ (lk m) b := fun b h => orM h (fun x => x) (key b)
  have hvals : Ly.vals w (Sx S0 γ' (mo r)) γ' lys' vs := (hl w _ γ γ' hg).2 vs (Ly.vals_mono (Kp.refl _ _) (fun b hb => .inl (hS b hb)) (Ng.refl _) _ _ h2)
  have hv : (res r).val w (Sx S0 γ' (mo r)) γ' (tupV vs) := by
    rw [← hres]
    rcases lys' with _ | ⟨ly, _ | ⟨ly2, lys'⟩⟩
    · simp only [Ly.vals] at hvals; subst hvals
      exact ⟨#[], rfl, by simp [Ly.vals]⟩
    · simp only [Ly.vals] at hvals
      obtain ⟨v, rr, rfl, k1, rfl⟩ := hvals
      exact k1
    · have hvals' := hvals
      simp only [Ly.vals] at hvals
      obtain ⟨v, rr, rfl, k1, v2, rr2, rfl, k2, k3⟩ := hvals
      show Ly.val w _ γ' (.tup _) _
      simp only [Ly.val]
      exact ⟨_, rfl, hvals'⟩
  have hback : RetP w0 S0 γ0 mi (res r) (mo r) (.returned (tupV vs)) w := by
    refine ⟨_, γ', rfl, ⟨hi.os, hi.tape, hi.output, hi.grow, hi.old, ?_, ?_, ?_, ?_, ?_, hv⟩⟩
    · intro id v hv
      have h3 := keepS hγ hk id v hv
      rw [hg id id h3]; exact hi.keep id v hv
    · intro y hy
      cases h : lk σ y with
      | none => simp only [γ', h]
      | some x => obtain ⟨c, hc⟩ := hs.get y x h; rw [hy] at hc; cases hc
    · intro y c' hc'
      obtain ⟨x, c, g1, g2, g3⟩ := hm.get y c' hc'
      have h0 := hi.cts x c g2
      have h1 : CtHold w (Sx S0 γ' (mo r)) γ x c := h0.mono (Kp.refl _ _) (fun b hb => .inl (hS b hb)) (Ng.refl _) (fun _ _ _ _ => rfl)
      exact h1.rn1 hg g1 g3
    · intro y y' c c' v v' b h1 h2 h3 h4 h5 h6 h7 h8
      obtain ⟨x, d, g1, g2, g3⟩ := hm.get y c h1
      obtain ⟨x', d', g1', g2', g3'⟩ := hm.get y' c' h3
      rw [hg y x g1] at h5
      rw [hg y' x' g1'] at h6
      have := hi.apart x x' d d' v v' b g2 (g3.al h2) g2' (g3'.al h4) h5 h6 h7 h8
      subst this
      exact nodup_inj' hn (alv_mem (lk_mem g1) h1 h2) (alv_mem (lk_mem g1') h3 h4)
    · intro b hb; exact hi.mine b (key b hb)
  rcases he with rfl | rfl <;> exact ⟨hi.defs, _, hrun, hback⟩

end Go.Proofs.YtiobbiamnjapgaaDoor
