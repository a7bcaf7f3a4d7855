import Derived.Test.YtiobbiamnjapgaaDoorSim14
namespace Go.Proofs.YtiobbiamnjapgaaDoor
open Go Go.RowKit

/-! ### A region whose order Go leaves open -/
section cur
variable {α : Type}
/-- What is known when the operations of L have been carried out. -/
def cur (base : Nat → Option α) : List (List (Nat × α)) → Nat → (Nat → Bool) → Nat → Option α
  | [], _, _ => base
  | e :: es, i, L => cur (if L i then up base e else base) es (i + 1) L

def wr (e : List (Nat × α)) (r : Nat) : Bool := (lk e r).isSome

theorem up_nw {st : Nat → Option α} {e r} (h : wr e r = false) : up st e r = st r := by
  unfold wr at h; unfold up
  cases hl : lk e r with
  | none => rfl
  | some x => rw [hl] at h; cases h
theorem up_w {st st' : Nat → Option α} {e r} (h : wr e r = true) : up st e r = up st' e r := by
  unfold wr at h; unfold up
  cases hl : lk e r with
  | none => rw [hl] at h; cases h
  | some x => rfl

/-- It hangs on the base at one place alone. -/
theorem cur_at {L : Nat → Bool} {r : Nat} : ∀ (es : List (List (Nat × α))) (b b' : Nat → Option α) (i : Nat), b r = b' r → cur b es i L r = cur b' es i L r
  | [], b, b', i, h => h
  | e :: es, b, b', i, h => by
    simp only [cur]
    apply cur_at es
    cases L i
    · simpa using h
    · simp only [if_true]
      cases hw : wr e r
      · rw [up_nw hw, up_nw hw, h]
      · exact up_w hw

theorem cur_nw {L : Nat → Bool} {r : Nat} : ∀ (es : List (List (Nat × α))) (b : Nat → Option α) (i : Nat), (∀ k e, es[k]? = some e → wr e r = true → L (i + k) = false) → cur b es i L r = b r
  | [], b, i, _ => rfl
  | e :: es, b, i, h => by
    simp only [cur]
    rw [cur_nw es _ (i + 1) (fun k e' hk hw => by have := h (k + 1) e' (by simpa using hk) hw; rw [show i + 1 + k = i + (k + 1) by omega]; exact this)]
    cases hL : L i
    · rfl
    · simp only [if_true]
      cases hw : wr e r
      · exact up_nw hw
      · have := h 0 e rfl hw
        rw [Nat.add_zero, hL] at this; cases this

theorem cur_L {r : Nat} : ∀ (es : List (List (Nat × α))) (b : Nat → Option α) (i : Nat) (L L' : Nat → Bool), (∀ k e, es[k]? = some e → wr e r = true → L (i + k) = L' (i + k)) → cur b es i L r = cur b es i L' r
  | [], b, i, L, L', _ => rfl
  | e :: es, b, i, L, L', h => by
    simp only [cur]
    rw [cur_L es _ (i + 1) L L' (fun k e' hk hw => by have := h (k + 1) e' (by simpa using hk) hw; rw [show i + 1 + k = i + (k + 1) by omega]; exact this)]
    apply cur_at
    cases hw : wr e r
    · cases L i <;> cases L' i <;> simp [up_nw hw]
    · have := h 0 e rfl hw
      rw [Nat.add_zero] at this; rw [this]

/-- One operation more. -/
theorem cur_add {r : Nat} : ∀ (es : List (List (Nat × α))) (b : Nat → Option α) (i j : Nat) (L L' : Nat → Bool) (ej : List (Nat × α)), es[j]? = some ej → L' (i + j) = true → (∀ k, k ≠ i + j → L' k = L k) → L (i + j) = false →
    (∀ k e, es[k]? = some e → j < k → wr ej r = true → wr e r = true → L (i + k) = false) → cur b es i L' r = up (cur b es i L) ej r
  | [], _, _, j, _, _, _, h, _, _, _, _ => by simp at h
  | e :: es, b, i, 0, L, L', ej, h, h1, h2, h3, h4 => by
    simp at h; subst h
    simp only [Nat.add_zero] at h1 h3
    simp only [cur, h1, h3, if_true]
    have e1 : ∀ b', cur b' es (i + 1) L' r = cur b' es (i + 1) L r := fun b' => cur_L es b' (i + 1) L' L (fun k _ _ _ => h2 _ (by omega))
    rw [e1]
    cases hw : wr e r
    · rw [up_nw hw]; exact cur_at es _ _ _ (up_nw hw)
    · have hn : ∀ b', cur b' es (i + 1) L r = b' r := fun b' => cur_nw es b' (i + 1) (fun k e' hk hw' => by
        have := h4 (k + 1) e' (by simpa using hk) (by omega) hw hw'
        rw [show i + 1 + k = i + (k + 1) by omega]; exact this)
      rw [hn]; exact up_w hw
  | e :: es, b, i, j + 1, L, L', ej, h, h1, h2, h3, h4 => by
    simp only [cur]
    have e0 : L' i = L i := h2 i (by omega)
    rw [e0]
    exact cur_add es _ (i + 1) j L L' ej (by simpa using h) (by rw [show i + 1 + j = i + (j + 1) by omega]; exact h1) (fun k hk => h2 k (by omega)) (by rw [show i + 1 + j = i + (j + 1) by omega]; exact h3)
      (fun k e' hk hjk hw hw' => by have := h4 (k + 1) e' (by simpa using hk) (by omega) hw hw'; rw [show i + 1 + k = i + (k + 1) by omega]; exact this)

/-- What an operation reads is what stands there in the order of the text. -/
theorem cur_read {r : Nat} (L : Nat → Bool) : ∀ (es : List (List (Nat × α))) (b : Nat → Option α) (i j : Nat), (∀ k e, es[k]? = some e → wr e r = true → k < j → L (i + k) = true) → (∀ k e, es[k]? = some e → wr e r = true → j ≤ k → L (i + k) = false) →
    cur b es i L r = cur b (es.take j) i (fun _ => true) r
  | [], b, i, j, _, _ => by simp [cur]
  | e :: es, b, i, 0, h1, h2 => by
    simp only [List.take_zero]
    rw [cur_nw (e :: es) b i (fun k e' hk hw => h2 k e' hk hw (Nat.zero_le _))]; rfl
  | e :: es, b, i, j + 1, h1, h2 => by
    simp only [List.take_succ_cons, cur, if_true]
    rw [cur_read L es _ (i + 1) j (fun k e' hk hw hlt => by have := h1 (k + 1) e' (by simpa using hk) hw (by omega); rw [show i + 1 + k = i + (k + 1) by omega]; exact this)
      (fun k e' hk hw hle => by have := h2 (k + 1) e' (by simpa using hk) hw (by omega); rw [show i + 1 + k = i + (k + 1) by omega]; exact this)]
    apply cur_at
    cases hL : L i
    · cases hw : wr e r
      · simp [up_nw hw]
      · have := h1 0 e rfl hw (by omega)
        rw [Nat.add_zero, hL] at this; cases this
    · simp
end cur

structure D where
  rs : List Nat
  ri : List Nat
  el : List (Nat × Ly)
  em : List (Nat × Ct)

def Ag {α : Type} (st st0 : Nat → Option α) : List Nat → Prop
  | [] => True
  | d :: r => st d = st0 d ∧ Ag st st0 r
theorem Ag.of {α : Type} {st st0 : Nat → Option α} : ∀ {l : List Nat}, (∀ d ∈ l, st d = st0 d) → Ag st st0 l
  | [], _ => trivial
  | d :: _, h => ⟨h d List.mem_cons_self, Ag.of (fun x hx => h x (List.mem_cons_of_mem _ hx))⟩

def OpG (X : Cx) (ops : Array Oper) (st : Nat → Option Ly) (mm : Nat → Option Ct) (o : Oper) (el : List (Nat × Ly)) (em : List (Nat × Ct)) : Prop :=
  ∀ a w γ K Q, Inv X st mm a w γ → (∀ a' w' γ', Inv X (up st el) (up mm em) a' w' γ' → K a' w') → if Region.wanted o (yielded ops a.tmps) then o.wp X.P a w K Q else K (a.put o.dst undef) w

def Steps' (X : Cx) (ops : Array Oper) : List (Nat × Ly) → List (Nat × Ct) → List Oper → List D → Prop
  | _, _, [], [] => True
  | l, m, o :: os, d :: ds => (∀ st mm, Ag st (lk l) d.rs → Ag mm (lk m) d.ri → OpG X ops st mm o d.el d.em) ∧ Steps' X ops (d.el ++ l) (d.em ++ m) os ds
  | _, _, _, _ => False

/-- The operations that must come ahead of one. -/
def prs (o : Oper) : List Nat := (o.after.toList.filter (Region.binds .any)).map (·.on)
def anyB (l : List Nat) (j : Nat) : Bool := l.any (Nat.beq j)
/-- Does the list of places hold this one? -/
def wrAny {α : Type} (l : List (Nat × α)) (rs : List Nat) : Bool := rs.any fun r => wr l r

/-- Does the one write what the other one reads or writes? -/
def cf (dj di : D) : Bool := wrAny dj.el di.rs || wrAny di.el dj.rs || wrAny dj.el (di.el.map (·.1)) || wrAny dj.em di.ri || wrAny di.em dj.ri || wrAny dj.em (di.em.map (·.1))
def rowOk (pi : List Nat) (di : D) : Nat → List D → Bool
  | _, [] => true
  | j, dj :: ds => (!(cf dj di) || anyB pi j) && rowOk pi di (j + 1) ds
/-- All that must come ahead of one, by way of others too. -/
def far (an : List (List Nat)) (o : Oper) : List Nat := prs o ++ (prs o).flatMap (fun p => an.getD p [])
def drawOk : List Oper → List D → Nat → List D → List (List Nat) → Bool
  | [], [], _, _, _ => true
  | o :: os, d :: ds, i, before, an => (prs o).all (fun p => Nat.blt p i) && rowOk (far an o) d 0 before && drawOk os ds (i + 1) (before ++ [d]) (an ++ [far an o])
  | _, _, _, _, _ => false
inductive Anc (ls : List Oper) : Nat → Nat → Prop
  | one {j i o} : ls[i]? = some o → j ∈ prs o → Anc ls j i
  | far {j p i o} : ls[i]? = some o → p ∈ prs o → Anc ls j p → Anc ls j i
theorem Anc.listed {ls : List Oper} {listed : Array Bool} (hcl : ∀ i o, ls[i]? = some o → listed.getD i false = true → ∀ p ∈ prs o, listed.getD p false = true) {j i : Nat} (h : Anc ls j i) : listed.getD i false = true → listed.getD j false = true := by
  induction h with
  | one h1 h2 => intro h; exact hcl _ _ h1 h _ h2
  | far h1 h2 _ ih => intro h; exact ih (hcl _ _ h1 h _ h2)

theorem anyB_mem {l : List Nat} {j : Nat} (h : anyB l j = true) : j ∈ l := by
  unfold anyB at h
  obtain ⟨x, hx, he⟩ := List.any_eq_true.1 h
  rw [Nat.eq_of_beq_eq_true he]; exact hx

theorem wrAny_false {α : Type} {l : List (Nat × α)} {rs : List Nat} (h : wrAny l rs = false) : ∀ r ∈ rs, wr l r = false := by
  intro r hr
  unfold wrAny at h
  cases hw : wr l r
  · rfl
  · have : (rs.any fun r => wr l r) = true := List.any_eq_true.2 ⟨r, hr, hw⟩
    rw [this] at h; cases h

theorem wr_key {α : Type} {l : List (Nat × α)} {r : Nat} (h : wr l r = true) : r ∈ l.map (·.1) := by
  unfold wr at h
  cases hl : lk l r with
  | none => rw [hl] at h; cases h
  | some x => exact List.mem_map.2 ⟨(r, x), lk_mem' hl, rfl⟩
where lk_mem' {α : Type} : ∀ {l : List (Nat × α)} {r x}, lk l r = some x → (r, x) ∈ l := by
        intro l
        induction l with
        | nil => intro r x h; cases h
        | cons e l ih =>
          obtain ⟨i, y⟩ := e
          intro r x h
          simp only [lk] at h
          cases hb : Nat.beq i r
          · rw [hb] at h; exact List.mem_cons_of_mem _ (ih h)
          · rw [hb] at h; simp at h; subst h
            rw [Nat.eq_of_beq_eq_true hb]; exact List.mem_cons_self

structure DrawFacts (ops : List Oper) (ds : List D) : Prop where
  len : ops.length = ds.length
  back : ∀ i o, ops[i]? = some o → ∀ p ∈ prs o, p < i
  pair : ∀ (i j : Nat) o di dj, ops[i]? = some o → ds[i]? = some di → ds[j]? = some dj → j < i → Anc ops j i ∨ cf dj di = false

theorem rowOk_get {pi di} : ∀ {ds : List D} {j0 : Nat}, rowOk pi di j0 ds = true → ∀ j dj, ds[j]? = some dj → j0 + j ∈ pi ∨ cf dj di = false
  | [], _, _, j, dj, h => by simp at h
  | d :: ds, j0, hr, 0, dj, h => by
    simp only [rowOk, Bool.and_eq_true, Bool.or_eq_true, Bool.not_eq_true'] at hr
    simp at h; subst h
    exact orM hr.1.symm (fun h => anyB_mem h) (fun h => h)
  | d :: ds, j0, hr, j + 1, dj, h => by
    simp only [rowOk, Bool.and_eq_true] at hr
    have := rowOk_get hr.2 j dj (by simpa using h)
    rw [show j0 + (j + 1) = j0 + 1 + j by omega]; exact this

theorem far_anc {ls : List Oper} {an : List (List Nat)} (han : ∀ k l, an[k]? = some l → ∀ j ∈ l, Anc ls j k) {i o} (ho : ls[i]? = some o) : ∀ j ∈ far an o, Anc ls j i := by
  intro j hj
  rcases List.mem_append.1 hj with h | h
  · exact .one ho h
  · obtain ⟨p, hp, hjp⟩ := List.mem_flatMap.1 h
    rw [List.getD_eq_getElem?_getD] at hjp
    cases hl : an[p]? with
    | none => rw [hl] at hjp; simp at hjp
    | some l => rw [hl] at hjp; exact .far ho hp (han p l hl j hjp)

theorem drawOk_facts {ls : List Oper} : ∀ (ops : List Oper) (ds : List D) (i : Nat) (before : List D) (an : List (List Nat)), before.length = i → an.length = i → (∀ k o, ops[k]? = some o → ls[i + k]? = some o) → (∀ k l, an[k]? = some l → ∀ j ∈ l, Anc ls j k) → drawOk ops ds i before an = true →
    ops.length = ds.length ∧ (∀ k o, ops[k]? = some o → ∀ p ∈ prs o, p < i + k) ∧ (∀ (k j : Nat) o di dj, ops[k]? = some o → ds[k]? = some di → (before ++ ds)[j]? = some dj → j < i + k → Anc ls j (i + k) ∨ cf dj di = false)
  | [], [], i, before, an, _, _, _, _, _ => ⟨rfl, fun k o h => by simp at h, fun k j o di dj h => by simp at h⟩
  | o :: os, d :: ds, i, before, an, hb, ha, hls, han, h => by
    simp only [drawOk, Bool.and_eq_true] at h
    obtain ⟨⟨h1, h2⟩, h3⟩ := h
    have ho : ls[i]? = some o := by have := hls 0 o rfl; simpa using this
    have hfar := far_anc han ho
    obtain ⟨g1, g2, g3⟩ := drawOk_facts os ds (i + 1) (before ++ [d]) (an ++ [far an o]) (by simp [hb]) (by simp [ha])
      (fun k o' hk => by rw [show i + 1 + k = i + (k + 1) by omega]; exact hls (k + 1) o' (by simpa using hk))
      (fun k l hk => by
        rcases Nat.lt_or_ge k an.length with h | h
        · rw [List.getElem?_append_left h] at hk; exact han k l hk
        · rw [List.getElem?_append_right h] at hk
          have : k = i := by
            rcases Nat.eq_or_lt_of_le h with h | h
            · omega
            · rw [List.getElem?_eq_none (by simp; omega)] at hk; cases hk
          subst this
          rw [ha, Nat.sub_self] at hk
          simp at hk; subst hk; exact hfar) h3
    refine ⟨by simp [g1], fun k o' hk p hp => ?_, fun k j o' di dj hk hdi hdj hlt => ?_⟩
    · cases k with
      | zero => simp at hk; subst hk; have := List.all_eq_true.1 h1 p hp; simpa using this
      | succ k => have := g2 k o' (by simpa using hk) p hp; omega
    · cases k with
      | zero =>
        simp at hk hdi; subst hk; subst hdi
        have := rowOk_get h2 j dj (by rw [List.getElem?_append_left (by omega)] at hdj; exact hdj)
        rw [Nat.zero_add] at this; exact orM this (fun h => hfar j h) (fun h => h)
      | succ k =>
        have := g3 k j o' di dj (by simpa using hk) (by simpa using hdi) (by simpa using hdj) (by omega)
        rw [show i + 1 + k = i + (k + 1) by omega] at this; exact this
  | [], _ :: _, _, _, _, _, _, _, _, h => by simp [drawOk] at h
  | _ :: _, [], _, _, _, _, _, _, _, h => by simp [drawOk] at h

theorem steps_get {X : Cx} {ops : Array Oper} : ∀ {os : List Oper} {ds : List D} {l m}, Steps' X ops l m os ds → ∀ j o d, os[j]? = some o → ds[j]? = some d →
    ∀ st mm, Ag st (cur (lk l) ((ds.map (·.el)).take j) 0 (fun _ => true)) d.rs → Ag mm (cur (lk m) ((ds.map (·.em)).take j) 0 (fun _ => true)) d.ri → OpG X ops st mm o d.el d.em
  | [], [], _, _, _, j, o, d, h, _ => by simp at h
  | o :: os, d :: ds, l, m, hs, 0, o', d', h1, h2 => by
    simp at h1 h2; subst h1; subst h2
    intro st mm h3 h4
    exact hs.1 st mm (by simpa [cur] using h3) (by simpa [cur] using h4)
  | o :: os, d :: ds, l, m, hs, j + 1, o', d', h1, h2 => by
    intro st mm h3 h4
    have shift : ∀ {α : Type} (es : List (List (Nat × α))) (b : Nat → Option α) (i i' : Nat), cur b es i (fun _ => true) = cur b es i' (fun _ => true) := by
      intro α es
      induction es with
      | nil => intro b i i'; rfl
      | cons e es ih => intro b i i'; simp only [cur, if_true]; exact ih _ _ _
    refine steps_get hs.2 j o' d' (by simpa using h1) (by simpa using h2) st mm ?_ ?_
    · simp only [List.map_cons, List.take_succ_cons, cur, if_true, up_lk] at h3
      rw [shift _ _ 0 (0 + 1)]; exact h3
    · simp only [List.map_cons, List.take_succ_cons, cur, if_true, up_lk] at h4
      rw [shift _ _ 0 (0 + 1)]; exact h4
  | [], _ :: _, _, _, h, _, _, _, _, _ => h.elim
  | _ :: _, [], _, _, h, _, _, _, _, _ => h.elim

def fin {α : Type} : List (List (Nat × α)) → List (Nat × α) → List (Nat × α)
  | [], l => l
  | e :: es, l => fin es (e ++ l)
theorem cur_fin {α : Type} : ∀ (es : List (List (Nat × α))) (l : List (Nat × α)) (i : Nat) (L : Nat → Bool), (∀ k, k < es.length → L (i + k) = true) → cur (lk l) es i L = lk (fin es l)
  | [], l, _, _, _ => rfl
  | e :: es, l, i, L, h => by
    simp only [cur, fin]
    have h0 := h 0 (by simp)
    rw [Nat.add_zero] at h0
    simp only [h0, if_true]
    rw [up_lk, cur_fin es _ (i + 1) L (fun k hk => by rw [show i + 1 + k = i + (k + 1) by omega]; exact h (k + 1) (by simpa using hk))]

theorem draw_sound {X : Cx} {ls : List Oper} {ds : List D} {l m} (hD : DrawFacts ls ds) (hS : Steps' X ⟨ls⟩ l m ls ds) {Q : Exit → Act → World → Prop}
    (hQ : ∀ a w γ, Inv X (lk (fin (ds.map (·.el)) l)) (lk (fin (ds.map (·.em)) m)) a w γ → Q .normal a w) :
    ∀ (fuel : Nat) (listed : Array Bool) (a : Act) (w : World) (γ : Nm), listed.size = ls.length → (listed.toList.filter (!·)).length ≤ fuel → (∀ i o, ls[i]? = some o → listed.getD i true = true → ∀ p ∈ prs o, listed.getD p false = true) →
      Inv X (cur (lk l) (ds.map (·.el)) 0 (fun i => listed.getD i false)) (cur (lk m) (ds.map (·.em)) 0 (fun i => listed.getD i false)) a w γ →
      wpAny X.P .any ⟨ls⟩ Q fuel listed a w := by
  -- when none is ready, all are listed
  have all_listed : ∀ (listed : Array Bool), listed.size = ls.length → Region.ready .any ⟨ls⟩ listed = [] → ∀ i, i < ls.length → listed.getD i false = true := by
    intro listed hsz hr i
    induction i using Nat.strongRecOn with
    | _ i ih =>
      intro hi
      cases hl : listed.getD i false with
      | true => rfl
      | false =>
        exfalso
        have hmem : i ∈ Region.ready .any ⟨ls⟩ listed := by
          rw [mem_ready]
          refine ⟨?_, ls[i], by simp [hi], fun e he hb => ?_⟩
          · have hi' : i < listed.size := by omega
            simp only [Array.getD_eq_getD_getElem?, Array.getElem?_eq_getElem hi', Option.getD_some] at hl ⊢
            exact hl
          · have hp : e.on ∈ prs ls[i] := List.mem_map.2 ⟨e, List.mem_filter.2 ⟨by simpa using he, hb⟩, rfl⟩
            have hlt := hD.back i ls[i] (by simp [hi]) e.on hp
            exact ih e.on hlt (by omega)
        rw [hr] at hmem; cases hmem
  have done : ∀ (listed : Array Bool) (a : Act) (w : World) (γ : Nm), listed.size = ls.length → Region.ready .any ⟨ls⟩ listed = [] → Inv X (cur (lk l) (ds.map (·.el)) 0 (fun i => listed.getD i false)) (cur (lk m) (ds.map (·.em)) 0 (fun i => listed.getD i false)) a w γ → Q .normal a w := by
    intro listed a w γ hsz hr hi
    have h := all_listed listed hsz hr
    have hlen := hD.len
    rw [cur_fin _ l 0 _ (fun k hk => by rw [Nat.zero_add]; exact h k (by simp at hk; omega)), cur_fin _ m 0 _ (fun k hk => by rw [Nat.zero_add]; exact h k (by simp at hk; omega))] at hi
    exact hQ a w γ hi
  intro fuel
  induction fuel with
  | zero =>
    intro listed a w γ hsz hc hcl hi
    have hr : Region.ready .any ⟨ls⟩ listed = [] := by
      cases hrd : Region.ready .any ⟨ls⟩ listed with
      | nil => rfl
      | cons i r =>
        exfalso
        have hmem : i ∈ Region.ready .any ⟨ls⟩ listed := by rw [hrd]; exact List.mem_cons_self
        rw [mem_ready] at hmem
        obtain ⟨h1, _⟩ := hmem
        have hi' : i < listed.size := by
          rcases Nat.lt_or_ge i listed.size with h | h
          · exact h
          · simp [Array.getElem?_eq_none h] at h1
        have : false ∈ listed.toList.filter (!·) := List.mem_filter.2 ⟨by
          have := Array.getElem_mem hi'
          simp only [Array.getD_eq_getD_getElem?, Array.getElem?_eq_getElem hi', Option.getD_some] at h1
          rw [h1] at this; simpa using this, rfl⟩
        have hnil : listed.toList.filter (!·) = [] := List.eq_nil_of_length_eq_zero (by omega)
        rw [hnil] at this; cases this
    exact ⟨hr, done listed a w γ hsz hr hi⟩
  | succ fuel ih =>
    intro listed a w γ hsz hc hcl hi
    refine ⟨fun hr => done listed a w γ hsz hr hi, fun j hj => ?_⟩
    rw [mem_ready] at hj
    obtain ⟨hj1, o, ho, hpre⟩ := hj
    have ho' : ls[j]? = some o := by simpa using ho
    have hjl : j < ls.length := by
      rcases Nat.lt_or_ge j ls.length with h | h
      · exact h
      · simp [List.getElem?_eq_none h] at ho'
    have hjs : j < listed.size := by omega
    have hj0 : listed.getD j false = false := by
      simp only [Array.getD_eq_getD_getElem?, Array.getElem?_eq_getElem hjs, Option.getD_some] at hj1 ⊢; exact hj1
    obtain ⟨d, hd⟩ : ∃ d, ds[j]? = some d := ⟨_, List.getElem?_eq_getElem (by rw [← hD.len]; exact hjl)⟩
    have hprs : ∀ p ∈ prs o, listed.getD p false = true := by
      intro p hp
      obtain ⟨e, he, rfl⟩ := List.mem_map.1 hp
      obtain ⟨he1, he2⟩ := List.mem_filter.1 he
      exact hpre e (by simpa using he1) he2
    have hcl' : ∀ i o, ls[i]? = some o → listed.getD i false = true → ∀ p ∈ prs o, listed.getD p false = true := by
      intro k o' hk hl
      refine hcl k o' hk ?_
      have : k < listed.size := by
        rcases Nat.lt_or_ge k listed.size with h | h
        · exact h
        · simp [Array.getElem?_eq_none h] at hl
      simp only [Array.getD_eq_getD_getElem?, Array.getElem?_eq_getElem this, Option.getD_some] at hl ⊢; exact hl
    -- a later operation that must follow j isn't listed
    have later : ∀ k o', ls[k]? = some o' → j ∈ prs o' → listed.getD k false = false := by
      intro k o' hk hjp
      cases hl : listed.getD k false with
      | false => rfl
      | true =>
        have hk' : listed.getD k true = true := by
          have : k < listed.size := by
            rcases Nat.lt_or_ge k listed.size with h | h
            · exact h
            · simp [Array.getElem?_eq_none h] at hl
          simp only [Array.getD_eq_getD_getElem?, Array.getElem?_eq_getElem this, Option.getD_some] at hl ⊢; exact hl
        have := hcl k o' hk hk' j hjp
        rw [hj0] at this; cases this
    -- what it reads
    have prOk : ∀ k dk, ds[k]? = some dk → k < j → listed.getD k false = true ∨ (wrAny dk.el d.rs || wrAny d.el dk.rs || wrAny dk.el (d.el.map (·.1)) || wrAny dk.em d.ri || wrAny d.em dk.ri || wrAny dk.em (d.em.map (·.1))) = false := by
      intro k dk hk hlt
      rcases hD.pair j k o d dk ho' hd hk hlt with h | h
      · refine .inl ?_
        cases h with
        | one e1 e2 => rw [ho'] at e1; cases e1; exact hprs k e2
        | far e1 e2 e3 => rw [ho'] at e1; cases e1; exact e3.listed hcl' (hprs _ e2)
      · exact .inr h
    have poOk : ∀ k dk, ds[k]? = some dk → j < k → listed.getD k false = false ∨ (wrAny d.el dk.rs || wrAny dk.el d.rs || wrAny d.el (dk.el.map (·.1)) || wrAny d.em dk.ri || wrAny dk.em d.ri || wrAny d.em (dk.em.map (·.1))) = false := by
      intro k dk hk hlt
      have hkl : k < ls.length := by
        rw [hD.len]
        rcases Nat.lt_or_ge k ds.length with h | h
        · exact h
        · simp [List.getElem?_eq_none h] at hk
      rcases hD.pair k j ls[k] dk d (by simp [hkl]) hk hd hlt with h | h
      · refine .inl ?_
        cases hl : listed.getD k false with
        | false => rfl
        | true => have := h.listed hcl' hl; rw [hj0] at this; cases this
      · exact .inr h
    have mapget : ∀ {β : Type} (g : D → β) (k : Nat) (b : β), (ds.map g)[k]? = some b → ∃ dk, ds[k]? = some dk ∧ g dk = b := by
      intro β g k b h
      simp only [List.getElem?_map, Option.map_eq_some_iff] at h
      exact h
    have hrs : Ag (cur (lk l) (ds.map (·.el)) 0 (fun i => listed.getD i false)) (cur (lk l) ((ds.map (·.el)).take j) 0 (fun _ => true)) d.rs := Ag.of fun r hr => by
      refine cur_read _ _ _ 0 j (fun k e hk hw hlt => ?_) (fun k e hk hw hle => ?_)
      · obtain ⟨dk, hdk, rfl⟩ := mapget _ k e hk
        rw [Nat.zero_add]
        rcases prOk k dk hdk hlt with h | h
        · exact h
        · simp only [Bool.or_eq_false_iff] at h
          have := wrAny_false h.1.1.1.1.1 r hr
          rw [this] at hw; cases hw
      · obtain ⟨dk, hdk, rfl⟩ := mapget _ k e hk
        rw [Nat.zero_add]
        rcases Nat.eq_or_lt_of_le hle with rfl | hlt
        · exact hj0
        · rcases poOk k dk hdk hlt with h | h
          · exact h
          · simp only [Bool.or_eq_false_iff] at h
            have := wrAny_false h.1.1.1.1.2 r hr
            rw [this] at hw; cases hw
    have hri : Ag (cur (lk m) (ds.map (·.em)) 0 (fun i => listed.getD i false)) (cur (lk m) ((ds.map (·.em)).take j) 0 (fun _ => true)) d.ri := Ag.of fun r hr => by
      refine cur_read _ _ _ 0 j (fun k e hk hw hlt => ?_) (fun k e hk hw hle => ?_)
      · obtain ⟨dk, hdk, rfl⟩ := mapget _ k e hk
        rw [Nat.zero_add]
        rcases prOk k dk hdk hlt with h | h
        · exact h
        · simp only [Bool.or_eq_false_iff] at h
          have := wrAny_false h.1.1.2 r hr
          rw [this] at hw; cases hw
      · obtain ⟨dk, hdk, rfl⟩ := mapget _ k e hk
        rw [Nat.zero_add]
        rcases Nat.eq_or_lt_of_le hle with rfl | hlt
        · exact hj0
        · rcases poOk k dk hdk hlt with h | h
          · exact h
          · simp only [Bool.or_eq_false_iff] at h
            have := wrAny_false h.1.2 r hr
            rw [this] at hw; cases hw
    have hop := steps_get hS j o d ho' hd _ _ hrs hri
    -- the state behind it
    have hset : ∀ k, (listed.setIfInBounds j true).getD k false = if k = j then true else listed.getD k false := by
      intro k
      by_cases hkj : k = j
      · subst hkj; simp [hjs]
      · simp [hkj, Array.getElem?_setIfInBounds_ne (Ne.symm hkj)]
    have hcl2 : ∀ i o, ls[i]? = some o → (listed.setIfInBounds j true).getD i true = true → ∀ p ∈ prs o, (listed.setIfInBounds j true).getD p false = true := by
      intro i o' hi' hli p hp
      rw [hset]
      split
      · rfl
      · by_cases hij : i = j
        · subst hij; rw [ho'] at hi'; cases hi'; exact hprs p hp
        · refine hcl i o' hi' ?_ p hp
          simpa [Array.getElem?_setIfInBounds_ne (Ne.symm hij)] using hli
    have hcnt : ((listed.setIfInBounds j true).toList.filter (!·)).length ≤ fuel := by
      rw [Array.toList_setIfInBounds]
      have key : ∀ (L : List Bool) (j : Nat), L[j]? = some false → ((L.set j true).filter (!·)).length + 1 = (L.filter (!·)).length := by
        intro L
        induction L with
        | nil => intro j h; simp at h
        | cons b L ih =>
          intro j h
          cases j with
          | zero => simp at h; subst h; simp
          | succ j =>
            have := ih j (by simpa using h)
            cases b <;> simp at this ⊢ <;> omega
      have := key listed.toList j (by
        rw [Array.getElem?_toList, Array.getElem?_eq_getElem hjs]
        simp only [Array.getD_eq_getD_getElem?, Array.getElem?_eq_getElem hjs, Option.getD_some] at hj0
        rw [hj0])
      omega
    have hst : cur (lk l) (ds.map (·.el)) 0 (fun i => (listed.setIfInBounds j true).getD i false) = up (cur (lk l) (ds.map (·.el)) 0 (fun i => listed.getD i false)) d.el := by
      funext r
      refine cur_add _ _ 0 j _ _ d.el (by simp [hd]) (by rw [Nat.zero_add]; simp [hset]) (fun k hk => by rw [Nat.zero_add] at hk; simp [hset, hk]) (by rw [Nat.zero_add]; exact hj0) (fun k e hk hjk hw hw' => ?_)
      obtain ⟨dk, hdk, rfl⟩ := mapget _ k e hk
      rw [Nat.zero_add]
      rcases poOk k dk hdk hjk with h | h
      · exact h
      · simp only [Bool.or_eq_false_iff] at h
        have := wrAny_false h.1.1.1.2 r (wr_key hw')
        rw [this] at hw; cases hw
    have hmt : cur (lk m) (ds.map (·.em)) 0 (fun i => (listed.setIfInBounds j true).getD i false) = up (cur (lk m) (ds.map (·.em)) 0 (fun i => listed.getD i false)) d.em := by
      funext r
      refine cur_add _ _ 0 j _ _ d.em (by simp [hd]) (by rw [Nat.zero_add]; simp [hset]) (fun k hk => by rw [Nat.zero_add] at hk; simp [hset, hk]) (by rw [Nat.zero_add]; exact hj0) (fun k e hk hjk hw hw' => ?_)
      obtain ⟨dk, hdk, rfl⟩ := mapget _ k e hk
      rw [Nat.zero_add]
      rcases poOk k dk hdk hjk with h | h
      · exact h
      · simp only [Bool.or_eq_false_iff] at h
        have := wrAny_false h.2 r (wr_key hw')
        rw [this] at hw; cases hw
    have goon : ∀ a' w' γ', Inv X (up (cur (lk l) (ds.map (·.el)) 0 (fun i => listed.getD i false)) d.el) (up (cur (lk m) (ds.map (·.em)) 0 (fun i => listed.getD i false)) d.em) a' w' γ' → wpAny X.P .any ⟨ls⟩ Q fuel (listed.setIfInBounds j true) a' w' := by
      intro a' w' γ' hi'
      exact ih _ a' w' γ' (by simpa using hsz) hcnt hcl2 (by rw [hst, hmt]; exact hi')
    have := hop a w γ (wpAny X.P .any ⟨ls⟩ Q fuel (listed.setIfInBounds j true)) Q hi goon
    unfold wpOp
    rw [ho]
    split at this
    · rename_i hw; simp only [hw, if_true]; exact .inl this
    · rename_i hw; simp only [hw]; exact this

theorem sdraw {R : Type} {X : Cx} {l m} {md : Option R} {Q : R → Exit → Act → World → Prop} {id : Nat} {ls : List Oper} (ds : List D) (hf : X.P.follows .mixedOrders = true) (hD : drawOk ls ds 0 [] [] = true) (hS : Steps' X ⟨ls⟩ l m ls ds)
    (k : Sq X (fin (ds.map (·.el)) l) (fin (ds.map (·.em)) m) md (fun r => Q r .normal)) : Sq X l m md (fun r => (Code.region id ⟨ls⟩ true).wp X.P (Q r)) := by
  intro r a w γ hr hi
  obtain ⟨h1, h2, h3⟩ := drawOk_facts (ls := ls) ls ds 0 [] [] rfl rfl (fun k o h => by rw [Nat.zero_add]; exact h) (fun k l h => by simp at h) hD
  have hDF : DrawFacts ls ds := ⟨h1, fun i o ho p hp => by have := h2 i o ho p hp; omega, fun i j o di dj ho hdi hdj hlt => by have := h3 i j o di dj ho hdi (by simpa using hdj) (by omega); rw [Nat.zero_add] at this; exact this⟩
  refine wp_region_any hf ?_
  have hi' : Inv X (lk l) (lk m) a { w with drawn := w.drawn + 1 } γ := hi.ext (w' := { w with drawn := w.drawn + 1 }) rfl rfl rfl ⟨Nat.le_refl _, fun _ _ _ => rfl⟩
  refine draw_sound hDF hS (fun a w γ h => k r a w γ hr h) _ _ a _ γ (by simp) (by simp) (fun i o ho hl => ?_) ?_
  · have hlt : i < ls.length := by
      rcases Nat.lt_or_ge i ls.length with h | h
      · exact h
      · simp [List.getElem?_eq_none h] at ho
    simp [hlt] at hl
  · have e1 : (fun i => (Array.replicate ls.length false).getD i false) = fun _ => false := by
      funext i
      by_cases h : i < ls.length <;> simp [h]
    have e2 : ∀ {α : Type} (es : List (List (Nat × α))) (b : Nat → Option α) (i : Nat), cur b es i (fun _ => false) = b := by
      intro α es
      induction es with
      | nil => intro b i; rfl
      | cons e es ih => intro b i; simp [cur, ih]
    show Inv X (cur _ _ 0 (fun i => (Array.replicate ls.length false).getD i false)) (cur _ _ 0 (fun i => (Array.replicate ls.length false).getD i false)) _ _ _
    rw [e1, e2, e2]; exact hi'

section
variable {X : Cx} {st : Nat → Option Ly} {mm : Nat → Option Ct} {ops : Array Oper}
theorem og {d op ty pos after el em} (h : OpOk X st mm ⟨d, op, ty, pos, after, none⟩ el em) : OpG X ops st mm ⟨d, op, ty, pos, after, none⟩ el em := by
  intro a w γ K Q hi hK
  rw [if_pos (by simp [Region.wanted])]; exact h a w γ K Q hi hK
theorem ogG {d op ty pos after j b el em} (dj : Nat) (hj : ((ops[j]?).bind (·.dst)) = some dj) (hv : st dj = some (bl b)) (h : OpOk X st mm ⟨d, op, ty, pos, after, none⟩ el em) : OpG X ops st mm ⟨d, op, ty, pos, after, some (j, b)⟩ el em := by
  intro a w γ K Q hi hK
  rw [if_pos (by simp [Region.wanted, yielded_of hi hj hv])]; exact h a w γ K Q hi hK
theorem ogS {d op ty pos after j b} (dj : Nat) (hj : ((ops[j]?).bind (·.dst)) = some dj) (hv : st dj = some (bl (!b))) (hd : Nat.blt d X.N = true) : OpG X ops st mm ⟨some d, op, ty, pos, after, some (j, b)⟩ [(d, .any)] [] := by
  intro a w γ K Q hi hK
  rw [if_neg (by cases b <;> simp [Region.wanted, yielded_of hi hj hv])]
  exact hK _ _ _ (hi.put (d := d) (v := undef) (ly := .any) (by simpa using hd) (by simp [Ly.val]))
/-- A truth that is known. -/
theorem okb {o d b c em} (hb : b = c) (h : OpOk X st mm o [(d, bl b)] em) : OpOk X st mm o [(d, bl c)] em := hb ▸ h
end
end Go.Proofs.YtiobbiamnjapgaaDoor
