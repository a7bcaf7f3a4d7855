import Derived.Conc.LoneSelect
import Derived.Test.YtcdeknlejjjmlaaGreatDoorSC
namespace Go.Proofs.YtcdeknlejjjmlaaGreatDoor
open Go Go.RowKit Go.Conc
/-! ### Channels, alone: select with a default, as the first operation of its region -/
theorem run_mapM_one {α β : Type} (f : α → Sem β) (x : α) (P : Program) (w w' : World) (y : β) (h : (f x).run P w = .ok y w') : ((#[x] : Array α).mapM f).run P w = .ok #[y] w' := by
  rw [show (#[x] : Array α) = [x].toArray from rfl, List.mapM_toArray, List.mapM_cons, List.mapM_nil, ← bind_pure_comp, Sem.run_bind, Sem.run_bind, h]
  rfl
theorem wp_region_sel {P : Program} {id d T : Nat} {pos : String} {after : Array Edge} {s : SelectCase} {rest : List Oper} {Q : Exit → Act → World → Prop} {a : Act} {w w' : World} {z v : Value}
    (hz : (zeroValue s.elem).run P w = .ok z w)
    (hstep : ∀ fr cs es, stepG P true (G fr cs) w = .comm (G fr cs) #[{ chan := a.eval s.chan, send := s.send.map a.eval, zero := z }] false .select w es → step P (solo (G fr cs) w) = .next (solo (G (fr.finish v) cs) w'))
    (h : wpList P ⟨⟨some d, .select #[s] false, T, pos, after, none⟩ :: rest⟩ Q rest (a.put (some d) v) w') :
    (Code.region id ⟨⟨some d, .select #[s] false, T, pos, after, none⟩ :: rest⟩ false).wp P Q a w := by
  intro b k cs
  generalize ho0 : (⟨some d, .select #[s] false, T, pos, after, none⟩ : Oper) = o at *
  have hr : (execOp a.eval o).run P w = .ok (.comm #[{ chan := a.eval s.chan, send := s.send.map a.eval, zero := z }] false .select) w := by
    subst ho0
    simp only [execOp]
    rw [Sem.run_bind, run_mapM_one (h := by rw [Sem.run_bind, hz]; rfl)]
    rfl
  have ho : (⟨o :: rest⟩ : Array Oper)[0]? = some o := rfl
  have hw : Region.wanted o (yielded ⟨o :: rest⟩ a.tmps) = true := by subst ho0; rfl
  have hl := wpOps_eq_wpList (P := P) (ops := ⟨o :: rest⟩) (Q := Q) rest 1 (fun j => by simp [Nat.add_comm 1 j])
  rw [← hl] at h
  obtain ⟨e, a', w'', hq, harr⟩ := wp_ops _ _ _ h b k cs
  have hg := stepG_op (P := P) (b := b) (k := k) (cs := cs) (w := w) (rest := List.range' 1 rest.length) ho hw
  have hc : ∃ es, stepG P true (G (b.at a (.inRegion ⟨o :: rest⟩ (0 :: List.range' 1 rest.length) :: k)) cs) w = .comm (G (b.at a (.inRegion ⟨o :: rest⟩ (0 :: List.range' 1 rest.length) :: k)) cs) #[{ chan := a.eval s.chan, send := s.send.map a.eval, zero := z }] false .select w es := by
    rw [show G (b.at a (.inRegion ⟨o :: rest⟩ (0 :: List.range' 1 rest.length) :: k)) cs = { frame := b.at a (.inRegion ⟨o :: rest⟩ (0 :: List.range' 1 rest.length) :: k), callers := cs, status := .running, dying := none } from rfl, hg]
    simp only [stepG.apply, Sem.runT_eq, hr]
    exact ⟨_, rfl⟩
  obtain ⟨es, hc⟩ := hc
  have h1 := hstep _ _ _ hc
  have hfin : (b.at a (.inRegion ⟨o :: rest⟩ (0 :: List.range' 1 rest.length) :: k)).finish v = b.at (a.put (some d) v) (.inRegion ⟨o :: rest⟩ (List.range' 1 rest.length) :: k) := by
    rw [Frame.finish_at, ho]; subst ho0; rfl
  rw [hfin] at h1
  have h0 := step_region (P := P) (b := b) (a := a) (k := k) (cs := cs) (w := w) (ops := ⟨o :: rest⟩) (id := id)
  rw [show List.range (⟨o :: rest⟩ : Array Oper).size = 0 :: List.range' 1 rest.length from by simp [List.range_eq_range', List.range'_succ]] at h0
  exact ⟨e, a', w'', hq, .of_steps (Steps.head h0 (.one h1)) harr⟩
/-- A channel that nobody else knows. -/
def chO (cap : Nat) (buf : List Value) (sh : Bool) (s r : Nat) : Obj := .chan cap ⟨buf⟩ sh s r false
def chC {α : Type} (cv : α → Value) (c : Chn α) : Ct := .ch (chO c.cap (c.buf.map cv) c.sh c.sent c.rcvd)
/-- Plain things, as they lie in a channel. -/
structure Elt {α : Type} (f : α → Ly) (cv : α → Value) (ok : α → Prop) : Prop where
  to : ∀ {x : α} {w : World} {S : Nat → Prop} {γ : Nm} {v : Value}, Ly.val w S γ (f x) v → v = cv x
  of : ∀ {x : α} {w : World} {S : Nat → Prop} {γ : Nm}, ok x → Ly.val w S γ (f x) (cv x)
theorem elt_i64 : Elt i64 (fun x => .int .i64 x) (fun x => -9223372036854775808 ≤ x ∧ x ≤ 9223372036854775807) := ⟨fun h => h.1, fun h => ⟨rfl, by
  have a1 : IntKind.i64.min = -9223372036854775808 := by decide
  have a2 : IntKind.i64.max = 9223372036854775807 := by decide
  rw [a1, a2]; exact h⟩⟩
section
variable {X : Cx} {l : List (Nat × Ly)} {m : List (Nat × Ct)} {R : Type} {md : Option R} {Q : R → Exit → Act → World → Prop}
theorem Inv.setch {st mm a w γ y cap buf sh s r g} (h : Inv X st mm a w γ) (hm : mm y = some (.ch (chO cap buf sh s r))) (hg : γ y = some (.chan (some g))) (buf' : List Value) (sh' : Bool) (s' r' : Nat) :
    Inv X st (up mm [(y, .ch (chO cap buf' sh' s' r'))]) a (w.setChan g cap ⟨buf'⟩ sh' s' r' false) γ := by
  obtain ⟨g1, e1, e2⟩ := h.cts y _ hm
  rw [hg] at e1; cases e1
  have hlt : g < w.heap.size := (Array.getElem?_eq_some_iff.1 e2).1
  exact h.setc (w' := w.setChan g cap ⟨buf'⟩ sh' s' r' false) (ct := .ch (chO cap buf' sh' s' r')) (b0 := g) rfl rfl rfl hm rfl hg rfl
    ⟨by simp [World.setChan], fun b hb hn => by simp [World.setChan, Array.getElem?_setIfInBounds_ne (Ne.symm hn)]⟩ rfl ⟨g, hg, by simp [World.setChan, hlt, chO]⟩
theorem i64_val {x : Int} (h : -9223372036854775808 ≤ x ∧ x ≤ 9223372036854775807) {w S γ} : Ly.val w S γ (i64 x) (goInt x) := elt_i64.of h
/-- Sent, if there is room. -/
theorem selS {α : Type} {f : α → Ly} {cv : α → Value} {okP : α → Prop} (E : Elt f cv okP) {id d T el y cap s r : Nat} {pos : String} {after : Array Edge} {ch xo : Operand} {rest : List Oper} {buf : List α} {x : α} {z : Value}
    (hd : Nat.blt d X.N = true) (hx : OpdF (lk l) ch (.own y)) (hm : lk m y = some (.ch (chO cap (buf.map cv) false s r))) (hv : OpdF (lk l) xo (f x)) (hz : ∀ w, (zeroValue el).run X.P w = .ok z w)
    (h1 : buf.length < cap → Sq X ((d, .tup [i64 0, bl false]) :: l) ((y, .ch (chO cap ((buf ++ [x]).map cv) false (s + 1) r)) :: m) md (fun r' => wpList X.P ⟨⟨some d, .select #[⟨ch, some xo, el⟩] false, T, pos, after, none⟩ :: rest⟩ (Q r') rest))
    (h2 : ¬ buf.length < cap → Sq X ((d, .tup [i64 (-1), bl false]) :: l) m md (fun r' => wpList X.P ⟨⟨some d, .select #[⟨ch, some xo, el⟩] false, T, pos, after, none⟩ :: rest⟩ (Q r') rest)) :
    Sq X l m md (fun r' => (Code.region id ⟨⟨some d, .select #[⟨ch, some xo, el⟩] false, T, pos, after, none⟩ :: rest⟩ false).wp X.P (Q r')) := by
  intro r' a w γ hr hi
  obtain ⟨g, e1, e2⟩ := hi.cts y _ hm
  obtain ⟨hc, _⟩ := hx.val hi
  rw [e1] at hc
  have hc : a.eval ch = .chan (some g) := by simpa using hc.symm
  have hx' : a.eval xo = cv x := E.to (hv.val hi)
  by_cases c : buf.length < cap
  · refine wp_region_sel (w' := w.setChan g cap ((⟨buf.map cv⟩ : Array Value).push (cv x)) false (s + 1) r false) (v := .tuple #[goInt 0, .bool false]) (hz w) (fun fr cs es h => ?_) ?_
    · refine step_lone_select_send_room (z' := z) (es := es) ?_ e2 (by simpa using c)
      rw [h]; simp [scase, hc, hx']
    · refine h1 c r' _ _ γ hr ?_
      have hI := hi.setch hm e1 ((buf ++ [x]).map cv) false (s + 1) r
      have := hI.put (d := d) (v := .tuple #[goInt 0, .bool false]) (ly := .tup [i64 0, bl false]) (by simpa using hd) ⟨#[goInt 0, .bool false], rfl, _, _, rfl, i64_val (by decide), _, _, rfl, rfl, rfl⟩
      rw [up_lk, up_lk] at this
      simpa using this
  · refine wp_region_sel (w' := w) (v := .tuple #[goInt (-1), .bool false]) (hz w) (fun fr cs es h => ?_) ?_
    · refine step_lone_select_send_full (v := cv x) (z' := z) (es := es) ?_ e2 (by simpa using c)
      rw [h]; simp [scase, hc, hx']
    · refine h2 c r' _ _ γ hr ?_
      have := hi.put (d := d) (v := .tuple #[goInt (-1), .bool false]) (ly := .tup [i64 (-1), bl false]) (by simpa using hd) ⟨#[goInt (-1), .bool false], rfl, _, _, rfl, i64_val (by decide), _, _, rfl, rfl, rfl⟩
      rw [up_lk] at this; exact this
/-- Taken, if there is something. -/
theorem selR {α : Type} {f : α → Ly} {cv : α → Value} {okP : α → Prop} (E : Elt f cv okP) {id d T el y cap s r : Nat} {pos : String} {after : Array Edge} {ch : Operand} {rest : List Oper} {buf : List α} {sh : Bool} (zv : α)
    (hd : Nat.blt d X.N = true) (hx : OpdF (lk l) ch (.own y)) (hm : lk m y = some (.ch (chO cap (buf.map cv) sh s r))) (hz : ∀ w, (zeroValue el).run X.P w = .ok (cv zv) w) (hz0 : okP zv) (hok : ∀ x, buf.head? = some x → okP x)
    (h1 : ∀ x tl, buf = x :: tl → Sq X ((d, .tup [i64 0, bl true, f x]) :: l) ((y, .ch (chO cap (tl.map cv) sh s (r + 1))) :: m) md (fun r' => wpList X.P ⟨⟨some d, .select #[⟨ch, none, el⟩] false, T, pos, after, none⟩ :: rest⟩ (Q r') rest))
    (h2 : buf = [] → sh = true → Sq X ((d, .tup [i64 0, bl false, f zv]) :: l) m md (fun r' => wpList X.P ⟨⟨some d, .select #[⟨ch, none, el⟩] false, T, pos, after, none⟩ :: rest⟩ (Q r') rest))
    (h3 : buf = [] → sh = false → Sq X ((d, .tup [i64 (-1), bl false, f zv]) :: l) m md (fun r' => wpList X.P ⟨⟨some d, .select #[⟨ch, none, el⟩] false, T, pos, after, none⟩ :: rest⟩ (Q r') rest)) :
    Sq X l m md (fun r' => (Code.region id ⟨⟨some d, .select #[⟨ch, none, el⟩] false, T, pos, after, none⟩ :: rest⟩ false).wp X.P (Q r')) := by
  intro r' a w γ hr hi
  obtain ⟨g, e1, e2⟩ := hi.cts y _ hm
  obtain ⟨hc, _⟩ := hx.val hi
  rw [e1] at hc
  have hc : a.eval ch = .chan (some g) := by simpa using hc.symm
  cases buf with
  | cons x tl =>
    have he : (⟨(x :: tl).map cv⟩ : Array Value).extract 1 (⟨(x :: tl).map cv⟩ : Array Value).size = ⟨tl.map cv⟩ := by simp [List.take_of_length_le]
    refine wp_region_sel (w' := w.setChan g cap ⟨tl.map cv⟩ sh s (r + 1) false) (v := .tuple #[goInt 0, .bool true, cv x]) (hz w) (fun fr cs es h => ?_) ?_
    · have := step_lone_select_recv_buf (P := X.P) (fr := fr) (cs := cs) (w := w) (w₁ := w) (z := cv zv) (es := es) (by rw [h]; simp [rcase, hc]) e2 (by simp)
      rw [he] at this
      simpa using this
    · refine h1 x tl rfl r' _ _ γ hr ?_
      have hI := hi.setch hm e1 (tl.map cv) sh s (r + 1)
      have := hI.put (d := d) (v := .tuple #[goInt 0, .bool true, cv x]) (ly := .tup [i64 0, bl true, f x]) (by simpa using hd) ⟨#[goInt 0, .bool true, cv x], rfl, _, _, rfl, i64_val (by decide), _, _, rfl, rfl, _, _, rfl, E.of (hok x rfl), rfl⟩
      rw [up_lk, up_lk] at this
      exact this
  | nil =>
    cases sh with
    | true =>
      refine wp_region_sel (w' := w) (v := .tuple #[goInt 0, .bool false, cv zv]) (hz w) (fun fr cs es h => ?_) ?_
      · exact step_lone_select_recv_shut (z := cv zv) (es := es) (by rw [h]; simp [rcase, hc]) e2
      · refine h2 rfl rfl r' _ _ γ hr ?_
        have := hi.put (d := d) (v := .tuple #[goInt 0, .bool false, cv zv]) (ly := .tup [i64 0, bl false, f zv]) (by simpa using hd) ⟨#[goInt 0, .bool false, cv zv], rfl, _, _, rfl, i64_val (by decide), _, _, rfl, rfl, _, _, rfl, E.of hz0, rfl⟩
        rw [up_lk] at this; exact this
    | false =>
      refine wp_region_sel (w' := w) (v := .tuple #[goInt (-1), .bool false, cv zv]) (hz w) (fun fr cs es h => ?_) ?_
      · exact step_lone_select_default (z := cv zv) (es := es) (by rw [h]; simp [rcase, hc]) e2
      · refine h3 rfl rfl r' _ _ γ hr ?_
        have := hi.put (d := d) (v := .tuple #[goInt (-1), .bool false, cv zv]) (ly := .tup [i64 (-1), bl false, f zv]) (by simpa using hd) ⟨#[goInt (-1), .bool false, cv zv], rfl, _, _, rfl, i64_val (by decide), _, _, rfl, rfl, _, _, rfl, E.of hz0, rfl⟩
        rw [up_lk] at this; exact this
end
section
variable {X : Cx} {l : List (Nat × Ly)} {m : List (Nat × Ct)} {R : Type} {md : Option R} {Q : R → Exit → Act → World → Prop}
theorem selSC {α : Type} {f : α → Ly} {cv : α → Value} {okP : α → Prop} (E : Elt f cv okP) {id d T el y : Nat} {pos : String} {after : Array Edge} {ch xo : Operand} {rest : List Oper} {c : Chn α} {x : α} {z : Value}
    (hd : Nat.blt d X.N = true) (hx : OpdF (lk l) ch (.own y)) (hm : lk m y = some (chC cv c)) (hs : c.sh = false) (hv : OpdF (lk l) xo (f x)) (hz : ∀ w, (zeroValue el).run X.P w = .ok z w)
    (h1 : c.buf.length < c.cap → Sq X ((d, .tup [i64 0, bl false]) :: l) ((y, chC cv { c with buf := c.buf ++ [x], sent := c.sent + 1 }) :: m) md (fun r' => wpList X.P ⟨⟨some d, .select #[⟨ch, some xo, el⟩] false, T, pos, after, none⟩ :: rest⟩ (Q r') rest))
    (h2 : ¬ c.buf.length < c.cap → Sq X ((d, .tup [i64 (-1), bl false]) :: l) m md (fun r' => wpList X.P ⟨⟨some d, .select #[⟨ch, some xo, el⟩] false, T, pos, after, none⟩ :: rest⟩ (Q r') rest)) :
    Sq X l m md (fun r' => (Code.region id ⟨⟨some d, .select #[⟨ch, some xo, el⟩] false, T, pos, after, none⟩ :: rest⟩ false).wp X.P (Q r')) := by
  refine selS E hd hx (cap := c.cap) (buf := c.buf) (s := c.sent) (r := c.rcvd) (by rw [hm]; unfold chC; rw [hs]) hv hz (fun h => ?_) h2
  have := h1 h
  unfold chC at this
  rw [hs] at this
  exact this
theorem selRC {α : Type} {f : α → Ly} {cv : α → Value} {okP : α → Prop} (E : Elt f cv okP) {id d T el y : Nat} {pos : String} {after : Array Edge} {ch : Operand} {rest : List Oper} {c : Chn α} (zv : α)
    (hd : Nat.blt d X.N = true) (hx : OpdF (lk l) ch (.own y)) (hm : lk m y = some (chC cv c)) (hz : ∀ w, (zeroValue el).run X.P w = .ok (cv zv) w) (hz0 : okP zv) (hok : ∀ x, c.buf.head? = some x → okP x)
    (h1 : ∀ x tl, c.buf = x :: tl → Sq X ((d, .tup [i64 0, bl true, f x]) :: l) ((y, chC cv { c with buf := tl, rcvd := c.rcvd + 1 }) :: m) md (fun r' => wpList X.P ⟨⟨some d, .select #[⟨ch, none, el⟩] false, T, pos, after, none⟩ :: rest⟩ (Q r') rest))
    (h2 : c.buf = [] → c.sh = true → Sq X ((d, .tup [i64 0, bl false, f zv]) :: l) m md (fun r' => wpList X.P ⟨⟨some d, .select #[⟨ch, none, el⟩] false, T, pos, after, none⟩ :: rest⟩ (Q r') rest))
    (h3 : c.buf = [] → c.sh = false → Sq X ((d, .tup [i64 (-1), bl false, f zv]) :: l) m md (fun r' => wpList X.P ⟨⟨some d, .select #[⟨ch, none, el⟩] false, T, pos, after, none⟩ :: rest⟩ (Q r') rest)) :
    Sq X l m md (fun r' => (Code.region id ⟨⟨some d, .select #[⟨ch, none, el⟩] false, T, pos, after, none⟩ :: rest⟩ false).wp X.P (Q r')) :=
  selR E zv hd hx hm hz hz0 hok h1 h2 h3
end
/-! the rules that the generator prints -/
def chVI (x : Int) : Value := .int .i64 x
def chVS (s : List UInt8) : Value := .string ⟨s.toArray⟩
theorem grdN {b : Bool} {u : Unit} (h : grd (!b) = some u) : b = false := by cases b <;> simp [grd] at h; rfl
def nchL : Ly := .cell (cpX (.chan none) rfl)
theorem zr_nch : Zr nchL [.chan none] := fun _ _ _ => ⟨_, rfl, rfl⟩
theorem if_nch : IF nchL := fun _ _ _ _ => ⟨fun _ g => g, fun _ g => by simp only [nchL, Ly.val] at g ⊢; exact g⟩
theorem elt_S : Elt str chVS (fun x => okS x = true) := ⟨fun h => h.1, fun h => ⟨rfl, of_decide_eq_true h⟩⟩
theorem elt_I : Elt i64 chVI (fun x => okI x = true) := ⟨fun h => elt_i64.to h, fun h => elt_i64.of (by simpa [okI] using h)⟩
section
variable {X : Cx} {l : List (Nat × Ly)} {m : List (Nat × Ct)} {R : Type} {Q : R → Exit → Act → World → Prop}
theorem selSB {α : Type} {f : α → Ly} {cv : α → Value} {okP : α → Prop} {m1 m2 : Option R} (E : Elt f cv okP) {id d T el y : Nat} {pos : String} {after : Array Edge} {ch xo : Operand} {rest : List Oper} {c : Chn α} {x : α} {z : Value}
    (hz : ∀ w, (zeroValue el).run X.P w = .ok z w) (hd : Nat.blt d X.N = true) (hx : OpdF (lk l) ch (.own y)) (hm : lk m y = some (chC cv c)) (hs : c.sh = false) (hv : OpdF (lk l) xo (f x))
    (h1 : Sq X ((d, .tup [i64 0, bl false]) :: l) ((y, chC cv { c with buf := c.buf ++ [x], sent := c.sent + 1 }) :: m) m1 (fun r' => wpList X.P ⟨⟨some d, .select #[⟨ch, some xo, el⟩] false, T, pos, after, none⟩ :: rest⟩ (Q r') rest))
    (h2 : Sq X ((d, .tup [i64 (-1), bl false]) :: l) m m2 (fun r' => wpList X.P ⟨⟨some d, .select #[⟨ch, some xo, el⟩] false, T, pos, after, none⟩ :: rest⟩ (Q r') rest)) :
    Sq X l m (bif decide (c.buf.length < c.cap) then m1 else m2) (fun r' => (Code.region id ⟨⟨some d, .select #[⟨ch, some xo, el⟩] false, T, pos, after, none⟩ :: rest⟩ false).wp X.P (Q r')) := by
  refine selSC E hd hx hm hs hv hz (fun h => ?_) (fun h => ?_)
  · rw [decide_eq_true h]; exact h1
  · rw [decide_eq_false h]; exact h2
theorem selRB {α : Type} {f : α → Ly} {cv : α → Value} {ok : α → Bool} {k : α → List α → Option R} {m2 m3 : Option R} (E : Elt f cv (fun x => ok x = true)) {id d T el y : Nat} {pos : String} {after : Array Edge} {ch : Operand} {rest : List Oper} {c : Chn α} (zv : α)
    (hz : ∀ w, (zeroValue el).run X.P w = .ok (cv zv) w) (hz0 : ok zv = true) (hd : Nat.blt d X.N = true) (hx : OpdF (lk l) ch (.own y)) (hm : lk m y = some (chC cv c)) (hok : chOk ok c = true)
    (h1 : ∀ x tl, Sq X ((d, .tup [i64 0, bl true, f x]) :: l) ((y, chC cv { c with buf := tl, rcvd := c.rcvd + 1 }) :: m) (k x tl) (fun r' => wpList X.P ⟨⟨some d, .select #[⟨ch, none, el⟩] false, T, pos, after, none⟩ :: rest⟩ (Q r') rest))
    (h2 : Sq X ((d, .tup [i64 0, bl false, f zv]) :: l) m m2 (fun r' => wpList X.P ⟨⟨some d, .select #[⟨ch, none, el⟩] false, T, pos, after, none⟩ :: rest⟩ (Q r') rest))
    (h3 : Sq X ((d, .tup [i64 (-1), bl false, f zv]) :: l) m m3 (fun r' => wpList X.P ⟨⟨some d, .select #[⟨ch, none, el⟩] false, T, pos, after, none⟩ :: rest⟩ (Q r') rest)) :
    Sq X l m (chHd c k (bif c.sh then m2 else m3)) (fun r' => (Code.region id ⟨⟨some d, .select #[⟨ch, none, el⟩] false, T, pos, after, none⟩ :: rest⟩ false).wp X.P (Q r')) := by
  refine selRC E zv hd hx hm hz hz0 (fun x hx => ?_) (fun x tl h => ?_) (fun h hs => ?_) (fun h hs => ?_)
  · unfold chOk at hok; rw [hx] at hok; exact hok
  · unfold chHd; rw [h]; exact h1 x tl
  · unfold chHd; rw [h, hs]; exact h2
  · unfold chHd; rw [h, hs]; exact h3
end
section ops
variable {X : Cx} {st : Nat → Option Ly} {mm : Nat → Option Ct}
theorem run_getObj_ch {P : Program} {w : World} {g cap s r : Nat} {buf : Array Value} {sh tm : Bool} (h : w.heap[g]? = some (.chan cap buf sh s r tm)) : (getObj g).run P w = .ok (.chan cap buf sh s r tm) w := by
  simp [getObj, Sem.run, h]
/-- A channel is made. -/
theorem mkCh {d x T ty pos af y E dir k b z n} (hT : X.P.underlying T = some (.chan dir E)) (hE : TyI X.P E k b z) (h0 : 0 ≤ n) (h1 : n ≤ 9223372036854775807) (h2 : (b : Int) * n ≤ 281474976710544) (hy : mm y = none) (hd : Nat.blt d X.N = true) (hx : OpdF st x (i64 n)) :
    OpOk X st mm ⟨some d, .makeChan T x, ty, pos, af, none⟩ [(d, .own y)] [(y, .ch (chO n.toNat [] false 0 0))] :=
  new_ok hd hy rfl fun a w γ hi => by
    obtain ⟨hv, _⟩ := hx.val hi
    obtain ⟨i, hi1, hi2, hi3, hi4⟩ := hE
    refine ⟨.chan (some w.heap.size), w.alloc (chO n.toNat [] false 0 0), ?_, rfl, rfl, rfl, Kp_alloc _ _ _, rfl,
      fun S γ' hS hg hy' => ⟨w.heap.size, hy', heap_new _ _⟩, fun b hb => by simp [blkOf] at hb; subst hb; simp⟩
    have a2 : IntKind.i64.max = 9223372036854775807 := by decide
    have hti : (typeInfo E).run X.P w = .ok i w := by simp [typeInfo, hi1]
    have hai : (asIntOf (Value.int .i64 n)).run X.P w = .ok (.i64, n) w := rfl
    simp only [execOp, hv]
    simp [Instr.makeChan, asInt, run_underlying hT]
    rw [hai]
    simp only [Result.andThen]
    rw [hti]
    simp only [Result.andThen]
    rw [if_neg (by rw [hi4]; omega)]
    rfl
theorem lenCh {d x T ty pos af E dir y cap buf sh s r} (hT : X.P.underlying T = some (.chan dir E)) (hm : mm y = some (.ch (chO cap buf sh s r))) (hb : Nat.ble buf.length 1000000 = true) (hd : Nat.blt d X.N = true) (hx : OpdF st x (.own y)) :
    OpOk X st mm ⟨some d, .call { callee := .builtin .len, args := #[x], argTypes := #[T] }, ty, pos, af, none⟩ [(d, i64 buf.length)] [] :=
  len_ok hd hx fun a w γ hi v hv => by
    obtain ⟨g, h1, h2⟩ := hi.cts y _ hm
    obtain ⟨hv1, _⟩ := hv
    rw [hv1] at h1; simp at h1; subst h1
    refine ⟨?_, len_b (by have := Nat.le_of_ble_eq_true hb; unfold maxLen; omega)⟩
    unfold Builtin.len_
    simp [run_underlying hT, run_getObj_ch h2, chO, Result.andThen, goInt]
theorem capCh {d x T ty pos af E dir y cap buf sh s r} (hT : X.P.underlying T = some (.chan dir E)) (hm : mm y = some (.ch (chO cap buf sh s r))) (hb : cap ≤ 1000000) (hd : Nat.blt d X.N = true) (hx : OpdF st x (.own y)) :
    OpOk X st mm ⟨some d, .call { callee := .builtin .cap, args := #[x], argTypes := #[T] }, ty, pos, af, none⟩ [(d, i64 cap)] [] :=
  ok_val hd fun a w γ hi => by
    obtain ⟨g, h1, h2⟩ := hi.cts y _ hm
    obtain ⟨hv1, _⟩ := hx.val hi
    rw [h1] at hv1
    have hv : a.eval x = .chan (some g) := by simpa using hv1.symm
    have hc : (Builtin.cap_ #[T] ty #[a.eval x]).run X.P w = .ok (.int .i64 cap) w := by
      rw [hv]
      unfold Builtin.cap_
      simp [run_underlying hT, run_getObj_ch h2, Result.andThen, goInt]
    refine ⟨.int .i64 cap, ?_, rfl, len_b (by unfold maxLen; omega)⟩
    simp only [execOp, resolve]
    simp [invoke, builtin, hc]
theorem clsCh {x T ty pos af y cap buf s r} (hm : mm y = some (.ch (chO cap buf false s r))) (hx : OpdF st x (.own y)) :
    OpOk X st mm ⟨none, .call { callee := .builtin .close, args := #[x], argTypes := #[T] }, ty, pos, af, none⟩ [] [(y, .ch (chO cap buf true s r))] := by
  intro a w γ K Q hi hK
  obtain ⟨g, h1, h2⟩ := hi.cts y _ hm
  obtain ⟨hv1, _⟩ := hx.val hi
  rw [h1] at hv1
  have hv : a.eval x = .chan (some g) := by simpa using hv1.symm
  have hc : (Builtin.close_ #[T] ty #[a.eval x]).run X.P w = .ok (.tuple #[]) (w.setChan g cap ⟨buf⟩ true s r false) := by
    rw [hv]
    change (getObj g >>= _).run X.P w = _
    rw [Sem.run_bind, run_getObj_ch h2]
    show (setObj g _ >>= fun _ => pure (Value.tuple #[])).run X.P w = _
    rw [Sem.run_bind, run_setObj_chan _ _ _ h2]
    rfl
  have hrun : (execOp a.eval ⟨none, .call { callee := .builtin .close, args := #[x], argTypes := #[T] }, ty, pos, af, none⟩).run X.P w = .ok (.value (.tuple #[])) (w.setChan g cap ⟨buf⟩ true s r false) := by
    simp only [execOp, resolve]
    simp [invoke, builtin, hc]
  unfold Oper.wp
  rw [hrun]
  exact hK a _ γ (hi.setch hm h1 buf true s r)
theorem neCh {d x T T2 ty pos af y cap buf sh s r E dir} (hT : X.P.underlying T = some (.chan dir E)) (hm : mm y = some (.ch (chO cap buf sh s r))) (hd : Nat.blt d X.N = true) (hx : OpdF st x (.own y)) :
    OpOk X st mm ⟨some d, .binOp .neq T x (.const (.chan none)) T2, ty, pos, af, none⟩ [(d, bl true)] [] :=
  ok_val hd fun a w γ hi => by
    obtain ⟨g, h1, h2⟩ := hi.cts y _ hm
    obtain ⟨hv1, _⟩ := hx.val hi
    rw [h1] at hv1
    have hv : a.eval x = .chan (some g) := by simpa using hv1.symm
    have he : ∀ w, (Op.equal T (.chan (some g)) (.chan none)).run X.P w = .ok false w := fun w => by
      change ((underlying T) >>= _).run X.P w = _
      rw [Sem.run_bind, run_underlying hT]
      rfl
    have hcn : a.eval (.const (.chan none)) = .chan none := rfl
    refine ⟨.bool true, ?_, rfl⟩
    simp only [execOp, hv, hcn]
    simp [binOp, eqGuard, he, Result.andThen]
/-! the same, over the model's channel -/
theorem lenChC {α : Type} {cv : α → Value} {d x T ty pos af E dir y} {c : Chn α} (hT : X.P.underlying T = some (.chan dir E)) (hm : mm y = some (chC cv c)) (hb : Nat.ble c.buf.length 1000000 = true) (hd : Nat.blt d X.N = true) (hx : OpdF st x (.own y)) :
    OpOk X st mm ⟨some d, .call { callee := .builtin .len, args := #[x], argTypes := #[T] }, ty, pos, af, none⟩ [(d, i64 c.buf.length)] [] := by
  have := lenCh (ty := ty) (pos := pos) (af := af) (buf := c.buf.map cv) hT hm (by rw [List.length_map]; exact hb) hd hx
  rw [List.length_map] at this; exact this
theorem capChC {α : Type} {cv : α → Value} {d x T ty pos af E dir y} {c : Chn α} (hT : X.P.underlying T = some (.chan dir E)) (hm : mm y = some (chC cv c)) (hb : c.cap ≤ 1000000) (hd : Nat.blt d X.N = true) (hx : OpdF st x (.own y)) :
    OpOk X st mm ⟨some d, .call { callee := .builtin .cap, args := #[x], argTypes := #[T] }, ty, pos, af, none⟩ [(d, i64 c.cap)] [] := capCh hT hm hb hd hx
theorem clsChC {α : Type} {cv : α → Value} {x T ty pos af y} {c : Chn α} (hm : mm y = some (chC cv c)) (hs : c.sh = false) (hx : OpdF st x (.own y)) :
    OpOk X st mm ⟨none, .call { callee := .builtin .close, args := #[x], argTypes := #[T] }, ty, pos, af, none⟩ [] [(y, chC cv { c with sh := true })] := clsCh (by rw [hm]; unfold chC; rw [hs]) hx
theorem mkChC {α : Type} (cv : α → Value) {d x T ty pos af y E dir k b z n} (hT : X.P.underlying T = some (.chan dir E)) (hE : TyI X.P E k b z) (h0 : 0 ≤ n) (h1 : n ≤ 9223372036854775807) (h2 : (b : Int) * n ≤ 281474976710544) (hy : mm y = none) (hd : Nat.blt d X.N = true) (hx : OpdF st x (i64 n)) :
    OpOk X st mm ⟨some d, .makeChan T x, ty, pos, af, none⟩ [(d, .own y)] [(y, chC cv ⟨n.toNat, [], false, 0, 0⟩)] := mkCh hT hE h0 h1 h2 hy hd hx
theorem mkCho {α : Type} (cv : α → Value) {d x T ty pos af y E dir k b z n} (hn : decide (0 ≤ n ∧ n ≤ (1000000 : Int)) = true) (hT : X.P.underlying T = some (.chan dir E)) (hE : TyI X.P E k b z) (hb : Nat.ble b 1000000 = true) (hy : mm y = none) (hd : Nat.blt d X.N = true) (hx : OpdF st x (i64 n)) :
    OpOk X st mm ⟨some d, .makeChan T x, ty, pos, af, none⟩ [(d, .own y)] [(y, chC cv ⟨n.toNat, [], false, 0, 0⟩)] := by
  obtain ⟨h0, h1⟩ := of_decide_eq_true hn
  have hb' := Nat.le_of_ble_eq_true hb
  refine mkChC cv hT hE h0 (by omega) ?_ hy hd hx
  have : (b : Int) * n ≤ 1000000 * 1000000 := Int.mul_le_mul (by omega) h1 h0 (by decide)
  omega
theorem eqPn {d x T T2 ty pos af y E ly e} (hT : X.P.underlying T = some (.pointer e)) (hm : mm y = some (.bx E ly)) (hd : Nat.blt d X.N = true) (hx : OpdF st x (.own y)) :
    OpOk X st mm ⟨some d, .binOp .eql T x (.const (.pointer none)) T2, ty, pos, af, none⟩ [(d, bl false)] [] :=
  ok_val hd fun a w γ hi => by
    obtain ⟨g, cur, h1, h2, _⟩ := hi.cts y _ hm
    obtain ⟨hv1, _⟩ := hx.val hi
    rw [h1] at hv1
    have hv : a.eval x = .pointer (some ⟨g, 0, none⟩) := by simpa using hv1.symm
    have he : ∀ w, (Op.equal T (.pointer (some ⟨g, 0, none⟩)) (.pointer none)).run X.P w = .ok false w := fun w => by
      change ((underlying T) >>= _).run X.P w = _
      rw [Sem.run_bind, run_underlying hT]
      rfl
    have hcn : a.eval (.const (.pointer none)) = .pointer none := rfl
    refine ⟨.bool false, ?_, rfl⟩
    simp only [execOp, hv, hcn]
    simp [binOp, eqGuard, he, Result.andThen]
theorem nePn {d x T T2 ty pos af y E ly e} (hT : X.P.underlying T = some (.pointer e)) (hm : mm y = some (.bx E ly)) (hd : Nat.blt d X.N = true) (hx : OpdF st x (.own y)) :
    OpOk X st mm ⟨some d, .binOp .neq T x (.const (.pointer none)) T2, ty, pos, af, none⟩ [(d, bl true)] [] :=
  ok_val hd fun a w γ hi => by
    obtain ⟨g, cur, h1, h2, _⟩ := hi.cts y _ hm
    obtain ⟨hv1, _⟩ := hx.val hi
    rw [h1] at hv1
    have hv : a.eval x = .pointer (some ⟨g, 0, none⟩) := by simpa using hv1.symm
    have he : ∀ w, (Op.equal T (.pointer (some ⟨g, 0, none⟩)) (.pointer none)).run X.P w = .ok false w := fun w => by
      change ((underlying T) >>= _).run X.P w = _
      rw [Sem.run_bind, run_underlying hT]
      rfl
    have hcn : a.eval (.const (.pointer none)) = .pointer none := rfl
    refine ⟨.bool true, ?_, rfl⟩
    simp only [execOp, hv, hcn]
    simp [binOp, eqGuard, he, Result.andThen]
end ops
end Go.Proofs.YtcdeknlejjjmlaaGreatDoor
