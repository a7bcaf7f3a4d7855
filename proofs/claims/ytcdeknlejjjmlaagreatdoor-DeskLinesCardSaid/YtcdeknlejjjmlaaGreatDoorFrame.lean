import Derived.Test.YtcdeknlejjjmlaaGreatDoorSB
import Derived.ChangeArms
import Derived.Carry
import Derived.OpenShut
import Derived.ProofKit
namespace Go.Proofs.YtcdeknlejjjmlaaGreatDoor
open Go Go.RowKit Go.ChangeShapes Go.WideShapes Go.ChangeAt
/-! ### From what can be read as data to layouts -/
def S0n : Nat → Prop := fun _ => False
def g0n : Nm := fun _ => none
def Opn {α : Type} (P : Program) (T : Nat) (L : α → Ly) (B : α → Prop) : Prop :=
  ∀ (H : Type) (enc : TypeId × Value → H) (w : World) (fuel : Nat) (cs : List Value) (x : DataW H × List MemPlace),
    DataW.trod enc P w 0 (fun _ => true) true fuel T cs = some x → ∃ y : α, (L y).hold w S0n g0n cs ∧ B y
theorem opn_i64 {P T} (hT : P.underlying T = some (.int .i64)) : Opn P T i64 (fun x => -9223372036854775808 ≤ x ∧ x ≤ 9223372036854775807) := by
  intro H enc w fuel cs x h
  obtain ⟨n, rfl, _, hw⟩ := DataW.trod_int hT h
  have hb := bounds_i64 hw
  exact ⟨n, ⟨_, rfl, rfl, hb.1, hb.2⟩, hb⟩
theorem opn_uk {P T k N} (hu : UK k N) (hT : P.underlying T = some (.int k)) : Opn P T (uk k) (fun x => x < N) := by
  intro H enc w fuel cs x h
  obtain ⟨n, rfl, _, hw⟩ := DataW.trod_int hT h
  have hb : k.min ≤ n ∧ n ≤ k.max := by simpa [Lit.wf] using hw
  have hb' := hb
  rw [hu.min, hu.max] at hb'
  have e : ((n.toNat : Nat) : Int) = n := by omega
  exact ⟨n.toNat, ⟨_, rfl, by rw [e], by rw [e]; exact hb.1, by rw [e]; exact hb.2⟩, by omega⟩
theorem opn_bl {P T} (hT : P.underlying T = some .bool) : Opn P T bl (fun _ => True) := by
  intro H enc w fuel cs x h
  cases fuel with
  | zero => simp [DataW.trod] at h
  | succ n =>
    unfold DataW.trod at h
    rw [hT] at h
    split at h
    case h_1 => exact ⟨_, ⟨_, rfl, rfl⟩, trivial⟩
    all_goals simp_all
theorem opn_str {P T} (hT : P.underlying T = some .string) : Opn P T str (fun s => s.length ≤ maxLen) := by
  intro H enc w fuel cs x h
  obtain ⟨s, rfl, _, hl⟩ := DataW.trod_string hT h
  refine ⟨s.data.toList, ⟨_, rfl, by simp, ?_⟩, ?_⟩ <;> simpa using hl
theorem cells?_all {w : World} {b : Nat} {a : Addr} {n : Nat} {cs : List Value} (h : w.cells? b a n = some cs) : cs.length = n ∧ ∀ i u, cs[i]? = some u → w.cell? (a.add i) = some u := by
  unfold World.cells? at h
  split at h
  case isFalse => cases h
  have hl := mapM_some_length h
  simp only [List.length_range] at hl
  refine ⟨hl, fun i u hu => ?_⟩
  have hi : i < n := by
    rcases Nat.lt_or_ge i cs.length with h' | h'
    · omega
    · simp [List.getElem?_eq_none h'] at hu
  rw [mapM_some_get h i i (by simp [hi]), hu]
theorem opn_sl {P T E k} {α : Type} {f : α → Ly} {B : α → Prop} (hT : P.underlying T = some (.slice E)) (hc : P.cellsOf E = k) (hk : Nat.blt 0 k = true) (hz : ∀ x, (f x).sz = k) (hE : Opn P E f B) :
    Opn P T (fun xs : List α => sli k (xs.map f)) (fun xs => xs.length ≤ maxLen ∧ ∀ x ∈ xs, B x) := by
  intro H enc w fuel cs x h
  have hk' : 0 < k := by simpa using hk
  rcases DataW.trod_slice hT h with ⟨rfl, _⟩ | ⟨a, len, cap, elems, rest, n, _, rfl, _, _, hlc, hcm, hlen, hel, hsp, _⟩
  · exact ⟨[], ⟨_, rfl, .inl ⟨rfl, rfl⟩⟩, Nat.zero_le _, fun _ h => by cases h⟩
  subst hc
  by_cases hcap : cap = 0
  · subst hcap
    obtain rfl : len = 0 := by omega
    exact ⟨[], ⟨_, rfl, .inr (.inr ⟨rfl, a, rfl⟩)⟩, Nat.zero_le _, fun _ h => by cases h⟩
  -- the first cell is there
  obtain ⟨hrl, hr⟩ := hsp rfl
  have first : ∃ c0, w.cells? 0 (a.add 0) (P.cellsOf E) = some c0 := by
    by_cases h0 : 0 < len
    · have := hel 0 h0
      rw [Nat.zero_mul] at this
      obtain ⟨e, he⟩ : ∃ e, elems[0]? = some e := ⟨elems[0], by simp [hlen, h0]⟩
      rw [he, Option.bind_eq_some_iff] at this
      obtain ⟨c0, h1, _⟩ := this
      exact ⟨c0, h1⟩
    · have := hr 0 (by omega)
      obtain rfl : len = 0 := by omega
      rw [Nat.add_zero, Nat.zero_mul] at this
      obtain ⟨e, he⟩ : ∃ e, rest[0]? = some e := ⟨rest[0]'(by omega), by simp⟩
      rw [he, Option.bind_eq_some_iff] at this
      obtain ⟨c0, h1, _⟩ := this
      exact ⟨c0, h1⟩
  obtain ⟨c0, hc0⟩ := first
  obtain ⟨hl0, hat⟩ := cells?_all hc0
  have hcell : ∃ u, w.cell? a = some u := by
    have := hat 0 (c0[0]'(by omega)) (by simp)
    simp only [Addr.add, if_true] at this
    exact ⟨_, this⟩
  obtain ⟨u0, hu0⟩ := hcell
  obtain ⟨bb, o, sp⟩ := a
  have hsp0 : sp = none := by
    unfold World.cell? at hu0
    split at hu0
    · split at hu0
      · cases hu0
      · rename_i h; simpa using h
    · cases hu0
  subst hsp0
  have hbb : bb < w.heap.size := by
    rcases Nat.lt_or_ge bb w.heap.size with h | h
    · exact h
    · simp [World.cell?, Array.getElem?_eq_none h] at hu0
  have key : ∀ m, m ≤ len → ∃ (ys : List α) (css : List Value), ys.length = m ∧ Ly.holds w S0n g0n (ys.map f) css ∧ (∀ j u, css[j]? = some u → w.cell? ⟨bb, o + j, none⟩ = some u) ∧ ∀ y ∈ ys, B y := by
    intro m
    induction m with
    | zero => intro _; exact ⟨[], [], rfl, rfl, fun j u hj => by simp at hj, fun _ h => by cases h⟩
    | succ m ih =>
      intro hm
      obtain ⟨ys, css, h1, h2, h3, h4⟩ := ih (by omega)
      have he := hel m (by omega)
      obtain ⟨e, hee⟩ : ∃ e, elems[m]? = some e := ⟨elems[m]'(by omega), by simp⟩
      rw [hee, Option.bind_eq_some_iff] at he
      obtain ⟨c1, g1, g2⟩ := he
      obtain ⟨gl, gat⟩ := cells?_all g1
      obtain ⟨y, hy, hB⟩ := hE H enc w n c1 e g2
      have hcl : css.length = m * P.cellsOf E := by
        rw [Ly.holds_sz _ _ h2, szs_all (k := P.cellsOf E) (fun ly hly => by obtain ⟨x, _, rfl⟩ := List.mem_map.1 hly; exact hz x)]; simp [h1]
      refine ⟨ys ++ [y], css ++ c1, by simp [h1], ?_, ?_, ?_⟩
      · rw [List.map_append]
        exact holds_append h2 ⟨c1, [], by simp, hy, rfl⟩
      · intro j u hj
        rcases Nat.lt_or_ge j css.length with hlt | hge
        · rw [List.getElem?_append_left hlt] at hj; exact h3 j u hj
        · rw [List.getElem?_append_right hge] at hj
          have := gat _ u hj
          rw [add0, add0, hcl] at this
          rw [show o + m * P.cellsOf E + (j - m * P.cellsOf E) = o + j by omega] at this
          exact this
      · intro z hz'
        rcases List.mem_append.1 hz' with h | h
        · exact h4 z h
        · rw [List.mem_singleton.1 h]; exact hB
  obtain ⟨ys, css, h1, h2, h3, h4⟩ := key len (Nat.le_refl _)
  refine ⟨ys, ⟨_, rfl, .inr (.inl ⟨bb, o, cap, css, by simp [h1], by simp [h1]; omega, hcm, hbb, fun h => h, h3, h2, fun ly hly => ?_⟩)⟩, by omega, h4⟩
  obtain ⟨x, _, rfl⟩ := List.mem_map.1 hly; exact hz x

/-- Fields, or elements of an array, one behind the other. -/
def Opns {α : Type} (P : Program) (fl : List (Nat × Nat × Nat)) (off total : Nat) (L : α → List Ly) (B : α → Prop) : Prop :=
  ∀ (H : Type) (enc : TypeId × Value → H) (w : World) (fuel : Nat) (cs : List Value), cs.length = total →
    (∀ f ∈ fl, ∃ x, DataW.trod enc P w 0 (fun _ => true) true fuel f.1 ((cs.drop f.2.1).take f.2.2) = some x) → ∃ y : α, Ly.holds w S0n g0n (L y) (cs.drop off) ∧ B y
theorem opns_nil {P total} : Opns P [] total total (fun _ : Unit => []) (fun _ => True) := by
  intro H enc w fuel cs hl _
  exact ⟨(), by rw [List.drop_of_length_le (by omega)]; rfl, trivial⟩
theorem opns_cons {P T off k fl total} {α β : Type} {L1 : α → Ly} {B1 : α → Prop} {L2 : β → List Ly} {B2 : β → Prop} (h1 : Opn P T L1 B1) (h2 : Opns P fl (off + k) total L2 B2) :
    Opns P ((T, off, k) :: fl) off total (fun y : α × β => L1 y.1 :: L2 y.2) (fun y => B1 y.1 ∧ B2 y.2) := by
  intro H enc w fuel cs hl hf
  obtain ⟨x, hx⟩ := hf _ List.mem_cons_self
  obtain ⟨y, hy, hB⟩ := h1 H enc w fuel _ x hx
  obtain ⟨z, hz, hC⟩ := h2 H enc w fuel cs hl (fun f hf' => hf f (List.mem_cons_of_mem _ hf'))
  refine ⟨(y, z), ⟨(cs.drop off).take k, cs.drop (off + k), ?_, hy, hz⟩, hB, hC⟩
  rw [← List.drop_drop]; exact (List.take_append_drop k _).symm
theorem opn_struct {P T total} {fs : Array Field} {fl : List (Nat × Nat × Nat)} {α β : Type} {L : α → List Ly} {B : α → Prop} (g : α → β) {Lg : β → List Ly} {Bg : β → Prop} (hT : P.underlying T = some (.struct fs)) (hc : P.cellsOf T = total)
    (hfl : fs.toList.map (fun F => (F.type, F.offset, P.cellsOf F.type)) = fl) (h : Opns P fl 0 total L B) (hL : ∀ y, L y = Lg (g y)) (hB : ∀ y, B y → Bg (g y)) : Opn P T (fun y => .agg (Lg y)) Bg := by
  intro H enc w fuel cs x hx
  obtain ⟨xs, n, rfl, _, hl, hxl, hat⟩ := DataW.trod_struct hT hx
  obtain ⟨y, hy, hb⟩ := h H enc w n cs (by rw [hl, hc]) (fun f hf => by
    rw [← hfl] at hf
    obtain ⟨F, hF, rfl⟩ := List.mem_map.1 hf
    obtain ⟨i, hi⟩ := List.getElem?_of_mem hF
    have := hat i F (by simpa using hi)
    have hlt : i < xs.length := by
      rw [hxl]
      rcases Nat.lt_or_ge i fs.size with h | h
      · exact h
      · simp [List.getElem?_eq_none (show fs.toList.length ≤ i by simpa using h)] at hi
    exact ⟨xs[i], by rw [this]; simp [hlt]⟩)
  exact ⟨g y, by simp only [Ly.hold]; rw [← hL]; simpa using hy, hB y hb⟩
theorem opn_array {P T total n E} {fl : List (Nat × Nat × Nat)} {α β : Type} {L : α → List Ly} {B : α → Prop} (g : α → β) {Lg : β → List Ly} {Bg : β → Prop} (hT : P.underlying T = some (.array n E)) (hc : P.cellsOf T = total)
    (hfl : (List.range n).map (fun i => (E, i * P.cellsOf E, P.cellsOf E)) = fl) (h : Opns P fl 0 total L B) (hL : ∀ y, L y = Lg (g y)) (hB : ∀ y, B y → Bg (g y)) : Opn P T (fun y => .agg (Lg y)) Bg := by
  intro H enc w fuel cs x hx
  obtain ⟨xs, m, rfl, _, hl, hxl, hat⟩ := DataW.trod_array hT hx
  obtain ⟨y, hy, hb⟩ := h H enc w m cs (by rw [hl, hc]) (fun f hf => by
    rw [← hfl] at hf
    obtain ⟨i, hi, rfl⟩ := List.mem_map.1 hf
    have hi' : i < n := by simpa using hi
    exact ⟨xs[i]'(by omega), by rw [hat i hi']; simp⟩)
  exact ⟨g y, by simp only [Ly.hold]; rw [← hL]; simpa using hy, hB y hb⟩

/-- An argument. -/
theorem opn_val1 {P T} {α : Type} {L : α → Ly} {B : α → Prop} {r : Reach} {base : Nat} {w : World} {v : Value} {H : Type} {enc : TypeId × Value → H} {d : DataW H} {ps : List MemPlace} (h : Opn P T L B) (hn : ∀ y, (L y).isN = false)
    (hT : ∀ fs n e, P.underlying T ≠ some (.struct fs) ∧ P.underlying T ≠ some (.array n e)) (hval : Value.okWide P w r base T v) (hd : DataW.Trod enc P w 0 (fun _ => true) true T v d ps) : ∃ y, (L y).val w S0n g0n v ∧ B y := by
  obtain ⟨fuel, hf⟩ := hd
  obtain ⟨y, hy, hB⟩ := h H enc w fuel _ _ hf
  have hv : v.cells = #[v] := by
    cases v with
    | agg cs =>
      exfalso
      unfold Value.okWide at hval
      split at hval
      · rename_i fs he; exact (hT fs 0 0).1 he
      · rename_i n e he; exact (hT #[] n e).2 he
      · unfold Cell.okWide at hval
        split at hval <;> (try (simp_all; done))
        unfold Cell.ok at hval
        split at hval <;> simp_all
    | _ => rfl
  rw [hv] at hy
  exact ⟨y, Ly.val_of_hold1 (hn y) hy, hB⟩
theorem opn_valN {P T} {α : Type} {L : α → List Ly} {B : α → Prop} {r : Reach} {base : Nat} {w : World} {v : Value} {H : Type} {enc : TypeId × Value → H} {d : DataW H} {ps : List MemPlace} (h : Opn P T (fun y => .agg (L y)) B)
    (hT : (∃ fs, P.underlying T = some (.struct fs)) ∨ ∃ n e, P.underlying T = some (.array n e)) (hval : Value.okWide P w r base T v) (hd : DataW.Trod enc P w 0 (fun _ => true) true T v d ps) : ∃ y, Ly.val w S0n g0n (.agg (L y)) v ∧ B y := by
  obtain ⟨fuel, hf⟩ := hd
  obtain ⟨y, hy, hB⟩ := h H enc w fuel _ _ hf
  obtain ⟨cs, rfl⟩ : ∃ cs, v = .agg cs := by
    unfold Value.okWide at hval
    rcases hT with ⟨fs, hT⟩ | ⟨n, e, hT⟩ <;> rw [hT] at hval <;> (obtain ⟨cs, h, _⟩ := hval; exact ⟨cs, h⟩)
  exact ⟨y, ⟨cs, rfl, by simpa [Ly.hold, Value.cells] using hy⟩, hB⟩
theorem post_of_below' {H : Type} {enc : TypeId × Value → H} {P : Program} {f : Func} {s : ChangeSpec} {apart fresh handsOn again : Bool} {W W' : World} {args : Array Value} {v : Value} {ds gs : List (DataW H)} {before pa pv : List MemPlace}
    (hW : DataW.Whole enc P f.params.toList s.vars apart W args.toList ds gs before) (hb : Below W.heap.size W W')
    (hres : ∀ (b : Nat) (sp : Nat → Bool) (hd : Bool), DataW.TrodAll enc P W' b sp hd f.resultTypes.toList (v.resultList f.resultTypes.size) (s.fn H (ds ++ gs)).results [])
    (hargs : ∀ sp : Nat → Bool, (∀ p ∈ before, sp p.block = true) → DataW.TrodAll enc P W' 0 sp true f.params.toList args.toList (s.fn H (ds ++ gs)).args pa)
    (hvars : ∀ sp : Nat → Bool, (∀ p ∈ before, sp p.block = true) → DataW.TrodVars enc P W' sp s.vars (s.fn H (ds ++ gs)).vars pv) (hps : before = pa ++ pv)
    (hok : ∀ (j : Nat) (t : TypeId) (r : Value), f.resultTypes[j]? = some t → (v.resultList f.resultTypes.size)[j]? = some r → Value.okWide P W' .any 0 t r) :
    s.post enc P f apart fresh handsOn again W args v W' := by
  have hlt := fun p hp => hW.lt p hp
  have hin : ∀ p ∈ before, decide (p.block < W.heap.size) = true := fun p hp => by simpa using hlt p hp
  refine ⟨ds, gs, before, [], pa, pv, hW, hres _ _ _, hargs _ hin, hvars _ hin, World.keptBut_mono (fun p hp => ⟨hp, .inr ?_⟩) (hb.frame (· ∈ before)), fun _ => ⟨hok, _, _, ([] ++ pa) ++ pv, ⟨[] ++ pa, pv, trodAll_append (hargs _ fun _ _ => rfl) (hres _ _ _), hvars _ fun _ _ => rfl, rfl, ?_, ?_⟩, ?_⟩⟩
  · rw [hps, List.mem_append] at hp; exact hp
  · intro b off hp
    have hp' : MemPlace.cell b off ∈ before := by rw [hps]; simpa using hp
    obtain ⟨_, _, _, _, _, hz, _⟩ := hW
    rw [hb.frozen (hlt _ hp')]; exact hz b off hp'
  · intro ha
    obtain ⟨_, _, _, _, _, _, hn⟩ := hW
    have := hn ha
    rw [hps] at this; simpa using this
  · intro p hp _; rw [hps]; simpa using hp

end Go.Proofs.YtcdeknlejjjmlaaGreatDoor
