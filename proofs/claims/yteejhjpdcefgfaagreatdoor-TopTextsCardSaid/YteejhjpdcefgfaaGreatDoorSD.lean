import Derived.Test.YteejhjpdcefgfaaGreatDoorSC
namespace Go.Proofs.YteejhjpdcefgfaaGreatDoor
open Go Go.RowKit

def wkn : Nat := 777777
abbrev WkD {σ : Type} (F : σ → Ct) (r0 : Nat) (mm : Nat → Option Ct) (d : D) : Prop := anyB d.ri wkn = true → ∃ s, mm r0 = some (F s)
theorem cur_in {σ : Type} (F : σ → Ct) {L : Nat → Bool} {r : Nat} : ∀ (es : List (List (Nat × Ct))) (b : Nat → Option Ct) (i : Nat), (∃ s, b r = some (F s)) → (∀ k e c, es[k]? = some e → L (i + k) = true → lk e r = some c → ∃ s, c = F s) → ∃ s, cur b es i L r = some (F s)
  | [], _, _, h, _ => h
  | e :: es, b, i, h, h2 => by
    simp only [cur]
    refine cur_in F es _ (i + 1) ?_ (fun k e' c hk hL hl => h2 (k + 1) e' c (by simpa using hk) (by rw [show i + (k + 1) = i + 1 + k by omega]; exact hL) hl)
    cases hL : L i
    · simpa using h
    · simp only [if_true]
      unfold up
      cases hl : lk e r with
      | none => exact h
      | some c => obtain ⟨s, rfl⟩ := h2 0 e c rfl (by simpa using hL) hl; exact ⟨s, rfl⟩

theorem draw_soundW {X : Cx} {ls : List Oper} {ds : List D} {l m} (hD : Qt8 ls ds) {Q : Exit → Act → World → Prop} {σ : Type} {F : σ → Ct} {r0 : Nat}
    (hS : ∀ j o d, ls[j]? = some o → ds[j]? = some d → ∀ st mm, Ag st (cur (lk l) ((ds.map (·.el)).take j) 0 (fun _ => true)) d.rs → Ag mm (cur (lk m) ((ds.map (·.em)).take j) 0 (fun _ => true)) d.ri → WkD F r0 mm d → OpQ X Q ⟨ls⟩ st mm o d.el d.em)
    (hb : ∃ s, lk m r0 = some (F s)) (hW : ∀ (j k : Nat) dj d c, ds[j]? = some dj → anyB dj.ri wkn = true → ds[k]? = some d → lk d.em r0 = some c → (∃ s, c = F s) ∨ Anc ls j k)
    (hQ : ∀ a w γ, Inv X (lk (fin (ds.map (·.el)) l)) (lk (fin (ds.map (·.em)) m)) a w γ → Q .normal a w) :
    ∀ (fuel : Nat) (listed : Array Bool) (a : Act) (w : World) (γ : Nm), listed.size = ls.length → (listed.toList.filter (!·)).length ≤ fuel → (∀ i o, ls[i]? = some o → listed.getD i true = true → ∀ p ∈ prs o, listed.getD p false = true) →
      Inv X (cur (lk l) (ds.map (·.el)) 0 (fun i => listed.getD i false)) (cur (lk m) (ds.map (·.em)) 0 (fun i => listed.getD i false)) a w γ →
      wpAny X.P .any ⟨ls⟩ Q fuel listed a w := by
  -- when none is ready, all are listed
  have all_listed : ∀ (listed : Array Bool), listed.size = ls.length → Region.ready .any ⟨ls⟩ listed = [] → ∀ i, i < ls.length → listed.getD i false = true := by
    intro listed hsz hr i
    induction i using Nat.strongRecOn with
    | _ i ih =>
      intro hi
      cases hl : listed.getD i false with
      | true => rfl
      | false =>
        exfalso
        have hmem : i ∈ Region.ready .any ⟨ls⟩ listed := by
          rw [mem_ready]
          refine ⟨?_, ls[i], by simp [hi], fun e he hb => ?_⟩
          · have hi' : i < listed.size := by omega
            simp only [Array.getD_eq_getD_getElem?, Array.getElem?_eq_getElem hi', Option.getD_some] at hl ⊢
            exact hl
          · have hp : e.on ∈ prs ls[i] := List.mem_map.2 ⟨e, List.mem_filter.2 ⟨by simpa using he, hb⟩, rfl⟩
            have hlt := hD.back i ls[i] (by simp [hi]) e.on hp
            exact ih e.on hlt (by omega)
        rw [hr] at hmem; cases hmem
  have done : ∀ (listed : Array Bool) (a : Act) (w : World) (γ : Nm), listed.size = ls.length → Region.ready .any ⟨ls⟩ listed = [] → Inv X (cur (lk l) (ds.map (·.el)) 0 (fun i => listed.getD i false)) (cur (lk m) (ds.map (·.em)) 0 (fun i => listed.getD i false)) a w γ → Q .normal a w := by
    intro listed a w γ hsz hr hi
    have h := all_listed listed hsz hr
    have hlen := hD.len
    rw [Qvv _ l 0 _ (fun k hk => by rw [Nat.zero_add]; exact h k (by simp at hk; omega)), Qvv _ m 0 _ (fun k hk => by rw [Nat.zero_add]; exact h k (by simp at hk; omega))] at hi
    exact hQ a w γ hi
  intro fuel
  induction fuel with
  | zero =>
    intro listed a w γ hsz hc hcl hi
    have hr : Region.ready .any ⟨ls⟩ listed = [] := by
      cases hrd : Region.ready .any ⟨ls⟩ listed with
      | nil => rfl
      | cons i r =>
        exfalso
        have hmem : i ∈ Region.ready .any ⟨ls⟩ listed := by rw [hrd]; exact List.mem_cons_self
        rw [mem_ready] at hmem
        obtain ⟨h1, _⟩ := hmem
        have hi' : i < listed.size := by
          rcases Nat.lt_or_ge i listed.size with h | h
          · exact h
          · simp [Array.getElem?_eq_none h] at h1
        have : false ∈ listed.toList.filter (!·) := List.mem_filter.2 ⟨by
          have := Array.getElem_mem hi'
          simp only [Array.getD_eq_getD_getElem?, Array.getElem?_eq_getElem hi', Option.getD_some] at h1
          rw [h1] at this; simpa using this, rfl⟩
        have hnil : listed.toList.filter (!·) = [] := List.eq_nil_of_length_eq_zero (by omega)
        rw [hnil] at this; cases this
    exact ⟨hr, done listed a w γ hsz hr hi⟩
  | succ fuel ih =>
    intro listed a w γ hsz hc hcl hi
    refine ⟨fun hr => done listed a w γ hsz hr hi, fun j hj => ?_⟩
    rw [mem_ready] at hj
    obtain ⟨hj1, o, ho, hpre⟩ := hj
    have ho' : ls[j]? = some o := by simpa using ho
    have hjl : j < ls.length := by
      rcases Nat.lt_or_ge j ls.length with h | h
      · exact h
      · simp [List.getElem?_eq_none h] at ho'
    have hjs : j < listed.size := by omega
    have hj0 : listed.getD j false = false := by
      simp only [Array.getD_eq_getD_getElem?, Array.getElem?_eq_getElem hjs, Option.getD_some] at hj1 ⊢; exact hj1
    obtain ⟨d, hd⟩ : ∃ d, ds[j]? = some d := ⟨_, List.getElem?_eq_getElem (by rw [← hD.len]; exact hjl)⟩
    have hprs : ∀ p ∈ prs o, listed.getD p false = true := by
      intro p hp
      obtain ⟨e, he, rfl⟩ := List.mem_map.1 hp
      obtain ⟨he1, he2⟩ := List.mem_filter.1 he
      exact hpre e (by simpa using he1) he2
    have hcl' : ∀ i o, ls[i]? = some o → listed.getD i false = true → ∀ p ∈ prs o, listed.getD p false = true := by
      intro k o' hk hl
      refine hcl k o' hk ?_
      have : k < listed.size := by
        rcases Nat.lt_or_ge k listed.size with h | h
        · exact h
        · simp [Array.getElem?_eq_none h] at hl
      simp only [Array.getD_eq_getD_getElem?, Array.getElem?_eq_getElem this, Option.getD_some] at hl ⊢; exact hl
    -- a later operation that must follow j isn't listed
    have later : ∀ k o', ls[k]? = some o' → j ∈ prs o' → listed.getD k false = false := by
      intro k o' hk hjp
      cases hl : listed.getD k false with
      | false => rfl
      | true =>
        have hk' : listed.getD k true = true := by
          have : k < listed.size := by
            rcases Nat.lt_or_ge k listed.size with h | h
            · exact h
            · simp [Array.getElem?_eq_none h] at hl
          simp only [Array.getD_eq_getD_getElem?, Array.getElem?_eq_getElem this, Option.getD_some] at hl ⊢; exact hl
        have := hcl k o' hk hk' j hjp
        rw [hj0] at this; cases this
    -- what it reads
    have prOk : ∀ k dk, ds[k]? = some dk → k < j → listed.getD k false = true ∨ (wrAny dk.el d.rs || wrAny d.el dk.rs || wrAny dk.el (d.el.map (·.1)) || wrAny dk.em d.ri || wrAny d.em dk.ri || wrAny dk.em (d.em.map (·.1))) = false := by
      intro k dk hk hlt
      rcases hD.pair j k o d dk ho' hd hk hlt with h | h
      · refine .inl ?_
        cases h with
        | one e1 e2 => rw [ho'] at e1; cases e1; exact hprs k e2
        | far e1 e2 e3 => rw [ho'] at e1; cases e1; exact e3.listed hcl' (hprs _ e2)
      · exact .inr h
    have poOk : ∀ k dk, ds[k]? = some dk → j < k → listed.getD k false = false ∨ (wrAny d.el dk.rs || wrAny dk.el d.rs || wrAny d.el (dk.el.map (·.1)) || wrAny d.em dk.ri || wrAny dk.em d.ri || wrAny d.em (dk.em.map (·.1))) = false := by
      intro k dk hk hlt
      have hkl : k < ls.length := by
        rw [hD.len]
        rcases Nat.lt_or_ge k ds.length with h | h
        · exact h
        · simp [List.getElem?_eq_none h] at hk
      rcases hD.pair k j ls[k] dk d (by simp [hkl]) hk hd hlt with h | h
      · refine .inl ?_
        cases hl : listed.getD k false with
        | false => rfl
        | true => have := h.listed hcl' hl; rw [hj0] at this; cases this
      · exact .inr h
    have mapget : ∀ {β : Type} (g : D → β) (k : Nat) (b : β), (ds.map g)[k]? = some b → ∃ dk, ds[k]? = some dk ∧ g dk = b := by
      intro β g k b h
      simp only [List.getElem?_map, Option.map_eq_some_iff] at h
      exact h
    have hrs : Ag (cur (lk l) (ds.map (·.el)) 0 (fun i => listed.getD i false)) (cur (lk l) ((ds.map (·.el)).take j) 0 (fun _ => true)) d.rs := Ag.of fun r hr => by
      refine Qw4 _ _ _ 0 j (fun k e hk hw hlt => ?_) (fun k e hk hw hle => ?_)
      · obtain ⟨dk, hdk, rfl⟩ := mapget _ k e hk
        rw [Nat.zero_add]
        rcases prOk k dk hdk hlt with h | h
        · exact h
        · simp only [Bool.or_eq_false_iff] at h
          have := Qgq h.1.1.1.1.1 r hr
          rw [this] at hw; cases hw
      · obtain ⟨dk, hdk, rfl⟩ := mapget _ k e hk
        rw [Nat.zero_add]
        rcases Nat.eq_or_lt_of_le hle with rfl | hlt
        · exact hj0
        · rcases poOk k dk hdk hlt with h | h
          · exact h
          · simp only [Bool.or_eq_false_iff] at h
            have := Qgq h.1.1.1.1.2 r hr
            rw [this] at hw; cases hw
    have hri : Ag (cur (lk m) (ds.map (·.em)) 0 (fun i => listed.getD i false)) (cur (lk m) ((ds.map (·.em)).take j) 0 (fun _ => true)) d.ri := Ag.of fun r hr => by
      refine Qw4 _ _ _ 0 j (fun k e hk hw hlt => ?_) (fun k e hk hw hle => ?_)
      · obtain ⟨dk, hdk, rfl⟩ := mapget _ k e hk
        rw [Nat.zero_add]
        rcases prOk k dk hdk hlt with h | h
        · exact h
        · simp only [Bool.or_eq_false_iff] at h
          have := Qgq h.1.1.2 r hr
          rw [this] at hw; cases hw
      · obtain ⟨dk, hdk, rfl⟩ := mapget _ k e hk
        rw [Nat.zero_add]
        rcases Nat.eq_or_lt_of_le hle with rfl | hlt
        · exact hj0
        · rcases poOk k dk hdk hlt with h | h
          · exact h
          · simp only [Bool.or_eq_false_iff] at h
            have := Qgq h.1.2 r hr
            rw [this] at hw; cases hw
    have hop := hS j o d ho' hd _ _ hrs hri (fun hw => cur_in F _ _ 0 hb (fun k e c hk hL hl => by
      obtain ⟨dk, hdk, rfl⟩ := mapget _ k e hk
      rw [Nat.zero_add] at hL
      exact (hW j k d dk c hd hw hdk hl).elim id (fun ha => by have := ha.listed hcl' hL; rw [hj0] at this; cases this)))
    -- the state behind it
    have hset : ∀ k, (listed.setIfInBounds j true).getD k false = if k = j then true else listed.getD k false := by
      intro k
      by_cases hkj : k = j
      · subst hkj; simp [hjs]
      · simp [hkj, Array.getElem?_setIfInBounds_ne (Ne.symm hkj)]
    have hcl2 : ∀ i o, ls[i]? = some o → (listed.setIfInBounds j true).getD i true = true → ∀ p ∈ prs o, (listed.setIfInBounds j true).getD p false = true := by
      intro i o' hi' hli p hp
      rw [hset]
      split
      · rfl
      · by_cases hij : i = j
        · subst hij; rw [ho'] at hi'; cases hi'; exact hprs p hp
        · refine hcl i o' hi' ?_ p hp
          simpa [Array.getElem?_setIfInBounds_ne (Ne.symm hij)] using hli
    have hcnt : ((listed.setIfInBounds j true).toList.filter (!·)).length ≤ fuel := by
      rw [Array.toList_setIfInBounds]
      have key : ∀ (L : List Bool) (j : Nat), L[j]? = some false → ((L.set j true).filter (!·)).length + 1 = (L.filter (!·)).length := by
        intro L
        induction L with
        | nil => intro j h; simp at h
        | cons b L ih =>
          intro j h
          cases j with
          | zero => simp at h; subst h; simp
          | succ j =>
            have := ih j (by simpa using h)
            cases b <;> simp at this ⊢ <;> omega
      have := key listed.toList j (by
        rw [Array.getElem?_toList, Array.getElem?_eq_getElem hjs]
        simp only [Array.getD_eq_getD_getElem?, Array.getElem?_eq_getElem hjs, Option.getD_some] at hj0
        rw [hj0])
      omega
    have hst : cur (lk l) (ds.map (·.el)) 0 (fun i => (listed.setIfInBounds j true).getD i false) = up (cur (lk l) (ds.map (·.el)) 0 (fun i => listed.getD i false)) d.el := by
      funext r
      refine Q0a _ _ 0 j _ _ d.el (by simp [hd]) (by rw [Nat.zero_add]; simp [hset]) (fun k hk => by rw [Nat.zero_add] at hk; simp [hset, hk]) (by rw [Nat.zero_add]; exact hj0) (fun k e hk hjk hw hw' => ?_)
      obtain ⟨dk, hdk, rfl⟩ := mapget _ k e hk
      rw [Nat.zero_add]
      rcases poOk k dk hdk hjk with h | h
      · exact h
      · simp only [Bool.or_eq_false_iff] at h
        have := Qgq h.1.1.1.2 r (Jbs hw')
        rw [this] at hw; cases hw
    have hmt : cur (lk m) (ds.map (·.em)) 0 (fun i => (listed.setIfInBounds j true).getD i false) = up (cur (lk m) (ds.map (·.em)) 0 (fun i => listed.getD i false)) d.em := by
      funext r
      refine Q0a _ _ 0 j _ _ d.em (by simp [hd]) (by rw [Nat.zero_add]; simp [hset]) (fun k hk => by rw [Nat.zero_add] at hk; simp [hset, hk]) (by rw [Nat.zero_add]; exact hj0) (fun k e hk hjk hw hw' => ?_)
      obtain ⟨dk, hdk, rfl⟩ := mapget _ k e hk
      rw [Nat.zero_add]
      rcases poOk k dk hdk hjk with h | h
      · exact h
      · simp only [Bool.or_eq_false_iff] at h
        have := Qgq h.2 r (Jbs hw')
        rw [this] at hw; cases hw
    have goon : ∀ a' w' γ', Inv X (up (cur (lk l) (ds.map (·.el)) 0 (fun i => listed.getD i false)) d.el) (up (cur (lk m) (ds.map (·.em)) 0 (fun i => listed.getD i false)) d.em) a' w' γ' → wpAny X.P .any ⟨ls⟩ Q fuel (listed.setIfInBounds j true) a' w' := by
      intro a' w' γ' hi'
      exact ih _ a' w' γ' (by simpa using hsz) hcnt hcl2 (by rw [hst, hmt]; exact hi')
    have := hop a w γ (wpAny X.P .any ⟨ls⟩ Q fuel (listed.setIfInBounds j true)) hi goon
    unfold wpOp
    rw [ho]
    split at this
    · rename_i hw; simp only [hw, if_true]; exact .inl this
    · rename_i hw; simp only [hw]; exact this


def StepsW {σ : Type} (F : σ → Ct) (r0 : Nat) (X : Cx) (ops : Array Oper) : List (Nat × Ly) → List (Nat × Ct) → List Oper → List D → Prop
  | _, _, [], [] => True
  | l, m, o :: os, d :: ds => (∀ st mm, Ag st (lk l) d.rs → Ag mm (lk m) d.ri → WkD F r0 mm d → OpG X ops st mm o d.el d.em) ∧ StepsW F r0 X ops (d.el ++ l) (d.em ++ m) os ds
  | _, _, _, _ => False

theorem stepsW_get {σ : Type} {F : σ → Ct} {r0 : Nat} {X : Cx} {ops : Array Oper} : ∀ {os : List Oper} {ds : List D} {l m}, StepsW F r0 X ops l m os ds → ∀ j o d, os[j]? = some o → ds[j]? = some d →
    ∀ st mm, Ag st (cur (lk l) ((ds.map (·.el)).take j) 0 (fun _ => true)) d.rs → Ag mm (cur (lk m) ((ds.map (·.em)).take j) 0 (fun _ => true)) d.ri → WkD F r0 mm d → OpG X ops st mm o d.el d.em
  | [], [], _, _, _, j, o, d, h, _ => by simp at h
  | o :: os, d :: ds, l, m, hs, 0, o', d', h1, h2 => by
    simp at h1 h2; subst h1; subst h2
    intro st mm h3 h4 h5
    exact hs.1 st mm (by simpa [cur] using h3) (by simpa [cur] using h4) h5
  | o :: os, d :: ds, l, m, hs, j + 1, o', d', h1, h2 => by
    intro st mm h3 h4 h5
    have shift : ∀ {α : Type} (es : List (List (Nat × α))) (b : Nat → Option α) (i i' : Nat), cur b es i (fun _ => true) = cur b es i' (fun _ => true) := by
      intro α es
      induction es with
      | nil => intro b i i'; rfl
      | cons e es ih => intro b i i'; simp only [cur, if_true]; exact ih _ _ _
    refine stepsW_get hs.2 j o' d' (by simpa using h1) (by simpa using h2) st mm ?_ ?_ h5
    · simp only [List.map_cons, List.take_succ_cons, cur, if_true, up_lk] at h3
      rw [shift _ _ 0 (0 + 1)]; exact h3
    · simp only [List.map_cons, List.take_succ_cons, cur, if_true, up_lk] at h4
      rw [shift _ _ 0 (0 + 1)]; exact h4
  | [], _ :: _, _, _, h, _, _, _, _, _ => h.elim
  | _ :: _, [], _, _, h, _, _, _, _, _ => h.elim

def anL : List Oper → List (List Nat) → List (List Nat)
  | [], an => an
  | o :: os, an => anL os (an ++ [far an o])
theorem anL_anc {ls : List Oper} : ∀ (os : List Oper) (an : List (List Nat)), (∀ k o, os[k]? = some o → ls[an.length + k]? = some o) → (∀ k l, an[k]? = some l → ∀ j ∈ l, Anc ls j k) → ∀ k l, (anL os an)[k]? = some l → ∀ j ∈ l, Anc ls j k
  | [], _, _, h => h
  | o :: os, an, h1, h2 => by
    have ho : ls[an.length]? = some o := by simpa using h1 0 o rfl
    refine anL_anc os _ (fun k o' hk => by have := h1 (k + 1) o' (by simpa using hk); rw [List.length_append, List.length_singleton, show an.length + 1 + k = an.length + (k + 1) by omega]; exact this) (fun k l hk => ?_)
    rcases Nat.lt_or_ge k an.length with h | h
    · rw [List.getElem?_append_left h] at hk; exact h2 k l hk
    · rw [List.getElem?_append_right h] at hk
      have : k = an.length := by
        rcases Nat.eq_or_lt_of_le h with h | h
        · omega
        · rw [List.getElem?_eq_none (by simp; omega)] at hk; cases hk
      subst this
      rw [Nat.sub_self] at hk
      simp at hk; subst hk; exact Jfx h2 ho
def wkT (a : List Nat) (dk : D) (r0 : Nat) : Nat → List D → Bool
  | _, [] => true
  | j, d :: ds => (!(anyB d.ri wkn) || !(wr dk.em r0) || anyB a j) && wkT a dk r0 (j + 1) ds
def wkB (ds0 : List D) (an : List (List Nat)) (k0 r0 : Nat) : Nat → List D → Bool
  | _, [] => true
  | k, d :: ds => (Nat.beq k k0 || wkT (an.getD k []) d r0 0 ds0) && wkB ds0 an k0 r0 (k + 1) ds
theorem wkT_get {a dk r0} : ∀ {ds : List D} {j0 : Nat}, wkT a dk r0 j0 ds = true → ∀ j d, ds[j]? = some d → anyB d.ri wkn = true → wr dk.em r0 = true → j0 + j ∈ a
  | [], _, _, j, d, h, _, _ => by simp at h
  | d :: ds, j0, h, 0, d', h1, h2, h3 => by
    simp at h1; subst h1
    simp only [wkT, h2, h3, Bool.and_eq_true, Bool.not_true, Bool.false_or] at h
    exact Jed h.1
  | d :: ds, j0, h, j + 1, d', h1, h2, h3 => by
    simp only [wkT, Bool.and_eq_true] at h
    have := wkT_get h.2 j d' (by simpa using h1) h2 h3
    rw [show j0 + (j + 1) = j0 + 1 + j by omega]; exact this
theorem wkB_get {ds0 an k0 r0} : ∀ {ds : List D} {i : Nat}, wkB ds0 an k0 r0 i ds = true → ∀ k d, ds[k]? = some d → i + k = k0 ∨ wkT (an.getD (i + k) []) d r0 0 ds0 = true
  | [], _, _, j, d, h => by simp at h
  | d :: ds, j0, h, 0, d', h1 => by
    simp at h1; subst h1
    simp only [wkB, Bool.and_eq_true, Bool.or_eq_true] at h
    exact orM h.1 (fun h => Nat.eq_of_beq_eq_true h) (fun h => h)
  | d :: ds, j0, h, j + 1, d', h1 => by
    simp only [wkB, Bool.and_eq_true] at h
    have := wkB_get h.2 j d' (by simpa using h1)
    rw [show j0 + (j + 1) = j0 + 1 + j by omega]; exact this
theorem sdrawW {σ : Type} {F : σ → Ct} {r0 k0 : Nat} {R : Type} {X : Cx} {l m} {md : Option R} {Q : R → Exit → Act → World → Prop} {ls : List Oper} (ds : List D) (hD : drawOk ls ds 0 [] [] = true) (hB : ∃ s, lk m r0 = some (F s)) (hK : ∃ d s, ds[k0]? = some d ∧ lk d.em r0 = some (F s)) (hw : wkB ds (anL ls []) k0 r0 0 ds = true) (hS : StepsW F r0 X ⟨ls⟩ l m ls ds)
    (k : Sq X (fin (ds.map (·.el)) l) (fin (ds.map (·.em)) m) md (fun r => Q r .normal)) : Sq X l m md (fun r a w => wpAny X.P .any ⟨ls⟩ (Q r) ls.length (Array.replicate ls.length false) a { w with drawn := w.drawn + 1 }) := by
  intro r a w γ hr hi
  obtain ⟨h1, h2, h3⟩ := Qny (ls := ls) ls ds 0 [] [] rfl rfl (fun k o h => by rw [Nat.zero_add]; exact h) (fun k l h => by simp at h) hD
  have hDF : Qt8 ls ds := ⟨h1, fun i o ho p hp => by have := h2 i o ho p hp; omega, fun i j o di dj ho hdi hdj hlt => by have := h3 i j o di dj ho hdi (by simpa using hdj) (by omega); rw [Nat.zero_add] at this; exact this⟩
  have hi' : Inv X (lk l) (lk m) a { w with drawn := w.drawn + 1 } γ := hi.ext (w' := { w with drawn := w.drawn + 1 }) rfl rfl rfl ⟨Nat.le_refl _, fun _ _ _ => rfl⟩
  have hA := anL_anc (ls := ls) ls [] (fun k o h => by simpa using h) (fun k l h => by simp at h)
  refine draw_soundW hDF (F := F) (r0 := r0) (fun j o d h1 h2 st mm h3 h4 h5 a w γ K hi hK => stepsW_get hS j o d h1 h2 st mm h3 h4 h5 a w γ K _ hi hK) hB (fun j k dj d c hj hf hk hc => ?_) (fun a w γ h => k r a w γ hr h) _ _ a _ γ (by simp) (by simp) (fun i o ho hl => ?_) ?_
  · have hwr : wr d.em r0 = true := by unfold wr; rw [hc]; rfl
    rcases wkB_get hw k d hk with h | h
    · rw [Nat.zero_add] at h; subst h
      obtain ⟨d', s, e1, e2⟩ := hK
      rw [hk] at e1; cases e1
      rw [hc] at e2; cases e2
      exact .inl ⟨s, rfl⟩
    · rw [Nat.zero_add] at h
      have hm := wkT_get h j dj hj hf hwr
      rw [Nat.zero_add] at hm
      rw [List.getD_eq_getElem?_getD] at hm
      cases hl : (anL ls [])[k]? with
      | none => rw [hl] at hm; simp at hm
      | some l => rw [hl] at hm; exact .inr (hA k l hl j hm)
  · have hlt : i < ls.length := by
      rcases Nat.lt_or_ge i ls.length with h | h
      · exact h
      · simp [List.getElem?_eq_none h] at ho
    simp [hlt] at hl
  · have e1 : (fun i => (Array.replicate ls.length false).getD i false) = fun _ => false := by
      funext i
      by_cases h : i < ls.length <;> simp [h]
    have e2 : ∀ {α : Type} (es : List (List (Nat × α))) (b : Nat → Option α) (i : Nat), cur b es i (fun _ => false) = b := by
      intro α es
      induction es with
      | nil => intro b i; rfl
      | cons e es ih => intro b i; simp [cur, ih]
    show Inv X (cur _ _ 0 (fun i => (Array.replicate ls.length false).getD i false)) (cur _ _ 0 (fun i => (Array.replicate ls.length false).getD i false)) _ _ _
    rw [e1, e2, e2]; exact hi'
theorem stepsW_app {σ : Type} {F : σ → Ct} {r0 : Nat} {X : Cx} {ops : Array Oper} : ∀ {ls : List Oper} {ds : List D} {l m o os d}, StepsW F r0 X ops l m ls ds → (∀ st mm, Ag st (lk (fin (ds.map (·.el)) l)) d.rs → Ag mm (lk (fin (ds.map (·.em)) m)) d.ri → WkD F r0 mm d → OpG X ops st mm o d.el d.em) → os = ls ++ [o] → StepsW F r0 X ops l m os (ds ++ [d])
  | [], [], l, m, o, os, d, _, h, e => by subst e; exact ⟨h, trivial⟩
  | o' :: ls, d' :: ds, l, m, o, os, d, hs, h, e => by subst e; exact ⟨hs.1, stepsW_app hs.2 h rfl⟩
  | [], _ :: _, _, _, _, _, _, h, _, _ => by simp [StepsW] at h
  | _ :: _, [], _, _, _, _, _, h, _, _ => by simp [StepsW] at h
def SqW {R σ : Type} (F : σ → Ct) (r0 : Nat) (X : Cx) (Wp : R → Act → World → Prop) (ls0 : List Oper) (l0 : List (Nat × Ly)) (m0 : List (Nat × Ct)) (md : Option R) (_ : R → Exit → Act → World → Prop) (ds : List D) (l : List (Nat × Ly)) (m : List (Nat × Ct)) (ls : List Oper) : Prop :=
  ∀ pre, ls0 = pre ++ ls → StepsW F r0 X ⟨ls0⟩ l0 m0 pre ds → fin (ds.map (·.el)) l0 = l → fin (ds.map (·.em)) m0 = m → Sq X l0 m0 md Wp
section
variable {R σ : Type} {F : σ → Ct} {r0 : Nat} {X : Cx} {l l0 : List (Nat × Ly)} {m m0 : List (Nat × Ct)} {md : Option R} {Q : R → Exit → Act → World → Prop}
theorem wkD {id : Nat} {ls : List Oper} (r0 : Nat) (F : σ → Ct) (h : SqW F r0 X (fun r => (Code.region id ⟨ls⟩ true).wp X.P (Q r)) ls l m md Q [] l m ls) : Sq X l m md (fun r => (Code.region id ⟨ls⟩ true).wp X.P (Q r)) := h [] rfl trivial rfl rfl
theorem wkE {id : Nat} {ls0 : List Oper} {ds} (k0 : Nat) (s s' : σ) (k : Sq X l m md (fun r => Q r .normal)) (hf : X.P.follows .mixedOrders = true := by exact CFo.h) (hB : lk m0 r0 = some (F s) := by exact rfl) (hK : ((ds[k0]?).bind fun d => lk d.em r0) = some (F s') := by exact rfl)
    (hw : wkB ds (anL ls0 []) k0 r0 0 ds = true := by kernel_rfl) (hD : drawOk ls0 ds 0 [] [] = true := by kernel_rfl) : SqW F r0 X (fun r => (Code.region id ⟨ls0⟩ true).wp X.P (Q r)) ls0 l0 m0 md Q ds l m [] := by
  intro pre e hs hl hm
  simp at e; subst e
  intro r a w γ hr hi
  refine wp_region_any hf (sdrawW (k0 := k0) ds hD ⟨s, hB⟩ ?_ hw hs ?_ r a w γ hr hi)
  · cases h : ds[k0]? with
    | none => rw [h] at hK; cases hK
    | some d => rw [h] at hK; exact ⟨d, s', rfl, hK⟩
  · rw [hl, hm]; exact k
theorem wkX {Wp : R → Act → World → Prop} {ls0 ds o os} (rs ri : List Nat) {el em} (h : ∀ st mm, Ag st (lk l) rs → Ag mm (lk m) ri → (anyB ri wkn = true → ∃ s, mm r0 = some (F s)) → OpG X ⟨ls0⟩ st mm o el em) (k : SqW F r0 X Wp ls0 l0 m0 md Q (ds ++ [⟨rs, ri, el, em⟩]) (el ++ l) (em ++ m) os) : SqW F r0 X Wp ls0 l0 m0 md Q ds l m (o :: os) := by
  intro pre e hs hl hm
  refine k (pre ++ [o]) (by simp [e]) (stepsW_app hs (by simpa only [hl, hm] using h) rfl) ?_ ?_
  · rw [List.map_append]; exact (Q0f _ _ _).trans (by rw [hl])
  · rw [List.map_append]; exact (Q0f _ _ _).trans (by rw [hm])
theorem wkO {Wp : R → Act → World → Prop} {ls0 ds os d op ty pos after} (ri : List Nat) {el em} (h : ∀ st mm, Ag st (lk l) (opRs ⟨ls0⟩ ⟨d, op, ty, pos, after, none⟩) → Ag mm (lk m) ri → OpS X st mm ⟨d, op, ty, pos, after, none⟩ el em)
    (k : SqW F r0 X Wp ls0 l0 m0 md Q (ds ++ [⟨opRs ⟨ls0⟩ ⟨d, op, ty, pos, after, none⟩, ri, el, em⟩]) (el ++ l) (em ++ m) os) : SqW F r0 X Wp ls0 l0 m0 md Q ds l m (⟨d, op, ty, pos, after, none⟩ :: os) := wkX _ ri (fun st mm h1 h2 _ => og (h st mm h1 h2).h) k
theorem wkA {Wp : R → Act → World → Prop} {ls0 ds os d op ty pos after} {el em} (h : ∀ s st mm, Ag st (lk l) (opRs ⟨ls0⟩ ⟨d, op, ty, pos, after, none⟩) → Ag mm (lk [(r0, F s)]) [r0] → OpS X st mm ⟨d, op, ty, pos, after, none⟩ el em)
    (k : SqW F r0 X Wp ls0 l0 m0 md Q (ds ++ [⟨opRs ⟨ls0⟩ ⟨d, op, ty, pos, after, none⟩, [wkn], el, em⟩]) (el ++ l) (em ++ m) os) : SqW F r0 X Wp ls0 l0 m0 md Q ds l m (⟨d, op, ty, pos, after, none⟩ :: os) :=
  wkX _ [wkn] (fun st mm h1 _ h3 => og (by
    obtain ⟨s, hs⟩ := h3 rfl
    exact (h s st mm h1 ⟨by rw [hs]; simp [lk], trivial⟩).h)) k
end
end Go.Proofs.YteejhjpdcefgfaaGreatDoor
