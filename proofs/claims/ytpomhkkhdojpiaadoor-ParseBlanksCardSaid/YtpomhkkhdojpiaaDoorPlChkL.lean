import Derived.Test.YtpomhkkhdojpiaaDoorPlChk2
namespace Go.Proofs.YtpomhkkhdojpiaaDoor
open Go Go.RowKit
theorem maxLen_le : maxLen ≤ 9223372036854775807 := by decide
theorem law19_works : m_retrospectlaw19_works big = some true := by kernel_rfl
theorem m_law19_Fault_eq (F : M_api_Fault) (h : F = f0 ∨ F.Kind = 2) : m_retrospectlaw19_Fault (refR F).1 (refR F).2 = some F := by
  unfold m_retrospectlaw19_Fault
  rcases h with rfl | h
  · rw [refR_zero]; rfl
  · rw [refR_bad F h]
    cases F; simp only at h; subst h; rfl
theorem runG_ind {α τ : Type} {g : Nat → α → Unit → Unit ⊕ τ} {e : Unit → τ} {P : τ → Prop} : ∀ {xs : List α} {k : Nat}, (∀ j x t, x ∈ xs → g j x () = .inr t → P t) → P (e ()) → P (runG g e xs k ())
  | [], k, _, he => he
  | x :: xs, k, h, he => by
    simp only [runG]
    cases hg : g k x () with
    | inl b => exact runG_ind (fun j y t hy => h j y t (.tail _ hy)) he
    | inr t => exact h k x t (.head _) hg
theorem checkT_kind (f d p) : checkT f d p = f0 ∨ (checkT f d p).Kind = 2 := by
  unfold checkT
  split
  · exact .inr rfl
  · refine runG_ind (P := fun F => F = f0 ∨ F.Kind = 2) (fun j l t _ ht => ?_) ?_
    · unfold letG at ht
      split at ht
      · cases ht; exact .inr rfl
      · split at ht
        · cases ht
        · rename_i h; cases ht; exact .inr (partT_kind h)
    · unfold outsT
      refine runG_ind (P := fun F => F = f0 ∨ F.Kind = 2) (fun j l t _ ht => ?_) (.inl rfl)
      unfold outG at ht
      split at ht
      · cases ht
      · rename_i h; cases ht; exact .inr (partT_kind h)
theorem FB_of {f : M_retrospectref17_Field} {a b c : Nat} (hB : B_retrospectref17_Field f) (ha : a ≤ 1000) (hb : b ≤ 100000) (hc : c ≤ 100000)
    (h : f.Lets.length ≤ a ∧ f.Outs.length ≤ a ∧ (∀ l ∈ f.Lets, l.Name.length ≤ 100) ∧ ∀ x ∈ f.Lets.map (·.Code) ++ f.Outs, x.length ≤ b ∧ ∀ y ∈ x, y.N.length ≤ c) : FB (cF f) ∧ ∀ l ∈ (cF f).Lets, l.Name.length ≤ 4611686018427387904 := by
  obtain ⟨⟨_, b2⟩, ⟨_, b4⟩, _⟩ := hB
  obtain ⟨h1, h2, h3, h4⟩ := h
  refine ⟨⟨by simp [cF]; omega, by simp [cF]; omega, fun x hx => ?_⟩, fun l hl => ?_⟩
  · rw [codes_cF] at hx
    obtain ⟨y, hy, rfl⟩ := List.mem_map.1 hx
    obtain ⟨k1, k2⟩ := h4 y hy
    refine ⟨by simp; omega, fun z hz => ?_⟩
    obtain ⟨v, hv, rfl⟩ := List.mem_map.1 hz
    rw [cN_N]
    refine ⟨by have := k2 v hv; omega, ?_⟩
    rcases List.mem_append.1 hy with hm | hm
    · obtain ⟨l, hl, rfl⟩ := List.mem_map.1 hm
      exact ((b2 l hl).2.1.2 v hv).2.2.1.2
    · exact ((b4 y hm).2 v hv).2.2.1.2
  · simp only [cF, List.mem_map] at hl
    obtain ⟨m, hm, rfl⟩ := hl
    rw [cL_name]; have := h3 m hm; omega
/-- CheckFields. -/
theorem law_CheckFields (f : M_retrospectref17_Field) (d p : Int) (hB : B_retrospectref17_Field f) : ∃ n, m_retrospectlaw19_CheckFields n f d p = some true := by
  refine ⟨big, ?_⟩
  unfold m_retrospectlaw19_CheckFields
  have hn : big ≤ big := Nat.le_refl _
  obtain ⟨b, h1, h2⟩ := m_ref17_LongField_ok (parts := 12) (many := 310) (words := 9) hn hB maxLen_le
  rw [show (12 : Int) = ((12 : Nat) : Int) by rfl, show (310 : Int) = ((310 : Nat) : Int) by rfl, show (9 : Int) = ((9 : Nat) : Int) by rfl, h1, sbind]
  cases b with
  | true => rw [bifT, law19_works, sbind]
  | false =>
    obtain ⟨hF, hs⟩ := FB_of hB (by decide) (by decide) (by decide) (h2 rfl)
    rw [bifF, m_ref19_Check_eq hn hF, sbind, jn_eq, m_law17_ToField_eq hn hF, sbind, m_check_Check_eq hn hF hs, sbind, m_law19_Fault_eq _ (checkT_kind _ _ _), sbind, eqb_self, bifT, law19_works, sbind]
/-- CheckNodes. -/
theorem law_CheckNodes (c : List M_retrospectref17_Node) (v : M_A3_i64) (s : List UInt8) (hB : B_S_retrospectref17_Node c) (hs : s.length ≤ maxLen) : ∃ n, m_retrospectlaw19_CheckNodes n c v s = some true := by
  refine ⟨big, ?_⟩
  unfold m_retrospectlaw19_CheckNodes
  have hn : big ≤ big := Nat.le_refl _
  have hM := maxLen_le
  obtain ⟨b, h1, h2⟩ := m_ref17_Long_ok (c := c) (many := 100) (words := 9) hn (by have := hB.1; omega)
  rw [jn_eq, show (100 : Int) = ((100 : Nat) : Int) by rfl, show (9 : Int) = ((9 : Nat) : Int) by rfl, h1, sbind]
  cases b with
  | true => simp only [bifT, law19_works, sbind]
  | false =>
    obtain ⟨k1, k2⟩ := h2 rfl
    simp only [bifF]
    rw [bifd]
    by_cases hl : ((100 : Nat) : Int) < (s.length : Int)
    · rw [if_pos hl, law19_works, sbind]
    · rw [if_neg hl, m_law17_To_eq hn (by omega), sbind]
      have hN : ∀ x ∈ c.map cN, NB x := fun x hx => by
        obtain ⟨y, hy, rfl⟩ := List.mem_map.1 hx
        exact ⟨by rw [cN_N]; have := k2 y hy; omega, by rw [cN_N]; exact (hB.2 y hy).2.2.1.2⟩
      have hloop : ∀ (k : Unit → Option Bool), (∀ u, k u = some true) → (loopM (fun s32 : Int => bif decide (s32 < (c.length : Int)) then
            (getI (c.map cN) s32).bind fun y33 => (m_check_Node big y33 v.a0 v.a1 v.a2).bind fun r35 => (getI c s32).bind fun y37 => (m_retrospectref19_Node big y37 v.a0 v.a1 v.a2).bind fun r39 =>
              bif (r35 != r39) then some (Lp.out (Lp.out false)) else some (Lp.go (wrap64 (s32 + 1)))
          else some (Lp.out (Lp.go ()))) big (0 : Int)).bind (lpK k) = some true := by
        intro k hk
        have e : (true : Bool) = runG (fun _ (_ : M_retrospectref17_Node) (_ : Unit) => (.inl () : Unit ⊕ Bool)) (fun _ => true) c 0 () := by
          have : ∀ (l : List M_retrospectref17_Node) (i : Nat), (true : Bool) = runG (fun _ (_ : M_retrospectref17_Node) (_ : Unit) => (.inl () : Unit ⊕ Bool)) (fun _ => true) l i () := by
            intro l
            induction l with
            | nil => intro i; rfl
            | cons x l ih => intro i; exact ih (i + 1)
          exact this c 0
        rw [e]
        refine loop_lpK (fun _ i => (i : Int)) (fun _ (_ : M_retrospectref17_Node) (_ : Unit) => (.inl () : Unit ⊕ Bool)) (fun _ => ()) (fun _ => true) (fun _ _ => True) c () (fun i x b hx _ => ⟨?_, fun _ _ => trivial⟩) ?_ (fun _ _ => hk _) trivial ?_
        · have hi := lt_of_get hx
          have hx' : (c.map cN)[i]? = some (cN x) := by rw [List.getElem?_map, hx]; rfl
          obtain ⟨g1, g2⟩ := hN (cN x) (List.mem_map_of_mem (mem_of_get hx))
          have g1' := g1
          have g2' := g2
          rw [cN_N] at g1' g2'
          simp only [bifd, if_pos (show (i : Int) < (c.length : Int) by omega), getI_of hx, getI_of hx', sbind, m_check_Node_eq (d := v.a0) (p := v.a1) (l := v.a2) hn (show (cN x).N.length ≤ 1000000000 by omega) g2,
            m_ref19_Node_eq (d := v.a0) (p := v.a1) (l := v.a2) hn (show x.N.length ≤ 1000000000 by omega) g2', bne_self_eq_false, bifF, w1 (show i < 9223372036854775807 by omega)]
          rfl
        · intro b _; rw [bifd, if_neg (by omega)]
        · unfold big; omega
      refine hloop _ (fun u => ?_)
      rw [jn_eq, m_check_Place_eq hn (by simp; omega) hN, sbind, m_ref19_Place_eq hn (by omega) hN, sbind, decide_eq_true rfl, bifT, m_check_Name_eq hn (by omega), sbind, m_ref19_Name_eq hn, sbind, beq_self_eq_true, bifT, law19_works, sbind]
/-! #### More may be -/
theorem runG_place {c : List M_tree_Node} {d p l : Int} : placeT c d p l < 0 ↔ wrongT c < 0 ∧ ∀ x ∈ c, nodeOk x d p l = true := by
  unfold placeT
  have key : ∀ (ys : List M_tree_Node) (k : Nat), (runG (plG d p l (wrongT c)) (fun _ => wrongT c) ys k () < 0 ↔ wrongT c < 0 ∧ ∀ x ∈ ys, nodeOk x d p l = true) := by
    intro ys
    induction ys with
    | nil => intro k; simp [runG]
    | cons y ys ih =>
      intro k
      simp only [runG, plG]
      by_cases h : (k : Int) = wrongT c ∨ nodeOk y d p l = false
      · rw [if_pos h]
        constructor
        · intro h'; have : (k : Int) < 0 := h'; omega
        · rintro ⟨h1, h2⟩
          rcases h with h | h
          · omega
          · rw [h2 y (.head _)] at h; cases h
      · rw [if_neg h]
        simp only [not_or] at h
        have := ih (k + 1)
        show runG _ _ _ _ _ < 0 ↔ _
        rw [this]
        simp only [List.mem_cons, forall_eq_or_imp]
        have hy : nodeOk y d p l = true := by simpa using h.2
        simp [hy]
  exact key c 0
theorem nodeOk_mono {x : M_tree_Node} {d p l d' p' : Int} (hd : d ≤ d') (hp : p ≤ p') (h : nodeOk x d p l = true) : nodeOk x d' p' l = true := by
  unfold nodeOk at *
  by_cases h1 : x.Op = 1
  · rw [if_pos h1] at h ⊢; exact h
  · rw [if_neg h1] at h ⊢
    by_cases h0 : 0 < x.N.length
    · rw [if_pos h0] at h; cases h
    · rw [if_neg h0] at h ⊢
      grind
theorem partT_mono {c : List M_tree_Node} {n n' d p l d' p' : Int} (hd : d ≤ d') (hp : p ≤ p') (h : partT c n d p l = f0) : partT c n' d' p' l = f0 := by
  rw [partT_zero] at h ⊢
  rw [runG_place] at h ⊢
  exact ⟨⟨h.1.1, fun x hx => nodeOk_mono hd hp (h.1.2 x hx)⟩, h.2⟩
theorem checkT_zero {f d p} : checkT f d p = f0 ↔ wholeT f d p = true ∧ (∀ (i : Nat) l, f.Lets[i]? = some l → nameOk l.Name = true ∧ twiceT f.Lets i = false ∧ partT l.Code ((i : Int) + 1) d p i = f0) ∧ ∀ (i : Nat) c, f.Outs[i]? = some c → partT c ((f.Lets.length : Int) + i + 1) d p f.Lets.length = f0 := by
  unfold checkT
  cases hw : wholeT f d p with
  | false => simp [f0]
  | true =>
    simp only [Bool.true_eq_false, if_false, true_and]
    rw [runG_unit (v := f0)]
    · refine and_congr ?_ ?_
      · refine forall_congr' fun j => forall_congr' fun l => imp_congr_right fun hl => ?_
        rw [Nat.zero_add]
        unfold letG
        by_cases h : nameOk l.Name = false ∨ twiceT f.Lets j = true
        · rw [if_pos h]
          constructor
          · intro h'; cases h'
          · rintro ⟨h1, h2, _⟩; rcases h with h | h
            · rw [h1] at h; cases h
            · rw [h2] at h; cases h
        · rw [if_neg h]
          simp only [not_or] at h
          by_cases hp : partT l.Code ((j : Int) + 1) d p j = f0
          · rw [if_pos hp]; simp [hp]; exact ⟨by simpa using h.1, by simpa using h.2⟩
          · rw [if_neg hp]; simp [hp]
      · unfold outsT
        rw [runG_unit (v := f0)]
        · simp only [and_true]
          refine forall_congr' fun j => forall_congr' fun c => imp_congr_right fun hc => ?_
          rw [Nat.zero_add]
          unfold outG
          by_cases hp : partT c ((f.Lets.length : Int) + j + 1) d p f.Lets.length = f0
          · rw [if_pos hp]; simp [hp]
          · rw [if_neg hp]; simp [hp]
        · intro j c t _ ht
          unfold outG at ht
          split at ht
          · cases ht
          · rename_i h; cases ht; exact h
    · intro j l t _ ht
      unfold letG at ht
      split at ht
      · cases ht; simp [f0]
      · split at ht
        · cases ht
        · rename_i h; cases ht; exact h
def stN (d : Int) : M_tree_Node := ⟨3, d, []⟩
def wideT (f : M_tree_Field) : M_tree_Field := ⟨f.Lets, f.Outs ++ [[stN (f.Outs.length : Int)]]⟩
theorem size_wide (f) : sizeT (wideT f) = sizeT f + 1 := by
  unfold sizeT codesT wideT; simp [List.foldl_append]
theorem part_st (n p l d : Int) (hd : 0 ≤ d) : partT [stN d] n (d + 1) p l = f0 := by
  rw [partT_zero, runG_place]
  have hw : wrongT [stN d] = -1 := by simp [wrongT, runG, wrG, stN, ar]
  refine ⟨⟨by omega, fun x hx => ?_⟩, ?_⟩
  · rw [List.mem_singleton.1 hx]; unfold nodeOk stN; simp; omega
  · unfold depthT; rw [if_pos (by omega)]; simp [stk, stk1, stN, ar]
theorem check_wide {f : M_tree_Field} {p : Int} (h : checkT f (f.Outs.length : Int) p = f0) : checkT (wideT f) ((f.Outs.length : Int) + 1) p = f0 ↔ (f.Outs.length : Int) < 6 ∧ sizeT f < 300 := by
  rw [checkT_zero] at h ⊢
  obtain ⟨hw, h1, h2⟩ := h
  have hl : (wideT f).Lets = f.Lets := rfl
  have ho : (wideT f).Outs = f.Outs ++ [[stN (f.Outs.length : Int)]] := rfl
  rw [hl, ho]
  constructor
  · rintro ⟨h, _⟩
    simp only [wholeT, decide_eq_true_eq, size_wide] at h
    omega
  · rintro ⟨g1, g2⟩
    refine ⟨?_, fun i l hi => ?_, fun i c hc => ?_⟩
    · simp only [wholeT, decide_eq_true_eq, size_wide, hl, ho] at hw ⊢
      simp only [List.length_append, List.length_singleton]; omega
    · obtain ⟨k1, k2, k3⟩ := h1 i l hi
      exact ⟨k1, k2, partT_mono (by omega) (by omega) k3⟩
    · by_cases hi : i < f.Outs.length
      · rw [List.getElem?_append_left hi] at hc
        exact partT_mono (by omega) (by omega) (h2 i c hc)
      · rw [List.getElem?_append_right (by omega)] at hc
        have : i - f.Outs.length = 0 := by
          rcases Nat.eq_zero_or_pos (i - f.Outs.length) with h | h
          · exact h
          · rw [List.getElem?_eq_none (by simp; omega)] at hc; cases hc
        rw [this] at hc; simp at hc; subst hc
        exact part_st _ _ _ _ (by omega)
theorem check_more {f : M_tree_Field} {d p p' : Int} (hp : p ≤ p') (hp' : p' ≤ 6) (h : checkT f d p = f0) : checkT f d p' = f0 := by
  rw [checkT_zero] at h ⊢
  obtain ⟨hw, h1, h2⟩ := h
  refine ⟨?_, fun i l hi => ?_, fun i c hc => partT_mono (Int.le_refl _) hp (h2 i c hc)⟩
  · simp only [wholeT, decide_eq_true_eq] at hw ⊢; omega
  · obtain ⟨k1, k2, k3⟩ := h1 i l hi
    exact ⟨k1, k2, partT_mono (Int.le_refl _) hp k3⟩
theorem check_parts {f : M_tree_Field} {d p : Int} (h : checkT f d p = f0) : ∀ c ∈ codesT f, wrongT c < 0 ∧ depthT c ≤ 40 := by
  rw [checkT_zero] at h
  obtain ⟨_, h1, h2⟩ := h
  intro c hc
  unfold codesT at hc
  have key : ∀ n l, partT c n d p l = f0 → wrongT c < 0 ∧ depthT c ≤ 40 := fun n l hp => by
    rw [partT_zero, runG_place] at hp; exact ⟨hp.1.1, hp.2⟩
  rcases List.mem_append.1 hc with hm | hm
  · obtain ⟨l, hl, rfl⟩ := List.mem_map.1 hm
    obtain ⟨i, hi, rfl⟩ := List.mem_iff_getElem.1 hl
    exact key _ _ (h1 i _ (List.getElem?_eq_getElem hi)).2.2
  · obtain ⟨i, hi, rfl⟩ := List.mem_iff_getElem.1 hm
    exact key _ _ (h2 i _ (List.getElem?_eq_getElem hi))
/-- CheckMore. -/
theorem law_CheckMore (f : M_retrospectref17_Field) (p m : Int) (hB : B_retrospectref17_Field f) (hp : -9223372036854775808 ≤ p ∧ p ≤ 9223372036854775807) : ∃ n, m_retrospectlaw19_CheckMore n f p m = some true := by
  refine ⟨big, ?_⟩
  unfold m_retrospectlaw19_CheckMore
  have hn : big ≤ big := Nat.le_refl _
  obtain ⟨b, h1, h2⟩ := m_ref17_LongField_ok (parts := 6) (many := 60) (words := 9) hn hB maxLen_le
  rw [jn_eq]
  have h1' : m_retrospectref17_LongField big f 6 60 9 = some b := h1
  rw [h1', sbind]
  cases b with
  | true => simp only [bifT, law19_works, sbind]
  | false =>
    simp only [bifF]
    rw [bifd]
    by_cases hm0 : m < 0
    · rw [if_pos hm0]; simp only [bifT, law19_works, sbind]
    rw [if_neg hm0, bifd]
    by_cases hm6 : 6 < m
    · rw [if_pos hm6, law19_works, sbind]
    rw [if_neg hm6]
    obtain ⟨hF, hs⟩ := FB_of hB (by decide) (by decide) (by decide) (h2 rfl)
    obtain ⟨q1, q2, _⟩ := h2 rfl
    rw [m_law17_ToField_eq hn hF, sbind, m_check_Check_eq hn hF hs, sbind, eqb_dec, bifnd]
    generalize hg : cF f = g at *
    have hOl : g.Outs.length = f.Outs.length := by rw [← hg]; simp [cF]
    by_cases hc : checkT g (g.Outs.length : Int) p = (⟨0, 0, 0, 0⟩ : M_api_Fault)
    · have hc' : checkT g (g.Outs.length : Int) p = f0 := hc
      rw [if_pos hc, m_tree_Codes_eq hF, sbind]
      have hcl := codesT_len hF
      have hpr := check_parts hc'
      have hp6 : 0 ≤ p ∧ p ≤ 6 := by
        have := (checkT_zero.1 hc').1; simp only [wholeT, decide_eq_true_eq] at this; omega
      have hloop : ∀ (k : Unit → Option Bool), (∀ u, k u = some true) → (loopM (fun s60 : Int => bif decide (s60 < ((codesT g).length : Int)) then
            jn (fun (j69 : Bool → Option (Lp Int (Lp Unit Bool))) => (getI (codesT g) s60).bind fun y72 => (m_tree_Right y72).bind fun r74 => bif !r74 then j69 true else (getI (codesT g) s60).bind fun y76 => (m_tree_Depth big y76).bind fun r78 => j69 (decide ((40 : Int) < r78)))
              (fun s71 => bif s71 then some (Lp.out (Lp.out false)) else some (Lp.go (wrap64 (s60 + 1))))
          else some (Lp.out (Lp.go ()))) big (0 : Int)).bind (lpK k) = some true := by
        intro k hk
        have e : (true : Bool) = runG (fun _ (_ : List M_tree_Node) (_ : Unit) => (.inl () : Unit ⊕ Bool)) (fun _ => true) (codesT g) 0 () := by
          have : ∀ (l : List (List M_tree_Node)) (i : Nat), (true : Bool) = runG (fun _ (_ : List M_tree_Node) (_ : Unit) => (.inl () : Unit ⊕ Bool)) (fun _ => true) l i () := by
            intro l
            induction l with
            | nil => intro i; rfl
            | cons x l ih => intro i; exact ih (i + 1)
          exact this _ 0
        rw [e]
        refine loop_lpK (fun _ i => (i : Int)) (fun _ (_ : List M_tree_Node) (_ : Unit) => (.inl () : Unit ⊕ Bool)) (fun _ => ()) (fun _ => true) (fun _ _ => True) (codesT g) () (fun i x b hx _ => ⟨?_, fun _ _ => trivial⟩) ?_ (fun _ _ => hk _) trivial ?_
        · have hi := lt_of_get hx
          have hx2 := hF.2.2 x (mem_of_get hx)
          obtain ⟨g1, g2⟩ := hpr x (mem_of_get hx)
          simp only [bifd, if_pos (show (i : Int) < ((codesT g).length : Int) by omega), getI_of hx, sbind, jn_eq, m_tree_Right_eq (show x.length ≤ 4611686018427387904 by omega), m_tree_Depth_eq hn (show x.length ≤ 1000000000 by omega), decide_eq_true g1, Bool.not_true, bifF,
            if_neg (show ¬ 40 < depthT x by omega), w1 (show i < 9223372036854775807 by omega)]
          rfl
        · intro b _; rw [bifd, if_neg (by omega)]
        · unfold big; omega
      refine hloop _ (fun u => ?_)
      rw [jn_eq, bifd, w64 (by omega) (by omega)]
      have hmid : (if p + m ≤ 6 then (m_check_Check big g (g.Outs.length : Int) (p + m)).bind fun r85 => some (!eqb_api_Fault r85 (⟨0, 0, 0, 0⟩ : M_api_Fault)) else some false) = some false := by
        by_cases h6 : p + m ≤ 6
        · rw [if_pos h6, m_check_Check_eq hn hF hs, sbind, check_more (by omega) h6 hc']; rfl
        · rw [if_neg h6]
      have hW : FB (wideT g) := by
        obtain ⟨a1, a2, a3⟩ := hF
        refine ⟨a1, by show (g.Outs ++ [[stN (g.Outs.length : Int)]]).length ≤ 1000; simp; omega, fun c hc => ?_⟩
        have : codesT (wideT g) = codesT g ++ [[stN (g.Outs.length : Int)]] := by unfold codesT wideT; simp
        rw [this] at hc
        rcases List.mem_append.1 hc with h | h
        · exact a3 c h
        · rw [List.mem_singleton.1 h]
          refine ⟨by simp, fun x hx => ?_⟩
          rw [List.mem_singleton.1 hx]; exact ⟨by simp [stN], fun _ h => by cases h⟩
      have hend : ∀ bq : Bool, bq = decide ((g.Outs.length : Int) < 6 ∧ sizeT g < 300) →
          (jn (fun (j109 : Bool → Option Bool) => (m_check_Check big (⟨g.Lets, g.Outs ++ [[(⟨3, (g.Outs.length : Int), []⟩ : M_tree_Node)]]⟩ : M_tree_Field) (wrap64 ((g.Outs.length : Int) + 1)) p).bind fun r112 =>
            bif (eqb_api_Fault r112 (⟨0, 0, 0, 0⟩ : M_api_Fault) == bq) then (m_retrospectlaw19_works big).bind fun r114 => j109 r114 else j109 false) (fun s111 => some s111)) = some true := by
        intro bq hbq
        have hcw := m_check_Check_eq (f := wideT g) (d := (g.Outs.length : Int) + 1) (p := p) hn hW hs
        unfold wideT stN at hcw
        rw [jn_eq, w64 (by omega) (by omega), hcw, sbind]
        have : (eqb_api_Fault (checkT (wideT g) ((g.Outs.length : Int) + 1) p) (⟨0, 0, 0, 0⟩ : M_api_Fault) == bq) = true := by
          rw [beq_iff_eq, hbq, Bool.eq_iff_iff, eqb_iff, decide_eq_true_eq]
          exact check_wide hc'
        unfold wideT stN at this
        rw [this, bifT, law19_works, sbind]
      by_cases h6 : p + m ≤ 6
      · rw [if_pos h6] at hmid ⊢
        rw [m_check_Check_eq hn hF hs, sbind] at hmid ⊢
        rw [show (eqb_api_Fault (checkT g (g.Outs.length : Int) (p + m)) (⟨0, 0, 0, 0⟩ : M_api_Fault)) = true by simpa using hmid]
        simp only [Bool.not_true, bifF]
        rw [appM_ok (by simp; omega) (by simp; omega), sbind, appM_ok (by simp; omega) (by simp; omega), sbind, sbind, jn_eq, bifd, List.nil_append]
        by_cases hd6 : (g.Outs.length : Int) < 6
        · rw [if_pos hd6, m_tree_Size_eq hF, sbind]
          exact hend _ (by rw [Bool.eq_iff_iff]; simp; omega)
        · rw [if_neg hd6]
          exact hend _ (by rw [Bool.eq_iff_iff]; simp; omega)
      · rw [if_neg h6]
        simp only [bifF]
        rw [appM_ok (by simp; omega) (by simp; omega), sbind, appM_ok (by simp; omega) (by simp; omega), sbind, sbind, jn_eq, bifd, List.nil_append]
        by_cases hd6 : (g.Outs.length : Int) < 6
        · rw [if_pos hd6, m_tree_Size_eq hF, sbind]
          exact hend _ (by rw [Bool.eq_iff_iff]; simp; omega)
        · rw [if_neg hd6]
          exact hend _ (by rw [Bool.eq_iff_iff]; simp; omega)
    · rw [if_neg hc, law19_works, sbind]
end Go.Proofs.YtpomhkkhdojpiaaDoor
