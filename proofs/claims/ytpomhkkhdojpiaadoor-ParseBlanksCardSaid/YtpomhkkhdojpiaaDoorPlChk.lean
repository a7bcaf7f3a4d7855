import Derived.Test.YtpomhkkhdojpiaaDoorPlScan
namespace Go.Proofs.YtpomhkkhdojpiaaDoor
open Go Go.RowKit
/-! ### What may be -/
theorem trimZ_len_eq : ∀ {a : List Nat}, (trimZ a).length = a.length ↔ trimZ a = a
  | [] => by simp [trimZ]
  | x :: a => by
    have := trimZ_length a
    simp only [trimZ]
    split
    · simp
    · simp only [List.length_cons, Nat.add_right_cancel_iff, List.cons.injEq, true_and]; exact trimZ_len_eq
def numOk (N : List Nat) : Bool := decide (trimZ N = N) && decide ((dec (val N)).length ≤ 60)
def nodeOk (x : M_tree_Node) (d p l : Int) : Bool :=
  if x.Op = 1 then decide (x.I = 0) && numOk x.N
  else if 0 < x.N.length then false
  else if x.Op = 3 then decide (0 ≤ x.I ∧ x.I < d)
  else if x.Op = 4 then decide (0 ≤ x.I ∧ x.I < p)
  else if x.Op = 5 then decide (0 ≤ x.I ∧ x.I < l)
  else if x.Op = 11 then decide (-8 ≤ x.I ∧ x.I ≤ 8)
  else decide (x.I = 0) && decide (0 ≤ ar x.Op)
theorem m_check_number_eq {n : Nat} {N : List Nat} (hn : big ≤ n) (hl : N.length ≤ 1000000000) (hw : Wd N) : m_check_number n N = some (numOk N) := by
  unfold m_check_number numOk
  rw [jn_eq, m_nat_Norm_eq hn (by omega), sbind, bifd]
  unfold m_digits_Len
  rw [m_digits_Text_eq hn hl hw, sbind, sbind]
  by_cases h : trimZ N = N
  · rw [if_pos (by rw [h]), decide_eq_true h, Bool.true_and]
    simp; omega
  · rw [if_neg (fun h' => h (trimZ_len_eq.1 (by omega))), decide_eq_false h, Bool.false_and]
theorem m_check_below_eq (i m : Int) : m_check_below i m = some (decide (0 ≤ i ∧ i < m)) := by
  unfold m_check_below; simp only [jn_eq, bifd]; grind
theorem m_check_Node_eq {n : Nat} {x : M_tree_Node} {d p l : Int} (hn : big ≤ n) (hl : x.N.length ≤ 1000000000) (hw : Wd x.N) : m_check_Node n x d p l = some (nodeOk x d p l) := by
  unfold m_check_Node nodeOk
  simp only [jn_eq, m_check_number_eq hn hl hw, m_check_below_eq, m_tree_Arity_eq, sbind, bifd, bifnd]
  by_cases h1 : x.Op = 1
  · simp only [if_pos h1, bifF]
    by_cases h2 : x.I = 0
    · simp [h2]
    · simp [h2]
  · simp only [if_neg h1]
    by_cases h0 : 0 < x.N.length
    · rw [if_pos (by omega), if_pos h0]
    · rw [if_neg (by omega), if_neg h0]
      by_cases h3 : x.Op = 3
      · rw [if_pos h3, if_pos h3]
      · rw [if_neg h3, if_neg h3]
        by_cases h4 : x.Op = 4
        · rw [if_pos h4, if_pos h4]
        · rw [if_neg h4, if_neg h4]
          by_cases h5 : x.Op = 5
          · rw [if_pos h5, if_pos h5]
          · rw [if_neg h5, if_neg h5]
            by_cases h6 : x.Op = 11
            · rw [if_pos h6, if_pos h6]; grind
            · rw [if_neg h6, if_neg h6]; grind
theorem m_ref19_Node_eq {n : Nat} {x : M_retrospectref17_Node} {d p l : Int} (hn : big ≤ n) (hl : x.N.length ≤ 1000000000) (hw : Wd x.N) : m_retrospectref19_Node n x d p l = some (nodeOk (cN x) d p l) := by
  unfold m_retrospectref19_Node nodeOk numOk
  have ht := trimZ_length x.N
  simp only [cN_Op, cN_I, cN_N, jn_eq, m_ref02_Norm_eq hn (show x.N.length ≤ 35184372088832 by omega), m_ref02_Same_eq (n := n) (a := trimZ x.N) (b := x.N) hn (by omega), m_ref07_Text_eq hn hl hw, sbind, bifd]
  by_cases h1 : x.Op = 1
  · simp only [if_pos h1]
    by_cases h2 : x.I = 0
    · simp only [if_pos h2, h2, decide_true, Bool.true_and]
      by_cases h3 : trimZ x.N = x.N
      · rw [if_pos h3, decide_eq_true h3, Bool.true_and]; simp; omega
      · rw [if_neg h3, decide_eq_false h3, Bool.false_and]; simp
    · simp [h2]
  · simp only [if_neg h1]
    by_cases h0 : 0 < x.N.length
    · rw [if_pos (by omega), if_pos h0, bifT]
    · rw [if_neg (by omega), if_neg h0]
      by_cases hr : x.Op < 1
      · rw [if_pos hr, bifT, if_neg (by omega), if_neg (by omega), if_neg (by omega), if_neg (by omega)]
        have : ar x.Op = -1 := by unfold ar; grind
        simp [this]
      · rw [if_neg hr]
        by_cases hr2 : 11 < x.Op
        · rw [if_pos hr2, if_neg (by omega), if_neg (by omega), if_neg (by omega), if_neg (by omega)]
          have : ar x.Op = -1 := by unfold ar; grind
          simp [this]
        · rw [if_neg hr2]
          have : 0 ≤ ar x.Op := by unfold ar; grind
          by_cases h3 : x.Op = 3
          · rw [if_pos h3, if_pos h3]; grind
          · rw [if_neg h3, if_neg h3]
            by_cases h4 : x.Op = 4
            · rw [if_pos h4, if_pos h4]; grind
            · rw [if_neg h4, if_neg h4]
              by_cases h5 : x.Op = 5
              · rw [if_pos h5, if_pos h5]; grind
              · rw [if_neg h5, if_neg h5]
                by_cases h6 : x.Op = 11
                · rw [if_pos h6, if_pos h6]; grind
                · rw [if_neg h6, if_neg h6]; simp [this]
def plG (d p l w : Int) (i : Nat) (x : M_tree_Node) (_ : Unit) : Unit ⊕ Int := if (i : Int) = w ∨ nodeOk x d p l = false then .inr (i : Int) else .inl ()
def placeT (c : List M_tree_Node) (d p l : Int) : Int := runG (plG d p l (wrongT c)) (fun _ => wrongT c) c 0 ()
def NB (x : M_tree_Node) : Prop := x.N.length ≤ 100000 ∧ Wd x.N
theorem m_check_Place_eq {n : Nat} {c : List M_tree_Node} {d p l : Int} (hn : big ≤ n) (hc : c.length ≤ 1000000000) (hN : ∀ x ∈ c, NB x) : m_check_Place n c d p l = some (placeT c d p l) := by
  unfold m_check_Place placeT
  rw [m_tree_Wrong_eq (by omega), sbind]
  refine range_runG (plG d p l (wrongT c)) _ (fun _ _ => True) c (fun i x _ hx _ => ⟨?_, fun _ _ => trivial⟩) trivial (fun _ _ => rfl)
  obtain ⟨h1, h2⟩ := hN x (mem_of_get hx)
  simp only [jn_eq, m_check_Node_eq (d := d) (p := p) (l := l) hn (show x.N.length ≤ 1000000000 by omega) h2, sbind, bifd, plG]
  by_cases h : (i : Int) = wrongT c
  · simp [h, toLq]
  · cases nodeOk x d p l <;> simp [h, toLq]
theorem m_ref19_Place_eq {n : Nat} {c : List M_retrospectref17_Node} {d p l : Int} (hn : big ≤ n) (hc : c.length ≤ 1000000000) (hN : ∀ x ∈ c.map cN, NB x) : m_retrospectref19_Place n c d p l = some (placeT (c.map cN) d p l) := by
  unfold m_retrospectref19_Place placeT
  rw [m_ref17_Wrong_eq hn (by omega), sbind, runG_mapL]
  have hn' := hn
  unfold big at hn
  refine loop_lpK (fun _ i => (i : Int)) (fun i x b => plG d p l (wrongT (c.map cN)) i (cN x) b) (fun _ => ()) _ (fun _ _ => True) c () (fun i x b hx _ => ⟨?_, fun _ _ => trivial⟩) (fun b _ => by simp [bifd]) (fun b _ => rfl) trivial (by omega)
  have hi := lt_of_get hx
  obtain ⟨h1, h2⟩ := hN (cN x) (List.mem_map_of_mem (mem_of_get hx))
  rw [cN_N] at h1 h2
  simp only [bifd, if_pos (show (i : Int) < (c.length : Int) by omega), jn_eq, getI_of hx, m_ref19_Node_eq (d := d) (p := p) (l := l) hn' (show x.N.length ≤ 1000000000 by omega) h2, sbind, plG, w1 (show i < 9223372036854775807 by omega)]
  by_cases h : (i : Int) = wrongT (c.map cN)
  · simp [h, toLpp]
  · cases nodeOk (cN x) d p l <;> simp [h, toLpp]
/-! #### Names -/
def nameOk (s : List UInt8) : Bool := wdB 2 s && (decide (s ≠ [116]) && (decide (s ≠ [121]) && (decide (s ≠ [112]) && decide (s ≠ [108, 101, 116]))))
theorem m_check_Name_eq {n : Nat} {s : List UInt8} (hn : big ≤ n) (hs : s.length ≤ 4611686018427387904) : m_check_Name n s = some (nameOk s) := by
  unfold m_check_Name nameOk
  simp only [jn_eq, bifd, m_lex_Right_eq (w := ⟨2, s, 0⟩) hn hs, sbind]
  by_cases h1 : s = [116]
  · simp [h1]
  · by_cases h2 : s = [121]
    · simp [h2]
    · by_cases h3 : s = [112]
      · simp [h3]
      · by_cases h4 : s = [108, 101, 116]
        · simp [h4]
        · simp [h1, h2, h3, h4]
theorem m_ref19_Name_eq {n : Nat} {s : List UInt8} (hn : big ≤ n) : m_retrospectref19_Name n s = some (nameOk s) := by
  unfold m_retrospectref19_Name nameOk
  simp only [jn_eq, bifd, bifnd, m_ref16_Right_eq (w := ⟨2, s, 0⟩) hn, sbind]
  cases wdB 2 s with
  | false => simp
  | true =>
    by_cases h1 : s = [116]
    · simp [h1]
    · by_cases h2 : s = [121]
      · simp [h2]
      · by_cases h3 : s = [112]
        · simp [h3]
        · by_cases h4 : s = [108, 101, 116]
          · simp [h4]
          · simp [h1, h2, h3, h4]
def twiceT (L : List M_tree_Let) (i : Nat) : Bool := (L.take i).any (fun l => decide (some l.Name = L[i]?.map (·.Name)))
theorem m_check_twice_eq {n : Nat} {L : List M_tree_Let} {i : Nat} (hn : big ≤ n) (hi : i < L.length) (hL : L.length ≤ 1000000000) : m_check_twice n L (i : Int) = some (twiceT L i) := by
  unfold m_check_twice twiceT
  unfold big at hn
  have hy : L[i]? = some L[i] := List.getElem?_eq_getElem hi
  have e : ((L.take i).any (fun l => decide (some l.Name = L[i]?.map (·.Name)))) = runG (τ := Bool) (fun _ (l : M_tree_Let) (_ : Unit) => if l.Name = (L[i]).Name then .inr true else .inl ()) (fun _ => false) (L.take i) 0 () := by
    have : ∀ (l : List M_tree_Let) (k : Nat), l.any (fun l => decide (some l.Name = L[i]?.map (·.Name))) = runG (τ := Bool) (fun _ (l : M_tree_Let) (_ : Unit) => if l.Name = (L[i]).Name then .inr true else .inl ()) (fun _ => false) l k () := by
      intro l
      induction l with
      | nil => intro k; rfl
      | cons x l ih =>
        intro k
        rw [hy] at ih ⊢
        simp only [List.any_cons, runG, Option.map_some, Option.some.injEq]
        by_cases h : x.Name = (L[i]).Name
        · simp [h]
        · simp only [decide_eq_false h, if_neg h, Bool.false_or]
          have := ih (k + 1)
          simpa using this
    exact this _ 0
  rw [e]
  refine loop_lpK (fun _ j => (j : Int)) (fun _ (l : M_tree_Let) (_ : Unit) => if l.Name = (L[i]).Name then .inr true else .inl ()) (fun _ => ()) _ (fun _ _ => True) (L.take i) () (fun j x b hx _ => ⟨?_, fun _ _ => trivial⟩) (fun b _ => by rw [bifd, if_neg (by simp; omega)]) (fun b _ => rfl) trivial (by simp; omega)
  have hj := lt_of_get hx
  have hj' : j < i := by simp at hj; omega
  have hx' : L[j]? = some x := by rw [List.getElem?_take] at hx; rw [if_pos hj'] at hx; exact hx
  simp only [bifd, if_pos (show (j : Int) < (i : Int) by omega), getI_of hx', getI_of hy, sbind, w1 (show j < 9223372036854775807 by omega)]
  by_cases h : x.Name = (L[i]).Name
  · rw [if_pos h, if_pos h]; rfl
  · rw [if_neg h, if_neg h]; rfl
/-! #### Fields -/
def partT (c : List M_tree_Node) (num d p l : Int) : M_api_Fault :=
  if 0 ≤ placeT c d p l then ⟨2, num, 0, placeT c d p l⟩ else if 40 < depthT c then ⟨2, num, 0, (c.length : Int)⟩ else ⟨0, 0, 0, 0⟩
theorem m_check_part_eq {n : Nat} {c : List M_tree_Node} {num d p l : Int} (hn : big ≤ n) (hc : c.length ≤ 1000000000) (hN : ∀ x ∈ c, NB x) : m_check_part n c num d p l = some (partT c num d p l) := by
  unfold m_check_part partT
  rw [m_check_Place_eq hn hc hN, sbind]
  simp only [jn_eq, m_tree_Depth_eq hn hc, sbind, bifd]
  grind
def wholeT (f : M_tree_Field) (d p : Int) : Bool := decide (1 ≤ d ∧ d ≤ 6 ∧ 0 ≤ p ∧ p ≤ 6 ∧ (f.Outs.length : Int) = d ∧ f.Lets.length ≤ 10 ∧ sizeT f ≤ 300)
theorem m_check_whole_eq {f : M_tree_Field} {d p : Int} (h : FB f) : m_check_whole f d p = some (wholeT f d p) := by
  unfold m_check_whole wholeT
  simp only [jn_eq, m_tree_Size_eq h, sbind, bifd]
  grind
def f0 : M_api_Fault := ⟨0, 0, 0, 0⟩
theorem eqb_iff (x y : M_api_Fault) : eqb_api_Fault x y = true ↔ x = y := by
  cases x; cases y; simp [eqb_api_Fault]
theorem eqb_dec (x y : M_api_Fault) [Decidable (x = y)] : eqb_api_Fault x y = decide (x = y) := by
  rw [Bool.eq_iff_iff, eqb_iff, decide_eq_true_eq]
instance : DecidableEq M_api_Fault := fun x y => if h : eqb_api_Fault x y = true then isTrue ((eqb_iff x y).1 h) else isFalse (fun e => h ((eqb_iff x y).2 e))
theorem partT_zero (c num d p l) : partT c num d p l = f0 ↔ placeT c d p l < 0 ∧ depthT c ≤ 40 := by
  unfold partT f0
  by_cases h : 0 ≤ placeT c d p l
  · rw [if_pos h]; simp; omega
  · rw [if_neg h]
    by_cases h2 : 40 < depthT c
    · rw [if_pos h2]; simp; omega
    · rw [if_neg h2]; simp; omega
def letG (L : List M_tree_Let) (d p : Int) (i : Nat) (l : M_tree_Let) (_ : Unit) : Unit ⊕ M_api_Fault :=
  if nameOk l.Name = false ∨ twiceT L i = true then .inr ⟨2, (i : Int) + 1, 1, 0⟩ else if partT l.Code ((i : Int) + 1) d p i = f0 then .inl () else .inr (partT l.Code ((i : Int) + 1) d p i)
def outG (k : Nat) (d p : Int) (i : Nat) (c : List M_tree_Node) (_ : Unit) : Unit ⊕ M_api_Fault :=
  if partT c ((k : Int) + i + 1) d p k = f0 then .inl () else .inr (partT c ((k : Int) + i + 1) d p k)
def outsT (f : M_tree_Field) (d p : Int) : M_api_Fault := runG (outG f.Lets.length d p) (fun _ => f0) f.Outs 0 ()
def checkT (f : M_tree_Field) (d p : Int) : M_api_Fault :=
  if wholeT f d p = false then ⟨2, 0, 0, 0⟩ else runG (letG f.Lets d p) (fun _ => outsT f d p) f.Lets 0 ()
theorem FB_let {f : M_tree_Field} (h : FB f) {l : M_tree_Let} (hl : l ∈ f.Lets) : l.Code.length ≤ 1000000000 ∧ ∀ x ∈ l.Code, NB x := by
  have := h.2.2 l.Code (List.mem_append_left _ (List.mem_map_of_mem hl))
  exact ⟨by omega, this.2⟩
theorem FB_out {f : M_tree_Field} (h : FB f) {c : List M_tree_Node} (hc : c ∈ f.Outs) : c.length ≤ 1000000000 ∧ ∀ x ∈ c, NB x := by
  have := h.2.2 c (List.mem_append_right _ hc)
  exact ⟨by omega, this.2⟩
theorem m_check_Check_eq {n : Nat} {f : M_tree_Field} {d p : Int} (hn : big ≤ n) (h : FB f) (hs : ∀ l ∈ f.Lets, l.Name.length ≤ 4611686018427387904) : m_check_Check n f d p = some (checkT f d p) := by
  unfold m_check_Check checkT
  rw [m_check_whole_eq h, sbind]
  cases wholeT f d p with
  | false => rfl
  | true =>
    simp only [Bool.not_true, bifF, Bool.true_eq_false, if_false]
    have h1 := h.1
    have h2 := h.2.1
    refine range_runG (letG f.Lets d p) _ (fun _ _ => True) f.Lets (fun i l _ hx _ => ⟨?_, fun _ _ => trivial⟩) trivial (fun _ _ => ?_)
    · have hi := lt_of_get hx
      obtain ⟨g1, g2⟩ := FB_let h (mem_of_get hx)
      simp only [jn_eq, m_check_Name_eq hn (hs l (mem_of_get hx)), m_check_twice_eq (L := f.Lets) hn hi (by omega), sbind, w64 (show -9223372036854775808 ≤ (i : Int) + 1 by omega) (show (i : Int) + 1 ≤ 9223372036854775807 by omega), m_check_part_eq (num := (i : Int) + 1) (d := d) (p := p) (l := (i : Int)) hn g1 g2, eqb_dec, letG]
      cases nameOk l.Name with
      | false => simp [toLq]
      | true =>
        cases twiceT f.Lets i with
        | true => simp [toLq]
        | false =>
          by_cases hp : partT l.Code ((i : Int) + 1) d p i = f0
          · have hp' : partT l.Code ((i : Int) + 1) d p i = (⟨0, 0, 0, 0⟩ : M_api_Fault) := hp
            simp [hp, hp', toLq, f0]
          · have hp' : ¬ partT l.Code ((i : Int) + 1) d p i = (⟨0, 0, 0, 0⟩ : M_api_Fault) := hp
            simp [hp, hp', toLq]
    · unfold outsT
      refine range_runG (outG f.Lets.length d p) _ (fun _ _ => True) f.Outs (fun i c _ hx _ => ⟨?_, fun _ _ => trivial⟩) trivial (fun _ _ => rfl)
      have hi := lt_of_get hx
      obtain ⟨g1, g2⟩ := FB_out h (mem_of_get hx)
      rw [w64 (x := (f.Lets.length : Int) + i) (by omega) (by omega), w64 (by omega) (by omega), m_check_part_eq hn g1 g2, sbind, eqb_dec]
      unfold outG
      by_cases hp : partT c ((f.Lets.length : Int) + i + 1) d p f.Lets.length = f0
      · have hp' : partT c ((f.Lets.length : Int) + i + 1) d p f.Lets.length = (⟨0, 0, 0, 0⟩ : M_api_Fault) := hp
        simp [hp, hp', toLq, f0]
      · have hp' : ¬ partT c ((f.Lets.length : Int) + i + 1) d p f.Lets.length = (⟨0, 0, 0, 0⟩ : M_api_Fault) := hp
        simp [hp, hp', toLq]
end Go.Proofs.YtpomhkkhdojpiaaDoor
