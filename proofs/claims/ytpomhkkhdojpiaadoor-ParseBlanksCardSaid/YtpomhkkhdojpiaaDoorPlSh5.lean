import Derived.Test.YtpomhkkhdojpiaaDoorPlSh4
import Derived.Test.YtpomhkkhdojpiaaDoorPlLp
import Derived.Lib.Join
namespace Go.Proofs.YtpomhkkhdojpiaaDoor
open Go Go.RowKit
/-! ### Fields as texts -/
noncomputable def tr (c : List M_tree_Node) : Ex := if h : wrongT c < 0 then Classical.choose (tree_of h) else .lf ⟨0, 0, []⟩
theorem tr_wf {c : List M_tree_Node} (h : wrongT c < 0) : wf (tr c) ∧ fl (tr c) = c := by
  unfold tr; rw [dif_pos h]; exact Classical.choose_spec (tree_of h)
theorem join_snoc (s : List UInt8) : ∀ (xs : List (List UInt8)) (x : List UInt8), Lib.join (xs ++ [x]) s = if xs = [] then x else Lib.join xs s ++ s ++ x
  | [], x => by simp [Lib.join, List.intercalate, List.intersperse]
  | [y], x => by simp [Lib.join, List.intercalate, List.intersperse]
  | y :: z :: r, x => by
    have ih := join_snoc s (z :: r) x
    rw [if_neg (by simp)] at ih ⊢
    have e : ∀ (u v : List UInt8) (q : List (List UInt8)), Lib.join (u :: v :: q) s = u ++ s ++ Lib.join (v :: q) s := fun u v q => by simp [Lib.join, List.intercalate, List.intersperse]
    rw [List.cons_append, List.cons_append, e, e, ← List.cons_append, ih]; simp
def nmS (L : List M_tree_Let) (i : Nat) : List (List UInt8) := (L.take i).map (·.Name)
noncomputable def lineS (Nm : List (List UInt8)) (l : M_tree_Let) : List UInt8 := [108, 101, 116, 32] ++ l.Name ++ [32, 61, 32] ++ wrS Nm (tr l.Code) ++ [59, 10]
noncomputable def ltS (L : List M_tree_Let) : Nat → List UInt8
  | 0 => []
  | i + 1 => ltS L i ++ (match L[i]? with | some l => lineS (nmS L i) l | none => [])
noncomputable def osS (Nm : List (List UInt8)) (O : List (List M_tree_Node)) : List (List UInt8) := O.map fun c => wrS Nm (tr c)
noncomputable def fieldT (f : M_tree_Field) : List UInt8 := ltS f.Lets f.Lets.length ++ ([91] ++ Lib.join (osS (f.Lets.map (·.Name)) f.Outs) [44, 32] ++ [93])
def Sml (f : M_tree_Field) : Prop := f.Lets.length ≤ 12 ∧ f.Outs.length ≤ 12 ∧ (∀ l ∈ f.Lets, l.Name.length ≤ 100) ∧ ∀ c ∈ codesT f, c.length ≤ 1500 ∧ ∀ x ∈ c, NB x
theorem nmS_len {L : List M_tree_Let} {i : Nat} (h : i ≤ L.length) : (nmS L i).length = i := by unfold nmS; simp; omega
theorem nmS_succ {L : List M_tree_Let} {i : Nat} {l} (h : L[i]? = some l) : nmS L (i + 1) = nmS L i ++ [l.Name] := by
  unfold nmS
  have hi := lt_of_get h
  rw [take_succ_get hi]
  have : L[i] = l := by rw [List.getElem?_eq_getElem hi] at h; exact Option.some.inj h
  rw [this]; simp
theorem nmS_all (L : List M_tree_Let) : nmS L L.length = L.map (·.Name) := by unfold nmS; rw [List.take_length]
theorem okE_of {c : List M_tree_Node} {k d l : Int} (hb : ∀ x ∈ c, NB x) (hd : d ≤ 6) (h : partT c k d 6 l = f0) : okE l (tr c) ∧ fl (tr c) = c ∧ dep (tr c) ≤ 40 := by
  rw [partT_zero, runG_place] at h
  obtain ⟨h1, h2⟩ := tr_wf h.1.1
  have hdp := depth_fl h1
  rw [h2] at hdp
  exact ⟨⟨h1, fun x hx => by rw [h2] at hx; exact ⟨nodeOk_mono hd (Int.le_refl _) (h.1.2 x hx), hb x hx⟩⟩, h2, by rw [← hdp]; exact h.2⟩
section
variable {f : M_tree_Field} (hS : Sml f) (hf : checkT f (f.Outs.length : Int) 6 = f0)
include hS hf
theorem fine_let {i : Nat} {l : M_tree_Let} (hl : f.Lets[i]? = some l) : okE ((nmS f.Lets i).length : Int) (tr l.Code) ∧ fl (tr l.Code) = l.Code ∧ dep (tr l.Code) ≤ 40 ∧ nameOk l.Name = true ∧ twiceT f.Lets i = false ∧ (fl (tr l.Code)).length ≤ 1500 := by
  obtain ⟨h1, h2, h3⟩ := checkT_zero.1 hf
  obtain ⟨g1, g2, g3⟩ := h2 i l hl
  have hm : l.Code ∈ codesT f := List.mem_append_left _ (List.mem_map_of_mem (mem_of_get hl))
  have hc := hS.2.2.2 _ hm
  unfold wholeT at h1
  simp only [decide_eq_true_eq] at h1
  obtain ⟨a, b, c⟩ := okE_of hc.2 h1.2.1 g3
  rw [nmS_len (Nat.le_of_lt (lt_of_get hl))]
  exact ⟨a, b, c, g1, g2, by rw [b]; exact hc.1⟩
theorem fine_out {i : Nat} {c : List M_tree_Node} (hl : f.Outs[i]? = some c) : okE ((f.Lets.map (·.Name)).length : Int) (tr c) ∧ fl (tr c) = c ∧ dep (tr c) ≤ 40 ∧ (fl (tr c)).length ≤ 1500 := by
  obtain ⟨h1, h2, h3⟩ := checkT_zero.1 hf
  have g3 := h3 i c hl
  have hm : c ∈ codesT f := List.mem_append_right _ (mem_of_get hl)
  have hc := hS.2.2.2 _ hm
  unfold wholeT at h1
  simp only [decide_eq_true_eq] at h1
  obtain ⟨a, b, d⟩ := okE_of hc.2 h1.2.1 g3
  rw [List.length_map]
  exact ⟨a, b, d, by rw [b]; exact hc.1⟩
omit hf in
theorem nm_short {i : Nat} : ∀ s ∈ nmS f.Lets i, s.length ≤ 100 := by
  intro s hs
  obtain ⟨l, hl, rfl⟩ := List.mem_map.1 hs
  exact hS.2.2.1 l (List.mem_of_mem_take hl)
theorem line_len {i : Nat} {l : M_tree_Let} (hl : f.Lets[i]? = some l) : (wrS (nmS f.Lets i) (tr l.Code)).length ≤ 200000 ∧ (lineS (nmS f.Lets i) l).length ≤ 201000 := by
  obtain ⟨a, _, _, _, _, b⟩ := fine_let hS hf hl
  have := wrS_len (nm_short hS) _ a
  have := hS.2.2.1 l (mem_of_get hl)
  refine ⟨by omega, ?_⟩
  unfold lineS; simp; omega
theorem ltS_len : ∀ i, i ≤ f.Lets.length → (ltS f.Lets i).length ≤ 201000 * i
  | 0, _ => by simp [ltS]
  | i + 1, h => by
    have ih := ltS_len i (by omega)
    have hl : f.Lets[i]? = some f.Lets[i] := List.getElem?_eq_getElem (by omega)
    have := (line_len hS hf hl).2
    unfold ltS; rw [hl, List.length_append]; simp only []; omega
theorem out_len {i : Nat} {c : List M_tree_Node} (hl : f.Outs[i]? = some c) : (wrS (f.Lets.map (·.Name)) (tr c)).length ≤ 200000 := by
  obtain ⟨a, _, _, b⟩ := fine_out hS hf hl
  have := wrS_len (by rw [← nmS_all]; exact nm_short hS) _ a
  omega
theorem os_len : ∀ i, i ≤ f.Outs.length → (Lib.join (osS (f.Lets.map (·.Name)) (f.Outs.take i)) [44, 32]).length ≤ 201000 * i
  | 0, _ => by simp [osS, Lib.join, List.intercalate]
  | i + 1, h => by
    have ih := os_len i (by omega)
    have hl : f.Outs[i]? = some f.Outs[i] := List.getElem?_eq_getElem (by omega)
    have := out_len hS hf hl
    rw [take_succ_get (by omega)]
    unfold osS at ih ⊢
    rw [List.map_append, List.map_cons, List.map_nil, join_snoc]
    split
    · omega
    · rw [List.length_append, List.length_append, List.length_cons, List.length_cons, List.length_nil]; omega
theorem m_show_Field_eq {n : Nat} (hn : big ≤ n) (hF : FB f) : m_show_Field n f = some (fieldT f, true) := by
  obtain ⟨s1, s2, s3, s4⟩ := hS
  unfold m_show_Field
  rw [m_check_Check_eq hn hF (fun l hl => by have := s3 l hl; omega), sbind, hf, show eqb_api_Fault f0 ⟨0, 0, 0, 0⟩ = true from (eqb_iff _ _).2 rfl, Bool.not_true, bifF]
  have hL := ltS_len ⟨s1, s2, s3, s4⟩ hf f.Lets.length (Nat.le_refl _)
  rw [range_acc (s := ([], [])) (fun i => (ltS f.Lets i, nmS f.Lets i)) f.Lets (fun i l hl => ?_) rfl, lpK_go]
  · have ho := os_len ⟨s1, s2, s3, s4⟩ hf f.Outs.length (Nat.le_refl _)
    rw [List.take_length] at ho
    simp only [nmS_all]
    rw [range_acc (s := []) (fun i => osS (f.Lets.map (·.Name)) (f.Outs.take i)) f.Outs (fun i c hc => ?_) rfl, lpK_go]
    · rw [List.take_length]
      unfold m_strings_Join
      rw [if_pos ⟨by unfold osS; simp; omega, by omega⟩, sbind, catS_ok (by simp; omega), sbind, catS_ok (by simp; omega), sbind, appM_ok (by simp; omega) (by simp; omega), sbind]
      rfl
    · obtain ⟨a, b, _, d⟩ := fine_out ⟨s1, s2, s3, s4⟩ hf hc
      have hi := lt_of_get hc
      have hw := m_show_write_eq hn (by rw [← nmS_all]; exact nm_short ⟨s1, s2, s3, s4⟩) a (by omega)
      rw [b] at hw
      rw [hw, sbind, appM_ok (by unfold osS; simp; omega) (by unfold osS; simp; omega), sbind, take_succ_get hi]
      have : f.Outs[i] = c := by rw [List.getElem?_eq_getElem hi] at hc; exact Option.some.inj hc
      rw [this]; unfold osS; rw [List.map_append]; rfl
  · obtain ⟨a, b, _, _, _, d⟩ := fine_let ⟨s1, s2, s3, s4⟩ hf hl
    have hi := lt_of_get hl
    have hw := m_show_write_eq hn (nm_short ⟨s1, s2, s3, s4⟩ (i := i)) a (by omega)
    rw [b] at hw
    have h1 := ltS_len ⟨s1, s2, s3, s4⟩ hf i (by omega)
    obtain ⟨h2, h3⟩ := line_len ⟨s1, s2, s3, s4⟩ hf hl
    have h4 := s3 l (mem_of_get hl)
    have h5 : (nmS f.Lets i).length = i := nmS_len (by omega)
    simp only []
    rw [catS_ok (by simp; omega), sbind, catS_ok (by simp; omega), sbind, hw, sbind, catS_ok (by simp; omega), sbind, catS_ok (by simp; omega), sbind, appM_ok (by simp; omega) (by simp; omega), sbind, appM_ok (by simp; omega) (by simp; omega), sbind]
    simp only [ltS, hl, nmS_succ hl]; rfl
theorem m_ref20_Field_eq {n : Nat} {g : M_retrospectref17_Field} (hn : big + 1600 ≤ n) (hg : cF g = f) : m_retrospectref20_Field n g = some (fieldT f) := by
  obtain ⟨s1, s2, s3, s4⟩ := hS
  have hn' : big ≤ n := Nat.le_trans (Nat.le_add_right _ _) hn
  have e1 : f.Lets = g.Lets.map cL := by rw [← hg]; rfl
  have e2 : f.Outs = g.Outs.map (·.map cN) := by rw [← hg]; rfl
  have l1 : f.Lets.length = g.Lets.length := by rw [e1, List.length_map]
  have l2 : f.Outs.length = g.Outs.length := by rw [e2, List.length_map]
  have hL := ltS_len ⟨s1, s2, s3, s4⟩ hf f.Lets.length (Nat.le_refl _)
  unfold big at hn
  unfold m_retrospectref20_Field
  rw [loop_acc (s := ([], [], 0)) (fun i => (ltS f.Lets i, nmS f.Lets i, (i : Int))) g.Lets.length (ltS f.Lets f.Lets.length, f.Lets.map (·.Name)) (fun i hi => ?_) (by simp only [bifd]; rw [if_neg (by omega), ← l1, nmS_all]) (by omega) rfl]
  · simp only []
    rw [catS_ok (by simp; omega), sbind, loop_acc (s := (ltS f.Lets f.Lets.length ++ [91], 0)) (fun i => (ltS f.Lets f.Lets.length ++ [91] ++ Lib.join (osS (f.Lets.map (·.Name)) (f.Outs.take i)) [44, 32], (i : Int))) g.Outs.length (ltS f.Lets f.Lets.length ++ [91] ++ Lib.join (osS (f.Lets.map (·.Name)) f.Outs) [44, 32]) (fun i hi => ?_) (by simp only [bifd]; rw [if_neg (by omega), ← l2, List.take_length]) (by omega) (by simp [osS, Lib.join, List.intercalate])]
    · have ho := os_len ⟨s1, s2, s3, s4⟩ hf f.Outs.length (Nat.le_refl _)
      rw [List.take_length] at ho
      rw [catS_ok (by simp; omega), sbind]; unfold fieldT; simp only [List.append_assoc]
    · have hc : f.Outs[i]? = some f.Outs[i] := List.getElem?_eq_getElem (by omega)
      have hgc : g.Outs[i]? = some g.Outs[i] := List.getElem?_eq_getElem hi
      have ho := os_len ⟨s1, s2, s3, s4⟩ hf i (by omega)
      have hq := out_len ⟨s1, s2, s3, s4⟩ hf hc
      obtain ⟨a, b, _, d⟩ := fine_out ⟨s1, s2, s3, s4⟩ hf hc
      have ecd : g.Outs[i].map cN = f.Outs[i] := by simp [e2]
      have hw := m_ref20_Write_eq (by rw [← nmS_all]; exact nm_short ⟨s1, s2, s3, s4⟩) _ a (by omega) n (by unfold big; omega)
      rw [b, ← ecd, dc_map] at hw
      simp only [bifd]
      rw [if_pos (by omega), jn_eq, getI_of hgc, take_succ_get (by omega)]
      simp only [sbind, hw]
      unfold osS at ho ⊢
      rw [List.map_append, List.map_cons, List.map_nil, join_snoc, ecd]
      by_cases h0 : i = 0
      · subst h0
        rw [if_neg (by decide), catS_ok (by simp [Lib.join_nil]; omega), sbind, w1 (by omega)]; simp [Lib.join_nil]
      · rw [if_pos (by omega), catS_ok (by simp only [List.length_append, List.length_cons, List.length_nil]; omega), sbind, catS_ok (by simp only [List.length_append, List.length_cons, List.length_nil]; omega), sbind, w1 (by omega), if_neg (fun h => by have := congrArg List.length h; rw [List.length_map, List.length_take, List.length_nil] at this; omega)]; simp only [List.append_assoc]
  · have hl : f.Lets[i]? = some f.Lets[i] := List.getElem?_eq_getElem (by omega)
    have hgl : g.Lets[i]? = some g.Lets[i] := List.getElem?_eq_getElem hi
    obtain ⟨a, b, _, _, _, d⟩ := fine_let ⟨s1, s2, s3, s4⟩ hf hl
    have ecd : cL g.Lets[i] = f.Lets[i] := by simp [e1]
    have ec : g.Lets[i].Code.map cN = f.Lets[i].Code := by rw [← ecd]; rfl
    have en : g.Lets[i].Name = f.Lets[i].Name := by rw [← ecd]; rfl
    have hw := m_ref20_Write_eq (nm_short ⟨s1, s2, s3, s4⟩ (i := i)) _ a (by omega) n (by unfold big; omega)
    rw [b, ← ec, dc_map] at hw
    have h1 := ltS_len ⟨s1, s2, s3, s4⟩ hf i (by omega)
    obtain ⟨h2, h3⟩ := line_len ⟨s1, s2, s3, s4⟩ hf hl
    have h4 := s3 _ (mem_of_get hl)
    have h5 : (nmS f.Lets i).length = i := nmS_len (by omega)
    simp only [bifd]
    rw [if_pos (by omega), getI_of hgl, sbind, en, catS_ok (by simp; omega), sbind, catS_ok (by simp; omega), sbind, sbind, hw, sbind, ec, catS_ok (by simp; omega), sbind, catS_ok (by simp; omega), sbind, catS_ok (by simp; omega), sbind, sbind, en, appM_ok (by simp; omega) (by simp; omega), sbind, w1 (by omega)]
    simp only [ltS, hl, nmS_succ hl]; rfl
end
theorem m_ref20_Fine_eq {n : Nat} {g : M_retrospectref17_Field} (hn : big ≤ n) (hF : FB (cF g)) : m_retrospectref20_Fine n g = some (decide (checkT (cF g) (g.Outs.length : Int) 6 = f0)) := by
  unfold m_retrospectref20_Fine m_retrospectref19_Fine
  rw [m_ref19_Check_eq hn hF, sbind, sbind]
  unfold refR
  by_cases h : checkT (cF g) (g.Outs.length : Int) 6 = f0
  · rw [if_pos h, decide_eq_true h]; rfl
  · rw [if_neg h, decide_eq_false h]; rfl
/-- ShowFields. -/
theorem law_ShowFields (g : M_retrospectref17_Field) (hB : B_retrospectref17_Field g) : ∃ n, m_retrospectlaw20_ShowFields n g = some true := by
  refine ⟨bigS, ?_⟩
  have hn : big ≤ bigS := by decide
  have hn1 : big + 1600 ≤ bigS := by decide
  unfold m_retrospectlaw20_ShowFields
  obtain ⟨b, h1, h2⟩ := m_ref17_LongField_ok (parts := 12) (many := 60) (words := 9) hn hB maxLen_le
  rw [show (12 : Int) = ((12 : Nat) : Int) by rfl, show (60 : Int) = ((60 : Nat) : Int) by rfl, show (9 : Int) = ((9 : Nat) : Int) by rfl, h1, sbind]
  cases b with
  | true => rw [bifT, law20_works, sbind]
  | false =>
    have h3 := h2 rfl
    obtain ⟨hF, hs⟩ := FB_of hB (by decide) (by decide) (by decide) h3
    have hl2 : (cF g).Outs.length = g.Outs.length := by simp [cF]
    have hS : Sml (cF g) := ⟨by simp [cF]; omega, by omega, fun l hl => by
      simp only [cF, List.mem_map] at hl
      obtain ⟨m, hm, rfl⟩ := hl
      rw [cL_name]; exact h3.2.2.1 m hm, fun c hc => by
      have := hF.2.2 c hc
      rw [codes_cF] at hc
      obtain ⟨y, hy, rfl⟩ := List.mem_map.1 hc
      exact ⟨by rw [List.length_map]; have := (h3.2.2.2 y hy).1; omega, fun x hx => this.2 x hx⟩⟩
    rw [bifF, m_law17_ToField_eq hn hF, sbind, m_ref20_Fine_eq hn hF, ← hl2]
    by_cases hc : checkT (cF g) ((cF g).Outs.length : Int) 6 = f0
    · rw [m_show_Field_eq hS hc hn hF, sbind, sbind, decide_eq_true hc, Bool.not_true, bifF, jn_eq, m_ref20_Field_eq hS hc hn1 rfl, sbind]
      simp only [decide_true, bifT, law20_works, sbind]
    · have hE : m_show_Field bigS (cF g) = some ([], false) := by
        unfold m_show_Field
        rw [m_check_Check_eq hn hF hs, sbind, show eqb_api_Fault (checkT (cF g) ((cF g).Outs.length : Int) 6) ⟨0, 0, 0, 0⟩ = false from by
          rw [Bool.eq_false_iff]; exact fun h => hc ((eqb_iff _ _).1 h), Bool.not_false, bifT]
      rw [hE, sbind, sbind, decide_eq_false hc, Bool.not_false, bifT, jn_eq]
      simp only [decide_true, bifT, Bool.not_false, law20_works, sbind]
end Go.Proofs.YtpomhkkhdojpiaaDoor
