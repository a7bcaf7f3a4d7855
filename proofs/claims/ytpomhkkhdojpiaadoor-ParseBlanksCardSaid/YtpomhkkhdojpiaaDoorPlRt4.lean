import Derived.Test.YtpomhkkhdojpiaaDoorPlRt3
namespace Go.Proofs.YtpomhkkhdojpiaaDoor
open Go Go.RowKit
/-! ### What is written is read as it was: fields -/
noncomputable def lineP (Nm : List (List UInt8)) (l : M_tree_Let) : List (List UInt8) := [108, 101, 116] :: [32] :: l.Name :: [32] :: [61] :: [32] :: (pcs Nm (tr l.Code) ++ [[59], [10]])
noncomputable def letsP : List (List UInt8) → List M_tree_Let → List (List UInt8)
  | _, [] => []
  | Nm, l :: L => lineP Nm l ++ letsP (Nm ++ [l.Name]) L
noncomputable def oP (Nm : List (List UInt8)) : List (List M_tree_Node) → List (List UInt8)
  | [] => [[93]]
  | c :: O => [44] :: [32] :: (pcs Nm (tr c) ++ oP Nm O)
noncomputable def osP (Nm : List (List UInt8)) : List (List M_tree_Node) → List (List UInt8)
  | [] => []
  | c :: O => [91] :: (pcs Nm (tr c) ++ oP Nm O)
noncomputable def fP (f : M_tree_Field) : List (List UInt8) := letsP [] f.Lets ++ osP (f.Lets.map (·.Name)) f.Outs
/-- What is right of the lets from one on. -/
def LOk : List (List UInt8) → List M_tree_Let → Prop
  | _, [] => True
  | Nm, l :: L => (okE (Nm.length : Int) (tr l.Code) ∧ fl (tr l.Code) = l.Code ∧ dep (tr l.Code) ≤ 40) ∧ nameOk l.Name = true ∧ l.Name ∉ Nm ∧ LOk (Nm ++ [l.Name]) L
def OOk (k : Int) (O : List (List M_tree_Node)) : Prop := ∀ c ∈ O, okE k (tr c) ∧ fl (tr c) = c ∧ dep (tr c) ≤ 40
section
variable {f : M_tree_Field} (hS : Sml f) (hf : checkT f (f.Outs.length : Int) 6 = f0)
include hS hf
theorem LOk_at : ∀ (d i : Nat), i + d = f.Lets.length → LOk (nmS f.Lets i) (f.Lets.drop i)
  | 0, i, h => by rw [List.drop_eq_nil_of_le (by omega)]; trivial
  | d + 1, i, h => by
    have hl : f.Lets[i]? = some f.Lets[i] := List.getElem?_eq_getElem (by omega)
    obtain ⟨a, b, c, e, g, _⟩ := fine_let hS hf hl
    rw [List.drop_eq_getElem_cons (by omega)]
    refine ⟨⟨a, b, c⟩, e, ?_, ?_⟩
    · intro hm
      obtain ⟨m, hm, he⟩ := List.mem_map.1 hm
      unfold twiceT at g
      rw [hl, List.any_eq_false] at g
      exact g m hm (by simp [he])
    · rw [← nmS_succ hl]; exact LOk_at d (i + 1) (by omega)
theorem lets_flat : ∀ (d i : Nat), i + d = f.Lets.length → ltS f.Lets i ++ (letsP (nmS f.Lets i) (f.Lets.drop i)).flatten = ltS f.Lets f.Lets.length
  | 0, i, h => by rw [List.drop_eq_nil_of_le (by omega), show i = f.Lets.length by omega]; simp [letsP]
  | d + 1, i, h => by
    have hl : f.Lets[i]? = some f.Lets[i] := List.getElem?_eq_getElem (by omega)
    obtain ⟨a, _⟩ := fine_let hS hf hl
    rw [List.drop_eq_getElem_cons (by omega), ← lets_flat d (i + 1) (by omega), letsP, ← nmS_succ hl]
    simp only [ltS, hl, List.flatten_append, ← List.append_assoc]
    congr 2
    unfold lineP lineS
    simp only [List.flatten_cons, List.flatten_append, flat_pcs _ a, List.flatten_nil, List.append_nil, List.append_assoc, List.cons_append, List.nil_append]
theorem OOk_of : OOk ((f.Lets.map (·.Name)).length : Int) f.Outs := fun c hc => by
  obtain ⟨i, hi⟩ := List.getElem?_of_mem hc
  obtain ⟨a, b, d, _⟩ := fine_out hS hf hi
  exact ⟨a, b, d⟩
end
theorem oP_flat {Nm : List (List UInt8)} : ∀ (O : List (List M_tree_Node)), OOk (Nm.length : Int) O → (oP Nm O).flatten = Lib.joinTail [44, 32] (osS Nm O) ++ [93]
  | [], _ => by simp [oP, osS, Lib.joinTail]
  | c :: O, h => by
    have ih := oP_flat O fun x hx => h x (.tail _ hx)
    unfold oP
    rw [List.flatten_cons, List.flatten_cons, List.flatten_append, flat_pcs _ (h c (.head _)).1, ih]
    unfold osS Lib.joinTail
    simp
theorem fP_flat {f : M_tree_Field} (hS : Sml f) (hf : checkT f (f.Outs.length : Int) 6 = f0) : (fP f).flatten = fieldT f := by
  have hO := OOk_of hS hf
  obtain ⟨hw, _⟩ := checkT_zero.1 hf
  unfold wholeT at hw
  simp only [decide_eq_true_eq] at hw
  have hl := lets_flat hS hf f.Lets.length 0 (by omega)
  rw [show nmS f.Lets 0 = [] by simp [nmS], List.drop_zero, show ltS f.Lets 0 = [] from rfl, List.nil_append] at hl
  unfold fP fieldT
  rw [List.flatten_append, hl]
  cases hO' : f.Outs with
  | nil => rw [hO'] at hw; simp at hw
  | cons c O =>
    rw [hO'] at hO
    unfold osP
    rw [List.flatten_cons, List.flatten_append, flat_pcs _ (hO c (.head _)).1, oP_flat O fun x hx => hO x (.tail _ hx)]
    unfold osS
    rw [List.map_cons, Lib.join_cons]
    simp
/-! #### Its pieces are right -/
theorem okP_lets : ∀ (L : List M_tree_Let) (Nm : List (List UInt8)), NmOk Nm → LOk Nm L → ∀ rest, okP rest → okP (letsP Nm L ++ rest)
  | [], _, _, _, _, h => h
  | l :: L, Nm, hN, hL, rest, h => by
    obtain ⟨⟨a, _, _⟩, b, _, d⟩ := hL
    have hN' : NmOk (Nm ++ [l.Name]) := fun s hs => by
      rcases List.mem_append.1 hs with h | h
      · exact hN s h
      · rw [List.mem_singleton.1 h]; exact b
    have ih := okP_lets L _ hN' d rest h
    unfold letsP lineP
    simp only [List.cons_append, List.append_assoc, List.nil_append]
    have s1 : okP ([59] :: [10] :: (letsP (Nm ++ [l.Name]) L ++ rest)) := okP_c ⟨ih, .inl (.inr rfl)⟩ (by decide)
    have s2 := okP_pcs hN _ a _ s1 (sep_c (by decide) (by decide))
    exact okP_w (k := 2) (okP_b (okP_w (okP_b (okP_c (okP_b s2) (by decide))) (name_wd b) (sep_c (by decide) (by decide)))) (by decide) (sep_c (by decide) (by decide))
theorem okP_o {Nm : List (List UInt8)} (hN : NmOk Nm) : ∀ (O : List (List M_tree_Node)), OOk (Nm.length : Int) O → okP (oP Nm O) ∧ sepP (oP Nm O)
  | [], _ => ⟨okP_c trivial (by decide), sep_c (by decide) (by decide)⟩
  | c :: O, h => by
    obtain ⟨i1, i2⟩ := okP_o hN O fun x hx => h x (.tail _ hx)
    unfold oP
    exact ⟨okP_c (okP_b (okP_pcs hN _ (h c (.head _)).1 _ i1 i2)) (by decide), sep_c (by decide) (by decide)⟩
theorem okP_os {Nm : List (List UInt8)} (hN : NmOk Nm) : ∀ (O : List (List M_tree_Node)), OOk (Nm.length : Int) O → okP (osP Nm O)
  | [], _ => trivial
  | c :: O, h => by
    obtain ⟨i1, i2⟩ := okP_o hN O fun x hx => h x (.tail _ hx)
    unfold osP
    exact okP_c (okP_pcs hN _ (h c (.head _)).1 _ i1 i2) (by decide)
/-! #### Its words -/
noncomputable def lineK (Nm : List (List UInt8)) (l : M_tree_Let) : List (List UInt8) := [108, 101, 116] :: l.Name :: [61] :: (tk Nm (tr l.Code) ++ [[59]])
noncomputable def letsK : List (List UInt8) → List M_tree_Let → List (List UInt8)
  | _, [] => []
  | Nm, l :: L => lineK Nm l ++ letsK (Nm ++ [l.Name]) L
noncomputable def oK (Nm : List (List UInt8)) : List (List M_tree_Node) → List (List UInt8)
  | [] => [[93]]
  | c :: O => [44] :: (tk Nm (tr c) ++ oK Nm O)
theorem filt_lets : ∀ (L : List M_tree_Let) (Nm : List (List UInt8)), LOk Nm L → (letsP Nm L).filter nbk = letsK Nm L
  | [], _, _ => rfl
  | l :: L, Nm, hL => by
    obtain ⟨_, b, _, d⟩ := hL
    unfold letsP letsK lineP lineK
    rw [filt_app, filt_lets L _ d, filt_c (by decide), filt_b, filt_c (wd_nbk (name_wd b)), filt_b, filt_c (by decide), filt_b, filt_app]; rfl
theorem filt_o {Nm : List (List UInt8)} : ∀ (O : List (List M_tree_Node)), (oP Nm O).filter nbk = oK Nm O
  | [] => rfl
  | c :: O => by unfold oP oK; rw [filt_c (by decide), filt_b, filt_app, filt_o O]; rfl
section
variable {W : List M_lex_Word} {E : Int} (hW : WOk W)
theorem fnd_new {s : List UInt8} : ∀ {Nm : List (List UInt8)} {i k : Nat}, i < Nm.length → fndS (Nm ++ [s]) (Nm.getD i []) k = fndS Nm (Nm.getD i []) k
  | [], _, _, h => by simp at h
  | x :: Nm, 0, k, _ => by simp [fndS]
  | x :: Nm, i + 1, k, h => by
    simp only [List.length_cons] at h
    have ih := fnd_new (s := s) (Nm := Nm) (i := i) (k := k + 1) (by omega)
    simp only [List.cons_append, fndS, List.getD_cons_succ]
    rw [ih]
theorem fnd_last {s : List UInt8} : ∀ {Nm : List (List UInt8)} {k : Nat}, s ∉ Nm → fndS (Nm ++ [s]) s k = ((k + Nm.length : Nat) : Int)
  | [], k, _ => by simp [fndS]
  | x :: Nm, k, h => by
    have h1 : x ≠ s := fun e => h (e ▸ .head _)
    rw [List.cons_append, fndS, if_neg h1, fnd_last fun hm => h (.tail _ hm), List.length_cons, show k + 1 + Nm.length = k + (Nm.length + 1) by omega]
theorem NmU_new {Nm : List (List UInt8)} {s : List UInt8} (h : NmU Nm) (hs : s ∉ Nm) : NmU (Nm ++ [s]) := fun i hi => by
  rw [List.length_append, List.length_singleton] at hi
  by_cases h1 : i < Nm.length
  · rw [show (Nm ++ [s]).getD i [] = Nm.getD i [] by rw [List.getD_eq_getElem?_getD, List.getD_eq_getElem?_getD, List.getElem?_append_left h1], fnd_new h1]; exact h i h1
  · rw [show i = Nm.length by omega, show (Nm ++ [s]).getD Nm.length [] = s by rw [List.getD_eq_getElem?_getD]; simp, fnd_last hs, Nat.zero_add]
include hW
theorem read_lets : ∀ (L' : List M_tree_Let) (k : Nat) (Nm : List (List UInt8)) (L : List M_tree_Let) (i : Nat) (X : List (List UInt8)), L'.length < k → NmOk Nm → NmU Nm → LOk Nm L' → Pre W i (letsK Nm L' ++ ([91] :: X)) →
    letsL W E k Nm L i = .ok ((L ++ L', Nm ++ L'.map (·.Name)), i + (letsK Nm L').length) ∧ NmOk (Nm ++ L'.map (·.Name)) ∧ NmU (Nm ++ L'.map (·.Name))
  | [], k, Nm, L, i, X, hk, hN, hU, _, hp => by
    obtain ⟨k, rfl⟩ : ∃ q, k = q + 1 := ⟨k - 1, by simp at hk; omega⟩
    obtain ⟨_, ht, _⟩ := pre_cons hp
    unfold letsL
    rw [if_neg (by rw [ht]; decide)]
    simpa [letsK] using ⟨hN, hU⟩
  | l :: L', k, Nm, L, i, X, hk, hN, hU, hL, hp => by
    simp only [List.length_cons] at hk
    obtain ⟨k, rfl⟩ : ∃ q, k = q + 1 := ⟨k - 1, by omega⟩
    obtain ⟨⟨a1, a2, a3⟩, b, c, d⟩ := hL
    unfold letsK lineK at hp
    simp only [List.cons_append, List.append_assoc, List.nil_append] at hp
    obtain ⟨_, t1, hp⟩ := pre_cons hp
    obtain ⟨i2, t2, hp⟩ := pre_cons hp
    obtain ⟨_, t3, hp⟩ := pre_cons hp
    obtain ⟨p1, hp⟩ := pre_app hp
    obtain ⟨_, t4, hp⟩ := pre_cons hp
    have hN' : NmOk (Nm ++ [l.Name]) := fun s hs => by
      rcases List.mem_append.1 hs with h | h
      · exact hN s h
      · rw [List.mem_singleton.1 h]; exact b
    have hk2 := word_name hW i2 t2 b
    have hres : resB l.Name = false := by
      have hs := b
      unfold nameOk at hs; simp only [Bool.and_eq_true, decide_eq_true_eq] at hs
      unfold resB; simp only [decide_eq_false_iff_not]
      rintro (h | h | h | h)
      · exact hs.2.1 h
      · exact hs.2.2.1 h
      · exact hs.2.2.2.1 h
      · exact hs.2.2.2.2 h
    have hx := ex0_tk (E := E) hW hN hU a1 (by omega) p1 (fun t ht => by unfold nt; rw [t4]; rintro rfl; revert ht; decide)
    obtain ⟨g1, g2, g3⟩ := read_lets L' k (Nm ++ [l.Name]) (L ++ [l]) _ X (by omega) hN' (NmU_new hU c) d hp
    unfold letsL
    rw [if_pos t1]
    unfold nameS
    rw [t2, hres, if_neg (by rw [hk2]; simp), ebd_ok]
    unfold needS
    simp only []
    rw [if_pos t3, ebd_ok, hx, ebd_ok]
    simp only []
    rw [if_pos t4, ebd_ok, a2, g1]
    simp only [List.map_cons, List.append_assoc, List.cons_append, List.nil_append] at g2 g3 ⊢
    refine ⟨?_, g2, g3⟩
    rw [show letsK Nm (l :: L') = lineK Nm l ++ letsK (Nm ++ [l.Name]) L' from rfl, lineK]
    simp only [List.length_append, List.length_cons, List.length_nil]
    rw [show ∀ m n : Nat, i + 1 + 1 + 1 + m + 1 + n = i + (m + (0 + 1) + 1 + 1 + 1 + n) by omega]
theorem read_outs {Nm : List (List UInt8)} (hN : NmOk Nm) (hU : NmU Nm) : ∀ (O' : List (List M_tree_Node)) (k : Nat) (O : List (List M_tree_Node)) (i : Nat), O'.length < k → OOk (Nm.length : Int) O' → Pre W i (oK Nm O') →
    ∃ j, outsL W E Nm k O i = .ok (O ++ O', j) ∧ (nxW W j).Text = [93] ∧ j + 1 = i + (oK Nm O').length
  | [], k, O, i, hk, _, hp => by
    obtain ⟨k, rfl⟩ : ∃ q, k = q + 1 := ⟨k - 1, by simp at hk; omega⟩
    obtain ⟨_, ht, _⟩ := pre_cons hp
    refine ⟨i, ?_, ht, rfl⟩
    unfold outsL
    rw [if_neg (by rw [ht]; decide), List.append_nil]
  | c :: O', k, O, i, hk, hO, hp => by
    simp only [List.length_cons] at hk
    obtain ⟨k, rfl⟩ : ∃ q, k = q + 1 := ⟨k - 1, by omega⟩
    obtain ⟨a1, a2, a3⟩ := hO c (.head _)
    unfold oK at hp
    obtain ⟨_, t1, hp⟩ := pre_cons hp
    obtain ⟨p1, hp⟩ := pre_app hp
    have hnt : ∀ t ∈ [[94], [42], [47], [43], [45]], nt W (i + 1 + (tk Nm (tr c)).length) ≠ t := by
      cases O' with
      | nil => obtain ⟨_, t2, _⟩ := pre_cons hp; intro t ht; unfold nt; rw [t2]; rintro rfl; revert ht; decide
      | cons d O' => obtain ⟨_, t2, _⟩ := pre_cons hp; intro t ht; unfold nt; rw [t2]; rintro rfl; revert ht; decide
    have hx := ex0_tk (E := E) hW hN hU a1 (by omega) p1 hnt
    obtain ⟨j, g1, g2, g3⟩ := read_outs hN hU O' k (O ++ [c]) _ (by omega) (fun x hx => hO x (.tail _ hx)) hp
    refine ⟨j, ?_, g2, ?_⟩
    · unfold outsL
      rw [if_pos t1, hx, ebd_ok]
      simp only []
      rw [a2, g1, List.append_assoc]; rfl
    · unfold oK; rw [List.length_cons, List.length_append]; omega
end
theorem pre_len {W : List M_lex_Word} {i : Nat} {T : List (List UInt8)} (h : Pre W i T) : i + T.length ≤ W.length ∨ T = [] := by
  obtain ⟨R, hR⟩ := h
  have := congrArg List.length hR
  simp at this
  by_cases h0 : T.length = 0
  · exact .inr (List.length_eq_zero_iff.1 h0)
  · left; omega
theorem letsK_len : ∀ (L : List M_tree_Let) (Nm : List (List UInt8)), L.length ≤ (letsK Nm L).length
  | [], _ => Nat.le_refl _
  | l :: L, Nm => by have := letsK_len L (Nm ++ [l.Name]); unfold letsK lineK; simp; omega
theorem oK_len {Nm : List (List UInt8)} : ∀ (O : List (List M_tree_Node)), O.length < (oK Nm O).length
  | [] => by simp [oK]
  | c :: O => by have := oK_len (Nm := Nm) O; unfold oK; simp; omega
/-- What is written of a field that may be is read as just that field. -/
theorem parse_show {f : M_tree_Field} (hS : Sml f) (hf : checkT f (f.Outs.length : Int) 6 = f0) (hl : (fieldT f).length ≤ 4000) : parseS (fieldT f) = .ok f := by
  have hO := OOk_of hS hf
  have hL := LOk_at hS hf f.Lets.length 0 (by omega)
  rw [show nmS f.Lets 0 = [] by simp [nmS], List.drop_zero] at hL
  have hN0 : NmOk [] := fun s hs => by cases hs
  have hU0 : NmU [] := fun i hi => by simp at hi
  obtain ⟨hw, hle, _⟩ := checkT_zero.1 hf
  unfold wholeT at hw
  simp only [decide_eq_true_eq] at hw
  have hN : NmOk (f.Lets.map (·.Name)) := fun s hs => by
    obtain ⟨l, hl, rfl⟩ := List.mem_map.1 hs
    obtain ⟨i, hi⟩ := List.getElem?_of_mem hl
    exact (hle i l hi).1
  have hfl := fP_flat hS hf
  obtain ⟨ws, e1, e2⟩ := scan_pcs (fP f) 0 (okP_lets _ _ hN0 hL _ (okP_os hN _ hO))
  rw [hfl] at e1
  have hV := scan_VOk hl e1
  unfold parseS
  rw [if_neg (by omega), e1]
  simp only []
  have hT : (ws.map toX).map (·.Text) = (fP f).filter nbk := by rw [← e2, List.map_map]; exact List.map_congr_left fun w _ => rfl
  cases hO' : f.Outs with
  | nil => rw [hO'] at hw; simp at hw
  | cons c O =>
    rw [hO'] at hO
    unfold fP at hT
    rw [filt_app, filt_lets _ _ hL, hO', osP, filt_c (by decide), filt_app, filt_o] at hT
    have hp0 : Pre (ws.map toX) 0 (letsK [] f.Lets ++ ([91] :: (tk (f.Lets.map (·.Name)) (tr c) ++ oK (f.Lets.map (·.Name)) O))) := ⟨[], by rw [List.drop_zero, List.append_nil]; exact hT⟩
    have hlen : (ws.map toX).length = (letsK [] f.Lets).length + (1 + ((tk (f.Lets.map (·.Name)) (tr c)).length + (oK (f.Lets.map (·.Name)) O).length)) := by
      have := congrArg List.length hT
      rw [List.length_map] at this; rw [this]; simp [tk]; omega
    have k1 := letsK_len f.Lets []
    have k2 := oK_len (Nm := f.Lets.map (·.Name)) O
    have hW := hV.1
    obtain ⟨g1, g2, g3⟩ := read_lets (E := ((fieldT f).length : Int)) hW f.Lets (ws.map toX).length [] [] 0 _ (by omega) hN0 hU0 hL hp0
    simp only [List.nil_append] at g1 g2 g3
    obtain ⟨_, hp1⟩ := pre_app hp0
    obtain ⟨_, t1, hp2⟩ := pre_cons hp1
    obtain ⟨p3, hp3⟩ := pre_app hp2
    obtain ⟨a1, a2, a3⟩ := hO c (.head _)
    have hnt : ∀ t ∈ [[94], [42], [47], [43], [45]], nt (ws.map toX) (0 + (letsK [] f.Lets).length + 1 + (tk (f.Lets.map (·.Name)) (tr c)).length) ≠ t := by
      cases O with
      | nil => obtain ⟨_, t2, _⟩ := pre_cons hp3; intro t ht; unfold nt; rw [t2]; rintro rfl; revert ht; decide
      | cons d O' => obtain ⟨_, t2, _⟩ := pre_cons hp3; intro t ht; unfold nt; rw [t2]; rintro rfl; revert ht; decide
    have hx := ex0_tk (E := ((fieldT f).length : Int)) hW g2 g3 a1 (by omega) p3 hnt
    obtain ⟨j, q1, q2, q3⟩ := read_outs (E := ((fieldT f).length : Int)) hW g2 g3 O (ws.map toX).length [c] _ (by omega) (fun x hx => hO x (.tail _ hx)) hp3
    unfold fieldS
    rw [g1, ebd_ok]
    unfold needS
    simp only []
    rw [if_pos t1, ebd_ok, hx, ebd_ok]
    simp only []
    rw [a2, q1, ebd_ok]
    simp only []
    rw [if_pos q2, ebd_ok, ebd_ok]
    simp only []
    rw [List.length_map] at hlen
    rw [if_neg (by omega)]
    simp only [List.cons_append, List.nil_append]
    rw [← hO']
end Go.Proofs.YtpomhkkhdojpiaaDoor
