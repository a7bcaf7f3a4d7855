import Derived.Test.YtpomhkkhdojpiaaGreatDoorPlPs3
namespace Go.Proofs.YtpomhkkhdojpiaaGreatDoor
open Go Go.RowKit
/-! ### The document's parser is that function too -/
def dN (x : M_tree_Node) : M_retrospectref17_Node := ⟨x.Op, x.I, x.N⟩
abbrev RSt := List M_retrospectref16_Word
abbrev RfM := List M_retrospectref16_Word → Int → Int → Int → List (List UInt8) → Int → Option (List M_retrospectref17_Node × List M_retrospectref16_Word × Int × Int × Int × Int × List (List UInt8))
def VOk (V : List M_retrospectref16_Word) (E : Int) : Prop := WOk (V.map toX) ∧ 0 ≤ E ∧ ∀ w ∈ V, 0 ≤ w.At
theorem len_toX {V : List M_retrospectref16_Word} : (V.map toX).length = V.length := List.length_map _
theorem nx_toX {V : List M_retrospectref16_Word} {i : Nat} (h : i < V.length) : ∃ w, getI V (i : Int) = some w ∧ V[i]? = some w ∧ nxW (V.map toX) i = toX w ∧ w ∈ V := by
  refine ⟨V[i], getI_get h, List.getElem?_eq_getElem h, ?_, List.getElem_mem h⟩
  unfold nxW; rw [List.getElem?_map, List.getElem?_eq_getElem h]; rfl
theorem nxA_toX {V : List M_retrospectref16_Word} {E : Int} {i : Nat} : nxA (V.map toX) E i = (V[i]?.map (·.At)).getD E := by
  unfold nxA; rw [List.getElem?_map]; cases V[i]? <;> rfl
theorem nxA_pos {V : List M_retrospectref16_Word} {E : Int} (h : VOk V E) (i : Nat) : 0 ≤ nxA (V.map toX) E i := by
  rw [nxA_toX]
  cases hv : V[i]? with
  | none => exact h.2.1
  | some w => exact h.2.2 w (List.mem_of_getElem? hv)
section
variable {V : List M_retrospectref16_Word} {E d q : Int} {Nm : List (List UInt8)} {i : Nat}
theorem r_sees_eq {t : List UInt8} (ht : t ≠ []) : m___retrospectref18_P__sees V (i : Int) E d Nm (-1) t = some (decide ((nxW (V.map toX) i).Text = t)) := by
  unfold m___retrospectref18_P__sees
  simp only [jn_eq, bifd]
  rw [if_pos (by omega)]
  by_cases h : i < V.length
  · obtain ⟨w, h1, _, h3, _⟩ := nx_toX h
    rw [if_pos (by omega), h1, sbind, h3]; rfl
  · rw [if_neg (by omega), nxW_end (by rw [len_toX]; omega), decide_eq_false (fun e => ht e.symm)]
theorem r_sees_bad {I : Int} (hq : 0 ≤ q) (t : List UInt8) : m___retrospectref18_P__sees V I E d Nm q t = some false := by
  unfold m___retrospectref18_P__sees
  simp only [jn_eq, bifd]
  rw [if_neg (by omega)]
theorem r_kind_eq : m___retrospectref18_P__kind V (i : Int) E d Nm (-1) = some (nxW (V.map toX) i).Kind := by
  unfold m___retrospectref18_P__kind
  simp only [jn_eq, bifd]
  rw [if_pos (by omega)]
  by_cases h : i < V.length
  · obtain ⟨w, h1, _, h3, _⟩ := nx_toX h
    rw [if_pos (by omega), h1, sbind, h3]; rfl
  · rw [if_neg (by omega), nxW_end (by rw [len_toX]; omega)]
theorem r_kind_bad {I : Int} (hq : 0 ≤ q) : m___retrospectref18_P__kind V I E d Nm q = some 0 := by
  unfold m___retrospectref18_P__kind
  simp only [jn_eq, bifd]
  rw [if_neg (by omega), bifF]
theorem r_bad_eq : m___retrospectref18_P__bad V (i : Int) E d Nm (-1) = some (V, (i : Int), E, d, nxA (V.map toX) E i) := by
  unfold m___retrospectref18_P__bad
  simp only [bifd]
  rw [if_neg (by omega), nxA_toX]
  by_cases h : i < V.length
  · obtain ⟨w, h1, h2, _, _⟩ := nx_toX h
    rw [if_pos (by omega), h1, sbind, h2]; rfl
  · rw [if_neg (by omega), List.getElem?_eq_none (by omega)]; rfl
theorem r_bad_bad {I : Int} (hq : 0 ≤ q) : m___retrospectref18_P__bad V I E d Nm q = some (V, I, E, d, q) := by
  unfold m___retrospectref18_P__bad
  simp only [bifd]
  rw [if_pos hq]
theorem r_must_eq (hi : i ≤ 100000) {t : List UInt8} (ht : t ≠ []) : m___retrospectref18_P__must V (i : Int) E d Nm (-1) t = some (match needS (V.map toX) E t i with
    | .ok j => (V, (j : Int), E, d, -1)
    | .error q => (V, (i : Int), E, d, q)) := by
  unfold m___retrospectref18_P__must needS
  rw [r_sees_eq ht, sbind, bifd]
  by_cases h : (nxW (V.map toX) i).Text = t
  · rw [if_pos h, if_pos h, w1n hi]
  · rw [if_neg h, if_neg h, r_bad_eq, sbind]
theorem r_must_bad {I : Int} (hq : 0 ≤ q) (t : List UInt8) : m___retrospectref18_P__must V I E d Nm q t = some (V, I, E, d, q) := by
  unfold m___retrospectref18_P__must
  rw [r_sees_bad hq, sbind, bifF, r_bad_bad hq, sbind]
theorem r_small_bad {I : Int} {n : Nat} (hq : 0 ≤ q) : m___retrospectref18_P__small n V I E d Nm q = some (0, V, I, E, d, q) := by
  unfold m___retrospectref18_P__small
  simp only [jn_eq]
  rw [r_kind_bad hq, sbind, show (!decide ((0 : Int) = 1)) = true by rfl, bifT, bifT, r_bad_bad hq, sbind]
theorem numD_take_succ {s : List UInt8} {k : Nat} (hk : k < s.length) : numD (s.take (k + 1)) 0 = numD (s.take k) 0 * 10 + (s[k].toNat - 48) := by
  rw [take_succ_get hk, numD_snoc]
theorem r_small_eq {n : Nat} (hn : big ≤ n) (hi : i ≤ 100000) (hV : VOk V E) : m___retrospectref18_P__small n V (i : Int) E d Nm (-1) = some (match smallS (V.map toX) E i with
    | .ok v => (v.1, V, (v.2 : Int), E, d, -1)
    | .error q => (0, V, (i : Int), E, d, q)) := by
  unfold m___retrospectref18_P__small smallS
  simp only [jn_eq, bifnd]
  rw [r_kind_eq, sbind]
  by_cases hk : (nxW (V.map toX) i).Kind = 1
  · rw [if_pos hk]
    have hil : i < V.length := by have := nxK_lt (W := V.map toX) (i := i) (by rw [hk]; decide); rwa [len_toX] at this
    obtain ⟨w, h1, h2, h3, h4⟩ := nx_toX hil
    obtain ⟨hD, hne, _⟩ := word1 hV.1 hk
    rw [h3] at hD hne ⊢
    have hD' : isD w.Text := hD
    have hne' : w.Text ≠ [] := hne
    rw [h1, sbind]
    by_cases hl : 3 < w.Text.length
    · rw [if_pos (show ((toX w).Kind ≠ 1 ∨ 3 < (toX w).Text.length) from .inr hl), decide_eq_true (by omega), bifT, r_bad_eq, sbind]
    · rw [if_neg (show ¬ ((toX w).Kind ≠ 1 ∨ 3 < (toX w).Text.length) from fun h => h.elim (fun h => h (by rw [← h3]; exact hk)) hl), decide_eq_false (by omega), bifF, sbind]
      unfold big at hn
      refine loop_bind (fun s : Int × Int => w.Text.length - s.2.toNat) (fun s => ∃ k : Nat, s.2 = k ∧ k ≤ w.Text.length ∧ s.1 = ((numD (w.Text.take k) 0 : Nat) : Int)) (fun t => t = ((numD w.Text 0 : Nat) : Int)) ⟨0, rfl, Nat.zero_le _, by simp [numD]⟩ (by simp only []; omega) ?_ ?_
      · rintro ⟨a, b⟩ ⟨k, g1, g2, g3⟩
        simp only at g1 g3
        subst g1 g3
        simp only [bifd]
        by_cases hkl : k < w.Text.length
        · left
          obtain ⟨d1, d2⟩ := hD' _ (List.getElem_mem hkl)
          have hlt := numD3 (isD_take (k := k) hD') (by rw [List.length_take]; omega)
          rw [if_pos (by omega), getS_get hkl, sbind, sbind, w64 (x := 10 * _) (by omega) (by omega), w64 (x := _ + _) (by omega) (by omega), w64 (x := _ - _) (by omega) (by omega), w1 (by omega)]
          refine ⟨_, rfl, ⟨k + 1, rfl, by omega, ?_⟩, by simp only []; omega⟩
          simp only []
          rw [numD_take_succ hkl]; omega
        · right
          obtain rfl : k = w.Text.length := by omega
          rw [if_neg (by omega)]
          exact ⟨_, rfl, by rw [List.take_of_length_le (Nat.le_refl _)]⟩
      · rintro t rfl; rw [w1n hi]; rfl
  · rw [if_neg hk, if_pos (.inl hk), bifT, r_bad_eq, sbind]
theorem r_level_eq {r : Nat} (hi : i ≤ 100000) (hr : r ≤ 40) : m___retrospectref18_P__level V (i : Int) E ((40 - r : Nat) : Int) Nm (-1) = some (V, ((i + 1 : Nat) : Int), E, ((40 - r : Nat) : Int) + 1, if r = 0 then nxA (V.map toX) E i else -1) := by
  unfold m___retrospectref18_P__level
  simp only [jn_eq, bifd]
  by_cases h : r = 0
  · subst h
    rw [if_pos (by omega), if_pos rfl, r_bad_eq, sbind]
    simp only []
    rw [w1n hi, w64 (by omega) (by omega)]
  · rw [if_neg (by omega), if_neg h, w1n hi, w64 (by omega) (by omega)]
theorem r_free_eq : m___retrospectref18_P__free V (i : Int) E d Nm (-1) = some (decide ((nxW (V.map toX) i).Kind = 2) && !resB (nxW (V.map toX) i).Text) := by
  unfold m___retrospectref18_P__free
  simp only [jn_eq, bifd]
  rw [r_kind_eq, sbind, r_sees_eq (by simp), r_sees_eq (by simp), r_sees_eq (by simp), r_sees_eq (by simp)]
  simp only [sbind, bifnd]
  unfold resB
  grind
theorem r_free_bad {I : Int} (hq : 0 ≤ q) : m___retrospectref18_P__free V I E d Nm q = some false := by
  unfold m___retrospectref18_P__free
  simp only [jn_eq]
  rw [r_kind_bad hq, sbind, show decide ((0 : Int) = 2) = false by rfl, bifF]
theorem r_find_eq {n : Nat} (hn : big ≤ n) (hN : Nm.length ≤ 100000) {a b c e : _} (s : List UInt8) : m___retrospectref18_P__find n a b c e Nm q s = some (fndS Nm s 0) := by
  unfold m___retrospectref18_P__find
  unfold big at hn
  have key : ∀ (m k n : Nat), Nm.length - k ≤ m → k ≤ Nm.length → m < n → (loopM (fun (s9 : Int) =>
      bif decide (s9 < (Nm.length : Int)) then (
        (getI Nm s9).bind fun y10 =>
        bif decide (y10 = s) then (
          some (Lp.out (Lp.out (s9))))
        else (
          some (Lp.go (wrap64 (s9 + (1 : Int))))))
      else (
        some (Lp.out (Lp.go ())))) n (k : Int)).bind (lpK fun (_ : Unit) => some (-1 : Int)) = some (fndS (Nm.drop k) s k) := by
    intro m
    induction m with
    | zero =>
      intro k n h1 h2 h3
      have hk : k = Nm.length := by omega
      subst hk
      rw [loop_out (t := Lp.go ()) (by simp only [bifd]; rw [if_neg (by omega)]) h3, sbind, lpK_go]
      simp [fndS]
    | succ m ih =>
      intro k n h1 h2 h3
      obtain ⟨n, rfl⟩ : ∃ q, n = q + 1 := ⟨n - 1, by omega⟩
      by_cases hk : k < Nm.length
      · rw [List.drop_eq_getElem_cons hk]
        unfold fndS
        by_cases he : Nm[k] = s
        · rw [if_pos he, loop_out (t := Lp.out (k : Int)) (by simp only [bifd]; rw [if_pos (by omega), getI_get hk, sbind, if_pos he]) (by omega), sbind, lpK_out]
        · rw [if_neg he, loop_go (s' := ((k + 1 : Nat) : Int)) (by simp only [bifd]; rw [if_pos (by omega), getI_get hk, sbind, if_neg he, w1n (by omega)])]
          exact ih (k + 1) n (by omega) (by omega) (by omega)
      · have hk' : k = Nm.length := by omega
        subst hk'
        rw [loop_out (t := Lp.go ()) (by simp only [bifd]; rw [if_neg (by omega)]) (by omega), sbind, lpK_go]
        simp [fndS]
  exact key Nm.length 0 n (by omega) (Nat.zero_le _) (by omega)
end
/-- The document's model reads as a function says; behind an error it does nothing any more. -/
def RdR (V : List M_retrospectref16_Word) (E d : Int) (Nm : List (List UInt8)) (B : Nat) (m : RfM) (p : Nat → Prs) : Prop := ∀ i : Nat, i ≤ V.length → match p i with
  | .ok v => m V (i : Int) E d Nm (-1) = some (v.1.map dN, V, (v.2 : Int), E, d, -1, Nm)
  | .error q => 0 ≤ q ∧ ∃ c I d', m V (i : Int) E d Nm (-1) = some (c, V, I, E, d', q, Nm) ∧ c.length ≤ B
def RdB (V : List M_retrospectref16_Word) (E : Int) (Nm : List (List UInt8)) (m : RfM) : Prop := ∀ (I d q : Int), 0 ≤ q → m V I E d Nm q = some ([], V, I, E, d, q, Nm)
section
variable {V : List M_retrospectref16_Word} {E : Int} {Nm : List (List UInt8)}
theorem r_atom_bad {me : RfM} {n : Nat} : RdB V E Nm (m___retrospectref18_P__atom me n) := by
  intro I d q hq
  unfold m___retrospectref18_P__atom
  simp only [jn_eq]
  rw [r_kind_bad hq, sbind, show decide ((0 : Int) = 1) = false by rfl, bifF, r_sees_bad hq, sbind, bifF, r_sees_bad hq, sbind, bifF, r_sees_bad hq, sbind, bifF, r_sees_bad hq, sbind, bifF, r_free_bad hq, sbind, show (!false) = true by rfl, bifT, r_bad_bad hq, sbind]
theorem r_factor_bad {me : RfM} {n : Nat} (hn : 1 ≤ n) : RdB V E Nm (m___retrospectref18_P__factor me n) := by
  intro I d q hq
  obtain ⟨n, rfl⟩ : ∃ k, n = k + 1 := ⟨n - 1, by omega⟩
  unfold m___retrospectref18_P__factor
  rw [r_sees_bad hq, sbind, bifF, r_atom_bad I d q hq, sbind]
  simp only [jn_eq]
  rw [r_sees_bad hq, sbind, bifF]
/-- Parts with signs between. -/
abbrev RLs := (List M_retrospectref16_Word) × Int × Int × Int × (List (List UInt8)) × Int × (List M_retrospectref17_Node)
def rChF (p : RfM) (a b : List UInt8) (oa ob : Int) : RLs → Option (Lp RLs RLs) :=
  fun (s57 : (List M_retrospectref16_Word) × Int × Int × Int × (List (List UInt8)) × Int × (List M_retrospectref17_Node)) =>
    jn (fun (j62 : (Bool) → Option _) =>
      (m___retrospectref18_P__sees s57.1 s57.2.1 s57.2.2.1 s57.2.2.2.1 s57.2.2.2.2.1 s57.2.2.2.2.2.1 a).bind fun r65 =>
      bif r65 then (
        j62 true)
      else (
        (m___retrospectref18_P__sees s57.1 s57.2.1 s57.2.2.1 s57.2.2.2.1 s57.2.2.2.2.1 s57.2.2.2.2.2.1 b).bind fun r67 =>
        j62 r67)) (fun (s64 : Bool) =>
      bif s64 then (
        jn (fun (j71 : (Int) → Option _) =>
          (m___retrospectref18_P__sees s57.1 s57.2.1 s57.2.2.1 s57.2.2.2.1 s57.2.2.2.2.1 s57.2.2.2.2.2.1 b).bind fun r74 =>
          bif r74 then (
            j71 ob)
          else (
            j71 oa)) (fun (s73 : Int) =>
          (p s57.1 (wrap64 (s57.2.1 + (1 : Int))) s57.2.2.1 s57.2.2.2.1 s57.2.2.2.2.1 s57.2.2.2.2.2.1).bind fun r76 =>
          (appM 40 s57.2.2.2.2.2.2 r76.1).bind fun y78 =>
          (some (([(⟨s73, 0, []⟩ : M_retrospectref17_Node)] : List M_retrospectref17_Node))).bind fun z80 =>
          (appM 40 y78 z80).bind fun y81 =>
          some (Lp.go (r76.2.1, r76.2.2.1, r76.2.2.2.1, r76.2.2.2.2.1, r76.2.2.2.2.2.2, r76.2.2.2.2.2.1, y81))))
      else (
        some (Lp.out (s57.1, s57.2.1, s57.2.2.1, s57.2.2.2.1, s57.2.2.2.2.1, s57.2.2.2.2.2.1, s57.2.2.2.2.2.2))))
def rCh (p : RfM) (n : Nat) (a b : List UInt8) (oa ob : Int) (x0_W : (List M_retrospectref16_Word)) (x0_I : Int) (x0_End : Int) (x0_Deep : Int) (x0_Names : (List (List UInt8))) (x0_Bad : Int) : Option ((List M_retrospectref17_Node) × (List M_retrospectref16_Word) × Int × Int × Int × Int × (List (List UInt8))) :=
  (p x0_W x0_I x0_End x0_Deep x0_Names x0_Bad).bind fun r1 =>
  (loopM (rChF p a b oa ob) n (r1.2.1, r1.2.2.1, r1.2.2.2.1, r1.2.2.2.2.1, r1.2.2.2.2.2.2, r1.2.2.2.2.2.1, r1.1)).bind fun (t55 : (List M_retrospectref16_Word) × Int × Int × Int × (List (List UInt8)) × Int × (List M_retrospectref17_Node)) =>
  some (t55.2.2.2.2.2.2, t55.1, t55.2.1, t55.2.2.1, t55.2.2.2.1, t55.2.2.2.2.2.1, t55.2.2.2.2.1)
theorem r_term_eq (me : RfM) (n : Nat) : m___retrospectref18_P__term me n = rCh (m___retrospectref18_P__factor me n) n [42] [47] 9 10 := by unfold m___retrospectref18_P__term rCh rChF; rfl
theorem r_Expr_eq (n : Nat) (W I E d Nm q) : m___retrospectref18_P__Expr (n + 1) W I E d Nm q = bif decide ((0 : Int) ≤ q) then some (([] : List M_retrospectref17_Node), W, I, E, d, q, Nm) else rCh (m___retrospectref18_P__term (m___retrospectref18_P__Expr n) n) n [43] [45] 7 8 W I E d Nm q := by rw [m___retrospectref18_P__Expr]; unfold rCh rChF; rfl
theorem r_Expr_bad {n : Nat} (hn : 1 ≤ n) : RdB V E Nm (m___retrospectref18_P__Expr n) := by
  intro I d q hq
  obtain ⟨n, rfl⟩ : ∃ k, n = k + 1 := ⟨n - 1, by omega⟩
  rw [r_Expr_eq, decide_eq_true hq, bifT]
theorem rCh_bad {m : RfM} {n : Nat} {a b : List UInt8} {oa ob : Int} (hn : 1 ≤ n) (h : RdB V E Nm m) : RdB V E Nm (rCh m n a b oa ob) := by
  intro I d q hq
  unfold rCh
  rw [h I d q hq, sbind]
  rw [loop_out (t := (V, I, E, d, Nm, q, ([] : List M_retrospectref17_Node))) (by unfold rChF; simp only [jn_eq, r_sees_bad hq, sbind, bifF]) (by omega), sbind]
theorem rCh_rd {m : RfM} {n B : Nat} {d : Int} {p : Nat → Prs} {a b : List UInt8} {oa ob : Int} (hn : 10000 ≤ n) (hV : VOk V E) (h : RdR V E d Nm B m p) (hB : RdB V E Nm m) (hBl : B ≤ 1000000) (hp : PO (V.map toX) p) (ha : a ≠ []) (hb : b ≠ []) (hab : a ≠ b) :
    RdR V E d Nm (B + 4001) (rCh m n a b oa ob) (chainS (V.map toX) p a b oa ob) := by
  intro i hi
  have hVl : V.length ≤ 4000 := by have := hV.1.1; rwa [len_toX] at this
  unfold rCh chainS
  have hh := h i hi
  cases hv : p i with
  | error q =>
    rw [hv] at hh
    obtain ⟨hq, c, I, d', h1, h2⟩ := hh
    rw [ebd_err]
    refine ⟨hq, c, I, d', ?_, by omega⟩
    rw [h1, sbind]
    rw [loop_out (t := (V, I, E, d', Nm, q, c)) (by unfold rChF; simp only [jn_eq, r_sees_bad hq, sbind, bifF]) (by omega), sbind]
  | ok v =>
    have g := hp _ _ hv
    rw [len_toX] at g
    rw [hv] at hh
    rw [ebd_ok, hh, sbind]
    generalize hF2 : rChF m a b oa ob = F
    have f_bad : ∀ (I d' q : Int) (c : List M_retrospectref17_Node), 0 ≤ q → F (V, I, E, d', Nm, q, c) = some (Lp.out (V, I, E, d', Nm, q, c)) := by
      intro I d' q c hq; rw [← hF2]; unfold rChF; simp only [jn_eq, r_sees_bad hq, sbind, bifF]
    have f_end : ∀ (j : Nat) (c : List M_retrospectref17_Node), (nxW (V.map toX) j).Text ≠ a → (nxW (V.map toX) j).Text ≠ b → F (V, (j : Int), E, d, Nm, -1, c) = some (Lp.out (V, (j : Int), E, d, Nm, -1, c)) := by
      intro j c e1 e2; rw [← hF2]; unfold rChF; simp only [jn_eq, r_sees_eq ha, r_sees_eq hb, sbind, decide_eq_false e1, decide_eq_false e2, bifF]
    have f_go : ∀ (j : Nat) (c : List M_tree_Node) (o : Int), c.length ≤ j → j < V.length → ((nxW (V.map toX) j).Text = a ∧ o = oa ∨ (nxW (V.map toX) j).Text = b ∧ o = ob) →
        match p (j + 1) with
        | .ok u => F (V, (j : Int), E, d, Nm, -1, c.map dN) = some (Lp.go (V, (u.2 : Int), E, d, Nm, -1, (c ++ u.1 ++ [(⟨o, 0, []⟩ : M_tree_Node)]).map dN))
        | .error q => 0 ≤ q ∧ ∃ c' I d', F (V, (j : Int), E, d, Nm, -1, c.map dN) = some (Lp.go (V, I, E, d', Nm, q, c')) ∧ c'.length ≤ B + 4001 := by
      intro j c o hc hj hs
      have hstep : F (V, (j : Int), E, d, Nm, -1, c.map dN) = (m V ((j + 1 : Nat) : Int) E d Nm (-1)).bind fun r76 =>
          (appM 40 (c.map dN) r76.1).bind fun y78 =>
          (some (([(⟨o, 0, []⟩ : M_retrospectref17_Node)] : List M_retrospectref17_Node))).bind fun z80 =>
          (appM 40 y78 z80).bind fun y81 =>
          some (Lp.go (r76.2.1, r76.2.2.1, r76.2.2.2.1, r76.2.2.2.2.1, r76.2.2.2.2.2.2, r76.2.2.2.2.2.1, y81)) := by
        rw [← hF2]
        unfold rChF
        rcases hs with ⟨e1, rfl⟩ | ⟨e1, rfl⟩
        · have e2 : ¬ (nxW (V.map toX) j).Text = b := fun e => hab (e1.symm.trans e)
          simp only [jn_eq, r_sees_eq ha, r_sees_eq hb, sbind, decide_eq_true e1, decide_eq_false e2, bifT, bifF, w1n (show j ≤ 100000 by omega)]
        · have e2 : ¬ (nxW (V.map toX) j).Text = a := fun e => hab (e.symm.trans e1)
          simp only [jn_eq, r_sees_eq ha, r_sees_eq hb, sbind, decide_eq_true e1, decide_eq_false e2, bifT, bifF, w1n (show j ≤ 100000 by omega)]
      have hh := h (j + 1) (by omega)
      cases hu : p (j + 1) with
      | error q =>
        rw [hu] at hh
        obtain ⟨hq, c', I, d', h1, h2⟩ := hh
        refine ⟨hq, c.map dN ++ c' ++ [(⟨o, 0, []⟩ : M_retrospectref17_Node)], I, d', ?_, by simp; omega⟩
        rw [hstep, h1, sbind]
        simp only []
        rw [appM_ok (by simp; omega) (by simp; omega), sbind, sbind, appM_ok (by simp; omega) (by simp; omega), sbind]
      | ok u =>
        have g := hp _ _ hu
        rw [len_toX] at g
        rw [hu] at hh
        simp only [] at hh ⊢
        rw [hstep, hh, sbind]
        simp only []
        rw [appM_ok (by simp; omega) (by simp; omega), sbind, sbind, appM_ok (by simp; omega) (by simp; omega), sbind]
        simp [dN]
    clear hF2
    have key : ∀ (k n j : Nat) (c : List M_tree_Node), j ≤ V.length → c.length ≤ j → V.length - j ≤ k → V.length - j + 1 < n →
        match chainL (V.map toX) p a b oa ob k c j with
        | .ok u => loopM F n (V, (j : Int), E, d, Nm, -1, c.map dN) = some (V, (u.2 : Int), E, d, Nm, -1, u.1.map dN)
        | .error q => 0 ≤ q ∧ ∃ c' I d', loopM F n (V, (j : Int), E, d, Nm, -1, c.map dN) = some (V, I, E, d', Nm, q, c') ∧ c'.length ≤ B + 4001 := by
      intro k
      induction k with
      | zero =>
        intro n j c hj hc hk hn
        have e1 : (nxW (V.map toX) j).Text ≠ a := fun e => by have := nx_lt ha e; rw [len_toX] at this; omega
        have e2 : (nxW (V.map toX) j).Text ≠ b := fun e => by have := nx_lt hb e; rw [len_toX] at this; omega
        unfold chainL
        exact loop_out (f_end j _ e1 e2) (by omega)
      | succ k ih =>
        intro n j c hj hc hk hn
        obtain ⟨n, rfl⟩ : ∃ q, n = q + 1 := ⟨n - 1, by omega⟩
        have go : ∀ (o : Int), ((nxW (V.map toX) j).Text = a ∧ o = oa ∨ (nxW (V.map toX) j).Text = b ∧ o = ob) → j < V.length →
            match ebd (p (j + 1)) fun v => chainL (V.map toX) p a b oa ob k (c ++ v.1 ++ [(⟨o, 0, []⟩ : M_tree_Node)]) v.2 with
            | .ok u => loopM F (n + 1) (V, (j : Int), E, d, Nm, -1, c.map dN) = some (V, (u.2 : Int), E, d, Nm, -1, u.1.map dN)
            | .error q => 0 ≤ q ∧ ∃ c' I d', loopM F (n + 1) (V, (j : Int), E, d, Nm, -1, c.map dN) = some (V, I, E, d', Nm, q, c') ∧ c'.length ≤ B + 4001 := by
          intro o ho hjl
          have hg := f_go j c o hc hjl ho
          cases hu : p (j + 1) with
          | error q =>
            rw [hu] at hg
            obtain ⟨hq, c', I, d', h1, h2⟩ := hg
            rw [ebd_err]
            refine ⟨hq, c', I, d', ?_, h2⟩
            rw [loop_go h1]
            exact loop_out (f_bad _ _ _ _ hq) (by omega)
          | ok u =>
            have g := hp _ _ hu
            rw [len_toX] at g
            rw [hu] at hg
            simp only [] at hg
            rw [ebd_ok, loop_go hg]
            exact ih n u.2 _ g.2.1 (by simp only [List.length_append, List.length_cons, List.length_nil]; omega) (by omega) (by omega)
        unfold chainL
        by_cases e1 : (nxW (V.map toX) j).Text = a
        · rw [if_pos e1]
          exact go oa (.inl ⟨e1, rfl⟩) (by have := nx_lt ha e1; rwa [len_toX] at this)
        · rw [if_neg e1]
          by_cases e2 : (nxW (V.map toX) j).Text = b
          · rw [if_pos e2]
            exact go ob (.inr ⟨e2, rfl⟩) (by have := nx_lt hb e2; rwa [len_toX] at this)
          · rw [if_neg e2]
            exact loop_out (f_end j _ e1 e2) (by omega)
    have hk := key (V.map toX).length n v.2 v.1 g.2.1 (by omega) (by rw [len_toX]; omega) (by omega)
    cases hc : chainL (V.map toX) p a b oa ob (V.map toX).length v.1 v.2 with
    | ok u => rw [hc] at hk; simp only [] at hk ⊢; rw [hk, sbind]
    | error q =>
      rw [hc] at hk
      obtain ⟨hq, c', I, d', h1, h2⟩ := hk
      exact ⟨hq, c', I, d', by rw [h1, sbind], h2⟩
end
end Go.Proofs.YtpomhkkhdojpiaaGreatDoor
