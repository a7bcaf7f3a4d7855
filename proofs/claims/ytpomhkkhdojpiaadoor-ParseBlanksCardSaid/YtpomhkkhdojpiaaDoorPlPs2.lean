import Derived.Test.YtpomhkkhdojpiaaDoorPlPs1
import Derived.Lib.AtoiAll
namespace Go.Proofs.YtpomhkkhdojpiaaDoor
open Go Go.RowKit
/-! ### A parser as a function: words, the text's end, names; places are numbers of words -/
def nxW (W : List M_lex_Word) (i : Nat) : M_lex_Word := (W[i]?).getD ⟨0, [], 0⟩
def nxA (W : List M_lex_Word) (E : Int) (i : Nat) : Int := (W[i]?.map (·.At)).getD E
/-- The words that a scan gives. -/
def WOk (W : List M_lex_Word) : Prop := W.length ≤ 4000 ∧ ∀ w ∈ W, wdB w.Kind w.Text = true
theorem nxW_mem {W : List M_lex_Word} {i : Nat} (h : i < W.length) : nxW W i ∈ W := by
  unfold nxW; rw [List.getElem?_eq_getElem h]; exact List.getElem_mem h
theorem nxW_end {W : List M_lex_Word} {i : Nat} (h : W.length ≤ i) : nxW W i = ⟨0, [], 0⟩ := by
  unfold nxW; rw [List.getElem?_eq_none h]; rfl
theorem nxW_get {W : List M_lex_Word} {i : Nat} (h : i < W.length) : getI W (i : Int) = some (nxW W i) := by
  rw [getI_get h]; unfold nxW; rw [List.getElem?_eq_getElem h]; rfl
theorem nx_lt {W : List M_lex_Word} {i : Nat} {t : List UInt8} (ht : t ≠ []) (h : (nxW W i).Text = t) : i < W.length := by
  rcases Nat.lt_or_ge i W.length with h1 | h1
  · exact h1
  · rw [nxW_end h1] at h; exact absurd h.symm ht
theorem nxK_lt {W : List M_lex_Word} {i : Nat} (h : (nxW W i).Kind ≠ 0) : i < W.length := by
  rcases Nat.lt_or_ge i W.length with h1 | h1
  · exact h1
  · rw [nxW_end h1] at h; exact absurd rfl h
theorem w1n {i : Nat} (h : i ≤ 100000) : wrap64 ((i : Int) + 1) = ((i + 1 : Nat) : Int) := w1 (by omega)
/-! #### One reader, its words and names never turning -/
section
variable {W : List M_lex_Word} {E d : Int} {Nm : List (List UInt8)} {i : Nat}
theorem m_next_eq (_ : i ≤ 100000) : m___parse_reader__next W (i : Int) E d Nm = some (nxW W i) := by
  unfold m___parse_reader__next
  simp only [bifd]
  by_cases h : i < W.length
  · rw [if_pos (by omega), nxW_get h, sbind]
  · rw [if_neg (by omega), nxW_end (by omega)]
theorem m_has_eq (hi : i ≤ 100000) (t : List UInt8) : m___parse_reader__has W (i : Int) E d Nm t = some (decide ((nxW W i).Text = t), W, (if (nxW W i).Text = t then ((i + 1 : Nat) : Int) else (i : Int)), E, d) := by
  unfold m___parse_reader__has
  rw [m_next_eq hi, sbind, bifnd]
  by_cases h : (nxW W i).Text = t
  · rw [if_pos h, if_pos h, w1n hi, decide_eq_true h]
  · rw [if_neg h, if_neg h, decide_eq_false h]
theorem m_fail_eq : m___parse_reader__fail W (i : Int) E d Nm = some (.error (flt (nxA W E i))) := by
  unfold m___parse_reader__fail
  simp only [jn_eq, bifd]
  by_cases h : i < W.length
  · rw [if_pos (by omega), getI_get h, sbind]; unfold nxA flt; rw [List.getElem?_eq_getElem h]; rfl
  · rw [if_neg (by omega)]; unfold nxA flt; rw [List.getElem?_eq_none (by omega)]; rfl
end
theorem exK_ok {ε α R : Type} (fe : ε → Option R) (k : α → Option R) (x : α) : (some (Except.ok x)).bind (exK fe k) = k x := Eq.symm (Eq.symm rfl)
theorem exK_err {ε α R : Type} (fe : ε → Option R) (k : α → Option R) (e : ε) : (some (Except.error e)).bind (exK fe k) = fe e := Eq.symm (Eq.symm rfl)
theorem exk_ok {ε α R : Type} (fe : ε → Option R) (k : α → Option R) (x : α) : exK fe k (Except.ok x) = k x := Eq.symm (Eq.symm rfl)
theorem exk_err {ε α R : Type} (fe : ε → Option R) (k : α → Option R) (e : ε) : exK fe k (Except.error e) = fe e := Eq.symm (Eq.symm rfl)
/-- What a reader's function hands back. -/
def cvP {α β : Type} (f : α → β) : Except Int α → Option (Except M_api_Fault β)
  | .ok x => some (.ok (f x))
  | .error p => some (.error (flt p))
theorem cvP_ok {α β : Type} (f : α → β) (x) : cvP f (.ok x) = some (.ok (f x)) := Eq.symm (Eq.symm rfl)
theorem cvP_err {α β : Type} (f : α → β) (p) : cvP f (.error p) = some (.error (flt p)) := Eq.symm (Eq.symm rfl)
def ebd {α β : Type} (x : Except Int α) (k : α → Except Int β) : Except Int β := match x with
  | .ok x => k x
  | .error p => .error p
theorem ebd_ok {α β : Type} (x : α) (k : α → Except Int β) : ebd (.ok x) k = k x := Eq.symm (Eq.symm rfl)
theorem ebd_err {α β : Type} (p : Int) (k : α → Except Int β) : ebd (.error p) k = .error p := Eq.symm (Eq.symm rfl)
def needS (W : List M_lex_Word) (E : Int) (t : List UInt8) (i : Nat) : Except Int Nat := if (nxW W i).Text = t then .ok (i + 1) else .error (nxA W E i)
def smallS (W : List M_lex_Word) (E : Int) (i : Nat) : Except Int (Int × Nat) := if (nxW W i).Kind ≠ 1 ∨ 3 < ((nxW W i).Text).length then .error (nxA W E i) else .ok ((numD ((nxW W i).Text) 0 : Nat), i + 1)
def compS (W : List M_lex_Word) (E : Int) (op : Int) (i : Nat) : Except Int (List M_tree_Node × Nat) :=
  ebd (needS W E [91] (i + 1)) fun j => ebd (smallS W E j) fun v => ebd (needS W E [93] v.2) fun j => .ok ([⟨op, v.1, []⟩], j)
def resB (s : List UInt8) : Bool := decide (s = [116] ∨ s = [121] ∨ s = [112] ∨ s = [108, 101, 116])
def nameS (W : List M_lex_Word) (E : Int) (i : Nat) : Except Int (List UInt8 × Nat) := if (nxW W i).Kind ≠ 2 ∨ resB ((nxW W i).Text) = true then .error (nxA W E i) else .ok ((nxW W i).Text, i + 1)
def fndS : List (List UInt8) → List UInt8 → Nat → Int
  | [], _, _ => -1
  | x :: l, s, i => if x = s then (i : Int) else fndS l s (i + 1)
section
variable {W : List M_lex_Word} {E d : Int} {Nm : List (List UInt8)} {i : Nat}
theorem m_need_eq (hi : i ≤ 100000) (t : List UInt8) : m___parse_reader__need W (i : Int) E d Nm t = cvP (fun j : Nat => (W, (j : Int), E, d)) (needS W E t i) := by
  unfold m___parse_reader__need needS
  rw [m_has_eq hi, sbind, bifnd]
  by_cases h : (nxW W i).Text = t
  · simp only [if_pos h]; rfl
  · simp only [if_neg h]; rw [m_fail_eq, exK_err]; rfl
theorem isD_word {w : M_lex_Word} (h : wdB w.Kind w.Text = true) (hk : w.Kind = 1) : isD w.Text ∧ w.Text ≠ [] ∧ w.Text.length ≤ 60 := by
  cases hw : w.Text with
  | nil => rw [hw] at h; simp [wdB] at h
  | cons c r =>
    rw [hw] at h
    obtain ⟨_, h1, h2, h3⟩ := (wdB_cons _ _ _).1 h
    rw [hk] at h1 h2 h3
    have hd : ∀ c : Nat, digB c = true → 48 ≤ c ∧ c ≤ 57 := fun c h => by simpa [digB] using h
    refine ⟨fun b hb => ?_, by simp, ?_⟩
    · rcases List.mem_cons.1 hb with rfl | hb
      · refine hd _ ?_
        unfold kindC at h1
        by_cases hh : digB b.toNat = true
        · exact hh
        · rw [if_neg hh] at h1
          split at h1
          · omega
          · split at h1 <;> omega
      · have := List.all_eq_true.1 h2 b hb
        exact hd _ (by simpa [goC] using this)
    · have : mostC 1 = 60 := by decide
      rw [this] at h3; simp; omega
theorem word1 (hW : WOk W) (hk : (nxW W i).Kind = 1) : isD ((nxW W i).Text) ∧ (nxW W i).Text ≠ [] ∧ ((nxW W i).Text).length ≤ 60 :=
  isD_word (hW.2 _ (nxW_mem (nxK_lt (by rw [hk]; decide)))) hk
theorem parse_dig : ∀ {s : List UInt8} {v : Nat}, isD s → v < 1000000000 → s.length ≤ 3 → Lib.parseUint10 v s = .ok (numD s v)
  | [], v, _, _, _ => by unfold Lib.parseUint10 numD; rfl
  | c :: r, v, hD, hv, hl => by
    have ⟨h1, h2⟩ := hD c (.head _)
    unfold Lib.parseUint10 numD
    simp only [List.length_cons] at hl
    rw [if_pos ⟨h1, h2⟩, if_neg (by omega), if_neg (by omega)]
    cases r with
    | nil => unfold Lib.parseUint10 numD; rfl
    | cons c2 r =>
      have ⟨h3, h4⟩ := hD c2 (.tail _ (.head _))
      unfold Lib.parseUint10 numD
      simp only [List.length_cons] at hl
      rw [if_pos ⟨h3, h4⟩, if_neg (by omega), if_neg (by omega)]
      cases r with
      | nil => unfold Lib.parseUint10 numD; rfl
      | cons c3 r =>
        have ⟨h5, h6⟩ := hD c3 (.tail _ (.tail _ (.head _)))
        unfold Lib.parseUint10 numD
        simp only [List.length_cons] at hl
        rw [if_pos ⟨h5, h6⟩, if_neg (by omega), if_neg (by omega)]
        cases r with
        | nil => unfold Lib.parseUint10 numD; rfl
        | cons _ _ => simp only [List.length_cons] at hl; omega
theorem numD3 {s : List UInt8} (hD : isD s) (hl : s.length ≤ 3) : numD s 0 < 1000 := by
  have h := numD_lt hD 0 0 (by rw [tp_zero]; omega)
  have := tp_le (show 0 + s.length ≤ 3 by omega)
  have e : tp 3 = 1000 := by decide
  omega
theorem m_atoi_eq {s : List UInt8} (hD : isD s) (hne : s ≠ []) (hl : s.length ≤ 3) : m_strconv_Atoi s = some (((numD s 0 : Nat) : Int), false) := by
  have h3 := numD3 hD hl
  have ha : Lib.atoiAll s = .ok (numD s 0 : Nat) := by
    cases s with
    | nil => exact absurd rfl hne
    | cons c r =>
      have hc := hD c (.head _)
      unfold Lib.atoiAll
      simp only []
      rw [if_neg (by omega)]
      unfold Lib.parseMag
      rw [if_neg (by simp), parse_dig hD (by omega) hl]
      simp only []
      rw [if_neg (by omega), if_neg (by omega), if_neg (by omega)]
  unfold m_strconv_Atoi
  rw [if_pos (by omega), ha]
theorem m_small_eq (hi : i ≤ 100000) (hW : WOk W) : m___parse_reader__small W (i : Int) E d Nm = cvP (fun v : Int × Nat => (v.1, W, (v.2 : Int), E, d)) (smallS W E i) := by
  unfold m___parse_reader__small smallS
  rw [m_next_eq hi, sbind]
  simp only [jn_eq, bifnd]
  by_cases hk : (nxW W i).Kind = 1
  · obtain ⟨hD, hne, _⟩ := word1 hW hk
    rw [if_pos hk]
    by_cases hl : 3 < ((nxW W i).Text).length
    · rw [if_pos (.inr hl), decide_eq_true (show (3 : Int) < (((nxW W i).Text).length : Int) by omega), bifT, m_fail_eq, exK_err, cvP_err]
    · rw [if_neg (show ¬ ((nxW W i).Kind ≠ 1 ∨ 3 < ((nxW W i).Text).length) from fun h => h.elim (fun h => h hk) hl), decide_eq_false (show ¬ (3 : Int) < (((nxW W i).Text).length : Int) by omega), bifF, m_atoi_eq hD hne (by omega), sbind, w1n hi, cvP_ok]
  · rw [if_neg hk, if_pos (.inl hk), bifT, m_fail_eq, exK_err, cvP_err]
theorem smallS_ok {v : Int × Nat} (h : smallS W E i = .ok v) : v.2 = i + 1 ∧ i < W.length := by
  unfold smallS at h
  split at h
  · cases h
  · rename_i hc
    cases h
    exact ⟨rfl, nxK_lt (by omega)⟩
theorem needS_ok {t : List UInt8} {j : Nat} (ht : t ≠ []) (h : needS W E t i = .ok j) : j = i + 1 ∧ i < W.length := by
  unfold needS at h
  split at h
  · rename_i hc
    cases h
    exact ⟨rfl, nx_lt ht hc⟩
  · cases h
theorem m_comp_eq (hi : i ≤ 90000) (hW : WOk W) (op : Int) : m___parse_reader__component W (i : Int) E d Nm op = cvP (fun v : List M_tree_Node × Nat => (v.1, W, (v.2 : Int), E, d)) (compS W E op i) := by
  have hWl := hW.1
  unfold m___parse_reader__component compS
  rw [w1n (by omega), m_need_eq (by omega)]
  cases h1 : needS W E [91] (i + 1) with
  | error p => rw [cvP_err, exK_err, ebd_err, cvP_err]
  | ok j =>
    obtain ⟨rfl, _⟩ := needS_ok (by simp) h1
    rw [cvP_ok, exK_ok, ebd_ok]
    simp only []
    rw [m_small_eq (by omega) hW]
    cases h2 : smallS W E (i + 1 + 1) with
    | error p => rw [cvP_err, exK_err, ebd_err, cvP_err]
    | ok v =>
      obtain ⟨h3, _⟩ := smallS_ok h2
      rw [cvP_ok, exK_ok, ebd_ok]
      simp only []
      rw [m_need_eq (by omega)]
      cases h4 : needS W E [93] v.2 with
      | error p => rw [cvP_err, exK_err, ebd_err, cvP_err]
      | ok j => rw [cvP_ok, exK_ok, ebd_ok, cvP_ok]
theorem compS_ok {op : Int} {v : List M_tree_Node × Nat} (h : compS W E op i = .ok v) (hi : i < W.length) : i < v.2 ∧ v.2 ≤ W.length ∧ v.1.length = 1 := by
  unfold compS at h
  cases h1 : needS W E [91] (i + 1) with
  | error p => rw [h1, ebd_err] at h; cases h
  | ok j =>
    rw [h1, ebd_ok] at h
    obtain ⟨rfl, _⟩ := needS_ok (by simp) h1
    cases h2 : smallS W E (i + 1 + 1) with
    | error p => rw [h2, ebd_err] at h; cases h
    | ok w =>
      rw [h2, ebd_ok] at h
      obtain ⟨h3, _⟩ := smallS_ok h2
      cases h4 : needS W E [93] w.2 with
      | error p => rw [h4, ebd_err] at h; cases h
      | ok j =>
        rw [h4, ebd_ok] at h
        obtain ⟨rfl, _⟩ := needS_ok (by simp) h4
        cases h
        exact ⟨by simp only []; omega, by simp only []; omega, rfl⟩
theorem m_reserved_eq (s : List UInt8) : m_parse_reserved s = some (resB s) := by
  unfold m_parse_reserved resB
  simp only [jn_eq, bifd]
  grind
theorem m_name_eq (hi : i ≤ 100000) : m___parse_reader__name W (i : Int) E d Nm = cvP (fun v : List UInt8 × Nat => (v.1, W, (v.2 : Int), E, d)) (nameS W E i) := by
  unfold m___parse_reader__name nameS
  rw [m_next_eq hi, sbind]
  simp only [jn_eq, bifnd, m_reserved_eq, sbind]
  by_cases hk : (nxW W i).Kind = 2
  · rw [if_pos hk]
    by_cases hr : resB ((nxW W i).Text) = true
    · rw [if_pos (.inr hr), hr, bifT, m_fail_eq, exK_err, cvP_err]
    · rw [if_neg (by simp [hk, hr]), show resB ((nxW W i).Text) = false by simpa using hr, bifF, w1n hi, cvP_ok]
  · rw [if_neg hk, if_pos (.inl hk), bifT, m_fail_eq, exK_err, cvP_err]
theorem nameS_ok {v : List UInt8 × Nat} (h : nameS W E i = .ok v) : v.2 = i + 1 ∧ i < W.length ∧ v.1 = (nxW W i).Text := by
  unfold nameS at h
  split at h
  · cases h
  · rename_i hc
    cases h
    exact ⟨rfl, nxK_lt (by omega), rfl⟩
theorem m_meant_eq {x a b c : _} (s : List UInt8) : m___parse_reader__meant x a b c Nm s = some (fndS Nm s 0) := by
  unfold m___parse_reader__meant
  have key : ∀ (l : List (List UInt8)) (k : Nat), (rangeL (fun (i7 : Nat) (x8 : (List UInt8)) (_ : Unit) =>
      bif decide (x8 = s) then (some (Lp.out ((i7 : Int)))) else (some (Lp.go ()))) l k ()).bind (lpK fun (_ : Unit) => some (-1 : Int)) = some (fndS l s k) := by
    intro l
    induction l with
    | nil => intro k; rfl
    | cons x l ih =>
      intro k
      simp only [rangeL, bifd, fndS]
      by_cases h : x = s
      · rw [if_pos h, if_pos h, sbind]; simp only []; rw [sbind, lpK_out]
      · rw [if_neg h, if_neg h, sbind]; simp only []
        have := ih (k + 1)
        simp only [bifd] at this
        exact this
  exact key Nm 0
theorem m_open_eq {r : Nat} (hi : 1 ≤ i) (hi2 : i ≤ 100000) (hr : r ≤ 40) : m___parse_reader__open W (i : Int) E ((40 - r : Nat) : Int) Nm = cvP (fun _ : Unit => (W, (i : Int), E, ((40 - r : Nat) : Int) + 1)) (if r = 0 then .error (nxA W E (i - 1)) else .ok ()) := by
  unfold m___parse_reader__open
  simp only [jn_eq, bifd]
  by_cases h : r = 0
  · subst h
    rw [if_pos (by omega), if_pos rfl, w64 (by omega) (by omega), show (i : Int) - 1 = ((i - 1 : Nat) : Int) by omega, m_fail_eq, exK_err, cvP_err]
  · rw [if_neg (by omega), if_neg h, w64 (by omega) (by omega), cvP_ok]
end
end Go.Proofs.YtpomhkkhdojpiaaDoor
