import Derived.Test.YtpomhkkhdojpiaaDoorPlTree
namespace Go.Proofs.YtpomhkkhdojpiaaDoor
open Go Go.RowKit
/-! ### Words -/
def digB (c : Nat) : Bool := decide (48 ≤ c ∧ c ≤ 57)
def letB (c : Nat) : Bool := decide (97 ≤ c ∧ c ≤ 122 ∨ 65 ≤ c ∧ c ≤ 90 ∨ c = 95)
def sgnL : List UInt8 := [43, 45, 42, 47, 94, 40, 41, 91, 93, 44, 59, 61]
def sgnB (c : Nat) : Bool := sgnL.any (fun x => x.toNat = c)
def kindC (c : Nat) : Int := if digB c then 1 else if letB c then 2 else if sgnB c then 3 else 0
def goC (k : Int) (c : Nat) : Bool := (decide (k = 1) && digB c) || (decide (k = 2) && (letB c || digB c))
def mostC (k : Int) : Nat := if k = 1 then 60 else if k = 2 then 12 else 1
def wdB (k : Int) : List UInt8 → Bool
  | [] => false
  | c :: r => decide (k ≠ 0) && (decide (kindC c.toNat = k) && (r.all (fun b => goC k b.toNat) && decide (r.length + 1 ≤ mostC k)))
theorem m_lex_digit_eq (c : Nat) : m_lex_digit c = some (digB c) := by
  unfold m_lex_digit digB; simp only [jn_eq, bifd]; grind
theorem m_lex_letter_eq (c : Nat) : m_lex_letter c = some (letB c) := by
  unfold m_lex_letter letB; simp only [jn_eq, bifd]; grind
theorem decR_ascii {s : List UInt8} {p : Nat} {c : UInt8} (h : s[p]? = some c) (hc : c.toNat < 128) : decR s p = c.toNat ∧ decW s p = 1 := by
  have h1 : ((⟨s.toArray⟩ : ByteArray).get! (p + 0)).toNat = c.toNat := by
    have hp := lt_of_get h
    have : ((⟨s.toArray⟩ : ByteArray).get! (p + 0)) = c := by
      show s.toArray[p + 0]! = c
      simp [h]
    rw [this]
  unfold decR decW Utf8.decode
  simp only [h1]
  rw [if_pos hc]; exact ⟨rfl, rfl⟩
theorem m_lex_sign_eq {n c : Nat} (hn : big ≤ n) : m_lex_sign n c = some (sgnB c) := by
  unfold m_lex_sign
  unfold big at hn
  have e : sgnB c = runG (τ := Bool) (fun _ (x : UInt8) (_ : Unit) => if x.toNat = c then .inr true else .inl ()) (fun _ => false) sgnL 0 () := by
    unfold sgnB
    have : ∀ (l : List UInt8) (i : Nat), l.any (fun x => decide (x.toNat = c)) = runG (τ := Bool) (fun _ (x : UInt8) (_ : Unit) => if x.toNat = c then .inr true else .inl ()) (fun _ => false) l i () := by
      intro l
      induction l with
      | nil => intro i; rfl
      | cons x l ih =>
        intro i
        simp only [List.any_cons, runG]
        by_cases h : x.toNat = c
        · simp [h]
        · simp only [decide_eq_false h, if_neg h, Bool.false_or]; exact ih (i + 1)
    exact this _ 0
  rw [e]
  refine loop_lpK (fun _ i => i) (fun _ (x : UInt8) (_ : Unit) => if x.toNat = c then .inr true else .inl ()) (fun _ => ()) _ (fun _ _ => True) sgnL () (fun i x b hx _ => ⟨?_, fun _ _ => trivial⟩) (fun b _ => by simp [bifd, sgnL]) (fun b _ => rfl) trivial (by simp [sgnL]; omega)
  have hi := lt_of_get hx
  have hlt : x.toNat < 128 := by
    have : ∀ y ∈ sgnL, y.toNat < 128 := by decide
    exact this x (mem_of_get hx)
  obtain ⟨e1, e2⟩ := decR_ascii hx hlt
  have e1' : decR [43, 45, 42, 47, 94, 40, 41, 91, 93, 44, 59, 61] i = x.toNat := e1
  have e2' : decW [43, 45, 42, 47, 94, 40, 41, 91, 93, 44, 59, 61] i = 1 := e2
  have hi' : i < ([43, 45, 42, 47, 94, 40, 41, 91, 93, 44, 59, 61] : List UInt8).length := hi
  simp only [bifd, if_pos hi', sbind, e1', e2']
  rw [show Int.toNat ((x.toNat : Int) % 256) = x.toNat by omega]
  by_cases h : x.toNat = c
  · rw [if_pos h, if_pos h]; rfl
  · rw [if_neg h, if_neg h]; rfl
theorem m_lex_kind_eq {n c : Nat} (hn : big ≤ n) : m_lex_kind n c = some (kindC c) := by
  unfold m_lex_kind kindC
  rw [m_lex_digit_eq, sbind]
  cases digB c with
  | true => rfl
  | false =>
    rw [bifF, m_lex_letter_eq, sbind]
    cases letB c with
    | true => rfl
    | false => rw [bifF, m_lex_sign_eq hn, sbind]; cases sgnB c <;> rfl
theorem m_lex_goes_eq (k : Int) (c : Nat) : m_lex_goes k c = some (goC k c) := by
  unfold m_lex_goes goC
  simp only [jn_eq, m_lex_digit_eq, m_lex_letter_eq, sbind, bifd]
  by_cases h1 : k = 1
  · subst h1; cases digB c <;> simp
  · by_cases h2 : k = 2
    · subst h2; cases letB c <;> cases digB c <;> simp
    · simp [h1, h2]
theorem m_lex_most_eq (k : Int) : m_lex_most k = some (mostC k : Int) := by
  unfold m_lex_most mostC; simp only [bifd]; grind
def firstL (k : Int) (s : List UInt8) : Nat := 1 + ((s.drop 1).takeWhile (fun c => goC k c.toNat)).length
theorem takeWhile_take {α : Type} (p : α → Bool) (l : List α) : (l.takeWhile p) = l.take (l.takeWhile p).length := by
  induction l with
  | nil => rfl
  | cons x l ih =>
    rw [List.takeWhile_cons]
    cases p x with
    | true => simp only [if_true, List.length_cons, List.take_succ_cons]; rw [← ih]
    | false => rfl
theorem takeWhile_get {α : Type} {p : α → Bool} : ∀ {l : List α} {i : Nat}, i < (l.takeWhile p).length → ∃ x, l[i]? = some x ∧ p x = true
  | [], i, h => by simp at h
  | y :: l, 0, h => by
    cases hy : p y with
    | true => exact ⟨y, rfl, hy⟩
    | false => rw [List.takeWhile_cons, hy] at h; simp at h
  | y :: l, i + 1, h => by
    rw [List.takeWhile_cons] at h
    cases hy : p y with
    | true => rw [hy] at h; simp only [if_true, List.length_cons] at h; exact takeWhile_get (l := l) (i := i) (by omega)
    | false => rw [hy] at h; simp at h
theorem takeWhile_end {α : Type} {p : α → Bool} : ∀ {l : List α} {x : α}, l[(l.takeWhile p).length]? = some x → p x = false
  | [], x, h => by simp at h
  | y :: l, x, h => by
    rw [List.takeWhile_cons] at h
    cases hy : p y with
    | true => rw [hy] at h; simp only [if_true, List.length_cons, List.getElem?_cons_succ] at h; exact takeWhile_end h
    | false => rw [hy] at h; simp at h; rw [← h]; exact hy
theorem takeWhile_le {α : Type} (p : α → Bool) (l : List α) : (l.takeWhile p).length ≤ l.length := (List.takeWhile_sublist p).length_le
theorem m_lex_first_eq {n : Nat} {s : List UInt8} {k : Int} (hn : big ≤ n) (hs : s.length ≤ 4611686018427387904) : m_lex_first n s k = some (firstL k s : Int) := by
  unfold m_lex_first
  unfold big at hn
  generalize hp : (fun c : UInt8 => goC k c.toNat) = p
  have hp' : ∀ c : UInt8, goC k c.toNat = p c := fun c => by rw [← hp]
  have hlen : ((s.drop 1).takeWhile p).length ≤ s.length := Nat.le_trans (takeWhile_le _ _) (by simp)
  have hF : firstL k s = 1 + ((s.drop 1).takeWhile p).length := by unfold firstL; rw [hp]
  rw [hF]
  refine loop_bind (fun s' : Int => s.length + 2 - s'.toNat) (fun s' => ∃ j : Nat, s' = ((1 + j : Nat) : Int) ∧ j ≤ ((s.drop 1).takeWhile p).length) (fun t => t = ((1 + ((s.drop 1).takeWhile p).length : Nat) : Int)) ⟨0, rfl, Nat.zero_le _⟩ (by simp; omega) (fun s' hI => ?_) (fun t ht => by rw [ht])
  obtain ⟨j, rfl, hj⟩ := hI
  simp only [jn_eq, bifd]
  by_cases hl : 1 + j < s.length
  · rw [if_pos (by omega), getS_get hl, sbind, m_lex_goes_eq, sbind]
    have hg : (s.drop 1)[j]? = some s[1 + j] := by rw [List.getElem?_drop, List.getElem?_eq_getElem hl]
    by_cases hj2 : j < ((s.drop 1).takeWhile p).length
    · obtain ⟨x, h1, h2⟩ := takeWhile_get hj2
      rw [hg] at h1; cases h1
      left
      refine ⟨((1 + (j + 1) : Nat) : Int), ?_, ⟨j + 1, rfl, by omega⟩, by omega⟩
      have : goC k (s[1 + j]).toNat = true := by rw [hp']; exact h2
      rw [this, bifT, w1 (by omega)]; rfl
    · right
      obtain rfl : j = ((s.drop 1).takeWhile p).length := by omega
      have h2 := takeWhile_end hg
      refine ⟨_, ?_, rfl⟩
      have : goC k (s[1 + ((s.drop 1).takeWhile p).length]).toNat = false := by rw [hp']; exact h2
      rw [this, bifF]
  · right
    rw [if_neg (by omega)]
    refine ⟨_, rfl, ?_⟩
    have : ((s.drop 1).takeWhile p).length ≤ (s.drop 1).length := takeWhile_le _ _
    rw [List.length_drop] at this
    have : j = ((s.drop 1).takeWhile p).length := by omega
    rw [this]
theorem all_takeWhile {α : Type} {p : α → Bool} : ∀ {l : List α}, (l.takeWhile p).length = l.length ↔ l.all p = true
  | [] => by simp
  | x :: l => by
    rw [List.takeWhile_cons]
    cases hx : p x with
    | true => simp [hx, all_takeWhile]
    | false => simp [hx]
theorem m_lex_Right_eq {n : Nat} {w : M_lex_Word} (hn : big ≤ n) (hs : w.Text.length ≤ 4611686018427387904) : m_lex_Right n w = some (wdB w.Kind w.Text) := by
  unfold m_lex_Right
  simp only [jn_eq, m_lex_first_eq hn hs, sbind, m_lex_most_eq, bifd]
  cases hw : w.Text with
  | nil => rfl
  | cons c r =>
    rw [if_neg (by simp)]
    by_cases h0 : w.Kind = 0
    · rw [if_pos h0, bifT]; simp [wdB, h0]
    · rw [if_neg h0, show getS (c :: r) (0 : Int) = some c.toNat by rfl, sbind, m_lex_kind_eq hn, sbind]
      by_cases hk : kindC c.toNat = w.Kind
      · simp only [decide_eq_true hk, Bool.not_true, bifF]
        have hl : (firstL w.Kind (c :: r) : Int) = ((c :: r).length : Int) ↔ r.all (fun b => goC w.Kind b.toNat) = true := by
          rw [← all_takeWhile]; unfold firstL; simp only [List.drop_succ_cons, List.drop_zero, List.length_cons]; omega
        by_cases ha : r.all (fun b => goC w.Kind b.toNat) = true
        · rw [if_pos (hl.2 ha)]; simp only [wdB, ha, hk]; simp
          congr 1
          rw [Bool.eq_iff_iff]; simp; omega
        · rw [if_neg (fun h => ha (hl.1 h))]
          have : r.all (fun b => goC w.Kind b.toNat) = false := by simpa using ha
          simp only [wdB, this, Bool.false_and, Bool.and_false]
      · simp only [decide_eq_false hk, Bool.not_false, bifT]
        simp [wdB, hk]
/-! #### The reference's words -/
theorem m_ref16_digit_eq (c : Nat) : m_retrospectref16_digit c = some (digB c) := by
  unfold m_retrospectref16_digit digB; simp only [jn_eq, bifd]; grind
theorem m_ref16_letter_eq (c : Nat) : m_retrospectref16_letter c = some (letB c) := by
  unfold m_retrospectref16_letter letB; simp only [jn_eq, bifd]; grind
theorem m_ref16_more_eq (k : Int) (c : Nat) : m_retrospectref16_more k c = some (goC k c) := by
  unfold m_retrospectref16_more goC
  simp only [jn_eq, m_ref16_digit_eq, m_ref16_letter_eq, sbind, bifd]
  by_cases h1 : k = 1
  · subst h1; cases digB c <;> simp
  · by_cases h2 : k = 2
    · subst h2; cases letB c <;> cases digB c <;> simp
    · simp [h1, h2]
theorem m_ref16_Most_eq (k : Int) : m_retrospectref16_Most k = some (mostC k : Int) := by
  unfold m_retrospectref16_Most mostC; simp only [bifd]; grind
theorem m_ref16_Kind_eq {n c : Nat} (hn : big ≤ n) : m_retrospectref16_Kind n c = some (kindC c) := by
  unfold m_retrospectref16_Kind kindC
  rw [m_ref16_digit_eq, sbind]
  cases digB c with
  | true => rfl
  | false =>
    rw [bifF, m_ref16_letter_eq, sbind]
    cases letB c with
    | true => rfl
    | false =>
      rw [bifF]
      unfold big at hn
      have e : (if sgnB c = true then (3 : Int) else 0) = runG (τ := Int) (fun _ (x : UInt8) (_ : Unit) => if x.toNat = c then .inr 3 else .inl ()) (fun _ => 0) sgnL 0 () := by
        unfold sgnB
        have : ∀ (l : List UInt8) (i : Nat), (if l.any (fun x => decide (x.toNat = c)) = true then (3 : Int) else 0) = runG (τ := Int) (fun _ (x : UInt8) (_ : Unit) => if x.toNat = c then .inr 3 else .inl ()) (fun _ => 0) l i () := by
          intro l
          induction l with
          | nil => intro i; rfl
          | cons x l ih =>
            intro i
            simp only [List.any_cons, runG]
            by_cases h : x.toNat = c
            · simp [h]
            · simp only [decide_eq_false h, if_neg h, Bool.false_or]; exact ih (i + 1)
        exact this _ 0
      simp only [Bool.false_eq_true, if_false]
      rw [e]
      refine loop_lpK (fun _ i => (i : Int)) (fun _ (x : UInt8) (_ : Unit) => if x.toNat = c then .inr (3 : Int) else .inl ()) (fun _ => ()) _ (fun _ _ => True) sgnL () (fun i x b hx _ => ⟨?_, fun _ _ => trivial⟩) (fun b _ => by simp [bifd, sgnL]) (fun b _ => rfl) trivial (by simp [sgnL]; omega)
      have hi := lt_of_get hx
      have hi' : i < ([43, 45, 42, 47, 94, 40, 41, 91, 93, 44, 59, 61] : List UInt8).length := hi
      have hg : getS [43, 45, 42, 47, 94, 40, 41, 91, 93, 44, 59, 61] (i : Int) = some x.toNat := by
        rw [getS_cast]; have : ([43, 45, 42, 47, 94, 40, 41, 91, 93, 44, 59, 61] : List UInt8)[i]? = some x := hx
        rw [this]; rfl
      simp only [bifd, sbind, if_pos (show (i : Int) < (([43, 45, 42, 47, 94, 40, 41, 91, 93, 44, 59, 61] : List UInt8).length : Int) by omega), hg]
      by_cases h : x.toNat = c
      · rw [if_pos h, if_pos h]; rfl
      · rw [if_neg h, if_neg h, w1 (by simp at hi'; omega)]; rfl
end Go.Proofs.YtpomhkkhdojpiaaDoor
