import Derived.Test.YtiobbiamnjapgaaGreatDoorPlWire
namespace Go.Proofs.YtiobbiamnjapgaaGreatDoor
open Go Go.RowKit
/-! ### Taken apart -/
theorem m_strings_Cut_eq (c : UInt8) {s : List UInt8} (h : s.length < 4294967281) : m_strings_Cut s [c] = some (cutC c.toNat s) := by
  simp only [m_strings_Cut, if_pos h]
theorem tw_take {α : Type} (p : α → Bool) (l : List α) : l.takeWhile p = l.take (l.takeWhile p).length := takeWhile_take p l
theorem dw_drop {α : Type} (p : α → Bool) : ∀ (l : List α), l.dropWhile p = l.drop (l.takeWhile p).length
  | [] => rfl
  | a :: l => by
    rw [List.dropWhile_cons, List.takeWhile_cons]
    cases p a
    · rfl
    · simp [dw_drop p l]
theorem any_tw (c : Nat) : ∀ (l : List UInt8), (l.any fun b => !ntc c b) = true ↔ (l.takeWhile (ntc c)).length < l.length
  | [] => by simp
  | a :: l => by
    rw [List.any_cons, List.takeWhile_cons]
    cases h : ntc c a
    · simp
    · simp only [Bool.not_true, Bool.false_or, any_tw c l, if_true, List.length_cons]; omega
theorem tw_at {c : Nat} {l : List UInt8} (h : (l.takeWhile (ntc c)).length < l.length) : ∃ x, l[(l.takeWhile (ntc c)).length]? = some x ∧ x.toNat = c := by
  refine ⟨l[(l.takeWhile (ntc c)).length], List.getElem?_eq_getElem h, ?_⟩
  have := takeWhile_end (List.getElem?_eq_getElem h)
  simpa [ntc] using this
theorem tw_app {c : Nat} {u : List UInt8} (hu : ∀ b ∈ u, b.toNat ≠ c) {x : UInt8} (hx : x.toNat = c) (r : List UInt8) : (u ++ x :: r).takeWhile (ntc c) = u ∧ (u ++ x :: r).dropWhile (ntc c) = x :: r := by
  induction u with
  | nil => simp [ntc, hx]
  | cons a u ih =>
    have ha : ntc c a = true := by simp [ntc, hu a (.head _)]
    obtain ⟨h1, h2⟩ := ih fun b hb => hu b (.tail _ hb)
    simp [ha, h1, h2]
theorem drop_of_get {α : Type} {l : List α} {i : Nat} {x : α} (h : l[i]? = some x) : l.drop i = x :: l.drop (i + 1) := by
  have hi := lt_of_get h
  rw [List.drop_eq_getElem_cons hi]
  congr 1
  rw [List.getElem?_eq_getElem hi] at h; exact Option.some.inj h
theorem wn {x : Int} (y : Nat) (h : x = (y : Int)) (hy : y < 9223372036854775808) : wrap64 x = (y : Int) := by rw [w64 (by omega) (by omega)]; exact h
theorem wnn (a b : Nat) (h : a + b < 9223372036854775807) : wrap64 ((a : Int) + wrap64 ((b : Int) + 1)) = ((a + b + 1 : Nat) : Int) := by
  rw [w64 (x := (b : Int) + 1) (by omega) (by omega), w64 (by omega) (by omega)]; omega
theorem wadd (x y : Nat) (h : x + y < 9223372036854775808) : wrap64 ((x : Int) + (y : Int)) = ((x + y : Nat) : Int) := by rw [w64 (by omega) (by omega)]; omega
theorem tw_split {c : Nat} {l : List UInt8} {x : UInt8} (h : l[(l.takeWhile (ntc c)).length]? = some x) : l = l.takeWhile (ntc c) ++ x :: (l.dropWhile (ntc c)).drop 1 := by
  have e : l.dropWhile (ntc c) = x :: (l.dropWhile (ntc c)).drop 1 := by rw [dw_drop, drop_of_get h]; rfl
  exact (List.takeWhile_append_dropWhile (p := ntc c) (l := l)).symm.trans (congrArg (l.takeWhile (ntc c) ++ ·) e)
theorem t61 : UInt8.toNat 61 = 61 := by decide
theorem t58 : UInt8.toNat 58 = 58 := by decide
def nmW (r : List UInt8) : List UInt8 := r.takeWhile (ntc 61)
def r1W (r : List UInt8) : List UInt8 := (r.dropWhile (ntc 61)).drop 1
def nuW (r : List UInt8) : List UInt8 := (r1W r).takeWhile (ntc 58)
def r2W (r : List UInt8) : List UInt8 := ((r1W r).dropWhile (ntc 58)).drop 1
theorem cut61 (r : List UInt8) : cutC (UInt8.toNat 61) r = (nmW r, r1W r, r.any fun b => !ntc 61 b) := by rw [t61]; unfold cutC nmW r1W; rfl
theorem cut58 (r : List UInt8) : cutC (UInt8.toNat 58) (r1W r) = (nuW r, r2W r, (r1W r).any fun b => !ntc 58 b) := by rw [t58]; unfold cutC nuW r2W; rfl
def stepW (L a : Nat) (r : List UInt8) : (M_wire_Piece × Nat) ⊕ Nat :=
  if wdB 2 (nmW r) = false then .inr a
  else if (r.any fun b => !ntc 61 b) = false then .inr L
  else if lngW (nuW r) < 0 ∨ ((r1W r).any fun b => !ntc 58 b) = false then .inr (a + (nmW r).length + 1)
  else if (r2W r).length < (lngW (nuW r)).toNat + 1 then .inr L
  else if (r2W r)[(lngW (nuW r)).toNat]? ≠ some 59 then .inr (a + (nmW r).length + 1 + (nuW r).length + 1 + (lngW (nuW r)).toNat)
  else .inl (⟨nmW r, (r2W r).take (lngW (nuW r)).toNat⟩, a + (nmW r).length + 1 + (nuW r).length + 1 + (lngW (nuW r)).toNat + 1)
theorem nmW_le (r : List UInt8) : (nmW r).length ≤ r.length := takeWhile_le _ _
theorem r1W_len (r : List UInt8) : (r1W r).length = r.length - ((nmW r).length + 1) := by
  unfold r1W nmW; rw [dw_drop, List.length_drop, List.length_drop]; omega
theorem nuW_le (r : List UInt8) : (nuW r).length ≤ (r1W r).length := takeWhile_le _ _
theorem r2W_len (r : List UInt8) : (r2W r).length = (r1W r).length - ((nuW r).length + 1) := by
  unfold r2W nuW; rw [dw_drop, List.length_drop, List.length_drop]; omega
def encW (rd : M_wire_reader) : (M_wire_Piece × Nat) ⊕ Nat → M_wire_Piece × M_api_Fault × M_wire_reader
  | .inl (p, _) => (p, ⟨0, 0, 0, 0⟩, rd)
  | .inr f => (⟨[], []⟩, ⟨1, 0, 0, f⟩, rd)
theorem m_piece_eq {n : Nat} {s : List UInt8} {a : Nat} (hn : big ≤ n) (hs : s.length ≤ 1000000) (ha : a ≤ s.length) :
    ∃ rd, m___wire_reader__piece n ⟨s, (a : Int)⟩ = some (encW rd (stepW s.length a (s.drop a))) ∧ ∀ p a', stepW s.length a (s.drop a) = .inl (p, a') → rd = ⟨s, (a' : Int)⟩ := by
  have hr : (s.drop a).length ≤ s.length := by simp
  have l1 := nmW_le (s.drop a)
  have l2 := r1W_len (s.drop a)
  have l3 := nuW_le (s.drop a)
  have l4 := r2W_len (s.drop a)
  have l5 := lngW_lt (nuW (s.drop a))
  unfold m___wire_reader__piece
  simp only []
  rw [sub_mid ha (Nat.le_refl _), List.take_length, sbind, m_strings_Cut_eq 61 (by omega), sbind, cut61]
  unfold stepW
  generalize s.drop a = r at *
  simp only []
  rw [m_wire_named_eq hn (by omega), sbind]
  cases h1 : wdB 2 (nmW r)
  · rw [if_pos rfl]
    exact ⟨_, rfl, fun _ _ h => by cases h⟩
  rw [if_neg (by decide)]
  simp only [Bool.not_true, bifF]
  cases h2 : r.any fun b => !ntc 61 b
  · rw [if_pos rfl]
    exact ⟨_, rfl, fun _ _ h => by cases h⟩
  rw [if_neg (by decide)]
  simp only [Bool.not_true, bifF]
  rw [m_strings_Cut_eq 58 (by omega), sbind, cut58]
  simp only []
  rw [m_wire_length_eq hn (by unfold maxLen; omega), sbind]
  have b2 : (nuW r).length ≤ 1000000 := by omega
  have b1 : (nmW r).length ≤ 1000000 := by omega
  have b0 : a ≤ 1000000 := by omega
  clear l1 l2 l3 l4 hr ha
  generalize lngW (nuW r) = lv at *
  simp only [jn_eq, bifd, sbind]
  rw [wnn a (nmW r).length (by omega), wnn (a + (nmW r).length + 1) (nuW r).length (by omega)]
  by_cases h3 : lv < 0
  · rw [if_pos h3, if_pos (show lv < 0 ∨ ((r1W r).any fun b => !ntc 58 b) = false from .inl h3), bifT]
    exact ⟨_, rfl, fun _ _ h => by cases h⟩
  rw [if_neg h3]
  cases h4 : (r1W r).any fun b => !ntc 58 b
  · rw [if_pos (show lv < 0 ∨ false = false from .inr rfl)]
    exact ⟨_, rfl, fun _ _ h => by cases h⟩
  rw [if_neg (show ¬ (lv < 0 ∨ true = false) by rintro (h | h); exact h3 h; cases h)]
  simp only [Bool.not_true, bifF]
  obtain ⟨v, hv⟩ : ∃ v : Nat, lv = (v : Int) := ⟨_, (Int.toNat_of_nonneg (by omega)).symm⟩
  rw [hv, Int.toNat_natCast]
  have hv5 : v < 100000 := by omega
  have b4 : a + (nmW r).length + 1 + (nuW r).length + 1 + v < 10000000 := by omega
  clear l5
  rw [w1 (i := v) (by omega), wadd (a + (nmW r).length + 1 + (nuW r).length + 1) v (by omega)]
  by_cases h5 : (r2W r).length < v + 1
  · rw [if_pos h5, if_pos (by omega)]
    exact ⟨_, rfl, fun _ _ h => by cases h⟩
  rw [if_neg h5, if_neg (by omega)]
  have hg : (r2W r)[v]? = some (r2W r)[v] := List.getElem?_eq_getElem (by omega)
  generalize (r2W r)[v] = x at hg
  rw [getS_cast, hg, Option.map_some, sbind, bifnd]
  by_cases h6 : x.toNat = 59
  · have hx : x = 59 := UInt8.toNat_inj.1 h6
    rw [if_pos h6, if_neg (by rw [hx]; simp), sub_take (by omega), sbind, w1 (i := a + (nmW r).length + 1 + (nuW r).length + 1 + v) (by omega)]
    exact ⟨_, rfl, fun p a' h => by cases h; rfl⟩
  · rw [if_neg h6, if_pos (by intro h; cases h; exact h6 rfl), m_wire_parse, sbind]
    exact ⟨_, rfl, fun _ _ h => by cases h⟩
/-- What a step that goes on has read. -/
theorem stepW_inl {L a : Nat} {r : List UInt8} {p : M_wire_Piece} {a' : Nat} (h : stepW L a r = .inl (p, a')) :
    wdB 2 p.Name = true ∧ p.Text.length ≤ r.length ∧ p.Text.length < 100000 ∧ r = pieceS p ++ r.drop (pieceS p).length ∧ a' = a + (pieceS p).length ∧ (pieceS p).length ≤ r.length ∧ 0 < (pieceS p).length := by
  unfold stepW at h
  split at h; · cases h
  rename_i h1
  split at h; · cases h
  rename_i h2
  split at h; · cases h
  rename_i h3
  split at h; · cases h
  rename_i h4
  split at h; · cases h
  rename_i h5
  simp only [Sum.inl.injEq, Prod.mk.injEq] at h
  obtain ⟨rfl, rfl⟩ := h
  obtain ⟨h3a, h3b⟩ := not_or.1 h3
  obtain ⟨b1, b2, b3⟩ := lngW_back (t := nuW r) (by omega)
  have l5 := lngW_lt (nuW r)
  have k1 := (any_tw 61 r).1 (by simpa using h2)
  have k2 := (any_tw 58 (r1W r)).1 (by simpa using h3b)
  obtain ⟨x, hx, hx'⟩ := tw_at k1
  obtain ⟨y, hy, hy'⟩ := tw_at k2
  have ex : x = 61 := UInt8.toNat_inj.1 hx'
  have ey : y = 58 := UInt8.toNat_inj.1 hy'
  subst ex; subst ey
  have d1 : r = nmW r ++ 61 :: r1W r := tw_split hx
  have d2 : r1W r = nuW r ++ 58 :: r2W r := tw_split hy
  obtain ⟨v, hv⟩ : ∃ v : Nat, lngW (nuW r) = (v : Int) := ⟨_, (Int.toNat_of_nonneg (by omega)).symm⟩
  rw [hv, Int.toNat_natCast] at h4 h5 b1 ⊢
  have h5' : (r2W r)[v]? = some 59 := by simpa using h5
  have d3 : r2W r = (r2W r).take v ++ 59 :: (r2W r).drop (v + 1) := by
    have := List.take_append_drop v (r2W r)
    rw [drop_of_get h5'] at this; exact this.symm
  have ht : ((r2W r).take v).length = v := by simp; omega
  have hp : pieceS ⟨nmW r, (r2W r).take v⟩ = nmW r ++ 61 :: (nuW r ++ 58 :: ((r2W r).take v ++ [59])) := by
    unfold pieceS; simp only []; rw [ht, ← b1]
  have hr : r = pieceS ⟨nmW r, (r2W r).take v⟩ ++ (r2W r).drop (v + 1) := by
    rw [hp]
    refine d1.trans ((congrArg (fun z => nmW r ++ 61 :: z) (d2.trans (congrArg (fun z => nuW r ++ 58 :: z) d3))).trans ?_)
    simp
  have hl : (pieceS ⟨nmW r, (r2W r).take v⟩).length = (nmW r).length + 1 + (nuW r).length + 1 + v + 1 := by
    rw [hp]; simp; omega
  have hlr := congrArg List.length hr
  rw [List.length_append] at hlr
  refine ⟨by simpa using h1, by simp only [ht]; omega, by simp only [ht]; omega, ?_, by rw [hl]; omega, by omega, by omega⟩
  have e : r.drop (pieceS ⟨nmW r, (r2W r).take v⟩).length = (r2W r).drop (v + 1) := (congrArg (List.drop (pieceS ⟨nmW r, (r2W r).take v⟩).length) hr).trans List.drop_left
  exact hr.trans (congrArg (pieceS ⟨nmW r, (r2W r).take v⟩ ++ ·) e.symm)
theorem name_no61 {s : List UInt8} (h : wdB 2 s = true) : ∀ b ∈ s, b.toNat ≠ 61 := by
  cases s with
  | nil => intro b hb; cases hb
  | cons c r =>
    obtain ⟨_, h2, h3, _⟩ := (wdB_cons 2 c r).1 h
    intro b hb hb'
    rcases List.mem_cons.1 hb with rfl | hb
    · rw [hb'] at h2; revert h2; decide
    · have := List.all_eq_true.1 h3 b hb
      rw [hb'] at this; revert this; decide
theorem stepW_piece {L a : Nat} {p : M_wire_Piece} (h1 : wdB 2 p.Name = true) (h2 : p.Text.length < 100000) (post : List UInt8) : stepW L a (pieceS p ++ post) = .inl (p, a + (pieceS p).length) := by
  have e0 : pieceS p ++ post = p.Name ++ 61 :: (dec p.Text.length ++ 58 :: (p.Text ++ 59 :: post)) := by unfold pieceS; simp
  obtain ⟨t1, t2⟩ := tw_app (c := 61) (name_no61 h1) (x := 61) rfl (dec p.Text.length ++ 58 :: (p.Text ++ 59 :: post))
  have hd : ∀ b ∈ dec p.Text.length, b.toNat ≠ 58 := fun b hb => by have := dec_isD b hb; omega
  obtain ⟨t3, t4⟩ := tw_app (c := 58) hd (x := 58) rfl (p.Text ++ 59 :: post)
  have f1 : nmW (pieceS p ++ post) = p.Name := by rw [e0]; exact t1
  have f2 : r1W (pieceS p ++ post) = dec p.Text.length ++ 58 :: (p.Text ++ 59 :: post) := by unfold r1W; rw [e0, t2]; rfl
  have f3 : nuW (pieceS p ++ post) = dec p.Text.length := by unfold nuW; rw [f2]; exact t3
  have f4 : r2W (pieceS p ++ post) = p.Text ++ 59 :: post := by unfold r2W; rw [f2, t4]; rfl
  have a1 : ((pieceS p ++ post).any fun b => !ntc 61 b) = true := by
    rw [any_tw]; show (nmW (pieceS p ++ post)).length < _; rw [f1, e0]; simp
  have a2 : ((r1W (pieceS p ++ post)).any fun b => !ntc 58 b) = true := by
    rw [any_tw]; show (nuW (pieceS p ++ post)).length < _; rw [f3, f2]; simp
  unfold stepW
  rw [a1, a2, f1, f3, f4, lngW_dec h2, Int.toNat_natCast, if_neg (by rw [h1]; decide), if_neg (by decide), if_neg (by rintro (h | h); omega; cases h), if_neg (by simp <;> omega), if_neg (by simp)]
  have : (pieceS p).length = p.Name.length + 1 + (dec p.Text.length).length + 1 + p.Text.length + 1 := by unfold pieceS; simp; omega
  rw [this, List.take_left']
  · congr 2; omega
  · rfl
/-! all pieces -/
def itW (s : List UInt8) : Nat → Nat → List M_wire_Piece → List M_wire_Piece ⊕ Nat
  | 0, _, _ => .inr 0
  | m + 1, a, out => if a < s.length then (match stepW s.length a (s.drop a) with
    | .inl (p, a') => itW s m a' (out ++ [p])
    | .inr f => .inr f) else .inl out
theorem itW_spec {s : List UInt8} : ∀ (m a : Nat) (out l : List M_wire_Piece), itW s m a out = .inl l → a ≤ s.length → s.take a = packW out → (∀ p ∈ out, wdB 2 p.Name = true ∧ p.Text.length ≤ s.length) →
    s = packW l ∧ ∀ p ∈ l, wdB 2 p.Name = true ∧ p.Text.length ≤ s.length
  | 0, _, _, _, h, _, _, _ => by cases h
  | m + 1, a, out, l, h, ha, ht, hp => by
    unfold itW at h
    split at h
    · rename_i h1
      split at h
      · rename_i p a' hs
        obtain ⟨g1, g2, _, g3, g4, g5, _⟩ := stepW_inl hs
        have hl : (s.drop a).length = s.length - a := by simp
        refine itW_spec m a' (out ++ [p]) l h (by omega) ?_ ?_
        · rw [packW_snoc, ← ht, g4, List.take_add, g3, List.take_left']; rfl
        · intro q hq
          rcases List.mem_append.1 hq with hq | hq
          · exact hp q hq
          · rw [List.mem_singleton.1 hq]; exact ⟨g1, by omega⟩
      · cases h
    · cases h
      exact ⟨by rw [← ht, List.take_of_length_le (by omega)], hp⟩
theorem packW_append (l r : List M_wire_Piece) : packW (l ++ r) = packW l ++ packW r := by unfold packW; simp
theorem pieceS_pos (p : M_wire_Piece) : 0 < (pieceS p).length := by unfold pieceS; simp <;> omega
theorem itW_pack : ∀ (l out : List M_wire_Piece) (m : Nat), (∀ p ∈ l, wdB 2 p.Name = true ∧ p.Text.length < 100000) → l.length < m → itW (packW (out ++ l)) m (packW out).length out = .inl (out ++ l)
  | [], out, m, _, hm => by
    obtain ⟨m, rfl⟩ : ∃ k, m = k + 1 := ⟨m - 1, by simp at hm; omega⟩
    simp [itW]
  | p :: l, out, m, h, hm => by
    obtain ⟨m, rfl⟩ : ∃ k, m = k + 1 := ⟨m - 1, by simp at hm; omega⟩
    have e : packW (out ++ p :: l) = packW out ++ (pieceS p ++ packW l) := by unfold packW; simp
    have hp := pieceS_pos p
    unfold itW
    rw [if_pos (by rw [e]; simp; omega)]
    have hd : (packW (out ++ p :: l)).drop (packW out).length = pieceS p ++ packW l := by rw [e, List.drop_left']; rfl
    rw [hd, stepW_piece (h p (.head _)).1 (h p (.head _)).2]
    have := itW_pack l (out ++ [p]) m (fun q hq => h q (.tail _ hq)) (by simp at hm ⊢; omega)
    rw [List.append_assoc, packW_snoc, List.length_append] at this
    exact this
end Go.Proofs.YtiobbiamnjapgaaGreatDoor
