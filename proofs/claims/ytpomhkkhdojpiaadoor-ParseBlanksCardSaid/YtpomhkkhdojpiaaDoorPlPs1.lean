import Derived.Test.YtpomhkkhdojpiaaDoorPlScan
namespace Go.Proofs.YtpomhkkhdojpiaaDoor
open Go Go.RowKit
/-! ### The words of a text, as the program reads them -/
/-- How many bytes are passed by. -/
def skN : List UInt8 → Nat
  | [] => 0
  | c :: r => if blkB c.toNat then 1 + skN r else if c.toNat = 35 then 1 + (r.takeWhile (fun b => b.toNat ≠ 10)).length + skN (r.dropWhile (fun b => b.toNat ≠ 10)) else 0
termination_by s => s.length
decreasing_by
  all_goals simp only [List.length_cons]
  · omega
  · have := dropWhile_le (fun b : UInt8 => decide (b.toNat ≠ 10)) r; omega
theorem skN_cons (c : UInt8) (r : List UInt8) : skN (c :: r) = if blkB c.toNat then 1 + skN r else if c.toNat = 35 then 1 + (r.takeWhile (fun b => b.toNat ≠ 10)).length + skN (r.dropWhile (fun b => b.toNat ≠ 10)) else 0 := by rw [skN]
theorem skN_nil : skN [] = 0 := by rw [skN]
theorem drop_tw {α : Type} (p : α → Bool) : ∀ (l : List α), l.drop (l.takeWhile p).length = l.dropWhile p
  | [] => rfl
  | x :: l => by
    rw [List.takeWhile_cons, List.dropWhile_cons]
    cases p x with
    | true => simp [drop_tw p l]
    | false => rfl
theorem tw_dw_len {α : Type} (p : α → Bool) (l : List α) : (l.takeWhile p).length + (l.dropWhile p).length = l.length := by
  rw [← List.length_append, List.takeWhile_append_dropWhile]
theorem skN_le : ∀ (m : Nat) (s : List UInt8), s.length ≤ m → skN s ≤ s.length
  | _, [], _ => by rw [skN_nil]; exact Nat.zero_le _
  | 0, _ :: _, h => by simp at h
  | m + 1, c :: r, h => by
    rw [skN_cons]
    simp only [List.length_cons] at h ⊢
    split
    · have := skN_le m r (by omega); omega
    · split
      · have h1 := tw_dw_len (fun b : UInt8 => decide (b.toNat ≠ 10)) r
        have := skN_le m (r.dropWhile (fun b => b.toNat ≠ 10)) (by omega)
        omega
      · omega
/-- Where the skipping ends something begins. -/
theorem skN_end : ∀ (m : Nat) (s : List UInt8), s.length ≤ m → ∀ c r, s.drop (skN s) = c :: r → blkB c.toNat = false ∧ c.toNat ≠ 35
  | _, [], _ => by intro c r h; simp at h
  | 0, _ :: _, h => by simp at h
  | m + 1, x :: s, h => by
    intro c r hd
    rw [skN_cons] at hd
    simp only [List.length_cons] at h
    by_cases h1 : blkB x.toNat = true
    · rw [if_pos h1, Nat.add_comm, List.drop_succ_cons] at hd
      exact skN_end m s (by omega) c r hd
    · rw [if_neg h1] at hd
      by_cases h2 : x.toNat = 35
      · rw [if_pos h2, show 1 + (s.takeWhile (fun b => decide (b.toNat ≠ 10))).length + skN (s.dropWhile (fun b => decide (b.toNat ≠ 10))) = ((s.takeWhile (fun b => decide (b.toNat ≠ 10))).length + skN (s.dropWhile (fun b => decide (b.toNat ≠ 10)))) + 1 by omega, List.drop_succ_cons, ← List.drop_drop, drop_tw] at hd
        exact skN_end m _ (by have := dropWhile_le (fun b : UInt8 => decide (b.toNat ≠ 10)) s; omega) c r hd
      · rw [if_neg h2] at hd
        simp only [List.drop_zero] at hd
        cases hd
        exact ⟨by simpa using h1, h2⟩
theorem scanS_skip : ∀ (m : Nat) (s : List UInt8) (i : Nat), s.length ≤ m → scanS s i = scanS (s.drop (skN s)) (i + skN s)
  | _, [], i, _ => by rw [skN_nil]; rfl
  | 0, _ :: _, _, h => by simp at h
  | m + 1, c :: s, i, h => by
    simp only [List.length_cons] at h
    rw [skN_cons]
    by_cases h1 : blkB c.toNat = true
    · rw [if_pos h1, scanS_cons, if_pos h1, scanS_skip m s (i + 1) (by omega), show 1 + skN s = skN s + 1 by omega, List.drop_succ_cons]
      congr 1; omega
    · rw [if_neg h1]
      by_cases h2 : c.toNat = 35
      · rw [if_pos h2, scanS_cons, if_neg h1, if_pos h2, scanS_skip m _ _ (by have := dropWhile_le (fun b : UInt8 => decide (b.toNat ≠ 10)) s; omega)]
        rw [show 1 + (s.takeWhile (fun b => decide (b.toNat ≠ 10))).length + skN (s.dropWhile (fun b => decide (b.toNat ≠ 10))) = ((s.takeWhile (fun b => decide (b.toNat ≠ 10))).length + skN (s.dropWhile (fun b => decide (b.toNat ≠ 10)))) + 1 by omega, List.drop_succ_cons, ← List.drop_drop, drop_tw]
        congr 1; omega
      · rw [if_neg h2]; rfl
theorem m_lex_skip_eq {n : Nat} {s : List UInt8} (hn : big ≤ n) (hs : s.length ≤ 4000) {i : Nat} (hi : i ≤ s.length) : m_lex_skip n s (i : Int) = some ((i + skN (s.drop i) : Nat) : Int) := by
  unfold m_lex_skip
  unfold big at hn
  have key : ∀ (m i k : Nat), (s.drop i).length ≤ m → i ≤ s.length → m < k → (loopM (fun (s23 : Int) =>
      bif decide (s23 < (s.length : Int)) then (
        (getS s s23).bind fun y24 =>
        jn (fun (j26 : (Bool) → Option (Lp Int (Lp Int Int))) =>
          bif decide (y24 = 32) then (
            j26 (decide (y24 = 32)))
          else (
            bif decide (y24 = 9) then (
              j26 (decide (y24 = 9)))
            else (
              bif decide (y24 = 10) then (
                j26 (decide (y24 = 10)))
              else (
                j26 (decide (y24 = 13)))))) (fun (s28 : Bool) =>
          bif s28 then (
            some (Lp.go (wrap64 (s23 + (1 : Int)))))
          else (
            bif decide (y24 = 35) then (
              (sub s s23 (s.length : Int)).bind fun y29 =>
              (m_strings_Cut y29 ([10] : List UInt8)).bind fun r31 =>
              some (Lp.go (wrap64 (s23 + (r31.1.length : Int)))))
            else (
              some (Lp.out (Lp.out (s23)))))))
      else (
        some (Lp.out (Lp.go s23)))) k (i : Int)).bind (lpK fun (t21 : Int) => some t21) = some ((i + skN (s.drop i) : Nat) : Int) := by
    intro m
    induction m with
    | zero =>
      intro i k hm hi hk
      have hie : i = s.length := by simp at hm; omega
      subst hie
      rw [loop_out (t := Lp.go (s.length : Int)) (by simp only [bifd]; rw [if_neg (by omega)]) hk, sbind, lpK_go]
      simp [skN_nil]
    | succ m ih =>
      intro i k hm hi hk
      obtain ⟨k, rfl⟩ : ∃ k', k = k' + 1 := ⟨k - 1, by omega⟩
      by_cases hl : i < s.length
      · have hd : s.drop i = s[i] :: s.drop (i + 1) := List.drop_eq_getElem_cons hl
        rw [hd, skN_cons]
        have hm1 : (s.drop (i + 1)).length ≤ m := by simp at hm ⊢; omega
        by_cases h1 : blkB (s[i]).toNat = true
        · rw [if_pos h1, loop_go (s' := ((i + 1 : Nat) : Int)), ih (i + 1) k hm1 (by omega) (by omega)]
          · congr 2; omega
          · simp only [bifd, jn_eq]
            rw [if_pos (by omega), getS_get hl, sbind]
            have hb : (s[i]).toNat = 32 ∨ (s[i]).toNat = 9 ∨ (s[i]).toNat = 10 ∨ (s[i]).toNat = 13 := by simpa [blkB] using h1
            rw [w1 (by omega)]
            grind
        · rw [if_neg h1]
          have hb : ¬ ((s[i]).toNat = 32 ∨ (s[i]).toNat = 9 ∨ (s[i]).toNat = 10 ∨ (s[i]).toNat = 13) := by simpa [blkB] using h1
          by_cases h2 : (s[i]).toNat = 35
          · rw [if_pos h2]
            have hcut : m_strings_Cut (s.drop i) [10] = some (cutC 10 (s.drop i)) := by
              show (if (s.drop i).length < 4294967281 then some (cutC (UInt8.toNat 10) (s.drop i)) else none) = _
              rw [if_pos (by simp; omega)]; rfl
            have hcl : (cutC 10 (s.drop i)).1.length = 1 + ((s.drop (i + 1)).takeWhile (fun b => decide (b.toNat ≠ 10))).length := by
              rw [hd]; unfold cutC ntc
              simp only [List.takeWhile_cons, h2]
              simp; omega
            have htl := tw_dw_len (fun b : UInt8 => decide (b.toNat ≠ 10)) (s.drop (i + 1))
            have hdl : (s.drop (i + 1)).length = s.length - (i + 1) := by simp
            rw [loop_go (s' := ((i + (cutC 10 (s.drop i)).1.length : Nat) : Int)), ih _ k (by rw [List.length_drop, hcl]; omega) (by rw [hcl]; omega) (by omega)]
            · have e : s.drop (i + (cutC 10 (s.drop i)).1.length) = (s.drop (i + 1)).dropWhile (fun b => decide (b.toNat ≠ 10)) := by
                rw [hcl, ← drop_tw, List.drop_drop]; congr 1; omega
              rw [e, hcl]; congr 2; omega
            · simp only [bifd, jn_eq]
              rw [if_pos (by omega), getS_get hl, sbind, if_neg (by omega), if_neg (by omega), if_neg (by omega)]
              rw [if_neg (by omega), if_pos h2, sub_mid (by omega) (Nat.le_refl _), List.take_length, sbind, hcut, sbind, w64 (by omega) (by rw [hcl]; omega)]
              congr 2
          · rw [if_neg h2, loop_out (t := Lp.out (i : Int)) _ (by omega), sbind, lpK_out]
            · rfl
            · simp only [bifd, jn_eq]
              rw [if_pos (by omega), getS_get hl, sbind, if_neg (by omega), if_neg (by omega), if_neg (by omega)]
              rw [if_neg (by omega), if_neg h2]
      · have hie : i = s.length := by omega
        subst hie
        rw [loop_out (t := Lp.go (s.length : Int)) (by simp only [bifd]; rw [if_neg (by omega)]) (by omega), sbind, lpK_go]
        simp [skN_nil]
  exact key s.length i n (by simp) hi (by omega)
def toX (w : M_retrospectref16_Word) : M_lex_Word := ⟨w.Kind, w.Text, w.At⟩
def flt (p : Int) : M_api_Fault := ⟨1, 0, 0, p⟩
def lexR (out : List M_lex_Word) : List M_retrospectref16_Word ⊕ Nat → List M_lex_Word × M_api_Fault
  | .inl ws => (out ++ ws.map toX, ⟨0, 0, 0, 0⟩)
  | .inr p => ([], flt p)
theorem lexR_wcons (out w x) : lexR out (wcons w x) = lexR (out ++ [toX w]) x := by cases x <;> simp [lexR, wcons]
theorem kindC_cases (c : Nat) : kindC c = 1 ∨ kindC c = 2 ∨ kindC c = 3 ∨ kindC c = 0 := by unfold kindC; grind
theorem m_lex_Scan_eq {n : Nat} {s : List UInt8} (hn : big ≤ n) (hs0 : s.length ≤ 9223372036854775807) : m_lex_Scan n s = some (if 4000 < s.length then ([], flt 4000) else lexR [] (scanS s 0)) := by
  unfold m_lex_Scan
  simp only [bifd]
  by_cases hs : 4000 < s.length
  · rw [if_pos (by omega), if_pos hs]; rfl
  rw [if_neg (by omega), if_neg hs]
  have hn' := hn
  unfold big at hn'
  have hs' : s.length ≤ 4000 := by omega
  have h0 := m_lex_skip_eq hn hs' (i := 0) (Nat.zero_le _)
  rw [List.drop_zero, Nat.zero_add] at h0
  have h0' : m_lex_skip n s (0 : Int) = some ((skN s : Nat) : Int) := h0
  rw [h0', sbind]
  have key : ∀ (m i k : Nat) (out : List M_lex_Word), (s.drop i).length ≤ m → i ≤ s.length → out.length ≤ i → m < k → (loopM (fun (s43 : (List M_lex_Word) × Int) =>
      if s43.2 < (s.length : Int) then (
        (getS s s43.2).bind fun y44 =>
        (m_lex_kind n y44).bind fun r46 =>
        if r46 = (0 : Int) then (
          some (Lp.out (Lp.out ((([] : List M_lex_Word), (⟨(1 : Int), 0, 0, s43.2⟩ : M_api_Fault))))))
        else (
          (sub s s43.2 (s.length : Int)).bind fun y48 =>
          (m_lex_first n y48 r46).bind fun r50 =>
          (m_lex_most r46).bind fun r52 =>
          if r52 < r50 then (
            (m_lex_most r46).bind fun r54 =>
            some (Lp.out (Lp.out ((([] : List M_lex_Word), (⟨(1 : Int), 0, 0, wrap64 (s43.2 + r54)⟩ : M_api_Fault))))))
          else (
            (sub s s43.2 (wrap64 (s43.2 + r50))).bind fun y56 =>
            (appM 32 s43.1 ([(⟨r46, y56, s43.2⟩ : M_lex_Word)] : List M_lex_Word)).bind fun y58 =>
            (m_lex_skip n s (wrap64 (s43.2 + r50))).bind fun r60 =>
            some (Lp.go (y58, r60)))))
      else (
        some (Lp.out (Lp.go s43.1)))) k (out, ((i + skN (s.drop i) : Nat) : Int))).bind (lpK fun (t41 : (List M_lex_Word)) =>
    some (t41, (⟨0, 0, 0, 0⟩ : M_api_Fault))) = some (lexR out (scanS (s.drop i) i)) := by
    intro m
    induction m with
    | zero =>
      intro i k out hm hi _ hk
      have hie : i = s.length := by simp at hm; omega
      subst hie
      have e0 : s.drop s.length = [] := by simp
      rw [e0, skN_nil, loop_out (t := Lp.go out) (by rw [if_neg (by simp)]) hk, sbind, lpK_go, scanS_nil]
      simp [lexR]
    | succ m ih =>
      intro i k out hm hi ho hk
      obtain ⟨k, rfl⟩ : ∃ k', k = k' + 1 := ⟨k - 1, by omega⟩
      rw [scanS_skip _ (s.drop i) i (Nat.le_refl _), List.drop_drop]
      have hle := skN_le _ (s.drop i) (Nat.le_refl _)
      have hend := skN_end _ (s.drop i) (Nat.le_refl _)
      rw [List.drop_drop] at hend
      rw [List.length_drop] at hle
      generalize hj : i + skN (s.drop i) = j at hend ⊢
      have hij : i ≤ j := by omega
      have hjs : j ≤ s.length := by omega
      by_cases hl : j < s.length
      · have hd : s.drop j = s[j] :: s.drop (j + 1) := List.drop_eq_getElem_cons hl
        obtain ⟨hb, h35⟩ := hend _ _ hd
        rw [hd, scanS_cons, if_neg (by simp [hb]), if_neg h35]
        by_cases hk0 : kindC (s[j]).toNat = 0
        · rw [if_pos hk0, loop_out (t := Lp.out (([] : List M_lex_Word), (⟨(1 : Int), 0, 0, (j : Int)⟩ : M_api_Fault))) _ (by omega), sbind, lpK_out]
          · rfl
          · simp only []
            rw [if_pos (by omega), getS_get hl, sbind, m_lex_kind_eq hn, sbind, if_pos hk0]
        · rw [if_neg hk0]
          have hdl : (s.drop j).length = s.length - j := by simp
          have hf : m_lex_first n (s.drop j) (kindC (s[j]).toNat) = some (((1 + (tailK (kindC (s[j]).toNat) (s.drop (j + 1))).length : Nat)) : Int) := by
            rw [m_lex_first_eq hn (by omega), hd]; rfl
          have htk : (tailK (kindC (s[j]).toNat) (s.drop (j + 1))).length ≤ s.length - (j + 1) := by
            have := takeWhile_le (fun b => goC (kindC (s[j]).toNat) b.toNat) (s.drop (j + 1))
            unfold tailK; simp only [List.length_drop] at this; exact this
          have hsub : sub s (j : Int) (s.length : Int) = some (s.drop j) := by rw [sub_mid hjs (Nat.le_refl _), List.take_length]
          generalize hT : (tailK (kindC (s[j]).toNat) (s.drop (j + 1))).length = T at hf htk
          by_cases hmost : mostC (kindC (s[j]).toNat) < 1 + T
          · rw [if_pos hmost, loop_out (t := Lp.out (([] : List M_lex_Word), (⟨(1 : Int), 0, 0, ((j + mostC (kindC (s[j]).toNat) : Nat) : Int)⟩ : M_api_Fault))) _ (by omega), sbind, lpK_out]
            · rfl
            · simp only []
              have := most_pos (kindC (s[j]).toNat)
              rw [if_pos (by omega), getS_get hl, sbind, m_lex_kind_eq hn, sbind, if_neg hk0, hsub, sbind, hf, sbind, m_lex_most_eq, sbind, if_pos (by omega), sbind, w64 (by omega) (by omega)]
              congr 5
          · rw [if_neg hmost]
            have hnx : ((j : Int) + ((1 + T : Nat) : Int)) = ((j + 1 + T : Nat) : Int) := by omega
            have htext : (s.take (j + 1 + T)).drop j = s[j] :: tailK (kindC (s[j]).toNat) (s.drop (j + 1)) := by
              have h1 : tailK (kindC (s[j]).toNat) (s.drop (j + 1)) = (s.drop (j + 1)).take T := by rw [← hT]; exact takeWhile_take _ _
              rw [h1, List.drop_take, hd, show j + 1 + T - j = T + 1 by omega]; rfl
            have hstep : m_lex_skip n s ((j + 1 + T : Nat) : Int) = some ((j + 1 + T + skN (s.drop (j + 1 + T)) : Nat) : Int) := m_lex_skip_eq hn hs' (by omega)
            rw [loop_go (s' := (out ++ [toX ⟨kindC (s[j]).toNat, s[j] :: tailK (kindC (s[j]).toNat) (s.drop (j + 1)), (j : Int)⟩], ((j + 1 + T + skN (s.drop (j + 1 + T)) : Nat) : Int)))]
            · rw [ih (j + 1 + T) k _ (by simp at hm ⊢; omega) (by omega) (by simp; omega) (by omega), lexR_wcons, List.drop_drop]
            · simp only []
              rw [if_pos (by omega), getS_get hl, sbind, m_lex_kind_eq hn, sbind, if_neg hk0, hsub, sbind, hf, sbind, m_lex_most_eq, sbind, if_neg (by omega), hnx, w64 (by omega) (by omega), sub_mid (by omega) (by omega), sbind, htext]
              rw [appM_ok (by simp; omega) (by simp; omega), sbind, hstep, sbind]
              rfl
      · have hje : j = s.length := by omega
        subst hje
        have e0 : s.drop s.length = [] := by simp
        rw [e0, scanS_nil, loop_out (t := Lp.go out) (by rw [if_neg (by simp)]) (by omega), sbind, lpK_go]
        simp [lexR]
  have hk := key s.length 0 n [] (by simp) (Nat.zero_le _) (Nat.le_refl _) (by omega)
  rw [List.drop_zero, Nat.zero_add] at hk
  exact hk
end Go.Proofs.YtpomhkkhdojpiaaDoor
