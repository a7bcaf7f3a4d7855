import Derived.Test.YtiobbiamnjapgaaGreatDoorPlRf
namespace Go.Proofs.YtiobbiamnjapgaaGreatDoor
open Go Go.RowKit
/-! ### Faults read -/
theorem splitC_ne (c : Nat) : ∀ s, splitC c s ≠ []
  | [] => by simp [splitC]
  | x :: s => by
    unfold splitC
    split
    · split <;> simp
    · simp
theorem splitC_free {c : Nat} : ∀ {w : List UInt8}, (∀ b ∈ w, b.toNat ≠ c) → splitC c w = [w]
  | [], _ => rfl
  | x :: w, h => by
    have hx : ntc c x = true := by simp [ntc, h x (.head _)]
    unfold splitC
    rw [hx, if_pos rfl, splitC_free fun b hb => h b (.tail _ hb)]
theorem splitC_app {c : Nat} : ∀ {w : List UInt8}, (∀ b ∈ w, b.toNat ≠ c) → ∀ {x : UInt8}, x.toNat = c → ∀ r, splitC c (w ++ x :: r) = w :: splitC c r
  | [], _, x, hx, r => by
    rw [List.nil_append, splitC]
    rw [if_neg (by simp [ntc, hx])]
  | y :: w, h, x, hx, r => by
    have hy : ntc c y = true := by simp [ntc, h y (.head _)]
    rw [List.cons_append, splitC, hy, if_pos rfl, splitC_app (fun b hb => h b (.tail _ hb)) hx r]
def joinC (x : UInt8) : List (List UInt8) → List UInt8
  | [] => []
  | [w] => w
  | w :: v :: r => w ++ x :: joinC x (v :: r)
theorem splitC_join {x : UInt8} : ∀ (s : List UInt8), joinC x (splitC x.toNat s) = s
  | [] => rfl
  | y :: s => by
    have ih := splitC_join (x := x) s
    have hn := splitC_ne x.toNat s
    unfold splitC
    cases h : ntc x.toNat y
    · have hy : y = x := UInt8.toNat_inj.1 (by simpa [ntc] using h)
      rw [if_neg (by decide)]
      cases hs : splitC x.toNat s with
      | nil => exact absurd hs hn
      | cons w r => rw [hs] at ih; simp only [joinC, ih, hy, List.nil_append]
    · rw [if_pos rfl]
      cases hs : splitC x.toNat s with
      | nil => exact absurd hs hn
      | cons w r =>
        rw [hs] at ih
        simp only []
        cases r with
        | nil => simp only [joinC] at ih ⊢; rw [ih]
        | cons v r => simp only [joinC, List.cons_append] at ih ⊢; rw [ih]
theorem splitC_all {c : Nat} : ∀ {s w : List UInt8}, w ∈ splitC c s → ∀ b ∈ w, b.toNat ≠ c
  | [], w, h, b, hb => by simp [splitC] at h; subst h; cases hb
  | y :: s, w, h, b, hb => by
    unfold splitC at h
    cases hy : ntc c y
    · rw [hy, if_neg (by decide)] at h
      rcases List.mem_cons.1 h with rfl | h
      · cases hb
      · exact splitC_all h b hb
    · rw [hy, if_pos rfl] at h
      cases hs : splitC c s with
      | nil => exact absurd hs (splitC_ne c s)
      | cons v r =>
        rw [hs] at h
        simp only [] at h
        have hyc : y.toNat ≠ c := by simpa [ntc] using hy
        rcases List.mem_cons.1 h with rfl | h
        · rcases List.mem_cons.1 hb with rfl | hb
          · exact hyc
          · exact splitC_all (hs ▸ List.Mem.head _) b hb
        · exact splitC_all (hs ▸ List.Mem.tail _ h) b hb
theorem itoa_no32 (x : Int) : ∀ b ∈ Lib.itoa x, b.toNat ≠ 32 := by
  intro b hb
  by_cases h : x < 0
  · rw [itoa_negd h] at hb
    rcases List.mem_cons.1 hb with rfl | hb
    · decide
    · have := dec_isD b hb; omega
  · obtain ⟨k, rfl⟩ : ∃ k : Nat, x = k := ⟨x.toNat, by omega⟩
    rw [itoa_dec] at hb
    have := dec_isD b hb; omega
theorem knd_no32 (k : Int) : ∀ b ∈ kndW k, b.toNat ≠ 32 := by
  have h := kndI_lt k
  unfold kndW
  generalize kndI k = i at h
  have e : ∀ i, i < 9 → (kndsL.getD i []).all (fun b => decide (b.toNat ≠ 32)) = true := by decide
  intro b hb
  simpa using List.all_eq_true.1 (e i h) b hb
/-! numbers read -/
theorem parse_digits : ∀ {l : List UInt8} {acc : Nat}, isD l → numD l acc < 18446744073709551616 → Lib.parseUint10 acc l = .ok (numD l acc)
  | [], _, _, _ => rfl
  | c :: r, acc, hD, hb => by
    obtain ⟨h1, h2⟩ := hD c (.head _)
    have hge : ∀ (l : List UInt8) (a : Nat), a ≤ numD l a := by
      intro l
      induction l with
      | nil => intro a; exact Nat.le_refl _
      | cons x l ih => intro a; unfold numD; exact Nat.le_trans (by omega) (ih _)
    unfold numD at hb ⊢
    have := hge r (acc * 10 + (c.toNat - 48))
    unfold Lib.parseUint10
    rw [if_pos ⟨h1, h2⟩, if_neg (by omega), if_neg (by omega)]
    exact parse_digits (fun b hb => hD b (.tail _ hb)) hb
theorem dec_ne_nil (k : Nat) : dec k ≠ [] := by
  unfold dec; split
  · simp
  · rename_i h0; simpa using dcR_ne_nil h0
theorem atoi_itoa {x : Int} (hx : b64 x) : Lib.atoiAll (Lib.itoa x) = .ok x := by
  unfold b64 at hx
  by_cases h : x < 0
  · rw [itoa_negd h]
    unfold Lib.atoiAll
    simp only []
    have e45 : (45 : UInt8).toNat = 45 := by decide
    rw [e45, if_pos (.inr rfl)]
    unfold Lib.parseMag
    rw [if_neg (dec_ne_nil _), parse_digits dec_isD (by rw [numD_dec]; omega), numD_dec]
    simp only []
    rw [if_neg (by simp), if_neg (by simp; omega), if_pos (by simp)]
    congr 1; omega
  · obtain ⟨k, rfl⟩ : ∃ k : Nat, x = k := ⟨x.toNat, by omega⟩
    rw [itoa_dec]
    have hD : isD (dec k) := dec_isD
    cases hd : dec k with
    | nil => exact absurd hd (dec_ne_nil k)
    | cons c r =>
      have hc := hD c (by rw [hd]; exact .head _)
      unfold Lib.atoiAll
      simp only []
      rw [if_neg (by omega), ← hd]
      unfold Lib.parseMag
      rw [if_neg (dec_ne_nil _), parse_digits dec_isD (by rw [numD_dec]; omega), numD_dec]
      simp only []
      rw [if_neg (by omega), if_neg (by omega), if_neg (by omega)]
def mil (x : Int) : Prop := -1000000 ≤ x ∧ x ≤ 1000000
theorem mil_b64 {x : Int} (h : mil x) : b64 x := by unfold mil at h; unfold b64; omega
theorem m_wire_number_eq {s : List UInt8} (hs : s.length ≤ 1000) : ∃ v ok, m_wire_number s = some (v, ok) ∧ (ok = true ↔ ∃ x, mil x ∧ s = Lib.itoa x) ∧ ∀ x, mil x → s = Lib.itoa x → v = x := by
  unfold m_wire_number m_strconv_Atoi
  rw [if_pos (by omega)]
  have hno : (∀ v, Lib.atoiAll s ≠ .ok v) → ¬ ∃ x, mil x ∧ s = Lib.itoa x := by
    rintro h ⟨x, hx, rfl⟩
    exact h x (atoi_itoa (mil_b64 hx))
  cases ha : Lib.atoiAll s with
  | ok v =>
    simp only [sbind, jn_eq, Bool.not_false, bifT, m_strconv_Itoa, bifd]
    by_cases h1 : Lib.itoa v = s
    · rw [if_pos h1]
      by_cases h2 : -1000000 ≤ v
      · rw [if_pos h2]
        refine ⟨_, _, rfl, ?_, ?_⟩
        · rw [decide_eq_true_eq]
          constructor
          · intro h3; exact ⟨v, ⟨h2, h3⟩, h1.symm⟩
          · rintro ⟨x, hx, rfl⟩
            rw [atoi_itoa (mil_b64 hx)] at ha
            cases ha; exact hx.2
        · rintro x hx rfl
          rw [atoi_itoa (mil_b64 hx)] at ha
          cases ha; rfl
      · rw [if_neg h2]
        refine ⟨_, _, rfl, ⟨(fun h => by cases h), ?_⟩, ?_⟩
        · rintro ⟨x, hx, rfl⟩
          rw [atoi_itoa (mil_b64 hx)] at ha
          cases ha; exact absurd hx.1 h2
        · rintro x hx rfl
          rw [atoi_itoa (mil_b64 hx)] at ha
          cases ha; rfl
    · rw [if_neg h1]
      refine ⟨_, _, rfl, ⟨(fun h => by cases h), ?_⟩, ?_⟩
      · rintro ⟨x, hx, rfl⟩
        rw [atoi_itoa (mil_b64 hx)] at ha
        cases ha; exact absurd rfl h1
      · rintro x hx rfl
        rw [atoi_itoa (mil_b64 hx)] at ha
        cases ha; rfl
  | _ =>
    simp only [sbind, jn_eq, Bool.not_true, bifF]
    have hn := hno (fun v hv => by rw [ha] at hv; cases hv)
    exact ⟨_, _, rfl, ⟨fun h => by (first | cases h), fun h => absurd h hn⟩, fun x hx h => absurd ⟨x, hx, h⟩ hn⟩
/-- A fault of a kind that there is, with numbers that aren't too great. -/
def fitsF (f : M_api_Fault) : Prop := 0 ≤ f.Kind ∧ f.Kind ≤ 8 ∧ mil f.Step ∧ mil f.Stage ∧ mil f.At
theorem kndI_eq {k : Int} (h0 : 0 ≤ k) (h8 : k ≤ 8) : kndI k = k.toNat := by unfold kndI; split <;> omega
theorem knds_inj {i j : Nat} (hi : i < 9) (hj : j < 9) (h : kndsL.getD i [] = kndsL.getD j []) : i = j := by
  have e : ∀ i, i < 9 → ∀ j, j < 9 → kndsL.getD i [] = kndsL.getD j [] → i = j := by decide
  exact e i hi j hj h

def idxF (a : List UInt8) : List (List UInt8) → Nat → Option Nat
  | [], _ => none
  | x :: xs, k => if x = a then some k else idxF a xs (k + 1)
theorem idxF_some {a : List UInt8} : ∀ {xs : List (List UInt8)} {k i : Nat}, idxF a xs k = some i → k ≤ i ∧ xs[i - k]? = some a
  | x :: xs, k, i, h => by
    unfold idxF at h
    split at h
    · rename_i hx; cases h; exact ⟨Nat.le_refl _, by rw [Nat.sub_self, hx]; rfl⟩
    · obtain ⟨h1, h2⟩ := idxF_some h
      refine ⟨by omega, ?_⟩
      rw [show i - k = (i - (k + 1)) + 1 by omega]; simpa using h2
theorem idxF_knd {i : Nat} (hi : i < 9) : idxF (kndsL.getD i []) kndsL 0 = some i := by
  have e : ∀ i, i < 9 → idxF (kndsL.getD i []) kndsL 0 = some i := by decide
  exact e i hi
theorem idxF_get {a : List UInt8} {i : Nat} (h : idxF a kndsL 0 = some i) : i < 9 ∧ kndsL.getD i [] = a := by
  obtain ⟨_, h2⟩ := idxF_some h
  rw [Nat.sub_zero] at h2
  exact ⟨lt_of_get h2, by rw [List.getD_eq_getElem?_getD, h2]; rfl⟩
theorem range_idx {R : Type} {r : List (List UInt8)} {a : List UInt8} {mk : Nat → R} {K : Unit → Option R} (hr : getI r (0 : Int) = some a) : ∀ (xs : List (List UInt8)) (k : Nat),
    (rangeL (fun (i41 : Nat) (x42 : (List UInt8)) (_ : Unit) => (getI r (0 : Int)).bind fun y44 => bif decide (x42 = y44) then some (Lp.out (mk i41)) else some (Lp.go ())) xs k ()).bind (lpK K) = match idxF a xs k with
      | some i => some (mk i)
      | none => K ()
  | [], _ => rfl
  | x :: xs, k => by
    have ih := range_idx hr (mk := mk) (K := K) xs (k + 1)
    simp only [rangeL, hr, sbind, bifd, idxF] at ih ⊢
    by_cases h : x = a
    · rw [if_pos h, if_pos h]; rfl
    · rw [if_neg h, if_neg h, sbind]; exact ih
theorem splitC_fault (g : M_api_Fault) : splitC 32 (faultS g) = [kndW g.Kind, Lib.itoa g.Step, Lib.itoa g.Stage, Lib.itoa g.At] := by
  unfold faultS
  rw [splitC_app (knd_no32 _) (by decide), splitC_app (itoa_no32 _) (by decide), splitC_app (itoa_no32 _) (by decide), splitC_free (itoa_no32 _)]
theorem splitC_mem_len {c : Nat} : ∀ {s w : List UInt8}, w ∈ splitC c s → w.length ≤ s.length
  | [], w, h => by simp [splitC] at h; subst h; simp
  | y :: s, w, h => by
    unfold splitC at h
    split at h
    · cases hs : splitC c s with
      | nil => exact absurd hs (splitC_ne c s)
      | cons v r =>
        rw [hs] at h
        rcases List.mem_cons.1 h with rfl | h
        · have := splitC_mem_len (c := c) (s := s) (w := v) (hs ▸ List.Mem.head _); simp; omega
        · have := splitC_mem_len (c := c) (s := s) (w := w) (hs ▸ List.Mem.tail _ h); simp; omega
    · rcases List.mem_cons.1 h with rfl | h
      · simp
      · have := splitC_mem_len h; simp; omega
theorem kndW_of {i : Nat} (hi : i < 9) : kndW (i : Int) = kndsL.getD i [] := by
  unfold kndW; rw [kndI_eq (by omega) (by omega)]; rfl
theorem m_wire_Unfault_eq {s : List UInt8} (hs : s.length ≤ 1000) : ∃ f ok, m_wire_Unfault s = some (f, ok) ∧ (ok = true → fitsF f ∧ s = faultS f) ∧ (ok = false → f = ⟨0, 0, 0, 0⟩) ∧ ∀ g, fitsF g → s = faultS g → f = g ∧ ok = true := by
  unfold m_wire_Unfault
  have e32 : (32 : UInt8).toNat = 32 := by decide
  have hsp : m_strings_Split s [32] = some (splitC 32 s) := by simp only [m_strings_Split]; rw [if_pos (by omega), e32]
  rw [hsp, sbind, bifnd]
  have hj := splitC_join (x := 32) s
  rw [e32] at hj
  by_cases h4 : ((splitC 32 s).length : Int) = 4
  · rw [if_pos h4]
    have hm : ∀ w ∈ splitC 32 s, w.length ≤ 1000 := fun w hw => Nat.le_trans (splitC_mem_len hw) hs
    have hg : ∀ g, s = faultS g → splitC 32 s = [kndW g.Kind, Lib.itoa g.Step, Lib.itoa g.Stage, Lib.itoa g.At] := fun g h => by rw [h, splitC_fault]
    generalize splitC 32 s = L at *
    match L, h4 with
    | [a, b, c, d], _ =>
      obtain ⟨v1, k1, e1, q1, r1⟩ := m_wire_number_eq (hm b (by simp))
      obtain ⟨v2, k2, e2, q2, r2⟩ := m_wire_number_eq (hm c (by simp))
      obtain ⟨v3, k3, e3, q3, r3⟩ := m_wire_number_eq (hm d (by simp))
      have hgo : ∀ g, fitsF g → s = faultS g → a = kndW g.Kind ∧ b = Lib.itoa g.Step ∧ c = Lib.itoa g.Stage ∧ d = Lib.itoa g.At := fun g _ h => by
        have := hg g h
        simp only [List.cons.injEq, and_true] at this
        exact this
      rw [show sub [a, b, c, d] (1 : Int) (([a, b, c, d] : List (List UInt8)).length : Int) = some [b, c, d] from rfl, sbind]
      simp only [rangeL]
      rw [e1, sbind]
      cases k1 with
      | false =>
        refine ⟨_, _, rfl, (fun h => by cases h), fun _ => rfl, fun g hf h => ?_⟩
        obtain ⟨_, h1, _⟩ := hgo g hf h
        exact absurd (q1.2 ⟨_, hf.2.2.1, h1⟩) (by decide)
      | true =>
        obtain ⟨x1, m1, hb⟩ := q1.1 rfl
        have := r1 x1 m1 hb
        subst this
        simp only [Bool.not_true, bifF]
        rw [show getI [(0 : Int), 0, 0] ((0 : Nat) : Int) = some 0 from rfl, sbind, sbind, show ofl_A3_i64 (List.set [(0 : Int), 0, 0] (Int.toNat ((0 : Nat) : Int)) v1) = ⟨v1, 0, 0⟩ from rfl]
        simp only []
        rw [e2, sbind]
        cases k2 with
        | false =>
          refine ⟨_, _, rfl, (fun h => by cases h), fun _ => rfl, fun g hf h => ?_⟩
          obtain ⟨_, _, h1, _⟩ := hgo g hf h
          exact absurd (q2.2 ⟨_, hf.2.2.2.1, h1⟩) (by decide)
        | true =>
          obtain ⟨x2, m2, hc⟩ := q2.1 rfl
          have := r2 x2 m2 hc
          subst this
          simp only [Bool.not_true, bifF]
          rw [show getI [v1, (0 : Int), 0] ((0 + 1 : Nat) : Int) = some 0 from rfl, sbind, sbind, show ofl_A3_i64 (List.set [v1, (0 : Int), 0] (Int.toNat ((0 + 1 : Nat) : Int)) v2) = ⟨v1, v2, 0⟩ from rfl]
          simp only []
          rw [e3, sbind]
          cases k3 with
          | false =>
            refine ⟨_, _, rfl, (fun h => by cases h), fun _ => rfl, fun g hf h => ?_⟩
            obtain ⟨_, _, _, h1⟩ := hgo g hf h
            exact absurd (q3.2 ⟨_, hf.2.2.2.2, h1⟩) (by decide)
          | true =>
            obtain ⟨x3, m3, hd⟩ := q3.1 rfl
            have := r3 x3 m3 hd
            subst this
            simp only [Bool.not_true, bifF]
            rw [show getI [v1, v2, (0 : Int)] ((0 + 1 + 1 : Nat) : Int) = some 0 from rfl, sbind, sbind,
              show ofl_A3_i64 (List.set [v1, v2, (0 : Int)] (Int.toNat ((0 + 1 + 1 : Nat) : Int)) v3) = ⟨v1, v2, v3⟩ from rfl]
            simp only []
            rw [sbind, lpK_go, m_wire_kinds_eq, sbind]
            simp only []
            rw [range_idx (r := [a, b, c, d]) (a := a) (mk := fun i => ((⟨(i : Int), v1, v2, v3⟩ : M_api_Fault), true)) rfl kndsL 0]
            cases hi : idxF a kndsL 0 with
            | none =>
              refine ⟨_, _, rfl, (fun h => by cases h), fun _ => rfl, fun g hf h => ?_⟩
              obtain ⟨h1, _⟩ := hgo g hf h
              have hk : idxF a kndsL 0 = some g.Kind.toNat := by
                rw [h1]
                have hk9 : g.Kind.toNat < 9 := by have := hf.1; have := hf.2.1; omega
                have e : kndW g.Kind = kndsL.getD g.Kind.toNat [] := by unfold kndW; rw [kndI_eq hf.1 hf.2.1]
                rw [e]; exact idxF_knd hk9
              rw [hk] at hi; cases hi
            | some i =>
              obtain ⟨i9, ia⟩ := idxF_get hi
              have hs' : s = faultS ⟨(i : Int), v1, v2, v3⟩ := by
                rw [← hj]
                unfold faultS
                simp only [joinC, kndW_of i9, ia, ← hb, ← hc, ← hd]
              refine ⟨_, _, rfl, fun _ => ⟨⟨by show (0 : Int) ≤ (i : Int); omega, by show (i : Int) ≤ 8; omega, m1, m2, m3⟩, hs'⟩, (fun h => by cases h), fun g hf h => ⟨?_, rfl⟩⟩
              obtain ⟨g0, g1, g2, g3⟩ := hgo g hf h
              have hk9 : g.Kind.toNat < 9 := by have := hf.1; have := hf.2.1; omega
              have ek : kndW g.Kind = kndsL.getD g.Kind.toNat [] := by unfold kndW; rw [kndI_eq hf.1 hf.2.1]
              have hii : i = g.Kind.toNat := knds_inj i9 hk9 (by rw [ia, g0, ek])
              have f1 := r1 g.Step hf.2.2.1 g1
              have f2 := r2 g.Stage hf.2.2.2.1 g2
              have f3 := r3 g.At hf.2.2.2.2 g3
              have h0 := hf.1
              obtain ⟨a0, a1, a2, a3⟩ := g
              simp only at f1 f2 f3 hii h0 ⊢
              rw [f1, f2, f3, hii]
              congr 1; omega
  · rw [if_neg h4]
    refine ⟨_, _, rfl, (fun h => by cases h), fun _ => rfl, fun g _ h => ?_⟩
    rw [h, splitC_fault] at h4
    exact absurd rfl h4
theorem faultS_len {f : M_api_Fault} (h1 : b64 f.Step) (h2 : b64 f.Stage) (h3 : b64 f.At) : (faultS f).length ≤ 100 := by
  have := itoa_len h1; have := itoa_len h2; have := itoa_len h3; have := kndW_len f.Kind
  unfold faultS; simp; omega
theorem fits_iff {x : M_A4_i64} : (decide (0 ≤ x.a0) && decide (x.a0 ≤ 8) && (decide (-1000000 ≤ x.a1) && decide (x.a1 ≤ 1000000)) && (decide (-1000000 ≤ x.a2) && decide (x.a2 ≤ 1000000)) && (decide (-1000000 ≤ x.a3) && decide (x.a3 ≤ 1000000))) = true ↔ fitsF ⟨x.a0, x.a1, x.a2, x.a3⟩ := by
  simp only [Bool.and_eq_true, decide_eq_true_eq]
  unfold fitsF mil
  constructor
  · rintro ⟨⟨⟨⟨a, b⟩, c⟩, d⟩, e⟩; exact ⟨a, b, c, d, e⟩
  · rintro ⟨a, b, c, d, e⟩; exact ⟨⟨⟨⟨a, b⟩, c⟩, d⟩, e⟩
theorem eqb_true {f g : M_api_Fault} (h : f = g) : eqb_api_Fault f g = true := by rw [h]; exact eqb_self _
def tlF (v c1 c2 c3 : Bool) : Nat → Bool × Int
  | 0 => (v, 1)
  | 1 => (v && c1, 2)
  | 2 => (v && c1 && c2, 3)
  | _ => (v && c1 && c2 && c3, 4)
theorem law_WireTells (x : M_A4_i64) (s : List UInt8) (hx : B_A4_i64 x) : ∃ n, m_retrospectlaw48_WireTells n x s = some true := by
  refine ⟨big, ?_⟩
  have hn : big ≤ big := Nat.le_refl _
  unfold m_retrospectlaw48_WireTells
  rw [bifd]
  by_cases h : 200 < (s.length : Int)
  · rw [if_pos h, m_law48_works_eq hn, sbind]
  rw [if_neg h, jn_eq]
  have hb1 : b64 x.a1 := hx.2.1
  have hb2 : b64 x.a2 := hx.2.2.1
  have hb3 : b64 x.a3 := hx.2.2.2.1
  have tail : ∀ v : Bool, (v = true ↔ fitsF ⟨x.a0, x.a1, x.a2, x.a3⟩) → ((m_wire_Fault (⟨x.a0, x.a1, x.a2, x.a3⟩ : M_api_Fault)).bind fun r36 =>
      (m_wire_Unfault r36).bind fun r38 =>
      jn (fun (j40 : (Bool) → Option Bool) =>
        bif v then (
          bif !r38.2 then (
            j40 true)
          else (
            j40 (!(eqb_api_Fault r38.1 (⟨x.a0, x.a1, x.a2, x.a3⟩ : M_api_Fault)))))
        else (
          j40 false)) (fun (s42 : Bool) =>
        bif s42 then (
          some false)
        else (
          (m_wire_Unfault s).bind fun r43 =>
          jn (fun (j51 : (Bool) → Option Bool) =>
            bif !r43.2 then (
              (m_retrospectlaw48_works big ).bind fun r54 =>
              j51 r54)
            else (
              (m_wire_Fault r43.1).bind fun r56 =>
              bif decide (r56 = s) then (
                (m_retrospectlaw48_works big ).bind fun r58 =>
                j51 r58)
              else (
                j51 false))) (fun (s53 : Bool) =>
            some s53)))) = some true := by
    intro v hv
    have tail2 : ((m_wire_Unfault s).bind fun r43 =>
          jn (fun (j51 : (Bool) → Option Bool) =>
            bif !r43.2 then (
              (m_retrospectlaw48_works big ).bind fun r54 =>
              j51 r54)
            else (
              (m_wire_Fault r43.1).bind fun r56 =>
              bif decide (r56 = s) then (
                (m_retrospectlaw48_works big ).bind fun r58 =>
                j51 r58)
              else (
                j51 false))) (fun (s53 : Bool) =>
            some s53)) = some true := by
      obtain ⟨f, ok, e1, e2, e3, _⟩ := m_wire_Unfault_eq (s := s) (by omega)
      rw [e1, sbind]
      simp only [jn_eq]
      cases ok with
      | false => simp only [Bool.not_false, bifT]; rw [m_law48_works_eq hn, sbind]
      | true =>
        obtain ⟨f1, f2⟩ := e2 rfl
        simp only [Bool.not_true, bifF]
        rw [m_wire_Fault_eq (mil_b64 f1.2.2.1) (mil_b64 f1.2.2.2.1) (mil_b64 f1.2.2.2.2), sbind, decide_eq_true f2.symm, bifT, m_law48_works_eq hn, sbind]
    rw [m_wire_Fault_eq hb1 hb2 hb3, sbind]
    obtain ⟨f, ok, e1, e2, e3, e4⟩ := m_wire_Unfault_eq (s := faultS ⟨x.a0, x.a1, x.a2, x.a3⟩) (Nat.le_trans (faultS_len hb1 hb2 hb3) (by decide))
    rw [e1, sbind, jn_eq]
    cases v with
    | false => simp only [bifF]; exact tail2
    | true =>
      obtain ⟨g1, g2⟩ := e4 _ (hv.1 rfl) rfl
      simp only [g2, bifT, Bool.not_true, bifF, eqb_true g1]; exact tail2
  have loop : ∀ v0 : Bool, ∀ K : Bool → Option Bool, (loopM (fun (s24 : Bool × Int) =>
        bif decide (s24.2 < (4 : Int)) then (
          jn (fun (j29 : (Bool) → Option _) =>
            bif s24.1 then (
              (getI ([x.a0, x.a1, x.a2, x.a3] : List Int) s24.2).bind fun y32 =>
              bif decide ((-1000000 : Int) ≤ y32) then (
                (getI ([x.a0, x.a1, x.a2, x.a3] : List Int) s24.2).bind fun y34 =>
                j29 (decide (y34 ≤ (1000000 : Int))))
              else (
                j29 false))
            else (
              j29 false)) (fun (s31 : Bool) =>
            some (Lp.go (s31, wrap64 (s24.2 + (1 : Int))))))
        else (
          some (Lp.out s24.1))) big (v0, (1 : Int))).bind K = K (v0 && (decide (-1000000 ≤ x.a1) && decide (x.a1 ≤ 1000000)) && (decide (-1000000 ≤ x.a2) && decide (x.a2 ≤ 1000000)) && (decide (-1000000 ≤ x.a3) && decide (x.a3 ≤ 1000000))) := by
    intro v0 K
    have one : ∀ (k : Nat) (y : Int) (v : Bool), k < 4 → getI [x.a0, x.a1, x.a2, x.a3] (k : Int) = some y → (jn (fun (j29 : (Bool) → Option (Lp (Bool × Int) Bool)) =>
            bif v then (
              (getI ([x.a0, x.a1, x.a2, x.a3] : List Int) (k : Int)).bind fun y32 =>
              bif decide ((-1000000 : Int) ≤ y32) then (
                (getI ([x.a0, x.a1, x.a2, x.a3] : List Int) (k : Int)).bind fun y34 =>
                j29 (decide (y34 ≤ (1000000 : Int))))
              else (
                j29 false))
            else (
              j29 false)) (fun (s31 : Bool) =>
            some (Lp.go (s31, wrap64 ((k : Int) + (1 : Int)))))) = some (Lp.go ((v && (decide (-1000000 ≤ y) && decide (y ≤ 1000000)), ((k + 1 : Nat) : Int)))) := by
      intro k y v hk hy
      rw [jn_eq, hy, w1 (by omega)]
      cases v
      · rfl
      · simp only [bifT, sbind]
        by_cases h1 : -1000000 ≤ y
        · rw [decide_eq_true h1, bifT]; rfl
        · rw [decide_eq_false h1]; rfl
    rw [loop_acc (s := (v0, (1 : Int))) (tlF v0 (decide (-1000000 ≤ x.a1) && decide (x.a1 ≤ 1000000)) (decide (-1000000 ≤ x.a2) && decide (x.a2 ≤ 1000000)) (decide (-1000000 ≤ x.a3) && decide (x.a3 ≤ 1000000))) 3 _ ?_ rfl (by unfold big; decide) rfl]
    · rfl
    · intro i hi
      match i, hi with
      | 0, _ => exact one 1 x.a1 _ (by decide) rfl
      | 1, _ => exact one 2 x.a2 _ (by decide) rfl
      | 2, _ => exact one 3 x.a3 _ (by decide) rfl
  have fin : ∀ v0 : Bool, v0 = (decide (0 ≤ x.a0) && decide (x.a0 ≤ 8)) → ∀ (K : Bool → Option Bool), (∀ v, (v = true ↔ fitsF ⟨x.a0, x.a1, x.a2, x.a3⟩) → K v = some true) → K (v0 && (decide (-1000000 ≤ x.a1) && decide (x.a1 ≤ 1000000)) && (decide (-1000000 ≤ x.a2) && decide (x.a2 ≤ 1000000)) && (decide (-1000000 ≤ x.a3) && decide (x.a3 ≤ 1000000))) = some true := by
    rintro v0 rfl K hK
    exact hK _ fits_iff
  by_cases h0 : 0 ≤ x.a0
  · rw [decide_eq_true h0, bifT]
    exact (loop _ _).trans (fin _ (by rw [decide_eq_true h0, Bool.true_and]) _ tail)
  · rw [decide_eq_false h0, bifF]
    exact (loop _ _).trans (fin _ (by rw [decide_eq_false h0, Bool.false_and]) _ tail)
end Go.Proofs.YtiobbiamnjapgaaGreatDoor
