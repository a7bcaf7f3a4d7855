import Derived.Test.YtpomhkkhdojpiaaDoorPlSh5
import Derived.Test.YtpomhkkhdojpiaaDoorPlPf
namespace Go.Proofs.YtpomhkkhdojpiaaDoor
open Go Go.RowKit
/-! ### Texts in pieces: what is written is scanned as its words -/
def nbk (p : List UInt8) : Bool := decide (p ≠ [32] ∧ p ≠ [10])
def sepP : List (List UInt8) → Prop
  | [] => True
  | q :: _ => ∃ c t, q = c :: t ∧ goC 1 c.toNat = false ∧ goC 2 c.toNat = false
def okP : List (List UInt8) → Prop
  | [] => True
  | p :: r => okP r ∧ ((p = [32] ∨ p = [10]) ∨ ∃ k, wdB k p = true ∧ (k = 3 ∨ sepP r))
theorem goC_sep {k : Int} {r : List (List UInt8)} (h : k = 3 ∨ sepP r) : (r.flatten).takeWhile (fun b => goC k b.toNat) = [] := by
  have key : ∀ c : UInt8, (goC 1 c.toNat = false ∧ goC 2 c.toNat = false ∨ k = 3) → goC k c.toNat = false := by
    intro c hc
    unfold goC at hc ⊢
    rcases hc with ⟨h1, h2⟩ | rfl
    · simp at h1 h2 ⊢
      by_cases k1 : k = 1
      · subst k1; simp [h1]
      · by_cases k2 : k = 2
        · subst k2; simp [h2]
        · simp [k1, k2]
    · simp
  rcases h with h | h
  · cases hf : r.flatten with
    | nil => rfl
    | cons c t => rw [List.takeWhile_cons, key c (.inr h)]; rfl
  · cases r with
    | nil => rfl
    | cons q r =>
      obtain ⟨c, t, rfl, h1, h2⟩ := h
      rw [List.flatten_cons, List.cons_append, List.takeWhile_cons, key c (.inl ⟨h1, h2⟩)]; rfl
theorem tailK_app {k : Int} {t R : List UInt8} (h : t.all (fun b => goC k b.toNat) = true) (hR : R.takeWhile (fun b => goC k b.toNat) = []) : tailK k (t ++ R) = t := by
  unfold tailK
  rw [List.takeWhile_append_of_pos (fun b hb => List.all_eq_true.1 h b hb), hR, List.append_nil]
theorem scan_pcs : ∀ (ps : List (List UInt8)) (i : Nat), okP ps → ∃ ws, scanS ps.flatten i = .inl ws ∧ ws.map (·.Text) = ps.filter nbk
  | [], i, _ => ⟨[], by rw [List.flatten_nil, scanS_nil], rfl⟩
  | p :: r, i, h => by
    unfold okP at h
    obtain ⟨h0, h1⟩ := h
    rcases h1 with h1 | ⟨k, hk, hs⟩
    · obtain ⟨ws, e1, e2⟩ := scan_pcs r (i + 1) h0
      refine ⟨ws, ?_, ?_⟩
      · rcases h1 with rfl | rfl <;> (rw [List.flatten_cons, List.cons_append, List.nil_append, scanS_cons, if_pos (by decide), e1])
      · rw [e2, List.filter_cons]; rcases h1 with rfl | rfl <;> rw [if_neg (by decide)]
    · cases p with
      | nil => cases hk
      | cons c t =>
        obtain ⟨w1, w2, w3, w4⟩ := (wdB_cons k c t).1 hk
        obtain ⟨g1, g2⟩ := kind_blk (c := c.toNat) (by rw [w2]; exact w1)
        obtain ⟨ws, e1, e2⟩ := scan_pcs r (i + 1 + t.length) h0
        have ht := tailK_app (R := r.flatten) w3 (goC_sep hs)
        refine ⟨⟨k, c :: t, (i : Int)⟩ :: ws, ?_, ?_⟩
        · rw [List.flatten_cons, List.cons_append, scanS_cons, if_neg (by rw [g1]; decide), if_neg g2, w2, if_neg w1, ht, if_neg (by omega), List.drop_left, e1]; rfl
        · rw [List.map_cons, e2, List.filter_cons, if_pos]
          have n1 : c :: t ≠ [32] := fun e => by rw [List.cons.injEq] at e; rw [e.1] at w2; exact w1 (w2.symm.trans (by decide))
          have n2 : c :: t ≠ [10] := fun e => by rw [List.cons.injEq] at e; rw [e.1] at w2; exact w1 (w2.symm.trans (by decide))
          unfold nbk; exact decide_eq_true ⟨n1, n2⟩
theorem filt_app (a b : List (List UInt8)) : (a ++ b).filter nbk = a.filter nbk ++ b.filter nbk := List.filter_append ..
theorem wd_nbk {k : Int} {p : List UInt8} (h : wdB k p = true) : nbk p = true := by
  unfold nbk
  refine decide_eq_true ⟨fun e => ?_, fun e => ?_⟩ <;>
  · subst e
    obtain ⟨w1, w2, _⟩ := (wdB_cons k _ _).1 h
    exact w1 (w2.symm.trans (by decide))
/-! #### Expressions in pieces -/
def inP (ps : List (List UInt8)) (r least : Int) : List (List UInt8) := if r < least then [40] :: (ps ++ [[41]]) else ps
def itP (i : Int) : List (List UInt8) := if i < 0 then [[45], dec i.natAbs] else [dec i.natAbs]
def lfP (Nm : List (List UInt8)) (x : M_tree_Node) : List (List UInt8) :=
  if x.Op = 1 then [dec (val x.N)] else if x.Op = 3 then [[121], [91], dec x.I.natAbs, [93]] else if x.Op = 4 then [[112], [91], dec x.I.natAbs, [93]] else if x.Op = 5 then [Nm.getD x.I.toNat []] else [[116]]
def pcs (Nm : List (List UInt8)) : Ex → List (List UInt8)
  | .lf x => lfP Nm x
  | .un x a => if x.Op = 6 then [45] :: inP (pcs Nm a) (rkI (rtE a).Op) 3 else inP (pcs Nm a) (rkI (rtE a).Op) 5 ++ ([94] :: itP x.I)
  | .bi x a b => inP (pcs Nm a) (rkI (rtE a).Op) (rkI x.Op) ++ ([32] :: sgS x.Op :: [32] :: inP (pcs Nm b) (rkI (rtE b).Op) (rkI x.Op + 1))
theorem itoa_nonneg {x : Int} (h : 0 ≤ x) : Lib.itoa x = dec x.natAbs := by
  obtain ⟨k, rfl⟩ : ∃ k : Nat, x = k := ⟨x.toNat, by omega⟩
  rw [itoa_dec]; rfl
theorem flat_in (ps : List (List UInt8)) (r k : Int) : (inP ps r k).flatten = inB ps.flatten r k := by
  unfold inP inB; split <;> simp
theorem flat_it (x : Int) : (itP x).flatten = Lib.itoa x := by
  unfold itP
  by_cases h : x < 0
  · rw [if_pos h, itoa_negd h]; simp
  · rw [if_neg h, itoa_nonneg (by omega)]; simp
theorem flat_pcs {Nm : List (List UInt8)} : ∀ (e : Ex), okE (Nm.length : Int) e → (pcs Nm e).flatten = wrS Nm e
  | .lf x, h => by
    have hw := h.1
    unfold wf at hw
    unfold pcs wrS lfP lfS
    rcases lf_ok hw (h.2 x (by simp [fl])).1 with ⟨e, _⟩ | ⟨e, _⟩ | ⟨e, h1, _⟩ | ⟨e, h1, _⟩ | ⟨e, _⟩
    · rw [if_pos e, if_pos e]; simp
    · simp [e]
    · rw [if_neg (by omega), if_pos e, if_neg (by omega), if_pos e, itoa_nonneg h1]; simp
    · rw [if_neg (by omega), if_neg (by omega), if_pos e, if_neg (by omega), if_neg (by omega), if_pos e, itoa_nonneg h1]; simp
    · rw [if_neg (by omega), if_neg (by omega), if_neg (by omega), if_pos e, if_neg (by omega), if_neg (by omega), if_neg (by omega), if_pos e]; simp
  | .un x a, h => by
    obtain ⟨_, h2, _⟩ := okE_un h
    unfold pcs wrS
    split
    · rw [List.flatten_cons, flat_in, flat_pcs a h2]
    · rw [List.flatten_append, List.flatten_cons, flat_in, flat_pcs a h2, flat_it, List.append_assoc]
  | .bi x a b, h => by
    obtain ⟨_, h2, h3, _⟩ := okE_bi h
    unfold pcs wrS
    simp only [List.flatten_append, List.flatten_cons, flat_in, flat_pcs a h2, flat_pcs b h3, List.append_assoc]
def NmOk (Nm : List (List UInt8)) : Prop := ∀ s ∈ Nm, nameOk s = true
theorem name_wd {s : List UInt8} (h : nameOk s = true) : wdB 2 s = true := by unfold nameOk at h; simp only [Bool.and_eq_true] at h; exact h.1
theorem dec_wd {v : Nat} (h : (dec v).length ≤ 60) : wdB 1 (dec v) = true := by
  have hD := dec_isD (n := v)
  cases hd : dec v with
  | nil =>
    exfalso
    by_cases h0 : v = 0
    · subst h0; cases hd
    · have := dec_trimS (s := dec v) hD; rw [dec_ne h0] at hd; have hh := congrArg List.length hd; rw [List.length_reverse, dcR_pos h0] at hh; simp at hh
  | cons c t =>
    rw [hd] at hD h
    have hc : ∀ b ∈ c :: t, digB b.toNat = true := fun b hb => decide_eq_true (hD b hb)
    rw [wdB_cons]
    refine ⟨by decide, ?_, ?_, ?_⟩
    · unfold kindC; rw [if_pos (hc c (.head _))]
    · rw [List.all_eq_true]; intro b hb; unfold goC; simp [hc b (.tail _ hb)]
    · have : mostC 1 = 60 := by decide
      rw [this]; simpa using h
theorem small_wd {v : Nat} (h : v < 10) : wdB 1 (dec v) = true := dec_wd (by rw [dec_lt10 h]; simp)
theorem sep_c {c : UInt8} {t : List UInt8} {r : List (List UInt8)} (h1 : goC 1 c.toNat = false) (h2 : goC 2 c.toNat = false) : sepP ((c :: t) :: r) := ⟨c, t, rfl, h1, h2⟩
theorem okP_c {c : UInt8} {r : List (List UInt8)} (h : okP r) (hc : wdB 3 [c] = true) : okP ([c] :: r) := ⟨h, .inr ⟨3, hc, .inl rfl⟩⟩
theorem okP_b {r : List (List UInt8)} (h : okP r) : okP ([32] :: r) := ⟨h, .inl (.inl rfl)⟩
theorem okP_w {k : Int} {p : List UInt8} {r : List (List UInt8)} (h : okP r) (hk : wdB k p = true) (hs : sepP r) : okP (p :: r) := ⟨h, .inr ⟨k, hk, .inr hs⟩⟩
theorem okP_in {ps rest : List (List UInt8)} {r k : Int} (h : okP rest) (hs : sepP rest) (hp : ∀ rest, okP rest → sepP rest → okP (ps ++ rest)) : okP (inP ps r k ++ rest) := by
  unfold inP
  split
  · rw [List.cons_append, List.append_assoc]
    exact okP_c (hp _ (okP_c h (by decide)) (sep_c (by decide) (by decide))) (by decide)
  · exact hp rest h hs
theorem okP_it {x : Int} {rest : List (List UInt8)} (h1 : -8 ≤ x) (h2 : x ≤ 8) (h : okP rest) (hs : sepP rest) : okP (itP x ++ rest) := by
  unfold itP
  split
  · exact okP_c (okP_w h (small_wd (by omega)) hs) (by decide)
  · exact okP_w h (small_wd (by omega)) hs
theorem sgS_wd {op : Int} : wdB 3 (sgS op) = true := by unfold sgS; (repeat' split) <;> decide
theorem okP_pcs {Nm : List (List UInt8)} (hN : NmOk Nm) : ∀ (e : Ex), okE (Nm.length : Int) e → ∀ rest, okP rest → sepP rest → okP (pcs Nm e ++ rest)
  | .lf x, h, rest, hr, hs => by
    have hw := h.1
    unfold wf at hw
    unfold pcs lfP
    rcases lf_ok hw (h.2 x (by simp [fl])).1 with ⟨e, _, _, hl⟩ | ⟨e, _⟩ | ⟨e, h1, h2, _⟩ | ⟨e, h1, h2, _⟩ | ⟨e, h1, h2, _⟩
    · rw [if_pos e]; exact okP_w hr (dec_wd hl) hs
    · rw [if_neg (by omega), if_neg (by omega), if_neg (by omega), if_neg (by omega)]; exact okP_w (k := 2) hr (by decide) hs
    · rw [if_neg (by omega), if_pos e]
      exact okP_w (k := 2) (okP_c (okP_w (okP_c hr (by decide)) (small_wd (by omega)) (sep_c (by decide) (by decide))) (by decide)) (by decide) (sep_c (by decide) (by decide))
    · rw [if_neg (by omega), if_neg (by omega), if_pos e]
      exact okP_w (k := 2) (okP_c (okP_w (okP_c hr (by decide)) (small_wd (by omega)) (sep_c (by decide) (by decide))) (by decide)) (by decide) (sep_c (by decide) (by decide))
    · rw [if_neg (by omega), if_neg (by omega), if_neg (by omega), if_pos e]
      have hl : x.I.toNat < Nm.length := by omega
      rw [List.getD_eq_getElem?_getD, List.getElem?_eq_getElem hl]
      exact okP_w hr (name_wd (hN _ (List.getElem_mem hl))) hs
  | .un x a, h, rest, hr, hs => by
    obtain ⟨h1, h2, h3, _⟩ := okE_un h
    unfold pcs
    rcases un_ok h1 h3 with ⟨e, _⟩ | ⟨e, e1, e2, _⟩
    · rw [if_pos e, List.cons_append]
      exact okP_c (okP_in hr hs (okP_pcs hN a h2)) (by decide)
    · rw [if_neg (by omega), List.append_assoc]
      exact okP_in (okP_c (okP_it e1 e2 hr hs) (by decide)) (sep_c (by decide) (by decide)) (okP_pcs hN a h2)
  | .bi x a b, h, rest, hr, hs => by
    obtain ⟨h1, h2, h3, _⟩ := okE_bi h
    unfold pcs
    rw [List.append_assoc, List.cons_append, List.cons_append, List.cons_append]
    exact okP_in (okP_b ⟨okP_b (okP_in hr hs (okP_pcs hN b h3)), .inr ⟨3, sgS_wd, .inl rfl⟩⟩) (sep_c (by decide) (by decide)) (okP_pcs hN a h2)
end Go.Proofs.YtpomhkkhdojpiaaDoor
