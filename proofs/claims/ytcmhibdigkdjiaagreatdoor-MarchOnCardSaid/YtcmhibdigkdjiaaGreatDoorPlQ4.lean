import Derived.Test.YtcmhibdigkdjiaaGreatDoorPlQ3
namespace Go.Proofs.YtcmhibdigkdjiaaGreatDoor
open Go Go.RowKit
/-! ### Rows: mixtures, sameness, the greatest -/
theorem list_len_iff {α : Type} {l : List (List α)} {m : Nat} : (∀ (i : Nat) x, l[i]? = some x → x.length = m) ↔ ∀ a ∈ l, a.length = m := by
  constructor
  · intro h a ha
    obtain ⟨j, hj⟩ := List.getElem?_of_mem ha
    exact h j a hj
  · intro h i x hx; exact h x (mem_of_get hx)
theorem m_row_Mix_o1_def {n : Nat} {c : List M_frac_Frac} {l : List (List M_frac_Frac)} {m : Int} : m_row_Mix_o1 n c l m = m_row_Mix n c l m := Eq.symm (Eq.symm rfl)
theorem rv_take (l : List M_frac_Frac) (i : Nat) : rv (l.take i) = (rv l).take i := by unfold rv; rw [List.map_take]
open Classical in
theorem m_row_Mix_eq {n j k m : Nat} {c : List M_frac_Frac} {l : List (List M_frac_Frac)} (hn : big ≤ n) (h1 : 1 ≤ j) (h2 : 1 ≤ k) (hj : j < 1048576) (hk : k < 1048576) (hc : FR j c) (hl : ∀ a ∈ l, FR k a) (hm : m ≤ 300) (hll : l.length ≤ 10000) :
    m_row_Mix n c l (m : Int) = some (if c.length = l.length ∧ ∀ a ∈ l, a.length = m then (toR (mixQ (rv c) (l.map rv) (List.replicate m 0)), true) else ([], false)) := by
  unfold m_row_Mix
  simp only [jn_eq]
  by_cases g1 : c.length = l.length
  · rw [decide_eq_true (show (c.length : Int) = (l.length : Int) by omega), Bool.not_true, bifF, decide_eq_false (show ¬ (m : Int) < 0 by omega), bifF, decide_eq_false (show ¬ (300 : Int) < (m : Int) by omega), bifF]
    rw [range_chk (fun _ (a : List M_frac_Frac) => a.length = m) (r := (([] : List M_frac_Frac), false))]
    · rw [list_len_iff]
      by_cases g2 : ∀ a ∈ l, a.length = m
      · rw [if_pos g2, if_pos ⟨g1, g2⟩, m_row_Zero_eq hn hm, sbind]
        have hcr := QR_rv hc h1
        rw [range_acc (fun i => toR (mixQ (rv (c.take i)) ((l.take i).map rv) (List.replicate m 0))) l, lpK_go, ← g1, List.take_length, g1, List.take_length]
        · intro i a hx
          have hi := lt_of_get hx
          have hci : c[i]? = some c[i] := List.getElem?_eq_getElem (by omega)
          have hck : Fk j c[i] := hc _ (List.getElem_mem (by omega))
          have ha := hl a (mem_of_get hx)
          have hal := g2 a (mem_of_get hx)
          generalize c[i]'(by omega) = ck at hci hck
          have e1 : c.take (i + 1) = c.take i ++ [ck] := by rw [List.take_add_one, hci]; rfl
          have e2 : l.take (i + 1) = l.take i ++ [a] := by rw [List.take_add_one, hx]; rfl
          have e3 : rv (c.take (i + 1)) = rv (c.take i) ++ [fv ck] := by unfold rv; rw [e1, List.map_append]; rfl
          have e4 : (l.take (i + 1)).map rv = (l.take i).map rv ++ [rv a] := by rw [e2, List.map_append]; rfl
          have e5 : (rv (c.take i)).length = ((l.take i).map rv).length := by rw [rv_len]; simp; omega
          rw [getI_of hci, sbind, m_frac_Sign_eq hn h1 (by omega) hck, sbind, bifd, e3, e4, mixQ_snoc e5]
          have hz0 : (mixQ (rv (c.take i)) ((l.take i).map rv) (List.replicate m 0)).length = m := mixQ_len (fun b hb => by
            obtain ⟨d, hd, rfl⟩ := List.mem_map.1 hb
            rw [rv_len]; exact g2 d (List.mem_of_mem_take hd)) (by simp)
          have hzq : QR (1 + (l.take i).length * (j + k + 1)) (mixQ (rv (c.take i)) ((l.take i).map rv) (List.replicate m 0)) := by
            have := QR_mix (j := j) (k := k) (b := 1) (cs := rv (c.take i)) (l := (l.take i).map rv) (z := List.replicate m 0) (fun q hq => by rw [rv_take] at hq; exact hcr q (List.mem_of_mem_take hq)) (fun b hb => by
              obtain ⟨d, hd, rfl⟩ := List.mem_map.1 hb
              exact QR_rv (hl d (List.mem_of_mem_take hd)) h2) (fun q hq => by rw [(List.mem_replicate.1 hq).2, qw_zero]; exact Nat.le_refl _)
            rwa [List.length_map] at this
          have hb1 : (l.take i).length * (j + k + 1) ≤ 10000 * 2097152 := Nat.mul_le_mul (by simp; omega) (by omega)
          have hzq2 := QR_mono hzq (show _ ≤ 20971520001 by omega)
          generalize mixQ (rv (c.take i)) ((l.take i).map rv) (List.replicate m 0) = z at hz0 hzq2
          by_cases g3 : (fv ck).num.sign = 0
          · rw [if_pos g3]
            have h0 : fv ck = 0 := Rat.num_eq_zero.1 (Int.sign_eq_zero_iff_zero.1 g3)
            rw [h0, zip_zero (m := m) (by rw [rv_len, hal]) hz0]
          · rw [if_neg g3, range_upd (fun (x : M_frac_Frac) (o : M_frac_Frac) => toF (fv o + fv ck * fv x)) a (toR z) (by rw [toR_len, hal, hz0]), lpK_go]
            · refine congrArg (fun z => some (Lp.go z)) ?_
              unfold toR rv
              rw [List.map_zipWith, List.zipWith_map_right, List.zipWith_map_left]
              congr 1
              funext x y
              rw [fv_toF]
            · intro i' x y s' hx' hy hy'
              have hy2 : Fk 20971520001 y := FR_toR hzq2 y (mem_of_get hy)
              have hxk := ha x (mem_of_get hx')
              have hp : qw (fv ck * fv x) ≤ j + k := qw_mul (qw_fv hck h1) (qw_fv hxk h2)
              rw [getI_of hy', sbind, sbind, m_frac_Mul_eq (k := j + k) hn (by omega) (by omega) (Fk_mono hck (by omega)) (Fk_mono hxk (by omega)), sbind, m_frac_Add_eq (k := 20971520001) hn (by omega) (by omega) hy2 (Fk_toF (by omega)), sbind, sbind, Int.toNat_natCast, fv_toF]
        · rfl
      · rw [if_neg g2, if_neg (fun h => g2 h.2)]
    · intro i x hx
      constructor
      · intro h; rw [decide_eq_true (show (x.length : Int) = (m : Int) by omega)]; rfl
      · intro h; rw [decide_eq_false (show ¬ (x.length : Int) = (m : Int) by omega)]; rfl
  · rw [decide_eq_false (show ¬ (c.length : Int) = (l.length : Int) by omega), if_neg (fun h => g1 h.1)]; rfl
theorem rv_getq (l : List M_frac_Frac) (i : Nat) : (rv l)[i]? = (l[i]?).map fv := by unfold rv; simp
theorem m_row_Same_eq {n k : Nat} {a b : List M_frac_Frac} (hn : big ≤ n) (h1 : 1 ≤ k) (hk : k < 1099511627776) (ha : FR k a) (hb : FR k b) : m_row_Same n a b = some (decide (rv a = rv b)) := by
  classical
  unfold m_row_Same
  by_cases h : a.length = b.length
  · rw [decide_eq_true (show (a.length : Int) = (b.length : Int) by omega), Bool.not_true, bifF]
    rw [range_chk (fun i (x : M_frac_Frac) => ∀ y, b[i]? = some y → fv x = fv y) (r := false)]
    · have e : (∀ (i : Nat) x, a[i]? = some x → ∀ y, b[i]? = some y → fv x = fv y) ↔ rv a = rv b := by
        constructor
        · intro g
          refine List.ext_getElem? fun i => ?_
          rw [rv_getq, rv_getq]
          rcases Nat.lt_or_ge i a.length with hi | hi
          · have e1 : a[i]? = some a[i] := List.getElem?_eq_getElem hi
            have e2 : b[i]? = some (b[i]'(by omega)) := List.getElem?_eq_getElem (by omega)
            have := g i _ e1 _ e2
            rw [e1, e2]; exact congrArg some this
          · rw [List.getElem?_eq_none hi, List.getElem?_eq_none (by omega)]
        · intro g i x hx y hy
          have := congrArg (·[i]?) g
          simp only [rv_getq, hx, hy, Option.map_some] at this
          exact Option.some.inj this
      by_cases hd : rv a = rv b
      · rw [if_pos (e.2 hd), decide_eq_true hd]
      · rw [if_neg (fun g => hd (e.1 g)), decide_eq_false hd]
    · intro i x hx
      have hi := lt_of_get hx
      have e2 : b[i]? = some (b[i]'(by omega)) := List.getElem?_eq_getElem (by omega)
      rw [getI_of e2, sbind, m_frac_Same_eq hn h1 hk (ha x (mem_of_get hx)) (hb _ (mem_of_get e2)), sbind]
      constructor
      · intro g; rw [decide_eq_true (g _ e2)]; rfl
      · intro g
        rw [decide_eq_false (fun g' => g fun y hy => by rw [e2] at hy; cases hy; exact g')]; rfl
  · rw [decide_eq_false (show ¬ (a.length : Int) = (b.length : Int) by omega), Bool.not_false, bifT, decide_eq_false]
    intro g; apply h; rw [← rv_len a, g, rv_len]
def normQ (l : List Rat) : Rat := l.foldl (fun b x => maxQ b (absQ x)) 0
theorem qw_abs (q : Rat) : qw (absQ q) = qw q := by unfold absQ; split; exact qw_neg q; rfl
theorem qw_max {a b : Rat} {k : Nat} (ha : qw a ≤ k) (hb : qw b ≤ k) : qw (maxQ a b) ≤ k := by unfold maxQ; split <;> assumption
theorem m_row_Norm_eq {n k : Nat} {a : List M_frac_Frac} (hn : big ≤ n) (h1 : 1 ≤ k) (hk : k < 1099511627776) (ha : FR k a) : m_row_Norm n a = some (toF (normQ (rv a))) := by
  unfold m_row_Norm
  have hq : ∀ (l : List Rat) (b : Rat), QR k l → qw b ≤ k → qw (l.foldl (fun b x => maxQ b (absQ x)) b) ≤ k := by
    intro l
    induction l with
    | nil => intro b _ hb; exact hb
    | cons x l ih => intro b hl hb; exact ih _ (fun q hq => hl q (.tail _ hq)) (qw_max hb (by rw [qw_abs]; exact hl x (.head _)))
  rw [m_frac_Of_zero hn, sbind, range_acc (fun i => toF ((rv (a.take i)).foldl (fun b x => maxQ b (absQ x)) 0)) a, lpK_go, List.take_length]
  · rfl
  · intro i x hx
    have e1 : a.take (i + 1) = a.take i ++ [x] := by rw [List.take_add_one, hx]; rfl
    have e3 : rv (a.take (i + 1)) = rv (a.take i) ++ [fv x] := by unfold rv; rw [e1, List.map_append]; rfl
    have hx1 := ha x (mem_of_get hx)
    have hb := hq (rv (a.take i)) 0 (QR_rv (fun y hy => ha y (List.mem_of_mem_take hy)) h1) (by rw [qw_zero]; exact h1)
    rw [m_frac_Abs_eq hn hk hx1, sbind, m_frac_Max2_eq hn h1 hk (Fk_toF hb) (Fk_toF (by rw [qw_abs]; exact qw_fv hx1 h1)), sbind, e3, List.foldl_append, fv_toF, fv_toF]
    rfl
  · rfl
end Go.Proofs.YtcmhibdigkdjiaaGreatDoor
