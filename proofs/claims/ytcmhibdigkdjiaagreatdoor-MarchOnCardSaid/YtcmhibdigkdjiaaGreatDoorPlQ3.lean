import Derived.Test.YtcmhibdigkdjiaaGreatDoorPlQ2
namespace Go.Proofs.YtcmhibdigkdjiaaGreatDoor
open Go Go.RowKit
/-! ### Rows of fractions -/
def rv (l : List M_frac_Frac) : List Rat := l.map fv
def toR (l : List Rat) : List M_frac_Frac := l.map toF
theorem rv_toR (l : List Rat) : rv (toR l) = l := by
  unfold rv toR; rw [List.map_map]
  conv => rhs; rw [← List.map_id l]
  exact List.map_congr_left fun q _ => fv_toF q
theorem rv_len (l : List M_frac_Frac) : (rv l).length = l.length := by unfold rv; simp
theorem toR_len (l : List Rat) : (toR l).length = l.length := by unfold toR; simp
def FR (k : Nat) (l : List M_frac_Frac) : Prop := ∀ x ∈ l, Fk k x
def QR (k : Nat) (l : List Rat) : Prop := ∀ x ∈ l, qw x ≤ k
theorem FR_toR {k : Nat} {l : List Rat} (h : QR k l) : FR k (toR l) := fun x hx => by
  unfold toR at hx
  obtain ⟨q, hq, rfl⟩ := List.mem_map.1 hx
  exact Fk_toF (h q hq)
theorem QR_rv {k : Nat} {l : List M_frac_Frac} (h : FR k l) (h1 : 1 ≤ k) : QR k (rv l) := fun x hx => by
  unfold rv at hx
  obtain ⟨q, hq, rfl⟩ := List.mem_map.1 hx
  exact qw_fv (h q hq) h1
theorem FR_mono {j k : Nat} {l : List M_frac_Frac} (h : FR j l) (hk : j ≤ k) : FR k l := fun x hx => Fk_mono (h x hx) hk
theorem QR_mono {j k : Nat} {l : List Rat} (h : QR j l) (hk : j ≤ k) : QR k l := fun x hx => Nat.le_trans (h x hx) hk
theorem toR_nil : toR [] = [] := rfl
/-- A row of right fractions, made one by one. -/
theorem row_map {α : Type} {n : Nat} {a : List α} {g : α → Rat} {f : Nat → α → List M_frac_Frac → Option (Lp (List M_frac_Frac) (List M_frac_Frac))} (_ : big ≤ n) (hl : a.length ≤ 1000000)
    (hb : ∀ i x s, a[i]? = some x → f i x s = (appM 56 s [toF (g x)]).bind fun y => some (Lp.go y)) : (rangeL f a 0 []).bind (lpK fun s => some s) = some (toR (a.map g)) := by
  rw [range_acc (fun i => (a.take i).map fun x => toF (g x)) a, lpK_go, List.take_length]
  · unfold toR; rw [List.map_map]; rfl
  · intro i x hx
    have := lt_of_get hx
    rw [hb i x _ hx, appM_ok (by simp; omega) (by simp; omega), sbind, take_map_succ _ hx]
  · rfl
theorem m_row_norm_eq {n k : Nat} {a : List M_frac_Frac} (hn : big ≤ n) (hk : k < 1099511627776) (ha : FR k a) (hl : a.length ≤ 1000000) : m_row_norm n a = some (toR (rv a)) := by
  unfold m_row_norm
  refine row_map (g := fv) hn hl fun i x s hx => ?_
  rw [m_frac_Norm_eq hn (Fk_Fw (ha x (mem_of_get hx)) (by omega)), sbind]
theorem m_eval_norms_eq {n k : Nat} {a : List M_frac_Frac} (hn : big ≤ n) (hk : k < 1099511627776) (ha : FR k a) (hl : a.length ≤ 1000000) : m_eval_norms n a = some (toR (rv a)) := m_row_norm_eq hn hk ha hl
def scaleQ (c : Rat) (l : List Rat) : List Rat := l.map (c * ·)
theorem m_row_Scale_eq {n k : Nat} {c : M_frac_Frac} {a : List M_frac_Frac} (hn : big ≤ n) (h1 : 1 ≤ k) (hk : k < 1099511627776) (hc : Fk k c) (ha : FR k a) (hl : a.length ≤ 1000000) : m_row_Scale n c a = some (toR (scaleQ (fv c) (rv a))) := by
  unfold m_row_Scale
  rw [row_map (g := fun x => fv c * fv x) hn hl fun i x s hx => ?_]
  · unfold scaleQ rv; rw [List.map_map]; rfl
  · rw [m_frac_Mul_eq hn h1 hk hc (ha x (mem_of_get hx)), sbind]
theorem QR_scale {j k : Nat} {c : Rat} {l : List Rat} (hc : qw c ≤ j) (h : QR k l) : QR (j + k) (scaleQ c l) := fun x hx => by
  unfold scaleQ at hx
  obtain ⟨q, hq, rfl⟩ := List.mem_map.1 hx
  exact qw_mul hc (h q hq)
/-- A list whose entries are changed one by one. -/
theorem range_upd {α β τ R : Type} {f : Nat → α → List β → Option (Lp (List β) τ)} {K : Lp (List β) τ → Option R} (g : α → β → β) (xs : List α) (s : List β) (h : xs.length = s.length)
    (hb : ∀ i x y s', xs[i]? = some x → s[i]? = some y → s'[i]? = some y → f i x s' = some (.go (s'.set i (g x y)))) : (rangeL f xs 0 s).bind K = K (.go (List.zipWith g xs s)) := by
  have hlen : ∀ i, i ≤ xs.length → (List.zipWith g (xs.take i) (s.take i)).length = i := fun i hi => by simp; omega
  rw [range_acc (fun i => List.zipWith g (xs.take i) (s.take i) ++ s.drop i) xs]
  · rw [List.take_length, h, List.take_length, List.drop_length, List.append_nil]
  · intro i x hx
    have hi := lt_of_get hx
    have hy : s[i]? = some s[i] := List.getElem?_eq_getElem (by omega)
    have hg : (List.zipWith g (xs.take i) (s.take i) ++ s.drop i)[i]? = some s[i] := by
      rw [List.getElem?_append_right (by rw [hlen i (by omega)]; exact Nat.le_refl _), hlen i (by omega), Nat.sub_self, List.getElem?_drop, Nat.add_zero, hy]
    rw [hb i x s[i] _ hx hy hg]
    refine congrArg (fun z => some (Lp.go z)) ?_
    have hd : s.drop i = s[i] :: s.drop (i + 1) := List.drop_eq_getElem_cons (by omega)
    have e1 : xs.take (i + 1) = xs.take i ++ [x] := by
      rw [List.take_add_one, hx]; rfl
    have e2 : s.take (i + 1) = s.take i ++ [s[i]] := by
      rw [List.take_add_one, hy]; rfl
    rw [hd, List.set_append_right _ _ (by rw [hlen i (by omega)]; exact Nat.le_refl _), hlen i (by omega), Nat.sub_self, List.set_cons_zero, e1, e2, List.zipWith_append (by simp; omega)]
    simp
  · simp
def addQ (a b : List Rat) : List Rat := List.zipWith (· + ·) a b
theorem getI_zero {α : Type} {x : α} {l : List α} : getI (x :: l) 0 = some x := rfl
theorem m_row_Add_eq {n k : Nat} {a b : List M_frac_Frac} (hn : big ≤ n) (h1 : 1 ≤ k) (hk : k < 1099511627776) (ha : FR k a) (hb : FR k b) (hl : a.length ≤ 1000000) :
    m_row_Add n [a, b] = some (if a.length = b.length then (toR (addQ (rv a) (rv b)), true) else ([], false)) := by
  unfold m_row_Add
  have hs : sub [a, b] (1 : Int) (([a, b] : List (List M_frac_Frac)).length : Int) = some [b] := rfl
  rw [show decide ((([a, b] : List (List M_frac_Frac)).length : Int) = 0) = false from rfl, bifF, getI_zero, sbind, m_row_norm_eq hn hk ha hl, sbind, hs, sbind]
  simp only [rangeL]
  rw [toR_len, rv_len]
  by_cases h : a.length = b.length
  · rw [if_pos h, decide_eq_true (show (b.length : Int) = (a.length : Int) by omega), Bool.not_true, bifF, range_upd (fun (x : M_frac_Frac) (y : M_frac_Frac) => toF (fv y + fv x)) b (toR (rv a)) (by rw [toR_len, rv_len, h]), lpK_go, sbind]
    · simp only []
      rw [sbind, lpK_go]
      refine congrArg some (Prod.ext ?_ rfl)
      simp only []
      unfold addQ toR rv
      rw [List.map_zipWith, List.map_map, List.zipWith_map_right, List.zipWith_map, List.zipWith_comm]
      · congr 1
        funext x y
        simp only [Function.comp, fv_toF]
    · intro i x y s' hx hy hy'
      have hy2 : Fk k y := FR_toR (QR_rv ha h1) y (mem_of_get hy)
      rw [getI_of hy', sbind, m_frac_Add_eq hn h1 hk hy2 (hb x (mem_of_get hx)), sbind, sbind, Int.toNat_natCast]
  · rw [if_neg h, decide_eq_false (show ¬ (b.length : Int) = (a.length : Int) by omega), Bool.not_false, bifT, sbind]
    rfl
theorem zip_bnd {α β γ : Type} {g : α → β → γ} {P : γ → Prop} : ∀ {a : List α} {b : List β}, (∀ x ∈ a, ∀ y ∈ b, P (g x y)) → ∀ z ∈ List.zipWith g a b, P z
  | [], _, _, z, hz => by simp at hz
  | _ :: _, [], _, z, hz => by simp at hz
  | x :: a, y :: b, h, z, hz => by
    rcases List.mem_cons.1 hz with rfl | hz
    · exact h x (.head _) y (.head _)
    · exact zip_bnd (fun x' hx y' hy => h x' (.tail _ hx) y' (.tail _ hy)) z hz
theorem QR_add {j k : Nat} {a b : List Rat} (ha : QR j a) (hb : QR k b) : QR (j + k + 1) (addQ a b) := zip_bnd fun x hx y hy => qw_add (ha x hx) (hb y hy)
theorem addQ_len {a b : List Rat} : (addQ a b).length = min a.length b.length := by unfold addQ; simp
theorem scaleQ_len {c : Rat} {a : List Rat} : (scaleQ c a).length = a.length := by unfold scaleQ; simp
theorem m_row_Zero_eq {n m : Nat} (hn : big ≤ n) (hm : m ≤ 300) : m_row_Zero n (m : Int) = some (toR (List.replicate m 0)) := by
  unfold m_row_Zero
  have e : min (max (m : Int) 0) 300 = (m : Int) := by omega
  rw [e, mkM_ok (by omega) (by omega), sbind]
  rw [loop_acc (fun i => (List.replicate i (toF 0) ++ List.replicate (m - i) (⟨⟨false, []⟩, []⟩ : M_frac_Frac), (i : Int))) m (toR (List.replicate m 0))]
  · intro i hi
    simp only [bifd]
    have hd : List.replicate (m - i) (⟨⟨false, []⟩, []⟩ : M_frac_Frac) = ⟨⟨false, []⟩, []⟩ :: List.replicate (m - (i + 1)) ⟨⟨false, []⟩, []⟩ := by
      rw [show m - i = (m - (i + 1)) + 1 by omega, List.replicate_succ]
    rw [if_pos (by omega), m_frac_Of_zero hn, sbind, hd, get_mid' (by simp), sbind, set_mid' (by simp), w1 (by omega)]
    refine congrArg (fun z => some (Lp.go (z, _))) ?_
    rw [List.replicate_succ', List.append_assoc]; rfl
  · simp only [bifd]
    rw [if_neg (by omega), Nat.sub_self, List.replicate_zero, List.append_nil]
    unfold toR; rw [List.map_replicate]
  · unfold big at hn; omega
  · simp
/-- Rows, each so many times, added to a row. -/
def mixQ : List Rat → List (List Rat) → List Rat → List Rat
  | c :: cs, a :: l, z => mixQ cs l (List.zipWith (fun x o => o + c * x) a z)
  | _, _, z => z
theorem mixQ_snoc : ∀ {cs : List Rat} {l : List (List Rat)} {z : List Rat} {c a}, cs.length = l.length → mixQ (cs ++ [c]) (l ++ [a]) z = List.zipWith (fun x o => o + c * x) a (mixQ cs l z)
  | [], [], z, c, a, _ => rfl
  | [], _ :: _, _, _, _, h => by simp at h
  | _ :: _, [], _, _, _, h => by simp at h
  | x :: cs, y :: l, z, c, a, h => by
    simp only [List.cons_append, mixQ]
    exact mixQ_snoc (by simpa using h)
theorem mixQ_len {m : Nat} : ∀ {cs : List Rat} {l : List (List Rat)} {z : List Rat}, (∀ a ∈ l, a.length = m) → z.length = m → (mixQ cs l z).length = m
  | [], _, z, _, h => by simpa [mixQ] using h
  | _ :: _, [], z, _, h => by simpa [mixQ] using h
  | x :: cs, y :: l, z, hl, h => by
    simp only [mixQ]
    exact mixQ_len (fun a ha => hl a (.tail _ ha)) (by have := hl y (.head _); simp; omega)
theorem QR_mix {j k : Nat} : ∀ {cs : List Rat} {l : List (List Rat)} {z : List Rat} {b : Nat}, QR j cs → (∀ a ∈ l, QR k a) → QR b z → QR (b + l.length * (j + k + 1)) (mixQ cs l z)
  | [], _, z, b, _, _, h => QR_mono h (by omega)
  | _ :: _, [], z, b, _, _, h => QR_mono h (by omega)
  | x :: cs, y :: l, z, b, hc, hl, h => by
    simp only [mixQ]
    have h2 : QR (b + (j + k) + 1) (List.zipWith (fun x' o => o + x * x') y z) := zip_bnd fun u hu o ho => qw_add (h o ho) (qw_mul (hc x (.head _)) (hl y (.head _) u hu))
    refine QR_mono (QR_mix (fun q hq => hc q (.tail _ hq)) (fun a ha => hl a (.tail _ ha)) h2) ?_
    rw [List.length_cons, Nat.succ_mul]; omega
theorem zip_zero {m : Nat} : ∀ {a z : List Rat}, a.length = m → z.length = m → List.zipWith (fun x o => o + 0 * x) a z = z
  | [], [], _, _ => rfl
  | [], _ :: _, h, h' => by simp at h h'; omega
  | _ :: _, [], h, h' => by simp at h h'; omega
  | x :: a, y :: z, h, h' => by
    simp only [List.length_cons] at h h'
    rw [List.zipWith_cons_cons, zip_zero (m := m - 1) (by omega) (by omega)]
    congr 1; grind
end Go.Proofs.YtcmhibdigkdjiaaGreatDoor
