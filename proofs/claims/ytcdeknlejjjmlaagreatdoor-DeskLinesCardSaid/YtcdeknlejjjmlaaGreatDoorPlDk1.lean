-- MODD
import Derived.Test.YtcdeknlejjjmlaaGreatDoorMod
import Derived.Test.YtcdeknlejjjmlaaGreatDoorPl1
import Derived.Test.YtcdeknlejjjmlaaGreatDoorPlLp
import Derived.KernelRfl
namespace Go.Proofs.YtcdeknlejjjmlaaGreatDoor
open Go Go.RowKit
set_option maxRecDepth 100000
/-! ### DeskLines -/
theorem w50 : m_retrospectlaw50_works big = some true := by kernel_rfl
theorem take_nil {c : Chn Int} {b : Bool} (h : c.buf = []) : m___desk_Line_int___Take c b = some (0, false, c) := by
  unfold m___desk_Line_int___Take chHd chOk
  rw [h]
  cases c.sh <;> simp [grd]
theorem take_cons {c : Chn Int} {b : Bool} {x : Int} {tl : List Int} (h : c.buf = x :: tl) (hx : okI x = true) : m___desk_Line_int___Take c b = some (x, true, { c with buf := tl, rcvd := c.rcvd + 1 }) := by
  unfold m___desk_Line_int___Take chHd chOk
  rw [h]
  simp [grd, hx]
theorem put_eq {c : Chn Int} {b : Bool} {x : Int} (hs : c.sh = b) : m___desk_Line_int___Put c b x = some (if b = false ∧ c.buf.length < c.cap then (true, { c with buf := c.buf ++ [x], sent := c.sent + 1 }) else (false, c)) := by
  unfold m___desk_Line_int___Put
  cases b
  · by_cases h : c.buf.length < c.cap <;> simp [hs, grd, h]
  · simp
theorem shut_eq {c : Chn Int} {b : Bool} (hs : c.sh = b) : m___desk_Line_int___Shut c b = some (!b, true, { c with sh := true }) := by
  unfold m___desk_Line_int___Shut
  cases b
  · simp [hs, grd]
  · have : ({ c with sh := true } : Chn Int) = c := by cases c; simp at hs; subst hs; rfl
    simp [this]
theorem wait_eq {c : Chn Int} {b : Bool} (h : c.buf.length ≤ 1000000) : m___desk_Line_int___Waiting c b = some (c.buf.length : Int) := by
  unfold m___desk_Line_int___Waiting
  rw [grd_t (Nat.ble_eq_true_of_le h), sbind]
theorem room_eq {c : Chn Int} {b : Bool} (h : c.cap ≤ 1000000) : m___desk_Line_int___Room c b = some (c.cap : Int) := by
  unfold m___desk_Line_int___Room
  rw [grd_t (Nat.ble_eq_true_of_le h), sbind]
theorem getI_zero' {α : Type} {x : α} {l : List α} : getI (x :: l) 0 = some x := rfl
structure DkI (most : Nat) (n : Nat) (s : Chn Int × Bool × List Int × Bool × Int) : Prop where
  cap : s.1.cap = most
  sh : s.1.sh = s.2.1
  two : s.2.1 = s.2.2.2.1
  buf : s.1.buf = s.2.2.1
  ok : ∀ x ∈ s.2.2.1, okI x = true
  len : s.2.2.1.length ≤ most
  i0 : 0 ≤ s.2.2.2.2
  i1 : s.2.2.2.2 ≤ n
theorem law_DeskLines (y0 : Int) (y1 : List M_retrospectlaw50_Op) (b0 : -9223372036854775808 ≤ y0 ∧ y0 ≤ 9223372036854775807) (b1 : B_S_retrospectlaw50_Op y1) : ∃ n, m_retrospectlaw50_DeskLines n y0 y1 = some true := by
  refine ⟨big, ?_⟩
  obtain ⟨most, hm, h1, h2⟩ : ∃ most : Nat, min (max y0 (1 : Int)) (200 : Int) = (most : Int) ∧ 1 ≤ most ∧ most ≤ 200 := ⟨(min (max y0 (1 : Int)) (200 : Int)).toNat, by omega, by omega, by omega⟩
  unfold m_retrospectlaw50_DeskLines m_desk_NewLine_int_ m_retrospectref50_Room
  simp only [jn_eq]
  rw [hm, grd_t (decide_eq_true (by omega)), sbind, sbind]
  by_cases h80 : (80 : Int) < (y1.length : Int)
  · rw [decide_eq_true h80, bifT, w50]; rfl
  rw [decide_eq_false h80, bifF, sbind]
  refine loop_bind (fun s => y1.length - s.2.2.2.2.toNat) (DkI most y1.length) (fun t => t = .go ()) ⟨by simp, rfl, rfl, rfl, (fun _ h => by cases h), Nat.zero_le _, Int.le_refl _, Int.natCast_nonneg _⟩ (Nat.lt_of_le_of_lt (Nat.sub_le _ _) (by unfold big; omega)) ?_ (fun t ht => by subst ht; rw [lpK_go, w50]; rfl)
  rintro ⟨⟨cap, buf, sh, se, rc⟩, sh1, l, sh2, i⟩ ⟨a1, a2, a3, a4, a5, a6, a7, a8⟩
  simp only [] at a1 a2 a3 a4 a5 a6 a7 a8
  subst a1 a2 a3 a4
  obtain ⟨k, rfl⟩ : ∃ k : Nat, i = (k : Int) := ⟨i.toNat, by omega⟩
  by_cases hi : (k : Int) < (y1.length : Int)
  case neg => exact .inr ⟨_, by simp only []; rw [decide_eq_false hi, bifF], rfl⟩
  have hk : k < y1.length := by omega
  have hw : wrap64 ((k : Int) + 1) = ((k + 1 : Nat) : Int) := w1 (by omega)
  have hX : okI (y1[k]).X = true := by
    have := (b1.2 _ (List.getElem_mem hk)).2.1
    unfold okI; exact decide_eq_true this
  have W : ∀ (l : List Int) (q b : Bool) (s r : Nat), l.length ≤ 1000000 → m___desk_Line_int___Waiting ⟨cap, l, q, s, r⟩ b = some (l.length : Int) := fun _ _ _ _ _ h => wait_eq h
  have Rm : ∀ (l : List Int) (q b : Bool) (s r : Nat), m___desk_Line_int___Room ⟨cap, l, q, s, r⟩ b = some (cap : Int) := fun _ _ _ _ _ => room_eq (by show cap ≤ _; omega)
  refine .inl ?_
  simp only []
  rw [decide_eq_true hi, bifT, getI_get hk, sbind]
  generalize y1[k] = op at hX
  have hb : ∀ (l' : List Int) (s' : Bool) (u v : Nat), (∀ x ∈ l', okI x = true) → l'.length ≤ cap → DkI cap y1.length (⟨cap, l', s', u, v⟩, s', l', s', ((k + 1 : Nat) : Int)) ∧ y1.length - ((k + 1 : Nat) : Int).toNat < y1.length - (k : Int).toNat := fun l' s' u v q4 q5 => ⟨⟨rfl, rfl, rfl, rfl, q4, q5, by show (0 : Int) ≤ ((k + 1 : Nat) : Int); omega, by show ((k + 1 : Nat) : Int) ≤ _; omega⟩, by omega⟩
  by_cases k2 : op.Kind = 2
  · rw [decide_eq_true k2, bifT]
    cases buf with
    | nil =>
      refine ⟨_, ?_, hb [] sh se rc a5 a6⟩
      rw [take_nil rfl]
      simp [W [] _ _ _ _ (by simp), Rm, hw]
    | cons x tl =>
      refine ⟨_, ?_, hb tl sh se (rc + 1) (fun y hy => a5 y (.tail _ hy)) (by simp at a6; omega)⟩
      rw [take_cons rfl (a5 x (.head _))]
      have hsub : sub (x :: tl) 1 ((tl.length : Int) + 1) = some tl := by
        have := sub_mid (l := x :: tl) (i := 1) (k := (x :: tl).length) (by simp) (Nat.le_refl _)
        rw [show ((1 : Nat) : Int) = 1 from rfl, show (((x :: tl).length : Nat) : Int) = (tl.length : Int) + 1 by simp] at this
        rw [this]; simp
      simp [W tl _ _ _ _ (by simp at a6; omega), Rm, hw, getI_zero', hsub]
  rw [decide_eq_false k2, bifF]
  by_cases k3 : op.Kind = 3
  · rw [decide_eq_true k3, bifT, shut_eq rfl, sbind]
    refine ⟨_, ?_, hb buf true se rc a5 a6⟩
    simp [W buf _ _ _ _ (by omega), Rm, hw]
  rw [decide_eq_false k3, bifF, put_eq rfl, sbind]
  by_cases hp : sh = false ∧ buf.length < cap
  · rw [if_pos hp]
    obtain ⟨p1, p2⟩ := hp
    subst p1
    refine ⟨_, ?_, hb (buf ++ [op.X]) false (se + 1) rc (fun y hy => by rcases List.mem_append.1 hy with h | h; exact a5 y h; rw [List.mem_singleton.1 h]; exact hX) (by simp; omega)⟩
    have w1 := W (buf ++ [op.X])
    simp only [List.length_append, List.length_singleton] at w1
    simp [w1 _ _ _ _ (by omega), Rm, hw, p2, appM_ok (b := 8) (l := []) (r := buf) (by simp; omega) (by simp; omega), appM_ok (b := 8) (l := buf) (r := [op.X]) (by simp; omega) (by simp; omega)]
  · rw [if_neg hp]
    refine ⟨_, ?_, hb buf sh se rc a5 a6⟩
    cases sh
    · have : ¬ buf.length < cap := fun h => hp ⟨rfl, h⟩
      simp [W buf _ _ _ _ (by omega), Rm, hw, this]
    · simp [W buf _ _ _ _ (by omega), Rm, hw]
end Go.Proofs.YtcdeknlejjjmlaaGreatDoor
