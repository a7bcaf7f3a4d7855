/-
  It is proved that the statement DeskLines of retrospect holds: for every input the call returns true, and the arguments read as they did.
  Conditions: none beyond the statement's own.
-/
import Derived.Test.YtcdeknlejjjmlaaGreatDoorFrame
import Derived.Test.YtcdeknlejjjmlaaGreatDoorGs
import Derived.Test.YtcdeknlejjjmlaaGreatDoorGen5
import Derived.Test.YtcdeknlejjjmlaaGreatDoorPlDk1
import Derived.Test.YtcdeknlejjjmlaaGreatDoorTie
import Derived.Test.YtcdeknlejjjmlaaGreatDoorCards
import Derived.Lay
import Derived.Stop.Joined
import Derived.SevenTiedAt
namespace Go.Proofs.YtcdeknlejjjmlaaGreatDoor
open Go Go.RowKit Go.ChangeShapes Go.WideShapes Go.ChangeAt
set_option maxRecDepth 100000
set_option maxHeartbeats 8000000
theorem opn_3 : Opn Tryz.prog 3 i64 (fun x => (-9223372036854775808 ≤ x ∧ x ≤ 9223372036854775807)) := opn_i64 Tryz.underlying3
theorem opn_9 : Opn Tryz.prog 9 str (fun s => s.length ≤ maxLen) := opn_str Tryz.underlying9
theorem opn_29 : Opn Tryz.prog 29 (fun x : M_retrospectlaw50_Op => .agg [i64 x.Kind, i64 x.X, str x.S]) B_retrospectlaw50_Op := opn_struct (fl := [(3, 0, 1), (3, 1, 1), (9, 2, 1)]) (fun y => (⟨y.1, y.2.1, y.2.2.1⟩ : M_retrospectlaw50_Op)) Tryz.underlying29 (by as_aux_lemma => kernel_rfl) (by as_aux_lemma => kernel_rfl) (opns_cons opn_3 (opns_cons opn_3 (opns_cons opn_9 (opns_nil)))) (fun _ => rfl) (fun y h => ⟨h.1, h.2.1, h.2.2.1, trivial⟩)
theorem opn_22 : Opn Tryz.prog 22 (fun xs : List M_retrospectlaw50_Op => sli 3 (xs.map L_retrospectlaw50_Op)) B_S_retrospectlaw50_Op := opn_sl Tryz.underlying22 (by as_aux_lemma => kernel_rfl) rfl (fun _ => rfl) opn_29
theorem DeskLines_lifted (os : Os) (started : os.Started) (H : Type) (enc : TypeId × Value → H) :
    ReturnsInHanded {} Tryz.checked os 3 .any (fun w args => (Rows.deskLinesSpec.pre enc Tryz.prog Tryz.f3 [] false w args ∧ laidMetH Tryz.prog Rows.deskLinesRow.laid w) ∧ sizedMet enc Tryz.prog Tryz.f3 (OpenSpec.ofChange Rows.deskLinesSpec) false w args) (Rows.deskLinesSpec.post enc Tryz.prog Tryz.f3 false true false false) := by
  refine returnsS (C := Tryz.checked) (X := fun w _ => laidMetH Tryz.prog Rows.deskLinesRow.laid w) (fun _ _ _ hh h => h.of_heap hh) ownK started (by as_aux_lemma => kernel_rfl) Tryz.func3
    (ChangeSpec.witness_shaped (enc := enc) (C := Tryz.checked) (os := os) (X := fun w _ => laidMetH Tryz.prog Rows.deskLinesRow.laid w) false (World.laidAll Tryz.prog os Rows.deskLinesRow.laid) #[.int .i64 0, .slice none 0 0] 40 (World.laidAll_os _ _ _)
      (World.shaped_of_ZipB (by as_aux_lemma => kernel_rfl) (by as_aux_lemma => kernel_rfl)) (by as_aux_lemma => kernel_rfl) (by as_aux_lemma => kernel_rfl) (by as_aux_lemma => kernel_rfl)
      (by rw [MakeChecks.laidMetH_plain _ _ _ (by as_aux_lemma => kernel_rfl)]; exact laidMet_laidAll _ (by as_aux_lemma => kernel_rfl) (by as_aux_lemma => kernel_rfl))) ?_
  intro W base args ds gs before hval0 hW hc hwt hL hsh _
  have hval : ∀ (j : Nat) t v, Tryz.f3.params[j]? = some t → args[j]? = some v → Value.okWide Tryz.prog W .any base t v := hval0
  have hW' := hW
  obtain ⟨p, q, hA0, hV, rfl, _, _⟩ := hW
  have hA : DataW.TrodAll enc Tryz.prog W 0 (fun _ => true) true Tryz.f3.params.toList args.toList ds p := hA0
  rw [Tryz.params3] at hA hval
  obtain ⟨v0, v1, d0, d1, p0, p1, rfl, rfl, rfl, h0, h1⟩ := trodAll_two hA
  obtain ⟨rfl, rfl⟩ := trodVars_none hV
  obtain ⟨y0, hy0, b0⟩ := opn_val1 opn_3 (fun _ => rfl) (fun _ _ _ => ⟨by rw [Tryz.underlying3]; simp, by rw [Tryz.underlying3]; simp⟩) (hval 0 3 v0 rfl rfl) h0
  obtain ⟨y1, hy1, b1⟩ := opn_val1 opn_22 (fun _ => rfl) (fun _ _ _ => ⟨by rw [Tryz.underlying22]; simp, by rw [Tryz.underlying22]; simp⟩) (hval 1 22 v1 rfl rfl) h1
  obtain ⟨n, hn⟩ : ∃ n, m_retrospectlaw50_DeskLines n y0 y1 = some true := law_DeskLines y0 y1 b0 b1
  have hF := c_retrospectlaw50_DeskLines _ hn
  have hL1 : laidMet Tryz.prog Rows.deskLinesRow.laid W := by rw [MakeChecks.laidMetH_plain _ _ _ (by as_aux_lemma => kernel_rfl)] at hL; exact hL
  have hL2 : laidMet Tryz.prog [("internal/strconv.uint64pow10", Rows.laid_internal_strconv_uint64pow10), ("unicode/utf8.acceptRanges", Rows.laid_unicode_utf8_acceptRanges), ("strconv.ErrRange", Rows.laid_strconv_ErrRange), ("strconv.ErrSyntax", Rows.laid_strconv_ErrSyntax), ("unicode/utf8.first", Rows.laid_unicode_utf8_first)] W := (laidMet.tail (x := ("math/bits.deBruijn64tab", Rows.laid_math_bits_deBruijn64tab)) (laidMet.tail (x := ("math/bits.deBruijn32tab", Rows.laid_math_bits_deBruijn32tab)) hL1))
  have hL3 : laidMet Tryz.prog [("strconv.ErrRange", Rows.laid_strconv_ErrRange), ("strconv.ErrSyntax", Rows.laid_strconv_ErrSyntax), ("unicode/utf8.first", Rows.laid_unicode_utf8_first)] W := (laidMet.tail (x := ("unicode/utf8.acceptRanges", Rows.laid_unicode_utf8_acceptRanges)) (laidMet.tail (x := ("internal/strconv.uint64pow10", Rows.laid_internal_strconv_uint64pow10)) (laidMet.tail (x := ("math/bits.deBruijn64tab", Rows.laid_math_bits_deBruijn64tab)) (laidMet.tail (x := ("math/bits.deBruijn32tab", Rows.laid_math_bits_deBruijn32tab)) hL1))))
  have hL4 : laidMet Tryz.prog [("strconv.ErrSyntax", Rows.laid_strconv_ErrSyntax), ("unicode/utf8.first", Rows.laid_unicode_utf8_first)] W := (laidMet.tail (x := ("strconv.ErrRange", Rows.laid_strconv_ErrRange)) (laidMet.tail (x := ("unicode/utf8.acceptRanges", Rows.laid_unicode_utf8_acceptRanges)) (laidMet.tail (x := ("internal/strconv.uint64pow10", Rows.laid_internal_strconv_uint64pow10)) (laidMet.tail (x := ("math/bits.deBruijn64tab", Rows.laid_math_bits_deBruijn64tab)) (laidMet.tail (x := ("math/bits.deBruijn32tab", Rows.laid_math_bits_deBruijn32tab)) hL1)))))
  have hS : ∀ b, Sx S0n g0n [] b → S0n b := fun b h => by rcases h with h | ⟨_, _, _, h, _⟩; exact h; cases h
  refine (hF.2 W S0n g0n #[v0, v1] (fun _ h => h.elim) (fun _ _ => rfl) (fun _ _ h => by cases h) (fun _ _ _ _ _ _ _ h => by cases h) (fun _ ⟨_, _, _, h, _⟩ => by cases h) ⟨v0, [v1], rfl, Ly.val_mono (Kp.refl _ _) (fun b h => .inl (hS b h)) (Ng.refl _) _ _ hy0, ⟨v1, [], rfl, Ly.val_mono (Kp.refl _ _) (fun b h => .inl (hS b h)) (Ng.refl _) _ _ hy1, rfl⟩⟩ (gw_start (fun b h => hS b h) hsh hL2 hL3 hL4)).mono ?_
  rintro e W' ⟨v, γ', rfl, hb⟩
  have hv : v = .bool true := hb.res
  subst hv
  have hbel : Below W.heap.size W W' := ⟨hb.os, hb.tape, hb.output, hb.grow, fun k hk => hb.old k hk (fun ⟨_, _, _, h, _⟩ => by cases h)⟩
  simp only [List.append_nil] at hW'
  refine ⟨_, rfl, post_of_below' (pa := p0 ++ p1) (pv := []) hW' hbel (fun _ _ _ => trodAll_mk1 (shut_bool Tryz.underlying4 _)) (fun sp hsp => trodAll_mk2 (WideElems.Trod_stays laidOutK (by as_aux_lemma => kernel_rfl) (of_decide_eq_true (by as_aux_lemma => kernel_rfl)) h0 (fun x hx => hbel.same (hW'.lt x (List.mem_append_left _ (hx)))) (fun x hx => hsp x (List.mem_append_left _ (hx)))) (WideElems.Trod_stays laidOutK (by as_aux_lemma => kernel_rfl) (of_decide_eq_true (by as_aux_lemma => kernel_rfl)) h1 (fun x hx => hbel.same (hW'.lt x (List.mem_append_right _ (hx)))) (fun x hx => hsp x (List.mem_append_right _ (hx))))) (fun _ _ => rfl) (by simp) (ok_one (by as_aux_lemma => kernel_rfl) rfl (okWide_bool_mk Tryz.underlying4 _))⟩
end Go.Proofs.YtcdeknlejjjmlaaGreatDoor
