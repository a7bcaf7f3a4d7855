/-
  It is proved that the statement ShowTexts of retrospect holds: for every input the call returns true, and the arguments read as they did.
  Conditions: none beyond the statement's own.
-/
import Derived.Test.YtpomhkkhdojpiaaGreatDoorFrame
import Derived.Test.YtpomhkkhdojpiaaGreatDoorGs
import Derived.Test.YtpomhkkhdojpiaaGreatDoorGen5
import Derived.Test.YtpomhkkhdojpiaaGreatDoorPlRt5
import Derived.Test.YtpomhkkhdojpiaaGreatDoorTie
import Derived.Test.YtpomhkkhdojpiaaGreatDoorCards
import Derived.Lay
import Derived.Stop.Joined
import Derived.SevenTiedAt
namespace Go.Proofs.YtpomhkkhdojpiaaGreatDoor
open Go Go.RowKit Go.ChangeShapes Go.WideShapes Go.ChangeAt
set_option maxRecDepth 100000
set_option maxHeartbeats 8000000
theorem opn_9 : Opn Tryz.prog 9 str (fun s => s.length ≤ maxLen) := opn_str Tryz.underlying9
theorem ShowTexts_lifted (os : Os) (started : os.Started) (H : Type) (enc : TypeId × Value → H) :
    ReturnsInHanded {} Tryz.checked os 8 .any (fun w args => (Rows.showTextsSpec.pre enc Tryz.prog Tryz.f8 [] false w args ∧ laidMetH Tryz.prog Rows.showTextsRow.laid w) ∧ sizedMet enc Tryz.prog Tryz.f8 (OpenSpec.ofChange Rows.showTextsSpec) false w args) (Rows.showTextsSpec.post enc Tryz.prog Tryz.f8 false true false false) := by
  refine returnsS (C := Tryz.checked) (X := fun w _ => laidMetH Tryz.prog Rows.showTextsRow.laid w) (fun _ _ _ hh h => h.of_heap hh) ownK started (by kernel_rfl) Tryz.func8
    (ChangeSpec.witness_shaped (enc := enc) (C := Tryz.checked) (os := os) (X := fun w _ => laidMetH Tryz.prog Rows.showTextsRow.laid w) false (World.laidAll Tryz.prog os Rows.showTextsRow.laid) #[.string ⟨#[]⟩] 40 (World.laidAll_os _ _ _)
      (World.shaped_of_ZipB (by kernel_rfl) (by kernel_rfl)) (by kernel_rfl) (by kernel_rfl) (by kernel_rfl)
      (by rw [MakeChecks.laidMetH_plain _ _ _ (by kernel_rfl)]; exact laidMet_laidAll _ (by kernel_rfl) (by kernel_rfl))) ?_
  intro W base args ds gs before hval0 hW hc _ hL hsh _
  have hval : ∀ (j : Nat) t v, Tryz.f8.params[j]? = some t → args[j]? = some v → Value.okWide Tryz.prog W .any base t v := hval0
  have hW' := hW
  obtain ⟨p, q, hA0, hV, rfl, _, _⟩ := hW
  have hA : DataW.TrodAll enc Tryz.prog W 0 (fun _ => true) true Tryz.f8.params.toList args.toList ds p := hA0
  rw [Tryz.params8] at hA hval
  obtain ⟨v0, d0, rfl, rfl, h0⟩ := trodAll_one hA
  obtain ⟨rfl, rfl⟩ := trodVars_none hV
  obtain ⟨y0, hy0, b0⟩ := opn_val1 opn_9 (fun _ => rfl) (fun _ _ _ => ⟨by rw [Tryz.underlying9]; simp, by rw [Tryz.underlying9]; simp⟩) (hval 0 9 v0 rfl rfl) h0
  obtain ⟨n, hn⟩ : ∃ n, m_retrospectlaw20_ShowTexts n y0 = some true := law_ShowTexts y0 b0
  have hF := c_retrospectlaw20_ShowTexts _ hn
  have hL1 : laidMet Tryz.prog Rows.showTextsRow.laid W := by rw [MakeChecks.laidMetH_plain _ _ _ (by kernel_rfl)] at hL; exact hL
  have hL2 : laidMet Tryz.prog [("internal/strconv.uint64pow10", Rows.laid_internal_strconv_uint64pow10), ("unicode/utf8.acceptRanges", Rows.laid_unicode_utf8_acceptRanges), ("strconv.ErrRange", Rows.laid_strconv_ErrRange), ("strconv.ErrSyntax", Rows.laid_strconv_ErrSyntax), ("unicode/utf8.first", Rows.laid_unicode_utf8_first)] W := (laidMet.tail (x := ("math/bits.deBruijn64tab", Rows.laid_math_bits_deBruijn64tab)) (laidMet.tail (x := ("math/bits.deBruijn32tab", Rows.laid_math_bits_deBruijn32tab)) hL1))
  have hL3 : laidMet Tryz.prog [("strconv.ErrRange", Rows.laid_strconv_ErrRange), ("strconv.ErrSyntax", Rows.laid_strconv_ErrSyntax), ("unicode/utf8.first", Rows.laid_unicode_utf8_first)] W := (laidMet.tail (x := ("unicode/utf8.acceptRanges", Rows.laid_unicode_utf8_acceptRanges)) (laidMet.tail (x := ("internal/strconv.uint64pow10", Rows.laid_internal_strconv_uint64pow10)) (laidMet.tail (x := ("math/bits.deBruijn64tab", Rows.laid_math_bits_deBruijn64tab)) (laidMet.tail (x := ("math/bits.deBruijn32tab", Rows.laid_math_bits_deBruijn32tab)) hL1))))
  have hL4 : laidMet Tryz.prog [("strconv.ErrSyntax", Rows.laid_strconv_ErrSyntax), ("unicode/utf8.first", Rows.laid_unicode_utf8_first)] W := (laidMet.tail (x := ("strconv.ErrRange", Rows.laid_strconv_ErrRange)) (laidMet.tail (x := ("unicode/utf8.acceptRanges", Rows.laid_unicode_utf8_acceptRanges)) (laidMet.tail (x := ("internal/strconv.uint64pow10", Rows.laid_internal_strconv_uint64pow10)) (laidMet.tail (x := ("math/bits.deBruijn64tab", Rows.laid_math_bits_deBruijn64tab)) (laidMet.tail (x := ("math/bits.deBruijn32tab", Rows.laid_math_bits_deBruijn32tab)) hL1)))))
  have hS : ∀ b, Sx S0n g0n [] b → S0n b := fun b h => by rcases h with h | ⟨_, _, _, h, _⟩; exact h; cases h
  refine (hF.2 W S0n g0n #[v0] (fun _ h => h.elim) (fun _ _ => rfl) (fun _ _ h => by cases h) (fun _ _ _ _ _ _ _ h => by cases h) (fun _ ⟨_, _, _, h, _⟩ => by cases h) ⟨v0, [], rfl, Ly.val_mono (Kp.refl _ _) (fun b h => .inl (hS b h)) (Ng.refl _) _ _ hy0, rfl⟩ (gw_start (fun b h => hS b h) hsh hL2 hL3 hL4)).mono ?_
  rintro e W' ⟨v, γ', rfl, hb⟩
  have hv : v = .bool true := hb.res
  subst hv
  have hbel : Below W.heap.size W W' := ⟨hb.os, hb.tape, hb.output, hb.grow, fun k hk => hb.old k hk (fun ⟨_, _, _, h, _⟩ => by cases h)⟩
  simp only [List.append_nil] at hW'
  refine ⟨_, rfl, post_of_below' (pa := p) (pv := []) hW' hbel (fun _ _ _ => trodAll_mk1 (shut_bool Tryz.underlying4 _)) (fun sp hsp => trodAll_mk1 (WideElems.Trod_stays laidOutK (by kernel_rfl) (of_decide_eq_true (by kernel_rfl)) h0 (fun x hx => hbel.same (hW'.lt x hx)) (hsp))) (fun _ _ => rfl) (by simp) (ok_one (by kernel_rfl) rfl (okWide_bool_mk Tryz.underlying4 _))⟩
theorem and_t {a b : Bool} (ha : a = true) (hb : b = true) : (a && b) = true := by rw [ha, hb]; rfl
set_option maxHeartbeats 8000000 in
theorem ShowTexts_closed : joinedFacts Tryz.prog 8 Tryz.f8 Rows.showTextsSpec Rows.showTextsRow = true := by
  unfold joinedFacts
  repeat' (with_reducible apply and_t)
  all_goals as_aux_lemma => kernel_rfl
theorem ShowTexts_row : Rows.ShowTextsSaid :=
  OpenClaim.holds_of_wide 8 Tryz.f8 rfl rfl rfl rfl rfl rfl rfl ⟨rfl, rfl, rfl, rfl, rfl⟩ rfl rfl rfl rfl rfl (by kernel_rfl) Tryz.func8 ShowTexts_closed
    (of_decide_eq_true (by kernel_rfl)) (by unfold Func.isWrapper; rw [if_neg (of_decide_eq_false (by kernel_rfl))]; exact ⟨rfl, rfl⟩)
    (fun os started H enc _ => ShowTexts_lifted os started H enc)
/-- ShowTexts, tied to the text of the program. -/
theorem ShowTexts_holds : Rows.ShowTextsCardSaid :=
  Claim7.holds_tied_plain_at .later [] _ _ _ _
    ShowTexts_row (fun _ h => by cases h) (by kernel_rfl) (fun _ h => by cases h) showTexts_row_tie rfl ⟨rfl, rfl⟩ (by kernel_rfl) rfl
    (fun f fn hf hfn => by
      obtain rfl : f = 8 := Option.some.inj ((show Tryz.prog.funcNamed Rows.showTextsRow.func = some 8 by kernel_rfl).symm.trans hf) |>.symm
      obtain rfl : fn = Tryz.f8 := (Option.some.inj (Tryz.func8.symm.trans hfn)).symm
      exact ⟨by kernel_rfl, fun j t ht => by
        rw [Tryz.params8] at ht
        have hm : t ∈ [9] := by simpa using Array.mem_of_getElem? ht
        have hall : ([9].all fun u => !Tryz.prog.wantsStandIn u) = true := by kernel_rfl
        exact (show Tryz.prog.wantsStandIn t = false by simpa using List.all_eq_true.1 hall t hm)⟩)
    (by kernel_rfl)
#print axioms ShowTexts_holds
end Go.Proofs.YtpomhkkhdojpiaaGreatDoor
