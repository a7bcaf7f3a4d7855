/-
  It is proved that the statement ParseBlanks of retrospect holds: for every input the call returns true, and the arguments read as they did.
  Conditions: none beyond the statement's own.
-/
import Derived.Test.YtpomhkkhdojpiaaDoorFrame
import Derived.Test.YtpomhkkhdojpiaaDoorGs
import Derived.Test.YtpomhkkhdojpiaaDoorGen4
import Derived.Test.YtpomhkkhdojpiaaDoorPlBl3
import Derived.Test.YtpomhkkhdojpiaaDoorTie
import Derived.Test.YtpomhkkhdojpiaaDoorCards
import Derived.Lay
import Derived.Stop.Joined
import Derived.SevenTiedAt
namespace Go.Proofs.YtpomhkkhdojpiaaDoor
open Go Go.RowKit Go.ChangeShapes Go.WideShapes Go.ChangeAt
set_option maxRecDepth 100000
set_option maxHeartbeats 8000000
theorem opn_9 : Opn Tryd.prog 9 str (fun s => s.length ≤ maxLen) := opn_str Tryd.underlying9
theorem ParseBlanks_lifted (os : Os) (started : os.Started) (H : Type) (enc : TypeId × Value → H) :
    ReturnsInHanded {} Tryd.checked os 3 .any (fun w args => (Rows.parseBlanksSpec.pre enc Tryd.prog Tryd.f3 [] false w args ∧ laidMetH Tryd.prog Rows.parseBlanksRow.laid w) ∧ sizedMet enc Tryd.prog Tryd.f3 (OpenSpec.ofChange Rows.parseBlanksSpec) false w args) (Rows.parseBlanksSpec.post enc Tryd.prog Tryd.f3 false true false false) := by
  refine returnsS (C := Tryd.checked) (X := fun w _ => laidMetH Tryd.prog Rows.parseBlanksRow.laid w) (fun _ _ _ hh h => h.of_heap hh) ownK started (by kernel_rfl) Tryd.func3
    (ChangeSpec.witness_shaped (enc := enc) (C := Tryd.checked) (os := os) (X := fun w _ => laidMetH Tryd.prog Rows.parseBlanksRow.laid w) false (World.laidAll Tryd.prog os Rows.parseBlanksRow.laid) #[.string ⟨#[]⟩] 40 (World.laidAll_os _ _ _)
      (World.shaped_of_ZipB (by kernel_rfl) (by kernel_rfl)) (by kernel_rfl) (by kernel_rfl) (by kernel_rfl)
      (by rw [MakeChecks.laidMetH_plain _ _ _ (by kernel_rfl)]; exact laidMet_laidAll _ (by kernel_rfl) (by kernel_rfl))) ?_
  intro W base args ds gs before hval0 hW hc _ hL hsh _
  have hval : ∀ (j : Nat) t v, Tryd.f3.params[j]? = some t → args[j]? = some v → Value.okWide Tryd.prog W .any base t v := hval0
  have hW' := hW
  obtain ⟨p, q, hA0, hV, rfl, _, _⟩ := hW
  have hA : DataW.TrodAll enc Tryd.prog W 0 (fun _ => true) true Tryd.f3.params.toList args.toList ds p := hA0
  rw [Tryd.params3] at hA hval
  obtain ⟨v0, d0, rfl, rfl, h0⟩ := trodAll_one hA
  obtain ⟨rfl, rfl⟩ := trodVars_none hV
  obtain ⟨y0, hy0, b0⟩ := opn_val1 opn_9 (fun _ => rfl) (fun _ _ _ => ⟨by rw [Tryd.underlying9]; simp, by rw [Tryd.underlying9]; simp⟩) (hval 0 9 v0 rfl rfl) h0
  obtain ⟨n, hn⟩ : ∃ n, m_retrospectlaw18_ParseBlanks n y0 = some true := law_ParseBlanks y0 b0
  have hF := c_retrospectlaw18_ParseBlanks _ hn
  have hL1 : laidMet Tryd.prog Rows.parseBlanksRow.laid W := by rw [MakeChecks.laidMetH_plain _ _ _ (by kernel_rfl)] at hL; exact hL
  have hL2 : laidMet Tryd.prog [("internal/strconv.uint64pow10", Rows.laid_internal_strconv_uint64pow10), ("strconv.ErrRange", Rows.laid_strconv_ErrRange), ("strconv.ErrSyntax", Rows.laid_strconv_ErrSyntax)] W := (laidMet.tail (x := ("math/bits.deBruijn64tab", Rows.laid_math_bits_deBruijn64tab)) (laidMet.tail (x := ("math/bits.deBruijn32tab", Rows.laid_math_bits_deBruijn32tab)) hL1))
  have hL3 : laidMet Tryd.prog [("strconv.ErrRange", Rows.laid_strconv_ErrRange), ("strconv.ErrSyntax", Rows.laid_strconv_ErrSyntax)] W := (laidMet.tail (x := ("internal/strconv.uint64pow10", Rows.laid_internal_strconv_uint64pow10)) (laidMet.tail (x := ("math/bits.deBruijn64tab", Rows.laid_math_bits_deBruijn64tab)) (laidMet.tail (x := ("math/bits.deBruijn32tab", Rows.laid_math_bits_deBruijn32tab)) hL1)))
  have hL4 : laidMet Tryd.prog [("strconv.ErrSyntax", Rows.laid_strconv_ErrSyntax)] W := (laidMet.tail (x := ("strconv.ErrRange", Rows.laid_strconv_ErrRange)) (laidMet.tail (x := ("internal/strconv.uint64pow10", Rows.laid_internal_strconv_uint64pow10)) (laidMet.tail (x := ("math/bits.deBruijn64tab", Rows.laid_math_bits_deBruijn64tab)) (laidMet.tail (x := ("math/bits.deBruijn32tab", Rows.laid_math_bits_deBruijn32tab)) hL1))))
  have hS : ∀ b, Sx S0n g0n [] b → S0n b := fun b h => by rcases h with h | ⟨_, _, _, h, _⟩; exact h; cases h
  refine (hF.2 W S0n g0n #[v0] (fun _ h => h.elim) (fun _ _ => rfl) (fun _ _ h => by cases h) (fun _ _ _ _ _ _ _ h => by cases h) (fun _ ⟨_, _, _, h, _⟩ => by cases h) ⟨v0, [], rfl, Ly.val_mono (Kp.refl _ _) (fun b h => .inl (hS b h)) (Ng.refl _) _ _ hy0, rfl⟩ (gw_start (fun b h => hS b h) hsh hL2 hL3 hL4)).mono ?_
  rintro e W' ⟨v, γ', rfl, hb⟩
  have hv : v = .bool true := hb.res
  subst hv
  have hbel : Below W.heap.size W W' := ⟨hb.os, hb.tape, hb.output, hb.grow, fun k hk => hb.old k hk (fun ⟨_, _, _, h, _⟩ => by cases h)⟩
  simp only [List.append_nil] at hW'
  refine ⟨_, rfl, post_of_below' (pa := p) (pv := []) hW' hbel (fun _ _ _ => trodAll_mk1 (shut_bool Tryd.underlying4 _)) (fun sp hsp => trodAll_mk1 (WideElems.Trod_stays laidOutK (by kernel_rfl) (of_decide_eq_true (by kernel_rfl)) h0 (fun x hx => hbel.same (hW'.lt x hx)) (hsp))) (fun _ _ => rfl) (by simp) (ok_one (by kernel_rfl) rfl (okWide_bool_mk Tryd.underlying4 _))⟩
theorem and_t {a b : Bool} (ha : a = true) (hb : b = true) : (a && b) = true := by rw [ha, hb]; rfl
set_option maxHeartbeats 8000000 in
theorem ParseBlanks_closed : joinedFacts Tryd.prog 3 Tryd.f3 Rows.parseBlanksSpec Rows.parseBlanksRow = true := by
  unfold joinedFacts
  repeat' (with_reducible apply and_t)
  all_goals as_aux_lemma => kernel_rfl
theorem ParseBlanks_row : Rows.ParseBlanksSaid :=
  OpenClaim.holds_of_wide 3 Tryd.f3 rfl rfl rfl rfl rfl rfl rfl ⟨rfl, rfl, rfl, rfl, rfl⟩ rfl rfl rfl rfl rfl (by kernel_rfl) Tryd.func3 ParseBlanks_closed
    (of_decide_eq_true (by kernel_rfl)) (by unfold Func.isWrapper; rw [if_neg (of_decide_eq_false (by kernel_rfl))]; exact ⟨rfl, rfl⟩)
    (fun os started H enc _ => ParseBlanks_lifted os started H enc)
/-- ParseBlanks, tied to the text of the program. -/
theorem ParseBlanks_holds : Rows.ParseBlanksCardSaid :=
  Claim7.holds_tied_plain_at .later [] _ _ _ _
    ParseBlanks_row (fun _ h => by cases h) (by kernel_rfl) (fun _ h => by cases h) parseBlanks_row_tie rfl ⟨rfl, rfl⟩ (by kernel_rfl) rfl
    (fun f fn hf hfn => by
      obtain rfl : f = 3 := Option.some.inj ((show Tryd.prog.funcNamed Rows.parseBlanksRow.func = some 3 by kernel_rfl).symm.trans hf) |>.symm
      obtain rfl : fn = Tryd.f3 := (Option.some.inj (Tryd.func3.symm.trans hfn)).symm
      exact ⟨by kernel_rfl, fun j t ht => by
        rw [Tryd.params3] at ht
        have hm : t ∈ [9] := by simpa using Array.mem_of_getElem? ht
        have hall : ([9].all fun u => !Tryd.prog.wantsStandIn u) = true := by kernel_rfl
        exact (show Tryd.prog.wantsStandIn t = false by simpa using List.all_eq_true.1 hall t hm)⟩)
    (by kernel_rfl)
#print axioms ParseBlanks_holds
end Go.Proofs.YtpomhkkhdojpiaaDoor
