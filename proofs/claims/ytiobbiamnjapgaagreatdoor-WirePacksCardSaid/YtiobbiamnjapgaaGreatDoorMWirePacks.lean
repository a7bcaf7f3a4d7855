/-
  It is proved that the statement WirePacks of retrospect holds: for every input the call returns true, and the arguments read as they did.
  Conditions: none beyond the statement's own.
-/
import Derived.Test.YtiobbiamnjapgaaGreatDoorFrame
import Derived.Test.YtiobbiamnjapgaaGreatDoorGs
import Derived.Test.YtiobbiamnjapgaaGreatDoorGen2
import Derived.Test.YtiobbiamnjapgaaGreatDoorPlRf
import Derived.Test.YtiobbiamnjapgaaGreatDoorTie
import Derived.Test.YtiobbiamnjapgaaGreatDoorCards
import Derived.Lay
import Derived.Stop.Joined
import Derived.SevenTiedAt
namespace Go.Proofs.YtiobbiamnjapgaaGreatDoor
open Go Go.RowKit Go.ChangeShapes Go.WideShapes Go.ChangeAt
set_option maxRecDepth 100000
theorem opn_9 : Opn Tryz.prog 9 str (fun s => s.length ≤ maxLen) := opn_str Tryz.underlying9
theorem opn_31 : Opn Tryz.prog 31 (fun x : M_retrospectref48_Piece => .agg [str x.Name, str x.Text]) B_retrospectref48_Piece := opn_struct (fl := [(9, 0, 1), (9, 1, 1)]) (fun y => (⟨y.1, y.2.1⟩ : M_retrospectref48_Piece)) Tryz.underlying31 (by kernel_rfl) (by kernel_rfl) (opns_cons opn_9 (opns_cons opn_9 (opns_nil))) (fun _ => rfl) (fun y h => ⟨h.1, h.2.1, trivial⟩)
theorem opn_22 : Opn Tryz.prog 22 (fun xs : List M_retrospectref48_Piece => sli 2 (xs.map L_retrospectref48_Piece)) B_S_retrospectref48_Piece := opn_sl Tryz.underlying22 (by kernel_rfl) rfl (fun _ => rfl) opn_31
theorem WirePacks_lifted (os : Os) (started : os.Started) (H : Type) (enc : TypeId × Value → H) :
    ReturnsInHanded {} Tryz.checked os 3 .any (fun w args => (Rows.wirePacksSpec.pre enc Tryz.prog Tryz.f3 [] false w args ∧ laidMetH Tryz.prog Rows.wirePacksRow.laid w) ∧ sizedMet enc Tryz.prog Tryz.f3 (OpenSpec.ofChange Rows.wirePacksSpec) false w args) (Rows.wirePacksSpec.post enc Tryz.prog Tryz.f3 false true false false) := by
  refine returnsS (C := Tryz.checked) (X := fun w _ => laidMetH Tryz.prog Rows.wirePacksRow.laid w) (fun _ _ _ hh h => h.of_heap hh) ownK started (by kernel_rfl) Tryz.func3
    (ChangeSpec.witness_shaped (enc := enc) (C := Tryz.checked) (os := os) (X := fun w _ => laidMetH Tryz.prog Rows.wirePacksRow.laid w) false (World.laidAll Tryz.prog os Rows.wirePacksRow.laid) #[.slice none 0 0, .string ⟨#[]⟩] 40 (World.laidAll_os _ _ _)
      (World.shaped_of_ZipB (by kernel_rfl) (by kernel_rfl)) (by kernel_rfl) (by kernel_rfl) (by kernel_rfl)
      (by rw [MakeChecks.laidMetH_plain _ _ _ (by kernel_rfl)]; exact laidMet_laidAll _ (by kernel_rfl) (by kernel_rfl))) ?_
  intro W base args ds gs before hval0 hW hc _ hL hsh _
  have hval : ∀ (j : Nat) t v, Tryz.f3.params[j]? = some t → args[j]? = some v → Value.okWide Tryz.prog W .any base t v := hval0
  have hW' := hW
  obtain ⟨p, q, hA0, hV, rfl, _, _⟩ := hW
  have hA : DataW.TrodAll enc Tryz.prog W 0 (fun _ => true) true Tryz.f3.params.toList args.toList ds p := hA0
  rw [Tryz.params3] at hA hval
  obtain ⟨v0, v1, d0, d1, p0, p1, rfl, rfl, rfl, h0, h1⟩ := trodAll_two hA
  obtain ⟨rfl, rfl⟩ := trodVars_none hV
  obtain ⟨y0, hy0, b0⟩ := opn_val1 opn_22 (fun _ => rfl) (fun _ _ _ => ⟨by rw [Tryz.underlying22]; simp, by rw [Tryz.underlying22]; simp⟩) (hval 0 22 v0 rfl rfl) h0
  obtain ⟨y1, hy1, b1⟩ := opn_val1 opn_9 (fun _ => rfl) (fun _ _ _ => ⟨by rw [Tryz.underlying9]; simp, by rw [Tryz.underlying9]; simp⟩) (hval 1 9 v1 rfl rfl) h1
  obtain ⟨n, hn⟩ : ∃ n, m_retrospectlaw48_WirePacks n y0 y1 = some true := law_WirePacks y0 y1
  have hF := c_retrospectlaw48_WirePacks _ hn
  have hL1 : laidMet Tryz.prog Rows.wirePacksRow.laid W := by rw [MakeChecks.laidMetH_plain _ _ _ (by kernel_rfl)] at hL; exact hL
  have hL2 : laidMet Tryz.prog [("internal/strconv.uint64pow10", Rows.laid_internal_strconv_uint64pow10), ("unicode/utf8.acceptRanges", Rows.laid_unicode_utf8_acceptRanges), ("unicode/utf8.first", Rows.laid_unicode_utf8_first)] W := (laidMet.tail (x := ("math/bits.deBruijn64tab", Rows.laid_math_bits_deBruijn64tab)) (laidMet.tail (x := ("math/bits.deBruijn32tab", Rows.laid_math_bits_deBruijn32tab)) hL1))
  have hS : ∀ b, Sx S0n g0n [] b → S0n b := fun b h => by rcases h with h | ⟨_, _, _, h, _⟩; exact h; cases h
  refine (hF.2 W S0n g0n #[v0, v1] (fun _ h => h.elim) (fun _ _ => rfl) (fun _ _ h => by cases h) (fun _ _ _ _ _ _ _ h => by cases h) (fun _ ⟨_, _, _, h, _⟩ => by cases h) ⟨v0, [v1], rfl, Ly.val_mono (Kp.refl _ _) (fun b h => .inl (hS b h)) (Ng.refl _) _ _ hy0, ⟨v1, [], rfl, Ly.val_mono (Kp.refl _ _) (fun b h => .inl (hS b h)) (Ng.refl _) _ _ hy1, rfl⟩⟩ (gw_start (fun b h => hS b h) hsh hL2)).mono ?_
  rintro e W' ⟨v, γ', rfl, hb⟩
  have hv : v = .bool true := hb.res
  subst hv
  have hbel : Below W.heap.size W W' := ⟨hb.os, hb.tape, hb.output, hb.grow, fun k hk => hb.old k hk (fun ⟨_, _, _, h, _⟩ => by cases h)⟩
  simp only [List.append_nil] at hW'
  refine ⟨_, rfl, post_of_below' (pa := p0 ++ p1) (pv := []) hW' hbel (fun _ _ _ => trodAll_mk1 (shut_bool Tryz.underlying4 _)) (fun sp hsp => trodAll_mk2 (WideElems.Trod_stays laidOutK (by kernel_rfl) (of_decide_eq_true (by kernel_rfl)) h0 (fun x hx => hbel.same (hW'.lt x (List.mem_append_left _ (hx)))) (fun x hx => hsp x (List.mem_append_left _ (hx)))) (WideElems.Trod_stays laidOutK (by kernel_rfl) (of_decide_eq_true (by kernel_rfl)) h1 (fun x hx => hbel.same (hW'.lt x (List.mem_append_right _ (hx)))) (fun x hx => hsp x (List.mem_append_right _ (hx))))) (fun _ _ => rfl) (by simp) (ok_one (by kernel_rfl) rfl (okWide_bool_mk Tryz.underlying4 _))⟩
theorem WirePacks_row : Rows.WirePacksSaid :=
  OpenClaim.holds_of_wide 3 Tryz.f3 rfl rfl rfl rfl rfl rfl rfl ⟨rfl, rfl, rfl, rfl, rfl⟩ rfl rfl rfl rfl rfl (by kernel_rfl) Tryz.func3 (by kernel_rfl)
    (of_decide_eq_true (by kernel_rfl)) (by unfold Func.isWrapper; rw [if_neg (of_decide_eq_false (by kernel_rfl))]; exact ⟨rfl, rfl⟩)
    (fun os started H enc _ => WirePacks_lifted os started H enc)
/-- WirePacks, tied to the text of the program. -/
theorem WirePacks_holds : Rows.WirePacksCardSaid :=
  Claim7.holds_tied_plain_at .later [] _ _ _ _
    WirePacks_row (fun _ h => by cases h) (by kernel_rfl) (fun _ h => by cases h) wirePacks_row_tie rfl ⟨rfl, rfl⟩ (by kernel_rfl) rfl
    (fun f fn hf hfn => by
      obtain rfl : f = 3 := Option.some.inj ((show Tryz.prog.funcNamed Rows.wirePacksRow.func = some 3 by kernel_rfl).symm.trans hf) |>.symm
      obtain rfl : fn = Tryz.f3 := (Option.some.inj (Tryz.func3.symm.trans hfn)).symm
      exact ⟨by kernel_rfl, fun j t ht => by
        rw [Tryz.params3] at ht
        have hm : t ∈ [22, 9] := by simpa using Array.mem_of_getElem? ht
        have hall : ([22, 9].all fun u => !Tryz.prog.wantsStandIn u) = true := by kernel_rfl
        exact (show Tryz.prog.wantsStandIn t = false by simpa using List.all_eq_true.1 hall t hm)⟩)
    (by kernel_rfl)
#print axioms WirePacks_holds
end Go.Proofs.YtiobbiamnjapgaaGreatDoor
