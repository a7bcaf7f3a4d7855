/-
  It is proved that the statement TapeLive of retrospect holds: for every input the call returns true, and the arguments read as they did.
  Conditions: none beyond the statement's own.
-/
import Derived.Test.YtiobbiamnjapgaaDoorFrame
import Derived.Test.YtiobbiamnjapgaaDoorGs
import Derived.Test.YtiobbiamnjapgaaDoorGen2
import Derived.Test.YtiobbiamnjapgaaDoorPlTlL
import Derived.Test.YtiobbiamnjapgaaDoorTie
import Derived.Test.YtiobbiamnjapgaaDoorCards
import Derived.Lay
import Derived.Stop.Joined
import Derived.SevenTiedAt
namespace Go.Proofs.YtiobbiamnjapgaaDoor
open Go Go.RowKit Go.ChangeShapes Go.WideShapes Go.ChangeAt
set_option maxRecDepth 100000
theorem opn_3 : Opn Tryd.prog 3 i64 (fun x => (-9223372036854775808 ≤ x ∧ x ≤ 9223372036854775807)) := opn_i64 Tryd.underlying3
theorem opn_41 : Opn Tryd.prog 41 (fun xs : List Int => sli 1 (xs.map i64)) B_S_i64 := opn_sl Tryd.underlying41 (by kernel_rfl) rfl (fun _ => rfl) opn_3
theorem opn_139 : Opn Tryd.prog 139 u32 (fun x => (x < 4294967296)) := opn_uk uk32 Tryd.underlying139
theorem opn_53 : Opn Tryd.prog 53 (fun xs : List Nat => sli 1 (xs.map u32)) B_S_u32 := opn_sl Tryd.underlying53 (by kernel_rfl) rfl (fun _ => rfl) opn_139
theorem opn_4 : Opn Tryd.prog 4 bl (fun _ => True) := opn_bl Tryd.underlying4
theorem opn_91 : Opn Tryd.prog 91 (fun x : M_retrospectref09_Frac => .agg [bl x.Neg, L_S_u32 x.N, L_S_u32 x.D]) B_retrospectref09_Frac := opn_struct (fl := [(4, 0, 1), (53, 1, 1), (53, 2, 1)]) (fun y => (⟨y.1, y.2.1, y.2.2.1⟩ : M_retrospectref09_Frac)) Tryd.underlying91 (by kernel_rfl) (by kernel_rfl) (opns_cons opn_4 (opns_cons opn_53 (opns_cons opn_53 (opns_nil)))) (fun _ => rfl) (fun y h => ⟨h.1, h.2.1, h.2.2.1, trivial⟩)
theorem opn_93 : Opn Tryd.prog 93 (fun x : M_retrospectref24_Inst => .agg [i64 x.Op, i64 x.A, i64 x.B, L_retrospectref09_Frac x.N]) B_retrospectref24_Inst := opn_struct (fl := [(3, 0, 1), (3, 1, 1), (3, 2, 1), (91, 3, 3)]) (fun y => (⟨y.1, y.2.1, y.2.2.1, y.2.2.2.1⟩ : M_retrospectref24_Inst)) Tryd.underlying93 (by kernel_rfl) (by kernel_rfl) (opns_cons opn_3 (opns_cons opn_3 (opns_cons opn_3 (opns_cons opn_91 (opns_nil))))) (fun _ => rfl) (fun y h => ⟨h.1, h.2.1, h.2.2.1, h.2.2.2.1, trivial⟩)
theorem opn_40 : Opn Tryd.prog 40 (fun xs : List M_retrospectref24_Inst => sli 6 (xs.map L_retrospectref24_Inst)) B_S_retrospectref24_Inst := opn_sl Tryd.underlying40 (by kernel_rfl) rfl (fun _ => rfl) opn_93
theorem opn_43 : Opn Tryd.prog 43 (fun x : M_retrospectref24_Tape => .agg [L_S_retrospectref24_Inst x.Code, L_S_i64 x.Outs, i64 x.Dim, i64 x.Par]) B_retrospectref24_Tape := opn_struct (fl := [(40, 0, 1), (41, 1, 1), (3, 2, 1), (3, 3, 1)]) (fun y => (⟨y.1, y.2.1, y.2.2.1, y.2.2.2.1⟩ : M_retrospectref24_Tape)) Tryd.underlying43 (by kernel_rfl) (by kernel_rfl) (opns_cons opn_40 (opns_cons opn_41 (opns_cons opn_3 (opns_cons opn_3 (opns_nil))))) (fun _ => rfl) (fun y h => ⟨h.1, h.2.1, h.2.2.1, h.2.2.2.1, trivial⟩)
theorem TapeLive_lifted (os : Os) (started : os.Started) (H : Type) (enc : TypeId × Value → H) :
    ReturnsInHanded {} Tryd.checked os 5 .any (fun w args => (Rows.tapeLiveSpec.pre enc Tryd.prog Tryd.f5 [] false w args ∧ laidMetH Tryd.prog Rows.tapeLiveRow.laid w) ∧ sizedMet enc Tryd.prog Tryd.f5 (OpenSpec.ofChange Rows.tapeLiveSpec) false w args) (Rows.tapeLiveSpec.post enc Tryd.prog Tryd.f5 false true false false) := by
  refine returnsS (C := Tryd.checked) (X := fun w _ => laidMetH Tryd.prog Rows.tapeLiveRow.laid w) (fun _ _ _ hh h => h.of_heap hh) ownK started (by kernel_rfl) Tryd.func5
    (ChangeSpec.witness_shaped (enc := enc) (C := Tryd.checked) (os := os) (X := fun w _ => laidMetH Tryd.prog Rows.tapeLiveRow.laid w) false (World.laidAll Tryd.prog os Rows.tapeLiveRow.laid) #[.agg #[.slice none 0 0, .slice none 0 0, .int .i64 0, .int .i64 0]] 40 (World.laidAll_os _ _ _)
      (World.shaped_of_ZipB (by kernel_rfl) (by kernel_rfl)) (by kernel_rfl) (by kernel_rfl) (by kernel_rfl)
      (by rw [MakeChecks.laidMetH_plain _ _ _ (by kernel_rfl)]; exact laidMet_laidAll _ (by kernel_rfl) (by kernel_rfl))) ?_
  intro W base args ds gs before hval0 hW hc _ hL hsh _
  have hval : ∀ (j : Nat) t v, Tryd.f5.params[j]? = some t → args[j]? = some v → Value.okWide Tryd.prog W .any base t v := hval0
  have hW' := hW
  obtain ⟨p, q, hA0, hV, rfl, _, _⟩ := hW
  have hA : DataW.TrodAll enc Tryd.prog W 0 (fun _ => true) true Tryd.f5.params.toList args.toList ds p := hA0
  rw [Tryd.params5] at hA hval
  obtain ⟨v0, d0, rfl, rfl, h0⟩ := trodAll_one hA
  obtain ⟨rfl, rfl⟩ := trodVars_none hV
  obtain ⟨y0, hy0, b0⟩ := opn_valN opn_43 (.inl ⟨_, Tryd.underlying43⟩) (hval 0 43 v0 rfl rfl) h0
  obtain ⟨n, hn⟩ : ∃ n, m_retrospectlaw24_TapeLive n y0 = some true := law_TapeLive y0 b0
  have hF := c_retrospectlaw24_TapeLive _ hn
  have hL1 : laidMet Tryd.prog Rows.tapeLiveRow.laid W := by rw [MakeChecks.laidMetH_plain _ _ _ (by kernel_rfl)] at hL; exact hL
  have hL2 : laidMet Tryd.prog [("internal/strconv.uint64pow10", Rows.laid_internal_strconv_uint64pow10), ("unicode/utf8.acceptRanges", Rows.laid_unicode_utf8_acceptRanges), ("unicode/utf8.first", Rows.laid_unicode_utf8_first)] W := (laidMet.tail (x := ("math/bits.deBruijn64tab", Rows.laid_math_bits_deBruijn64tab)) (laidMet.tail (x := ("math/bits.deBruijn32tab", Rows.laid_math_bits_deBruijn32tab)) hL1))
  have hS : ∀ b, Sx S0n g0n [] b → S0n b := fun b h => by rcases h with h | ⟨_, _, _, h, _⟩; exact h; cases h
  refine (hF.2 W S0n g0n #[v0] (fun _ h => h.elim) (fun _ _ => rfl) (fun _ _ h => by cases h) (fun _ _ _ _ _ _ _ h => by cases h) (fun _ ⟨_, _, _, h, _⟩ => by cases h) ⟨v0, [], rfl, Ly.val_mono (Kp.refl _ _) (fun b h => .inl (hS b h)) (Ng.refl _) _ _ hy0, rfl⟩ (gw_start (fun b h => hS b h) hsh hL2)).mono ?_
  rintro e W' ⟨v, γ', rfl, hb⟩
  have hv : v = .bool true := hb.res
  subst hv
  have hbel : Below W.heap.size W W' := ⟨hb.os, hb.tape, hb.output, hb.grow, fun k hk => hb.old k hk (fun ⟨_, _, _, h, _⟩ => by cases h)⟩
  simp only [List.append_nil] at hW'
  refine ⟨_, rfl, post_of_below' (pa := p) (pv := []) hW' hbel (fun _ _ _ => trodAll_mk1 (shut_bool Tryd.underlying4 _)) (fun sp hsp => trodAll_mk1 (WideElems.Trod_stays laidOutK (by kernel_rfl) (of_decide_eq_true (by kernel_rfl)) h0 (fun x hx => hbel.same (hW'.lt x hx)) (hsp))) (fun _ _ => rfl) (by simp) (ok_one (by kernel_rfl) rfl (okWide_bool_mk Tryd.underlying4 _))⟩
theorem TapeLive_row : Rows.TapeLiveSaid :=
  OpenClaim.holds_of_wide 5 Tryd.f5 rfl rfl rfl rfl rfl rfl rfl ⟨rfl, rfl, rfl, rfl, rfl⟩ rfl rfl rfl rfl rfl (by kernel_rfl) Tryd.func5 (by kernel_rfl)
    (of_decide_eq_true (by kernel_rfl)) (by unfold Func.isWrapper; rw [if_neg (of_decide_eq_false (by kernel_rfl))]; exact ⟨rfl, rfl⟩)
    (fun os started H enc _ => TapeLive_lifted os started H enc)
/-- TapeLive, tied to the text of the program. -/
theorem TapeLive_holds : Rows.TapeLiveCardSaid :=
  Claim7.holds_tied_plain_at .later [] _ _ _ _
    TapeLive_row (fun _ h => by cases h) (by kernel_rfl) (fun _ h => by cases h) tapeLive_row_tie rfl ⟨rfl, rfl⟩ (by kernel_rfl) rfl
    (fun f fn hf hfn => by
      obtain rfl : f = 5 := Option.some.inj ((show Tryd.prog.funcNamed Rows.tapeLiveRow.func = some 5 by kernel_rfl).symm.trans hf) |>.symm
      obtain rfl : fn = Tryd.f5 := (Option.some.inj (Tryd.func5.symm.trans hfn)).symm
      exact ⟨by kernel_rfl, fun j t ht => by
        rw [Tryd.params5] at ht
        have hm : t ∈ [43] := by simpa using Array.mem_of_getElem? ht
        have hall : ([43].all fun u => !Tryd.prog.wantsStandIn u) = true := by kernel_rfl
        exact (show Tryd.prog.wantsStandIn t = false by simpa using List.all_eq_true.1 hall t hm)⟩)
    (by kernel_rfl)
#print axioms TapeLive_holds
end Go.Proofs.YtiobbiamnjapgaaDoor
