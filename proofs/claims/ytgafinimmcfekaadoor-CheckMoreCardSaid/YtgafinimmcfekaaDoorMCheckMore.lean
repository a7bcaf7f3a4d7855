/-
  It is proved that the statement CheckMore of retrospect holds: for every input the call returns true, and the arguments read as they did.
  Conditions: none beyond the statement's own.
-/
import Derived.Test.YtgafinimmcfekaaDoorFrame
import Derived.Test.YtgafinimmcfekaaDoorGen3
import Derived.Test.YtgafinimmcfekaaDoorPlChkL
import Derived.Test.YtgafinimmcfekaaDoorTie
import Derived.Test.YtgafinimmcfekaaDoorCards
import Derived.Lay
import Derived.Stop.Joined
import Derived.SevenTiedAt
namespace Go.Proofs.YtgafinimmcfekaaDoor
open Go Go.RowKit Go.ChangeShapes Go.WideShapes Go.ChangeAt
set_option maxRecDepth 100000
theorem opn_72 : Opn Tryd.prog 72 u32 (fun x => (x < 4294967296)) := opn_uk uk32 Tryd.underlying72
theorem opn_23 : Opn Tryd.prog 23 (fun xs : List Nat => sli 1 (xs.map u32)) B_S_u32 := opn_sl Tryd.underlying23 (by kernel_rfl) rfl (fun _ => rfl) opn_72
theorem opn_3 : Opn Tryd.prog 3 i64 (fun x => (-9223372036854775808 ≤ x ∧ x ≤ 9223372036854775807)) := opn_i64 Tryd.underlying3
theorem opn_62 : Opn Tryd.prog 62 (fun x : M_retrospectref17_Node => .agg [i64 x.Op, i64 x.I, L_S_u32 x.N]) B_retrospectref17_Node := opn_struct (fl := [(3, 0, 1), (3, 1, 1), (23, 2, 1)]) (fun y => (⟨y.1, y.2.1, y.2.2.1⟩ : M_retrospectref17_Node)) Tryd.underlying62 (by kernel_rfl) (by kernel_rfl) (opns_cons opn_3 (opns_cons opn_3 (opns_cons opn_23 (opns_nil)))) (fun _ => rfl) (fun y h => ⟨h.1, h.2.1, h.2.2.1, trivial⟩)
theorem opn_54 : Opn Tryd.prog 54 (fun xs : List M_retrospectref17_Node => sli 3 (xs.map L_retrospectref17_Node)) B_S_retrospectref17_Node := opn_sl Tryd.underlying54 (by kernel_rfl) rfl (fun _ => rfl) opn_62
theorem opn_39 : Opn Tryd.prog 39 (fun xs : List (List M_retrospectref17_Node) => sli 1 (xs.map L_S_retrospectref17_Node)) B_S_S_retrospectref17_Node := opn_sl Tryd.underlying39 (by kernel_rfl) rfl (fun _ => rfl) opn_54
theorem opn_9 : Opn Tryd.prog 9 str (fun s => s.length ≤ maxLen) := opn_str Tryd.underlying9
theorem opn_92 : Opn Tryd.prog 92 (fun x : M_retrospectref17_Let => .agg [str x.Name, L_S_retrospectref17_Node x.Code]) B_retrospectref17_Let := opn_struct (fl := [(9, 0, 1), (54, 1, 1)]) (fun y => (⟨y.1, y.2.1⟩ : M_retrospectref17_Let)) Tryd.underlying92 (by kernel_rfl) (by kernel_rfl) (opns_cons opn_9 (opns_cons opn_54 (opns_nil))) (fun _ => rfl) (fun y h => ⟨h.1, h.2.1, trivial⟩)
theorem opn_38 : Opn Tryd.prog 38 (fun xs : List M_retrospectref17_Let => sli 2 (xs.map L_retrospectref17_Let)) B_S_retrospectref17_Let := opn_sl Tryd.underlying38 (by kernel_rfl) rfl (fun _ => rfl) opn_92
theorem opn_41 : Opn Tryd.prog 41 (fun x : M_retrospectref17_Field => .agg [L_S_retrospectref17_Let x.Lets, L_S_S_retrospectref17_Node x.Outs]) B_retrospectref17_Field := opn_struct (fl := [(38, 0, 1), (39, 1, 1)]) (fun y => (⟨y.1, y.2.1⟩ : M_retrospectref17_Field)) Tryd.underlying41 (by kernel_rfl) (by kernel_rfl) (opns_cons opn_38 (opns_cons opn_39 (opns_nil))) (fun _ => rfl) (fun y h => ⟨h.1, h.2.1, trivial⟩)
theorem CheckMore_lifted (os : Os) (started : os.Started) (H : Type) (enc : TypeId × Value → H) :
    ReturnsInHanded {} Tryd.checked os 8 .any (fun w args => (Rows.checkMoreSpec.pre enc Tryd.prog Tryd.f8 [] false w args ∧ laidMetH Tryd.prog Rows.checkMoreRow.laid w) ∧ sizedMet enc Tryd.prog Tryd.f8 (OpenSpec.ofChange Rows.checkMoreSpec) false w args) (Rows.checkMoreSpec.post enc Tryd.prog Tryd.f8 false true false false) := by
  refine returnsInHanded_of_change_and (C := Tryd.checked) (X := fun w _ => laidMetH Tryd.prog Rows.checkMoreRow.laid w) (fun _ _ _ hh h => h.of_heap hh) ownK started (by kernel_rfl) Tryd.func8
    (ChangeSpec.witness_shaped (enc := enc) (C := Tryd.checked) (os := os) (X := fun w _ => laidMetH Tryd.prog Rows.checkMoreRow.laid w) false (World.laidAll Tryd.prog os Rows.checkMoreRow.laid) #[.agg #[.slice none 0 0, .slice none 0 0], .int .i64 0, .int .i64 0] 40 (World.laidAll_os _ _ _)
      (World.shaped_of_ZipB (by kernel_rfl) (by kernel_rfl)) (by kernel_rfl) (by kernel_rfl) (by kernel_rfl)
      (by rw [MakeChecks.laidMetH_plain _ _ _ (by kernel_rfl)]; exact laidMet_laidAll _ (by kernel_rfl) (by kernel_rfl))) ?_
  intro W base args ds gs before hval0 hW hc _ hL _
  have hval : ∀ (j : Nat) t v, Tryd.f8.params[j]? = some t → args[j]? = some v → Value.okWide Tryd.prog W .any base t v := hval0
  have hW' := hW
  obtain ⟨p, q, hA0, hV, rfl, _, _⟩ := hW
  have hA : DataW.TrodAll enc Tryd.prog W 0 (fun _ => true) true Tryd.f8.params.toList args.toList ds p := hA0
  rw [Tryd.params8] at hA hval
  obtain ⟨v0, v1, v2, d0, d1, d2, p0, p1, p2, rfl, rfl, rfl, h0, h1, h2⟩ := trodAll_three hA
  obtain ⟨rfl, rfl⟩ := trodVars_none hV
  obtain ⟨y0, hy0, b0⟩ := opn_valN opn_41 (.inl ⟨_, Tryd.underlying41⟩) (hval 0 41 v0 rfl rfl) h0
  obtain ⟨y1, hy1, b1⟩ := opn_val1 opn_3 (fun _ => rfl) (fun _ _ _ => ⟨by rw [Tryd.underlying3]; simp, by rw [Tryd.underlying3]; simp⟩) (hval 1 3 v1 rfl rfl) h1
  obtain ⟨y2, hy2, b2⟩ := opn_val1 opn_3 (fun _ => rfl) (fun _ _ _ => ⟨by rw [Tryd.underlying3]; simp, by rw [Tryd.underlying3]; simp⟩) (hval 2 3 v2 rfl rfl) h2
  obtain ⟨n, hn⟩ : ∃ n, m_retrospectlaw19_CheckMore n y0 y1 y2 = some true := law_CheckMore y0 y1 y2 b0 b1
  have hF := c_retrospectlaw19_CheckMore _ hn
  have hS : ∀ b, Sx S0n g0n [] b → S0n b := fun b h => by rcases h with h | ⟨_, _, _, h, _⟩; exact h; cases h
  refine (hF.2 W S0n g0n #[v0, v1, v2] (fun _ h => h.elim) (fun _ _ => rfl) (fun _ _ h => by cases h) (fun _ _ _ _ _ _ _ h => by cases h) (fun _ ⟨_, _, _, h, _⟩ => by cases h) ⟨v0, [v1, v2], rfl, Ly.val_mono (Kp.refl _ _) (fun b h => .inl (hS b h)) (Ng.refl _) _ _ hy0, ⟨v1, [v2], rfl, Ly.val_mono (Kp.refl _ _) (fun b h => .inl (hS b h)) (Ng.refl _) _ _ hy1, ⟨v2, [], rfl, Ly.val_mono (Kp.refl _ _) (fun b h => .inl (hS b h)) (Ng.refl _) _ _ hy2, rfl⟩⟩⟩).mono ?_
  rintro e W' ⟨v, γ', rfl, hb⟩
  have hv : v = .bool true := hb.res
  subst hv
  have hbel : Below W.heap.size W W' := ⟨hb.os, hb.tape, hb.output, hb.grow, fun k hk => hb.old k hk (fun ⟨_, _, _, h, _⟩ => by cases h)⟩
  simp only [List.append_nil] at hW'
  refine ⟨_, rfl, post_of_below' (pa := p0 ++ p1 ++ p2) (pv := []) hW' hbel (fun _ _ _ => trodAll_mk1 (shut_bool Tryd.underlying4 _)) (fun sp hsp => by rw [show p0 ++ p1 ++ p2 = p0 ++ (p1 ++ (p2)) by simp only [List.append_assoc]]; exact trodAll_mk3 (WideElems.Trod_stays laidOutK (by kernel_rfl) (of_decide_eq_true (by kernel_rfl)) h0 (fun x hx => hbel.same (hW'.lt x (List.mem_append_left _ (List.mem_append_left _ (hx))))) (fun x hx => hsp x (List.mem_append_left _ (List.mem_append_left _ (hx))))) (WideElems.Trod_stays laidOutK (by kernel_rfl) (of_decide_eq_true (by kernel_rfl)) h1 (fun x hx => hbel.same (hW'.lt x (List.mem_append_left _ (List.mem_append_right _ (hx))))) (fun x hx => hsp x (List.mem_append_left _ (List.mem_append_right _ (hx))))) (WideElems.Trod_stays laidOutK (by kernel_rfl) (of_decide_eq_true (by kernel_rfl)) h2 (fun x hx => hbel.same (hW'.lt x (List.mem_append_right _ (hx)))) (fun x hx => hsp x (List.mem_append_right _ (hx))))) (fun _ _ => rfl) (by simp) (ok_one (by kernel_rfl) rfl (okWide_bool_mk Tryd.underlying4 _))⟩
theorem CheckMore_row : Rows.CheckMoreSaid :=
  OpenClaim.holds_of_wide 8 Tryd.f8 rfl rfl rfl rfl rfl rfl rfl ⟨rfl, rfl, rfl, rfl, rfl⟩ rfl rfl rfl rfl rfl (by kernel_rfl) Tryd.func8 (by kernel_rfl)
    (of_decide_eq_true (by kernel_rfl)) (by unfold Func.isWrapper; rw [if_neg (of_decide_eq_false (by kernel_rfl))]; exact ⟨rfl, rfl⟩)
    (fun os started H enc _ => CheckMore_lifted os started H enc)
/-- CheckMore, tied to the text of the program. -/
theorem CheckMore_holds : Rows.CheckMoreCardSaid :=
  Claim7.holds_tied_plain_at .later [] _ _ _ _
    CheckMore_row (fun _ h => by cases h) (by kernel_rfl) (fun _ h => by cases h) checkMore_row_tie rfl ⟨rfl, rfl⟩ (by kernel_rfl) rfl
    (fun f fn hf hfn => by
      obtain rfl : f = 8 := Option.some.inj ((show Tryd.prog.funcNamed Rows.checkMoreRow.func = some 8 by kernel_rfl).symm.trans hf) |>.symm
      obtain rfl : fn = Tryd.f8 := (Option.some.inj (Tryd.func8.symm.trans hfn)).symm
      exact ⟨by kernel_rfl, fun j t ht => by
        rw [Tryd.params8] at ht
        have hm : t ∈ [41, 3, 3] := by simpa using Array.mem_of_getElem? ht
        have hall : ([41, 3, 3].all fun u => !Tryd.prog.wantsStandIn u) = true := by kernel_rfl
        exact (show Tryd.prog.wantsStandIn t = false by simpa using List.all_eq_true.1 hall t hm)⟩)
    (by kernel_rfl)
#print axioms CheckMore_holds
end Go.Proofs.YtgafinimmcfekaaDoor
