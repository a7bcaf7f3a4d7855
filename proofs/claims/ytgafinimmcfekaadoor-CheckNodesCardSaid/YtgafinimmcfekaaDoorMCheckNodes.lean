/-
  It is proved that the statement CheckNodes of retrospect holds: for every input the call returns true, and the arguments read as they did.
  Conditions: none beyond the statement's own.
-/
import Derived.Test.YtgafinimmcfekaaDoorFrame
import Derived.Test.YtgafinimmcfekaaDoorGen3
import Derived.Test.YtgafinimmcfekaaDoorPlChkL
import Derived.Test.YtgafinimmcfekaaDoorTie
import Derived.Test.YtgafinimmcfekaaDoorCards
import Derived.Lay
import Derived.Stop.Joined
import Derived.SevenTiedAt
namespace Go.Proofs.YtgafinimmcfekaaDoor
open Go Go.RowKit Go.ChangeShapes Go.WideShapes Go.ChangeAt
set_option maxRecDepth 100000
theorem opn_72 : Opn Tryd.prog 72 u32 (fun x => (x < 4294967296)) := opn_uk uk32 Tryd.underlying72
theorem opn_23 : Opn Tryd.prog 23 (fun xs : List Nat => sli 1 (xs.map u32)) B_S_u32 := opn_sl Tryd.underlying23 (by kernel_rfl) rfl (fun _ => rfl) opn_72
theorem opn_3 : Opn Tryd.prog 3 i64 (fun x => (-9223372036854775808 ≤ x ∧ x ≤ 9223372036854775807)) := opn_i64 Tryd.underlying3
theorem opn_62 : Opn Tryd.prog 62 (fun x : M_retrospectref17_Node => .agg [i64 x.Op, i64 x.I, L_S_u32 x.N]) B_retrospectref17_Node := opn_struct (fl := [(3, 0, 1), (3, 1, 1), (23, 2, 1)]) (fun y => (⟨y.1, y.2.1, y.2.2.1⟩ : M_retrospectref17_Node)) Tryd.underlying62 (by kernel_rfl) (by kernel_rfl) (opns_cons opn_3 (opns_cons opn_3 (opns_cons opn_23 (opns_nil)))) (fun _ => rfl) (fun y h => ⟨h.1, h.2.1, h.2.2.1, trivial⟩)
theorem opn_54 : Opn Tryd.prog 54 (fun xs : List M_retrospectref17_Node => sli 3 (xs.map L_retrospectref17_Node)) B_S_retrospectref17_Node := opn_sl Tryd.underlying54 (by kernel_rfl) rfl (fun _ => rfl) opn_62
theorem opn_43 : Opn Tryd.prog 43 (fun x : M_A3_i64 => .agg [i64 x.a0, i64 x.a1, i64 x.a2]) B_A3_i64 := opn_array (fl := [(3, 0, 1), (3, 1, 1), (3, 2, 1)]) (fun y => (⟨y.1, y.2.1, y.2.2.1⟩ : M_A3_i64)) Tryd.underlying43 (by kernel_rfl) (by kernel_rfl) (opns_cons opn_3 (opns_cons opn_3 (opns_cons opn_3 (opns_nil)))) (fun _ => rfl) (fun y h => ⟨h.1, h.2.1, h.2.2.1, trivial⟩)
theorem opn_9 : Opn Tryd.prog 9 str (fun s => s.length ≤ maxLen) := opn_str Tryd.underlying9
theorem CheckNodes_lifted (os : Os) (started : os.Started) (H : Type) (enc : TypeId × Value → H) :
    ReturnsInHanded {} Tryd.checked os 7 .any (fun w args => (Rows.checkNodesSpec.pre enc Tryd.prog Tryd.f7 [] false w args ∧ laidMetH Tryd.prog Rows.checkNodesRow.laid w) ∧ sizedMet enc Tryd.prog Tryd.f7 (OpenSpec.ofChange Rows.checkNodesSpec) false w args) (Rows.checkNodesSpec.post enc Tryd.prog Tryd.f7 false true false false) := by
  refine returnsInHanded_of_change_and (C := Tryd.checked) (X := fun w _ => laidMetH Tryd.prog Rows.checkNodesRow.laid w) (fun _ _ _ hh h => h.of_heap hh) ownK started (by kernel_rfl) Tryd.func7
    (ChangeSpec.witness_shaped (enc := enc) (C := Tryd.checked) (os := os) (X := fun w _ => laidMetH Tryd.prog Rows.checkNodesRow.laid w) false (World.laidAll Tryd.prog os Rows.checkNodesRow.laid) #[.slice none 0 0, .agg #[.int .i64 0, .int .i64 0, .int .i64 0], .string ⟨#[]⟩] 40 (World.laidAll_os _ _ _)
      (World.shaped_of_ZipB (by kernel_rfl) (by kernel_rfl)) (by kernel_rfl) (by kernel_rfl) (by kernel_rfl)
      (by rw [MakeChecks.laidMetH_plain _ _ _ (by kernel_rfl)]; exact laidMet_laidAll _ (by kernel_rfl) (by kernel_rfl))) ?_
  intro W base args ds gs before hval0 hW hc _ hL _
  have hval : ∀ (j : Nat) t v, Tryd.f7.params[j]? = some t → args[j]? = some v → Value.okWide Tryd.prog W .any base t v := hval0
  have hW' := hW
  obtain ⟨p, q, hA0, hV, rfl, _, _⟩ := hW
  have hA : DataW.TrodAll enc Tryd.prog W 0 (fun _ => true) true Tryd.f7.params.toList args.toList ds p := hA0
  rw [Tryd.params7] at hA hval
  obtain ⟨v0, v1, v2, d0, d1, d2, p0, p1, p2, rfl, rfl, rfl, h0, h1, h2⟩ := trodAll_three hA
  obtain ⟨rfl, rfl⟩ := trodVars_none hV
  obtain ⟨y0, hy0, b0⟩ := opn_val1 opn_54 (fun _ => rfl) (fun _ _ _ => ⟨by rw [Tryd.underlying54]; simp, by rw [Tryd.underlying54]; simp⟩) (hval 0 54 v0 rfl rfl) h0
  obtain ⟨y1, hy1, b1⟩ := opn_valN opn_43 (.inr ⟨_, _, Tryd.underlying43⟩) (hval 1 43 v1 rfl rfl) h1
  obtain ⟨y2, hy2, b2⟩ := opn_val1 opn_9 (fun _ => rfl) (fun _ _ _ => ⟨by rw [Tryd.underlying9]; simp, by rw [Tryd.underlying9]; simp⟩) (hval 2 9 v2 rfl rfl) h2
  obtain ⟨n, hn⟩ : ∃ n, m_retrospectlaw19_CheckNodes n y0 y1 y2 = some true := law_CheckNodes y0 y1 y2 b0 b2
  have hF := c_retrospectlaw19_CheckNodes _ hn
  have hS : ∀ b, Sx S0n g0n [] b → S0n b := fun b h => by rcases h with h | ⟨_, _, _, h, _⟩; exact h; cases h
  refine (hF.2 W S0n g0n #[v0, v1, v2] (fun _ h => h.elim) (fun _ _ => rfl) (fun _ _ h => by cases h) (fun _ _ _ _ _ _ _ h => by cases h) (fun _ ⟨_, _, _, h, _⟩ => by cases h) ⟨v0, [v1, v2], rfl, Ly.val_mono (Kp.refl _ _) (fun b h => .inl (hS b h)) (Ng.refl _) _ _ hy0, ⟨v1, [v2], rfl, Ly.val_mono (Kp.refl _ _) (fun b h => .inl (hS b h)) (Ng.refl _) _ _ hy1, ⟨v2, [], rfl, Ly.val_mono (Kp.refl _ _) (fun b h => .inl (hS b h)) (Ng.refl _) _ _ hy2, rfl⟩⟩⟩).mono ?_
  rintro e W' ⟨v, γ', rfl, hb⟩
  have hv : v = .bool true := hb.res
  subst hv
  have hbel : Below W.heap.size W W' := ⟨hb.os, hb.tape, hb.output, hb.grow, fun k hk => hb.old k hk (fun ⟨_, _, _, h, _⟩ => by cases h)⟩
  simp only [List.append_nil] at hW'
  refine ⟨_, rfl, post_of_below' (pa := p0 ++ p1 ++ p2) (pv := []) hW' hbel (fun _ _ _ => trodAll_mk1 (shut_bool Tryd.underlying4 _)) (fun sp hsp => by rw [show p0 ++ p1 ++ p2 = p0 ++ (p1 ++ (p2)) by simp only [List.append_assoc]]; exact trodAll_mk3 (WideElems.Trod_stays laidOutK (by kernel_rfl) (of_decide_eq_true (by kernel_rfl)) h0 (fun x hx => hbel.same (hW'.lt x (List.mem_append_left _ (List.mem_append_left _ (hx))))) (fun x hx => hsp x (List.mem_append_left _ (List.mem_append_left _ (hx))))) (WideElems.Trod_stays laidOutK (by kernel_rfl) (of_decide_eq_true (by kernel_rfl)) h1 (fun x hx => hbel.same (hW'.lt x (List.mem_append_left _ (List.mem_append_right _ (hx))))) (fun x hx => hsp x (List.mem_append_left _ (List.mem_append_right _ (hx))))) (WideElems.Trod_stays laidOutK (by kernel_rfl) (of_decide_eq_true (by kernel_rfl)) h2 (fun x hx => hbel.same (hW'.lt x (List.mem_append_right _ (hx)))) (fun x hx => hsp x (List.mem_append_right _ (hx))))) (fun _ _ => rfl) (by simp) (ok_one (by kernel_rfl) rfl (okWide_bool_mk Tryd.underlying4 _))⟩
theorem CheckNodes_row : Rows.CheckNodesSaid :=
  OpenClaim.holds_of_wide 7 Tryd.f7 rfl rfl rfl rfl rfl rfl rfl ⟨rfl, rfl, rfl, rfl, rfl⟩ rfl rfl rfl rfl rfl (by kernel_rfl) Tryd.func7 (by kernel_rfl)
    (of_decide_eq_true (by kernel_rfl)) (by unfold Func.isWrapper; rw [if_neg (of_decide_eq_false (by kernel_rfl))]; exact ⟨rfl, rfl⟩)
    (fun os started H enc _ => CheckNodes_lifted os started H enc)
/-- CheckNodes, tied to the text of the program. -/
theorem CheckNodes_holds : Rows.CheckNodesCardSaid :=
  Claim7.holds_tied_plain_at .later [] _ _ _ _
    CheckNodes_row (fun _ h => by cases h) (by kernel_rfl) (fun _ h => by cases h) checkNodes_row_tie rfl ⟨rfl, rfl⟩ (by kernel_rfl) rfl
    (fun f fn hf hfn => by
      obtain rfl : f = 7 := Option.some.inj ((show Tryd.prog.funcNamed Rows.checkNodesRow.func = some 7 by kernel_rfl).symm.trans hf) |>.symm
      obtain rfl : fn = Tryd.f7 := (Option.some.inj (Tryd.func7.symm.trans hfn)).symm
      exact ⟨by kernel_rfl, fun j t ht => by
        rw [Tryd.params7] at ht
        have hm : t ∈ [54, 43, 9] := by simpa using Array.mem_of_getElem? ht
        have hall : ([54, 43, 9].all fun u => !Tryd.prog.wantsStandIn u) = true := by kernel_rfl
        exact (show Tryd.prog.wantsStandIn t = false by simpa using List.all_eq_true.1 hall t hm)⟩)
    (by kernel_rfl)
#print axioms CheckNodes_holds
end Go.Proofs.YtgafinimmcfekaaDoor
