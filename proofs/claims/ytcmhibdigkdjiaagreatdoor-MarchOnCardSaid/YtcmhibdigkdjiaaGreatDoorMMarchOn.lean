/-
  It is proved that the statement MarchOn of retrospect holds: for every input the call returns true, and the arguments read as they did.
  Conditions: none beyond the statement's own.
-/
import Derived.Test.YtcmhibdigkdjiaaGreatDoorFrame
import Derived.Test.YtcmhibdigkdjiaaGreatDoorGs
import Derived.Test.YtcmhibdigkdjiaaGreatDoorGen2
import Derived.Test.YtcmhibdigkdjiaaGreatDoorPlMaL
import Derived.Test.YtcmhibdigkdjiaaGreatDoorTie
import Derived.Test.YtcmhibdigkdjiaaGreatDoorCards
import Derived.Lay
import Derived.Stop.Joined
import Derived.SevenTiedAt
namespace Go.Proofs.YtcmhibdigkdjiaaGreatDoor
open Go Go.RowKit Go.ChangeShapes Go.WideShapes Go.ChangeAt
set_option maxRecDepth 100000
theorem opn_3 : Opn Tryz.prog 3 i64 (fun x => (-9223372036854775808 ≤ x ∧ x ≤ 9223372036854775807)) := opn_i64 Tryz.underlying3
theorem opn_139 : Opn Tryz.prog 139 u32 (fun x => (x < 4294967296)) := opn_uk uk32 Tryz.underlying139
theorem opn_32 : Opn Tryz.prog 32 (fun xs : List Nat => sli 1 (xs.map u32)) B_S_u32 := opn_sl Tryz.underlying32 (by kernel_rfl) rfl (fun _ => rfl) opn_139
theorem opn_4 : Opn Tryz.prog 4 bl (fun _ => True) := opn_bl Tryz.underlying4
theorem opn_34 : Opn Tryz.prog 34 (fun x : M_retrospectref09_Frac => .agg [bl x.Neg, L_S_u32 x.N, L_S_u32 x.D]) B_retrospectref09_Frac := opn_struct (fl := [(4, 0, 1), (32, 1, 1), (32, 2, 1)]) (fun y => (⟨y.1, y.2.1, y.2.2.1⟩ : M_retrospectref09_Frac)) Tryz.underlying34 (by kernel_rfl) (by kernel_rfl) (opns_cons opn_4 (opns_cons opn_32 (opns_cons opn_32 (opns_nil)))) (fun _ => rfl) (fun y h => ⟨h.1, h.2.1, h.2.2.1, trivial⟩)
theorem opn_26 : Opn Tryz.prog 26 (fun xs : List M_retrospectref09_Frac => sli 3 (xs.map L_retrospectref09_Frac)) B_S_retrospectref09_Frac := opn_sl Tryz.underlying26 (by kernel_rfl) rfl (fun _ => rfl) opn_34
theorem opn_27 : Opn Tryz.prog 27 (fun xs : List (List M_retrospectref09_Frac) => sli 1 (xs.map L_S_retrospectref09_Frac)) B_S_S_retrospectref09_Frac := opn_sl Tryz.underlying27 (by kernel_rfl) rfl (fun _ => rfl) opn_26
theorem opn_9 : Opn Tryz.prog 9 str (fun s => s.length ≤ maxLen) := opn_str Tryz.underlying9
theorem opn_29 : Opn Tryz.prog 29 (fun x : M_retrospectref30_Scheme => .agg [str x.Name, L_S_retrospectref09_Frac x.C, L_S_S_retrospectref09_Frac x.A, L_S_retrospectref09_Frac x.B, L_S_retrospectref09_Frac x.E]) B_retrospectref30_Scheme := opn_struct (fl := [(9, 0, 1), (26, 1, 1), (27, 2, 1), (26, 3, 1), (26, 4, 1)]) (fun y => (⟨y.1, y.2.1, y.2.2.1, y.2.2.2.1, y.2.2.2.2.1⟩ : M_retrospectref30_Scheme)) Tryz.underlying29 (by kernel_rfl) (by kernel_rfl) (opns_cons opn_9 (opns_cons opn_26 (opns_cons opn_27 (opns_cons opn_26 (opns_cons opn_26 (opns_nil)))))) (fun _ => rfl) (fun y h => ⟨h.1, h.2.1, h.2.2.1, h.2.2.2.1, h.2.2.2.2.1, trivial⟩)
theorem opn_23 : Opn Tryz.prog 23 (fun xs : List Int => sli 1 (xs.map i64)) B_S_i64 := opn_sl Tryz.underlying23 (by kernel_rfl) rfl (fun _ => rfl) opn_3
theorem opn_116 : Opn Tryz.prog 116 (fun x : M_retrospectref24_Inst => .agg [i64 x.Op, i64 x.A, i64 x.B, L_retrospectref09_Frac x.N]) B_retrospectref24_Inst := opn_struct (fl := [(3, 0, 1), (3, 1, 1), (3, 2, 1), (34, 3, 3)]) (fun y => (⟨y.1, y.2.1, y.2.2.1, y.2.2.2.1⟩ : M_retrospectref24_Inst)) Tryz.underlying116 (by kernel_rfl) (by kernel_rfl) (opns_cons opn_3 (opns_cons opn_3 (opns_cons opn_3 (opns_cons opn_34 (opns_nil))))) (fun _ => rfl) (fun y h => ⟨h.1, h.2.1, h.2.2.1, h.2.2.2.1, trivial⟩)
theorem opn_22 : Opn Tryz.prog 22 (fun xs : List M_retrospectref24_Inst => sli 6 (xs.map L_retrospectref24_Inst)) B_S_retrospectref24_Inst := opn_sl Tryz.underlying22 (by kernel_rfl) rfl (fun _ => rfl) opn_116
theorem opn_25 : Opn Tryz.prog 25 (fun x : M_retrospectref24_Tape => .agg [L_S_retrospectref24_Inst x.Code, L_S_i64 x.Outs, i64 x.Dim, i64 x.Par]) B_retrospectref24_Tape := opn_struct (fl := [(22, 0, 1), (23, 1, 1), (3, 2, 1), (3, 3, 1)]) (fun y => (⟨y.1, y.2.1, y.2.2.1, y.2.2.2.1⟩ : M_retrospectref24_Tape)) Tryz.underlying25 (by kernel_rfl) (by kernel_rfl) (opns_cons opn_22 (opns_cons opn_23 (opns_cons opn_3 (opns_cons opn_3 (opns_nil))))) (fun _ => rfl) (fun y h => ⟨h.1, h.2.1, h.2.2.1, h.2.2.2.1, trivial⟩)
theorem opn_31 : Opn Tryz.prog 31 (fun x : M_retrospectref33_Problem => .agg [L_retrospectref24_Tape x.Tape, L_retrospectref30_Scheme x.Scheme, L_S_retrospectref09_Frac x.P, i64 x.Bits]) B_retrospectref33_Problem := opn_struct (fl := [(25, 0, 4), (29, 4, 5), (26, 9, 1), (3, 10, 1)]) (fun y => (⟨y.1, y.2.1, y.2.2.1, y.2.2.2.1⟩ : M_retrospectref33_Problem)) Tryz.underlying31 (by kernel_rfl) (by kernel_rfl) (opns_cons opn_25 (opns_cons opn_29 (opns_cons opn_26 (opns_cons opn_3 (opns_nil))))) (fun _ => rfl) (fun y h => ⟨h.1, h.2.1, h.2.2.1, h.2.2.2.1, trivial⟩)
theorem opn_36 : Opn Tryz.prog 36 (fun x : M_retrospectlaw33_From => .agg [L_retrospectref09_Frac x.T, L_retrospectref09_Frac x.H, L_S_retrospectref09_Frac x.Y]) B_retrospectlaw33_From := opn_struct (fl := [(34, 0, 3), (34, 3, 3), (26, 6, 1)]) (fun y => (⟨y.1, y.2.1, y.2.2.1⟩ : M_retrospectlaw33_From)) Tryz.underlying36 (by kernel_rfl) (by kernel_rfl) (opns_cons opn_34 (opns_cons opn_34 (opns_cons opn_26 (opns_nil)))) (fun _ => rfl) (fun y h => ⟨h.1, h.2.1, h.2.2.1, trivial⟩)
theorem MarchOn_lifted (os : Os) (started : os.Started) (H : Type) (enc : TypeId × Value → H) :
    ReturnsInHanded {} Tryz.checked os 4 .any (fun w args => (Rows.marchOnSpec.pre enc Tryz.prog Tryz.f4 [] false w args ∧ laidMetH Tryz.prog Rows.marchOnRow.laid w) ∧ sizedMet enc Tryz.prog Tryz.f4 (OpenSpec.ofChange Rows.marchOnSpec) false w args) (Rows.marchOnSpec.post enc Tryz.prog Tryz.f4 false true false false) := by
  refine returnsS (C := Tryz.checked) (X := fun w _ => laidMetH Tryz.prog Rows.marchOnRow.laid w) (fun _ _ _ hh h => h.of_heap hh) ownK started (by kernel_rfl) Tryz.func4
    (ChangeSpec.witness_shaped (enc := enc) (C := Tryz.checked) (os := os) (X := fun w _ => laidMetH Tryz.prog Rows.marchOnRow.laid w) false (World.laidAll Tryz.prog os Rows.marchOnRow.laid) #[.agg #[.slice none 0 0, .slice none 0 0, .int .i64 0, .int .i64 0, .string ⟨#[]⟩, .slice none 0 0, .slice none 0 0, .slice none 0 0, .slice none 0 0, .slice none 0 0, .int .i64 0], .agg #[.bool false, .slice none 0 0, .slice none 0 0, .bool false, .slice none 0 0, .slice none 0 0, .slice none 0 0], .slice none 0 0, .int .i64 0] 40 (World.laidAll_os _ _ _)
      (World.shaped_of_ZipB (by kernel_rfl) (by kernel_rfl)) (by kernel_rfl) (by kernel_rfl) (by kernel_rfl)
      (by rw [MakeChecks.laidMetH_plain _ _ _ (by kernel_rfl)]; exact laidMet_laidAll _ (by kernel_rfl) (by kernel_rfl))) ?_
  intro W base args ds gs before hval0 hW hc _ hL hsh _
  have hval : ∀ (j : Nat) t v, Tryz.f4.params[j]? = some t → args[j]? = some v → Value.okWide Tryz.prog W .any base t v := hval0
  have hW' := hW
  obtain ⟨p, q, hA0, hV, rfl, _, _⟩ := hW
  have hA : DataW.TrodAll enc Tryz.prog W 0 (fun _ => true) true Tryz.f4.params.toList args.toList ds p := hA0
  rw [Tryz.params4] at hA hval
  obtain ⟨v0, v1, v2, v3, d0, d1, d2, d3, p0, p1, p2, p3, rfl, rfl, rfl, h0, h1, h2, h3⟩ := trodAll_four hA
  obtain ⟨rfl, rfl⟩ := trodVars_none hV
  obtain ⟨y0, hy0, b0⟩ := opn_valN opn_31 (.inl ⟨_, Tryz.underlying31⟩) (hval 0 31 v0 rfl rfl) h0
  obtain ⟨y1, hy1, b1⟩ := opn_valN opn_36 (.inl ⟨_, Tryz.underlying36⟩) (hval 1 36 v1 rfl rfl) h1
  obtain ⟨y2, hy2, b2⟩ := opn_val1 opn_26 (fun _ => rfl) (fun _ _ _ => ⟨by rw [Tryz.underlying26]; simp, by rw [Tryz.underlying26]; simp⟩) (hval 2 26 v2 rfl rfl) h2
  obtain ⟨y3, hy3, b3⟩ := opn_val1 opn_3 (fun _ => rfl) (fun _ _ _ => ⟨by rw [Tryz.underlying3]; simp, by rw [Tryz.underlying3]; simp⟩) (hval 3 3 v3 rfl rfl) h3
  obtain ⟨n, hn⟩ : ∃ n, m_retrospectlaw38_MarchOn n y0 y1 y2 y3 = some true := law_MarchOn y0 y1 y2 y3 b0 b1 b2
  have hF := c_retrospectlaw38_MarchOn _ hn
  have hS : ∀ b, Sx S0n g0n [] b → S0n b := fun b h => by rcases h with h | ⟨_, _, _, h, _⟩; exact h; cases h
  refine (hF.2 W S0n g0n #[v0, v1, v2, v3] (fun _ h => h.elim) (fun _ _ => rfl) (fun _ _ h => by cases h) (fun _ _ _ _ _ _ _ h => by cases h) (fun _ ⟨_, _, _, h, _⟩ => by cases h) ⟨v0, [v1, v2, v3], rfl, Ly.val_mono (Kp.refl _ _) (fun b h => .inl (hS b h)) (Ng.refl _) _ _ hy0, ⟨v1, [v2, v3], rfl, Ly.val_mono (Kp.refl _ _) (fun b h => .inl (hS b h)) (Ng.refl _) _ _ hy1, ⟨v2, [v3], rfl, Ly.val_mono (Kp.refl _ _) (fun b h => .inl (hS b h)) (Ng.refl _) _ _ hy2, ⟨v3, [], rfl, Ly.val_mono (Kp.refl _ _) (fun b h => .inl (hS b h)) (Ng.refl _) _ _ hy3, rfl⟩⟩⟩⟩ (gw_start (fun b h => hS b h) hsh)).mono ?_
  rintro e W' ⟨v, γ', rfl, hb⟩
  have hv : v = .bool true := hb.res
  subst hv
  have hbel : Below W.heap.size W W' := ⟨hb.os, hb.tape, hb.output, hb.grow, fun k hk => hb.old k hk (fun ⟨_, _, _, h, _⟩ => by cases h)⟩
  simp only [List.append_nil] at hW'
  refine ⟨_, rfl, post_of_below' (pa := p0 ++ p1 ++ p2 ++ p3) (pv := []) hW' hbel (fun _ _ _ => trodAll_mk1 (shut_bool Tryz.underlying4 _)) (fun sp hsp => by rw [show p0 ++ p1 ++ p2 ++ p3 = p0 ++ (p1 ++ (p2 ++ (p3))) by simp only [List.append_assoc]]; exact trodAll_mk4 (WideElems.Trod_stays laidOutK (by kernel_rfl) (of_decide_eq_true (by kernel_rfl)) h0 (fun x hx => hbel.same (hW'.lt x (List.mem_append_left _ (List.mem_append_left _ (List.mem_append_left _ (hx)))))) (fun x hx => hsp x (List.mem_append_left _ (List.mem_append_left _ (List.mem_append_left _ (hx)))))) (WideElems.Trod_stays laidOutK (by kernel_rfl) (of_decide_eq_true (by kernel_rfl)) h1 (fun x hx => hbel.same (hW'.lt x (List.mem_append_left _ (List.mem_append_left _ (List.mem_append_right _ (hx)))))) (fun x hx => hsp x (List.mem_append_left _ (List.mem_append_left _ (List.mem_append_right _ (hx)))))) (WideElems.Trod_stays laidOutK (by kernel_rfl) (of_decide_eq_true (by kernel_rfl)) h2 (fun x hx => hbel.same (hW'.lt x (List.mem_append_left _ (List.mem_append_right _ (hx))))) (fun x hx => hsp x (List.mem_append_left _ (List.mem_append_right _ (hx))))) (WideElems.Trod_stays laidOutK (by kernel_rfl) (of_decide_eq_true (by kernel_rfl)) h3 (fun x hx => hbel.same (hW'.lt x (List.mem_append_right _ (hx)))) (fun x hx => hsp x (List.mem_append_right _ (hx))))) (fun _ _ => rfl) (by simp) (ok_one (by kernel_rfl) rfl (okWide_bool_mk Tryz.underlying4 _))⟩
theorem MarchOn_row : Rows.MarchOnSaid :=
  OpenClaim.holds_of_wide 4 Tryz.f4 rfl rfl rfl rfl rfl rfl rfl ⟨rfl, rfl, rfl, rfl, rfl⟩ rfl rfl rfl rfl rfl (by kernel_rfl) Tryz.func4 (by kernel_rfl)
    (of_decide_eq_true (by kernel_rfl)) (by unfold Func.isWrapper; rw [if_neg (of_decide_eq_false (by kernel_rfl))]; exact ⟨rfl, rfl⟩)
    (fun os started H enc _ => MarchOn_lifted os started H enc)
/-- MarchOn, tied to the text of the program. -/
theorem MarchOn_holds : Rows.MarchOnCardSaid :=
  Claim7.holds_tied_plain_at .later [] _ _ _ _
    MarchOn_row (fun _ h => by cases h) (by kernel_rfl) (fun _ h => by cases h) marchOn_row_tie rfl ⟨rfl, rfl⟩ (by kernel_rfl) rfl
    (fun f fn hf hfn => by
      obtain rfl : f = 4 := Option.some.inj ((show Tryz.prog.funcNamed Rows.marchOnRow.func = some 4 by kernel_rfl).symm.trans hf) |>.symm
      obtain rfl : fn = Tryz.f4 := (Option.some.inj (Tryz.func4.symm.trans hfn)).symm
      exact ⟨by kernel_rfl, fun j t ht => by
        rw [Tryz.params4] at ht
        have hm : t ∈ [31, 36, 26, 3] := by simpa using Array.mem_of_getElem? ht
        have hall : ([31, 36, 26, 3].all fun u => !Tryz.prog.wantsStandIn u) = true := by kernel_rfl
        exact (show Tryz.prog.wantsStandIn t = false by simpa using List.all_eq_true.1 hall t hm)⟩)
    (by kernel_rfl)
#print axioms MarchOn_holds
end Go.Proofs.YtcmhibdigkdjiaaGreatDoor
