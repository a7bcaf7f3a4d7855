import Derived.Test.YtiobbiamnjapgaaDoorGen1
set_option maxRecDepth 100000
set_option maxHeartbeats 4000000
namespace Go.Proofs.YtiobbiamnjapgaaDoor
open Go Go.RowKit
theorem c_tape_Text {n : Nat} {x0 : M_tape_Tape} : ∀ r, m_tape_Text n x0 = some r → FnOk Tryd.prog 34 [L_tape_Tape x0] [] (str r) [] := by
  unfold m_tape_Text
  refine fn_of_sq (res := fun (r : (List UInt8)) => str r) (mo := fun (r : (List UInt8)) => []) Tryd.func34 rfl rfl (by kernel_rfl) rfl ?_
  intro w S0 γ hγ
  refine sseq ?_
  refine sreg ?_
  refine so (box (y := 100) (by exact rfl) rfl rfl rfl) ?_
  refine s1 (asg rfl (kS (s := []) rfl)) ?_
  refine snil ?_
  refine pnm ?_
  refine sseq ?_
  refine sseq ?_
  refine sreg ?_
  refine s1 (ldB [] rfl rfl sh_47 (by exact rfl) (by exact rfl) rfl rfl (.inr ⟨rfl, rfl, _, _, rfl⟩)) ?_
  refine bd fun r1 h2 => ?_
  refine s1 (call0 (c_tape_Right _ h2) ⟨⟨_, rfl, rn_id if_L_tape_Tape⟩, trivial⟩ (if_bl) rfl) ?_
  refine s1 (notB rfl rfl) ?_
  refine snil ?_
  refine pnm ?_
  refine scond rfl ?_ ?_
  · refine sseq ?_
    refine sreg ?_
    refine s1 (asg rfl (kS (s := []) rfl)) ?_
    refine snil ?_
    refine pnm ?_
    refine sret ?_
    refine pth ?_
    exact ret [] [.tmp 2] [_] [_] .ret hγ (.inl rfl) rfl ⟨rfl, trivial⟩ rfl trivial trivial trivial (rns_cons (rn_id if_str) (rns_nil)) rfl
  · refine sskip ?_
    refine pnm ?_
    refine sseq ?_
    refine sreg ?_
    refine so (alOw (y := 101) (ly := .agg [.por 101, .own 102]) [(102, 5, 1)] ti_82 (zo_agg (zos_cons (c1 := [.pointer none]) zo_por (zos_cons (c1 := [.slice none 0 0]) (zo_own rfl) zos_nil))) ⟨rfl, trivial⟩ rfl rfl rfl) ?_
    refine snil ?_
    refine pnm ?_
    refine sseq ?_
    refine sseq ?_
    refine sreg ?_
    refine s1 (faO rfl fd_47_0 rfl rfl) ?_
    refine s1 (ldB [0] rfl (by exact rfl) sh_45 (by exact rfl) (by exact rfl) rfl rfl (.inl rfl)) ?_
    refine s1 (lenL (f := L_tape_Inst) Tryd.underlying45 rfl rfl) ?_
    refine s1 (mv rfl (kI (x := 0) rfl)) ?_
    refine snil ?_
    refine pnm ?_
    refine sblk ?_
    refine srangeN (fun (s36 : (List UInt8)) => [(1, .own 100), (2, str ([] : List UInt8)), (3, .own 101), (12, sli 6 (List.map L_tape_Inst x0.Code))]) (fun (s36 : (List UInt8)) => [(100, .bx 47 (L_tape_Tape x0)), (101, .bx 82 (.agg [.por 101, .own 102])), (102, .sl 5 1 (List.map ub s36))]) rfl (fun _ => rfl) (entR [(100, 100), (101, 101), (102, 102)] rfl (keepS hγ trivial) ⟨⟨_, rfl⟩, ⟨_, rfl⟩, ⟨_, rfl⟩, trivial⟩ ⟨⟨_, _, rfl, rfl, rci (rc_bx (rn_id if_L_tape_Tape))⟩, ⟨_, _, rfl, rfl, rci (rc_bx (rn_agg (rns_cons (rn_por rfl) (rns_cons (rn_own rfl) (rns_nil)))))⟩, ⟨_, _, rfl, rfl, rci (rc_sl (ifs_map (f := ub) (fun _ => if_ub) ([] : List UInt8)))⟩, trivial⟩ ⟨⟨_, rfl, rn_id if_i64⟩, ⟨_, rfl, rn_id if_i64⟩, ⟨_, rfl, rn_own rfl⟩, ⟨_, rfl, rn_id if_str⟩, ⟨_, rfl, rn_own rfl⟩, ⟨_, rfl, rn_id if_sli⟩, trivial⟩) ?_ ?_
    · intro i37 x38 s36 hx39
      refine sblk ?_
      refine sseq ?_
      refine sreg ?_
      refine s1 (mv rfl rfl) ?_
      refine s1 (ixR (f := L_tape_Inst) Tryd.underlying45 ti_59 (getI_nat hx39) rfl rfl rfl) ?_
      refine s1 (ldR sh_59 (by exact rfl) (by exact rfl) rfl rfl) ?_
      refine so (al (y := 103) (ly := L_tape_Inst (⟨0, 0, 0, (⟨(⟨false, []⟩ : M_whole_Whole), []⟩ : M_frac_Frac)⟩ : M_tape_Inst)) ti_59 zr_tape_Inst rfl rfl) ?_
      refine s1 (asg rfl rfl) ?_
      refine so (stB2 (ly2 := L_tape_Inst x38) [] (by exact rfl) rfl (by exact rfl) sh_59 (by exact rfl) (by exact rfl) (by exact rfl) rfl (.inr ⟨rfl, rfl, _, _, rfl⟩) rfl) ?_
      refine snil ?_
      refine pnm ?_
      refine bd fun r40 h41 => ?_
      refine bd fun y42 h43 => ?_
      refine bd fun r44 h45 => ?_
      refine bd fun y46 h47 => ?_
      refine bd fun y48 h49 => ?_
      refine bd fun y50 h51 => ?_
      refine sdraw [⟨[4], [], [(19, i64 (i37 : Int))], []⟩, ⟨[19], [], [(20, str r40)], []⟩, ⟨[20], [], [(21, str y42)], []⟩, ⟨[5], [103], [(22, L_tape_Inst x38)], []⟩, ⟨[22], [], [(23, str r44)], []⟩, ⟨[21, 23], [], [(24, str y46)], []⟩, ⟨[24], [], [(25, str y48)], []⟩, ⟨[3, 25], [101, 102, 104], [(26, .tup [i64 (y48.length : Int), nilI])], [(104, .sl 5 1 (List.map ub y50)), (101, .bx 82 (.agg [.por 101, .own 104])), (102, .gone)]⟩] fol (by kernel_rfl) ⟨fun st mm ⟨a4, _⟩ _ => og (mv rfl (a4.trans rfl)), fun st mm ⟨a19, _⟩ _ => og (call0 (c_strconv_Itoa _ h41) ⟨⟨_, (a19.trans rfl), rn_id if_i64⟩, trivial⟩ (if_str) rfl), fun st mm ⟨a20, _⟩ _ => og (catStr h43 rfl (a20.trans rfl) (kS (s := [58, 32]) rfl)), fun st mm ⟨a5, _⟩ ⟨g103, _⟩ => og (ldB [] (g103.trans rfl) rfl sh_59 (by exact rfl) (by exact rfl) rfl (a5.trans rfl) (.inr ⟨rfl, rfl, _, _, (g103.trans rfl)⟩)), fun st mm ⟨a22, _⟩ _ => og (call0 (c_tape_line _ h45) ⟨⟨_, (a22.trans rfl), rn_id if_L_tape_Inst⟩, trivial⟩ (if_str) rfl), fun st mm ⟨a21, a23, _⟩ _ => og (catStr h47 rfl (a21.trans rfl) (a23.trans rfl)), fun st mm ⟨a24, _⟩ _ => og (catStr h49 rfl (a24.trans rfl) (kS (s := [10]) rfl)), fun st mm ⟨a3, a25, _⟩ ⟨g101, g102, g104, _⟩ => og (callG (em := [(104, .sl 5 1 (List.map ub y50)), (101, .bx 82 (.agg [.por 101, .own 104])), (102, .gone)]) (res' := .tup [i64 (y48.length : Int), nilI]) [(0, 101), (1, 102)] [(104, 52)] [(104, 52), (101, 0)] (ws_ok' h51) ⟨⟨_, (a3.trans rfl), rn_own rfl⟩, ⟨_, (a25.trans rfl), rn_id if_str⟩, trivial⟩ (MiF.get (mi := [(0, _), (1, _)]) ⟨⟨_, _, rfl, (g101.trans rfl), rc_bx (rn_agg (rns_cons (rn_por rfl) (rns_cons (rn_own rfl) rns_nil)))⟩, ⟨_, _, rfl, (g102.trans rfl), rc_sl (ifs_map (f := ub) (fun _ => if_ub) s36)⟩, trivial⟩) ⟨⟨_, rfl⟩, ⟨_, rfl⟩, trivial⟩ rfl ⟨(g104.trans rfl), trivial⟩ ⟨.inl rfl, .inr rfl, trivial⟩ rfl ⟨.inl ⟨_, _, rfl, rfl, rc_sl (ifs_map (f := ub) (fun _ => if_ub) y50)⟩, .inl ⟨_, _, rfl, rfl, rc_bx (rn_agg (rns_cons (rn_por rfl) (rns_cons (rn_own rfl) rns_nil)))⟩, .inr ⟨rfl, 1, .tail _ (.head _)⟩, trivial⟩ ⟨⟨_, rfl⟩, ⟨_, rfl⟩, trivial⟩ ⟨⟨_, rfl⟩, trivial⟩ (rn_tup (rns_cons (rn_id if_i64) (rns_cons (rn_id if_nilI) rns_nil))) rfl), trivial⟩ ?_
      refine pbn ?_
      exact sgo (entR [(100, 100), (101, 101), (102, 104)] rfl (keepS hγ trivial) ⟨⟨_, rfl⟩, ⟨_, rfl⟩, ⟨_, rfl⟩, trivial⟩ ⟨⟨_, _, rfl, rfl, rci (rc_bx (rn_id if_L_tape_Tape))⟩, ⟨_, _, rfl, rfl, rci (rc_bx (rn_agg (rns_cons (rn_por rfl) (rns_cons (rn_own rfl) (rns_nil)))))⟩, ⟨_, _, rfl, rfl, rci (rc_sl (ifs_map (f := ub) (fun _ => if_ub) y50))⟩, trivial⟩ ⟨⟨_, rfl, rn_id if_i64⟩, ⟨_, rfl, rn_id if_i64⟩, ⟨_, rfl, rn_own rfl⟩, ⟨_, rfl, rn_id if_str⟩, ⟨_, rfl, rn_own rfl⟩, ⟨_, rfl, rn_id if_sli⟩, trivial⟩)
    · intro s52
      refine sx ?_
      refine pnm ?_
      refine sseq ?_
      refine sreg ?_
      refine bd fun y53 h54 => ?_
      refine so (callG (em := [(103, .sl 5 1 (List.map ub y53)), (101, .bx 82 (.agg [.por 101, .own 103])), (102, .gone)]) (res' := .tup [i64 (([111, 117, 116] : List UInt8).length : Int), nilI]) [(0, 101), (1, 102)] [(103, 52)] [(103, 52), (101, 0)] (ws_ok' h54) ⟨⟨_, rfl, rn_own rfl⟩, ⟨_, (kS (s := [111, 117, 116]) rfl), rn_id if_str⟩, trivial⟩ (MiF.get (mi := [(0, _), (1, _)]) ⟨⟨_, _, rfl, rfl, rc_bx (rn_agg (rns_cons (rn_por rfl) (rns_cons (rn_own rfl) rns_nil)))⟩, ⟨_, _, rfl, rfl, rc_sl (ifs_map (f := ub) (fun _ => if_ub) s52)⟩, trivial⟩) ⟨⟨_, rfl⟩, ⟨_, rfl⟩, trivial⟩ rfl ⟨rfl, trivial⟩ ⟨.inl rfl, .inr rfl, trivial⟩ rfl ⟨.inl ⟨_, _, rfl, rfl, rc_sl (ifs_map (f := ub) (fun _ => if_ub) y53)⟩, .inl ⟨_, _, rfl, rfl, rc_bx (rn_agg (rns_cons (rn_por rfl) (rns_cons (rn_own rfl) rns_nil)))⟩, .inr ⟨rfl, 1, .tail _ (.head _)⟩, trivial⟩ ⟨⟨_, rfl⟩, ⟨_, rfl⟩, trivial⟩ ⟨⟨_, rfl⟩, trivial⟩ (rn_tup (rns_cons (rn_id if_i64) (rns_cons (rn_id if_nilI) rns_nil))) rfl) ?_
      refine snil ?_
      refine pnm ?_
      refine sseq ?_
      refine sseq ?_
      refine sreg ?_
      refine s1 (faO rfl fd_47_1 rfl rfl) ?_
      refine s1 (ldB [1] rfl (by exact rfl) sh_41 (by exact rfl) (by exact rfl) rfl rfl (.inl rfl)) ?_
      refine s1 (lenL (f := i64) Tryd.underlying41 rfl rfl) ?_
      refine s1 (mv rfl (kI (x := 0) rfl)) ?_
      refine snil ?_
      refine pnm ?_
      refine sblk ?_
      refine srangeN (fun (s76 : (List UInt8)) => [(2, str ([] : List UInt8)), (3, .own 101), (30, sli 1 (List.map i64 x0.Outs))]) (fun (s76 : (List UInt8)) => [(101, .bx 82 (.agg [.por 101, .own 103])), (103, .sl 5 1 (List.map ub s76))]) rfl (fun _ => rfl) (entR [(101, 101), (103, 103)] rfl (keepS hγ trivial) ⟨⟨_, rfl⟩, ⟨_, rfl⟩, trivial⟩ ⟨⟨_, _, rfl, rfl, rci (rc_bx (rn_agg (rns_cons (rn_por rfl) (rns_cons (rn_own rfl) (rns_nil)))))⟩, ⟨_, _, rfl, rfl, rci (rc_sl (ifs_map (f := ub) (fun _ => if_ub) y53))⟩, trivial⟩ ⟨⟨_, rfl, rn_id if_i64⟩, ⟨_, rfl, rn_id if_i64⟩, ⟨_, rfl, rn_id if_str⟩, ⟨_, rfl, rn_own rfl⟩, ⟨_, rfl, rn_id if_sli⟩, trivial⟩) ?_ ?_
      · intro i77 x78 s76 hx79
        refine sblk ?_
        refine sseq ?_
        refine sreg ?_
        refine s1 (ixR (f := i64) Tryd.underlying41 ti_3 (getI_nat hx79) rfl rfl rfl) ?_
        refine s1 (ldR sh_3 (by exact rfl) (by exact rfl) rfl rfl) ?_
        refine s1 (asg rfl rfl) ?_
        refine snil ?_
        refine pnm ?_
        refine sreg ?_
        refine s1 (mv rfl rfl) ?_
        refine bd fun r80 h81 => ?_
        refine s1 (call0 (c_strconv_Itoa _ h81) ⟨⟨_, rfl, rn_id if_i64⟩, trivial⟩ (if_str) rfl) ?_
        refine bd fun y82 h83 => ?_
        refine s1 (catStr h83 rfl (kS (s := [32]) rfl) rfl) ?_
        refine bd fun y84 h85 => ?_
        refine so (callG (em := [(104, .sl 5 1 (List.map ub y84)), (101, .bx 82 (.agg [.por 101, .own 104])), (103, .gone)]) (res' := .tup [i64 (y82.length : Int), nilI]) [(0, 101), (1, 103)] [(104, 52)] [(104, 52), (101, 0)] (ws_ok' h85) ⟨⟨_, rfl, rn_own rfl⟩, ⟨_, rfl, rn_id if_str⟩, trivial⟩ (MiF.get (mi := [(0, _), (1, _)]) ⟨⟨_, _, rfl, rfl, rc_bx (rn_agg (rns_cons (rn_por rfl) (rns_cons (rn_own rfl) rns_nil)))⟩, ⟨_, _, rfl, rfl, rc_sl (ifs_map (f := ub) (fun _ => if_ub) s76)⟩, trivial⟩) ⟨⟨_, rfl⟩, ⟨_, rfl⟩, trivial⟩ rfl ⟨rfl, trivial⟩ ⟨.inl rfl, .inr rfl, trivial⟩ rfl ⟨.inl ⟨_, _, rfl, rfl, rc_sl (ifs_map (f := ub) (fun _ => if_ub) y84)⟩, .inl ⟨_, _, rfl, rfl, rc_bx (rn_agg (rns_cons (rn_por rfl) (rns_cons (rn_own rfl) rns_nil)))⟩, .inr ⟨rfl, 1, .tail _ (.head _)⟩, trivial⟩ ⟨⟨_, rfl⟩, ⟨_, rfl⟩, trivial⟩ ⟨⟨_, rfl⟩, trivial⟩ (rn_tup (rns_cons (rn_id if_i64) (rns_cons (rn_id if_nilI) rns_nil))) rfl) ?_
        refine snil ?_
        refine pbn ?_
        exact sgo (entR [(101, 101), (103, 104)] rfl (keepS hγ trivial) ⟨⟨_, rfl⟩, ⟨_, rfl⟩, trivial⟩ ⟨⟨_, _, rfl, rfl, rci (rc_bx (rn_agg (rns_cons (rn_por rfl) (rns_cons (rn_own rfl) (rns_nil)))))⟩, ⟨_, _, rfl, rfl, rci (rc_sl (ifs_map (f := ub) (fun _ => if_ub) y84))⟩, trivial⟩ ⟨⟨_, rfl, rn_id if_i64⟩, ⟨_, rfl, rn_id if_i64⟩, ⟨_, rfl, rn_id if_str⟩, ⟨_, rfl, rn_own rfl⟩, ⟨_, rfl, rn_id if_sli⟩, trivial⟩)
      · intro s86
        refine sx ?_
        refine pnm ?_
        refine sseq ?_
        refine sreg ?_
        refine bd fun y87 h88 => ?_
        refine so (callG (em := [(104, .sl 5 1 (List.map ub y87)), (101, .bx 82 (.agg [.por 101, .own 104])), (103, .gone)]) (res' := .tup [i64 (([10] : List UInt8).length : Int), nilI]) [(0, 101), (1, 103)] [(104, 52)] [(104, 52), (101, 0)] (ws_ok' h88) ⟨⟨_, rfl, rn_own rfl⟩, ⟨_, (kS (s := [10]) rfl), rn_id if_str⟩, trivial⟩ (MiF.get (mi := [(0, _), (1, _)]) ⟨⟨_, _, rfl, rfl, rc_bx (rn_agg (rns_cons (rn_por rfl) (rns_cons (rn_own rfl) rns_nil)))⟩, ⟨_, _, rfl, rfl, rc_sl (ifs_map (f := ub) (fun _ => if_ub) s86)⟩, trivial⟩) ⟨⟨_, rfl⟩, ⟨_, rfl⟩, trivial⟩ rfl ⟨rfl, trivial⟩ ⟨.inl rfl, .inr rfl, trivial⟩ rfl ⟨.inl ⟨_, _, rfl, rfl, rc_sl (ifs_map (f := ub) (fun _ => if_ub) y87)⟩, .inl ⟨_, _, rfl, rfl, rc_bx (rn_agg (rns_cons (rn_por rfl) (rns_cons (rn_own rfl) rns_nil)))⟩, .inr ⟨rfl, 1, .tail _ (.head _)⟩, trivial⟩ ⟨⟨_, rfl⟩, ⟨_, rfl⟩, trivial⟩ ⟨⟨_, rfl⟩, trivial⟩ (rn_tup (rns_cons (rn_id if_i64) (rns_cons (rn_id if_nilI) rns_nil))) rfl) ?_
        refine snil ?_
        refine pnm ?_
        refine sseq ?_
        refine sreg ?_
        refine so (strOp (id := 101) (id2 := 104) rfl rfl rfl rfl rfl) ?_
        refine s1 (asg rfl rfl) ?_
        refine snil ?_
        refine pnm ?_
        refine sret ?_
        exact ret [] [.tmp 2] [_] [_] .ret hγ (.inl rfl) rfl ⟨rfl, trivial⟩ rfl trivial trivial trivial (rns_cons (rn_id if_str) (rns_nil)) rfl
theorem c_retrospectlaw24_works {n : Nat}  : ∀ r, m_retrospectlaw24_works n  = some r → FnOk Tryd.prog 16 [] [] (bl r) [] := by
  unfold m_retrospectlaw24_works
  refine fn_of_sq (res := fun (r : Bool) => bl r) (mo := fun (r : Bool) => []) Tryd.func16 rfl rfl (by kernel_rfl) rfl ?_
  intro w S0 γ hγ
  refine sseq ?_
  refine sreg ?_
  refine s1 (asg rfl kB) ?_
  refine snil ?_
  refine pnm ?_
  refine sseq ?_
  refine sreg ?_
  refine s1 (bld (l := [i64 (3 : Int), i64 0, i64 0, L_frac_Frac (⟨(⟨false, []⟩ : M_whole_Whole), []⟩ : M_frac_Frac)]) pl_59 ti_59 zr_tape_Inst ⟨_, _, _, (kI (x := 3) rfl), rfl, rfl, rfl, (szk (k := 1) rfl rfl), rfl⟩ rfl) ?_
  refine s1 (bld (l := [i64 (9 : Int), i64 0, i64 0, L_frac_Frac (⟨(⟨false, []⟩ : M_whole_Whole), []⟩ : M_frac_Frac)]) pl_59 ti_59 zr_tape_Inst ⟨_, _, _, (kI (x := 9) rfl), rfl, rfl, rfl, (szk (k := 1) rfl rfl), rfl⟩ rfl) ?_
  refine so (bsl (y := 100) (ls := List.map L_tape_Inst ([(⟨(3 : Int), 0, 0, (⟨(⟨false, []⟩ : M_whole_Whole), []⟩ : M_frac_Frac)⟩ : M_tape_Inst), (⟨(9 : Int), 0, 0, (⟨(⟨false, []⟩ : M_whole_Whole), []⟩ : M_frac_Frac)⟩ : M_tape_Inst)] : List M_tape_Inst)) Tryd.underlying45 ti_59 rfl rfl rfl rfl rfl ⟨rfl, rfl, (by exact rfl), (by exact rfl), rfl, rfl, (by exact rfl), (by exact rfl), trivial⟩ rfl rfl) ?_
  refine sbm (C := fun x => .sl 59 6 (List.map L_tape_Inst x)) 100 rfl fun z1 => ?_
  refine so (bsl (y := 101) (ls := List.map i64 ([(1 : Int)] : List Int)) Tryd.underlying41 ti_3 rfl rfl rfl rfl rfl ⟨rfl, (kI (x := 1) rfl), (by exact rfl), (by exact rfl), trivial⟩ rfl rfl) ?_
  refine frz (id := 100) [(4, sli 6 (List.map L_tape_Inst z1))] [] rfl (ifs_map (f := L_tape_Inst) (fun _ => if_L_tape_Inst) z1) ⟨⟨_, rfl, fz_own⟩, trivial⟩ trivial ?_
  refine frz (id := 101) [(5, sli 1 (List.map i64 ([(1 : Int)] : List Int)))] [] rfl (ifs_map (f := i64) (fun _ => if_i64) ([(1 : Int)] : List Int)) ⟨⟨_, rfl, fz_own⟩, trivial⟩ trivial ?_
  refine s1 (bld (l := [sli 6 (List.map L_tape_Inst z1), sli 1 (List.map i64 ([(1 : Int)] : List Int)), i64 (1 : Int), i64 0]) pl_47 ti_47 zr_tape_Tape ⟨_, _, _, rfl, rfl, rfl, rfl, (szk (k := 1) rfl rfl), ⟨_, _, _, rfl, rfl, rfl, rfl, (szk (k := 1) rfl rfl), ⟨_, _, _, (kI (x := 1) rfl), rfl, rfl, rfl, (szk (k := 1) rfl rfl), rfl⟩⟩⟩ rfl) ?_
  refine so (al (y := 102) (ly := L_tape_Tape (⟨[], [], 0, 0⟩ : M_tape_Tape)) ti_47 zr_tape_Tape rfl rfl) ?_
  refine so (stB2 (ly2 := L_tape_Tape (⟨z1, ([(1 : Int)] : List Int), (1 : Int), 0⟩ : M_tape_Tape)) [] (by exact rfl) rfl (by exact rfl) sh_47 (by exact rfl) (by exact rfl) (by exact rfl) rfl (.inr ⟨rfl, rfl, _, _, rfl⟩) rfl) ?_
  refine snil ?_
  refine pnm ?_
  refine sjq (fun (s11 : Bool) => [(0, bl s11)]) (fun (s11 : Bool) => []) ?_ ?_
  · intro j9 hj10
    refine sreg ?_
    refine s1 (ldB [] rfl rfl sh_47 (by exact rfl) (by exact rfl) rfl rfl (.inr ⟨rfl, rfl, _, _, rfl⟩)) ?_
    refine bd fun r12 h13 => ?_
    refine s1 (call0 (c_tape_Right _ h13) ⟨⟨_, rfl, rn_id if_L_tape_Tape⟩, trivial⟩ (if_bl) rfl) ?_
    refine s1 (mv rfl rfl) ?_
    refine sifd 9 rfl ?_ ?_
    · refine sg 9 rfl rfl (ldB [] rfl rfl sh_47 (by exact rfl) (by exact rfl) rfl rfl (.inr ⟨rfl, rfl, _, _, rfl⟩)) ?_
      refine bd fun r14 h15 => ?_
      refine sg 9 rfl rfl (call0 (c_tape_Text _ h15) ⟨⟨_, rfl, rn_id if_L_tape_Tape⟩, trivial⟩ (if_str) rfl) ?_
      refine sg 9 rfl rfl (eqS rfl rfl (kS (s := [48, 58, 32, 115, 116, 97, 116, 101, 32, 48, 10, 49, 58, 32, 109, 117, 108, 32, 48, 32, 48, 10, 111, 117, 116, 32, 49, 10]) rfl)) ?_
      refine sbn (F := bl) 12 rfl fun z16 => ?_
      refine s1 (pickT rfl rfl rfl) ?_
      refine s1 (mv rfl rfl) ?_
      refine sifd 14 rfl ?_ ?_
      · refine sg 14 rfl rfl (bld (l := [sli 6 (List.map L_tape_Inst []), sli 1 (List.map i64 []), i64 0, i64 0]) pl_47 ti_47 zr_tape_Tape rfl rfl) ?_
        refine bd fun r17 h18 => ?_
        refine sg 14 rfl rfl (call0 (c_tape_Wrong _ h18) ⟨⟨_, rfl, rn_id if_L_tape_Tape⟩, trivial⟩ (if_i64) rfl) ?_
        refine sg 14 rfl rfl (eqI rfl rfl (kI (x := (-2)) rfl)) ?_
        refine s1 (pickT rfl rfl rfl) ?_
        refine s1 (asg rfl rfl) ?_
        refine snil ?_
        refine pnm ?_
        exact sj (hj10 _) (entR [] rfl (keepS hγ trivial) (by exact trivial) (by exact trivial) ⟨⟨_, rfl, rn_id if_bl⟩, trivial⟩)
      · refine spB 14 rfl rfl rfl ?_
        refine spB 14 rfl rfl rfl ?_
        refine spB 14 rfl rfl rfl ?_
        refine s1 (pickF rfl rfl kB) ?_
        refine s1 (asg rfl rfl) ?_
        refine snil ?_
        refine pnm ?_
        exact sj (hj10 _) (entR [] rfl (keepS hγ trivial) (by exact trivial) (by exact trivial) ⟨⟨_, rfl, rn_id if_bl⟩, trivial⟩)
    · refine spB 9 rfl rfl rfl ?_
      refine spB 9 rfl rfl rfl ?_
      refine spB 9 rfl rfl rfl ?_
      refine s1 (pickF rfl rfl kB) ?_
      refine s1 (mv rfl rfl) ?_
      refine spB 14 rfl rfl rfl ?_
      refine spB 14 rfl rfl rfl ?_
      refine spB 14 rfl rfl rfl ?_
      refine s1 (pickF rfl rfl kB) ?_
      refine s1 (asg rfl rfl) ?_
      refine snil ?_
      refine pnm ?_
      exact sj (hj10 _) (entR [] rfl (keepS hγ trivial) (by exact trivial) (by exact trivial) ⟨⟨_, rfl, rn_id if_bl⟩, trivial⟩)
  · intro s11
    refine sret ?_
    exact ret [] [.tmp 0] [_] [_] .ret hγ (.inl rfl) rfl ⟨rfl, trivial⟩ rfl trivial trivial trivial (rns_cons (rn_id if_bl) (rns_nil)) rfl
theorem c_retrospectlaw09_To {x0 : M_retrospectref09_Frac} : ∀ r, m_retrospectlaw09_To x0 = some r → FnOk Tryd.prog 36 [L_retrospectref09_Frac x0] [] (L_frac_Frac r) [] := by
  unfold m_retrospectlaw09_To
  refine fn_of_sq (res := fun (r : M_frac_Frac) => L_frac_Frac r) (mo := fun (r : M_frac_Frac) => []) Tryd.func36 rfl rfl (by kernel_rfl) rfl ?_
  intro w S0 γ hγ
  refine sseq ?_
  refine sreg ?_
  refine so (box (y := 100) (by exact rfl) rfl rfl rfl) ?_
  refine so (al (y := 101) (ly := L_frac_Frac (⟨(⟨false, []⟩ : M_whole_Whole), []⟩ : M_frac_Frac)) ti_57 zr_frac_Frac rfl rfl) ?_
  refine snil ?_
  refine pnm ?_
  refine sseq ?_
  refine sreg ?_
  refine s1 (faO rfl fd_91_0 rfl rfl) ?_
  refine s1 (ldB [0] rfl (by exact rfl) sh_4 (by exact rfl) (by exact rfl) rfl rfl (.inl rfl)) ?_
  refine s1 (faO rfl fd_91_1 rfl rfl) ?_
  refine s1 (ldB [1] rfl (by exact rfl) sh_53 (by exact rfl) (by exact rfl) rfl rfl (.inl rfl)) ?_
  refine s1 (bld (l := [bl x0.Neg, sli 1 (List.map u32 x0.N)]) pl_55 ti_55 zr_whole_Whole ⟨_, _, _, rfl, rfl, rfl, rfl, (szk (k := 1) rfl rfl), ⟨_, _, _, rfl, rfl, rfl, rfl, (szk (k := 1) rfl rfl), rfl⟩⟩ rfl) ?_
  refine s1 (faO rfl fd_91_2 rfl rfl) ?_
  refine s1 (ldB [2] rfl (by exact rfl) sh_53 (by exact rfl) (by exact rfl) rfl rfl (.inl rfl)) ?_
  refine s1 (bld (l := [L_whole_Whole (⟨x0.Neg, x0.N⟩ : M_whole_Whole), sli 1 (List.map u32 x0.D)]) pl_57 ti_57 zr_frac_Frac ⟨_, _, _, rfl, rfl, rfl, rfl, (szk (k := 2) rfl rfl), ⟨_, _, _, rfl, rfl, rfl, rfl, (szk (k := 1) rfl rfl), rfl⟩⟩ rfl) ?_
  refine so (stB2 (ly2 := L_frac_Frac (⟨(⟨x0.Neg, x0.N⟩ : M_whole_Whole), x0.D⟩ : M_frac_Frac)) [] (by exact rfl) rfl (by exact rfl) sh_57 (by exact rfl) (by exact rfl) (by exact rfl) rfl (.inr ⟨rfl, rfl, _, _, rfl⟩) rfl) ?_
  refine snil ?_
  refine pnm ?_
  refine sret ?_
  exact ret [] [.cell 2 57] [_] [_] .ret hγ (.inl rfl) rfl ⟨⟨101, _, rfl, rfl, sh_57⟩, trivial⟩ rfl trivial trivial trivial (rns_cons (rn_id if_L_frac_Frac) (rns_nil)) rfl
theorem c_retrospectlaw24_To {n : Nat} {x0 : M_retrospectref24_Tape} : ∀ r, m_retrospectlaw24_To n x0 = some r → FnOk Tryd.prog 17 [L_retrospectref24_Tape x0] [] (L_tape_Tape r) [] := by
  unfold m_retrospectlaw24_To
  refine fn_of_sq (res := fun (r : M_tape_Tape) => L_tape_Tape r) (mo := fun (r : M_tape_Tape) => []) Tryd.func17 rfl rfl (by kernel_rfl) rfl ?_
  intro w S0 γ hγ
  refine sseq ?_
  refine sreg ?_
  refine so (box (y := 100) (by exact rfl) rfl rfl rfl) ?_
  refine so (al (y := 101) (ly := L_tape_Tape (⟨[], [], 0, 0⟩ : M_tape_Tape)) ti_47 zr_tape_Tape rfl rfl) ?_
  refine snil ?_
  refine pnm ?_
  refine sseq ?_
  refine bd fun y1 h2 => ?_
  refine sdraw [⟨[1], [100], [(6, .ptr 100 2)], []⟩, ⟨[6], [100], [(7, i64 x0.Dim)], []⟩, ⟨[1], [100], [(8, .ptr 100 3)], []⟩, ⟨[8], [100], [(9, i64 x0.Par)], []⟩, ⟨[], [102], [(10, .own 102)], [(102, .sl 3 1 (List.map i64 ([] : List Int)))]⟩, ⟨[1], [100], [(11, .ptr 100 1)], []⟩, ⟨[11], [100], [(12, sli 1 (List.map i64 x0.Outs))], []⟩, ⟨[10, 12], [102, 103], [(13, sli 1 (List.map i64 y1))], [(103, .gone), (102, .gone)]⟩, ⟨[7, 9, 13], [104], [(14, .agg [.own 104, sli 1 (List.map i64 y1), i64 x0.Dim, i64 x0.Par])], [(104, .sl 59 6 (List.map L_tape_Inst ([] : List M_tape_Inst)))]⟩, ⟨[], [105], [(3, .own 105)], [(105, .bx 47 (L_tape_Tape (⟨[], [], 0, 0⟩ : M_tape_Tape)))]⟩, ⟨[3, 14], [105], [], [(105, .bx 47 (.agg [.own 104, sli 1 (List.map i64 y1), i64 x0.Dim, i64 x0.Par]))]⟩] fol (by kernel_rfl) ⟨fun st mm ⟨a1, _⟩ ⟨g100, _⟩ => og (faO (g100.trans rfl) fd_43_2 rfl (a1.trans rfl)), fun st mm ⟨a6, _⟩ ⟨g100, _⟩ => og (ldB [2] (g100.trans rfl) (by exact rfl) sh_3 (by exact rfl) (by exact rfl) rfl (a6.trans rfl) (.inl rfl)), fun st mm ⟨a1, _⟩ ⟨g100, _⟩ => og (faO (g100.trans rfl) fd_43_3 rfl (a1.trans rfl)), fun st mm ⟨a8, _⟩ ⟨g100, _⟩ => og (ldB [3] (g100.trans rfl) (by exact rfl) sh_3 (by exact rfl) (by exact rfl) rfl (a8.trans rfl) (.inl rfl)), fun st mm _ ⟨g102, _⟩ => og (bsl (y := 102) (ls := List.map i64 ([] : List Int)) Tryd.underlying41 ti_3 rfl rfl rfl rfl rfl trivial (g102.trans rfl) rfl), fun st mm ⟨a1, _⟩ ⟨g100, _⟩ => og (faO (g100.trans rfl) fd_43_1 rfl (a1.trans rfl)), fun st mm ⟨a11, _⟩ ⟨g100, _⟩ => og (ldB [1] (g100.trans rfl) (by exact rfl) sh_41 (by exact rfl) (by exact rfl) rfl (a11.trans rfl) (.inl rfl)), fun st mm ⟨a10, a12, _⟩ ⟨g102, g103, _⟩ => og (toV (app (y := 103) (f := i64) h2 (g102.trans rfl) Tryd.underlying41 ti_3 rfl rfl (a10.trans rfl) (a12.trans rfl) (.inl rfl) (g103.trans rfl) rfl) (ifs_map (f := i64) (fun _ => if_i64) y1)), fun st mm ⟨a7, a9, a13, _⟩ ⟨g104, _⟩ => og (bldO (l := [.own 104, sli 1 (List.map i64 y1), i64 x0.Dim, i64 x0.Par]) [(104, 59, 6)] pl_47 ti_47 (zo_agg (zos_cons (c1 := [.slice none 0 0]) (zo_own rfl) (zos_cons (c1 := [.slice none 0 0]) (zo_of (zr_sli (k := 1))) (zos_cons (c1 := [.int .i64 0]) (zo_of zr_i64) (zos_cons (c1 := [.int .i64 0]) (zo_of zr_i64) (zos_nil)))))) ⟨(g104.trans rfl), trivial⟩ rfl ⟨_, _, _, (a7.trans rfl), rfl, rfl, rfl, (szk (k := 1) rfl rfl), ⟨_, _, _, (a9.trans rfl), rfl, rfl, rfl, (szk (k := 1) rfl rfl), ⟨_, _, _, (a13.trans rfl), rfl, rfl, rfl, (szk (k := 1) rfl rfl), rfl⟩⟩⟩ rfl), fun st mm _ ⟨g105, _⟩ => og (al (y := 105) (ly := L_tape_Tape (⟨[], [], 0, 0⟩ : M_tape_Tape)) ti_47 zr_tape_Tape (g105.trans rfl) rfl), fun st mm ⟨a3, a14, _⟩ ⟨g105, _⟩ => og (stB2 (ly2 := .agg [.own 104, sli 1 (List.map i64 y1), i64 x0.Dim, i64 x0.Par]) [] (by exact rfl) (g105.trans rfl) (by exact rfl) sh_47 (by exact rfl) (by exact rfl) (by exact rfl) (a3.trans rfl) (.inr ⟨rfl, rfl, _, _, (g105.trans rfl)⟩) (a14.trans rfl)), trivial⟩ ?_
  refine pnm ?_
  refine sseq ?_
  refine sseq ?_
  refine sreg ?_
  refine s1 (asg rfl (kI (x := 0) rfl)) ?_
  refine snil ?_
  refine pnm ?_
  refine sblk ?_
  refine sloopE 0 (fun t => t) (fun (s19 : (List M_tape_Inst) × Int) => [(1, .own 100), (2, .own 101), (3, .own 105), (4, i64 s19.2)]) (fun (s19 : (List M_tape_Inst) × Int) => [(100, .bx 43 (L_retrospectref24_Tape x0)), (101, .bx 47 (L_tape_Tape (⟨[], [], 0, 0⟩ : M_tape_Tape))), (105, .bx 47 (.agg [.own 104, sli 1 (List.map i64 y1), i64 x0.Dim, i64 x0.Par])), (104, .sl 59 6 (List.map L_tape_Inst s19.1))]) (fun (t17 : (List M_tape_Inst)) => [(2, .own 101), (3, .own 105)]) (fun (t17 : (List M_tape_Inst)) => [(101, .bx 47 (L_tape_Tape (⟨[], [], 0, 0⟩ : M_tape_Tape))), (105, .bx 47 (.agg [.own 104, sli 1 (List.map i64 y1), i64 x0.Dim, i64 x0.Par])), (104, .sl 59 6 (List.map L_tape_Inst t17))]) (entR [(100, 100), (101, 101), (105, 105), (104, 104)] rfl (keepS hγ trivial) ⟨⟨_, rfl⟩, ⟨_, rfl⟩, ⟨_, rfl⟩, ⟨_, rfl⟩, trivial⟩ ⟨⟨_, _, rfl, rfl, rci (rc_bx (rn_id if_L_retrospectref24_Tape))⟩, ⟨_, _, rfl, rfl, rci (rc_bx (rn_id if_L_tape_Tape))⟩, ⟨_, _, rfl, rfl, rci (rc_bx (rn_agg (rns_cons (rn_own rfl) (rns_cons (rn_id if_sli) (rns_cons (rn_id if_i64) (rns_cons (rn_id if_i64) (rns_nil)))))))⟩, ⟨_, _, rfl, rfl, rci (rc_sl (ifs_map (f := L_tape_Inst) (fun _ => if_L_tape_Inst) ([] : List M_tape_Inst)))⟩, trivial⟩ ⟨⟨_, rfl, rn_own rfl⟩, ⟨_, rfl, rn_own rfl⟩, ⟨_, rfl, rn_own rfl⟩, ⟨_, rfl, rn_id if_i64⟩, trivial⟩) ?_ ?_
  · intro hj18 s19
    refine sseq ?_
    refine sseq ?_
    refine sreg ?_
    refine s1 (mv rfl rfl) ?_
    refine s1 (faO rfl fd_43_0 rfl rfl) ?_
    refine s1 (ldB [0] rfl (by exact rfl) sh_40 (by exact rfl) (by exact rfl) rfl rfl (.inl rfl)) ?_
    refine s1 (lenL (f := L_retrospectref24_Inst) Tryd.underlying40 rfl rfl) ?_
    refine s1 (ltI rfl rfl rfl) ?_
    refine snil ?_
    refine pnm ?_
    refine scond rfl ?_ ?_
    · refine sskip ?_
      refine pnm ?_
      refine sseq ?_
      refine sblk ?_
      refine sseq ?_
      refine sreg ?_
      refine s1 (faO rfl fd_43_0 rfl rfl) ?_
      refine s1 (ldB [0] rfl (by exact rfl) sh_40 (by exact rfl) (by exact rfl) rfl rfl (.inl rfl)) ?_
      refine s1 (mv rfl rfl) ?_
      refine bd fun y20 h21 => ?_
      refine s1 (ixR (f := L_retrospectref24_Inst) Tryd.underlying40 ti_93 h21 rfl rfl rfl) ?_
      refine s1 (ldR sh_93 (by exact rfl) (by exact rfl) rfl rfl) ?_
      refine so (al (y := 106) (ly := L_retrospectref24_Inst (⟨0, 0, 0, (⟨false, [], []⟩ : M_retrospectref09_Frac)⟩ : M_retrospectref24_Inst)) ti_93 zr_retrospectref24_Inst rfl rfl) ?_
      refine so (stB2 (ly2 := L_retrospectref24_Inst y20) [] (by exact rfl) rfl (by exact rfl) sh_93 (by exact rfl) (by exact rfl) (by exact rfl) rfl (.inr ⟨rfl, rfl, _, _, rfl⟩) rfl) ?_
      refine snil ?_
      refine pnm ?_
      refine bd fun r22 h23 => ?_
      refine bd fun y24 h25 => ?_
      refine sdraw [⟨[3], [105], [(27, .ptr 105 0)], []⟩, ⟨[27], [105], [(28, .own 104)], []⟩, ⟨[5], [106], [(29, .ptr 106 0)], []⟩, ⟨[29], [106], [(30, i64 y20.Op)], []⟩, ⟨[5], [106], [(31, .ptr 106 1)], []⟩, ⟨[31], [106], [(32, i64 y20.A)], []⟩, ⟨[5], [106], [(33, .ptr 106 2)], []⟩, ⟨[33], [106], [(34, i64 y20.B)], []⟩, ⟨[5], [106], [(35, .ptr 106 3)], []⟩, ⟨[35], [106], [(36, L_retrospectref09_Frac y20.N)], []⟩, ⟨[36], [], [(37, L_frac_Frac r22)], []⟩, ⟨[30, 32, 34, 37], [], [(38, L_tape_Inst (⟨y20.Op, y20.A, y20.B, r22⟩ : M_tape_Inst))], []⟩, ⟨[38], [107], [(39, .own 107)], [(107, .sl 59 6 (List.map L_tape_Inst ([(⟨y20.Op, y20.A, y20.B, r22⟩ : M_tape_Inst)] : List M_tape_Inst)))]⟩, ⟨[28, 39], [104, 107, 108], [(40, .own 108)], [(108, .sl 59 6 (List.map L_tape_Inst y24)), (104, .gone)]⟩, ⟨[3], [105], [(41, .ptr 105 0)], []⟩, ⟨[41, 40], [105], [], [(105, .bx 47 (.agg [.own 108, sli 1 (List.map i64 y1), i64 x0.Dim, i64 x0.Par]))]⟩] fol (by kernel_rfl) ⟨fun st mm ⟨a3, _⟩ ⟨g105, _⟩ => og (faO (g105.trans rfl) fd_47_0 rfl (a3.trans rfl)), fun st mm ⟨a27, _⟩ ⟨g105, _⟩ => og (ldB [0] (g105.trans rfl) (by exact rfl) sh_45 (by exact rfl) (by exact rfl) rfl (a27.trans rfl) (.inl rfl)), fun st mm ⟨a5, _⟩ ⟨g106, _⟩ => og (faO (g106.trans rfl) fd_93_0 rfl (a5.trans rfl)), fun st mm ⟨a29, _⟩ ⟨g106, _⟩ => og (ldB [0] (g106.trans rfl) (by exact rfl) sh_3 (by exact rfl) (by exact rfl) rfl (a29.trans rfl) (.inl rfl)), fun st mm ⟨a5, _⟩ ⟨g106, _⟩ => og (faO (g106.trans rfl) fd_93_1 rfl (a5.trans rfl)), fun st mm ⟨a31, _⟩ ⟨g106, _⟩ => og (ldB [1] (g106.trans rfl) (by exact rfl) sh_3 (by exact rfl) (by exact rfl) rfl (a31.trans rfl) (.inl rfl)), fun st mm ⟨a5, _⟩ ⟨g106, _⟩ => og (faO (g106.trans rfl) fd_93_2 rfl (a5.trans rfl)), fun st mm ⟨a33, _⟩ ⟨g106, _⟩ => og (ldB [2] (g106.trans rfl) (by exact rfl) sh_3 (by exact rfl) (by exact rfl) rfl (a33.trans rfl) (.inl rfl)), fun st mm ⟨a5, _⟩ ⟨g106, _⟩ => og (faO (g106.trans rfl) fd_93_3 rfl (a5.trans rfl)), fun st mm ⟨a35, _⟩ ⟨g106, _⟩ => og (ldB [3] (g106.trans rfl) (by exact rfl) sh_91 (by exact rfl) (by exact rfl) rfl (a35.trans rfl) (.inl rfl)), fun st mm ⟨a36, _⟩ _ => og (call0 (c_retrospectlaw09_To _ h23) ⟨⟨_, (a36.trans rfl), rn_id if_L_retrospectref09_Frac⟩, trivial⟩ (if_L_frac_Frac) rfl), fun st mm ⟨a30, a32, a34, a37, _⟩ _ => og (bld (l := [i64 y20.Op, i64 y20.A, i64 y20.B, L_frac_Frac r22]) pl_59 ti_59 zr_tape_Inst ⟨_, _, _, (a30.trans rfl), rfl, rfl, rfl, (szk (k := 1) rfl rfl), ⟨_, _, _, (a32.trans rfl), rfl, rfl, rfl, (szk (k := 1) rfl rfl), ⟨_, _, _, (a34.trans rfl), rfl, rfl, rfl, (szk (k := 1) rfl rfl), ⟨_, _, _, (a37.trans rfl), rfl, rfl, rfl, (szk (k := 3) rfl rfl), rfl⟩⟩⟩⟩ rfl), fun st mm ⟨a38, _⟩ ⟨g107, _⟩ => og (bsl (y := 107) (ls := List.map L_tape_Inst ([(⟨y20.Op, y20.A, y20.B, r22⟩ : M_tape_Inst)] : List M_tape_Inst)) Tryd.underlying45 ti_59 rfl rfl rfl rfl rfl ⟨rfl, (a38.trans rfl), (by exact rfl), (by exact rfl), trivial⟩ (g107.trans rfl) rfl), fun st mm ⟨a28, a39, _⟩ ⟨g104, g107, g108, _⟩ => og (app (y := 108) (f := L_tape_Inst) h25 (g104.trans rfl) Tryd.underlying45 ti_59 rfl rfl (a28.trans rfl) (a39.trans rfl) (.inr ⟨_, _, rfl, (g107.trans rfl)⟩) (g108.trans rfl) rfl), fun st mm ⟨a3, _⟩ ⟨g105, _⟩ => og (faO (g105.trans rfl) fd_47_0 rfl (a3.trans rfl)), fun st mm ⟨a41, a40, _⟩ ⟨g105, _⟩ => og (stB2 (ly2 := .agg [.own 108, sli 1 (List.map i64 y1), i64 x0.Dim, i64 x0.Par]) [0] (by exact rfl) (g105.trans rfl) (by exact rfl) sh_45 (by exact rfl) (by exact rfl) (by exact rfl) (a41.trans rfl) (.inl rfl) (a40.trans rfl)), trivial⟩ ?_
      refine pbn ?_
      refine pnm ?_
      refine sreg ?_
      refine s1 (mv rfl rfl) ?_
      refine s1 (addI rfl rfl (kI (x := 1) rfl)) ?_
      refine s1 (asg rfl rfl) ?_
      refine snil ?_
      exact sgo (entR [(100, 100), (101, 101), (105, 105), (104, 108)] rfl (keepS hγ trivial) ⟨⟨_, rfl⟩, ⟨_, rfl⟩, ⟨_, rfl⟩, ⟨_, rfl⟩, trivial⟩ ⟨⟨_, _, rfl, rfl, rci (rc_bx (rn_id if_L_retrospectref24_Tape))⟩, ⟨_, _, rfl, rfl, rci (rc_bx (rn_id if_L_tape_Tape))⟩, ⟨_, _, rfl, rfl, rci (rc_bx (rn_agg (rns_cons (rn_own rfl) (rns_cons (rn_id if_sli) (rns_cons (rn_id if_i64) (rns_cons (rn_id if_i64) (rns_nil)))))))⟩, ⟨_, _, rfl, rfl, rci (rc_sl (ifs_map (f := L_tape_Inst) (fun _ => if_L_tape_Inst) y24))⟩, trivial⟩ ⟨⟨_, rfl, rn_own rfl⟩, ⟨_, rfl, rn_own rfl⟩, ⟨_, rfl, rn_own rfl⟩, ⟨_, rfl, rn_id if_i64⟩, trivial⟩)
    · refine sexit ?_
      refine ptx ?_
      exact sout (fun h => by cases h) (sj (hj18 _) (entR [(101, 101), (105, 105), (104, 104)] rfl (keepS hγ trivial) ⟨⟨_, rfl⟩, ⟨_, rfl⟩, ⟨_, rfl⟩, trivial⟩ ⟨⟨_, _, rfl, rfl, rci (rc_bx (rn_id if_L_tape_Tape))⟩, ⟨_, _, rfl, rfl, rci (rc_bx (rn_agg (rns_cons (rn_own rfl) (rns_cons (rn_id if_sli) (rns_cons (rn_id if_i64) (rns_cons (rn_id if_i64) (rns_nil)))))))⟩, ⟨_, _, rfl, rfl, rci (rc_sl (ifs_map (f := L_tape_Inst) (fun _ => if_L_tape_Inst) s19.1))⟩, trivial⟩ ⟨⟨_, rfl, rn_own rfl⟩, ⟨_, rfl, rn_own rfl⟩, trivial⟩))
  · intro t17
    refine sx ?_
    refine pnm ?_
    refine sseq ?_
    refine sreg ?_
    refine s1 (ldB [] rfl rfl sh_47 (by exact rfl) (by exact rfl) rfl rfl (.inr ⟨rfl, rfl, _, _, rfl⟩)) ?_
    refine so (stB2 (ly2 := .agg [.own 104, sli 1 (List.map i64 y1), i64 x0.Dim, i64 x0.Par]) [] (by exact rfl) rfl (by exact rfl) sh_47 (by exact rfl) (by exact rfl) (by exact rfl) rfl (.inr ⟨rfl, rfl, _, _, rfl⟩) rfl) ?_
    refine snil ?_
    refine pnm ?_
    refine sret ?_
    refine frz (id := 104) [(42, L_tape_Tape (⟨t17, y1, x0.Dim, x0.Par⟩ : M_tape_Tape))] [(101, .bx 47 (L_tape_Tape (⟨t17, y1, x0.Dim, x0.Par⟩ : M_tape_Tape))), (105, .bx 47 (L_tape_Tape (⟨t17, y1, x0.Dim, x0.Par⟩ : M_tape_Tape)))] rfl (ifs_map (f := L_tape_Inst) (fun _ => if_L_tape_Inst) t17) ⟨⟨_, rfl, fz_agg (fzs_cons fz_own (fzs_cons fz_id (fzs_cons fz_id (fzs_cons fz_id (fzs_nil)))))⟩, trivial⟩ ⟨⟨rfl, _, rfl, fz_agg (fzs_cons fz_own (fzs_cons fz_id (fzs_cons fz_id (fzs_cons fz_id (fzs_nil)))))⟩, ⟨⟨rfl, _, rfl, fz_agg (fzs_cons fz_own (fzs_cons fz_id (fzs_cons fz_id (fzs_cons fz_id (fzs_nil)))))⟩, trivial⟩⟩ ?_
    exact ret [] [.cell 2 47] [_] [_] .ret hγ (.inl rfl) rfl ⟨⟨101, _, rfl, rfl, sh_47⟩, trivial⟩ rfl trivial trivial trivial (rns_cons (rn_id if_L_tape_Tape) (rns_nil)) rfl
theorem c_tape_Live {n : Nat} {x0 : M_tape_Tape} : ∀ r, m_tape_Live n x0 = some r → FnOk Tryd.prog 18 [L_tape_Tape x0] [] (sli 1 (List.map bl r)) [] := by
  unfold m_tape_Live
  refine fn_of_sq (res := fun (r : (List Bool)) => sli 1 (List.map bl r)) (mo := fun (r : (List Bool)) => []) Tryd.func18 rfl rfl (by kernel_rfl) rfl ?_
  intro w S0 γ hγ
  refine sseq ?_
  refine sreg ?_
  refine so (box (y := 100) (by exact rfl) rfl rfl rfl) ?_
  refine s1 (asg rfl (kLm (k := 1) bl)) ?_
  refine snil ?_
  refine pnm ?_
  refine sseq ?_
  refine sseq ?_
  refine sreg ?_
  refine s1 (ldB [] rfl rfl sh_47 (by exact rfl) (by exact rfl) rfl rfl (.inr ⟨rfl, rfl, _, _, rfl⟩)) ?_
  refine bd fun r1 h2 => ?_
  refine s1 (call0 (c_tape_Right _ h2) ⟨⟨_, rfl, rn_id if_L_tape_Tape⟩, trivial⟩ (if_bl) rfl) ?_
  refine s1 (notB rfl rfl) ?_
  refine snil ?_
  refine pnm ?_
  refine scond rfl ?_ ?_
  · refine sseq ?_
    refine sreg ?_
    refine s1 (asg rfl (kLm (k := 1) bl)) ?_
    refine snil ?_
    refine pnm ?_
    refine sret ?_
    refine pth ?_
    exact ret [] [.tmp 2] [_] [_] .ret hγ (.inl rfl) rfl ⟨rfl, trivial⟩ rfl trivial trivial trivial (rns_cons (rn_id if_sli) (rns_nil)) rfl
  · refine sskip ?_
    refine pnm ?_
    refine sseq ?_
    refine sreg ?_
    refine s1 (faO rfl fd_47_0 rfl rfl) ?_
    refine s1 (ldB [0] rfl (by exact rfl) sh_45 (by exact rfl) (by exact rfl) rfl rfl (.inl rfl)) ?_
    refine s1 (lenL (f := L_tape_Inst) Tryd.underlying45 rfl rfl) ?_
    refine bd fun y3 h4 => ?_
    refine so (mks (y := 101) (f := bl) h4 Tryd.underlying49 ti_4 zr_bl rfl rfl rfl rfl rfl rfl) ?_
    refine s1 (asg rfl rfl) ?_
    refine snil ?_
    refine pnm ?_
    refine sseq ?_
    refine sseq ?_
    refine sreg ?_
    refine s1 (faO rfl fd_47_1 rfl rfl) ?_
    refine s1 (ldB [1] rfl (by exact rfl) sh_41 (by exact rfl) (by exact rfl) rfl rfl (.inl rfl)) ?_
    refine s1 (lenL (f := i64) Tryd.underlying41 rfl rfl) ?_
    refine s1 (mv rfl (kI (x := 0) rfl)) ?_
    refine snil ?_
    refine pnm ?_
    refine sblk ?_
    refine srangeN (fun (s18 : (List Bool)) => [(1, .own 100), (2, sli 1 (List.map bl ([] : List Bool))), (3, .own 101), (17, sli 1 (List.map i64 x0.Outs))]) (fun (s18 : (List Bool)) => [(100, .bx 47 (L_tape_Tape x0)), (101, .sl 4 1 (List.map bl s18))]) rfl (fun _ => rfl) (entR [(100, 100), (101, 101)] rfl (keepS hγ trivial) ⟨⟨_, rfl⟩, ⟨_, rfl⟩, trivial⟩ ⟨⟨_, _, rfl, rfl, rci (rc_bx (rn_id if_L_tape_Tape))⟩, ⟨_, _, rfl, rfl, rci (rc_sl (ifs_map (f := bl) (fun _ => if_bl) y3))⟩, trivial⟩ ⟨⟨_, rfl, rn_id if_i64⟩, ⟨_, rfl, rn_id if_i64⟩, ⟨_, rfl, rn_own rfl⟩, ⟨_, rfl, rn_id if_sli⟩, ⟨_, rfl, rn_own rfl⟩, ⟨_, rfl, rn_id if_sli⟩, trivial⟩) ?_ ?_
    · intro i19 x20 s18 hx21
      refine sblk ?_
      refine sseq ?_
      refine sreg ?_
      refine s1 (ixR (f := i64) Tryd.underlying41 ti_3 (getI_nat hx21) rfl rfl rfl) ?_
      refine s1 (ldR sh_3 (by exact rfl) (by exact rfl) rfl rfl) ?_
      refine s1 (asg rfl rfl) ?_
      refine snil ?_
      refine pnm ?_
      refine sreg ?_
      refine s1 (mv rfl rfl) ?_
      refine s1 (mv rfl rfl) ?_
      refine bd fun y22 h23 => ?_
      refine s1 (ixO (f := bl) rfl Tryd.underlying49 ti_4 h23 rfl rfl rfl) ?_
      refine so (stO (f := bl) true [] rfl (getI_ix h23) (by exact rfl) (by exact rfl) (by exact rfl) (by exact rfl) sh_4 (by exact rfl) (by exact rfl) (by exact rfl) rfl kB) ?_
      refine snil ?_
      refine pbn ?_
      exact sgo (entR [(100, 100), (101, 101)] rfl (keepS hγ trivial) ⟨⟨_, rfl⟩, ⟨_, rfl⟩, trivial⟩ ⟨⟨_, _, rfl, rfl, rci (rc_bx (rn_id if_L_tape_Tape))⟩, ⟨_, _, rfl, rfl, rci (rc_sl (ifs_map (f := bl) (fun _ => if_bl) (List.set s18 (Int.toNat x20) true)))⟩, trivial⟩ ⟨⟨_, rfl, rn_id if_i64⟩, ⟨_, rfl, rn_id if_i64⟩, ⟨_, rfl, rn_own rfl⟩, ⟨_, rfl, rn_id if_sli⟩, ⟨_, rfl, rn_own rfl⟩, ⟨_, rfl, rn_id if_sli⟩, trivial⟩)
    · intro s24
      refine sx ?_
      refine pnm ?_
      refine sseq ?_
      refine sseq ?_
      refine sreg ?_
      refine s1 (faO rfl fd_47_0 rfl rfl) ?_
      refine s1 (ldB [0] rfl (by exact rfl) sh_45 (by exact rfl) (by exact rfl) rfl rfl (.inl rfl)) ?_
      refine s1 (lenL (f := L_tape_Inst) Tryd.underlying45 rfl rfl) ?_
      refine s1 (subI rfl rfl (kI (x := 1) rfl)) ?_
      refine s1 (asg rfl rfl) ?_
      refine snil ?_
      refine pnm ?_
      refine sblk ?_
      refine sloopE 2 (fun t => t) (fun (s121 : (List Bool) × Int) => [(1, .own 100), (2, sli 1 (List.map bl ([] : List Bool))), (3, .own 101), (6, i64 s121.2)]) (fun (s121 : (List Bool) × Int) => [(100, .bx 47 (L_tape_Tape x0)), (101, .sl 4 1 (List.map bl s121.1))]) (fun (t119 : (List Bool)) => [(2, sli 1 (List.map bl ([] : List Bool))), (3, .own 101)]) (fun (t119 : (List Bool)) => [(101, .sl 4 1 (List.map bl t119))]) (entR [(100, 100), (101, 101)] rfl (keepS hγ trivial) ⟨⟨_, rfl⟩, ⟨_, rfl⟩, trivial⟩ ⟨⟨_, _, rfl, rfl, rci (rc_bx (rn_id if_L_tape_Tape))⟩, ⟨_, _, rfl, rfl, rci (rc_sl (ifs_map (f := bl) (fun _ => if_bl) s24))⟩, trivial⟩ ⟨⟨_, rfl, rn_own rfl⟩, ⟨_, rfl, rn_id if_sli⟩, ⟨_, rfl, rn_own rfl⟩, ⟨_, rfl, rn_id if_i64⟩, trivial⟩) ?_ ?_
      · intro hj120 s121
        refine sseq ?_
        refine sseq ?_
        refine sreg ?_
        refine s1 (mv rfl rfl) ?_
        refine s1 (geI rfl rfl (kI (x := 0) rfl)) ?_
        refine snil ?_
        refine pnm ?_
        refine scond rfl ?_ ?_
        · refine sskip ?_
          refine pnm ?_
          refine sjq (fun (s144 : (List Bool)) => [(1, .own 100), (2, sli 1 (List.map bl ([] : List Bool))), (3, .own 101), (6, i64 s121.2)]) (fun (s144 : (List Bool)) => [(100, .bx 47 (L_tape_Tape x0)), (101, .sl 4 1 (List.map bl s144))]) ?_ ?_
          · intro j142 hj143
            refine sblk ?_
            refine sseq ?_
            refine sseq ?_
            refine sreg ?_
            refine s1 (mv rfl rfl) ?_
            refine s1 (mv rfl rfl) ?_
            refine bd fun y145 h146 => ?_
            refine s1 (ixO (f := bl) rfl Tryd.underlying49 ti_4 h146 rfl rfl rfl) ?_
            refine s1 (ldO (f := bl) [] rfl (getI_ix h146) (by exact rfl) (by exact rfl) sh_4 (by exact rfl) (by exact rfl) rfl rfl) ?_
            refine s1 (notB rfl rfl) ?_
            refine snil ?_
            refine pnm ?_
            refine scond rfl ?_ ?_
            · refine sexit ?_
              refine ptx ?_
              refine sx ?_
              refine pnm ?_
              exact sj (hj143 _) (entR [(100, 100), (101, 101)] rfl (keepS hγ trivial) ⟨⟨_, rfl⟩, ⟨_, rfl⟩, trivial⟩ ⟨⟨_, _, rfl, rfl, rci (rc_bx (rn_id if_L_tape_Tape))⟩, ⟨_, _, rfl, rfl, rci (rc_sl (ifs_map (f := bl) (fun _ => if_bl) s121.1))⟩, trivial⟩ ⟨⟨_, rfl, rn_own rfl⟩, ⟨_, rfl, rn_id if_sli⟩, ⟨_, rfl, rn_own rfl⟩, ⟨_, rfl, rn_id if_i64⟩, trivial⟩)
            · refine sskip ?_
              refine pnm ?_
              refine sseq ?_
              refine sreg ?_
              refine s1 (faO rfl fd_47_0 rfl rfl) ?_
              refine s1 (ldB [0] rfl (by exact rfl) sh_45 (by exact rfl) (by exact rfl) rfl rfl (.inl rfl)) ?_
              refine s1 (mv rfl rfl) ?_
              refine bd fun y147 h148 => ?_
              refine s1 (ixR (f := L_tape_Inst) Tryd.underlying45 ti_59 h148 rfl rfl rfl) ?_
              refine s1 (ldR sh_59 (by exact rfl) (by exact rfl) rfl rfl) ?_
              refine bd fun r149 h150 => ?_
              refine s1 (call0 (c_tape_Reads _ h150) ⟨⟨_, rfl, rn_id if_L_tape_Inst⟩, trivial⟩ (if_sli) rfl) ?_
              refine s1 (lenL (f := i64) Tryd.underlying41 rfl rfl) ?_
              refine s1 (mv rfl (kI (x := 0) rfl)) ?_
              refine snil ?_
              refine pnm ?_
              refine sblk ?_
              refine srangeN (fun (s158 : (List Bool)) => [(1, .own 100), (2, sli 1 (List.map bl ([] : List Bool))), (3, .own 101), (6, i64 s121.2), (45, sli 1 (List.map i64 r149))]) (fun (s158 : (List Bool)) => [(100, .bx 47 (L_tape_Tape x0)), (101, .sl 4 1 (List.map bl s158))]) rfl (fun _ => rfl) (entR [(100, 100), (101, 101)] rfl (keepS hγ trivial) ⟨⟨_, rfl⟩, ⟨_, rfl⟩, trivial⟩ ⟨⟨_, _, rfl, rfl, rci (rc_bx (rn_id if_L_tape_Tape))⟩, ⟨_, _, rfl, rfl, rci (rc_sl (ifs_map (f := bl) (fun _ => if_bl) s121.1))⟩, trivial⟩ ⟨⟨_, rfl, rn_id if_i64⟩, ⟨_, rfl, rn_id if_i64⟩, ⟨_, rfl, rn_own rfl⟩, ⟨_, rfl, rn_id if_sli⟩, ⟨_, rfl, rn_own rfl⟩, ⟨_, rfl, rn_id if_i64⟩, ⟨_, rfl, rn_id if_sli⟩, trivial⟩) ?_ ?_
              · intro i159 x160 s158 hx161
                refine sblk ?_
                refine sseq ?_
                refine sreg ?_
                refine s1 (ixR (f := i64) Tryd.underlying41 ti_3 (getI_nat hx161) rfl rfl rfl) ?_
                refine s1 (ldR sh_3 (by exact rfl) (by exact rfl) rfl rfl) ?_
                refine s1 (asg rfl rfl) ?_
                refine snil ?_
                refine pnm ?_
                refine sreg ?_
                refine s1 (mv rfl rfl) ?_
                refine s1 (mv rfl rfl) ?_
                refine bd fun y162 h163 => ?_
                refine s1 (ixO (f := bl) rfl Tryd.underlying49 ti_4 h163 rfl rfl rfl) ?_
                refine so (stO (f := bl) true [] rfl (getI_ix h163) (by exact rfl) (by exact rfl) (by exact rfl) (by exact rfl) sh_4 (by exact rfl) (by exact rfl) (by exact rfl) rfl kB) ?_
                refine snil ?_
                refine pbn ?_
                exact sgo (entR [(100, 100), (101, 101)] rfl (keepS hγ trivial) ⟨⟨_, rfl⟩, ⟨_, rfl⟩, trivial⟩ ⟨⟨_, _, rfl, rfl, rci (rc_bx (rn_id if_L_tape_Tape))⟩, ⟨_, _, rfl, rfl, rci (rc_sl (ifs_map (f := bl) (fun _ => if_bl) (List.set s158 (Int.toNat x160) true)))⟩, trivial⟩ ⟨⟨_, rfl, rn_id if_i64⟩, ⟨_, rfl, rn_id if_i64⟩, ⟨_, rfl, rn_own rfl⟩, ⟨_, rfl, rn_id if_sli⟩, ⟨_, rfl, rn_own rfl⟩, ⟨_, rfl, rn_id if_i64⟩, ⟨_, rfl, rn_id if_sli⟩, trivial⟩)
              · intro s164
                refine sx ?_
                refine pbn ?_
                refine pnm ?_
                exact sj (hj143 _) (entR [(100, 100), (101, 101)] rfl (keepS hγ trivial) ⟨⟨_, rfl⟩, ⟨_, rfl⟩, trivial⟩ ⟨⟨_, _, rfl, rfl, rci (rc_bx (rn_id if_L_tape_Tape))⟩, ⟨_, _, rfl, rfl, rci (rc_sl (ifs_map (f := bl) (fun _ => if_bl) s164))⟩, trivial⟩ ⟨⟨_, rfl, rn_own rfl⟩, ⟨_, rfl, rn_id if_sli⟩, ⟨_, rfl, rn_own rfl⟩, ⟨_, rfl, rn_id if_i64⟩, trivial⟩)
          · intro s144
            refine sreg ?_
            refine s1 (mv rfl rfl) ?_
            refine s1 (subI rfl rfl (kI (x := 1) rfl)) ?_
            refine s1 (asg rfl rfl) ?_
            refine snil ?_
            exact sgo (entR [(100, 100), (101, 101)] rfl (keepS hγ trivial) ⟨⟨_, rfl⟩, ⟨_, rfl⟩, trivial⟩ ⟨⟨_, _, rfl, rfl, rci (rc_bx (rn_id if_L_tape_Tape))⟩, ⟨_, _, rfl, rfl, rci (rc_sl (ifs_map (f := bl) (fun _ => if_bl) s144))⟩, trivial⟩ ⟨⟨_, rfl, rn_own rfl⟩, ⟨_, rfl, rn_id if_sli⟩, ⟨_, rfl, rn_own rfl⟩, ⟨_, rfl, rn_id if_i64⟩, trivial⟩)
        · refine sexit ?_
          refine ptx ?_
          exact sout (fun h => by cases h) (sj (hj120 _) (entR [(101, 101)] rfl (keepS hγ trivial) ⟨⟨_, rfl⟩, trivial⟩ ⟨⟨_, _, rfl, rfl, rci (rc_sl (ifs_map (f := bl) (fun _ => if_bl) s121.1))⟩, trivial⟩ ⟨⟨_, rfl, rn_id if_sli⟩, ⟨_, rfl, rn_own rfl⟩, trivial⟩))
      · intro t119
        refine sx ?_
        refine pnm ?_
        refine sseq ?_
        refine sreg ?_
        refine s1 (mv rfl rfl) ?_
        refine s1 (asg rfl rfl) ?_
        refine snil ?_
        refine pnm ?_
        refine sret ?_
        refine frz (id := 101) [(2, sli 1 (List.map bl t119)), (3, sli 1 (List.map bl t119)), (55, sli 1 (List.map bl t119))] [] rfl (ifs_map (f := bl) (fun _ => if_bl) t119) ⟨⟨_, rfl, fz_own⟩, ⟨_, rfl, fz_own⟩, ⟨_, rfl, fz_own⟩, trivial⟩ trivial ?_
        exact ret [] [.tmp 2] [_] [_] .ret hγ (.inl rfl) rfl ⟨rfl, trivial⟩ rfl trivial trivial trivial (rns_cons (rn_id if_sli) (rns_nil)) rfl
theorem c_retrospectlaw24_TapeLive {n : Nat} {x0 : M_retrospectref24_Tape} : ∀ r, m_retrospectlaw24_TapeLive n x0 = some r → FnOk Tryd.prog 5 [L_retrospectref24_Tape x0] [] (bl r) [] := by
  unfold m_retrospectlaw24_TapeLive
  refine fn_of_sq (res := fun (r : Bool) => bl r) (mo := fun (r : Bool) => []) Tryd.func5 rfl rfl (by kernel_rfl) rfl ?_
  intro w S0 γ hγ
  refine sseq ?_
  refine sreg ?_
  refine so (box (y := 100) (by exact rfl) rfl rfl rfl) ?_
  refine s1 (asg rfl kB) ?_
  refine snil ?_
  refine pnm ?_
  refine sseq ?_
  refine sseq ?_
  refine sreg ?_
  refine s1 (ldB [] rfl rfl sh_43 (by exact rfl) (by exact rfl) rfl rfl (.inr ⟨rfl, rfl, _, _, rfl⟩)) ?_
  refine bd fun r1 h2 => ?_
  refine s1 (call0 (c_retrospectref24_Long _ h2) ⟨⟨_, rfl, rn_id if_L_retrospectref24_Tape⟩, ⟨_, (kI (x := 40) rfl), rn_id if_i64⟩, ⟨_, (kI (x := 4) rfl), rn_id if_i64⟩, trivial⟩ (if_bl) rfl) ?_
  refine snil ?_
  refine pnm ?_
  refine scond rfl ?_ ?_
  · refine sseq ?_
    refine sreg ?_
    refine bd fun r3 h4 => ?_
    refine s1 (call0 (c_retrospectlaw24_works _ h4) trivial (if_bl) rfl) ?_
    refine s1 (asg rfl rfl) ?_
    refine snil ?_
    refine pnm ?_
    refine sret ?_
    refine pth ?_
    exact ret [] [.tmp 2] [_] [_] .ret hγ (.inl rfl) rfl ⟨rfl, trivial⟩ rfl trivial trivial trivial (rns_cons (rn_id if_bl) (rns_nil)) rfl
  · refine sskip ?_
    refine pnm ?_
    refine sseq ?_
    refine sreg ?_
    refine s1 (ldB [] rfl rfl sh_43 (by exact rfl) (by exact rfl) rfl rfl (.inr ⟨rfl, rfl, _, _, rfl⟩)) ?_
    refine bd fun r5 h6 => ?_
    refine s1 (call0 (c_retrospectlaw24_To _ h6) ⟨⟨_, rfl, rn_id if_L_retrospectref24_Tape⟩, trivial⟩ (if_L_tape_Tape) rfl) ?_
    refine so (al (y := 101) (ly := L_tape_Tape (⟨[], [], 0, 0⟩ : M_tape_Tape)) ti_47 zr_tape_Tape rfl rfl) ?_
    refine so (stB2 (ly2 := L_tape_Tape r5) [] (by exact rfl) rfl (by exact rfl) sh_47 (by exact rfl) (by exact rfl) (by exact rfl) rfl (.inr ⟨rfl, rfl, _, _, rfl⟩) rfl) ?_
    refine snil ?_
    refine pnm ?_
    refine sseq ?_
    refine sreg ?_
    refine s1 (ldB [] rfl rfl sh_47 (by exact rfl) (by exact rfl) rfl rfl (.inr ⟨rfl, rfl, _, _, rfl⟩)) ?_
    refine bd fun r7 h8 => ?_
    refine s1 (call0 (c_tape_Live _ h8) ⟨⟨_, rfl, rn_id if_L_tape_Tape⟩, trivial⟩ (if_sli) rfl) ?_
    refine s1 (asg rfl rfl) ?_
    refine snil ?_
    refine pnm ?_
    refine sseq ?_
    refine sseq ?_
    refine sreg ?_
    refine s1 (ldB [] rfl rfl sh_47 (by exact rfl) (by exact rfl) rfl rfl (.inr ⟨rfl, rfl, _, _, rfl⟩)) ?_
    refine bd fun r9 h10 => ?_
    refine s1 (call0 (c_tape_Right _ h10) ⟨⟨_, rfl, rn_id if_L_tape_Tape⟩, trivial⟩ (if_bl) rfl) ?_
    refine s1 (notB rfl rfl) ?_
    refine snil ?_
    refine pnm ?_
    refine scond rfl ?_ ?_
    · refine sjq (fun (s15 : Bool) => [(2, bl s15), (3, .own 101), (4, sli 1 (List.map bl r7))]) (fun (s15 : Bool) => [(101, .bx 47 (L_tape_Tape r5))]) ?_ ?_
      · intro j13 hj14
        refine sreg ?_
        refine s1 (mv rfl rfl) ?_
        refine s1 (lenL (f := bl) Tryd.underlying49 rfl rfl) ?_
        refine s1 (eqI rfl rfl (kI (x := 0) rfl)) ?_
        refine s1 (mv rfl rfl) ?_
        refine sifd 22 rfl ?_ ?_
        · refine bd fun r16 h17 => ?_
          refine sg 22 rfl rfl (call0 (c_retrospectlaw24_works _ h17) trivial (if_bl) rfl) ?_
          refine s1 (pickT rfl rfl rfl) ?_
          refine s1 (asg rfl rfl) ?_
          refine snil ?_
          refine pnm ?_
          exact sj (hj14 _) (entR [(101, 101)] rfl (keepS hγ trivial) ⟨⟨_, rfl⟩, trivial⟩ ⟨⟨_, _, rfl, rfl, rci (rc_bx (rn_id if_L_tape_Tape))⟩, trivial⟩ ⟨⟨_, rfl, rn_id if_bl⟩, ⟨_, rfl, rn_own rfl⟩, ⟨_, rfl, rn_id if_sli⟩, trivial⟩)
        · refine spB 22 rfl rfl rfl ?_
          refine s1 (pickF rfl rfl kB) ?_
          refine s1 (asg rfl rfl) ?_
          refine snil ?_
          refine pnm ?_
          exact sj (hj14 _) (entR [(101, 101)] rfl (keepS hγ trivial) ⟨⟨_, rfl⟩, trivial⟩ ⟨⟨_, _, rfl, rfl, rci (rc_bx (rn_id if_L_tape_Tape))⟩, trivial⟩ ⟨⟨_, rfl, rn_id if_bl⟩, ⟨_, rfl, rn_own rfl⟩, ⟨_, rfl, rn_id if_sli⟩, trivial⟩)
      · intro s15
        refine sret ?_
        refine pth ?_
        exact ret [] [.tmp 2] [_] [_] .ret hγ (.inl rfl) rfl ⟨rfl, trivial⟩ rfl trivial trivial trivial (rns_cons (rn_id if_bl) (rns_nil)) rfl
    · refine sskip ?_
      refine pnm ?_
      refine sseq ?_
      refine sseq ?_
      refine sreg ?_
      refine s1 (mv rfl rfl) ?_
      refine s1 (lenL (f := bl) Tryd.underlying49 rfl rfl) ?_
      refine s1 (faO rfl fd_47_0 rfl rfl) ?_
      refine s1 (ldB [0] rfl (by exact rfl) sh_45 (by exact rfl) (by exact rfl) rfl rfl (.inl rfl)) ?_
      refine s1 (lenL (f := L_tape_Inst) Tryd.underlying45 rfl rfl) ?_
      refine s1 (neI rfl rfl rfl) ?_
      refine snil ?_
      refine pnm ?_
      refine scond rfl ?_ ?_
      · refine sseq ?_
        refine sreg ?_
        refine s1 (asg rfl kB) ?_
        refine snil ?_
        refine pnm ?_
        refine sret ?_
        refine pth ?_
        exact ret [] [.tmp 2] [_] [_] .ret hγ (.inl rfl) rfl ⟨rfl, trivial⟩ rfl trivial trivial trivial (rns_cons (rn_id if_bl) (rns_nil)) rfl
      · refine sskip ?_
        refine pnm ?_
        refine sseq ?_
        refine sseq ?_
        refine sreg ?_
        refine s1 (asg rfl (kI (x := 0) rfl)) ?_
        refine snil ?_
        refine pnm ?_
        refine sblk ?_
        refine sloopE 0 Lp.go (fun (s154 : Int) => [(2, bl false), (3, .own 101), (4, sli 1 (List.map bl r7)), (5, i64 s154)]) (fun (s154 : Int) => [(101, .bx 47 (L_tape_Tape r5))]) (fun (t152 : Unit) => [(2, bl false), (3, .own 101), (4, sli 1 (List.map bl r7))]) (fun (t152 : Unit) => [(101, .bx 47 (L_tape_Tape r5))]) (entR [(101, 101)] rfl (keepS hγ trivial) ⟨⟨_, rfl⟩, trivial⟩ ⟨⟨_, _, rfl, rfl, rci (rc_bx (rn_id if_L_tape_Tape))⟩, trivial⟩ ⟨⟨_, rfl, rn_id if_bl⟩, ⟨_, rfl, rn_own rfl⟩, ⟨_, rfl, rn_id if_sli⟩, ⟨_, rfl, rn_id if_i64⟩, trivial⟩) ?_ ?_
        · intro hj153 s154
          refine sseq ?_
          refine sseq ?_
          refine sreg ?_
          refine s1 (mv rfl rfl) ?_
          refine s1 (faO rfl fd_47_0 rfl rfl) ?_
          refine s1 (ldB [0] rfl (by exact rfl) sh_45 (by exact rfl) (by exact rfl) rfl rfl (.inl rfl)) ?_
          refine s1 (lenL (f := L_tape_Inst) Tryd.underlying45 rfl rfl) ?_
          refine s1 (ltI rfl rfl rfl) ?_
          refine snil ?_
          refine pnm ?_
          refine scond rfl ?_ ?_
          · refine sskip ?_
            refine pnm ?_
            refine sseq ?_
            refine sblk ?_
            refine sseq ?_
            refine sreg ?_
            refine s1 (faO rfl fd_47_0 rfl rfl) ?_
            refine s1 (ldB [0] rfl (by exact rfl) sh_45 (by exact rfl) (by exact rfl) rfl rfl (.inl rfl)) ?_
            refine s1 (mv rfl rfl) ?_
            refine bd fun y155 h156 => ?_
            refine s1 (ixR (f := L_tape_Inst) Tryd.underlying45 ti_59 h156 rfl rfl rfl) ?_
            refine s1 (ldR sh_59 (by exact rfl) (by exact rfl) rfl rfl) ?_
            refine bd fun r157 h158 => ?_
            refine s1 (call0 (c_tape_Reads _ h158) ⟨⟨_, rfl, rn_id if_L_tape_Inst⟩, trivial⟩ (if_sli) rfl) ?_
            refine s1 (asg rfl rfl) ?_
            refine snil ?_
            refine pnm ?_
            refine sseq ?_
            refine sreg ?_
            refine s1 (asg rfl (kI (x := 0) rfl)) ?_
            refine snil ?_
            refine pnm ?_
            refine sblk ?_
            refine sloopE 2 Lp.go (fun (s185 : Int) => [(2, bl false), (3, .own 101), (4, sli 1 (List.map bl r7)), (5, i64 s154), (6, sli 1 (List.map i64 r157)), (7, i64 s185)]) (fun (s185 : Int) => [(101, .bx 47 (L_tape_Tape r5))]) (fun (t183 : Unit) => [(2, bl false), (3, .own 101), (4, sli 1 (List.map bl r7)), (5, i64 s154)]) (fun (t183 : Unit) => [(101, .bx 47 (L_tape_Tape r5))]) (entR [(101, 101)] rfl (keepS hγ trivial) ⟨⟨_, rfl⟩, trivial⟩ ⟨⟨_, _, rfl, rfl, rci (rc_bx (rn_id if_L_tape_Tape))⟩, trivial⟩ ⟨⟨_, rfl, rn_id if_bl⟩, ⟨_, rfl, rn_own rfl⟩, ⟨_, rfl, rn_id if_sli⟩, ⟨_, rfl, rn_id if_i64⟩, ⟨_, rfl, rn_id if_sli⟩, ⟨_, rfl, rn_id if_i64⟩, trivial⟩) ?_ ?_
            · intro hj184 s185
              refine sseq ?_
              refine sseq ?_
              refine sreg ?_
              refine s1 (mv rfl rfl) ?_
              refine s1 (mv rfl rfl) ?_
              refine s1 (lenL (f := i64) Tryd.underlying41 rfl rfl) ?_
              refine s1 (ltI rfl rfl rfl) ?_
              refine snil ?_
              refine pnm ?_
              refine scond rfl ?_ ?_
              · refine sskip ?_
                refine pnm ?_
                refine sseq ?_
                refine sblk ?_
                refine sjq (fun (s198 : Bool) => [(2, bl false), (3, .own 101), (4, sli 1 (List.map bl r7)), (5, i64 s154), (6, sli 1 (List.map i64 r157)), (7, i64 s185), (78, bl s198)]) (fun (s198 : Bool) => [(101, .bx 47 (L_tape_Tape r5))]) ?_ ?_
                · intro j196 hj197
                  refine sreg ?_
                  refine s1 (mv rfl rfl) ?_
                  refine s1 (mv rfl rfl) ?_
                  refine bd fun y199 h200 => ?_
                  refine s1 (ixR (f := i64) Tryd.underlying41 ti_3 h200 rfl rfl rfl) ?_
                  refine s1 (ldR sh_3 (by exact rfl) (by exact rfl) rfl rfl) ?_
                  refine s1 (ltI rfl rfl (kI (x := 0) rfl)) ?_
                  refine s1 (mv rfl rfl) ?_
                  refine sifd 55 rfl ?_ ?_
                  · refine spB 55 rfl rfl rfl ?_
                    refine spB 55 rfl rfl rfl ?_
                    refine spB 55 rfl rfl rfl ?_
                    refine spB 55 rfl rfl rfl ?_
                    refine spB 55 rfl rfl rfl ?_
                    refine spB 55 rfl rfl rfl ?_
                    refine s1 (pickT rfl rfl kB) ?_
                    refine s1 (mv rfl rfl) ?_
                    refine spB 63 rfl rfl rfl ?_
                    refine spB 63 rfl rfl rfl ?_
                    refine spB 63 rfl rfl rfl ?_
                    refine spB 63 rfl rfl rfl ?_
                    refine spB 63 rfl rfl rfl ?_
                    refine spU 68 rfl rfl rfl ?_
                    refine spU 68 rfl rfl rfl ?_
                    refine spU 68 rfl rfl rfl ?_
                    refine spU 68 rfl rfl rfl ?_
                    refine spU 68 rfl rfl rfl ?_
                    refine spU 68 rfl rfl rfl ?_
                    refine spU 68 rfl rfl rfl ?_
                    refine spU 68 rfl rfl rfl ?_
                    refine spB 63 rfl rfl rfl ?_
                    refine s1 (pickT rfl rfl kB) ?_
                    refine snil ?_
                    refine pnm ?_
                    exact sj (hj197 _) (entR [(101, 101)] rfl (keepS hγ trivial) ⟨⟨_, rfl⟩, trivial⟩ ⟨⟨_, _, rfl, rfl, rci (rc_bx (rn_id if_L_tape_Tape))⟩, trivial⟩ ⟨⟨_, rfl, rn_id if_bl⟩, ⟨_, rfl, rn_own rfl⟩, ⟨_, rfl, rn_id if_sli⟩, ⟨_, rfl, rn_id if_i64⟩, ⟨_, rfl, rn_id if_sli⟩, ⟨_, rfl, rn_id if_i64⟩, ⟨_, rfl, rn_id if_bl⟩, trivial⟩)
                  · refine sg 55 rfl rfl (mv rfl rfl) ?_
                    refine sg 55 rfl rfl (mv rfl rfl) ?_
                    refine bd fun y201 h202 => ?_
                    refine sg 55 rfl rfl (ixR (f := i64) Tryd.underlying41 ti_3 h202 rfl rfl rfl) ?_
                    refine sg 55 rfl rfl (ldR sh_3 (by exact rfl) (by exact rfl) rfl rfl) ?_
                    refine sg 55 rfl rfl (mv rfl rfl) ?_
                    refine sg 55 rfl rfl (geI rfl rfl rfl) ?_
                    refine s1 (pickF rfl rfl rfl) ?_
                    refine s1 (mv rfl rfl) ?_
                    refine sifd 63 rfl ?_ ?_
                    · refine spB 63 rfl rfl rfl ?_
                      refine spB 63 rfl rfl rfl ?_
                      refine spB 63 rfl rfl rfl ?_
                      refine spB 63 rfl rfl rfl ?_
                      refine spB 63 rfl rfl rfl ?_
                      refine spU 68 rfl rfl rfl ?_
                      refine spU 68 rfl rfl rfl ?_
                      refine spU 68 rfl rfl rfl ?_
                      refine spU 68 rfl rfl rfl ?_
                      refine spU 68 rfl rfl rfl ?_
                      refine spU 68 rfl rfl rfl ?_
                      refine spU 68 rfl rfl rfl ?_
                      refine spU 68 rfl rfl rfl ?_
                      refine spB 63 rfl rfl rfl ?_
                      refine s1 (pickT rfl rfl kB) ?_
                      refine snil ?_
                      refine pnm ?_
                      exact sj (hj197 _) (entR [(101, 101)] rfl (keepS hγ trivial) ⟨⟨_, rfl⟩, trivial⟩ ⟨⟨_, _, rfl, rfl, rci (rc_bx (rn_id if_L_tape_Tape))⟩, trivial⟩ ⟨⟨_, rfl, rn_id if_bl⟩, ⟨_, rfl, rn_own rfl⟩, ⟨_, rfl, rn_id if_sli⟩, ⟨_, rfl, rn_id if_i64⟩, ⟨_, rfl, rn_id if_sli⟩, ⟨_, rfl, rn_id if_i64⟩, ⟨_, rfl, rn_id if_bl⟩, trivial⟩)
                    · refine sg 63 rfl rfl (mv rfl rfl) ?_
                      refine sg 63 rfl rfl (mv rfl rfl) ?_
                      refine bd fun y203 h204 => ?_
                      refine sg 63 rfl rfl (ixR (f := bl) Tryd.underlying49 ti_4 h204 rfl rfl rfl) ?_
                      refine sg 63 rfl rfl (ldR sh_4 (by exact rfl) (by exact rfl) rfl rfl) ?_
                      refine sg 63 rfl rfl (mv rfl rfl) ?_
                      refine sifd 68 rfl ?_ ?_
                      · refine sg 68 rfl rfl (mv rfl rfl) ?_
                        refine sg 68 rfl rfl (mv rfl rfl) ?_
                        refine sg 68 rfl rfl (mv rfl rfl) ?_
                        refine bd fun y205 h206 => ?_
                        refine sg 68 rfl rfl (ixR (f := i64) Tryd.underlying41 ti_3 h206 rfl rfl rfl) ?_
                        refine sg 68 rfl rfl (ldR sh_3 (by exact rfl) (by exact rfl) rfl rfl) ?_
                        refine bd fun y207 h208 => ?_
                        refine sg 68 rfl rfl (ixR (f := bl) Tryd.underlying49 ti_4 h208 rfl rfl rfl) ?_
                        refine sg 68 rfl rfl (ldR sh_4 (by exact rfl) (by exact rfl) rfl rfl) ?_
                        refine sg 68 rfl rfl (notB rfl rfl) ?_
                        refine sg 63 rfl rfl (pickT rfl rfl rfl) ?_
                        refine s1 (pickF rfl rfl rfl) ?_
                        refine snil ?_
                        refine pnm ?_
                        exact sj (hj197 _) (entR [(101, 101)] rfl (keepS hγ trivial) ⟨⟨_, rfl⟩, trivial⟩ ⟨⟨_, _, rfl, rfl, rci (rc_bx (rn_id if_L_tape_Tape))⟩, trivial⟩ ⟨⟨_, rfl, rn_id if_bl⟩, ⟨_, rfl, rn_own rfl⟩, ⟨_, rfl, rn_id if_sli⟩, ⟨_, rfl, rn_id if_i64⟩, ⟨_, rfl, rn_id if_sli⟩, ⟨_, rfl, rn_id if_i64⟩, ⟨_, rfl, rn_id if_bl⟩, trivial⟩)
                      · refine spB 68 rfl rfl rfl ?_
                        refine spB 68 rfl rfl rfl ?_
                        refine spB 68 rfl rfl rfl ?_
                        refine spB 68 rfl rfl rfl ?_
                        refine spB 68 rfl rfl rfl ?_
                        refine spB 68 rfl rfl rfl ?_
                        refine spB 68 rfl rfl rfl ?_
                        refine spB 68 rfl rfl rfl ?_
                        refine sg 63 rfl rfl (pickF rfl rfl kB) ?_
                        refine s1 (pickF rfl rfl rfl) ?_
                        refine snil ?_
                        refine pnm ?_
                        exact sj (hj197 _) (entR [(101, 101)] rfl (keepS hγ trivial) ⟨⟨_, rfl⟩, trivial⟩ ⟨⟨_, _, rfl, rfl, rci (rc_bx (rn_id if_L_tape_Tape))⟩, trivial⟩ ⟨⟨_, rfl, rn_id if_bl⟩, ⟨_, rfl, rn_own rfl⟩, ⟨_, rfl, rn_id if_sli⟩, ⟨_, rfl, rn_id if_i64⟩, ⟨_, rfl, rn_id if_sli⟩, ⟨_, rfl, rn_id if_i64⟩, ⟨_, rfl, rn_id if_bl⟩, trivial⟩)
                · intro s198
                  refine scond rfl ?_ ?_
                  · refine sseq ?_
                    refine sreg ?_
                    refine s1 (asg rfl kB) ?_
                    refine snil ?_
                    refine pnm ?_
                    refine sret ?_
                    refine pbl ?_
                    refine pth ?_
                    refine sout (fun h => by cases h) ?_
                    refine pbl ?_
                    refine pbl ?_
                    refine pth ?_
                    refine sout (fun h => by cases h) ?_
                    refine pbl ?_
                    refine pth ?_
                    exact ret [] [.tmp 2] [_] [_] .ret hγ (.inl rfl) rfl ⟨rfl, trivial⟩ rfl trivial trivial trivial (rns_cons (rn_id if_bl) (rns_nil)) rfl
                  · refine sskip ?_
                    refine pbn ?_
                    refine pnm ?_
                    refine sreg ?_
                    refine s1 (mv rfl rfl) ?_
                    refine s1 (addI rfl rfl (kI (x := 1) rfl)) ?_
                    refine s1 (asg rfl rfl) ?_
                    refine snil ?_
                    exact sgo (entR [(101, 101)] rfl (keepS hγ trivial) ⟨⟨_, rfl⟩, trivial⟩ ⟨⟨_, _, rfl, rfl, rci (rc_bx (rn_id if_L_tape_Tape))⟩, trivial⟩ ⟨⟨_, rfl, rn_id if_bl⟩, ⟨_, rfl, rn_own rfl⟩, ⟨_, rfl, rn_id if_sli⟩, ⟨_, rfl, rn_id if_i64⟩, ⟨_, rfl, rn_id if_sli⟩, ⟨_, rfl, rn_id if_i64⟩, trivial⟩)
              · refine sexit ?_
                refine ptx ?_
                exact sout (fun h => by cases h) (sj (hj184 _) (entR [(101, 101)] rfl (keepS hγ trivial) ⟨⟨_, rfl⟩, trivial⟩ ⟨⟨_, _, rfl, rfl, rci (rc_bx (rn_id if_L_tape_Tape))⟩, trivial⟩ ⟨⟨_, rfl, rn_id if_bl⟩, ⟨_, rfl, rn_own rfl⟩, ⟨_, rfl, rn_id if_sli⟩, ⟨_, rfl, rn_id if_i64⟩, trivial⟩))
            · intro t183
              refine slpk ?_
              refine sx ?_
              refine pbn ?_
              refine pnm ?_
              refine sreg ?_
              refine s1 (mv rfl rfl) ?_
              refine s1 (addI rfl rfl (kI (x := 1) rfl)) ?_
              refine s1 (asg rfl rfl) ?_
              refine snil ?_
              exact sgo (entR [(101, 101)] rfl (keepS hγ trivial) ⟨⟨_, rfl⟩, trivial⟩ ⟨⟨_, _, rfl, rfl, rci (rc_bx (rn_id if_L_tape_Tape))⟩, trivial⟩ ⟨⟨_, rfl, rn_id if_bl⟩, ⟨_, rfl, rn_own rfl⟩, ⟨_, rfl, rn_id if_sli⟩, ⟨_, rfl, rn_id if_i64⟩, trivial⟩)
          · refine sexit ?_
            refine ptx ?_
            exact sout (fun h => by cases h) (sj (hj153 _) (entR [(101, 101)] rfl (keepS hγ trivial) ⟨⟨_, rfl⟩, trivial⟩ ⟨⟨_, _, rfl, rfl, rci (rc_bx (rn_id if_L_tape_Tape))⟩, trivial⟩ ⟨⟨_, rfl, rn_id if_bl⟩, ⟨_, rfl, rn_own rfl⟩, ⟨_, rfl, rn_id if_sli⟩, trivial⟩))
        · intro t152
          refine slpk ?_
          refine sx ?_
          refine pnm ?_
          refine sseq ?_
          refine sseq ?_
          refine sreg ?_
          refine s1 (asg rfl (kI (x := 0) rfl)) ?_
          refine snil ?_
          refine pnm ?_
          refine sblk ?_
          refine sloopE 4 Lp.go (fun (s251 : Int) => [(2, bl false), (3, .own 101), (4, sli 1 (List.map bl r7)), (8, i64 s251)]) (fun (s251 : Int) => [(101, .bx 47 (L_tape_Tape r5))]) (fun (t249 : Unit) => [(2, bl false)]) (fun (t249 : Unit) => []) (entR [(101, 101)] rfl (keepS hγ trivial) ⟨⟨_, rfl⟩, trivial⟩ ⟨⟨_, _, rfl, rfl, rci (rc_bx (rn_id if_L_tape_Tape))⟩, trivial⟩ ⟨⟨_, rfl, rn_id if_bl⟩, ⟨_, rfl, rn_own rfl⟩, ⟨_, rfl, rn_id if_sli⟩, ⟨_, rfl, rn_id if_i64⟩, trivial⟩) ?_ ?_
          · intro hj250 s251
            refine sseq ?_
            refine sseq ?_
            refine sreg ?_
            refine s1 (mv rfl rfl) ?_
            refine s1 (faO rfl fd_47_1 rfl rfl) ?_
            refine s1 (ldB [1] rfl (by exact rfl) sh_41 (by exact rfl) (by exact rfl) rfl rfl (.inl rfl)) ?_
            refine s1 (lenL (f := i64) Tryd.underlying41 rfl rfl) ?_
            refine s1 (ltI rfl rfl rfl) ?_
            refine snil ?_
            refine pnm ?_
            refine scond rfl ?_ ?_
            · refine sskip ?_
              refine pnm ?_
              refine sseq ?_
              refine sblk ?_
              refine sjq (fun (s262 : Bool) => [(2, bl false), (3, .own 101), (4, sli 1 (List.map bl r7)), (8, i64 s251), (112, bl s262)]) (fun (s262 : Bool) => [(101, .bx 47 (L_tape_Tape r5))]) ?_ ?_
              · intro j260 hj261
                refine sreg ?_
                refine s1 (faO rfl fd_47_1 rfl rfl) ?_
                refine s1 (ldB [1] rfl (by exact rfl) sh_41 (by exact rfl) (by exact rfl) rfl rfl (.inl rfl)) ?_
                refine s1 (mv rfl rfl) ?_
                refine bd fun y263 h264 => ?_
                refine s1 (ixR (f := i64) Tryd.underlying41 ti_3 h264 rfl rfl rfl) ?_
                refine s1 (ldR sh_3 (by exact rfl) (by exact rfl) rfl rfl) ?_
                refine s1 (ltI rfl rfl (kI (x := 0) rfl)) ?_
                refine s1 (mv rfl rfl) ?_
                refine sifd 92 rfl ?_ ?_
                · refine spB 92 rfl rfl rfl ?_
                  refine spB 92 rfl rfl rfl ?_
                  refine spB 92 rfl rfl rfl ?_
                  refine spB 92 rfl rfl rfl ?_
                  refine spB 92 rfl rfl rfl ?_
                  refine spB 92 rfl rfl rfl ?_
                  refine spB 92 rfl rfl rfl ?_
                  refine spB 92 rfl rfl rfl ?_
                  refine s1 (pickT rfl rfl kB) ?_
                  refine s1 (mv rfl rfl) ?_
                  refine spB 102 rfl rfl rfl ?_
                  refine spB 102 rfl rfl rfl ?_
                  refine spB 102 rfl rfl rfl ?_
                  refine spB 102 rfl rfl rfl ?_
                  refine spB 102 rfl rfl rfl ?_
                  refine spB 102 rfl rfl rfl ?_
                  refine spB 102 rfl rfl rfl ?_
                  refine spB 102 rfl rfl rfl ?_
                  refine spB 102 rfl rfl rfl ?_
                  refine s1 (pickT rfl rfl kB) ?_
                  refine snil ?_
                  refine pnm ?_
                  exact sj (hj261 _) (entR [(101, 101)] rfl (keepS hγ trivial) ⟨⟨_, rfl⟩, trivial⟩ ⟨⟨_, _, rfl, rfl, rci (rc_bx (rn_id if_L_tape_Tape))⟩, trivial⟩ ⟨⟨_, rfl, rn_id if_bl⟩, ⟨_, rfl, rn_own rfl⟩, ⟨_, rfl, rn_id if_sli⟩, ⟨_, rfl, rn_id if_i64⟩, ⟨_, rfl, rn_id if_bl⟩, trivial⟩)
                · refine sg 92 rfl rfl (faO rfl fd_47_1 rfl rfl) ?_
                  refine sg 92 rfl rfl (ldB [1] rfl (by exact rfl) sh_41 (by exact rfl) (by exact rfl) rfl rfl (.inl rfl)) ?_
                  refine sg 92 rfl rfl (mv rfl rfl) ?_
                  refine bd fun y265 h266 => ?_
                  refine sg 92 rfl rfl (ixR (f := i64) Tryd.underlying41 ti_3 h266 rfl rfl rfl) ?_
                  refine sg 92 rfl rfl (ldR sh_3 (by exact rfl) (by exact rfl) rfl rfl) ?_
                  refine sg 92 rfl rfl (mv rfl rfl) ?_
                  refine sg 92 rfl rfl (lenL (f := bl) Tryd.underlying49 rfl rfl) ?_
                  refine sg 92 rfl rfl (geI rfl rfl rfl) ?_
                  refine s1 (pickF rfl rfl rfl) ?_
                  refine s1 (mv rfl rfl) ?_
                  refine sifd 102 rfl ?_ ?_
                  · refine spB 102 rfl rfl rfl ?_
                    refine spB 102 rfl rfl rfl ?_
                    refine spB 102 rfl rfl rfl ?_
                    refine spB 102 rfl rfl rfl ?_
                    refine spB 102 rfl rfl rfl ?_
                    refine spB 102 rfl rfl rfl ?_
                    refine spB 102 rfl rfl rfl ?_
                    refine spB 102 rfl rfl rfl ?_
                    refine spB 102 rfl rfl rfl ?_
                    refine s1 (pickT rfl rfl kB) ?_
                    refine snil ?_
                    refine pnm ?_
                    exact sj (hj261 _) (entR [(101, 101)] rfl (keepS hγ trivial) ⟨⟨_, rfl⟩, trivial⟩ ⟨⟨_, _, rfl, rfl, rci (rc_bx (rn_id if_L_tape_Tape))⟩, trivial⟩ ⟨⟨_, rfl, rn_id if_bl⟩, ⟨_, rfl, rn_own rfl⟩, ⟨_, rfl, rn_id if_sli⟩, ⟨_, rfl, rn_id if_i64⟩, ⟨_, rfl, rn_id if_bl⟩, trivial⟩)
                  · refine sg 102 rfl rfl (mv rfl rfl) ?_
                    refine sg 102 rfl rfl (faO rfl fd_47_1 rfl rfl) ?_
                    refine sg 102 rfl rfl (ldB [1] rfl (by exact rfl) sh_41 (by exact rfl) (by exact rfl) rfl rfl (.inl rfl)) ?_
                    refine sg 102 rfl rfl (mv rfl rfl) ?_
                    refine bd fun y267 h268 => ?_
                    refine sg 102 rfl rfl (ixR (f := i64) Tryd.underlying41 ti_3 h268 rfl rfl rfl) ?_
                    refine sg 102 rfl rfl (ldR sh_3 (by exact rfl) (by exact rfl) rfl rfl) ?_
                    refine bd fun y269 h270 => ?_
                    refine sg 102 rfl rfl (ixR (f := bl) Tryd.underlying49 ti_4 h270 rfl rfl rfl) ?_
                    refine sg 102 rfl rfl (ldR sh_4 (by exact rfl) (by exact rfl) rfl rfl) ?_
                    refine sg 102 rfl rfl (notB rfl rfl) ?_
                    refine s1 (pickF rfl rfl rfl) ?_
                    refine snil ?_
                    refine pnm ?_
                    exact sj (hj261 _) (entR [(101, 101)] rfl (keepS hγ trivial) ⟨⟨_, rfl⟩, trivial⟩ ⟨⟨_, _, rfl, rfl, rci (rc_bx (rn_id if_L_tape_Tape))⟩, trivial⟩ ⟨⟨_, rfl, rn_id if_bl⟩, ⟨_, rfl, rn_own rfl⟩, ⟨_, rfl, rn_id if_sli⟩, ⟨_, rfl, rn_id if_i64⟩, ⟨_, rfl, rn_id if_bl⟩, trivial⟩)
              · intro s262
                refine scond rfl ?_ ?_
                · refine sseq ?_
                  refine sreg ?_
                  refine s1 (asg rfl kB) ?_
                  refine snil ?_
                  refine pnm ?_
                  refine sret ?_
                  refine pbl ?_
                  refine pth ?_
                  refine sout (fun h => by cases h) ?_
                  refine pbl ?_
                  refine pth ?_
                  exact ret [] [.tmp 2] [_] [_] .ret hγ (.inl rfl) rfl ⟨rfl, trivial⟩ rfl trivial trivial trivial (rns_cons (rn_id if_bl) (rns_nil)) rfl
                · refine sskip ?_
                  refine pbn ?_
                  refine pnm ?_
                  refine sreg ?_
                  refine s1 (mv rfl rfl) ?_
                  refine s1 (addI rfl rfl (kI (x := 1) rfl)) ?_
                  refine s1 (asg rfl rfl) ?_
                  refine snil ?_
                  exact sgo (entR [(101, 101)] rfl (keepS hγ trivial) ⟨⟨_, rfl⟩, trivial⟩ ⟨⟨_, _, rfl, rfl, rci (rc_bx (rn_id if_L_tape_Tape))⟩, trivial⟩ ⟨⟨_, rfl, rn_id if_bl⟩, ⟨_, rfl, rn_own rfl⟩, ⟨_, rfl, rn_id if_sli⟩, ⟨_, rfl, rn_id if_i64⟩, trivial⟩)
            · refine sexit ?_
              refine ptx ?_
              exact sout (fun h => by cases h) (sj (hj250 _) (entR [] rfl (keepS hγ trivial) (by exact trivial) (by exact trivial) ⟨⟨_, rfl, rn_id if_bl⟩, trivial⟩))
          · intro t249
            refine slpk ?_
            refine sx ?_
            refine pnm ?_
            refine sseq ?_
            refine sreg ?_
            refine bd fun r271 h272 => ?_
            refine s1 (call0 (c_retrospectlaw24_works _ h272) trivial (if_bl) rfl) ?_
            refine s1 (asg rfl rfl) ?_
            refine snil ?_
            refine pnm ?_
            refine sret ?_
            exact ret [] [.tmp 2] [_] [_] .ret hγ (.inl rfl) rfl ⟨rfl, trivial⟩ rfl trivial trivial trivial (rns_cons (rn_id if_bl) (rns_nil)) rfl
end Go.Proofs.YtiobbiamnjapgaaDoor
