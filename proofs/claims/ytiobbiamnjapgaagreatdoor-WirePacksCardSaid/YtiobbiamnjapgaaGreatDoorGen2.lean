import Derived.Test.YtiobbiamnjapgaaGreatDoorGen1
set_option maxRecDepth 100000
set_option maxHeartbeats 4000000
namespace Go.Proofs.YtiobbiamnjapgaaGreatDoor
open Go Go.RowKit
theorem c_retrospectref16_Scan {n : Nat} {x0 : (List UInt8)} : ∀ r, m_retrospectref16_Scan n x0 = some r → FnOk Tryz.prog 49 [str x0] [] (.tup [sli 3 (List.map L_retrospectref16_Word r.1), i64 r.2]) [] := by
  unfold m_retrospectref16_Scan
  refine fn_of_sq (res := fun (r : (List M_retrospectref16_Word) × Int) => .tup [sli 3 (List.map L_retrospectref16_Word r.1), i64 r.2]) (mo := fun (r : (List M_retrospectref16_Word) × Int) => []) Tryz.func49 rfl rfl (by kernel_rfl) rfl ?_
  intro w S0 γ hγ
  refine sseq ?_
  refine sreg ?_
  refine s1 (asg rfl (kLm (k := 3) L_retrospectref16_Word)) ?_
  refine s1 (asg rfl (kI (x := 0) rfl)) ?_
  refine snil ?_
  refine pnm ?_
  refine sseq ?_
  refine sseq ?_
  refine sreg ?_
  refine s1 (mv rfl rfl) ?_
  refine s1 (lenS Tryz.underlying9 rfl rfl) ?_
  refine s1 (gtI rfl rfl (kI (x := 4000) rfl)) ?_
  refine snil ?_
  refine pnm ?_
  refine scond rfl ?_ ?_
  · refine sseq ?_
    refine sreg ?_
    refine so (bsl (y := 100) (ls := List.map L_retrospectref16_Word ([] : List M_retrospectref16_Word)) Tryz.underlying100 ti_81 rfl rfl rfl rfl rfl trivial rfl rfl) ?_
    refine s1 (asg rfl rfl) ?_
    refine s1 (asg rfl (kI (x := 4000) rfl)) ?_
    refine snil ?_
    refine pnm ?_
    refine sret ?_
    refine pth ?_
    refine frz (id := 100) [(2, sli 3 (List.map L_retrospectref16_Word ([] : List M_retrospectref16_Word))), (13, sli 3 (List.map L_retrospectref16_Word ([] : List M_retrospectref16_Word)))] [] rfl (ifs_map (f := L_retrospectref16_Word) (fun _ => if_L_retrospectref16_Word) ([] : List M_retrospectref16_Word)) ⟨⟨_, rfl, fz_own⟩, ⟨_, rfl, fz_own⟩, trivial⟩ trivial ?_
    exact ret [] [.tmp 2, .tmp 3] [_, _] [_, _] .ret hγ (.inl rfl) rfl ⟨rfl, rfl, trivial⟩ rfl trivial trivial trivial (rns_cons (rn_id if_sli) (rns_cons (rn_id if_i64) (rns_nil))) rfl
  · refine sskip ?_
    refine pnm ?_
    refine sseq ?_
    refine sreg ?_
    refine so (asgN (y := 100) (E := 81) (k := 3) rfl rfl) ?_
    refine snil ?_
    refine pnm ?_
    refine sseq ?_
    refine sreg ?_
    refine s1 (asg rfl kB) ?_
    refine snil ?_
    refine pnm ?_
    refine sseq ?_
    refine sseq ?_
    refine sreg ?_
    refine s1 (asg rfl (kI (x := 0) rfl)) ?_
    refine snil ?_
    refine pnm ?_
    refine sblk ?_
    refine sloopE 0 Lp.go (fun (s407 : (List M_retrospectref16_Word) × Bool × Int) => [(0, str x0), (2, sli 3 (List.map L_retrospectref16_Word ([] : List M_retrospectref16_Word))), (3, i64 (0 : Int)), (4, .own 100), (5, bl s407.2.1), (6, i64 s407.2.2)]) (fun (s407 : (List M_retrospectref16_Word) × Bool × Int) => [(100, .sl 81 3 (List.map L_retrospectref16_Word s407.1))]) (fun (t405 : (List M_retrospectref16_Word)) => [(2, sli 3 (List.map L_retrospectref16_Word ([] : List M_retrospectref16_Word))), (3, i64 (0 : Int)), (4, .own 100)]) (fun (t405 : (List M_retrospectref16_Word)) => [(100, .sl 81 3 (List.map L_retrospectref16_Word t405))]) (entR [(100, 100)] rfl (keepS hγ trivial) ⟨⟨_, rfl⟩, trivial⟩ ⟨⟨_, _, rfl, rfl, rci (rc_sl (ifs_map (f := L_retrospectref16_Word) (fun _ => if_L_retrospectref16_Word) ([] : List M_retrospectref16_Word)))⟩, trivial⟩ ⟨⟨_, rfl, rn_id if_str⟩, ⟨_, rfl, rn_id if_sli⟩, ⟨_, rfl, rn_id if_i64⟩, ⟨_, rfl, rn_own rfl⟩, ⟨_, rfl, rn_id if_bl⟩, ⟨_, rfl, rn_id if_i64⟩, trivial⟩) ?_ ?_
    · intro hj406 s407
      refine sseq ?_
      refine sseq ?_
      refine sreg ?_
      refine s1 (mv rfl rfl) ?_
      refine s1 (mv rfl rfl) ?_
      refine s1 (lenS Tryz.underlying9 rfl rfl) ?_
      refine s1 (ltI rfl rfl rfl) ?_
      refine snil ?_
      refine pnm ?_
      refine scond rfl ?_ ?_
      · refine sskip ?_
        refine pnm ?_
        refine sjq (fun (s509 : (List M_retrospectref16_Word) × Bool) => [(0, str x0), (2, sli 3 (List.map L_retrospectref16_Word ([] : List M_retrospectref16_Word))), (3, i64 (0 : Int)), (4, .own 100), (5, bl s509.2), (6, i64 s407.2.2)]) (fun (s509 : (List M_retrospectref16_Word) × Bool) => [(100, .sl 81 3 (List.map L_retrospectref16_Word s509.1))]) ?_ ?_
        · intro j507 hj508
          refine sblk ?_
          refine sseq ?_
          refine sreg ?_
          refine s1 (mv rfl rfl) ?_
          refine s1 (mv rfl rfl) ?_
          refine bd fun y510 h511 => ?_
          refine s1 (ixS Tryz.underlying9 h511 rfl rfl rfl) ?_
          refine s1 (asg rfl rfl) ?_
          refine snil ?_
          refine pnm ?_
          refine sjq (fun (s514 : Bool) => [(0, str x0), (2, sli 3 (List.map L_retrospectref16_Word ([] : List M_retrospectref16_Word))), (3, i64 (0 : Int)), (4, .own 100), (5, bl s514), (6, i64 s407.2.2), (7, u8 y510)]) (fun (s514 : Bool) => [(100, .sl 81 3 (List.map L_retrospectref16_Word s407.1))]) ?_ ?_
          · intro j512 hj513
            refine sseq ?_
            refine sreg ?_
            refine s1 (mv rfl rfl) ?_
            refine s1 (eqU .u8 rfl rfl (k8 (x := 10) rfl)) ?_
            refine snil ?_
            refine pnm ?_
            refine scond rfl ?_ ?_
            · refine sreg ?_
              refine s1 (asg rfl kB) ?_
              refine snil ?_
              refine pnm ?_
              exact sj (hj513 _) (entR [(100, 100)] rfl (keepS hγ trivial) ⟨⟨_, rfl⟩, trivial⟩ ⟨⟨_, _, rfl, rfl, rci (rc_sl (ifs_map (f := L_retrospectref16_Word) (fun _ => if_L_retrospectref16_Word) s407.1))⟩, trivial⟩ ⟨⟨_, rfl, rn_id if_str⟩, ⟨_, rfl, rn_id if_sli⟩, ⟨_, rfl, rn_id if_i64⟩, ⟨_, rfl, rn_own rfl⟩, ⟨_, rfl, rn_id if_bl⟩, ⟨_, rfl, rn_id if_i64⟩, ⟨_, rfl, rn_id if_u8⟩, trivial⟩)
            · refine sskip ?_
              refine pnm ?_
              exact sj (hj513 _) (entR [(100, 100)] rfl (keepS hγ trivial) ⟨⟨_, rfl⟩, trivial⟩ ⟨⟨_, _, rfl, rfl, rci (rc_sl (ifs_map (f := L_retrospectref16_Word) (fun _ => if_L_retrospectref16_Word) s407.1))⟩, trivial⟩ ⟨⟨_, rfl, rn_id if_str⟩, ⟨_, rfl, rn_id if_sli⟩, ⟨_, rfl, rn_id if_i64⟩, ⟨_, rfl, rn_own rfl⟩, ⟨_, rfl, rn_id if_bl⟩, ⟨_, rfl, rn_id if_i64⟩, ⟨_, rfl, rn_id if_u8⟩, trivial⟩)
          · intro s514
            refine sjq (fun (s517 : Bool) => [(0, str x0), (2, sli 3 (List.map L_retrospectref16_Word ([] : List M_retrospectref16_Word))), (3, i64 (0 : Int)), (4, .own 100), (5, bl s517), (6, i64 s407.2.2), (7, u8 y510)]) (fun (s517 : Bool) => [(100, .sl 81 3 (List.map L_retrospectref16_Word s407.1))]) ?_ ?_
            · intro j515 hj516
              refine sseq ?_
              refine sreg ?_
              refine s1 (mv rfl rfl) ?_
              refine s1 (eqU .u8 rfl rfl (k8 (x := 35) rfl)) ?_
              refine snil ?_
              refine pnm ?_
              refine scond rfl ?_ ?_
              · refine sreg ?_
                refine s1 (asg rfl kB) ?_
                refine snil ?_
                refine pnm ?_
                exact sj (hj516 _) (entR [(100, 100)] rfl (keepS hγ trivial) ⟨⟨_, rfl⟩, trivial⟩ ⟨⟨_, _, rfl, rfl, rci (rc_sl (ifs_map (f := L_retrospectref16_Word) (fun _ => if_L_retrospectref16_Word) s407.1))⟩, trivial⟩ ⟨⟨_, rfl, rn_id if_str⟩, ⟨_, rfl, rn_id if_sli⟩, ⟨_, rfl, rn_id if_i64⟩, ⟨_, rfl, rn_own rfl⟩, ⟨_, rfl, rn_id if_bl⟩, ⟨_, rfl, rn_id if_i64⟩, ⟨_, rfl, rn_id if_u8⟩, trivial⟩)
              · refine sskip ?_
                refine pnm ?_
                exact sj (hj516 _) (entR [(100, 100)] rfl (keepS hγ trivial) ⟨⟨_, rfl⟩, trivial⟩ ⟨⟨_, _, rfl, rfl, rci (rc_sl (ifs_map (f := L_retrospectref16_Word) (fun _ => if_L_retrospectref16_Word) s407.1))⟩, trivial⟩ ⟨⟨_, rfl, rn_id if_str⟩, ⟨_, rfl, rn_id if_sli⟩, ⟨_, rfl, rn_id if_i64⟩, ⟨_, rfl, rn_own rfl⟩, ⟨_, rfl, rn_id if_bl⟩, ⟨_, rfl, rn_id if_i64⟩, ⟨_, rfl, rn_id if_u8⟩, trivial⟩)
            · intro s517
              refine sseq ?_
              refine sjq (fun (s520 : Bool) => [(0, str x0), (2, sli 3 (List.map L_retrospectref16_Word ([] : List M_retrospectref16_Word))), (3, i64 (0 : Int)), (4, .own 100), (5, bl s517), (6, i64 s407.2.2), (7, u8 y510), (43, bl s520)]) (fun (s520 : Bool) => [(100, .sl 81 3 (List.map L_retrospectref16_Word s407.1))]) ?_ ?_
              · intro j518 hj519
                refine sreg ?_
                refine s1 (mv rfl rfl) ?_
                refine s1 (mv rfl rfl) ?_
                refine sifd 28 rfl ?_ ?_
                · refine spB 28 rfl rfl rfl ?_
                  refine spB 28 rfl rfl rfl ?_
                  refine s1 (pickT rfl rfl kB) ?_
                  refine s1 (mv rfl rfl) ?_
                  refine spB 32 rfl rfl rfl ?_
                  refine spB 32 rfl rfl rfl ?_
                  refine s1 (pickT rfl rfl kB) ?_
                  refine s1 (mv rfl rfl) ?_
                  refine spB 36 rfl rfl rfl ?_
                  refine spB 36 rfl rfl rfl ?_
                  refine s1 (pickT rfl rfl kB) ?_
                  refine s1 (mv rfl rfl) ?_
                  refine spB 40 rfl rfl rfl ?_
                  refine spB 40 rfl rfl rfl ?_
                  refine s1 (pickT rfl rfl kB) ?_
                  refine snil ?_
                  refine pnm ?_
                  exact sj (hj519 _) (entR [(100, 100)] rfl (keepS hγ trivial) ⟨⟨_, rfl⟩, trivial⟩ ⟨⟨_, _, rfl, rfl, rci (rc_sl (ifs_map (f := L_retrospectref16_Word) (fun _ => if_L_retrospectref16_Word) s407.1))⟩, trivial⟩ ⟨⟨_, rfl, rn_id if_str⟩, ⟨_, rfl, rn_id if_sli⟩, ⟨_, rfl, rn_id if_i64⟩, ⟨_, rfl, rn_own rfl⟩, ⟨_, rfl, rn_id if_bl⟩, ⟨_, rfl, rn_id if_i64⟩, ⟨_, rfl, rn_id if_u8⟩, ⟨_, rfl, rn_id if_bl⟩, trivial⟩)
                · refine sg 28 rfl rfl (mv rfl rfl) ?_
                  refine sg 28 rfl rfl (eqU .u8 rfl rfl (k8 (x := 32) rfl)) ?_
                  refine s1 (pickF rfl rfl rfl) ?_
                  refine s1 (mv rfl rfl) ?_
                  refine sifd 32 rfl ?_ ?_
                  · refine spB 32 rfl rfl rfl ?_
                    refine spB 32 rfl rfl rfl ?_
                    refine s1 (pickT rfl rfl kB) ?_
                    refine s1 (mv rfl rfl) ?_
                    refine spB 36 rfl rfl rfl ?_
                    refine spB 36 rfl rfl rfl ?_
                    refine s1 (pickT rfl rfl kB) ?_
                    refine s1 (mv rfl rfl) ?_
                    refine spB 40 rfl rfl rfl ?_
                    refine spB 40 rfl rfl rfl ?_
                    refine s1 (pickT rfl rfl kB) ?_
                    refine snil ?_
                    refine pnm ?_
                    exact sj (hj519 _) (entR [(100, 100)] rfl (keepS hγ trivial) ⟨⟨_, rfl⟩, trivial⟩ ⟨⟨_, _, rfl, rfl, rci (rc_sl (ifs_map (f := L_retrospectref16_Word) (fun _ => if_L_retrospectref16_Word) s407.1))⟩, trivial⟩ ⟨⟨_, rfl, rn_id if_str⟩, ⟨_, rfl, rn_id if_sli⟩, ⟨_, rfl, rn_id if_i64⟩, ⟨_, rfl, rn_own rfl⟩, ⟨_, rfl, rn_id if_bl⟩, ⟨_, rfl, rn_id if_i64⟩, ⟨_, rfl, rn_id if_u8⟩, ⟨_, rfl, rn_id if_bl⟩, trivial⟩)
                  · refine sg 32 rfl rfl (mv rfl rfl) ?_
                    refine sg 32 rfl rfl (eqU .u8 rfl rfl (k8 (x := 9) rfl)) ?_
                    refine s1 (pickF rfl rfl rfl) ?_
                    refine s1 (mv rfl rfl) ?_
                    refine sifd 36 rfl ?_ ?_
                    · refine spB 36 rfl rfl rfl ?_
                      refine spB 36 rfl rfl rfl ?_
                      refine s1 (pickT rfl rfl kB) ?_
                      refine s1 (mv rfl rfl) ?_
                      refine spB 40 rfl rfl rfl ?_
                      refine spB 40 rfl rfl rfl ?_
                      refine s1 (pickT rfl rfl kB) ?_
                      refine snil ?_
                      refine pnm ?_
                      exact sj (hj519 _) (entR [(100, 100)] rfl (keepS hγ trivial) ⟨⟨_, rfl⟩, trivial⟩ ⟨⟨_, _, rfl, rfl, rci (rc_sl (ifs_map (f := L_retrospectref16_Word) (fun _ => if_L_retrospectref16_Word) s407.1))⟩, trivial⟩ ⟨⟨_, rfl, rn_id if_str⟩, ⟨_, rfl, rn_id if_sli⟩, ⟨_, rfl, rn_id if_i64⟩, ⟨_, rfl, rn_own rfl⟩, ⟨_, rfl, rn_id if_bl⟩, ⟨_, rfl, rn_id if_i64⟩, ⟨_, rfl, rn_id if_u8⟩, ⟨_, rfl, rn_id if_bl⟩, trivial⟩)
                    · refine sg 36 rfl rfl (mv rfl rfl) ?_
                      refine sg 36 rfl rfl (eqU .u8 rfl rfl (k8 (x := 10) rfl)) ?_
                      refine s1 (pickF rfl rfl rfl) ?_
                      refine s1 (mv rfl rfl) ?_
                      refine sifd 40 rfl ?_ ?_
                      · refine spB 40 rfl rfl rfl ?_
                        refine spB 40 rfl rfl rfl ?_
                        refine s1 (pickT rfl rfl kB) ?_
                        refine snil ?_
                        refine pnm ?_
                        exact sj (hj519 _) (entR [(100, 100)] rfl (keepS hγ trivial) ⟨⟨_, rfl⟩, trivial⟩ ⟨⟨_, _, rfl, rfl, rci (rc_sl (ifs_map (f := L_retrospectref16_Word) (fun _ => if_L_retrospectref16_Word) s407.1))⟩, trivial⟩ ⟨⟨_, rfl, rn_id if_str⟩, ⟨_, rfl, rn_id if_sli⟩, ⟨_, rfl, rn_id if_i64⟩, ⟨_, rfl, rn_own rfl⟩, ⟨_, rfl, rn_id if_bl⟩, ⟨_, rfl, rn_id if_i64⟩, ⟨_, rfl, rn_id if_u8⟩, ⟨_, rfl, rn_id if_bl⟩, trivial⟩)
                      · refine sg 40 rfl rfl (mv rfl rfl) ?_
                        refine sg 40 rfl rfl (eqU .u8 rfl rfl (k8 (x := 13) rfl)) ?_
                        refine s1 (pickF rfl rfl rfl) ?_
                        refine snil ?_
                        refine pnm ?_
                        exact sj (hj519 _) (entR [(100, 100)] rfl (keepS hγ trivial) ⟨⟨_, rfl⟩, trivial⟩ ⟨⟨_, _, rfl, rfl, rci (rc_sl (ifs_map (f := L_retrospectref16_Word) (fun _ => if_L_retrospectref16_Word) s407.1))⟩, trivial⟩ ⟨⟨_, rfl, rn_id if_str⟩, ⟨_, rfl, rn_id if_sli⟩, ⟨_, rfl, rn_id if_i64⟩, ⟨_, rfl, rn_own rfl⟩, ⟨_, rfl, rn_id if_bl⟩, ⟨_, rfl, rn_id if_i64⟩, ⟨_, rfl, rn_id if_u8⟩, ⟨_, rfl, rn_id if_bl⟩, trivial⟩)
              · intro s520
                refine scond rfl ?_ ?_
                · refine sexit ?_
                  refine ptx ?_
                  refine sx ?_
                  refine pnm ?_
                  exact sj (hj508 _) (entR [(100, 100)] rfl (keepS hγ trivial) ⟨⟨_, rfl⟩, trivial⟩ ⟨⟨_, _, rfl, rfl, rci (rc_sl (ifs_map (f := L_retrospectref16_Word) (fun _ => if_L_retrospectref16_Word) s407.1))⟩, trivial⟩ ⟨⟨_, rfl, rn_id if_str⟩, ⟨_, rfl, rn_id if_sli⟩, ⟨_, rfl, rn_id if_i64⟩, ⟨_, rfl, rn_own rfl⟩, ⟨_, rfl, rn_id if_bl⟩, ⟨_, rfl, rn_id if_i64⟩, trivial⟩)
                · refine sskip ?_
                  refine pnm ?_
                  refine sseq ?_
                  refine sreg ?_
                  refine s1 (mv rfl rfl) ?_
                  refine s1 (lenO (f := L_retrospectref16_Word) Tryz.underlying100 rfl rfl rfl) ?_
                  refine s1 (asg rfl rfl) ?_
                  refine snil ?_
                  refine pnm ?_
                  refine sjq (fun (s560 : (List M_retrospectref16_Word)) => [(0, str x0), (2, sli 3 (List.map L_retrospectref16_Word ([] : List M_retrospectref16_Word))), (3, i64 (0 : Int)), (4, .own 100), (5, bl s517), (6, i64 s407.2.2)]) (fun (s560 : (List M_retrospectref16_Word)) => [(100, .sl 81 3 (List.map L_retrospectref16_Word s560))]) ?_ ?_
                  · intro j558 hj559
                    refine sjq (fun (s573 : Bool) => [(0, str x0), (2, sli 3 (List.map L_retrospectref16_Word ([] : List M_retrospectref16_Word))), (3, i64 (0 : Int)), (4, .own 100), (5, bl s517), (6, i64 s407.2.2), (7, u8 y510), (8, i64 (s407.1.length : Int)), (75, bl s573)]) (fun (s573 : Bool) => [(100, .sl 81 3 (List.map L_retrospectref16_Word s407.1))]) ?_ ?_
                    · intro j571 hj572
                      refine sif (fun hb574 => ?_) (fun hb574 => ?_)
                      · refine bd fun y575 h576 => ?_
                        refine bd fun y577 h578 => ?_
                        refine sif (fun hb579 => ?_) (fun hb579 => ?_)
                        · refine bd fun y580 h581 => ?_
                          refine bd fun r582 h583 => ?_
                          refine sdraw [⟨[8], [], [(46, i64 (s407.1.length : Int))], []⟩, ⟨[46], [], [(47, bl (decide ((0 : Int) < (s407.1.length : Int))))], []⟩, ⟨[47], [], [(48, bl true)], []⟩, ⟨[48, 4], [], [(49, .own 100)], []⟩, ⟨[48, 8], [], [(50, i64 (s407.1.length : Int))], []⟩, ⟨[48, 50], [], [(51, i64 (wrap64 ((s407.1.length : Int) - (1 : Int))))], []⟩, ⟨[48, 49, 51], [100], [(52, .ptr 100 (Int.toNat (wrap64 ((s407.1.length : Int) - (1 : Int))) * 3))], []⟩, ⟨[48, 52], [], [(53, .ptr 100 ((Int.toNat (wrap64 ((s407.1.length : Int) - (1 : Int))) * 3) + 2))], []⟩, ⟨[48, 53], [100], [(54, i64 y575.At)], []⟩, ⟨[48, 4], [], [(55, .own 100)], []⟩, ⟨[48, 8], [], [(56, i64 (s407.1.length : Int))], []⟩, ⟨[48, 56], [], [(57, i64 (wrap64 ((s407.1.length : Int) - (1 : Int))))], []⟩, ⟨[48, 55, 57], [100], [(58, .ptr 100 (Int.toNat (wrap64 ((s407.1.length : Int) - (1 : Int))) * 3))], []⟩, ⟨[48, 58], [], [(59, .ptr 100 ((Int.toNat (wrap64 ((s407.1.length : Int) - (1 : Int))) * 3) + 1))], []⟩, ⟨[48, 59], [100], [(60, str y577.Text)], []⟩, ⟨[48, 60], [], [(61, i64 (y577.Text.length : Int))], []⟩, ⟨[48, 54, 61], [], [(62, i64 (wrap64 (y575.At + (y577.Text.length : Int))))], []⟩, ⟨[48, 6], [], [(63, i64 s407.2.2)], []⟩, ⟨[48, 62, 63], [], [(64, bl (decide ((wrap64 (y575.At + (y577.Text.length : Int))) = s407.2.2)))], []⟩, ⟨[48, 64], [], [(65, bl (decide ((wrap64 (y575.At + (y577.Text.length : Int))) = s407.2.2)))], []⟩, ⟨[65], [], [(66, bl true)], []⟩, ⟨[66, 4], [], [(67, .own 100)], []⟩, ⟨[66, 8], [], [(68, i64 (s407.1.length : Int))], []⟩, ⟨[66, 68], [], [(69, i64 (wrap64 ((s407.1.length : Int) - (1 : Int))))], []⟩, ⟨[66, 67, 69], [100], [(70, .ptr 100 (Int.toNat (wrap64 ((s407.1.length : Int) - (1 : Int))) * 3))], []⟩, ⟨[66, 70], [], [(71, .ptr 100 ((Int.toNat (wrap64 ((s407.1.length : Int) - (1 : Int))) * 3) + 0))], []⟩, ⟨[66, 71], [100], [(72, i64 y580.Kind)], []⟩, ⟨[66, 7], [], [(73, u8 y510)], []⟩, ⟨[66, 72, 73], [], [(74, bl r582)], []⟩, ⟨[66, 74], [], [(75, bl r582)], []⟩] fol (by kernel_rfl) ⟨fun st mm ⟨a8, _⟩ _ => og (mv rfl (a8.trans rfl)), fun st mm ⟨a46, _⟩ _ => og (gtI rfl (a46.trans rfl) (kI (x := 0) rfl)), fun st mm ⟨a47, _⟩ _ => og (okb hb574 (mv rfl (a47.trans rfl))), fun st mm ⟨a48, a4, _⟩ _ => ogG 48 rfl (a48.trans rfl) (mv rfl (a4.trans rfl)), fun st mm ⟨a48, a8, _⟩ _ => ogG 48 rfl (a48.trans rfl) (mv rfl (a8.trans rfl)), fun st mm ⟨a48, a50, _⟩ _ => ogG 48 rfl (a48.trans rfl) (subI rfl (a50.trans rfl) (kI (x := 1) rfl)), fun st mm ⟨a48, a49, a51, _⟩ ⟨g100, _⟩ => ogG 48 rfl (a48.trans rfl) (ixO (f := L_retrospectref16_Word) (g100.trans rfl) Tryz.underlying100 ti_81 h576 rfl (a49.trans rfl) (a51.trans rfl)), fun st mm ⟨a48, a52, _⟩ _ => ogG 48 rfl (a48.trans rfl) (faP (id := 100) (off := (Int.toNat (wrap64 ((s407.1.length : Int) - (1 : Int))) * 3)) (fo := 2) fd_81_2 rfl (a52.trans rfl)), fun st mm ⟨a48, a53, _⟩ ⟨g100, _⟩ => ogG 48 rfl (a48.trans rfl) (ldO (f := L_retrospectref16_Word) [2] (g100.trans rfl) (getI_ix h576) (by exact rfl) (by exact rfl) sh_3 (by exact rfl) (by exact rfl) rfl (a53.trans rfl)), fun st mm ⟨a48, a4, _⟩ _ => ogG 48 rfl (a48.trans rfl) (mv rfl (a4.trans rfl)), fun st mm ⟨a48, a8, _⟩ _ => ogG 48 rfl (a48.trans rfl) (mv rfl (a8.trans rfl)), fun st mm ⟨a48, a56, _⟩ _ => ogG 48 rfl (a48.trans rfl) (subI rfl (a56.trans rfl) (kI (x := 1) rfl)), fun st mm ⟨a48, a55, a57, _⟩ ⟨g100, _⟩ => ogG 48 rfl (a48.trans rfl) (ixO (f := L_retrospectref16_Word) (g100.trans rfl) Tryz.underlying100 ti_81 h578 rfl (a55.trans rfl) (a57.trans rfl)), fun st mm ⟨a48, a58, _⟩ _ => ogG 48 rfl (a48.trans rfl) (faP (id := 100) (off := (Int.toNat (wrap64 ((s407.1.length : Int) - (1 : Int))) * 3)) (fo := 1) fd_81_1 rfl (a58.trans rfl)), fun st mm ⟨a48, a59, _⟩ ⟨g100, _⟩ => ogG 48 rfl (a48.trans rfl) (ldO (f := L_retrospectref16_Word) [1] (g100.trans rfl) (getI_ix h578) (by exact rfl) (by exact rfl) sh_9 (by exact rfl) (by exact rfl) rfl (a59.trans rfl)), fun st mm ⟨a48, a60, _⟩ _ => ogG 48 rfl (a48.trans rfl) (lenS Tryz.underlying9 rfl (a60.trans rfl)), fun st mm ⟨a48, a54, a61, _⟩ _ => ogG 48 rfl (a48.trans rfl) (addI rfl (a54.trans rfl) (a61.trans rfl)), fun st mm ⟨a48, a6, _⟩ _ => ogG 48 rfl (a48.trans rfl) (mv rfl (a6.trans rfl)), fun st mm ⟨a48, a62, a63, _⟩ _ => ogG 48 rfl (a48.trans rfl) (eqI rfl (a62.trans rfl) (a63.trans rfl)), fun st mm ⟨a48, a64, _⟩ _ => og (pickT rfl (a48.trans rfl) (a64.trans rfl)), fun st mm ⟨a65, _⟩ _ => og (okb hb579 (mv rfl (a65.trans rfl))), fun st mm ⟨a66, a4, _⟩ _ => ogG 66 rfl (a66.trans rfl) (mv rfl (a4.trans rfl)), fun st mm ⟨a66, a8, _⟩ _ => ogG 66 rfl (a66.trans rfl) (mv rfl (a8.trans rfl)), fun st mm ⟨a66, a68, _⟩ _ => ogG 66 rfl (a66.trans rfl) (subI rfl (a68.trans rfl) (kI (x := 1) rfl)), fun st mm ⟨a66, a67, a69, _⟩ ⟨g100, _⟩ => ogG 66 rfl (a66.trans rfl) (ixO (f := L_retrospectref16_Word) (g100.trans rfl) Tryz.underlying100 ti_81 h581 rfl (a67.trans rfl) (a69.trans rfl)), fun st mm ⟨a66, a70, _⟩ _ => ogG 66 rfl (a66.trans rfl) (faP (id := 100) (off := (Int.toNat (wrap64 ((s407.1.length : Int) - (1 : Int))) * 3)) (fo := 0) fd_81_0 rfl (a70.trans rfl)), fun st mm ⟨a66, a71, _⟩ ⟨g100, _⟩ => ogG 66 rfl (a66.trans rfl) (ldO (f := L_retrospectref16_Word) [0] (g100.trans rfl) (getI_ix h581) (by exact rfl) (by exact rfl) sh_3 (by exact rfl) (by exact rfl) rfl (a71.trans rfl)), fun st mm ⟨a66, a7, _⟩ _ => ogG 66 rfl (a66.trans rfl) (mv rfl (a7.trans rfl)), fun st mm ⟨a66, a72, a73, _⟩ _ => ogG 66 rfl (a66.trans rfl) (call0 (c_retrospectref16_more _ h583) ⟨⟨_, (a72.trans rfl), rn_id if_i64⟩, ⟨_, (a73.trans rfl), rn_id if_u8⟩, trivial⟩ (if_bl) rfl), fun st mm ⟨a66, a74, _⟩ _ => og (pickT rfl (a66.trans rfl) (a74.trans rfl)), trivial⟩ ?_
                          refine pnm ?_
                          exact sj (hj572 _) (entR [(100, 100)] rfl (keepS hγ trivial) ⟨⟨_, rfl⟩, trivial⟩ ⟨⟨_, _, rfl, rfl, rci (rc_sl (ifs_map (f := L_retrospectref16_Word) (fun _ => if_L_retrospectref16_Word) s407.1))⟩, trivial⟩ ⟨⟨_, rfl, rn_id if_str⟩, ⟨_, rfl, rn_id if_sli⟩, ⟨_, rfl, rn_id if_i64⟩, ⟨_, rfl, rn_own rfl⟩, ⟨_, rfl, rn_id if_bl⟩, ⟨_, rfl, rn_id if_i64⟩, ⟨_, rfl, rn_id if_u8⟩, ⟨_, rfl, rn_id if_i64⟩, ⟨_, rfl, rn_id if_bl⟩, trivial⟩)
                        · refine sdraw [⟨[8], [], [(46, i64 (s407.1.length : Int))], []⟩, ⟨[46], [], [(47, bl (decide ((0 : Int) < (s407.1.length : Int))))], []⟩, ⟨[47], [], [(48, bl true)], []⟩, ⟨[48, 4], [], [(49, .own 100)], []⟩, ⟨[48, 8], [], [(50, i64 (s407.1.length : Int))], []⟩, ⟨[48, 50], [], [(51, i64 (wrap64 ((s407.1.length : Int) - (1 : Int))))], []⟩, ⟨[48, 49, 51], [100], [(52, .ptr 100 (Int.toNat (wrap64 ((s407.1.length : Int) - (1 : Int))) * 3))], []⟩, ⟨[48, 52], [], [(53, .ptr 100 ((Int.toNat (wrap64 ((s407.1.length : Int) - (1 : Int))) * 3) + 2))], []⟩, ⟨[48, 53], [100], [(54, i64 y575.At)], []⟩, ⟨[48, 4], [], [(55, .own 100)], []⟩, ⟨[48, 8], [], [(56, i64 (s407.1.length : Int))], []⟩, ⟨[48, 56], [], [(57, i64 (wrap64 ((s407.1.length : Int) - (1 : Int))))], []⟩, ⟨[48, 55, 57], [100], [(58, .ptr 100 (Int.toNat (wrap64 ((s407.1.length : Int) - (1 : Int))) * 3))], []⟩, ⟨[48, 58], [], [(59, .ptr 100 ((Int.toNat (wrap64 ((s407.1.length : Int) - (1 : Int))) * 3) + 1))], []⟩, ⟨[48, 59], [100], [(60, str y577.Text)], []⟩, ⟨[48, 60], [], [(61, i64 (y577.Text.length : Int))], []⟩, ⟨[48, 54, 61], [], [(62, i64 (wrap64 (y575.At + (y577.Text.length : Int))))], []⟩, ⟨[48, 6], [], [(63, i64 s407.2.2)], []⟩, ⟨[48, 62, 63], [], [(64, bl (decide ((wrap64 (y575.At + (y577.Text.length : Int))) = s407.2.2)))], []⟩, ⟨[48, 64], [], [(65, bl (decide ((wrap64 (y575.At + (y577.Text.length : Int))) = s407.2.2)))], []⟩, ⟨[65], [], [(66, bl false)], []⟩, ⟨[66], [], [(67, .tup [])], []⟩, ⟨[66], [], [(68, .tup [])], []⟩, ⟨[66], [], [(69, .tup [])], []⟩, ⟨[66], [], [(70, .tup [])], []⟩, ⟨[66], [], [(71, .tup [])], []⟩, ⟨[66], [], [(72, .tup [])], []⟩, ⟨[66], [], [(73, .tup [])], []⟩, ⟨[66], [], [(74, .tup [])], []⟩, ⟨[66], [], [(75, bl false)], []⟩] fol (by kernel_rfl) ⟨fun st mm ⟨a8, _⟩ _ => og (mv rfl (a8.trans rfl)), fun st mm ⟨a46, _⟩ _ => og (gtI rfl (a46.trans rfl) (kI (x := 0) rfl)), fun st mm ⟨a47, _⟩ _ => og (okb hb574 (mv rfl (a47.trans rfl))), fun st mm ⟨a48, a4, _⟩ _ => ogG 48 rfl (a48.trans rfl) (mv rfl (a4.trans rfl)), fun st mm ⟨a48, a8, _⟩ _ => ogG 48 rfl (a48.trans rfl) (mv rfl (a8.trans rfl)), fun st mm ⟨a48, a50, _⟩ _ => ogG 48 rfl (a48.trans rfl) (subI rfl (a50.trans rfl) (kI (x := 1) rfl)), fun st mm ⟨a48, a49, a51, _⟩ ⟨g100, _⟩ => ogG 48 rfl (a48.trans rfl) (ixO (f := L_retrospectref16_Word) (g100.trans rfl) Tryz.underlying100 ti_81 h576 rfl (a49.trans rfl) (a51.trans rfl)), fun st mm ⟨a48, a52, _⟩ _ => ogG 48 rfl (a48.trans rfl) (faP (id := 100) (off := (Int.toNat (wrap64 ((s407.1.length : Int) - (1 : Int))) * 3)) (fo := 2) fd_81_2 rfl (a52.trans rfl)), fun st mm ⟨a48, a53, _⟩ ⟨g100, _⟩ => ogG 48 rfl (a48.trans rfl) (ldO (f := L_retrospectref16_Word) [2] (g100.trans rfl) (getI_ix h576) (by exact rfl) (by exact rfl) sh_3 (by exact rfl) (by exact rfl) rfl (a53.trans rfl)), fun st mm ⟨a48, a4, _⟩ _ => ogG 48 rfl (a48.trans rfl) (mv rfl (a4.trans rfl)), fun st mm ⟨a48, a8, _⟩ _ => ogG 48 rfl (a48.trans rfl) (mv rfl (a8.trans rfl)), fun st mm ⟨a48, a56, _⟩ _ => ogG 48 rfl (a48.trans rfl) (subI rfl (a56.trans rfl) (kI (x := 1) rfl)), fun st mm ⟨a48, a55, a57, _⟩ ⟨g100, _⟩ => ogG 48 rfl (a48.trans rfl) (ixO (f := L_retrospectref16_Word) (g100.trans rfl) Tryz.underlying100 ti_81 h578 rfl (a55.trans rfl) (a57.trans rfl)), fun st mm ⟨a48, a58, _⟩ _ => ogG 48 rfl (a48.trans rfl) (faP (id := 100) (off := (Int.toNat (wrap64 ((s407.1.length : Int) - (1 : Int))) * 3)) (fo := 1) fd_81_1 rfl (a58.trans rfl)), fun st mm ⟨a48, a59, _⟩ ⟨g100, _⟩ => ogG 48 rfl (a48.trans rfl) (ldO (f := L_retrospectref16_Word) [1] (g100.trans rfl) (getI_ix h578) (by exact rfl) (by exact rfl) sh_9 (by exact rfl) (by exact rfl) rfl (a59.trans rfl)), fun st mm ⟨a48, a60, _⟩ _ => ogG 48 rfl (a48.trans rfl) (lenS Tryz.underlying9 rfl (a60.trans rfl)), fun st mm ⟨a48, a54, a61, _⟩ _ => ogG 48 rfl (a48.trans rfl) (addI rfl (a54.trans rfl) (a61.trans rfl)), fun st mm ⟨a48, a6, _⟩ _ => ogG 48 rfl (a48.trans rfl) (mv rfl (a6.trans rfl)), fun st mm ⟨a48, a62, a63, _⟩ _ => ogG 48 rfl (a48.trans rfl) (eqI rfl (a62.trans rfl) (a63.trans rfl)), fun st mm ⟨a48, a64, _⟩ _ => og (pickT rfl (a48.trans rfl) (a64.trans rfl)), fun st mm ⟨a65, _⟩ _ => og (okb hb579 (mv rfl (a65.trans rfl))), fun st mm ⟨a66, _⟩ _ => ogB 66 rfl (a66.trans rfl) rfl, fun st mm ⟨a66, _⟩ _ => ogB 66 rfl (a66.trans rfl) rfl, fun st mm ⟨a66, _⟩ _ => ogB 66 rfl (a66.trans rfl) rfl, fun st mm ⟨a66, _⟩ _ => ogB 66 rfl (a66.trans rfl) rfl, fun st mm ⟨a66, _⟩ _ => ogB 66 rfl (a66.trans rfl) rfl, fun st mm ⟨a66, _⟩ _ => ogB 66 rfl (a66.trans rfl) rfl, fun st mm ⟨a66, _⟩ _ => ogB 66 rfl (a66.trans rfl) rfl, fun st mm ⟨a66, _⟩ _ => ogB 66 rfl (a66.trans rfl) rfl, fun st mm ⟨a66, _⟩ _ => og (pickF rfl (a66.trans rfl) kB), trivial⟩ ?_
                          refine pnm ?_
                          exact sj (hj572 _) (entR [(100, 100)] rfl (keepS hγ trivial) ⟨⟨_, rfl⟩, trivial⟩ ⟨⟨_, _, rfl, rfl, rci (rc_sl (ifs_map (f := L_retrospectref16_Word) (fun _ => if_L_retrospectref16_Word) s407.1))⟩, trivial⟩ ⟨⟨_, rfl, rn_id if_str⟩, ⟨_, rfl, rn_id if_sli⟩, ⟨_, rfl, rn_id if_i64⟩, ⟨_, rfl, rn_own rfl⟩, ⟨_, rfl, rn_id if_bl⟩, ⟨_, rfl, rn_id if_i64⟩, ⟨_, rfl, rn_id if_u8⟩, ⟨_, rfl, rn_id if_i64⟩, ⟨_, rfl, rn_id if_bl⟩, trivial⟩)
                      · refine sdraw [⟨[8], [], [(46, i64 (s407.1.length : Int))], []⟩, ⟨[46], [], [(47, bl (decide ((0 : Int) < (s407.1.length : Int))))], []⟩, ⟨[47], [], [(48, bl false)], []⟩, ⟨[48], [], [(49, .tup [])], []⟩, ⟨[48], [], [(50, .tup [])], []⟩, ⟨[48], [], [(51, .tup [])], []⟩, ⟨[48], [], [(52, .tup [])], []⟩, ⟨[48], [], [(53, .tup [])], []⟩, ⟨[48], [], [(54, .tup [])], []⟩, ⟨[48], [], [(55, .tup [])], []⟩, ⟨[48], [], [(56, .tup [])], []⟩, ⟨[48], [], [(57, .tup [])], []⟩, ⟨[48], [], [(58, .tup [])], []⟩, ⟨[48], [], [(59, .tup [])], []⟩, ⟨[48], [], [(60, .tup [])], []⟩, ⟨[48], [], [(61, .tup [])], []⟩, ⟨[48], [], [(62, .tup [])], []⟩, ⟨[48], [], [(63, .tup [])], []⟩, ⟨[48], [], [(64, .tup [])], []⟩, ⟨[48], [], [(65, bl false)], []⟩, ⟨[65], [], [(66, bl false)], []⟩, ⟨[66], [], [(67, .tup [])], []⟩, ⟨[66], [], [(68, .tup [])], []⟩, ⟨[66], [], [(69, .tup [])], []⟩, ⟨[66], [], [(70, .tup [])], []⟩, ⟨[66], [], [(71, .tup [])], []⟩, ⟨[66], [], [(72, .tup [])], []⟩, ⟨[66], [], [(73, .tup [])], []⟩, ⟨[66], [], [(74, .tup [])], []⟩, ⟨[66], [], [(75, bl false)], []⟩] fol (by kernel_rfl) ⟨fun st mm ⟨a8, _⟩ _ => og (mv rfl (a8.trans rfl)), fun st mm ⟨a46, _⟩ _ => og (gtI rfl (a46.trans rfl) (kI (x := 0) rfl)), fun st mm ⟨a47, _⟩ _ => og (okb hb574 (mv rfl (a47.trans rfl))), fun st mm ⟨a48, _⟩ _ => ogB 48 rfl (a48.trans rfl) rfl, fun st mm ⟨a48, _⟩ _ => ogB 48 rfl (a48.trans rfl) rfl, fun st mm ⟨a48, _⟩ _ => ogB 48 rfl (a48.trans rfl) rfl, fun st mm ⟨a48, _⟩ _ => ogB 48 rfl (a48.trans rfl) rfl, fun st mm ⟨a48, _⟩ _ => ogB 48 rfl (a48.trans rfl) rfl, fun st mm ⟨a48, _⟩ _ => ogB 48 rfl (a48.trans rfl) rfl, fun st mm ⟨a48, _⟩ _ => ogB 48 rfl (a48.trans rfl) rfl, fun st mm ⟨a48, _⟩ _ => ogB 48 rfl (a48.trans rfl) rfl, fun st mm ⟨a48, _⟩ _ => ogB 48 rfl (a48.trans rfl) rfl, fun st mm ⟨a48, _⟩ _ => ogB 48 rfl (a48.trans rfl) rfl, fun st mm ⟨a48, _⟩ _ => ogB 48 rfl (a48.trans rfl) rfl, fun st mm ⟨a48, _⟩ _ => ogB 48 rfl (a48.trans rfl) rfl, fun st mm ⟨a48, _⟩ _ => ogB 48 rfl (a48.trans rfl) rfl, fun st mm ⟨a48, _⟩ _ => ogB 48 rfl (a48.trans rfl) rfl, fun st mm ⟨a48, _⟩ _ => ogB 48 rfl (a48.trans rfl) rfl, fun st mm ⟨a48, _⟩ _ => ogB 48 rfl (a48.trans rfl) rfl, fun st mm ⟨a48, _⟩ _ => og (pickF rfl (a48.trans rfl) kB), fun st mm ⟨a65, _⟩ _ => og (mv rfl (a65.trans rfl)), fun st mm ⟨a66, _⟩ _ => ogB 66 rfl (a66.trans rfl) rfl, fun st mm ⟨a66, _⟩ _ => ogB 66 rfl (a66.trans rfl) rfl, fun st mm ⟨a66, _⟩ _ => ogB 66 rfl (a66.trans rfl) rfl, fun st mm ⟨a66, _⟩ _ => ogB 66 rfl (a66.trans rfl) rfl, fun st mm ⟨a66, _⟩ _ => ogB 66 rfl (a66.trans rfl) rfl, fun st mm ⟨a66, _⟩ _ => ogB 66 rfl (a66.trans rfl) rfl, fun st mm ⟨a66, _⟩ _ => ogB 66 rfl (a66.trans rfl) rfl, fun st mm ⟨a66, _⟩ _ => ogB 66 rfl (a66.trans rfl) rfl, fun st mm ⟨a66, _⟩ _ => og (pickF rfl (a66.trans rfl) kB), trivial⟩ ?_
                        refine pnm ?_
                        exact sj (hj572 _) (entR [(100, 100)] rfl (keepS hγ trivial) ⟨⟨_, rfl⟩, trivial⟩ ⟨⟨_, _, rfl, rfl, rci (rc_sl (ifs_map (f := L_retrospectref16_Word) (fun _ => if_L_retrospectref16_Word) s407.1))⟩, trivial⟩ ⟨⟨_, rfl, rn_id if_str⟩, ⟨_, rfl, rn_id if_sli⟩, ⟨_, rfl, rn_id if_i64⟩, ⟨_, rfl, rn_own rfl⟩, ⟨_, rfl, rn_id if_bl⟩, ⟨_, rfl, rn_id if_i64⟩, ⟨_, rfl, rn_id if_u8⟩, ⟨_, rfl, rn_id if_i64⟩, ⟨_, rfl, rn_id if_bl⟩, trivial⟩)
                    · intro s573
                      refine scond rfl ?_ ?_
                      · refine bd fun y584 h585 => ?_
                        refine bd fun y586 h587 => ?_
                        refine bd fun y588 h589 => ?_
                        refine bd fun y590 h591 => ?_
                        refine sdraw [⟨[4], [], [(76, .own 100)], []⟩, ⟨[8], [], [(77, i64 (s407.1.length : Int))], []⟩, ⟨[77], [], [(78, i64 (wrap64 ((s407.1.length : Int) - (1 : Int))))], []⟩, ⟨[76, 78], [100], [(79, .ptr 100 (Int.toNat (wrap64 ((s407.1.length : Int) - (1 : Int))) * 3))], []⟩, ⟨[79], [], [(80, .ptr 100 ((Int.toNat (wrap64 ((s407.1.length : Int) - (1 : Int))) * 3) + 1))], []⟩, ⟨[80], [100], [(81, str y584.Text)], []⟩, ⟨[0], [], [(82, str x0)], []⟩, ⟨[6], [], [(83, i64 s407.2.2)], []⟩, ⟨[6], [], [(84, i64 s407.2.2)], []⟩, ⟨[84], [], [(85, i64 (wrap64 (s407.2.2 + (1 : Int))))], []⟩, ⟨[82, 83, 85], [], [(86, str y586)], []⟩, ⟨[81, 86], [], [(87, str y588)], []⟩, ⟨[76, 78], [100], [(88, .ptr 100 (Int.toNat (wrap64 ((s407.1.length : Int) - (1 : Int))) * 3))], []⟩, ⟨[88], [], [(89, .ptr 100 ((Int.toNat (wrap64 ((s407.1.length : Int) - (1 : Int))) * 3) + 1))], []⟩, ⟨[89, 87], [100], [], [(100, .sl 81 3 (List.map L_retrospectref16_Word (List.set s407.1 (Int.toNat (wrap64 ((s407.1.length : Int) - (1 : Int)))) (⟨y590.Kind, y588, y590.At⟩ : M_retrospectref16_Word))))]⟩] fol (by kernel_rfl) ⟨fun st mm ⟨a4, _⟩ _ => og (mv rfl (a4.trans rfl)), fun st mm ⟨a8, _⟩ _ => og (mv rfl (a8.trans rfl)), fun st mm ⟨a77, _⟩ _ => og (subI rfl (a77.trans rfl) (kI (x := 1) rfl)), fun st mm ⟨a76, a78, _⟩ ⟨g100, _⟩ => og (ixO (f := L_retrospectref16_Word) (g100.trans rfl) Tryz.underlying100 ti_81 h585 rfl (a76.trans rfl) (a78.trans rfl)), fun st mm ⟨a79, _⟩ _ => og (faP (id := 100) (off := (Int.toNat (wrap64 ((s407.1.length : Int) - (1 : Int))) * 3)) (fo := 1) fd_81_1 rfl (a79.trans rfl)), fun st mm ⟨a80, _⟩ ⟨g100, _⟩ => og (ldO (f := L_retrospectref16_Word) [1] (g100.trans rfl) (getI_ix h585) (by exact rfl) (by exact rfl) sh_9 (by exact rfl) (by exact rfl) rfl (a80.trans rfl)), fun st mm ⟨a0, _⟩ _ => og (mv rfl (a0.trans rfl)), fun st mm ⟨a6, _⟩ _ => og (mv rfl (a6.trans rfl)), fun st mm ⟨a6, _⟩ _ => og (mv rfl (a6.trans rfl)), fun st mm ⟨a84, _⟩ _ => og (addI rfl (a84.trans rfl) (kI (x := 1) rfl)), fun st mm ⟨a82, a83, a85, _⟩ _ => og (slS h587 Tryz.underlying9 rfl (a82.trans rfl) (bnd (a83.trans rfl)) (bnd (a85.trans rfl))), fun st mm ⟨a81, a86, _⟩ _ => og (catStr h589 rfl (a81.trans rfl) (a86.trans rfl)), fun st mm ⟨a76, a78, _⟩ ⟨g100, _⟩ => og (ixO (f := L_retrospectref16_Word) (g100.trans rfl) Tryz.underlying100 ti_81 h591 rfl (a76.trans rfl) (a78.trans rfl)), fun st mm ⟨a88, _⟩ _ => og (faP (id := 100) (off := (Int.toNat (wrap64 ((s407.1.length : Int) - (1 : Int))) * 3)) (fo := 1) fd_81_1 rfl (a88.trans rfl)), fun st mm ⟨a89, a87, _⟩ ⟨g100, _⟩ => og (stO (f := L_retrospectref16_Word) (⟨y590.Kind, y588, y590.At⟩ : M_retrospectref16_Word) [1] (g100.trans rfl) (getI_ix h591) (by exact rfl) (by exact rfl) (by exact rfl) (by exact rfl) sh_9 (by exact rfl) (by exact rfl) (by exact rfl) (a89.trans rfl) (a87.trans rfl)), trivial⟩ ?_
                        refine pnm ?_
                        exact sj (hj559 _) (entR [(100, 100)] rfl (keepS hγ trivial) ⟨⟨_, rfl⟩, trivial⟩ ⟨⟨_, _, rfl, rfl, rci (rc_sl (ifs_map (f := L_retrospectref16_Word) (fun _ => if_L_retrospectref16_Word) (List.set s407.1 (Int.toNat (wrap64 ((s407.1.length : Int) - (1 : Int)))) (⟨y590.Kind, y588, y590.At⟩ : M_retrospectref16_Word))))⟩, trivial⟩ ⟨⟨_, rfl, rn_id if_str⟩, ⟨_, rfl, rn_id if_sli⟩, ⟨_, rfl, rn_id if_i64⟩, ⟨_, rfl, rn_own rfl⟩, ⟨_, rfl, rn_id if_bl⟩, ⟨_, rfl, rn_id if_i64⟩, trivial⟩)
                      · refine bd fun r592 h593 => ?_
                        refine bd fun y594 h595 => ?_
                        refine bd fun y596 h597 => ?_
                        refine sdraw [⟨[4], [], [(90, .own 100)], []⟩, ⟨[7], [], [(91, u8 y510)], []⟩, ⟨[91], [], [(92, i64 r592)], []⟩, ⟨[0], [], [(93, str x0)], []⟩, ⟨[6], [], [(94, i64 s407.2.2)], []⟩, ⟨[6], [], [(95, i64 s407.2.2)], []⟩, ⟨[95], [], [(96, i64 (wrap64 (s407.2.2 + (1 : Int))))], []⟩, ⟨[93, 94, 96], [], [(97, str y594)], []⟩, ⟨[6], [], [(98, i64 s407.2.2)], []⟩, ⟨[92, 97, 98], [], [(99, L_retrospectref16_Word (⟨r592, y594, s407.2.2⟩ : M_retrospectref16_Word))], []⟩, ⟨[99], [101], [(100, .own 101)], [(101, .sl 81 3 (List.map L_retrospectref16_Word ([(⟨r592, y594, s407.2.2⟩ : M_retrospectref16_Word)] : List M_retrospectref16_Word)))]⟩, ⟨[90, 100], [100, 101, 102], [(101, .own 102)], [(102, .sl 81 3 (List.map L_retrospectref16_Word y596)), (100, .gone)]⟩, ⟨[101], [], [(4, .own 102)], []⟩] fol (by kernel_rfl) ⟨fun st mm ⟨a4, _⟩ _ => og (mv rfl (a4.trans rfl)), fun st mm ⟨a7, _⟩ _ => og (mv rfl (a7.trans rfl)), fun st mm ⟨a91, _⟩ _ => og (call0 (c_retrospectref16_Kind _ h593) ⟨⟨_, (a91.trans rfl), rn_id if_u8⟩, trivial⟩ (if_i64) rfl), fun st mm ⟨a0, _⟩ _ => og (mv rfl (a0.trans rfl)), fun st mm ⟨a6, _⟩ _ => og (mv rfl (a6.trans rfl)), fun st mm ⟨a6, _⟩ _ => og (mv rfl (a6.trans rfl)), fun st mm ⟨a95, _⟩ _ => og (addI rfl (a95.trans rfl) (kI (x := 1) rfl)), fun st mm ⟨a93, a94, a96, _⟩ _ => og (slS h595 Tryz.underlying9 rfl (a93.trans rfl) (bnd (a94.trans rfl)) (bnd (a96.trans rfl))), fun st mm ⟨a6, _⟩ _ => og (mv rfl (a6.trans rfl)), fun st mm ⟨a92, a97, a98, _⟩ _ => og (bld (l := [i64 r592, str y594, i64 s407.2.2]) pl_81 ti_81 zr_retrospectref16_Word ⟨_, _, _, (a92.trans rfl), rfl, rfl, rfl, (szk (k := 1) rfl rfl), ⟨_, _, _, (a97.trans rfl), rfl, rfl, rfl, (szk (k := 1) rfl rfl), ⟨_, _, _, (a98.trans rfl), rfl, rfl, rfl, (szk (k := 1) rfl rfl), rfl⟩⟩⟩ rfl), fun st mm ⟨a99, _⟩ ⟨g101, _⟩ => og (bsl (y := 101) (ls := List.map L_retrospectref16_Word ([(⟨r592, y594, s407.2.2⟩ : M_retrospectref16_Word)] : List M_retrospectref16_Word)) Tryz.underlying100 ti_81 rfl rfl rfl rfl rfl ⟨rfl, (a99.trans rfl), (by exact rfl), (by exact rfl), trivial⟩ (g101.trans rfl) rfl), fun st mm ⟨a90, a100, _⟩ ⟨g100, g101, g102, _⟩ => og (app (y := 102) (f := L_retrospectref16_Word) h597 (g100.trans rfl) Tryz.underlying100 ti_81 rfl rfl (a90.trans rfl) (a100.trans rfl) (.inr ⟨_, _, rfl, (g101.trans rfl)⟩) (g102.trans rfl) rfl), fun st mm ⟨a101, _⟩ _ => og (asg rfl (a101.trans rfl)), trivial⟩ ?_
                        refine pnm ?_
                        exact sj (hj559 _) (entR [(100, 102)] rfl (keepS hγ trivial) ⟨⟨_, rfl⟩, trivial⟩ ⟨⟨_, _, rfl, rfl, rci (rc_sl (ifs_map (f := L_retrospectref16_Word) (fun _ => if_L_retrospectref16_Word) y596))⟩, trivial⟩ ⟨⟨_, rfl, rn_id if_str⟩, ⟨_, rfl, rn_id if_sli⟩, ⟨_, rfl, rn_id if_i64⟩, ⟨_, rfl, rn_own rfl⟩, ⟨_, rfl, rn_id if_bl⟩, ⟨_, rfl, rn_id if_i64⟩, trivial⟩)
                  · intro s560
                    refine sseq ?_
                    refine sreg ?_
                    refine s1 (mv rfl rfl) ?_
                    refine s1 (mv rfl rfl) ?_
                    refine s1 (lenO (f := L_retrospectref16_Word) Tryz.underlying100 rfl rfl rfl) ?_
                    refine s1 (subI rfl rfl (kI (x := 1) rfl)) ?_
                    refine bd fun y598 h599 => ?_
                    refine s1 (ixO (f := L_retrospectref16_Word) rfl Tryz.underlying100 ti_81 h599 rfl rfl rfl) ?_
                    refine s1 (ldO (f := L_retrospectref16_Word) [] rfl (getI_ix h599) (by exact rfl) (by exact rfl) sh_81 (by exact rfl) (by exact rfl) rfl rfl) ?_
                    refine so (al (y := 103) (ly := L_retrospectref16_Word (⟨0, [], 0⟩ : M_retrospectref16_Word)) ti_81 zr_retrospectref16_Word rfl rfl) ?_
                    refine so (stB2 (ly2 := L_retrospectref16_Word y598) [] (by exact rfl) rfl (by exact rfl) sh_81 (by exact rfl) (by exact rfl) (by exact rfl) rfl (.inr ⟨rfl, rfl, _, _, rfl⟩) rfl) ?_
                    refine snil ?_
                    refine pnm ?_
                    refine sjq (fun (s605 : Bool) => [(0, str x0), (2, sli 3 (List.map L_retrospectref16_Word ([] : List M_retrospectref16_Word))), (3, i64 (0 : Int)), (4, .own 100), (5, bl s517), (6, i64 s407.2.2), (119, bl s605)]) (fun (s605 : Bool) => [(100, .sl 81 3 (List.map L_retrospectref16_Word s560))]) ?_ ?_
                    · intro j603 hj604
                      refine sif (fun hb606 => ?_) (fun hb606 => ?_)
                      · refine sdraw [⟨[9], [103], [(108, .ptr 103 0)], []⟩, ⟨[108], [103], [(109, i64 y598.Kind)], []⟩, ⟨[109], [], [(110, bl (decide (y598.Kind = (0 : Int))))], []⟩, ⟨[110], [], [(111, bl true)], []⟩, ⟨[111], [], [(112, .tup [])], []⟩, ⟨[111], [], [(113, .tup [])], []⟩, ⟨[111], [], [(114, .tup [])], []⟩, ⟨[111], [], [(115, .tup [])], []⟩, ⟨[111], [], [(116, .tup [])], []⟩, ⟨[111], [], [(117, .tup [])], []⟩, ⟨[111], [], [(118, .tup [])], []⟩, ⟨[111], [], [(119, bl true)], []⟩] fol (by kernel_rfl) ⟨fun st mm ⟨a9, _⟩ ⟨g103, _⟩ => og (faO (g103.trans rfl) fd_81_0 rfl (a9.trans rfl)), fun st mm ⟨a108, _⟩ ⟨g103, _⟩ => og (ldB [0] (g103.trans rfl) (by exact rfl) sh_3 (by exact rfl) (by exact rfl) rfl (a108.trans rfl) (.inl rfl)), fun st mm ⟨a109, _⟩ _ => og (eqI rfl (a109.trans rfl) (kI (x := 0) rfl)), fun st mm ⟨a110, _⟩ _ => og (okb hb606 (mv rfl (a110.trans rfl))), fun st mm ⟨a111, _⟩ _ => ogB 111 rfl (a111.trans rfl) rfl, fun st mm ⟨a111, _⟩ _ => ogB 111 rfl (a111.trans rfl) rfl, fun st mm ⟨a111, _⟩ _ => ogB 111 rfl (a111.trans rfl) rfl, fun st mm ⟨a111, _⟩ _ => ogB 111 rfl (a111.trans rfl) rfl, fun st mm ⟨a111, _⟩ _ => ogB 111 rfl (a111.trans rfl) rfl, fun st mm ⟨a111, _⟩ _ => ogB 111 rfl (a111.trans rfl) rfl, fun st mm ⟨a111, _⟩ _ => ogB 111 rfl (a111.trans rfl) rfl, fun st mm ⟨a111, _⟩ _ => og (pickT rfl (a111.trans rfl) kB), trivial⟩ ?_
                        refine pnm ?_
                        exact sj (hj604 _) (entR [(100, 100)] rfl (keepS hγ trivial) ⟨⟨_, rfl⟩, trivial⟩ ⟨⟨_, _, rfl, rfl, rci (rc_sl (ifs_map (f := L_retrospectref16_Word) (fun _ => if_L_retrospectref16_Word) s560))⟩, trivial⟩ ⟨⟨_, rfl, rn_id if_str⟩, ⟨_, rfl, rn_id if_sli⟩, ⟨_, rfl, rn_id if_i64⟩, ⟨_, rfl, rn_own rfl⟩, ⟨_, rfl, rn_id if_bl⟩, ⟨_, rfl, rn_id if_i64⟩, ⟨_, rfl, rn_id if_bl⟩, trivial⟩)
                      · refine bd fun r607 h608 => ?_
                        refine sdraw [⟨[9], [103], [(108, .ptr 103 0)], []⟩, ⟨[108], [103], [(109, i64 y598.Kind)], []⟩, ⟨[109], [], [(110, bl (decide (y598.Kind = (0 : Int))))], []⟩, ⟨[110], [], [(111, bl false)], []⟩, ⟨[111, 9], [103], [(112, .ptr 103 1)], []⟩, ⟨[111, 112], [103], [(113, str y598.Text)], []⟩, ⟨[111, 113], [], [(114, i64 (y598.Text.length : Int))], []⟩, ⟨[111, 9], [103], [(115, .ptr 103 0)], []⟩, ⟨[111, 115], [103], [(116, i64 y598.Kind)], []⟩, ⟨[111, 116], [], [(117, i64 r607)], []⟩, ⟨[111, 114, 117], [], [(118, bl (decide (r607 < (y598.Text.length : Int))))], []⟩, ⟨[111, 118], [], [(119, bl (decide (r607 < (y598.Text.length : Int))))], []⟩] fol (by kernel_rfl) ⟨fun st mm ⟨a9, _⟩ ⟨g103, _⟩ => og (faO (g103.trans rfl) fd_81_0 rfl (a9.trans rfl)), fun st mm ⟨a108, _⟩ ⟨g103, _⟩ => og (ldB [0] (g103.trans rfl) (by exact rfl) sh_3 (by exact rfl) (by exact rfl) rfl (a108.trans rfl) (.inl rfl)), fun st mm ⟨a109, _⟩ _ => og (eqI rfl (a109.trans rfl) (kI (x := 0) rfl)), fun st mm ⟨a110, _⟩ _ => og (okb hb606 (mv rfl (a110.trans rfl))), fun st mm ⟨a111, a9, _⟩ ⟨g103, _⟩ => ogG 111 rfl (a111.trans rfl) (faO (g103.trans rfl) fd_81_1 rfl (a9.trans rfl)), fun st mm ⟨a111, a112, _⟩ ⟨g103, _⟩ => ogG 111 rfl (a111.trans rfl) (ldB [1] (g103.trans rfl) (by exact rfl) sh_9 (by exact rfl) (by exact rfl) rfl (a112.trans rfl) (.inl rfl)), fun st mm ⟨a111, a113, _⟩ _ => ogG 111 rfl (a111.trans rfl) (lenS Tryz.underlying9 rfl (a113.trans rfl)), fun st mm ⟨a111, a9, _⟩ ⟨g103, _⟩ => ogG 111 rfl (a111.trans rfl) (faO (g103.trans rfl) fd_81_0 rfl (a9.trans rfl)), fun st mm ⟨a111, a115, _⟩ ⟨g103, _⟩ => ogG 111 rfl (a111.trans rfl) (ldB [0] (g103.trans rfl) (by exact rfl) sh_3 (by exact rfl) (by exact rfl) rfl (a115.trans rfl) (.inl rfl)), fun st mm ⟨a111, a116, _⟩ _ => ogG 111 rfl (a111.trans rfl) (call0 (c_retrospectref16_Most _ h608) ⟨⟨_, (a116.trans rfl), rn_id if_i64⟩, trivial⟩ (if_i64) rfl), fun st mm ⟨a111, a114, a117, _⟩ _ => ogG 111 rfl (a111.trans rfl) (gtI rfl (a114.trans rfl) (a117.trans rfl)), fun st mm ⟨a111, a118, _⟩ _ => og (pickF rfl (a111.trans rfl) (a118.trans rfl)), trivial⟩ ?_
                        refine pnm ?_
                        exact sj (hj604 _) (entR [(100, 100)] rfl (keepS hγ trivial) ⟨⟨_, rfl⟩, trivial⟩ ⟨⟨_, _, rfl, rfl, rci (rc_sl (ifs_map (f := L_retrospectref16_Word) (fun _ => if_L_retrospectref16_Word) s560))⟩, trivial⟩ ⟨⟨_, rfl, rn_id if_str⟩, ⟨_, rfl, rn_id if_sli⟩, ⟨_, rfl, rn_id if_i64⟩, ⟨_, rfl, rn_own rfl⟩, ⟨_, rfl, rn_id if_bl⟩, ⟨_, rfl, rn_id if_i64⟩, ⟨_, rfl, rn_id if_bl⟩, trivial⟩)
                    · intro s605
                      refine scond rfl ?_ ?_
                      · refine sseq ?_
                        refine sreg ?_
                        refine so (bsl (y := 104) (ls := List.map L_retrospectref16_Word ([] : List M_retrospectref16_Word)) Tryz.underlying100 ti_81 rfl rfl rfl rfl rfl trivial rfl rfl) ?_
                        refine s1 (mv rfl rfl) ?_
                        refine s1 (asg rfl rfl) ?_
                        refine s1 (asg rfl rfl) ?_
                        refine snil ?_
                        refine pnm ?_
                        refine sret ?_
                        refine pbl ?_
                        refine pth ?_
                        refine sout (fun h => by cases h) ?_
                        refine pbl ?_
                        refine pth ?_
                        refine frz (id := 104) [(2, sli 3 (List.map L_retrospectref16_Word ([] : List M_retrospectref16_Word))), (120, sli 3 (List.map L_retrospectref16_Word ([] : List M_retrospectref16_Word)))] [] rfl (ifs_map (f := L_retrospectref16_Word) (fun _ => if_L_retrospectref16_Word) ([] : List M_retrospectref16_Word)) ⟨⟨_, rfl, fz_own⟩, ⟨_, rfl, fz_own⟩, trivial⟩ trivial ?_
                        exact ret [] [.tmp 2, .tmp 3] [_, _] [_, _] .ret hγ (.inl rfl) rfl ⟨rfl, rfl, trivial⟩ rfl trivial trivial trivial (rns_cons (rn_id if_sli) (rns_cons (rn_id if_i64) (rns_nil))) rfl
                      · refine sskip ?_
                        refine pbn ?_
                        refine pnm ?_
                        exact sj (hj508 _) (entR [(100, 100)] rfl (keepS hγ trivial) ⟨⟨_, rfl⟩, trivial⟩ ⟨⟨_, _, rfl, rfl, rci (rc_sl (ifs_map (f := L_retrospectref16_Word) (fun _ => if_L_retrospectref16_Word) s560))⟩, trivial⟩ ⟨⟨_, rfl, rn_id if_str⟩, ⟨_, rfl, rn_id if_sli⟩, ⟨_, rfl, rn_id if_i64⟩, ⟨_, rfl, rn_own rfl⟩, ⟨_, rfl, rn_id if_bl⟩, ⟨_, rfl, rn_id if_i64⟩, trivial⟩)
        · intro s509
          refine sreg ?_
          refine s1 (mv rfl rfl) ?_
          refine s1 (addI rfl rfl (kI (x := 1) rfl)) ?_
          refine s1 (asg rfl rfl) ?_
          refine snil ?_
          exact sgo (entR [(100, 100)] rfl (keepS hγ trivial) ⟨⟨_, rfl⟩, trivial⟩ ⟨⟨_, _, rfl, rfl, rci (rc_sl (ifs_map (f := L_retrospectref16_Word) (fun _ => if_L_retrospectref16_Word) s509.1))⟩, trivial⟩ ⟨⟨_, rfl, rn_id if_str⟩, ⟨_, rfl, rn_id if_sli⟩, ⟨_, rfl, rn_id if_i64⟩, ⟨_, rfl, rn_own rfl⟩, ⟨_, rfl, rn_id if_bl⟩, ⟨_, rfl, rn_id if_i64⟩, trivial⟩)
      · refine sexit ?_
        refine ptx ?_
        exact sout (fun h => by cases h) (sj (hj406 _) (entR [(100, 100)] rfl (keepS hγ trivial) ⟨⟨_, rfl⟩, trivial⟩ ⟨⟨_, _, rfl, rfl, rci (rc_sl (ifs_map (f := L_retrospectref16_Word) (fun _ => if_L_retrospectref16_Word) s407.1))⟩, trivial⟩ ⟨⟨_, rfl, rn_id if_sli⟩, ⟨_, rfl, rn_id if_i64⟩, ⟨_, rfl, rn_own rfl⟩, trivial⟩))
    · intro t405
      refine slpk ?_
      refine sx ?_
      refine pnm ?_
      refine sseq ?_
      refine sreg ?_
      refine s1 (mv rfl rfl) ?_
      refine s1 (asg rfl rfl) ?_
      refine s1 (asg rfl (kI (x := (-1)) rfl)) ?_
      refine snil ?_
      refine pnm ?_
      refine sret ?_
      refine frz (id := 100) [(2, sli 3 (List.map L_retrospectref16_Word t405)), (4, sli 3 (List.map L_retrospectref16_Word t405)), (122, sli 3 (List.map L_retrospectref16_Word t405))] [] rfl (ifs_map (f := L_retrospectref16_Word) (fun _ => if_L_retrospectref16_Word) t405) ⟨⟨_, rfl, fz_own⟩, ⟨_, rfl, fz_own⟩, ⟨_, rfl, fz_own⟩, trivial⟩ trivial ?_
      exact ret [] [.tmp 2, .tmp 3] [_, _] [_, _] .ret hγ (.inl rfl) rfl ⟨rfl, rfl, trivial⟩ rfl trivial trivial trivial (rns_cons (rn_id if_sli) (rns_cons (rn_id if_i64) (rns_nil))) rfl
theorem c_retrospectref16_Right {n : Nat} {x0 : M_retrospectref16_Word} : ∀ r, m_retrospectref16_Right n x0 = some r → FnOk Tryz.prog 33 [L_retrospectref16_Word x0] [] (bl r) [] := by
  unfold m_retrospectref16_Right
  refine fn_of_sq (res := fun (r : Bool) => bl r) (mo := fun (r : Bool) => []) Tryz.func33 rfl rfl (by kernel_rfl) rfl ?_
  intro w S0 γ hγ
  refine sseq ?_
  refine sreg ?_
  refine so (box (y := 100) (by exact rfl) rfl rfl rfl) ?_
  refine s1 (asg rfl kB) ?_
  refine snil ?_
  refine pnm ?_
  refine sseq ?_
  refine sreg ?_
  refine s1 (faO rfl fd_81_1 rfl rfl) ?_
  refine s1 (ldB [1] rfl (by exact rfl) sh_9 (by exact rfl) (by exact rfl) rfl rfl (.inl rfl)) ?_
  refine bd fun r1 h2 => ?_
  refine s1 (call0 (c_retrospectref16_Scan _ h2) ⟨⟨_, rfl, rn_id if_str⟩, trivial⟩ (if_tup (ifs_cons if_sli (ifs_cons if_i64 (ifs_nil)))) rfl) ?_
  refine s1 (mv rfl rfl) ?_
  refine s1 (ext (by exact rfl) rfl rfl) ?_
  refine s1 (ext (by exact rfl) rfl rfl) ?_
  refine s1 (asg rfl rfl) ?_
  refine s1 (asg rfl rfl) ?_
  refine snil ?_
  refine pnm ?_
  refine sjq (fun (s12 : Bool) => [(2, bl s12)]) (fun (s12 : Bool) => []) ?_ ?_
  · intro j10 hj11
    refine sif (fun hb13 => ?_) (fun hb13 => ?_)
    · refine sif (fun hb14 => ?_) (fun hb14 => ?_)
      · refine bd fun y15 h16 => ?_
        refine sif (fun hb17 => ?_) (fun hb17 => ?_)
        · refine bd fun y18 h19 => ?_
          refine sdraw [⟨[4], [], [(11, i64 r1.2)], []⟩, ⟨[11], [], [(12, bl (decide (r1.2 < (0 : Int))))], []⟩, ⟨[12], [], [(13, bl true)], []⟩, ⟨[13, 3], [], [(14, sli 3 (List.map L_retrospectref16_Word r1.1))], []⟩, ⟨[13, 14], [], [(15, i64 (r1.1.length : Int))], []⟩, ⟨[13, 15], [], [(16, bl (decide ((r1.1.length : Int) = (1 : Int))))], []⟩, ⟨[13, 16], [], [(17, bl (decide ((r1.1.length : Int) = (1 : Int))))], []⟩, ⟨[17], [], [(18, bl true)], []⟩, ⟨[18, 3], [], [(19, sli 3 (List.map L_retrospectref16_Word r1.1))], []⟩, ⟨[18, 19], [], [(20, .ref (L_retrospectref16_Word y15))], []⟩, ⟨[18, 20], [], [(21, .ref (i64 y15.Kind))], []⟩, ⟨[18, 21], [], [(22, i64 y15.Kind)], []⟩, ⟨[18, 1], [100], [(23, .ptr 100 0)], []⟩, ⟨[18, 23], [100], [(24, i64 x0.Kind)], []⟩, ⟨[18, 22, 24], [], [(25, bl (decide (y15.Kind = x0.Kind)))], []⟩, ⟨[18, 25], [], [(26, bl (decide (y15.Kind = x0.Kind)))], []⟩, ⟨[26], [], [(27, bl true)], []⟩, ⟨[27, 3], [], [(28, sli 3 (List.map L_retrospectref16_Word r1.1))], []⟩, ⟨[27, 28], [], [(29, .ref (L_retrospectref16_Word y18))], []⟩, ⟨[27, 29], [], [(30, .ref (str y18.Text))], []⟩, ⟨[27, 30], [], [(31, str y18.Text)], []⟩, ⟨[27, 1], [100], [(32, .ptr 100 1)], []⟩, ⟨[27, 32], [100], [(33, str x0.Text)], []⟩, ⟨[27, 31, 33], [], [(34, bl (decide (y18.Text = x0.Text)))], []⟩, ⟨[27, 34], [], [(35, bl (decide (y18.Text = x0.Text)))], []⟩, ⟨[35], [], [(2, bl (decide (y18.Text = x0.Text)))], []⟩] fol (by kernel_rfl) ⟨fun st mm ⟨a4, _⟩ _ => og (mv rfl (a4.trans rfl)), fun st mm ⟨a11, _⟩ _ => og (ltI rfl (a11.trans rfl) (kI (x := 0) rfl)), fun st mm ⟨a12, _⟩ _ => og (okb hb13 (mv rfl (a12.trans rfl))), fun st mm ⟨a13, a3, _⟩ _ => ogG 13 rfl (a13.trans rfl) (mv rfl (a3.trans rfl)), fun st mm ⟨a13, a14, _⟩ _ => ogG 13 rfl (a13.trans rfl) (lenL (f := L_retrospectref16_Word) Tryz.underlying100 rfl (a14.trans rfl)), fun st mm ⟨a13, a15, _⟩ _ => ogG 13 rfl (a13.trans rfl) (eqI rfl (a15.trans rfl) (kI (x := 1) rfl)), fun st mm ⟨a13, a16, _⟩ _ => og (pickT rfl (a13.trans rfl) (a16.trans rfl)), fun st mm ⟨a17, _⟩ _ => og (okb hb14 (mv rfl (a17.trans rfl))), fun st mm ⟨a18, a3, _⟩ _ => ogG 18 rfl (a18.trans rfl) (mv rfl (a3.trans rfl)), fun st mm ⟨a18, a19, _⟩ _ => ogG 18 rfl (a18.trans rfl) (ixR (f := L_retrospectref16_Word) Tryz.underlying100 ti_81 h16 rfl (a19.trans rfl) (kI (x := 0) rfl)), fun st mm ⟨a18, a20, _⟩ _ => ogG 18 rfl (a18.trans rfl) (faR fd_81_0 (by exact rfl) rfl (a20.trans rfl)), fun st mm ⟨a18, a21, _⟩ _ => ogG 18 rfl (a18.trans rfl) (ldR sh_3 (by exact rfl) (by exact rfl) rfl (a21.trans rfl)), fun st mm ⟨a18, a1, _⟩ ⟨g100, _⟩ => ogG 18 rfl (a18.trans rfl) (faO (g100.trans rfl) fd_81_0 rfl (a1.trans rfl)), fun st mm ⟨a18, a23, _⟩ ⟨g100, _⟩ => ogG 18 rfl (a18.trans rfl) (ldB [0] (g100.trans rfl) (by exact rfl) sh_3 (by exact rfl) (by exact rfl) rfl (a23.trans rfl) (.inl rfl)), fun st mm ⟨a18, a22, a24, _⟩ _ => ogG 18 rfl (a18.trans rfl) (eqI rfl (a22.trans rfl) (a24.trans rfl)), fun st mm ⟨a18, a25, _⟩ _ => og (pickT rfl (a18.trans rfl) (a25.trans rfl)), fun st mm ⟨a26, _⟩ _ => og (okb hb17 (mv rfl (a26.trans rfl))), fun st mm ⟨a27, a3, _⟩ _ => ogG 27 rfl (a27.trans rfl) (mv rfl (a3.trans rfl)), fun st mm ⟨a27, a28, _⟩ _ => ogG 27 rfl (a27.trans rfl) (ixR (f := L_retrospectref16_Word) Tryz.underlying100 ti_81 h19 rfl (a28.trans rfl) (kI (x := 0) rfl)), fun st mm ⟨a27, a29, _⟩ _ => ogG 27 rfl (a27.trans rfl) (faR fd_81_1 (by exact rfl) rfl (a29.trans rfl)), fun st mm ⟨a27, a30, _⟩ _ => ogG 27 rfl (a27.trans rfl) (ldR sh_9 (by exact rfl) (by exact rfl) rfl (a30.trans rfl)), fun st mm ⟨a27, a1, _⟩ ⟨g100, _⟩ => ogG 27 rfl (a27.trans rfl) (faO (g100.trans rfl) fd_81_1 rfl (a1.trans rfl)), fun st mm ⟨a27, a32, _⟩ ⟨g100, _⟩ => ogG 27 rfl (a27.trans rfl) (ldB [1] (g100.trans rfl) (by exact rfl) sh_9 (by exact rfl) (by exact rfl) rfl (a32.trans rfl) (.inl rfl)), fun st mm ⟨a27, a31, a33, _⟩ _ => ogG 27 rfl (a27.trans rfl) (eqS rfl (a31.trans rfl) (a33.trans rfl)), fun st mm ⟨a27, a34, _⟩ _ => og (pickT rfl (a27.trans rfl) (a34.trans rfl)), fun st mm ⟨a35, _⟩ _ => og (asg rfl (a35.trans rfl)), trivial⟩ ?_
          refine pnm ?_
          exact sj (hj11 _) (entR [] rfl (keepS hγ trivial) (by exact trivial) (by exact trivial) ⟨⟨_, rfl, rn_id if_bl⟩, trivial⟩)
        · refine sdraw [⟨[4], [], [(11, i64 r1.2)], []⟩, ⟨[11], [], [(12, bl (decide (r1.2 < (0 : Int))))], []⟩, ⟨[12], [], [(13, bl true)], []⟩, ⟨[13, 3], [], [(14, sli 3 (List.map L_retrospectref16_Word r1.1))], []⟩, ⟨[13, 14], [], [(15, i64 (r1.1.length : Int))], []⟩, ⟨[13, 15], [], [(16, bl (decide ((r1.1.length : Int) = (1 : Int))))], []⟩, ⟨[13, 16], [], [(17, bl (decide ((r1.1.length : Int) = (1 : Int))))], []⟩, ⟨[17], [], [(18, bl true)], []⟩, ⟨[18, 3], [], [(19, sli 3 (List.map L_retrospectref16_Word r1.1))], []⟩, ⟨[18, 19], [], [(20, .ref (L_retrospectref16_Word y15))], []⟩, ⟨[18, 20], [], [(21, .ref (i64 y15.Kind))], []⟩, ⟨[18, 21], [], [(22, i64 y15.Kind)], []⟩, ⟨[18, 1], [100], [(23, .ptr 100 0)], []⟩, ⟨[18, 23], [100], [(24, i64 x0.Kind)], []⟩, ⟨[18, 22, 24], [], [(25, bl (decide (y15.Kind = x0.Kind)))], []⟩, ⟨[18, 25], [], [(26, bl (decide (y15.Kind = x0.Kind)))], []⟩, ⟨[26], [], [(27, bl false)], []⟩, ⟨[27], [], [(28, .tup [])], []⟩, ⟨[27], [], [(29, .tup [])], []⟩, ⟨[27], [], [(30, .tup [])], []⟩, ⟨[27], [], [(31, .tup [])], []⟩, ⟨[27], [], [(32, .tup [])], []⟩, ⟨[27], [], [(33, .tup [])], []⟩, ⟨[27], [], [(34, .tup [])], []⟩, ⟨[27], [], [(35, bl false)], []⟩, ⟨[35], [], [(2, bl false)], []⟩] fol (by kernel_rfl) ⟨fun st mm ⟨a4, _⟩ _ => og (mv rfl (a4.trans rfl)), fun st mm ⟨a11, _⟩ _ => og (ltI rfl (a11.trans rfl) (kI (x := 0) rfl)), fun st mm ⟨a12, _⟩ _ => og (okb hb13 (mv rfl (a12.trans rfl))), fun st mm ⟨a13, a3, _⟩ _ => ogG 13 rfl (a13.trans rfl) (mv rfl (a3.trans rfl)), fun st mm ⟨a13, a14, _⟩ _ => ogG 13 rfl (a13.trans rfl) (lenL (f := L_retrospectref16_Word) Tryz.underlying100 rfl (a14.trans rfl)), fun st mm ⟨a13, a15, _⟩ _ => ogG 13 rfl (a13.trans rfl) (eqI rfl (a15.trans rfl) (kI (x := 1) rfl)), fun st mm ⟨a13, a16, _⟩ _ => og (pickT rfl (a13.trans rfl) (a16.trans rfl)), fun st mm ⟨a17, _⟩ _ => og (okb hb14 (mv rfl (a17.trans rfl))), fun st mm ⟨a18, a3, _⟩ _ => ogG 18 rfl (a18.trans rfl) (mv rfl (a3.trans rfl)), fun st mm ⟨a18, a19, _⟩ _ => ogG 18 rfl (a18.trans rfl) (ixR (f := L_retrospectref16_Word) Tryz.underlying100 ti_81 h16 rfl (a19.trans rfl) (kI (x := 0) rfl)), fun st mm ⟨a18, a20, _⟩ _ => ogG 18 rfl (a18.trans rfl) (faR fd_81_0 (by exact rfl) rfl (a20.trans rfl)), fun st mm ⟨a18, a21, _⟩ _ => ogG 18 rfl (a18.trans rfl) (ldR sh_3 (by exact rfl) (by exact rfl) rfl (a21.trans rfl)), fun st mm ⟨a18, a1, _⟩ ⟨g100, _⟩ => ogG 18 rfl (a18.trans rfl) (faO (g100.trans rfl) fd_81_0 rfl (a1.trans rfl)), fun st mm ⟨a18, a23, _⟩ ⟨g100, _⟩ => ogG 18 rfl (a18.trans rfl) (ldB [0] (g100.trans rfl) (by exact rfl) sh_3 (by exact rfl) (by exact rfl) rfl (a23.trans rfl) (.inl rfl)), fun st mm ⟨a18, a22, a24, _⟩ _ => ogG 18 rfl (a18.trans rfl) (eqI rfl (a22.trans rfl) (a24.trans rfl)), fun st mm ⟨a18, a25, _⟩ _ => og (pickT rfl (a18.trans rfl) (a25.trans rfl)), fun st mm ⟨a26, _⟩ _ => og (okb hb17 (mv rfl (a26.trans rfl))), fun st mm ⟨a27, _⟩ _ => ogB 27 rfl (a27.trans rfl) rfl, fun st mm ⟨a27, _⟩ _ => ogB 27 rfl (a27.trans rfl) rfl, fun st mm ⟨a27, _⟩ _ => ogB 27 rfl (a27.trans rfl) rfl, fun st mm ⟨a27, _⟩ _ => ogB 27 rfl (a27.trans rfl) rfl, fun st mm ⟨a27, _⟩ _ => ogB 27 rfl (a27.trans rfl) rfl, fun st mm ⟨a27, _⟩ _ => ogB 27 rfl (a27.trans rfl) rfl, fun st mm ⟨a27, _⟩ _ => ogB 27 rfl (a27.trans rfl) rfl, fun st mm ⟨a27, _⟩ _ => og (pickF rfl (a27.trans rfl) kB), fun st mm ⟨a35, _⟩ _ => og (asg rfl (a35.trans rfl)), trivial⟩ ?_
          refine pnm ?_
          exact sj (hj11 _) (entR [] rfl (keepS hγ trivial) (by exact trivial) (by exact trivial) ⟨⟨_, rfl, rn_id if_bl⟩, trivial⟩)
      · refine sdraw [⟨[4], [], [(11, i64 r1.2)], []⟩, ⟨[11], [], [(12, bl (decide (r1.2 < (0 : Int))))], []⟩, ⟨[12], [], [(13, bl true)], []⟩, ⟨[13, 3], [], [(14, sli 3 (List.map L_retrospectref16_Word r1.1))], []⟩, ⟨[13, 14], [], [(15, i64 (r1.1.length : Int))], []⟩, ⟨[13, 15], [], [(16, bl (decide ((r1.1.length : Int) = (1 : Int))))], []⟩, ⟨[13, 16], [], [(17, bl (decide ((r1.1.length : Int) = (1 : Int))))], []⟩, ⟨[17], [], [(18, bl false)], []⟩, ⟨[18], [], [(19, .tup [])], []⟩, ⟨[18], [], [(20, .tup [])], []⟩, ⟨[18], [], [(21, .tup [])], []⟩, ⟨[18], [], [(22, .tup [])], []⟩, ⟨[18], [], [(23, .tup [])], []⟩, ⟨[18], [], [(24, .tup [])], []⟩, ⟨[18], [], [(25, .tup [])], []⟩, ⟨[18], [], [(26, bl false)], []⟩, ⟨[26], [], [(27, bl false)], []⟩, ⟨[27], [], [(28, .tup [])], []⟩, ⟨[27], [], [(29, .tup [])], []⟩, ⟨[27], [], [(30, .tup [])], []⟩, ⟨[27], [], [(31, .tup [])], []⟩, ⟨[27], [], [(32, .tup [])], []⟩, ⟨[27], [], [(33, .tup [])], []⟩, ⟨[27], [], [(34, .tup [])], []⟩, ⟨[27], [], [(35, bl false)], []⟩, ⟨[35], [], [(2, bl false)], []⟩] fol (by kernel_rfl) ⟨fun st mm ⟨a4, _⟩ _ => og (mv rfl (a4.trans rfl)), fun st mm ⟨a11, _⟩ _ => og (ltI rfl (a11.trans rfl) (kI (x := 0) rfl)), fun st mm ⟨a12, _⟩ _ => og (okb hb13 (mv rfl (a12.trans rfl))), fun st mm ⟨a13, a3, _⟩ _ => ogG 13 rfl (a13.trans rfl) (mv rfl (a3.trans rfl)), fun st mm ⟨a13, a14, _⟩ _ => ogG 13 rfl (a13.trans rfl) (lenL (f := L_retrospectref16_Word) Tryz.underlying100 rfl (a14.trans rfl)), fun st mm ⟨a13, a15, _⟩ _ => ogG 13 rfl (a13.trans rfl) (eqI rfl (a15.trans rfl) (kI (x := 1) rfl)), fun st mm ⟨a13, a16, _⟩ _ => og (pickT rfl (a13.trans rfl) (a16.trans rfl)), fun st mm ⟨a17, _⟩ _ => og (okb hb14 (mv rfl (a17.trans rfl))), fun st mm ⟨a18, _⟩ _ => ogB 18 rfl (a18.trans rfl) rfl, fun st mm ⟨a18, _⟩ _ => ogB 18 rfl (a18.trans rfl) rfl, fun st mm ⟨a18, _⟩ _ => ogB 18 rfl (a18.trans rfl) rfl, fun st mm ⟨a18, _⟩ _ => ogB 18 rfl (a18.trans rfl) rfl, fun st mm ⟨a18, _⟩ _ => ogB 18 rfl (a18.trans rfl) rfl, fun st mm ⟨a18, _⟩ _ => ogB 18 rfl (a18.trans rfl) rfl, fun st mm ⟨a18, _⟩ _ => ogB 18 rfl (a18.trans rfl) rfl, fun st mm ⟨a18, _⟩ _ => og (pickF rfl (a18.trans rfl) kB), fun st mm ⟨a26, _⟩ _ => og (mv rfl (a26.trans rfl)), fun st mm ⟨a27, _⟩ _ => ogB 27 rfl (a27.trans rfl) rfl, fun st mm ⟨a27, _⟩ _ => ogB 27 rfl (a27.trans rfl) rfl, fun st mm ⟨a27, _⟩ _ => ogB 27 rfl (a27.trans rfl) rfl, fun st mm ⟨a27, _⟩ _ => ogB 27 rfl (a27.trans rfl) rfl, fun st mm ⟨a27, _⟩ _ => ogB 27 rfl (a27.trans rfl) rfl, fun st mm ⟨a27, _⟩ _ => ogB 27 rfl (a27.trans rfl) rfl, fun st mm ⟨a27, _⟩ _ => ogB 27 rfl (a27.trans rfl) rfl, fun st mm ⟨a27, _⟩ _ => og (pickF rfl (a27.trans rfl) kB), fun st mm ⟨a35, _⟩ _ => og (asg rfl (a35.trans rfl)), trivial⟩ ?_
        refine pnm ?_
        exact sj (hj11 _) (entR [] rfl (keepS hγ trivial) (by exact trivial) (by exact trivial) ⟨⟨_, rfl, rn_id if_bl⟩, trivial⟩)
    · refine sdraw [⟨[4], [], [(11, i64 r1.2)], []⟩, ⟨[11], [], [(12, bl (decide (r1.2 < (0 : Int))))], []⟩, ⟨[12], [], [(13, bl false)], []⟩, ⟨[13], [], [(14, .tup [])], []⟩, ⟨[13], [], [(15, .tup [])], []⟩, ⟨[13], [], [(16, .tup [])], []⟩, ⟨[13], [], [(17, bl false)], []⟩, ⟨[17], [], [(18, bl false)], []⟩, ⟨[18], [], [(19, .tup [])], []⟩, ⟨[18], [], [(20, .tup [])], []⟩, ⟨[18], [], [(21, .tup [])], []⟩, ⟨[18], [], [(22, .tup [])], []⟩, ⟨[18], [], [(23, .tup [])], []⟩, ⟨[18], [], [(24, .tup [])], []⟩, ⟨[18], [], [(25, .tup [])], []⟩, ⟨[18], [], [(26, bl false)], []⟩, ⟨[26], [], [(27, bl false)], []⟩, ⟨[27], [], [(28, .tup [])], []⟩, ⟨[27], [], [(29, .tup [])], []⟩, ⟨[27], [], [(30, .tup [])], []⟩, ⟨[27], [], [(31, .tup [])], []⟩, ⟨[27], [], [(32, .tup [])], []⟩, ⟨[27], [], [(33, .tup [])], []⟩, ⟨[27], [], [(34, .tup [])], []⟩, ⟨[27], [], [(35, bl false)], []⟩, ⟨[35], [], [(2, bl false)], []⟩] fol (by kernel_rfl) ⟨fun st mm ⟨a4, _⟩ _ => og (mv rfl (a4.trans rfl)), fun st mm ⟨a11, _⟩ _ => og (ltI rfl (a11.trans rfl) (kI (x := 0) rfl)), fun st mm ⟨a12, _⟩ _ => og (okb hb13 (mv rfl (a12.trans rfl))), fun st mm ⟨a13, _⟩ _ => ogB 13 rfl (a13.trans rfl) rfl, fun st mm ⟨a13, _⟩ _ => ogB 13 rfl (a13.trans rfl) rfl, fun st mm ⟨a13, _⟩ _ => ogB 13 rfl (a13.trans rfl) rfl, fun st mm ⟨a13, _⟩ _ => og (pickF rfl (a13.trans rfl) kB), fun st mm ⟨a17, _⟩ _ => og (mv rfl (a17.trans rfl)), fun st mm ⟨a18, _⟩ _ => ogB 18 rfl (a18.trans rfl) rfl, fun st mm ⟨a18, _⟩ _ => ogB 18 rfl (a18.trans rfl) rfl, fun st mm ⟨a18, _⟩ _ => ogB 18 rfl (a18.trans rfl) rfl, fun st mm ⟨a18, _⟩ _ => ogB 18 rfl (a18.trans rfl) rfl, fun st mm ⟨a18, _⟩ _ => ogB 18 rfl (a18.trans rfl) rfl, fun st mm ⟨a18, _⟩ _ => ogB 18 rfl (a18.trans rfl) rfl, fun st mm ⟨a18, _⟩ _ => ogB 18 rfl (a18.trans rfl) rfl, fun st mm ⟨a18, _⟩ _ => og (pickF rfl (a18.trans rfl) kB), fun st mm ⟨a26, _⟩ _ => og (mv rfl (a26.trans rfl)), fun st mm ⟨a27, _⟩ _ => ogB 27 rfl (a27.trans rfl) rfl, fun st mm ⟨a27, _⟩ _ => ogB 27 rfl (a27.trans rfl) rfl, fun st mm ⟨a27, _⟩ _ => ogB 27 rfl (a27.trans rfl) rfl, fun st mm ⟨a27, _⟩ _ => ogB 27 rfl (a27.trans rfl) rfl, fun st mm ⟨a27, _⟩ _ => ogB 27 rfl (a27.trans rfl) rfl, fun st mm ⟨a27, _⟩ _ => ogB 27 rfl (a27.trans rfl) rfl, fun st mm ⟨a27, _⟩ _ => ogB 27 rfl (a27.trans rfl) rfl, fun st mm ⟨a27, _⟩ _ => og (pickF rfl (a27.trans rfl) kB), fun st mm ⟨a35, _⟩ _ => og (asg rfl (a35.trans rfl)), trivial⟩ ?_
      refine pnm ?_
      exact sj (hj11 _) (entR [] rfl (keepS hγ trivial) (by exact trivial) (by exact trivial) ⟨⟨_, rfl, rn_id if_bl⟩, trivial⟩)
  · intro s12
    refine sret ?_
    exact ret [] [.tmp 2] [_] [_] .ret hγ (.inl rfl) rfl ⟨rfl, trivial⟩ rfl trivial trivial trivial (rns_cons (rn_id if_bl) (rns_nil)) rfl
theorem c_retrospectref48_named {n : Nat} {x0 : (List UInt8)} : ∀ r, m_retrospectref48_named n x0 = some r → FnOk Tryz.prog 21 [str x0] [] (bl r) [] := by
  unfold m_retrospectref48_named
  refine fn_of_sq (res := fun (r : Bool) => bl r) (mo := fun (r : Bool) => []) Tryz.func21 rfl rfl (by kernel_rfl) rfl ?_
  intro w S0 γ hγ
  refine sseq ?_
  refine sreg ?_
  refine s1 (asg rfl kB) ?_
  refine snil ?_
  refine pnm ?_
  refine sseq ?_
  refine sreg ?_
  refine s1 (mv rfl rfl) ?_
  refine s1 (bld (l := [i64 (2 : Int), str x0, i64 0]) pl_81 ti_81 zr_retrospectref16_Word ⟨_, _, _, (kI (x := 2) rfl), rfl, rfl, rfl, (szk (k := 1) rfl rfl), ⟨_, _, _, rfl, rfl, rfl, rfl, (szk (k := 1) rfl rfl), rfl⟩⟩ rfl) ?_
  refine bd fun r1 h2 => ?_
  refine s1 (call0 (c_retrospectref16_Right _ h2) ⟨⟨_, rfl, rn_id if_L_retrospectref16_Word⟩, trivial⟩ (if_bl) rfl) ?_
  refine s1 (asg rfl rfl) ?_
  refine snil ?_
  refine pnm ?_
  refine sret ?_
  exact ret [] [.tmp 2] [_] [_] .ret hγ (.inl rfl) rfl ⟨rfl, trivial⟩ rfl trivial trivial trivial (rns_cons (rn_id if_bl) (rns_nil)) rfl
theorem c_retrospectref48_May {n : Nat} {x0 : (List M_retrospectref48_Piece)} : ∀ r, m_retrospectref48_May n x0 = some r → FnOk Tryz.prog 10 [sli 2 (List.map L_retrospectref48_Piece x0)] [] (bl r) [] := by
  unfold m_retrospectref48_May
  refine fn_of_sq (res := fun (r : Bool) => bl r) (mo := fun (r : Bool) => []) Tryz.func10 rfl rfl (by kernel_rfl) rfl ?_
  intro w S0 γ hγ
  refine sseq ?_
  refine sreg ?_
  refine s1 (asg rfl kB) ?_
  refine snil ?_
  refine pnm ?_
  refine sseq ?_
  refine sseq ?_
  refine sreg ?_
  refine s1 (mv rfl rfl) ?_
  refine s1 (lenL (f := L_retrospectref48_Piece) Tryz.underlying22 rfl rfl) ?_
  refine s1 (gtI rfl rfl (kI (x := 30) rfl)) ?_
  refine snil ?_
  refine pnm ?_
  refine scond rfl ?_ ?_
  · refine sseq ?_
    refine sreg ?_
    refine s1 (asg rfl kB) ?_
    refine snil ?_
    refine pnm ?_
    refine sret ?_
    refine pth ?_
    exact ret [] [.tmp 2] [_] [_] .ret hγ (.inl rfl) rfl ⟨rfl, trivial⟩ rfl trivial trivial trivial (rns_cons (rn_id if_bl) (rns_nil)) rfl
  · refine sskip ?_
    refine pnm ?_
    refine sseq ?_
    refine sseq ?_
    refine sreg ?_
    refine s1 (asg rfl (kI (x := 0) rfl)) ?_
    refine snil ?_
    refine pnm ?_
    refine sblk ?_
    refine sloopE 0 Lp.go (fun (s64 : Int) => [(0, sli 2 (List.map L_retrospectref48_Piece x0)), (2, bl false), (3, i64 s64)]) (fun (s64 : Int) => []) (fun (t62 : Unit) => [(2, bl false)]) (fun (t62 : Unit) => []) (entI ⟨rfl, rfl, rfl, trivial⟩ eqm0) ?_ ?_
    · intro hj63 s64
      refine sseq ?_
      refine sseq ?_
      refine sreg ?_
      refine s1 (mv rfl rfl) ?_
      refine s1 (mv rfl rfl) ?_
      refine s1 (lenL (f := L_retrospectref48_Piece) Tryz.underlying22 rfl rfl) ?_
      refine s1 (ltI rfl rfl rfl) ?_
      refine snil ?_
      refine pnm ?_
      refine scond rfl ?_ ?_
      · refine sskip ?_
        refine pnm ?_
        refine sseq ?_
        refine sblk ?_
        refine sseq ?_
        refine sjq (fun (s73 : Bool) => [(0, sli 2 (List.map L_retrospectref48_Piece x0)), (2, bl false), (3, i64 s64), (29, bl s73)]) (fun (s73 : Bool) => []) ?_ ?_
        · intro j71 hj72
          refine sreg ?_
          refine s1 (mv rfl rfl) ?_
          refine s1 (mv rfl rfl) ?_
          refine bd fun y74 h75 => ?_
          refine s1 (ixR (f := L_retrospectref48_Piece) Tryz.underlying22 ti_31 h75 rfl rfl rfl) ?_
          refine s1 (faR fd_31_0 (by exact rfl) rfl rfl) ?_
          refine s1 (ldR sh_9 (by exact rfl) (by exact rfl) rfl rfl) ?_
          refine bd fun r76 h77 => ?_
          refine s1 (call0 (c_retrospectref48_named _ h77) ⟨⟨_, rfl, rn_id if_str⟩, trivial⟩ (if_bl) rfl) ?_
          refine s1 (notB rfl rfl) ?_
          refine s1 (mv rfl rfl) ?_
          refine sifd 21 rfl ?_ ?_
          · refine spB 21 rfl rfl rfl ?_
            refine spB 21 rfl rfl rfl ?_
            refine spB 21 rfl rfl rfl ?_
            refine spB 21 rfl rfl rfl ?_
            refine spB 21 rfl rfl rfl ?_
            refine spB 21 rfl rfl rfl ?_
            refine spB 21 rfl rfl rfl ?_
            refine s1 (pickT rfl rfl kB) ?_
            refine snil ?_
            refine pnm ?_
            exact sj (hj72 _) (entI ⟨rfl, rfl, rfl, rfl, trivial⟩ eqm0)
          · refine sg 21 rfl rfl (mv rfl rfl) ?_
            refine sg 21 rfl rfl (mv rfl rfl) ?_
            refine bd fun y78 h79 => ?_
            refine sg 21 rfl rfl (ixR (f := L_retrospectref48_Piece) Tryz.underlying22 ti_31 h79 rfl rfl rfl) ?_
            refine sg 21 rfl rfl (faR fd_31_1 (by exact rfl) rfl rfl) ?_
            refine sg 21 rfl rfl (ldR sh_9 (by exact rfl) (by exact rfl) rfl rfl) ?_
            refine sg 21 rfl rfl (lenS Tryz.underlying9 rfl rfl) ?_
            refine sg 21 rfl rfl (gtI rfl rfl (kI (x := 20000) rfl)) ?_
            refine s1 (pickF rfl rfl rfl) ?_
            refine snil ?_
            refine pnm ?_
            exact sj (hj72 _) (entI ⟨rfl, rfl, rfl, rfl, trivial⟩ eqm0)
        · intro s73
          refine scond rfl ?_ ?_
          · refine sseq ?_
            refine sreg ?_
            refine s1 (asg rfl kB) ?_
            refine snil ?_
            refine pnm ?_
            refine sret ?_
            refine pth ?_
            refine pbl ?_
            refine pth ?_
            refine sout (fun h => by cases h) ?_
            refine pbl ?_
            refine pth ?_
            exact ret [] [.tmp 2] [_] [_] .ret hγ (.inl rfl) rfl ⟨rfl, trivial⟩ rfl trivial trivial trivial (rns_cons (rn_id if_bl) (rns_nil)) rfl
          · refine sskip ?_
            refine pnm ?_
            refine sseq ?_
            refine sreg ?_
            refine s1 (asg rfl (kI (x := 0) rfl)) ?_
            refine snil ?_
            refine pnm ?_
            refine sblk ?_
            refine sloopE 2 Lp.go (fun (s87 : Int) => [(0, sli 2 (List.map L_retrospectref48_Piece x0)), (2, bl false), (3, i64 s64), (4, i64 s87)]) (fun (s87 : Int) => []) (fun (t85 : Unit) => [(0, sli 2 (List.map L_retrospectref48_Piece x0)), (2, bl false), (3, i64 s64)]) (fun (t85 : Unit) => []) (entI ⟨rfl, rfl, rfl, rfl, trivial⟩ eqm0) ?_ ?_
            · intro hj86 s87
              refine sseq ?_
              refine sseq ?_
              refine sreg ?_
              refine s1 (mv rfl rfl) ?_
              refine s1 (mv rfl rfl) ?_
              refine s1 (ltI rfl rfl rfl) ?_
              refine snil ?_
              refine pnm ?_
              refine scond rfl ?_ ?_
              · refine sskip ?_
                refine pnm ?_
                refine sseq ?_
                refine sblk ?_
                refine sseq ?_
                refine bd fun y88 h89 => ?_
                refine bd fun y90 h91 => ?_
                refine sdraw [⟨[0], [], [(35, sli 2 (List.map L_retrospectref48_Piece x0))], []⟩, ⟨[4], [], [(36, i64 s87)], []⟩, ⟨[35, 36], [], [(37, .ref (L_retrospectref48_Piece y88))], []⟩, ⟨[37], [], [(38, .ref (str y88.Name))], []⟩, ⟨[38], [], [(39, str y88.Name)], []⟩, ⟨[0], [], [(40, sli 2 (List.map L_retrospectref48_Piece x0))], []⟩, ⟨[3], [], [(41, i64 s64)], []⟩, ⟨[40, 41], [], [(42, .ref (L_retrospectref48_Piece y90))], []⟩, ⟨[42], [], [(43, .ref (str y90.Name))], []⟩, ⟨[43], [], [(44, str y90.Name)], []⟩, ⟨[39, 44], [], [(45, bl (decide (y88.Name = y90.Name)))], []⟩] fol (by kernel_rfl) ⟨fun st mm ⟨a0, _⟩ _ => og (mv rfl (a0.trans rfl)), fun st mm ⟨a4, _⟩ _ => og (mv rfl (a4.trans rfl)), fun st mm ⟨a35, a36, _⟩ _ => og (ixR (f := L_retrospectref48_Piece) Tryz.underlying22 ti_31 h89 rfl (a35.trans rfl) (a36.trans rfl)), fun st mm ⟨a37, _⟩ _ => og (faR fd_31_0 (by exact rfl) rfl (a37.trans rfl)), fun st mm ⟨a38, _⟩ _ => og (ldR sh_9 (by exact rfl) (by exact rfl) rfl (a38.trans rfl)), fun st mm ⟨a0, _⟩ _ => og (mv rfl (a0.trans rfl)), fun st mm ⟨a3, _⟩ _ => og (mv rfl (a3.trans rfl)), fun st mm ⟨a40, a41, _⟩ _ => og (ixR (f := L_retrospectref48_Piece) Tryz.underlying22 ti_31 h91 rfl (a40.trans rfl) (a41.trans rfl)), fun st mm ⟨a42, _⟩ _ => og (faR fd_31_0 (by exact rfl) rfl (a42.trans rfl)), fun st mm ⟨a43, _⟩ _ => og (ldR sh_9 (by exact rfl) (by exact rfl) rfl (a43.trans rfl)), fun st mm ⟨a39, a44, _⟩ _ => og (eqS rfl (a39.trans rfl) (a44.trans rfl)), trivial⟩ ?_
                refine pnm ?_
                refine scond rfl ?_ ?_
                · refine sseq ?_
                  refine sreg ?_
                  refine s1 (asg rfl kB) ?_
                  refine snil ?_
                  refine pnm ?_
                  refine sret ?_
                  refine pbl ?_
                  refine pth ?_
                  refine sout (fun h => by cases h) ?_
                  refine pbl ?_
                  refine pbl ?_
                  refine pth ?_
                  refine sout (fun h => by cases h) ?_
                  refine pbl ?_
                  refine pth ?_
                  exact ret [] [.tmp 2] [_] [_] .ret hγ (.inl rfl) rfl ⟨rfl, trivial⟩ rfl trivial trivial trivial (rns_cons (rn_id if_bl) (rns_nil)) rfl
                · refine sskip ?_
                  refine pbn ?_
                  refine pnm ?_
                  refine sreg ?_
                  refine s1 (mv rfl rfl) ?_
                  refine s1 (addI rfl rfl (kI (x := 1) rfl)) ?_
                  refine s1 (asg rfl rfl) ?_
                  refine snil ?_
                  exact sgo (entI ⟨rfl, rfl, rfl, rfl, trivial⟩ eqm0)
              · refine sexit ?_
                refine ptx ?_
                exact sout (fun h => by cases h) (sj (hj86 _) (entI ⟨rfl, rfl, rfl, trivial⟩ eqm0))
            · intro t85
              refine slpk ?_
              refine sx ?_
              refine pbn ?_
              refine pnm ?_
              refine sreg ?_
              refine s1 (mv rfl rfl) ?_
              refine s1 (addI rfl rfl (kI (x := 1) rfl)) ?_
              refine s1 (asg rfl rfl) ?_
              refine snil ?_
              exact sgo (entI ⟨rfl, rfl, rfl, trivial⟩ eqm0)
      · refine sexit ?_
        refine ptx ?_
        exact sout (fun h => by cases h) (sj (hj63 _) (entI ⟨rfl, trivial⟩ eqm0))
    · intro t62
      refine slpk ?_
      refine sx ?_
      refine pnm ?_
      refine sseq ?_
      refine sreg ?_
      refine s1 (asg rfl kB) ?_
      refine snil ?_
      refine pnm ?_
      refine sret ?_
      exact ret [] [.tmp 2] [_] [_] .ret hγ (.inl rfl) rfl ⟨rfl, trivial⟩ rfl trivial trivial trivial (rns_cons (rn_id if_bl) (rns_nil)) rfl
theorem c_retrospectref02_Norm {n : Nat} {x0 : (List Nat)} : ∀ r, m_retrospectref02_Norm n x0 = some r → FnOk Tryz.prog 58 [sli 1 (List.map u32 x0)] [] (.own 50) [(50, .sl 107 1 (List.map u32 r))] := by
  unfold m_retrospectref02_Norm
  refine fn_of_sq (res := fun (r : (List Nat)) => .own 50) (mo := fun (r : (List Nat)) => [(50, .sl 107 1 (List.map u32 r))]) Tryz.func58 rfl rfl (by kernel_rfl) rfl ?_
  intro w S0 γ hγ
  refine sseq ?_
  refine sreg ?_
  refine s1 (asg rfl (kLm (k := 1) u32)) ?_
  refine snil ?_
  refine pnm ?_
  refine sseq ?_
  refine sreg ?_
  refine s1 (mv rfl rfl) ?_
  refine s1 (lenL (f := u32) Tryz.underlying67 rfl rfl) ?_
  refine s1 (asg rfl rfl) ?_
  refine snil ?_
  refine pnm ?_
  refine sseq ?_
  refine sblk ?_
  refine sloopE 0 (fun t => t) (fun (s19 : Int) => [(0, sli 1 (List.map u32 x0)), (2, sli 1 (List.map u32 ([] : List Nat))), (3, i64 s19)]) (fun (s19 : Int) => []) (fun (t17 : Int) => [(0, sli 1 (List.map u32 x0)), (2, sli 1 (List.map u32 ([] : List Nat))), (3, i64 t17)]) (fun (t17 : Int) => []) (entI ⟨rfl, rfl, rfl, trivial⟩ eqm0) ?_ ?_
  · intro hj18 s19
    refine sseq ?_
    refine sjq (fun (s24 : Bool) => [(0, sli 1 (List.map u32 x0)), (2, sli 1 (List.map u32 ([] : List Nat))), (3, i64 s19), (15, bl s24)]) (fun (s24 : Bool) => []) ?_ ?_
    · intro j22 hj23
      refine sreg ?_
      refine s1 (mv rfl rfl) ?_
      refine s1 (gtI rfl rfl (kI (x := 0) rfl)) ?_
      refine s1 (mv rfl rfl) ?_
      refine sifd 8 rfl ?_ ?_
      · refine sg 8 rfl rfl (mv rfl rfl) ?_
        refine sg 8 rfl rfl (mv rfl rfl) ?_
        refine sg 8 rfl rfl (subI rfl rfl (kI (x := 1) rfl)) ?_
        refine bd fun y25 h26 => ?_
        refine sg 8 rfl rfl (ixR (f := u32) Tryz.underlying67 ti_107 h26 rfl rfl rfl) ?_
        refine sg 8 rfl rfl (ldR sh_107 (by exact rfl) (by exact rfl) rfl rfl) ?_
        refine sg 8 rfl rfl (eqU .u32 rfl rfl (k32 (x := 0) rfl)) ?_
        refine s1 (pickT rfl rfl rfl) ?_
        refine snil ?_
        refine pnm ?_
        exact sj (hj23 _) (entI ⟨rfl, rfl, rfl, rfl, trivial⟩ eqm0)
      · refine spB 8 rfl rfl rfl ?_
        refine spB 8 rfl rfl rfl ?_
        refine spB 8 rfl rfl rfl ?_
        refine spB 8 rfl rfl rfl ?_
        refine spB 8 rfl rfl rfl ?_
        refine spB 8 rfl rfl rfl ?_
        refine s1 (pickF rfl rfl kB) ?_
        refine snil ?_
        refine pnm ?_
        exact sj (hj23 _) (entI ⟨rfl, rfl, rfl, rfl, trivial⟩ eqm0)
    · intro s24
      refine scond rfl ?_ ?_
      · refine sskip ?_
        refine pnm ?_
        refine sblk ?_
        refine sreg ?_
        refine s1 (mv rfl rfl) ?_
        refine s1 (subI rfl rfl (kI (x := 1) rfl)) ?_
        refine s1 (asg rfl rfl) ?_
        refine snil ?_
        refine pbn ?_
        exact sgo (entI ⟨rfl, rfl, rfl, trivial⟩ eqm0)
      · refine sexit ?_
        refine ptx ?_
        exact sout (fun h => by cases h) (sj (hj18 _) (entI ⟨rfl, rfl, rfl, trivial⟩ eqm0))
  · intro t17
    refine sx ?_
    refine pnm ?_
    refine sseq ?_
    refine sreg ?_
    refine so (bsl (y := 100) (ls := List.map u32 ([] : List Nat)) Tryz.underlying67 ti_107 rfl rfl rfl rfl rfl trivial rfl rfl) ?_
    refine s1 (mv rfl rfl) ?_
    refine s1 (mv rfl rfl) ?_
    refine bd fun y27 h28 => ?_
    refine s1 (slR (f := u32) h28 Tryz.underlying67 ti_107 rfl rfl bnd0 (bnd rfl)) ?_
    refine bd fun y29 h30 => ?_
    refine so (app (y := 101) (f := u32) h30 rfl Tryz.underlying67 ti_107 rfl rfl rfl rfl (.inl rfl) rfl rfl) ?_
    refine s1 (asg rfl rfl) ?_
    refine snil ?_
    refine pnm ?_
    refine sret ?_
    exact ret [(50, 101)] [.tmp 2] [_] [.own 50] .ret hγ (.inl rfl) rfl ⟨rfl, trivial⟩ rfl trivial ⟨⟨_, rfl⟩, trivial⟩ ⟨⟨_, _, rfl, rfl, rci (rc_sl (ifs_map (f := u32) (fun _ => if_u32) y29))⟩, trivial⟩ (rns_cons (rn_own rfl) (rns_nil)) rfl
theorem c_retrospectref02_Of {n : Nat} {x0 : Nat} : ∀ r, m_retrospectref02_Of n x0 = some r → FnOk Tryz.prog 52 [u64 x0] [] (sli 1 (List.map u32 r)) [] := by
  unfold m_retrospectref02_Of
  refine fn_of_sq (res := fun (r : (List Nat)) => sli 1 (List.map u32 r)) (mo := fun (r : (List Nat)) => []) Tryz.func52 rfl rfl (by kernel_rfl) rfl ?_
  intro w S0 γ hγ
  refine sseq ?_
  refine sreg ?_
  refine s1 (asg rfl (kLm (k := 1) u32)) ?_
  refine snil ?_
  refine pnm ?_
  refine sseq ?_
  refine sreg ?_
  refine s1 (mv rfl rfl) ?_
  refine s1 (remU uk64 rfl rfl rfl (k64 (x := 4294967296) rfl)) ?_
  refine s1 (cvU uk32 Tryz.underlying106 Tryz.underlying107 rfl rfl) ?_
  refine s1 (mv rfl rfl) ?_
  refine s1 (quoU uk64 rfl rfl rfl (k64 (x := 4294967296) rfl)) ?_
  refine s1 (cvU uk32 Tryz.underlying106 Tryz.underlying107 rfl rfl) ?_
  refine so (bsl (y := 100) (ls := List.map u32 ([((x0 % 4294967296) % 4294967296), ((x0 / 4294967296) % 4294967296)] : List Nat)) Tryz.underlying67 ti_107 rfl rfl rfl rfl rfl ⟨rfl, rfl, (by exact rfl), (by exact rfl), rfl, rfl, (by exact rfl), (by exact rfl), trivial⟩ rfl rfl) ?_
  refine sbm (C := fun x => .sl 107 1 (List.map u32 x)) 100 rfl fun z1 => ?_
  refine bd fun r2 h3 => ?_
  refine so (callL (em := [(101, .sl 107 1 (List.map u32 r2))]) (res' := .own 101) [100] [] [(101, 50)] [(101, 50)] rfl (c_retrospectref02_Norm _ h3) ⟨pls_map (f := u32) (fun _ => pl_u32) _, trivial⟩ (pl_own) ⟨.inr ⟨100, rfl, .inl ⟨rfl, .inl ⟨_, _, _, rfl, ifs_map (f := u32) (fun _ => if_u32) z1, rfl⟩⟩⟩, trivial⟩ (MiF.get (mi := []) trivial) trivial rfl ⟨rfl, trivial⟩ ⟨.inl rfl, trivial⟩ rfl ⟨.inl ⟨_, _, rfl, rfl, rc_sl (ifs_map (f := u32) (fun _ => if_u32) r2)⟩, trivial⟩ trivial ⟨⟨_, rfl⟩, trivial⟩ (rn_own rfl) rfl) ?_
  refine s1 (asg rfl rfl) ?_
  refine snil ?_
  refine pnm ?_
  refine sret ?_
  refine frz (id := 101) [(2, sli 1 (List.map u32 r2)), (10, sli 1 (List.map u32 r2))] [] rfl (ifs_map (f := u32) (fun _ => if_u32) r2) ⟨⟨_, rfl, fz_own⟩, ⟨_, rfl, fz_own⟩, trivial⟩ trivial ?_
  exact ret [] [.tmp 2] [_] [_] .ret hγ (.inl rfl) rfl ⟨rfl, trivial⟩ rfl trivial trivial trivial (rns_cons (rn_id if_sli) (rns_nil)) rfl
theorem c_retrospectref02_At {x0 : (List Nat)} {x1 : Int} : ∀ r, m_retrospectref02_At x0 x1 = some r → FnOk Tryz.prog 78 [sli 1 (List.map u32 x0), i64 x1] [] (u32 r) [] := by
  unfold m_retrospectref02_At
  refine fn_of_sq (res := fun (r : Nat) => u32 r) (mo := fun (r : Nat) => []) Tryz.func78 rfl rfl (by kernel_rfl) rfl ?_
  intro w S0 γ hγ
  refine sseq ?_
  refine sreg ?_
  refine s1 (asg rfl (k32 (x := 0) rfl)) ?_
  refine snil ?_
  refine pnm ?_
  refine sseq ?_
  refine sseq ?_
  refine sreg ?_
  refine s1 (mv rfl rfl) ?_
  refine s1 (mv rfl rfl) ?_
  refine s1 (lenL (f := u32) Tryz.underlying67 rfl rfl) ?_
  refine s1 (ltI rfl rfl rfl) ?_
  refine snil ?_
  refine pnm ?_
  refine scond rfl ?_ ?_
  · refine sseq ?_
    refine sreg ?_
    refine s1 (mv rfl rfl) ?_
    refine s1 (mv rfl rfl) ?_
    refine bd fun y1 h2 => ?_
    refine s1 (ixR (f := u32) Tryz.underlying67 ti_107 h2 rfl rfl rfl) ?_
    refine s1 (ldR sh_107 (by exact rfl) (by exact rfl) rfl rfl) ?_
    refine s1 (asg rfl rfl) ?_
    refine snil ?_
    refine pnm ?_
    refine sret ?_
    refine pth ?_
    exact ret [] [.tmp 4] [_] [_] .ret hγ (.inl rfl) rfl ⟨rfl, trivial⟩ rfl trivial trivial trivial (rns_cons (rn_id if_u32) (rns_nil)) rfl
  · refine sskip ?_
    refine pnm ?_
    refine sseq ?_
    refine sreg ?_
    refine s1 (asg rfl (k32 (x := 0) rfl)) ?_
    refine snil ?_
    refine pnm ?_
    refine sret ?_
    exact ret [] [.tmp 4] [_] [_] .ret hγ (.inl rfl) rfl ⟨rfl, trivial⟩ rfl trivial trivial trivial (rns_cons (rn_id if_u32) (rns_nil)) rfl
theorem c_retrospectref02_Add {n : Nat} {x0 : (List Nat)} {x1 : (List Nat)} : ∀ r, m_retrospectref02_Add n x0 x1 = some r → FnOk Tryz.prog 51 [sli 1 (List.map u32 x0), sli 1 (List.map u32 x1)] [] (sli 1 (List.map u32 r)) [] := by
  unfold m_retrospectref02_Add
  refine fn_of_sq (res := fun (r : (List Nat)) => sli 1 (List.map u32 r)) (mo := fun (r : (List Nat)) => []) Tryz.func51 rfl rfl (by kernel_rfl) rfl ?_
  intro w S0 γ hγ
  refine sseq ?_
  refine sreg ?_
  refine s1 (asg rfl (kLm (k := 1) u32)) ?_
  refine snil ?_
  refine pnm ?_
  refine sseq ?_
  refine sreg ?_
  refine s1 (mv rfl rfl) ?_
  refine s1 (lenL (f := u32) Tryz.underlying67 rfl rfl) ?_
  refine s1 (mv rfl rfl) ?_
  refine s1 (lenL (f := u32) Tryz.underlying67 rfl rfl) ?_
  refine s1 (maxI rfl rfl rfl) ?_
  refine s1 (addI rfl rfl (kI (x := 1) rfl)) ?_
  refine s1 (asg rfl rfl) ?_
  refine snil ?_
  refine pnm ?_
  refine sseq ?_
  refine sreg ?_
  refine s1 (mv rfl rfl) ?_
  refine bd fun y1 h2 => ?_
  refine so (mks (y := 100) (f := u32) h2 Tryz.underlying67 ti_107 zr_u32 rfl rfl rfl rfl rfl rfl) ?_
  refine s1 (asg rfl rfl) ?_
  refine snil ?_
  refine pnm ?_
  refine sseq ?_
  refine sreg ?_
  refine s1 (asg rfl (k64 (x := 0) rfl)) ?_
  refine snil ?_
  refine pnm ?_
  refine sseq ?_
  refine sseq ?_
  refine sreg ?_
  refine s1 (asg rfl (kI (x := 0) rfl)) ?_
  refine snil ?_
  refine pnm ?_
  refine sblk ?_
  refine sloopE 0 (fun t => t) (fun (s24 : (List Nat) × Nat × Int) => [(0, sli 1 (List.map u32 x0)), (1, sli 1 (List.map u32 x1)), (4, sli 1 (List.map u32 ([] : List Nat))), (5, i64 (wrap64 ((max (x0.length : Int) (x1.length : Int)) + (1 : Int)))), (6, .own 100), (7, u64 s24.2.1), (8, i64 s24.2.2)]) (fun (s24 : (List Nat) × Nat × Int) => [(100, .sl 107 1 (List.map u32 s24.1))]) (fun (t22 : (List Nat)) => [(4, sli 1 (List.map u32 ([] : List Nat))), (6, .own 100)]) (fun (t22 : (List Nat)) => [(100, .sl 107 1 (List.map u32 t22))]) (entR [(100, 100)] rfl (keepS hγ trivial) ⟨⟨_, rfl⟩, trivial⟩ ⟨⟨_, _, rfl, rfl, rci (rc_sl (ifs_map (f := u32) (fun _ => if_u32) y1))⟩, trivial⟩ ⟨⟨_, rfl, rn_id if_sli⟩, ⟨_, rfl, rn_id if_sli⟩, ⟨_, rfl, rn_id if_sli⟩, ⟨_, rfl, rn_id if_i64⟩, ⟨_, rfl, rn_own rfl⟩, ⟨_, rfl, rn_id if_u64⟩, ⟨_, rfl, rn_id if_i64⟩, trivial⟩) ?_ ?_
  · intro hj23 s24
    refine sseq ?_
    refine sseq ?_
    refine sreg ?_
    refine s1 (mv rfl rfl) ?_
    refine s1 (mv rfl rfl) ?_
    refine s1 (ltI rfl rfl rfl) ?_
    refine sbn (F := bl) 19 rfl fun z25 => ?_
    refine snil ?_
    refine pnm ?_
    refine scond rfl ?_ ?_
    · refine sskip ?_
      refine pnm ?_
      refine sseq ?_
      refine sblk ?_
      refine sseq ?_
      refine sreg ?_
      refine s1 (mv rfl rfl) ?_
      refine s1 (mv rfl rfl) ?_
      refine s1 (mv rfl rfl) ?_
      refine bd fun r26 h27 => ?_
      refine s1 (call0 (c_retrospectref02_At _ h27) ⟨⟨_, rfl, rn_id if_sli⟩, ⟨_, rfl, rn_id if_i64⟩, trivial⟩ (if_u32) rfl) ?_
      refine s1 (cvUw uk64 uk32 rfl Tryz.underlying107 Tryz.underlying106 rfl rfl) ?_
      refine s1 (mv rfl rfl) ?_
      refine s1 (mv rfl rfl) ?_
      refine bd fun r28 h29 => ?_
      refine s1 (call0 (c_retrospectref02_At _ h29) ⟨⟨_, rfl, rn_id if_sli⟩, ⟨_, rfl, rn_id if_i64⟩, trivial⟩ (if_u32) rfl) ?_
      refine s1 (cvUw uk64 uk32 rfl Tryz.underlying107 Tryz.underlying106 rfl rfl) ?_
      refine s1 (addU uk64 rfl rfl rfl) ?_
      refine s1 (addU uk64 rfl rfl rfl) ?_
      refine sbn (F := u64) 32 rfl fun z30 => ?_
      refine s1 (asg rfl rfl) ?_
      refine snil ?_
      refine pnm ?_
      refine sseq ?_
      refine sreg ?_
      refine s1 (mv rfl rfl) ?_
      refine s1 (mv rfl rfl) ?_
      refine s1 (mv rfl rfl) ?_
      refine s1 (remU uk64 rfl rfl rfl (k64 (x := 4294967296) rfl)) ?_
      refine s1 (cvU uk32 Tryz.underlying106 Tryz.underlying107 rfl rfl) ?_
      refine bd fun y31 h32 => ?_
      refine s1 (ixO (f := u32) rfl Tryz.underlying67 ti_107 h32 rfl rfl rfl) ?_
      refine so (stO (f := u32) ((z30 % 4294967296) % 4294967296) [] rfl (getI_ix h32) (by exact rfl) (by exact rfl) (by exact rfl) (by exact rfl) sh_107 (by exact rfl) (by exact rfl) (by exact rfl) rfl rfl) ?_
      refine snil ?_
      refine pnm ?_
      refine sreg ?_
      refine s1 (mv rfl rfl) ?_
      refine s1 (quoU uk64 rfl rfl rfl (k64 (x := 4294967296) rfl)) ?_
      refine s1 (asg rfl rfl) ?_
      refine snil ?_
      refine pbn ?_
      refine pnm ?_
      refine sreg ?_
      refine s1 (mv rfl rfl) ?_
      refine s1 (addI rfl rfl (kI (x := 1) rfl)) ?_
      refine s1 (asg rfl rfl) ?_
      refine snil ?_
      exact sgo (entR [(100, 100)] rfl (keepS hγ trivial) ⟨⟨_, rfl⟩, trivial⟩ ⟨⟨_, _, rfl, rfl, rci (rc_sl (ifs_map (f := u32) (fun _ => if_u32) (List.set s24.1 (Int.toNat s24.2.2) ((z30 % 4294967296) % 4294967296))))⟩, trivial⟩ ⟨⟨_, rfl, rn_id if_sli⟩, ⟨_, rfl, rn_id if_sli⟩, ⟨_, rfl, rn_id if_sli⟩, ⟨_, rfl, rn_id if_i64⟩, ⟨_, rfl, rn_own rfl⟩, ⟨_, rfl, rn_id if_u64⟩, ⟨_, rfl, rn_id if_i64⟩, trivial⟩)
    · refine sexit ?_
      refine ptx ?_
      exact sout (fun h => by cases h) (sj (hj23 _) (entR [(100, 100)] rfl (keepS hγ trivial) ⟨⟨_, rfl⟩, trivial⟩ ⟨⟨_, _, rfl, rfl, rci (rc_sl (ifs_map (f := u32) (fun _ => if_u32) s24.1))⟩, trivial⟩ ⟨⟨_, rfl, rn_id if_sli⟩, ⟨_, rfl, rn_own rfl⟩, trivial⟩))
  · intro t22
    refine sx ?_
    refine pnm ?_
    refine sseq ?_
    refine sreg ?_
    refine s1 (mv rfl rfl) ?_
    refine bd fun r33 h34 => ?_
    refine so (callL (em := [(101, .sl 107 1 (List.map u32 r33))]) (res' := .own 101) [100] [] [(101, 50)] [(101, 50)] rfl (c_retrospectref02_Norm _ h34) ⟨pls_map (f := u32) (fun _ => pl_u32) _, trivial⟩ (pl_own) ⟨.inr ⟨100, rfl, .inl ⟨rfl, .inl ⟨_, _, _, rfl, ifs_map (f := u32) (fun _ => if_u32) t22, rfl⟩⟩⟩, trivial⟩ (MiF.get (mi := []) trivial) trivial rfl ⟨rfl, trivial⟩ ⟨.inl rfl, trivial⟩ rfl ⟨.inl ⟨_, _, rfl, rfl, rc_sl (ifs_map (f := u32) (fun _ => if_u32) r33)⟩, trivial⟩ trivial ⟨⟨_, rfl⟩, trivial⟩ (rn_own rfl) rfl) ?_
    refine s1 (asg rfl rfl) ?_
    refine snil ?_
    refine pnm ?_
    refine sret ?_
    refine frz (id := 101) [(4, sli 1 (List.map u32 r33)), (42, sli 1 (List.map u32 r33))] [] rfl (ifs_map (f := u32) (fun _ => if_u32) r33) ⟨⟨_, rfl, fz_own⟩, ⟨_, rfl, fz_own⟩, trivial⟩ trivial ?_
    exact ret [] [.tmp 4] [_] [_] .ret hγ (.inl rfl) rfl ⟨rfl, trivial⟩ rfl trivial trivial trivial (rns_cons (rn_id if_sli) (rns_nil)) rfl
theorem c_retrospectref06_One {x0 : (List Nat)} : ∀ r, m_retrospectref06_One x0 = some r → FnOk Tryz.prog 75 [sli 1 (List.map u32 x0)] [] (bl r) [] := by
  unfold m_retrospectref06_One
  refine fn_of_sq (res := fun (r : Bool) => bl r) (mo := fun (r : Bool) => []) Tryz.func75 rfl rfl (by kernel_rfl) rfl ?_
  intro w S0 γ hγ
  refine sseq ?_
  refine sreg ?_
  refine s1 (asg rfl kB) ?_
  refine snil ?_
  refine pnm ?_
  refine sjq (fun (s5 : Bool) => [(2, bl s5)]) (fun (s5 : Bool) => []) ?_ ?_
  · intro j3 hj4
    refine sreg ?_
    refine s1 (mv rfl rfl) ?_
    refine s1 (lenL (f := u32) Tryz.underlying67 rfl rfl) ?_
    refine s1 (eqI rfl rfl (kI (x := 1) rfl)) ?_
    refine s1 (mv rfl rfl) ?_
    refine sifd 6 rfl ?_ ?_
    · refine sg 6 rfl rfl (mv rfl rfl) ?_
      refine bd fun y6 h7 => ?_
      refine sg 6 rfl rfl (ixR (f := u32) Tryz.underlying67 ti_107 h7 rfl rfl (kI (x := 0) rfl)) ?_
      refine sg 6 rfl rfl (ldR sh_107 (by exact rfl) (by exact rfl) rfl rfl) ?_
      refine sg 6 rfl rfl (eqU .u32 rfl rfl (k32 (x := 1) rfl)) ?_
      refine s1 (pickT rfl rfl rfl) ?_
      refine s1 (asg rfl rfl) ?_
      refine snil ?_
      refine pnm ?_
      exact sj (hj4 _) (entI ⟨rfl, trivial⟩ eqm0)
    · refine spB 6 rfl rfl rfl ?_
      refine spB 6 rfl rfl rfl ?_
      refine spB 6 rfl rfl rfl ?_
      refine spB 6 rfl rfl rfl ?_
      refine s1 (pickF rfl rfl kB) ?_
      refine s1 (asg rfl rfl) ?_
      refine snil ?_
      refine pnm ?_
      exact sj (hj4 _) (entI ⟨rfl, trivial⟩ eqm0)
  · intro s5
    refine sret ?_
    exact ret [] [.tmp 2] [_] [_] .ret hγ (.inl rfl) rfl ⟨rfl, trivial⟩ rfl trivial trivial trivial (rns_cons (rn_id if_bl) (rns_nil)) rfl
theorem c_retrospectref01_Zeros {n : Nat} {x0 : Nat} : ∀ r, m_retrospectref01_Zeros n x0 = some r → FnOk Tryz.prog 128 [u32 x0] [] (i64 r) [] := by
  unfold m_retrospectref01_Zeros
  refine fn_of_sq (res := fun (r : Int) => i64 r) (mo := fun (r : Int) => []) Tryz.func128 rfl rfl (by kernel_rfl) rfl ?_
  intro w S0 γ hγ
  refine sseq ?_
  refine sreg ?_
  refine s1 (asg rfl (kI (x := 0) rfl)) ?_
  refine snil ?_
  refine pnm ?_
  refine sseq ?_
  refine sseq ?_
  refine sreg ?_
  refine s1 (mv rfl rfl) ?_
  refine s1 (eqU .u32 rfl rfl (k32 (x := 0) rfl)) ?_
  refine snil ?_
  refine pnm ?_
  refine scond rfl ?_ ?_
  · refine sseq ?_
    refine sreg ?_
    refine s1 (asg rfl (kI (x := 32) rfl)) ?_
    refine snil ?_
    refine pnm ?_
    refine sret ?_
    refine pth ?_
    exact ret [] [.tmp 2] [_] [_] .ret hγ (.inl rfl) rfl ⟨rfl, trivial⟩ rfl trivial trivial trivial (rns_cons (rn_id if_i64) (rns_nil)) rfl
  · refine sskip ?_
    refine pnm ?_
    refine sseq ?_
    refine sreg ?_
    refine s1 (asg rfl (kI (x := 0) rfl)) ?_
    refine snil ?_
    refine pnm ?_
    refine sseq ?_
    refine sblk ?_
    refine sloopE 0 (fun t => t) (fun (s5 : Nat × Int) => [(0, u32 s5.1), (2, i64 (0 : Int)), (3, i64 s5.2)]) (fun (s5 : Nat × Int) => []) (fun (t3 : Int) => [(2, i64 (0 : Int)), (3, i64 t3)]) (fun (t3 : Int) => []) (entI ⟨rfl, rfl, rfl, trivial⟩ eqm0) ?_ ?_
    · intro hj4 s5
      refine sseq ?_
      refine sseq ?_
      refine sreg ?_
      refine s1 (mv rfl rfl) ?_
      refine s1 (remU uk32 rfl rfl rfl (k32 (x := 2) rfl)) ?_
      refine s1 (eqU .u32 rfl rfl (k32 (x := 0) rfl)) ?_
      refine snil ?_
      refine pnm ?_
      refine scond rfl ?_ ?_
      · refine sskip ?_
        refine pnm ?_
        refine sblk ?_
        refine sseq ?_
        refine sreg ?_
        refine s1 (mv rfl rfl) ?_
        refine s1 (quoU uk32 rfl rfl rfl (k32 (x := 2) rfl)) ?_
        refine s1 (asg rfl rfl) ?_
        refine snil ?_
        refine pnm ?_
        refine sreg ?_
        refine s1 (mv rfl rfl) ?_
        refine s1 (addI rfl rfl (kI (x := 1) rfl)) ?_
        refine s1 (asg rfl rfl) ?_
        refine snil ?_
        refine pbn ?_
        exact sgo (entI ⟨rfl, rfl, rfl, trivial⟩ eqm0)
      · refine sexit ?_
        refine ptx ?_
        exact sout (fun h => by cases h) (sj (hj4 _) (entI ⟨rfl, rfl, trivial⟩ eqm0))
    · intro t3
      refine sx ?_
      refine pnm ?_
      refine sseq ?_
      refine sreg ?_
      refine s1 (mv rfl rfl) ?_
      refine s1 (asg rfl rfl) ?_
      refine snil ?_
      refine pnm ?_
      refine sret ?_
      exact ret [] [.tmp 2] [_] [_] .ret hγ (.inl rfl) rfl ⟨rfl, trivial⟩ rfl trivial trivial trivial (rns_cons (rn_id if_i64) (rns_nil)) rfl
theorem c_retrospectref06_down {n : Nat} {x0 : (List Nat)} {x0o : Nat} {x0l : Nat} {x1 : Int} : ∀ r, m_retrospectref06_down n x0 x0o x0l x1 = some r → FnOk Tryz.prog 129 [.win 0 x0o x0l, i64 x1] [(0, .sl 107 1 (List.map u32 x0))] (.win 0 r.1 r.2.1) [(0, .sl 107 1 (List.map u32 r.2.2))] := by
  unfold m_retrospectref06_down
  refine fn_of_sq (res := fun (r : Nat × Nat × (List Nat)) => .win 0 r.1 r.2.1) (mo := fun (r : Nat × Nat × (List Nat)) => [(0, .sl 107 1 (List.map u32 r.2.2))]) Tryz.func129 rfl rfl (by kernel_rfl) rfl ?_
  intro w S0 γ hγ
  refine sseq ?_
  refine sreg ?_
  refine s1 (asg rfl (kLm (k := 1) u32)) ?_
  refine snil ?_
  refine pnm ?_
  refine sseq ?_
  refine sseq ?_
  refine sreg ?_
  refine s1 (asg rfl (kI (x := 0) rfl)) ?_
  refine snil ?_
  refine pnm ?_
  refine sblk ?_
  refine sloopE 0 (fun t => t) (fun (s41 : (List Nat) × Int) => [(0, .win 0 x0o x0l), (1, i64 x1), (4, sli 1 (List.map u32 ([] : List Nat))), (5, i64 s41.2)]) (fun (s41 : (List Nat) × Int) => [(0, .sl 107 1 (List.map u32 s41.1))]) (fun (t39 : (List Nat)) => [(0, .win 0 x0o x0l), (4, sli 1 (List.map u32 ([] : List Nat)))]) (fun (t39 : (List Nat)) => [(0, .sl 107 1 (List.map u32 t39))]) (entR [(0, 0)] rfl (keepS hγ ⟨rfl, trivial⟩) ⟨⟨_, rfl⟩, trivial⟩ ⟨⟨_, _, rfl, rfl, rci (rc_sl (ifs_map (f := u32) (fun _ => if_u32) x0))⟩, trivial⟩ ⟨⟨_, rfl, rn_win rfl⟩, ⟨_, rfl, rn_id if_i64⟩, ⟨_, rfl, rn_id if_sli⟩, ⟨_, rfl, rn_id if_i64⟩, trivial⟩) ?_ ?_
  · intro hj40 s41
    refine sseq ?_
    refine sseq ?_
    refine sreg ?_
    refine s1 (mv rfl rfl) ?_
    refine s1 (mv rfl rfl) ?_
    refine s1 (lenW Tryz.underlying67 rfl rfl) ?_
    refine s1 (ltI rfl rfl rfl) ?_
    refine snil ?_
    refine pnm ?_
    refine scond rfl ?_ ?_
    · refine sskip ?_
      refine pnm ?_
      refine sseq ?_
      refine sblk ?_
      refine sseq ?_
      refine sreg ?_
      refine s1 (asg rfl (k64 (x := 0) rfl)) ?_
      refine snil ?_
      refine pnm ?_
      refine sjq (fun (s47 : Nat) => [(0, .win 0 x0o x0l), (1, i64 x1), (4, sli 1 (List.map u32 ([] : List Nat))), (5, i64 s41.2), (6, u64 s47)]) (fun (s47 : Nat) => [(0, .sl 107 1 (List.map u32 s41.1))]) ?_ ?_
      · intro j45 hj46
        refine sseq ?_
        refine sreg ?_
        refine s1 (mv rfl rfl) ?_
        refine s1 (addI rfl rfl (kI (x := 1) rfl)) ?_
        refine s1 (mv rfl rfl) ?_
        refine s1 (lenW Tryz.underlying67 rfl rfl) ?_
        refine s1 (ltI rfl rfl rfl) ?_
        refine snil ?_
        refine pnm ?_
        refine scond rfl ?_ ?_
        · refine sreg ?_
          refine s1 (mv rfl rfl) ?_
          refine s1 (mv rfl rfl) ?_
          refine s1 (addI rfl rfl (kI (x := 1) rfl)) ?_
          refine bd fun _ h50 => ?_
          refine bd fun y48 h49 => ?_
          refine s1 (ixW (f := u32) (grd_some h50) rfl Tryz.underlying67 ti_107 h49 rfl rfl rfl) ?_
          refine s1 (ldO (f := u32) [] rfl (getI_ix h49) (by exact rfl) (by exact rfl) sh_107 (by exact rfl) (by exact rfl) rfl rfl) ?_
          refine s1 (cvUw uk64 uk32 rfl Tryz.underlying107 Tryz.underlying106 rfl rfl) ?_
          refine s1 (asg rfl rfl) ?_
          refine snil ?_
          refine pnm ?_
          exact sj (hj46 _) (entR [(0, 0)] rfl (keepS hγ ⟨rfl, trivial⟩) ⟨⟨_, rfl⟩, trivial⟩ ⟨⟨_, _, rfl, rfl, rci (rc_sl (ifs_map (f := u32) (fun _ => if_u32) s41.1))⟩, trivial⟩ ⟨⟨_, rfl, rn_win rfl⟩, ⟨_, rfl, rn_id if_i64⟩, ⟨_, rfl, rn_id if_sli⟩, ⟨_, rfl, rn_id if_i64⟩, ⟨_, rfl, rn_id if_u64⟩, trivial⟩)
        · refine sskip ?_
          refine pnm ?_
          exact sj (hj46 _) (entR [(0, 0)] rfl (keepS hγ ⟨rfl, trivial⟩) ⟨⟨_, rfl⟩, trivial⟩ ⟨⟨_, _, rfl, rfl, rci (rc_sl (ifs_map (f := u32) (fun _ => if_u32) s41.1))⟩, trivial⟩ ⟨⟨_, rfl, rn_win rfl⟩, ⟨_, rfl, rn_id if_i64⟩, ⟨_, rfl, rn_id if_sli⟩, ⟨_, rfl, rn_id if_i64⟩, ⟨_, rfl, rn_id if_u64⟩, trivial⟩)
      · intro s47
        refine sreg ?_
        refine s1 (mv rfl rfl) ?_
        refine s1 (mv rfl rfl) ?_
        refine s1 (mv rfl rfl) ?_
        refine s1 (mulU uk64 rfl rfl (k64 (x := 4294967296) rfl)) ?_
        refine s1 (mv rfl rfl) ?_
        refine s1 (mv rfl rfl) ?_
        refine bd fun _ h53 => ?_
        refine bd fun y51 h52 => ?_
        refine s1 (ixW (f := u32) (grd_some h53) rfl Tryz.underlying67 ti_107 h52 rfl rfl rfl) ?_
        refine s1 (ldO (f := u32) [] rfl (getI_ix h52) (by exact rfl) (by exact rfl) sh_107 (by exact rfl) (by exact rfl) rfl rfl) ?_
        refine s1 (cvUw uk64 uk32 rfl Tryz.underlying107 Tryz.underlying106 rfl rfl) ?_
        refine s1 (addU uk64 rfl rfl rfl) ?_
        refine sbn (F := u64) 33 rfl fun z54 => ?_
        refine s1 (mv rfl rfl) ?_
        refine bd fun _ h55 => ?_
        refine s1 (shrU uk64 (ge0 h55) rfl rfl rfl) ?_
        refine s1 (cvU uk32 Tryz.underlying106 Tryz.underlying107 rfl rfl) ?_
        refine bd fun _ h58 => ?_
        refine bd fun y56 h57 => ?_
        refine s1 (ixW (f := u32) (grd_some h58) rfl Tryz.underlying67 ti_107 h57 rfl rfl rfl) ?_
        refine so (stO (f := u32) ((z54 / 2 ^ (min (Int.toNat x1) 64)) % 4294967296) [] rfl (getI_ix h57) (by exact rfl) (by exact rfl) (by exact rfl) (by exact rfl) sh_107 (by exact rfl) (by exact rfl) (by exact rfl) rfl rfl) ?_
        refine sbm (C := fun x => .sl 107 1 (List.map u32 x)) 0 rfl fun z59 => ?_
        refine snil ?_
        refine pbn ?_
        refine pnm ?_
        refine sreg ?_
        refine s1 (mv rfl rfl) ?_
        refine s1 (addI rfl rfl (kI (x := 1) rfl)) ?_
        refine s1 (asg rfl rfl) ?_
        refine snil ?_
        exact sgo (entR [(0, 0)] rfl (keepS hγ ⟨rfl, trivial⟩) ⟨⟨_, rfl⟩, trivial⟩ ⟨⟨_, _, rfl, rfl, rci (rc_sl (ifs_map (f := u32) (fun _ => if_u32) z59))⟩, trivial⟩ ⟨⟨_, rfl, rn_win rfl⟩, ⟨_, rfl, rn_id if_i64⟩, ⟨_, rfl, rn_id if_sli⟩, ⟨_, rfl, rn_id if_i64⟩, trivial⟩)
    · refine sexit ?_
      refine ptx ?_
      exact sout (fun h => by cases h) (sj (hj40 _) (entR [(0, 0)] rfl (keepS hγ ⟨rfl, trivial⟩) ⟨⟨_, rfl⟩, trivial⟩ ⟨⟨_, _, rfl, rfl, rci (rc_sl (ifs_map (f := u32) (fun _ => if_u32) s41.1))⟩, trivial⟩ ⟨⟨_, rfl, rn_win rfl⟩, ⟨_, rfl, rn_id if_sli⟩, trivial⟩))
  · intro t39
    refine sx ?_
    refine pnm ?_
    refine sseq ?_
    refine sblk ?_
    refine sloopE 2 (fun t => t) (fun (s84 : Nat × Nat) => [(0, .win 0 s84.1 s84.2), (4, sli 1 (List.map u32 ([] : List Nat)))]) (fun (s84 : Nat × Nat) => [(0, .sl 107 1 (List.map u32 t39))]) (fun (t82 : Nat × Nat) => [(0, .win 0 t82.1 t82.2), (4, sli 1 (List.map u32 ([] : List Nat)))]) (fun (t82 : Nat × Nat) => [(0, .sl 107 1 (List.map u32 t39))]) (entR [(0, 0)] rfl (keepS hγ ⟨rfl, trivial⟩) ⟨⟨_, rfl⟩, trivial⟩ ⟨⟨_, _, rfl, rfl, rci (rc_sl (ifs_map (f := u32) (fun _ => if_u32) t39))⟩, trivial⟩ ⟨⟨_, rfl, rn_win rfl⟩, ⟨_, rfl, rn_id if_sli⟩, trivial⟩) ?_ ?_
    · intro hj83 s84
      refine sseq ?_
      refine sjq (fun (s90 : Bool) => [(0, .win 0 s84.1 s84.2), (4, sli 1 (List.map u32 ([] : List Nat))), (49, bl s90)]) (fun (s90 : Bool) => [(0, .sl 107 1 (List.map u32 t39))]) ?_ ?_
      · intro j88 hj89
        refine sreg ?_
        refine s1 (mv rfl rfl) ?_
        refine s1 (lenW Tryz.underlying67 rfl rfl) ?_
        refine s1 (gtI rfl rfl (kI (x := 0) rfl)) ?_
        refine s1 (mv rfl rfl) ?_
        refine sifd 41 rfl ?_ ?_
        · refine sg 41 rfl rfl (mv rfl rfl) ?_
          refine sg 41 rfl rfl (mv rfl rfl) ?_
          refine sg 41 rfl rfl (lenW Tryz.underlying67 rfl rfl) ?_
          refine sg 41 rfl rfl (subI rfl rfl (kI (x := 1) rfl)) ?_
          refine bd fun _ h93 => ?_
          refine bd fun y91 h92 => ?_
          refine sg 41 rfl rfl (ixW (f := u32) (grd_some h93) rfl Tryz.underlying67 ti_107 h92 rfl rfl rfl) ?_
          refine sg 41 rfl rfl (ldO (f := u32) [] rfl (getI_ix h92) (by exact rfl) (by exact rfl) sh_107 (by exact rfl) (by exact rfl) rfl rfl) ?_
          refine sg 41 rfl rfl (eqU .u32 rfl rfl (k32 (x := 0) rfl)) ?_
          refine s1 (pickT rfl rfl rfl) ?_
          refine snil ?_
          refine pnm ?_
          exact sj (hj89 _) (entR [(0, 0)] rfl (keepS hγ ⟨rfl, trivial⟩) ⟨⟨_, rfl⟩, trivial⟩ ⟨⟨_, _, rfl, rfl, rci (rc_sl (ifs_map (f := u32) (fun _ => if_u32) t39))⟩, trivial⟩ ⟨⟨_, rfl, rn_win rfl⟩, ⟨_, rfl, rn_id if_sli⟩, ⟨_, rfl, rn_id if_bl⟩, trivial⟩)
        · refine spB 41 rfl rfl rfl ?_
          refine spB 41 rfl rfl rfl ?_
          refine spB 41 rfl rfl rfl ?_
          refine spB 41 rfl rfl rfl ?_
          refine spB 41 rfl rfl rfl ?_
          refine spB 41 rfl rfl rfl ?_
          refine spB 41 rfl rfl rfl ?_
          refine s1 (pickF rfl rfl kB) ?_
          refine snil ?_
          refine pnm ?_
          exact sj (hj89 _) (entR [(0, 0)] rfl (keepS hγ ⟨rfl, trivial⟩) ⟨⟨_, rfl⟩, trivial⟩ ⟨⟨_, _, rfl, rfl, rci (rc_sl (ifs_map (f := u32) (fun _ => if_u32) t39))⟩, trivial⟩ ⟨⟨_, rfl, rn_win rfl⟩, ⟨_, rfl, rn_id if_sli⟩, ⟨_, rfl, rn_id if_bl⟩, trivial⟩)
      · intro s90
        refine scond rfl ?_ ?_
        · refine sskip ?_
          refine pnm ?_
          refine sblk ?_
          refine sreg ?_
          refine s1 (mv rfl rfl) ?_
          refine s1 (mv rfl rfl) ?_
          refine s1 (lenW Tryz.underlying67 rfl rfl) ?_
          refine s1 (subI rfl rfl (kI (x := 1) rfl)) ?_
          refine bd fun _ h94 => ?_
          refine s1 (slW (grd_some h94) rfl Tryz.underlying67 ti_107 rfl rfl bnd0 (bnd rfl)) ?_
          refine s1 (asg rfl rfl) ?_
          refine snil ?_
          refine pbn ?_
          exact sgo (entR [(0, 0)] rfl (keepS hγ ⟨rfl, trivial⟩) ⟨⟨_, rfl⟩, trivial⟩ ⟨⟨_, _, rfl, rfl, rci (rc_sl (ifs_map (f := u32) (fun _ => if_u32) t39))⟩, trivial⟩ ⟨⟨_, rfl, rn_win rfl⟩, ⟨_, rfl, rn_id if_sli⟩, trivial⟩)
        · refine sexit ?_
          refine ptx ?_
          exact sout (fun h => by cases h) (sj (hj83 _) (entR [(0, 0)] rfl (keepS hγ ⟨rfl, trivial⟩) ⟨⟨_, rfl⟩, trivial⟩ ⟨⟨_, _, rfl, rfl, rci (rc_sl (ifs_map (f := u32) (fun _ => if_u32) t39))⟩, trivial⟩ ⟨⟨_, rfl, rn_win rfl⟩, ⟨_, rfl, rn_id if_sli⟩, trivial⟩))
    · intro t82
      refine sx ?_
      refine pnm ?_
      refine sseq ?_
      refine sreg ?_
      refine s1 (mv rfl rfl) ?_
      refine s1 (asg rfl rfl) ?_
      refine snil ?_
      refine pnm ?_
      refine sret ?_
      exact ret [(0, 0)] [.tmp 4] [_] [.win 0 _ _] .ret hγ (.inl rfl) rfl ⟨rfl, trivial⟩ rfl ⟨rfl, trivial⟩ ⟨⟨_, rfl⟩, trivial⟩ ⟨⟨_, _, rfl, rfl, rci (rc_sl (ifs_map (f := u32) (fun _ => if_u32) t39))⟩, trivial⟩ (rns_cons (rn_win rfl) (rns_nil)) rfl
theorem c_retrospectref06_odd {n : Nat} {x0 : (List Nat)} {x0o : Nat} {x0l : Nat} : ∀ r, m_retrospectref06_odd n x0 x0o x0l = some r → FnOk Tryz.prog 106 [.win 0 x0o x0l] [(0, .sl 107 1 (List.map u32 x0))] (.tup [.win 0 r.1 r.2.1, i64 r.2.2.1]) [(0, .sl 107 1 (List.map u32 r.2.2.2))] := by
  unfold m_retrospectref06_odd
  refine fn_of_sq (res := fun (r : Nat × Nat × Int × (List Nat)) => .tup [.win 0 r.1 r.2.1, i64 r.2.2.1]) (mo := fun (r : Nat × Nat × Int × (List Nat)) => [(0, .sl 107 1 (List.map u32 r.2.2.2))]) Tryz.func106 rfl rfl (by kernel_rfl) rfl ?_
  intro w S0 γ hγ
  refine sseq ?_
  refine sreg ?_
  refine s1 (asg rfl (kLm (k := 1) u32)) ?_
  refine s1 (asg rfl (kI (x := 0) rfl)) ?_
  refine snil ?_
  refine pnm ?_
  refine sseq ?_
  refine sreg ?_
  refine s1 (asg rfl (kI (x := 0) rfl)) ?_
  refine snil ?_
  refine pnm ?_
  refine sseq ?_
  refine sblk ?_
  refine sloopE 0 (fun t => t) (fun (s13 : Nat × Nat × Int) => [(0, .win 0 s13.1 s13.2.1), (2, sli 1 (List.map u32 ([] : List Nat))), (3, i64 (0 : Int)), (4, i64 s13.2.2)]) (fun (s13 : Nat × Nat × Int) => [(0, .sl 107 1 (List.map u32 x0))]) (fun (t11 : Nat × Nat × Int) => [(0, .win 0 t11.1 t11.2.1), (2, sli 1 (List.map u32 ([] : List Nat))), (3, i64 (0 : Int)), (4, i64 t11.2.2)]) (fun (t11 : Nat × Nat × Int) => [(0, .sl 107 1 (List.map u32 x0))]) (entR [(0, 0)] rfl (keepS hγ ⟨rfl, trivial⟩) ⟨⟨_, rfl⟩, trivial⟩ ⟨⟨_, _, rfl, rfl, rci (rc_sl (ifs_map (f := u32) (fun _ => if_u32) x0))⟩, trivial⟩ ⟨⟨_, rfl, rn_win rfl⟩, ⟨_, rfl, rn_id if_sli⟩, ⟨_, rfl, rn_id if_i64⟩, ⟨_, rfl, rn_id if_i64⟩, trivial⟩) ?_ ?_
  · intro hj12 s13
    refine sseq ?_
    refine sseq ?_
    refine sreg ?_
    refine s1 (mv rfl rfl) ?_
    refine bd fun _ h16 => ?_
    refine bd fun y14 h15 => ?_
    refine s1 (ixW (f := u32) (grd_some h16) rfl Tryz.underlying67 ti_107 h15 rfl rfl (kI (x := 0) rfl)) ?_
    refine s1 (ldO (f := u32) [] rfl (getI_ix h15) (by exact rfl) (by exact rfl) sh_107 (by exact rfl) (by exact rfl) rfl rfl) ?_
    refine s1 (eqU .u32 rfl rfl (k32 (x := 0) rfl)) ?_
    refine snil ?_
    refine pnm ?_
    refine scond rfl ?_ ?_
    · refine sskip ?_
      refine pnm ?_
      refine sblk ?_
      refine sseq ?_
      refine sreg ?_
      refine s1 (mv rfl rfl) ?_
      refine bd fun _ h17 => ?_
      refine s1 (slW (grd_some h17) rfl Tryz.underlying67 ti_107 rfl rfl (bnd (kI (x := 1) rfl)) bnd0) ?_
      refine s1 (asg rfl rfl) ?_
      refine snil ?_
      refine pnm ?_
      refine sreg ?_
      refine s1 (mv rfl rfl) ?_
      refine s1 (addI rfl rfl (kI (x := 32) rfl)) ?_
      refine s1 (asg rfl rfl) ?_
      refine snil ?_
      refine pbn ?_
      exact sgo (entR [(0, 0)] rfl (keepS hγ ⟨rfl, trivial⟩) ⟨⟨_, rfl⟩, trivial⟩ ⟨⟨_, _, rfl, rfl, rci (rc_sl (ifs_map (f := u32) (fun _ => if_u32) x0))⟩, trivial⟩ ⟨⟨_, rfl, rn_win rfl⟩, ⟨_, rfl, rn_id if_sli⟩, ⟨_, rfl, rn_id if_i64⟩, ⟨_, rfl, rn_id if_i64⟩, trivial⟩)
    · refine sexit ?_
      refine ptx ?_
      exact sout (fun h => by cases h) (sj (hj12 _) (entR [(0, 0)] rfl (keepS hγ ⟨rfl, trivial⟩) ⟨⟨_, rfl⟩, trivial⟩ ⟨⟨_, _, rfl, rfl, rci (rc_sl (ifs_map (f := u32) (fun _ => if_u32) x0))⟩, trivial⟩ ⟨⟨_, rfl, rn_win rfl⟩, ⟨_, rfl, rn_id if_sli⟩, ⟨_, rfl, rn_id if_i64⟩, ⟨_, rfl, rn_id if_i64⟩, trivial⟩))
  · intro t11
    refine sx ?_
    refine pnm ?_
    refine sseq ?_
    refine sreg ?_
    refine s1 (mv rfl rfl) ?_
    refine bd fun _ h20 => ?_
    refine bd fun y18 h19 => ?_
    refine s1 (ixW (f := u32) (grd_some h20) rfl Tryz.underlying67 ti_107 h19 rfl rfl (kI (x := 0) rfl)) ?_
    refine s1 (ldO (f := u32) [] rfl (getI_ix h19) (by exact rfl) (by exact rfl) sh_107 (by exact rfl) (by exact rfl) rfl rfl) ?_
    refine bd fun r21 h22 => ?_
    refine s1 (call0 (c_retrospectref01_Zeros _ h22) ⟨⟨_, rfl, rn_id if_u32⟩, trivial⟩ (if_i64) rfl) ?_
    refine s1 (asg rfl rfl) ?_
    refine snil ?_
    refine pnm ?_
    refine sseq ?_
    refine sreg ?_
    refine s1 (mv rfl rfl) ?_
    refine s1 (mv rfl rfl) ?_
    refine bd fun r23 h24 => ?_
    refine so (callG (em := [(0, .sl 107 1 (List.map u32 r23.2.2))]) (res' := .win 0 r23.1 r23.2.1) [(0, 0)] [] [(0, 0)] (c_retrospectref06_down _ h24) ⟨⟨_, rfl, rn_win rfl⟩, ⟨_, rfl, rn_id if_i64⟩, trivial⟩ (MiF.get (mi := [(0, _)]) ⟨⟨_, _, rfl, rfl, rc_sl (ifs_map (f := u32) (fun _ => if_u32) x0)⟩, trivial⟩) ⟨⟨_, rfl⟩, trivial⟩ rfl trivial ⟨.inr rfl, trivial⟩ rfl ⟨.inl ⟨_, _, rfl, rfl, rc_sl (ifs_map (f := u32) (fun _ => if_u32) r23.2.2)⟩, trivial⟩ ⟨⟨_, rfl⟩, trivial⟩ trivial (rn_win rfl) rfl) ?_
    refine s1 (mv rfl rfl) ?_
    refine s1 (mv rfl rfl) ?_
    refine s1 (addI rfl rfl rfl) ?_
    refine s1 (asg rfl rfl) ?_
    refine s1 (asg rfl rfl) ?_
    refine snil ?_
    refine pnm ?_
    refine sret ?_
    exact ret [(0, 0)] [.tmp 2, .tmp 3] [_, _] [.win 0 _ _, _] .ret hγ (.inl rfl) rfl ⟨rfl, rfl, trivial⟩ rfl ⟨rfl, trivial⟩ ⟨⟨_, rfl⟩, trivial⟩ ⟨⟨_, _, rfl, rfl, rci (rc_sl (ifs_map (f := u32) (fun _ => if_u32) r23.2.2))⟩, trivial⟩ (rns_cons (rn_win rfl) (rns_cons (rn_id if_i64) (rns_nil))) rfl
theorem c_retrospectref02_Cmp {n : Nat} {x0 : (List Nat)} {x1 : (List Nat)} : ∀ r, m_retrospectref02_Cmp n x0 x1 = some r → FnOk Tryz.prog 107 [sli 1 (List.map u32 x0), sli 1 (List.map u32 x1)] [] (i64 r) [] := by
  unfold m_retrospectref02_Cmp
  refine fn_of_sq (res := fun (r : Int) => i64 r) (mo := fun (r : Int) => []) Tryz.func107 rfl rfl (by kernel_rfl) rfl ?_
  intro w S0 γ hγ
  refine sseq ?_
  refine sreg ?_
  refine s1 (asg rfl (kI (x := 0) rfl)) ?_
  refine snil ?_
  refine pnm ?_
  refine sseq ?_
  refine sseq ?_
  refine sreg ?_
  refine s1 (mv rfl rfl) ?_
  refine s1 (lenL (f := u32) Tryz.underlying67 rfl rfl) ?_
  refine s1 (mv rfl rfl) ?_
  refine s1 (lenL (f := u32) Tryz.underlying67 rfl rfl) ?_
  refine s1 (maxI rfl rfl rfl) ?_
  refine s1 (subI rfl rfl (kI (x := 1) rfl)) ?_
  refine s1 (asg rfl rfl) ?_
  refine snil ?_
  refine pnm ?_
  refine sblk ?_
  refine sloopE 0 Lp.go (fun (s15 : Int) => [(0, sli 1 (List.map u32 x0)), (1, sli 1 (List.map u32 x1)), (4, i64 (0 : Int)), (5, i64 s15)]) (fun (s15 : Int) => []) (fun (t13 : Unit) => [(4, i64 (0 : Int))]) (fun (t13 : Unit) => []) (entI ⟨rfl, rfl, rfl, rfl, trivial⟩ eqm0) ?_ ?_
  · intro hj14 s15
    refine sseq ?_
    refine sseq ?_
    refine sreg ?_
    refine s1 (mv rfl rfl) ?_
    refine s1 (geI rfl rfl (kI (x := 0) rfl)) ?_
    refine snil ?_
    refine pnm ?_
    refine scond rfl ?_ ?_
    · refine sskip ?_
      refine pnm ?_
      refine sseq ?_
      refine sblk ?_
      refine sseq ?_
      refine sreg ?_
      refine s1 (mv rfl rfl) ?_
      refine s1 (mv rfl rfl) ?_
      refine bd fun r16 h17 => ?_
      refine s1 (call0 (c_retrospectref02_At _ h17) ⟨⟨_, rfl, rn_id if_sli⟩, ⟨_, rfl, rn_id if_i64⟩, trivial⟩ (if_u32) rfl) ?_
      refine s1 (asg rfl rfl) ?_
      refine snil ?_
      refine pnm ?_
      refine sseq ?_
      refine sreg ?_
      refine s1 (mv rfl rfl) ?_
      refine s1 (mv rfl rfl) ?_
      refine bd fun r18 h19 => ?_
      refine s1 (call0 (c_retrospectref02_At _ h19) ⟨⟨_, rfl, rn_id if_sli⟩, ⟨_, rfl, rn_id if_i64⟩, trivial⟩ (if_u32) rfl) ?_
      refine s1 (asg rfl rfl) ?_
      refine snil ?_
      refine pnm ?_
      refine sseq ?_
      refine sseq ?_
      refine sreg ?_
      refine s1 (mv rfl rfl) ?_
      refine s1 (mv rfl rfl) ?_
      refine s1 (ltU .u32 rfl rfl rfl) ?_
      refine snil ?_
      refine pnm ?_
      refine scond rfl ?_ ?_
      · refine sseq ?_
        refine sreg ?_
        refine s1 (asg rfl (kI (x := (-1)) rfl)) ?_
        refine snil ?_
        refine pnm ?_
        refine sret ?_
        refine pth ?_
        refine pbl ?_
        refine pth ?_
        refine sout (fun h => by cases h) ?_
        refine pbl ?_
        refine pth ?_
        exact ret [] [.tmp 4] [_] [_] .ret hγ (.inl rfl) rfl ⟨rfl, trivial⟩ rfl trivial trivial trivial (rns_cons (rn_id if_i64) (rns_nil)) rfl
      · refine sskip ?_
        refine pnm ?_
        refine sseq ?_
        refine sreg ?_
        refine s1 (mv rfl rfl) ?_
        refine s1 (mv rfl rfl) ?_
        refine s1 (gtU .u32 rfl rfl rfl) ?_
        refine snil ?_
        refine pnm ?_
        refine scond rfl ?_ ?_
        · refine sseq ?_
          refine sreg ?_
          refine s1 (asg rfl (kI (x := 1) rfl)) ?_
          refine snil ?_
          refine pnm ?_
          refine sret ?_
          refine pbl ?_
          refine pth ?_
          refine sout (fun h => by cases h) ?_
          refine pbl ?_
          refine pth ?_
          exact ret [] [.tmp 4] [_] [_] .ret hγ (.inl rfl) rfl ⟨rfl, trivial⟩ rfl trivial trivial trivial (rns_cons (rn_id if_i64) (rns_nil)) rfl
        · refine sskip ?_
          refine pbn ?_
          refine pnm ?_
          refine sreg ?_
          refine s1 (mv rfl rfl) ?_
          refine s1 (subI rfl rfl (kI (x := 1) rfl)) ?_
          refine s1 (asg rfl rfl) ?_
          refine snil ?_
          exact sgo (entI ⟨rfl, rfl, rfl, rfl, trivial⟩ eqm0)
    · refine sexit ?_
      refine ptx ?_
      exact sout (fun h => by cases h) (sj (hj14 _) (entI ⟨rfl, trivial⟩ eqm0))
  · intro t13
    refine slpk ?_
    refine sx ?_
    refine pnm ?_
    refine sseq ?_
    refine sreg ?_
    refine s1 (asg rfl (kI (x := 0) rfl)) ?_
    refine snil ?_
    refine pnm ?_
    refine sret ?_
    exact ret [] [.tmp 4] [_] [_] .ret hγ (.inl rfl) rfl ⟨rfl, trivial⟩ rfl trivial trivial trivial (rns_cons (rn_id if_i64) (rns_nil)) rfl
theorem c_retrospectref05_Less {n : Nat} {x0 : (List Nat)} {x0o : Nat} {x0l : Nat} {x1 : (List Nat)} : ∀ r, m_retrospectref05_Less n x0 x0o x0l x1 = some r → FnOk Tryz.prog 108 [.win 0 x0o x0l, sli 1 (List.map u32 x1)] [(0, .sl 107 1 (List.map u32 x0))] (.tup []) [(0, .sl 107 1 (List.map u32 r))] := by
  unfold m_retrospectref05_Less
  refine fn_of_sq (res := fun (r : (List Nat)) => .tup []) (mo := fun (r : (List Nat)) => [(0, .sl 107 1 (List.map u32 r))]) Tryz.func108 rfl rfl (by kernel_rfl) rfl ?_
  intro w S0 γ hγ
  refine sseq ?_
  refine sreg ?_
  refine s1 (asg rfl (k64 (x := 0) rfl)) ?_
  refine snil ?_
  refine pnm ?_
  refine sseq ?_
  refine sreg ?_
  refine s1 (asg rfl (kI (x := 0) rfl)) ?_
  refine snil ?_
  refine pnm ?_
  refine sblk ?_
  refine sloopE 0 (fun t => t) (fun (s30 : (List Nat) × Nat × Int) => [(0, .win 0 x0o x0l), (1, sli 1 (List.map u32 x1)), (4, u64 s30.2.1), (5, i64 s30.2.2)]) (fun (s30 : (List Nat) × Nat × Int) => [(0, .sl 107 1 (List.map u32 s30.1))]) (fun (t28 : (List Nat)) => []) (fun (t28 : (List Nat)) => [(0, .sl 107 1 (List.map u32 t28))]) (entR [(0, 0)] rfl (keepS hγ ⟨rfl, trivial⟩) ⟨⟨_, rfl⟩, trivial⟩ ⟨⟨_, _, rfl, rfl, rci (rc_sl (ifs_map (f := u32) (fun _ => if_u32) x0))⟩, trivial⟩ ⟨⟨_, rfl, rn_win rfl⟩, ⟨_, rfl, rn_id if_sli⟩, ⟨_, rfl, rn_id if_u64⟩, ⟨_, rfl, rn_id if_i64⟩, trivial⟩) ?_ ?_
  · intro hj29 s30
    refine sseq ?_
    refine sseq ?_
    refine sreg ?_
    refine s1 (mv rfl rfl) ?_
    refine s1 (mv rfl rfl) ?_
    refine s1 (lenW Tryz.underlying67 rfl rfl) ?_
    refine s1 (ltI rfl rfl rfl) ?_
    refine snil ?_
    refine pnm ?_
    refine scond rfl ?_ ?_
    · refine sskip ?_
      refine pnm ?_
      refine sseq ?_
      refine sblk ?_
      refine sseq ?_
      refine sreg ?_
      refine s1 (mv rfl rfl) ?_
      refine s1 (mv rfl rfl) ?_
      refine bd fun _ h33 => ?_
      refine bd fun y31 h32 => ?_
      refine s1 (ixW (f := u32) (grd_some h33) rfl Tryz.underlying67 ti_107 h32 rfl rfl rfl) ?_
      refine s1 (ldO (f := u32) [] rfl (getI_ix h32) (by exact rfl) (by exact rfl) sh_107 (by exact rfl) (by exact rfl) rfl rfl) ?_
      refine s1 (cvUw uk64 uk32 rfl Tryz.underlying107 Tryz.underlying106 rfl rfl) ?_
      refine s1 (asg rfl rfl) ?_
      refine snil ?_
      refine pnm ?_
      refine sseq ?_
      refine sreg ?_
      refine s1 (mv rfl rfl) ?_
      refine s1 (mv rfl rfl) ?_
      refine bd fun r34 h35 => ?_
      refine s1 (call0 (c_retrospectref02_At _ h35) ⟨⟨_, rfl, rn_id if_sli⟩, ⟨_, rfl, rn_id if_i64⟩, trivial⟩ (if_u32) rfl) ?_
      refine s1 (cvUw uk64 uk32 rfl Tryz.underlying107 Tryz.underlying106 rfl rfl) ?_
      refine s1 (mv rfl rfl) ?_
      refine s1 (addU uk64 rfl rfl rfl) ?_
      refine s1 (asg rfl rfl) ?_
      refine snil ?_
      refine pnm ?_
      refine sseq ?_
      refine sreg ?_
      refine s1 (asg rfl (k64 (x := 0) rfl)) ?_
      refine snil ?_
      refine pnm ?_
      refine sjq (fun (s38 : Nat × Nat) => [(0, .win 0 x0o x0l), (1, sli 1 (List.map u32 x1)), (4, u64 s38.1), (5, i64 s30.2.2), (6, u64 s38.2), (7, u64 ((r34 + s30.2.1) % 18446744073709551616))]) (fun (s38 : Nat × Nat) => [(0, .sl 107 1 (List.map u32 s30.1))]) ?_ ?_
      · intro j36 hj37
        refine sseq ?_
        refine sreg ?_
        refine s1 (mv rfl rfl) ?_
        refine s1 (mv rfl rfl) ?_
        refine s1 (ltU .u64 rfl rfl rfl) ?_
        refine snil ?_
        refine pnm ?_
        refine scond rfl ?_ ?_
        · refine sseq ?_
          refine sreg ?_
          refine s1 (mv rfl rfl) ?_
          refine s1 (addU uk64 rfl rfl (k64 (x := 4294967296) rfl)) ?_
          refine s1 (asg rfl rfl) ?_
          refine snil ?_
          refine pnm ?_
          refine sreg ?_
          refine s1 (asg rfl (k64 (x := 1) rfl)) ?_
          refine snil ?_
          refine pnm ?_
          exact sj (hj37 _) (entR [(0, 0)] rfl (keepS hγ ⟨rfl, trivial⟩) ⟨⟨_, rfl⟩, trivial⟩ ⟨⟨_, _, rfl, rfl, rci (rc_sl (ifs_map (f := u32) (fun _ => if_u32) s30.1))⟩, trivial⟩ ⟨⟨_, rfl, rn_win rfl⟩, ⟨_, rfl, rn_id if_sli⟩, ⟨_, rfl, rn_id if_u64⟩, ⟨_, rfl, rn_id if_i64⟩, ⟨_, rfl, rn_id if_u64⟩, ⟨_, rfl, rn_id if_u64⟩, trivial⟩)
        · refine sskip ?_
          refine pnm ?_
          exact sj (hj37 _) (entR [(0, 0)] rfl (keepS hγ ⟨rfl, trivial⟩) ⟨⟨_, rfl⟩, trivial⟩ ⟨⟨_, _, rfl, rfl, rci (rc_sl (ifs_map (f := u32) (fun _ => if_u32) s30.1))⟩, trivial⟩ ⟨⟨_, rfl, rn_win rfl⟩, ⟨_, rfl, rn_id if_sli⟩, ⟨_, rfl, rn_id if_u64⟩, ⟨_, rfl, rn_id if_i64⟩, ⟨_, rfl, rn_id if_u64⟩, ⟨_, rfl, rn_id if_u64⟩, trivial⟩)
      · intro s38
        refine sreg ?_
        refine s1 (mv rfl rfl) ?_
        refine s1 (mv rfl rfl) ?_
        refine s1 (mv rfl rfl) ?_
        refine s1 (mv rfl rfl) ?_
        refine s1 (subU uk64 rfl rfl rfl) ?_
        refine sbn (F := u64) 34 rfl fun z39 => ?_
        refine s1 (cvU uk32 Tryz.underlying106 Tryz.underlying107 rfl rfl) ?_
        refine bd fun _ h42 => ?_
        refine bd fun y40 h41 => ?_
        refine s1 (ixW (f := u32) (grd_some h42) rfl Tryz.underlying67 ti_107 h41 rfl rfl rfl) ?_
        refine so (stO (f := u32) (z39 % 4294967296) [] rfl (getI_ix h41) (by exact rfl) (by exact rfl) (by exact rfl) (by exact rfl) sh_107 (by exact rfl) (by exact rfl) (by exact rfl) rfl rfl) ?_
        refine sbm (C := fun x => .sl 107 1 (List.map u32 x)) 0 rfl fun z43 => ?_
        refine snil ?_
        refine pbn ?_
        refine pnm ?_
        refine sreg ?_
        refine s1 (mv rfl rfl) ?_
        refine s1 (addI rfl rfl (kI (x := 1) rfl)) ?_
        refine s1 (asg rfl rfl) ?_
        refine snil ?_
        exact sgo (entR [(0, 0)] rfl (keepS hγ ⟨rfl, trivial⟩) ⟨⟨_, rfl⟩, trivial⟩ ⟨⟨_, _, rfl, rfl, rci (rc_sl (ifs_map (f := u32) (fun _ => if_u32) z43))⟩, trivial⟩ ⟨⟨_, rfl, rn_win rfl⟩, ⟨_, rfl, rn_id if_sli⟩, ⟨_, rfl, rn_id if_u64⟩, ⟨_, rfl, rn_id if_i64⟩, trivial⟩)
    · refine sexit ?_
      refine ptx ?_
      exact sout (fun h => by cases h) (sj (hj29 _) (entR [(0, 0)] rfl (keepS hγ ⟨rfl, trivial⟩) ⟨⟨_, rfl⟩, trivial⟩ ⟨⟨_, _, rfl, rfl, rci (rc_sl (ifs_map (f := u32) (fun _ => if_u32) s30.1))⟩, trivial⟩ trivial))
  · intro t28
    refine sx ?_
    exact ret [(0, 0)] [] [] [] .normal hγ (.inr rfl) rfl trivial rfl ⟨rfl, trivial⟩ ⟨⟨_, rfl⟩, trivial⟩ ⟨⟨_, _, rfl, rfl, rci (rc_sl (ifs_map (f := u32) (fun _ => if_u32) t28))⟩, trivial⟩ (rns_nil) rfl
theorem c_retrospectref04_Mul {n : Nat} {x0 : (List Nat)} {x1 : (List Nat)} : ∀ r, m_retrospectref04_Mul n x0 x1 = some r → FnOk Tryz.prog 59 [sli 1 (List.map u32 x0), sli 1 (List.map u32 x1)] [] (sli 1 (List.map u32 r)) [] := by
  unfold m_retrospectref04_Mul
  refine fn_of_sq (res := fun (r : (List Nat)) => sli 1 (List.map u32 r)) (mo := fun (r : (List Nat)) => []) Tryz.func59 rfl rfl (by kernel_rfl) rfl ?_
  intro w S0 γ hγ
  refine sseq ?_
  refine sreg ?_
  refine s1 (asg rfl (kLm (k := 1) u32)) ?_
  refine snil ?_
  refine pnm ?_
  refine sseq ?_
  refine sreg ?_
  refine s1 (mv rfl rfl) ?_
  refine s1 (lenL (f := u32) Tryz.underlying67 rfl rfl) ?_
  refine s1 (mv rfl rfl) ?_
  refine s1 (lenL (f := u32) Tryz.underlying67 rfl rfl) ?_
  refine s1 (addI rfl rfl rfl) ?_
  refine bd fun y1 h2 => ?_
  refine so (mks (y := 100) (f := u32) h2 Tryz.underlying67 ti_107 zr_u32 rfl rfl rfl rfl rfl rfl) ?_
  refine s1 (asg rfl rfl) ?_
  refine snil ?_
  refine pnm ?_
  refine sseq ?_
  refine sseq ?_
  refine sreg ?_
  refine s1 (asg rfl (kI (x := 0) rfl)) ?_
  refine snil ?_
  refine pnm ?_
  refine sblk ?_
  refine sloopE 0 (fun t => t) (fun (s77 : (List Nat) × Int) => [(0, sli 1 (List.map u32 x0)), (1, sli 1 (List.map u32 x1)), (4, sli 1 (List.map u32 ([] : List Nat))), (5, .own 100), (6, i64 s77.2)]) (fun (s77 : (List Nat) × Int) => [(100, .sl 107 1 (List.map u32 s77.1))]) (fun (t75 : (List Nat)) => [(4, sli 1 (List.map u32 ([] : List Nat))), (5, .own 100)]) (fun (t75 : (List Nat)) => [(100, .sl 107 1 (List.map u32 t75))]) (entR [(100, 100)] rfl (keepS hγ trivial) ⟨⟨_, rfl⟩, trivial⟩ ⟨⟨_, _, rfl, rfl, rci (rc_sl (ifs_map (f := u32) (fun _ => if_u32) y1))⟩, trivial⟩ ⟨⟨_, rfl, rn_id if_sli⟩, ⟨_, rfl, rn_id if_sli⟩, ⟨_, rfl, rn_id if_sli⟩, ⟨_, rfl, rn_own rfl⟩, ⟨_, rfl, rn_id if_i64⟩, trivial⟩) ?_ ?_
  · intro hj76 s77
    refine sseq ?_
    refine sseq ?_
    refine sreg ?_
    refine s1 (mv rfl rfl) ?_
    refine s1 (mv rfl rfl) ?_
    refine s1 (lenL (f := u32) Tryz.underlying67 rfl rfl) ?_
    refine s1 (ltI rfl rfl rfl) ?_
    refine snil ?_
    refine pnm ?_
    refine scond rfl ?_ ?_
    · refine sskip ?_
      refine pnm ?_
      refine sseq ?_
      refine sblk ?_
      refine sseq ?_
      refine sreg ?_
      refine s1 (asg rfl (k64 (x := 0) rfl)) ?_
      refine snil ?_
      refine pnm ?_
      refine sseq ?_
      refine sseq ?_
      refine sreg ?_
      refine s1 (asg rfl (kI (x := 0) rfl)) ?_
      refine snil ?_
      refine pnm ?_
      refine sblk ?_
      refine sloopE 2 (fun t => t) (fun (s92 : (List Nat) × Nat × Int) => [(0, sli 1 (List.map u32 x0)), (1, sli 1 (List.map u32 x1)), (4, sli 1 (List.map u32 ([] : List Nat))), (5, .own 100), (6, i64 s77.2), (7, u64 s92.2.1), (8, i64 s92.2.2)]) (fun (s92 : (List Nat) × Nat × Int) => [(100, .sl 107 1 (List.map u32 s92.1))]) (fun (t90 : (List Nat) × Nat) => [(0, sli 1 (List.map u32 x0)), (1, sli 1 (List.map u32 x1)), (4, sli 1 (List.map u32 ([] : List Nat))), (5, .own 100), (6, i64 s77.2), (7, u64 t90.2)]) (fun (t90 : (List Nat) × Nat) => [(100, .sl 107 1 (List.map u32 t90.1))]) (entR [(100, 100)] rfl (keepS hγ trivial) ⟨⟨_, rfl⟩, trivial⟩ ⟨⟨_, _, rfl, rfl, rci (rc_sl (ifs_map (f := u32) (fun _ => if_u32) s77.1))⟩, trivial⟩ ⟨⟨_, rfl, rn_id if_sli⟩, ⟨_, rfl, rn_id if_sli⟩, ⟨_, rfl, rn_id if_sli⟩, ⟨_, rfl, rn_own rfl⟩, ⟨_, rfl, rn_id if_i64⟩, ⟨_, rfl, rn_id if_u64⟩, ⟨_, rfl, rn_id if_i64⟩, trivial⟩) ?_ ?_
      · intro hj91 s92
        refine sseq ?_
        refine sseq ?_
        refine sreg ?_
        refine s1 (mv rfl rfl) ?_
        refine s1 (mv rfl rfl) ?_
        refine s1 (lenL (f := u32) Tryz.underlying67 rfl rfl) ?_
        refine s1 (ltI rfl rfl rfl) ?_
        refine snil ?_
        refine pnm ?_
        refine scond rfl ?_ ?_
        · refine sskip ?_
          refine pnm ?_
          refine sseq ?_
          refine sblk ?_
          refine sseq ?_
          refine bd fun y93 h94 => ?_
          refine bd fun y95 h96 => ?_
          refine bd fun y97 h98 => ?_
          refine sdraw [⟨[7], [], [(27, u64 s92.2.1)], []⟩, ⟨[0], [], [(28, sli 1 (List.map u32 x0))], []⟩, ⟨[6], [], [(29, i64 s77.2)], []⟩, ⟨[28, 29], [], [(30, .ref (u32 y93))], []⟩, ⟨[30], [], [(31, u32 y93)], []⟩, ⟨[31], [], [(32, u64 y93)], []⟩, ⟨[1], [], [(33, sli 1 (List.map u32 x1))], []⟩, ⟨[8], [], [(34, i64 s92.2.2)], []⟩, ⟨[33, 34], [], [(35, .ref (u32 y95))], []⟩, ⟨[35], [], [(36, u32 y95)], []⟩, ⟨[36], [], [(37, u64 y95)], []⟩, ⟨[32, 37], [], [(38, u64 ((y93 * y95) % 18446744073709551616))], []⟩, ⟨[5], [], [(39, .own 100)], []⟩, ⟨[6], [], [(40, i64 s77.2)], []⟩, ⟨[8], [], [(41, i64 s92.2.2)], []⟩, ⟨[40, 41], [], [(42, i64 (wrap64 (s77.2 + s92.2.2)))], []⟩, ⟨[39, 42], [100], [(43, .ptr 100 (Int.toNat (wrap64 (s77.2 + s92.2.2)) * 1))], []⟩, ⟨[43], [100], [(44, u32 y97)], []⟩, ⟨[44], [], [(45, u64 y97)], []⟩, ⟨[38, 45], [], [(46, u64 ((((y93 * y95) % 18446744073709551616) + y97) % 18446744073709551616))], []⟩, ⟨[27, 46], [], [(47, u64 ((s92.2.1 + ((((y93 * y95) % 18446744073709551616) + y97) % 18446744073709551616)) % 18446744073709551616))], []⟩, ⟨[47], [], [(7, u64 ((s92.2.1 + ((((y93 * y95) % 18446744073709551616) + y97) % 18446744073709551616)) % 18446744073709551616))], []⟩] fol (by kernel_rfl) ⟨fun st mm ⟨a7, _⟩ _ => og (mv rfl (a7.trans rfl)), fun st mm ⟨a0, _⟩ _ => og (mv rfl (a0.trans rfl)), fun st mm ⟨a6, _⟩ _ => og (mv rfl (a6.trans rfl)), fun st mm ⟨a28, a29, _⟩ _ => og (ixR (f := u32) Tryz.underlying67 ti_107 h94 rfl (a28.trans rfl) (a29.trans rfl)), fun st mm ⟨a30, _⟩ _ => og (ldR sh_107 (by exact rfl) (by exact rfl) rfl (a30.trans rfl)), fun st mm ⟨a31, _⟩ _ => og (cvUw uk64 uk32 rfl Tryz.underlying107 Tryz.underlying106 rfl (a31.trans rfl)), fun st mm ⟨a1, _⟩ _ => og (mv rfl (a1.trans rfl)), fun st mm ⟨a8, _⟩ _ => og (mv rfl (a8.trans rfl)), fun st mm ⟨a33, a34, _⟩ _ => og (ixR (f := u32) Tryz.underlying67 ti_107 h96 rfl (a33.trans rfl) (a34.trans rfl)), fun st mm ⟨a35, _⟩ _ => og (ldR sh_107 (by exact rfl) (by exact rfl) rfl (a35.trans rfl)), fun st mm ⟨a36, _⟩ _ => og (cvUw uk64 uk32 rfl Tryz.underlying107 Tryz.underlying106 rfl (a36.trans rfl)), fun st mm ⟨a32, a37, _⟩ _ => og (mulU uk64 rfl (a32.trans rfl) (a37.trans rfl)), fun st mm ⟨a5, _⟩ _ => og (mv rfl (a5.trans rfl)), fun st mm ⟨a6, _⟩ _ => og (mv rfl (a6.trans rfl)), fun st mm ⟨a8, _⟩ _ => og (mv rfl (a8.trans rfl)), fun st mm ⟨a40, a41, _⟩ _ => og (addI rfl (a40.trans rfl) (a41.trans rfl)), fun st mm ⟨a39, a42, _⟩ ⟨g100, _⟩ => og (ixO (f := u32) (g100.trans rfl) Tryz.underlying67 ti_107 h98 rfl (a39.trans rfl) (a42.trans rfl)), fun st mm ⟨a43, _⟩ ⟨g100, _⟩ => og (ldO (f := u32) [] (g100.trans rfl) (getI_ix h98) (by exact rfl) (by exact rfl) sh_107 (by exact rfl) (by exact rfl) rfl (a43.trans rfl)), fun st mm ⟨a44, _⟩ _ => og (cvUw uk64 uk32 rfl Tryz.underlying107 Tryz.underlying106 rfl (a44.trans rfl)), fun st mm ⟨a38, a45, _⟩ _ => og (addU uk64 rfl (a38.trans rfl) (a45.trans rfl)), fun st mm ⟨a27, a46, _⟩ _ => og (addU uk64 rfl (a27.trans rfl) (a46.trans rfl)), fun st mm ⟨a47, _⟩ _ => og (asg rfl (a47.trans rfl)), trivial⟩ ?_
          refine sbn (F := u64) 7 rfl fun z99 => ?_
          refine sbn (F := u64) 47 rfl fun z100 => ?_
          refine pnm ?_
          refine sseq ?_
          refine sreg ?_
          refine s1 (mv rfl rfl) ?_
          refine s1 (mv rfl rfl) ?_
          refine s1 (mv rfl rfl) ?_
          refine s1 (addI rfl rfl rfl) ?_
          refine s1 (mv rfl rfl) ?_
          refine s1 (remU uk64 rfl rfl rfl (k64 (x := 4294967296) rfl)) ?_
          refine s1 (cvU uk32 Tryz.underlying106 Tryz.underlying107 rfl rfl) ?_
          refine bd fun y101 h102 => ?_
          refine s1 (ixO (f := u32) rfl Tryz.underlying67 ti_107 h102 rfl rfl rfl) ?_
          refine so (stO (f := u32) ((z99 % 4294967296) % 4294967296) [] rfl (getI_ix h102) (by exact rfl) (by exact rfl) (by exact rfl) (by exact rfl) sh_107 (by exact rfl) (by exact rfl) (by exact rfl) rfl rfl) ?_
          refine sbm (C := fun x => .sl 107 1 (List.map u32 x)) 100 rfl fun z103 => ?_
          refine snil ?_
          refine pnm ?_
          refine sreg ?_
          refine s1 (mv rfl rfl) ?_
          refine s1 (quoU uk64 rfl rfl rfl (k64 (x := 4294967296) rfl)) ?_
          refine s1 (asg rfl rfl) ?_
          refine snil ?_
          refine pbn ?_
          refine pnm ?_
          refine sreg ?_
          refine s1 (mv rfl rfl) ?_
          refine s1 (addI rfl rfl (kI (x := 1) rfl)) ?_
          refine s1 (asg rfl rfl) ?_
          refine snil ?_
          exact sgo (entR [(100, 100)] rfl (keepS hγ trivial) ⟨⟨_, rfl⟩, trivial⟩ ⟨⟨_, _, rfl, rfl, rci (rc_sl (ifs_map (f := u32) (fun _ => if_u32) z103))⟩, trivial⟩ ⟨⟨_, rfl, rn_id if_sli⟩, ⟨_, rfl, rn_id if_sli⟩, ⟨_, rfl, rn_id if_sli⟩, ⟨_, rfl, rn_own rfl⟩, ⟨_, rfl, rn_id if_i64⟩, ⟨_, rfl, rn_id if_u64⟩, ⟨_, rfl, rn_id if_i64⟩, trivial⟩)
        · refine sexit ?_
          refine ptx ?_
          exact sout (fun h => by cases h) (sj (hj91 _) (entR [(100, 100)] rfl (keepS hγ trivial) ⟨⟨_, rfl⟩, trivial⟩ ⟨⟨_, _, rfl, rfl, rci (rc_sl (ifs_map (f := u32) (fun _ => if_u32) s92.1))⟩, trivial⟩ ⟨⟨_, rfl, rn_id if_sli⟩, ⟨_, rfl, rn_id if_sli⟩, ⟨_, rfl, rn_id if_sli⟩, ⟨_, rfl, rn_own rfl⟩, ⟨_, rfl, rn_id if_i64⟩, ⟨_, rfl, rn_id if_u64⟩, trivial⟩))
      · intro t90
        refine sx ?_
        refine pnm ?_
        refine sreg ?_
        refine s1 (mv rfl rfl) ?_
        refine s1 (mv rfl rfl) ?_
        refine s1 (mv rfl rfl) ?_
        refine s1 (lenL (f := u32) Tryz.underlying67 rfl rfl) ?_
        refine s1 (addI rfl rfl rfl) ?_
        refine s1 (mv rfl rfl) ?_
        refine s1 (cvU uk32 Tryz.underlying106 Tryz.underlying107 rfl rfl) ?_
        refine bd fun y104 h105 => ?_
        refine s1 (ixO (f := u32) rfl Tryz.underlying67 ti_107 h105 rfl rfl rfl) ?_
        refine so (stO (f := u32) (t90.2 % 4294967296) [] rfl (getI_ix h105) (by exact rfl) (by exact rfl) (by exact rfl) (by exact rfl) sh_107 (by exact rfl) (by exact rfl) (by exact rfl) rfl rfl) ?_
        refine sbm (C := fun x => .sl 107 1 (List.map u32 x)) 100 rfl fun z106 => ?_
        refine snil ?_
        refine pbn ?_
        refine pnm ?_
        refine sreg ?_
        refine s1 (mv rfl rfl) ?_
        refine s1 (addI rfl rfl (kI (x := 1) rfl)) ?_
        refine s1 (asg rfl rfl) ?_
        refine snil ?_
        exact sgo (entR [(100, 100)] rfl (keepS hγ trivial) ⟨⟨_, rfl⟩, trivial⟩ ⟨⟨_, _, rfl, rfl, rci (rc_sl (ifs_map (f := u32) (fun _ => if_u32) z106))⟩, trivial⟩ ⟨⟨_, rfl, rn_id if_sli⟩, ⟨_, rfl, rn_id if_sli⟩, ⟨_, rfl, rn_id if_sli⟩, ⟨_, rfl, rn_own rfl⟩, ⟨_, rfl, rn_id if_i64⟩, trivial⟩)
    · refine sexit ?_
      refine ptx ?_
      exact sout (fun h => by cases h) (sj (hj76 _) (entR [(100, 100)] rfl (keepS hγ trivial) ⟨⟨_, rfl⟩, trivial⟩ ⟨⟨_, _, rfl, rfl, rci (rc_sl (ifs_map (f := u32) (fun _ => if_u32) s77.1))⟩, trivial⟩ ⟨⟨_, rfl, rn_id if_sli⟩, ⟨_, rfl, rn_own rfl⟩, trivial⟩))
  · intro t75
    refine sx ?_
    refine pnm ?_
    refine sseq ?_
    refine sreg ?_
    refine s1 (mv rfl rfl) ?_
    refine bd fun r107 h108 => ?_
    refine so (callL (em := [(101, .sl 107 1 (List.map u32 r107))]) (res' := .own 101) [100] [] [(101, 50)] [(101, 50)] rfl (c_retrospectref02_Norm _ h108) ⟨pls_map (f := u32) (fun _ => pl_u32) _, trivial⟩ (pl_own) ⟨.inr ⟨100, rfl, .inl ⟨rfl, .inl ⟨_, _, _, rfl, ifs_map (f := u32) (fun _ => if_u32) t75, rfl⟩⟩⟩, trivial⟩ (MiF.get (mi := []) trivial) trivial rfl ⟨rfl, trivial⟩ ⟨.inl rfl, trivial⟩ rfl ⟨.inl ⟨_, _, rfl, rfl, rc_sl (ifs_map (f := u32) (fun _ => if_u32) r107)⟩, trivial⟩ trivial ⟨⟨_, rfl⟩, trivial⟩ (rn_own rfl) rfl) ?_
    refine s1 (asg rfl rfl) ?_
    refine snil ?_
    refine pnm ?_
    refine sret ?_
    refine frz (id := 101) [(4, sli 1 (List.map u32 r107)), (67, sli 1 (List.map u32 r107))] [] rfl (ifs_map (f := u32) (fun _ => if_u32) r107) ⟨⟨_, rfl, fz_own⟩, ⟨_, rfl, fz_own⟩, trivial⟩ trivial ?_
    exact ret [] [.tmp 4] [_] [_] .ret hγ (.inl rfl) rfl ⟨rfl, trivial⟩ rfl trivial trivial trivial (rns_cons (rn_id if_sli) (rns_nil)) rfl
theorem c_retrospectref06_double {n : Nat} {x0 : (List Nat)} {x1 : Int} : ∀ r, m_retrospectref06_double n x0 x1 = some r → FnOk Tryz.prog 109 [sli 1 (List.map u32 x0), i64 x1] [] (sli 1 (List.map u32 r)) [] := by
  unfold m_retrospectref06_double
  refine fn_of_sq (res := fun (r : (List Nat)) => sli 1 (List.map u32 r)) (mo := fun (r : (List Nat)) => []) Tryz.func109 rfl rfl (by kernel_rfl) rfl ?_
  intro w S0 γ hγ
  refine sseq ?_
  refine sreg ?_
  refine s1 (asg rfl (kLm (k := 1) u32)) ?_
  refine snil ?_
  refine pnm ?_
  refine sseq ?_
  refine sreg ?_
  refine s1 (mv rfl rfl) ?_
  refine s1 (quoI rfl rfl rfl (kI (x := 32) rfl)) ?_
  refine bd fun y1 h2 => ?_
  refine so (mks (y := 100) (f := u32) h2 Tryz.underlying67 ti_107 zr_u32 rfl rfl rfl rfl rfl rfl) ?_
  refine s1 (mv rfl rfl) ?_
  refine bd fun y3 h4 => ?_
  refine so (app (y := 101) (f := u32) h4 rfl Tryz.underlying67 ti_107 rfl rfl rfl rfl (.inl rfl) rfl rfl) ?_
  refine s1 (asg rfl rfl) ?_
  refine snil ?_
  refine pnm ?_
  refine sseq ?_
  refine sreg ?_
  refine s1 (mv rfl rfl) ?_
  refine s1 (mv rfl rfl) ?_
  refine s1 (remI rfl rfl rfl (kI (x := 32) rfl)) ?_
  refine bd fun _ h5 => ?_
  refine s1 (shlU uk32 (ge0 h5) rfl (k32 (x := 1) rfl) rfl) ?_
  refine so (bsl (y := 102) (ls := List.map u32 ([((1 * 2 ^ (min (Int.toNat (Int.tmod x1 (32 : Int))) 32)) % 4294967296)] : List Nat)) Tryz.underlying67 ti_107 rfl rfl rfl rfl rfl ⟨rfl, rfl, (by exact rfl), (by exact rfl), trivial⟩ rfl rfl) ?_
  refine sbm (C := fun x => .sl 107 1 (List.map u32 x)) 102 rfl fun z6 => ?_
  refine frz (id := 101) [(5, sli 1 (List.map u32 y3)), (10, sli 1 (List.map u32 y3)), (11, sli 1 (List.map u32 y3))] [] rfl (ifs_map (f := u32) (fun _ => if_u32) y3) ⟨⟨_, rfl, fz_own⟩, ⟨_, rfl, fz_own⟩, ⟨_, rfl, fz_own⟩, trivial⟩ trivial ?_
  refine frz (id := 102) [(15, sli 1 (List.map u32 z6))] [] rfl (ifs_map (f := u32) (fun _ => if_u32) z6) ⟨⟨_, rfl, fz_own⟩, trivial⟩ trivial ?_
  refine bd fun r7 h8 => ?_
  refine s1 (call0 (c_retrospectref04_Mul _ h8) ⟨⟨_, rfl, rn_id if_sli⟩, ⟨_, rfl, rn_id if_sli⟩, trivial⟩ (if_sli) rfl) ?_
  refine s1 (asg rfl rfl) ?_
  refine snil ?_
  refine pnm ?_
  refine sret ?_
  exact ret [] [.tmp 4] [_] [_] .ret hγ (.inl rfl) rfl ⟨rfl, trivial⟩ rfl trivial trivial trivial (rns_cons (rn_id if_sli) (rns_nil)) rfl
theorem c_retrospectref06_Gcd {n : Nat} {x0 : (List Nat)} {x1 : (List Nat)} : ∀ r, m_retrospectref06_Gcd n x0 x1 = some r → FnOk Tryz.prog 76 [sli 1 (List.map u32 x0), sli 1 (List.map u32 x1)] [] (sli 1 (List.map u32 r)) [] := by
  unfold m_retrospectref06_Gcd
  refine fn_of_sq (res := fun (r : (List Nat)) => sli 1 (List.map u32 r)) (mo := fun (r : (List Nat)) => []) Tryz.func76 rfl rfl (by kernel_rfl) rfl ?_
  intro w S0 γ hγ
  refine sseq ?_
  refine sreg ?_
  refine s1 (asg rfl (kLm (k := 1) u32)) ?_
  refine snil ?_
  refine pnm ?_
  refine sseq ?_
  refine sreg ?_
  refine s1 (mv rfl rfl) ?_
  refine bd fun r1 h2 => ?_
  refine so (callG (em := [(100, .sl 107 1 (List.map u32 r1))]) (res' := .own 100) [] [(100, 50)] [(100, 50)] (c_retrospectref02_Norm _ h2) ⟨⟨_, rfl, rn_id if_sli⟩, trivial⟩ (MiF.get (mi := []) trivial) trivial rfl ⟨rfl, trivial⟩ ⟨.inl rfl, trivial⟩ rfl ⟨.inl ⟨_, _, rfl, rfl, rc_sl (ifs_map (f := u32) (fun _ => if_u32) r1)⟩, trivial⟩ trivial ⟨⟨_, rfl⟩, trivial⟩ (rn_own rfl) rfl) ?_
  refine s1 (asg rfl rfl) ?_
  refine snil ?_
  refine pnm ?_
  refine sseq ?_
  refine sreg ?_
  refine s1 (mv rfl rfl) ?_
  refine bd fun r3 h4 => ?_
  refine so (callG (em := [(101, .sl 107 1 (List.map u32 r3))]) (res' := .own 101) [] [(101, 50)] [(101, 50)] (c_retrospectref02_Norm _ h4) ⟨⟨_, rfl, rn_id if_sli⟩, trivial⟩ (MiF.get (mi := []) trivial) trivial rfl ⟨rfl, trivial⟩ ⟨.inl rfl, trivial⟩ rfl ⟨.inl ⟨_, _, rfl, rfl, rc_sl (ifs_map (f := u32) (fun _ => if_u32) r3)⟩, trivial⟩ trivial ⟨⟨_, rfl⟩, trivial⟩ (rn_own rfl) rfl) ?_
  refine s1 (asg rfl rfl) ?_
  refine snil ?_
  refine pnm ?_
  refine sseq ?_
  refine sseq ?_
  refine sreg ?_
  refine s1 (mv rfl rfl) ?_
  refine s1 (lenO (f := u32) Tryz.underlying67 rfl rfl rfl) ?_
  refine s1 (eqI rfl rfl (kI (x := 0) rfl)) ?_
  refine snil ?_
  refine pnm ?_
  refine scond rfl ?_ ?_
  · refine sseq ?_
    refine sreg ?_
    refine s1 (mv rfl rfl) ?_
    refine s1 (asg rfl rfl) ?_
    refine snil ?_
    refine pnm ?_
    refine sret ?_
    refine pth ?_
    refine frz (id := 101) [(4, sli 1 (List.map u32 r3)), (6, sli 1 (List.map u32 r3)), (14, sli 1 (List.map u32 r3)), (18, sli 1 (List.map u32 r3))] [] rfl (ifs_map (f := u32) (fun _ => if_u32) r3) ⟨⟨_, rfl, fz_own⟩, ⟨_, rfl, fz_own⟩, ⟨_, rfl, fz_own⟩, ⟨_, rfl, fz_own⟩, trivial⟩ trivial ?_
    exact ret [] [.tmp 4] [_] [_] .ret hγ (.inl rfl) rfl ⟨rfl, trivial⟩ rfl trivial trivial trivial (rns_cons (rn_id if_sli) (rns_nil)) rfl
  · refine sskip ?_
    refine pnm ?_
    refine sseq ?_
    refine sseq ?_
    refine sreg ?_
    refine s1 (mv rfl rfl) ?_
    refine s1 (lenO (f := u32) Tryz.underlying67 rfl rfl rfl) ?_
    refine s1 (eqI rfl rfl (kI (x := 0) rfl)) ?_
    refine snil ?_
    refine pnm ?_
    refine scond rfl ?_ ?_
    · refine sseq ?_
      refine sreg ?_
      refine s1 (mv rfl rfl) ?_
      refine s1 (asg rfl rfl) ?_
      refine snil ?_
      refine pnm ?_
      refine sret ?_
      refine pth ?_
      refine frz (id := 100) [(4, sli 1 (List.map u32 r1)), (5, sli 1 (List.map u32 r1)), (12, sli 1 (List.map u32 r1)), (15, sli 1 (List.map u32 r1)), (22, sli 1 (List.map u32 r1))] [] rfl (ifs_map (f := u32) (fun _ => if_u32) r1) ⟨⟨_, rfl, fz_own⟩, ⟨_, rfl, fz_own⟩, ⟨_, rfl, fz_own⟩, ⟨_, rfl, fz_own⟩, ⟨_, rfl, fz_own⟩, trivial⟩ trivial ?_
      exact ret [] [.tmp 4] [_] [_] .ret hγ (.inl rfl) rfl ⟨rfl, trivial⟩ rfl trivial trivial trivial (rns_cons (rn_id if_sli) (rns_nil)) rfl
    · refine sskip ?_
      refine pnm ?_
      refine sseq ?_
      refine sreg ?_
      refine s1 (mv rfl rfl) ?_
      refine owW 24 (n := r1.length) rfl rfl (List.length_map _).symm ?_
      refine bd fun r5 h6 => ?_
      refine so (callG (em := [(100, .sl 107 1 (List.map u32 r5.2.2.2))]) (res' := .tup [.win 100 r5.1 r5.2.1, i64 r5.2.2.1]) [(0, 100)] [] [(100, 0)] (c_retrospectref06_odd _ h6) ⟨⟨_, rfl, rn_win rfl⟩, trivial⟩ (MiF.get (mi := [(0, _)]) ⟨⟨_, _, rfl, rfl, rc_sl (ifs_map (f := u32) (fun _ => if_u32) r1)⟩, trivial⟩) ⟨⟨_, rfl⟩, trivial⟩ rfl trivial ⟨.inr rfl, trivial⟩ rfl ⟨.inl ⟨_, _, rfl, rfl, rc_sl (ifs_map (f := u32) (fun _ => if_u32) r5.2.2.2)⟩, trivial⟩ ⟨⟨_, rfl⟩, trivial⟩ trivial (rn_tup (rns_cons (rn_win rfl) (rns_cons (rn_id if_i64) (rns_nil)))) rfl) ?_
      refine s1 (mv rfl rfl) ?_
      refine s1 (ext (by exact rfl) rfl rfl) ?_
      refine s1 (ext (by exact rfl) rfl rfl) ?_
      refine s1 (asg rfl rfl) ?_
      refine s1 (asg rfl rfl) ?_
      refine snil ?_
      refine pnm ?_
      refine sseq ?_
      refine sreg ?_
      refine s1 (mv rfl rfl) ?_
      refine owW 29 (n := r3.length) rfl rfl (List.length_map _).symm ?_
      refine bd fun r7 h8 => ?_
      refine so (callG (em := [(101, .sl 107 1 (List.map u32 r7.2.2.2))]) (res' := .tup [.win 101 r7.1 r7.2.1, i64 r7.2.2.1]) [(0, 101)] [] [(101, 0)] (c_retrospectref06_odd _ h8) ⟨⟨_, rfl, rn_win rfl⟩, trivial⟩ (MiF.get (mi := [(0, _)]) ⟨⟨_, _, rfl, rfl, rc_sl (ifs_map (f := u32) (fun _ => if_u32) r3)⟩, trivial⟩) ⟨⟨_, rfl⟩, trivial⟩ rfl trivial ⟨.inr rfl, trivial⟩ rfl ⟨.inl ⟨_, _, rfl, rfl, rc_sl (ifs_map (f := u32) (fun _ => if_u32) r7.2.2.2)⟩, trivial⟩ ⟨⟨_, rfl⟩, trivial⟩ trivial (rn_tup (rns_cons (rn_win rfl) (rns_cons (rn_id if_i64) (rns_nil)))) rfl) ?_
      refine s1 (mv rfl rfl) ?_
      refine s1 (ext (by exact rfl) rfl rfl) ?_
      refine s1 (ext (by exact rfl) rfl rfl) ?_
      refine s1 (asg rfl rfl) ?_
      refine s1 (asg rfl rfl) ?_
      refine snil ?_
      refine pnm ?_
      refine sseq ?_
      refine sblk ?_
      refine sloopE 0 (fun t => t) (fun (s43 : (List Nat) × Nat × Nat × (List Nat) × Nat × Nat) => [(4, sli 1 (List.map u32 ([] : List Nat))), (5, .win 100 s43.2.1 s43.2.2.1), (6, .win 101 s43.2.2.2.2.1 s43.2.2.2.2.2), (7, i64 r5.2.2.1), (8, i64 r7.2.2.1)]) (fun (s43 : (List Nat) × Nat × Nat × (List Nat) × Nat × Nat) => [(100, .sl 107 1 (List.map u32 s43.1)), (101, .sl 107 1 (List.map u32 s43.2.2.2.1))]) (fun (t41 : (List Nat) × Nat × Nat) => [(4, sli 1 (List.map u32 ([] : List Nat))), (5, .win 100 t41.2.1 t41.2.2), (7, i64 r5.2.2.1), (8, i64 r7.2.2.1)]) (fun (t41 : (List Nat) × Nat × Nat) => [(100, .sl 107 1 (List.map u32 t41.1))]) (entR [(100, 100), (101, 101)] rfl (keepS hγ trivial) ⟨⟨_, rfl⟩, ⟨_, rfl⟩, trivial⟩ ⟨⟨_, _, rfl, rfl, rci (rc_sl (ifs_map (f := u32) (fun _ => if_u32) r5.2.2.2))⟩, ⟨_, _, rfl, rfl, rci (rc_sl (ifs_map (f := u32) (fun _ => if_u32) r7.2.2.2))⟩, trivial⟩ ⟨⟨_, rfl, rn_id if_sli⟩, ⟨_, rfl, rn_win rfl⟩, ⟨_, rfl, rn_win rfl⟩, ⟨_, rfl, rn_id if_i64⟩, ⟨_, rfl, rn_id if_i64⟩, trivial⟩) ?_ ?_
      · intro hj42 s43
        refine sblk ?_
        refine sseq ?_
        refine sreg ?_
        refine s1 (mv rfl rfl) ?_
        refine s1 (mv rfl rfl) ?_
        refine bd fun y44 h45 => ?_
        refine bd fun y46 h47 => ?_
        refine bd fun r48 h49 => ?_
        refine s1 (callL (em := []) [100, 101] [] [] [] rfl (c_retrospectref02_Cmp _ h49) trivial (pl_i64) ⟨.inr ⟨100, rfl, .inr ⟨_, _, _, _, rfl, rfl, ifs_map (f := u32) (fun _ => if_u32) s43.1, subW_leM h45, subW_map h45⟩⟩, .inr ⟨101, rfl, .inr ⟨_, _, _, _, rfl, rfl, ifs_map (f := u32) (fun _ => if_u32) s43.2.2.2.1, subW_leM h47, subW_map h47⟩⟩, trivial⟩ (fun _ _ h => by cases h) trivial rfl trivial trivial rfl trivial trivial trivial (rn_id (if_i64)) rfl) ?_
        refine s1 (asg rfl rfl) ?_
        refine snil ?_
        refine pnm ?_
        refine sseq ?_
        refine sseq ?_
        refine sreg ?_
        refine s1 (mv rfl rfl) ?_
        refine s1 (eqI rfl rfl (kI (x := 0) rfl)) ?_
        refine snil ?_
        refine pnm ?_
        refine scond rfl ?_ ?_
        · refine sexit ?_
          refine ptx ?_
          refine sxo rfl ?_
          exact sout (fun h => by cases h) (sj (hj42 _) (entR [(100, 100)] rfl (keepS hγ trivial) ⟨⟨_, rfl⟩, trivial⟩ ⟨⟨_, _, rfl, rfl, rci (rc_sl (ifs_map (f := u32) (fun _ => if_u32) s43.1))⟩, trivial⟩ ⟨⟨_, rfl, rn_id if_sli⟩, ⟨_, rfl, rn_win rfl⟩, ⟨_, rfl, rn_id if_i64⟩, ⟨_, rfl, rn_id if_i64⟩, trivial⟩))
        · refine sskip ?_
          refine pnm ?_
          refine sjq (fun (s52 : (List Nat) × Nat × Nat × (List Nat) × Nat × Nat) => [(4, sli 1 (List.map u32 ([] : List Nat))), (5, .win 101 s52.2.1 s52.2.2.1), (6, .win 100 s52.2.2.2.2.1 s52.2.2.2.2.2), (7, i64 r5.2.2.1), (8, i64 r7.2.2.1)]) (fun (s52 : (List Nat) × Nat × Nat × (List Nat) × Nat × Nat) => [(101, .sl 107 1 (List.map u32 s52.1)), (100, .sl 107 1 (List.map u32 s52.2.2.2.1))]) ?_ ?_
          · intro j50 hj51
            refine sseq ?_
            refine sreg ?_
            refine s1 (mv rfl rfl) ?_
            refine s1 (ltI rfl rfl (kI (x := 0) rfl)) ?_
            refine snil ?_
            refine pnm ?_
            refine scond rfl ?_ ?_
            · refine sseq ?_
              refine sreg ?_
              refine s1 (mv rfl rfl) ?_
              refine s1 (asg rfl rfl) ?_
              refine snil ?_
              refine pnm ?_
              refine sseq ?_
              refine sreg ?_
              refine s1 (mv rfl rfl) ?_
              refine s1 (asg rfl rfl) ?_
              refine snil ?_
              refine pnm ?_
              refine sreg ?_
              refine s1 (mv rfl rfl) ?_
              refine s1 (asg rfl rfl) ?_
              refine snil ?_
              refine pnm ?_
              exact sj (hj51 _) (entR [(101, 101), (100, 100)] rfl (keepS hγ trivial) ⟨⟨_, rfl⟩, ⟨_, rfl⟩, trivial⟩ ⟨⟨_, _, rfl, rfl, rci (rc_sl (ifs_map (f := u32) (fun _ => if_u32) s43.2.2.2.1))⟩, ⟨_, _, rfl, rfl, rci (rc_sl (ifs_map (f := u32) (fun _ => if_u32) s43.1))⟩, trivial⟩ ⟨⟨_, rfl, rn_id if_sli⟩, ⟨_, rfl, rn_win rfl⟩, ⟨_, rfl, rn_win rfl⟩, ⟨_, rfl, rn_id if_i64⟩, ⟨_, rfl, rn_id if_i64⟩, trivial⟩)
            · refine sskip ?_
              refine pnm ?_
              exact sj (hj51 _) (entR [(101, 100), (100, 101)] rfl (keepS hγ trivial) ⟨⟨_, rfl⟩, ⟨_, rfl⟩, trivial⟩ ⟨⟨_, _, rfl, rfl, rci (rc_sl (ifs_map (f := u32) (fun _ => if_u32) s43.1))⟩, ⟨_, _, rfl, rfl, rci (rc_sl (ifs_map (f := u32) (fun _ => if_u32) s43.2.2.2.1))⟩, trivial⟩ ⟨⟨_, rfl, rn_id if_sli⟩, ⟨_, rfl, rn_win rfl⟩, ⟨_, rfl, rn_win rfl⟩, ⟨_, rfl, rn_id if_i64⟩, ⟨_, rfl, rn_id if_i64⟩, trivial⟩)
          · intro s52
            refine sseq ?_
            refine sreg ?_
            refine s1 (mv rfl rfl) ?_
            refine s1 (mv rfl rfl) ?_
            refine bd fun y53 h54 => ?_
            refine bd fun r55 h56 => ?_
            refine so (callL (em := [(101, .sl 107 1 (List.map u32 r55))]) (res' := .tup []) [100] [(0, 101)] [] [(101, 0)] rfl (c_retrospectref05_Less _ h56) ⟨pls_map (f := u32) (fun _ => pl_u32) _, trivial⟩ (pl_tup (pls_nil)) ⟨.inl ⟨_, rfl, rn_win rfl⟩, .inr ⟨100, rfl, .inr ⟨_, _, _, _, rfl, rfl, ifs_map (f := u32) (fun _ => if_u32) s52.2.2.2.1, subW_leM h54, subW_map h54⟩⟩, trivial⟩ (MiF.get (mi := [(0, _)]) ⟨⟨_, _, rfl, rfl, rc_sl (ifs_map (f := u32) (fun _ => if_u32) s52.1)⟩, trivial⟩) ⟨⟨_, rfl⟩, trivial⟩ rfl trivial ⟨.inr rfl, trivial⟩ rfl ⟨.inl ⟨_, _, rfl, rfl, rc_sl (ifs_map (f := u32) (fun _ => if_u32) r55)⟩, trivial⟩ ⟨⟨_, rfl⟩, trivial⟩ trivial (rn_tup (rns_nil)) rfl) ?_
            refine snil ?_
            refine pnm ?_
            refine sreg ?_
            refine s1 (mv rfl rfl) ?_
            refine bd fun r57 h58 => ?_
            refine so (callG (em := [(101, .sl 107 1 (List.map u32 r57.2.2.2))]) (res' := .tup [.win 101 r57.1 r57.2.1, i64 r57.2.2.1]) [(0, 101)] [] [(101, 0)] (c_retrospectref06_odd _ h58) ⟨⟨_, rfl, rn_win rfl⟩, trivial⟩ (MiF.get (mi := [(0, _)]) ⟨⟨_, _, rfl, rfl, rc_sl (ifs_map (f := u32) (fun _ => if_u32) r55)⟩, trivial⟩) ⟨⟨_, rfl⟩, trivial⟩ rfl trivial ⟨.inr rfl, trivial⟩ rfl ⟨.inl ⟨_, _, rfl, rfl, rc_sl (ifs_map (f := u32) (fun _ => if_u32) r57.2.2.2)⟩, trivial⟩ ⟨⟨_, rfl⟩, trivial⟩ trivial (rn_tup (rns_cons (rn_win rfl) (rns_cons (rn_id if_i64) (rns_nil)))) rfl) ?_
            refine s1 (mv rfl rfl) ?_
            refine s1 (ext (by exact rfl) rfl rfl) ?_
            refine s1 (ext (by exact rfl) rfl rfl) ?_
            refine s1 (asg rfl rfl) ?_
            refine snil ?_
            refine pbn ?_
            exact sgo (entR [(100, 101), (101, 100)] rfl (keepS hγ trivial) ⟨⟨_, rfl⟩, ⟨_, rfl⟩, trivial⟩ ⟨⟨_, _, rfl, rfl, rci (rc_sl (ifs_map (f := u32) (fun _ => if_u32) r57.2.2.2))⟩, ⟨_, _, rfl, rfl, rci (rc_sl (ifs_map (f := u32) (fun _ => if_u32) s52.2.2.2.1))⟩, trivial⟩ ⟨⟨_, rfl, rn_id if_sli⟩, ⟨_, rfl, rn_win rfl⟩, ⟨_, rfl, rn_win rfl⟩, ⟨_, rfl, rn_id if_i64⟩, ⟨_, rfl, rn_id if_i64⟩, trivial⟩)
      · intro t41
        refine sx ?_
        refine pnm ?_
        refine sseq ?_
        refine sreg ?_
        refine s1 (mv rfl rfl) ?_
        refine s1 (mv rfl rfl) ?_
        refine s1 (mv rfl rfl) ?_
        refine s1 (minI rfl rfl rfl) ?_
        refine bd fun y59 h60 => ?_
        refine frzW 51 (f := u32) h60 rfl rfl (ifs_map (f := u32) (fun _ => if_u32) t41.1) ?_
        refine bd fun r61 h62 => ?_
        refine s1 (call0 (c_retrospectref06_double _ h62) ⟨⟨_, rfl, rn_id if_sli⟩, ⟨_, rfl, rn_id if_i64⟩, trivial⟩ (if_sli) rfl) ?_
        refine s1 (asg rfl rfl) ?_
        refine snil ?_
        refine pnm ?_
        refine sret ?_
        exact ret [] [.tmp 4] [_] [_] .ret hγ (.inl rfl) rfl ⟨rfl, trivial⟩ rfl trivial trivial trivial (rns_cons (rn_id if_sli) (rns_nil)) rfl
theorem c_retrospectref03_Has {n : Nat} {x0 : (List Nat)} {x1 : Int} : ∀ r, m_retrospectref03_Has n x0 x1 = some r → FnOk Tryz.prog 140 [sli 1 (List.map u32 x0), i64 x1] [] (bl r) [] := by
  unfold m_retrospectref03_Has
  refine fn_of_sq (res := fun (r : Bool) => bl r) (mo := fun (r : Bool) => []) Tryz.func140 rfl rfl (by kernel_rfl) rfl ?_
  intro w S0 γ hγ
  refine sseq ?_
  refine sreg ?_
  refine s1 (asg rfl kB) ?_
  refine snil ?_
  refine pnm ?_
  refine sseq ?_
  refine sjq (fun (s3 : Bool) => [(0, sli 1 (List.map u32 x0)), (1, i64 x1), (4, bl false), (15, bl s3)]) (fun (s3 : Bool) => []) ?_ ?_
  · intro j1 hj2
    refine sreg ?_
    refine s1 (mv rfl rfl) ?_
    refine s1 (ltI rfl rfl (kI (x := 0) rfl)) ?_
    refine s1 (mv rfl rfl) ?_
    refine sifd 9 rfl ?_ ?_
    · refine spB 9 rfl rfl rfl ?_
      refine spB 9 rfl rfl rfl ?_
      refine spB 9 rfl rfl rfl ?_
      refine spB 9 rfl rfl rfl ?_
      refine spB 9 rfl rfl rfl ?_
      refine s1 (pickT rfl rfl kB) ?_
      refine snil ?_
      refine pnm ?_
      exact sj (hj2 _) (entI ⟨rfl, rfl, rfl, rfl, trivial⟩ eqm0)
    · refine sg 9 rfl rfl (mv rfl rfl) ?_
      refine sg 9 rfl rfl (quoI rfl rfl rfl (kI (x := 32) rfl)) ?_
      refine sg 9 rfl rfl (mv rfl rfl) ?_
      refine sg 9 rfl rfl (lenL (f := u32) Tryz.underlying67 rfl rfl) ?_
      refine sg 9 rfl rfl (geI rfl rfl rfl) ?_
      refine s1 (pickF rfl rfl rfl) ?_
      refine snil ?_
      refine pnm ?_
      exact sj (hj2 _) (entI ⟨rfl, rfl, rfl, rfl, trivial⟩ eqm0)
  · intro s3
    refine scond rfl ?_ ?_
    · refine sseq ?_
      refine sreg ?_
      refine s1 (asg rfl kB) ?_
      refine snil ?_
      refine pnm ?_
      refine sret ?_
      refine pth ?_
      exact ret [] [.tmp 4] [_] [_] .ret hγ (.inl rfl) rfl ⟨rfl, trivial⟩ rfl trivial trivial trivial (rns_cons (rn_id if_bl) (rns_nil)) rfl
    · refine sskip ?_
      refine pnm ?_
      refine sseq ?_
      refine sreg ?_
      refine s1 (mv rfl rfl) ?_
      refine s1 (mv rfl rfl) ?_
      refine s1 (quoI rfl rfl rfl (kI (x := 32) rfl)) ?_
      refine bd fun y4 h5 => ?_
      refine s1 (ixR (f := u32) Tryz.underlying67 ti_107 h5 rfl rfl rfl) ?_
      refine s1 (ldR sh_107 (by exact rfl) (by exact rfl) rfl rfl) ?_
      refine s1 (asg rfl rfl) ?_
      refine snil ?_
      refine pnm ?_
      refine sseq ?_
      refine sseq ?_
      refine sreg ?_
      refine s1 (asg rfl (kI (x := 0) rfl)) ?_
      refine snil ?_
      refine pnm ?_
      refine sblk ?_
      refine sloopE 0 (fun t => t) (fun (s10 : Nat × Int) => [(1, i64 x1), (4, bl false), (5, u32 s10.1), (6, i64 s10.2)]) (fun (s10 : Nat × Int) => []) (fun (t8 : Nat) => [(4, bl false), (5, u32 t8)]) (fun (t8 : Nat) => []) (entI ⟨rfl, rfl, rfl, rfl, trivial⟩ eqm0) ?_ ?_
      · intro hj9 s10
        refine sseq ?_
        refine sseq ?_
        refine sreg ?_
        refine s1 (mv rfl rfl) ?_
        refine s1 (mv rfl rfl) ?_
        refine s1 (remI rfl rfl rfl (kI (x := 32) rfl)) ?_
        refine s1 (ltI rfl rfl rfl) ?_
        refine snil ?_
        refine pnm ?_
        refine scond rfl ?_ ?_
        · refine sskip ?_
          refine pnm ?_
          refine sseq ?_
          refine sblk ?_
          refine sreg ?_
          refine s1 (mv rfl rfl) ?_
          refine s1 (quoU uk32 rfl rfl rfl (k32 (x := 2) rfl)) ?_
          refine s1 (asg rfl rfl) ?_
          refine snil ?_
          refine pbn ?_
          refine pnm ?_
          refine sreg ?_
          refine s1 (mv rfl rfl) ?_
          refine s1 (addI rfl rfl (kI (x := 1) rfl)) ?_
          refine s1 (asg rfl rfl) ?_
          refine snil ?_
          exact sgo (entI ⟨rfl, rfl, rfl, rfl, trivial⟩ eqm0)
        · refine sexit ?_
          refine ptx ?_
          exact sout (fun h => by cases h) (sj (hj9 _) (entI ⟨rfl, rfl, trivial⟩ eqm0))
      · intro t8
        refine sx ?_
        refine pnm ?_
        refine sseq ?_
        refine sreg ?_
        refine s1 (mv rfl rfl) ?_
        refine s1 (remU uk32 rfl rfl rfl (k32 (x := 2) rfl)) ?_
        refine s1 (eqU .u32 rfl rfl (k32 (x := 1) rfl)) ?_
        refine s1 (asg rfl rfl) ?_
        refine snil ?_
        refine pnm ?_
        refine sret ?_
        exact ret [] [.tmp 4] [_] [_] .ret hγ (.inl rfl) rfl ⟨rfl, trivial⟩ rfl trivial trivial trivial (rns_cons (rn_id if_bl) (rns_nil)) rfl
theorem c_retrospectref03_Len {n : Nat} {x0 : (List Nat)} : ∀ r, m_retrospectref03_Len n x0 = some r → FnOk Tryz.prog 130 [sli 1 (List.map u32 x0)] [] (i64 r) [] := by
  unfold m_retrospectref03_Len
  refine fn_of_sq (res := fun (r : Int) => i64 r) (mo := fun (r : Int) => []) Tryz.func130 rfl rfl (by kernel_rfl) rfl ?_
  intro w S0 γ hγ
  refine sseq ?_
  refine sreg ?_
  refine s1 (asg rfl (kI (x := 0) rfl)) ?_
  refine snil ?_
  refine pnm ?_
  refine sseq ?_
  refine sreg ?_
  refine s1 (mv rfl rfl) ?_
  refine s1 (lenL (f := u32) Tryz.underlying67 rfl rfl) ?_
  refine s1 (mulI rfl (kI (x := 32) rfl) rfl) ?_
  refine s1 (asg rfl rfl) ?_
  refine snil ?_
  refine pnm ?_
  refine sseq ?_
  refine sblk ?_
  refine sloopE 0 (fun t => t) (fun (s19 : Int) => [(0, sli 1 (List.map u32 x0)), (2, i64 (0 : Int)), (3, i64 s19)]) (fun (s19 : Int) => []) (fun (t17 : Int) => [(2, i64 (0 : Int)), (3, i64 t17)]) (fun (t17 : Int) => []) (entI ⟨rfl, rfl, rfl, trivial⟩ eqm0) ?_ ?_
  · intro hj18 s19
    refine sseq ?_
    refine sjq (fun (s24 : Bool) => [(0, sli 1 (List.map u32 x0)), (2, i64 (0 : Int)), (3, i64 s19), (15, bl s24)]) (fun (s24 : Bool) => []) ?_ ?_
    · intro j22 hj23
      refine sreg ?_
      refine s1 (mv rfl rfl) ?_
      refine s1 (gtI rfl rfl (kI (x := 0) rfl)) ?_
      refine s1 (mv rfl rfl) ?_
      refine sifd 9 rfl ?_ ?_
      · refine sg 9 rfl rfl (mv rfl rfl) ?_
        refine sg 9 rfl rfl (mv rfl rfl) ?_
        refine sg 9 rfl rfl (subI rfl rfl (kI (x := 1) rfl)) ?_
        refine bd fun r25 h26 => ?_
        refine sg 9 rfl rfl (call0 (c_retrospectref03_Has _ h26) ⟨⟨_, rfl, rn_id if_sli⟩, ⟨_, rfl, rn_id if_i64⟩, trivial⟩ (if_bl) rfl) ?_
        refine sg 9 rfl rfl (notB rfl rfl) ?_
        refine s1 (pickT rfl rfl rfl) ?_
        refine snil ?_
        refine pnm ?_
        exact sj (hj23 _) (entI ⟨rfl, rfl, rfl, rfl, trivial⟩ eqm0)
      · refine spB 9 rfl rfl rfl ?_
        refine spB 9 rfl rfl rfl ?_
        refine spB 9 rfl rfl rfl ?_
        refine spB 9 rfl rfl rfl ?_
        refine spB 9 rfl rfl rfl ?_
        refine s1 (pickF rfl rfl kB) ?_
        refine snil ?_
        refine pnm ?_
        exact sj (hj23 _) (entI ⟨rfl, rfl, rfl, rfl, trivial⟩ eqm0)
    · intro s24
      refine scond rfl ?_ ?_
      · refine sskip ?_
        refine pnm ?_
        refine sblk ?_
        refine sreg ?_
        refine s1 (mv rfl rfl) ?_
        refine s1 (subI rfl rfl (kI (x := 1) rfl)) ?_
        refine s1 (asg rfl rfl) ?_
        refine snil ?_
        refine pbn ?_
        exact sgo (entI ⟨rfl, rfl, rfl, trivial⟩ eqm0)
      · refine sexit ?_
        refine ptx ?_
        exact sout (fun h => by cases h) (sj (hj18 _) (entI ⟨rfl, rfl, trivial⟩ eqm0))
  · intro t17
    refine sx ?_
    refine pnm ?_
    refine sseq ?_
    refine sreg ?_
    refine s1 (mv rfl rfl) ?_
    refine s1 (asg rfl rfl) ?_
    refine snil ?_
    refine pnm ?_
    refine sret ?_
    exact ret [] [.tmp 2] [_] [_] .ret hγ (.inl rfl) rfl ⟨rfl, trivial⟩ rfl trivial trivial trivial (rns_cons (rn_id if_i64) (rns_nil)) rfl
theorem c_retrospectref05_Double {n : Nat} {x0 : (List Nat)} {x1 : Bool} : ∀ r, m_retrospectref05_Double n x0 x1 = some r → FnOk Tryz.prog 131 [.own 0, bl x1] [(0, .sl 107 1 (List.map u32 x0))] (.tup []) [(0, .sl 107 1 (List.map u32 r))] := by
  unfold m_retrospectref05_Double
  refine fn_of_sq (res := fun (r : (List Nat)) => .tup []) (mo := fun (r : (List Nat)) => [(0, .sl 107 1 (List.map u32 r))]) Tryz.func131 rfl rfl (by kernel_rfl) rfl ?_
  intro w S0 γ hγ
  refine sseq ?_
  refine sreg ?_
  refine s1 (asg rfl (k32 (x := 0) rfl)) ?_
  refine snil ?_
  refine pnm ?_
  refine sjq (fun (s3 : Nat) => [(0, .own 0), (4, u32 s3)]) (fun (s3 : Nat) => [(0, .sl 107 1 (List.map u32 x0))]) ?_ ?_
  · intro j1 hj2
    refine sseq ?_
    refine sreg ?_
    refine s1 (mv rfl rfl) ?_
    refine snil ?_
    refine pnm ?_
    refine scond rfl ?_ ?_
    · refine sreg ?_
      refine s1 (asg rfl (k32 (x := 1) rfl)) ?_
      refine snil ?_
      refine pnm ?_
      exact sj (hj2 _) (entR [(0, 0)] rfl (keepS hγ ⟨rfl, trivial⟩) ⟨⟨_, rfl⟩, trivial⟩ ⟨⟨_, _, rfl, rfl, rci (rc_sl (ifs_map (f := u32) (fun _ => if_u32) x0))⟩, trivial⟩ ⟨⟨_, rfl, rn_own rfl⟩, ⟨_, rfl, rn_id if_u32⟩, trivial⟩)
    · refine sskip ?_
      refine pnm ?_
      exact sj (hj2 _) (entR [(0, 0)] rfl (keepS hγ ⟨rfl, trivial⟩) ⟨⟨_, rfl⟩, trivial⟩ ⟨⟨_, _, rfl, rfl, rci (rc_sl (ifs_map (f := u32) (fun _ => if_u32) x0))⟩, trivial⟩ ⟨⟨_, rfl, rn_own rfl⟩, ⟨_, rfl, rn_id if_u32⟩, trivial⟩)
  · intro s3
    refine sseq ?_
    refine sreg ?_
    refine s1 (asg rfl (kI (x := 0) rfl)) ?_
    refine snil ?_
    refine pnm ?_
    refine sblk ?_
    refine sloopE 0 (fun t => t) (fun (s22 : (List Nat) × Nat × Int) => [(0, .own 0), (4, u32 s22.2.1), (5, i64 s22.2.2)]) (fun (s22 : (List Nat) × Nat × Int) => [(0, .sl 107 1 (List.map u32 s22.1))]) (fun (t20 : (List Nat)) => []) (fun (t20 : (List Nat)) => [(0, .sl 107 1 (List.map u32 t20))]) (entR [(0, 0)] rfl (keepS hγ ⟨rfl, trivial⟩) ⟨⟨_, rfl⟩, trivial⟩ ⟨⟨_, _, rfl, rfl, rci (rc_sl (ifs_map (f := u32) (fun _ => if_u32) x0))⟩, trivial⟩ ⟨⟨_, rfl, rn_own rfl⟩, ⟨_, rfl, rn_id if_u32⟩, ⟨_, rfl, rn_id if_i64⟩, trivial⟩) ?_ ?_
    · intro hj21 s22
      refine sseq ?_
      refine sseq ?_
      refine sreg ?_
      refine s1 (mv rfl rfl) ?_
      refine s1 (mv rfl rfl) ?_
      refine s1 (lenO (f := u32) Tryz.underlying67 rfl rfl rfl) ?_
      refine s1 (ltI rfl rfl rfl) ?_
      refine snil ?_
      refine pnm ?_
      refine scond rfl ?_ ?_
      · refine sskip ?_
        refine pnm ?_
        refine sseq ?_
        refine sblk ?_
        refine sseq ?_
        refine sreg ?_
        refine s1 (mv rfl rfl) ?_
        refine s1 (mv rfl rfl) ?_
        refine bd fun y23 h24 => ?_
        refine s1 (ixO (f := u32) rfl Tryz.underlying67 ti_107 h24 rfl rfl rfl) ?_
        refine s1 (ldO (f := u32) [] rfl (getI_ix h24) (by exact rfl) (by exact rfl) sh_107 (by exact rfl) (by exact rfl) rfl rfl) ?_
        refine s1 (quoU uk32 rfl rfl rfl (k32 (x := 2147483648) rfl)) ?_
        refine s1 (asg rfl rfl) ?_
        refine snil ?_
        refine pnm ?_
        refine sseq ?_
        refine sreg ?_
        refine s1 (mv rfl rfl) ?_
        refine s1 (mv rfl rfl) ?_
        refine s1 (mv rfl rfl) ?_
        refine s1 (mv rfl rfl) ?_
        refine bd fun y25 h26 => ?_
        refine s1 (ixO (f := u32) rfl Tryz.underlying67 ti_107 h26 rfl rfl rfl) ?_
        refine s1 (ldO (f := u32) [] rfl (getI_ix h26) (by exact rfl) (by exact rfl) sh_107 (by exact rfl) (by exact rfl) rfl rfl) ?_
        refine s1 (mulU uk32 rfl rfl (k32 (x := 2) rfl)) ?_
        refine s1 (mv rfl rfl) ?_
        refine s1 (addU uk32 rfl rfl rfl) ?_
        refine bd fun y27 h28 => ?_
        refine s1 (ixO (f := u32) rfl Tryz.underlying67 ti_107 h28 rfl rfl rfl) ?_
        refine so (stO (f := u32) ((((y25 * 2) % 4294967296) + s22.2.1) % 4294967296) [] rfl (getI_ix h28) (by exact rfl) (by exact rfl) (by exact rfl) (by exact rfl) sh_107 (by exact rfl) (by exact rfl) (by exact rfl) rfl rfl) ?_
        refine sbm (C := fun x => .sl 107 1 (List.map u32 x)) 0 rfl fun z29 => ?_
        refine snil ?_
        refine pnm ?_
        refine sreg ?_
        refine s1 (mv rfl rfl) ?_
        refine s1 (asg rfl rfl) ?_
        refine snil ?_
        refine pbn ?_
        refine pnm ?_
        refine sreg ?_
        refine s1 (mv rfl rfl) ?_
        refine s1 (addI rfl rfl (kI (x := 1) rfl)) ?_
        refine s1 (asg rfl rfl) ?_
        refine snil ?_
        exact sgo (entR [(0, 0)] rfl (keepS hγ ⟨rfl, trivial⟩) ⟨⟨_, rfl⟩, trivial⟩ ⟨⟨_, _, rfl, rfl, rci (rc_sl (ifs_map (f := u32) (fun _ => if_u32) z29))⟩, trivial⟩ ⟨⟨_, rfl, rn_own rfl⟩, ⟨_, rfl, rn_id if_u32⟩, ⟨_, rfl, rn_id if_i64⟩, trivial⟩)
      · refine sexit ?_
        refine ptx ?_
        exact sout (fun h => by cases h) (sj (hj21 _) (entR [(0, 0)] rfl (keepS hγ ⟨rfl, trivial⟩) ⟨⟨_, rfl⟩, trivial⟩ ⟨⟨_, _, rfl, rfl, rci (rc_sl (ifs_map (f := u32) (fun _ => if_u32) s22.1))⟩, trivial⟩ trivial))
    · intro t20
      refine sx ?_
      exact ret [(0, 0)] [] [] [] .normal hγ (.inr rfl) rfl trivial rfl ⟨rfl, trivial⟩ ⟨⟨_, rfl⟩, trivial⟩ ⟨⟨_, _, rfl, rfl, rci (rc_sl (ifs_map (f := u32) (fun _ => if_u32) t20))⟩, trivial⟩ (rns_nil) rfl
theorem c_retrospectref05_Div {n : Nat} {x0 : (List Nat)} {x1 : (List Nat)} : ∀ r, m_retrospectref05_Div n x0 x1 = some r → FnOk Tryz.prog 110 [sli 1 (List.map u32 x0), sli 1 (List.map u32 x1)] [] (.tup [sli 1 (List.map u32 r.1), sli 1 (List.map u32 r.2)]) [] := by
  unfold m_retrospectref05_Div
  refine fn_of_sq (res := fun (r : (List Nat) × (List Nat)) => .tup [sli 1 (List.map u32 r.1), sli 1 (List.map u32 r.2)]) (mo := fun (r : (List Nat) × (List Nat)) => []) Tryz.func110 rfl rfl (by kernel_rfl) rfl ?_
  intro w S0 γ hγ
  refine sseq ?_
  refine sreg ?_
  refine s1 (asg rfl (kLm (k := 1) u32)) ?_
  refine s1 (asg rfl (kLm (k := 1) u32)) ?_
  refine snil ?_
  refine pnm ?_
  refine sseq ?_
  refine sreg ?_
  refine s1 (mv rfl rfl) ?_
  refine s1 (lenL (f := u32) Tryz.underlying67 rfl rfl) ?_
  refine bd fun y1 h2 => ?_
  refine so (mks (y := 100) (f := u32) h2 Tryz.underlying67 ti_107 zr_u32 rfl rfl rfl rfl rfl rfl) ?_
  refine s1 (asg rfl rfl) ?_
  refine snil ?_
  refine pnm ?_
  refine sseq ?_
  refine sreg ?_
  refine s1 (mv rfl rfl) ?_
  refine s1 (lenL (f := u32) Tryz.underlying67 rfl rfl) ?_
  refine s1 (addI rfl rfl (kI (x := 1) rfl)) ?_
  refine bd fun y3 h4 => ?_
  refine so (mks (y := 101) (f := u32) h4 Tryz.underlying67 ti_107 zr_u32 rfl rfl rfl rfl rfl rfl) ?_
  refine s1 (asg rfl rfl) ?_
  refine snil ?_
  refine pnm ?_
  refine sseq ?_
  refine sseq ?_
  refine sreg ?_
  refine s1 (mv rfl rfl) ?_
  refine bd fun r5 h6 => ?_
  refine s1 (call0 (c_retrospectref03_Len _ h6) ⟨⟨_, rfl, rn_id if_sli⟩, trivial⟩ (if_i64) rfl) ?_
  refine s1 (subI rfl rfl (kI (x := 1) rfl)) ?_
  refine s1 (asg rfl rfl) ?_
  refine snil ?_
  refine pnm ?_
  refine sblk ?_
  refine sloopE 0 (fun t => t) (fun (s97 : (List Nat) × (List Nat) × Int) => [(0, sli 1 (List.map u32 x0)), (1, sli 1 (List.map u32 x1)), (4, sli 1 (List.map u32 ([] : List Nat))), (5, sli 1 (List.map u32 ([] : List Nat))), (6, .own 100), (7, .own 101), (8, i64 s97.2.2)]) (fun (s97 : (List Nat) × (List Nat) × Int) => [(100, .sl 107 1 (List.map u32 s97.1)), (101, .sl 107 1 (List.map u32 s97.2.1))]) (fun (t95 : (List Nat) × (List Nat)) => [(4, sli 1 (List.map u32 ([] : List Nat))), (5, sli 1 (List.map u32 ([] : List Nat))), (6, .own 100), (7, .own 101)]) (fun (t95 : (List Nat) × (List Nat)) => [(100, .sl 107 1 (List.map u32 t95.1)), (101, .sl 107 1 (List.map u32 t95.2))]) (entR [(100, 100), (101, 101)] rfl (keepS hγ trivial) ⟨⟨_, rfl⟩, ⟨_, rfl⟩, trivial⟩ ⟨⟨_, _, rfl, rfl, rci (rc_sl (ifs_map (f := u32) (fun _ => if_u32) y1))⟩, ⟨_, _, rfl, rfl, rci (rc_sl (ifs_map (f := u32) (fun _ => if_u32) y3))⟩, trivial⟩ ⟨⟨_, rfl, rn_id if_sli⟩, ⟨_, rfl, rn_id if_sli⟩, ⟨_, rfl, rn_id if_sli⟩, ⟨_, rfl, rn_id if_sli⟩, ⟨_, rfl, rn_own rfl⟩, ⟨_, rfl, rn_own rfl⟩, ⟨_, rfl, rn_id if_i64⟩, trivial⟩) ?_ ?_
  · intro hj96 s97
    refine sseq ?_
    refine sseq ?_
    refine sreg ?_
    refine s1 (mv rfl rfl) ?_
    refine s1 (geI rfl rfl (kI (x := 0) rfl)) ?_
    refine snil ?_
    refine pnm ?_
    refine scond rfl ?_ ?_
    · refine sskip ?_
      refine pnm ?_
      refine sjq (fun (s120 : (List Nat) × (List Nat)) => [(0, sli 1 (List.map u32 x0)), (1, sli 1 (List.map u32 x1)), (4, sli 1 (List.map u32 ([] : List Nat))), (5, sli 1 (List.map u32 ([] : List Nat))), (6, .own 100), (7, .own 101), (8, i64 s97.2.2)]) (fun (s120 : (List Nat) × (List Nat)) => [(100, .sl 107 1 (List.map u32 s120.1)), (101, .sl 107 1 (List.map u32 s120.2))]) ?_ ?_
      · intro j118 hj119
        refine sblk ?_
        refine sseq ?_
        refine bd fun y121 h122 => ?_
        refine bd fun _ h123 => ?_
        refine bd fun _ h124 => ?_
        refine bd fun r125 h126 => ?_
        refine sdraw [⟨[7], [], [(23, .own 101)], []⟩, ⟨[0], [], [(24, sli 1 (List.map u32 x0))], []⟩, ⟨[8], [], [(25, i64 s97.2.2)], []⟩, ⟨[25], [], [(26, i64 (wrap64 (Int.tdiv s97.2.2 (32 : Int))))], []⟩, ⟨[24, 26], [], [(27, .ref (u32 y121))], []⟩, ⟨[27], [], [(28, u32 y121)], []⟩, ⟨[8], [], [(29, i64 s97.2.2)], []⟩, ⟨[29], [], [(30, i64 (Int.tmod s97.2.2 (32 : Int)))], []⟩, ⟨[30], [], [(31, u32 ((1 * 2 ^ (min (Int.toNat (Int.tmod s97.2.2 (32 : Int))) 32)) % 4294967296))], []⟩, ⟨[28, 31], [], [(32, u32 (y121 / ((1 * 2 ^ (min (Int.toNat (Int.tmod s97.2.2 (32 : Int))) 32)) % 4294967296)))], []⟩, ⟨[32], [], [(33, u32 ((y121 / ((1 * 2 ^ (min (Int.toNat (Int.tmod s97.2.2 (32 : Int))) 32)) % 4294967296)) % 2))], []⟩, ⟨[33], [], [(34, bl (decide (((y121 / ((1 * 2 ^ (min (Int.toNat (Int.tmod s97.2.2 (32 : Int))) 32)) % 4294967296)) % 2) = 1)))], []⟩, ⟨[23, 34], [101], [(35, .tup [])], [(101, .sl 107 1 (List.map u32 r125))]⟩] fol (by kernel_rfl) ⟨fun st mm ⟨a7, _⟩ _ => og (mv rfl (a7.trans rfl)), fun st mm ⟨a0, _⟩ _ => og (mv rfl (a0.trans rfl)), fun st mm ⟨a8, _⟩ _ => og (mv rfl (a8.trans rfl)), fun st mm ⟨a25, _⟩ _ => og (quoI rfl rfl (a25.trans rfl) (kI (x := 32) rfl)), fun st mm ⟨a24, a26, _⟩ _ => og (ixR (f := u32) Tryz.underlying67 ti_107 h122 rfl (a24.trans rfl) (a26.trans rfl)), fun st mm ⟨a27, _⟩ _ => og (ldR sh_107 (by exact rfl) (by exact rfl) rfl (a27.trans rfl)), fun st mm ⟨a8, _⟩ _ => og (mv rfl (a8.trans rfl)), fun st mm ⟨a29, _⟩ _ => og (remI rfl rfl (a29.trans rfl) (kI (x := 32) rfl)), fun st mm ⟨a30, _⟩ _ => og (shlU uk32 (ge0 h123) rfl (k32 (x := 1) rfl) (a30.trans rfl)), fun st mm ⟨a28, a31, _⟩ _ => og (quoU uk32 (nzU h124) rfl (a28.trans rfl) (a31.trans rfl)), fun st mm ⟨a32, _⟩ _ => og (remU uk32 rfl rfl (a32.trans rfl) (k32 (x := 2) rfl)), fun st mm ⟨a33, _⟩ _ => og (eqU .u32 rfl (a33.trans rfl) (k32 (x := 1) rfl)), fun st mm ⟨a23, a34, _⟩ ⟨g101, _⟩ => og (callG (em := [(101, .sl 107 1 (List.map u32 r125))]) (res' := .tup []) [(0, 101)] [] [(101, 0)] (c_retrospectref05_Double _ h126) ⟨⟨_, (a23.trans rfl), rn_own rfl⟩, ⟨_, (a34.trans rfl), rn_id if_bl⟩, trivial⟩ (MiF.get (mi := [(0, _)]) ⟨⟨_, _, rfl, (g101.trans rfl), rc_sl (ifs_map (f := u32) (fun _ => if_u32) s97.2.1)⟩, trivial⟩) ⟨⟨_, rfl⟩, trivial⟩ rfl trivial ⟨.inr rfl, trivial⟩ rfl ⟨.inl ⟨_, _, rfl, rfl, rc_sl (ifs_map (f := u32) (fun _ => if_u32) r125)⟩, trivial⟩ ⟨⟨_, rfl⟩, trivial⟩ trivial (rn_tup (rns_nil)) rfl), trivial⟩ ?_
        refine sbn (F := u32) 31 rfl fun z127 => ?_
        refine sbn (F := u32) 32 rfl fun z128 => ?_
        refine sbn (F := u32) 33 rfl fun z129 => ?_
        refine sbn (F := bl) 34 rfl fun z130 => ?_
        refine pnm ?_
        refine sseq ?_
        refine sreg ?_
        refine s1 (mv rfl rfl) ?_
        refine bd fun r131 h132 => ?_
        refine so (callG (em := [(100, .sl 107 1 (List.map u32 r131))]) (res' := .tup []) [(0, 100)] [] [(100, 0)] (c_retrospectref05_Double _ h132) ⟨⟨_, rfl, rn_own rfl⟩, ⟨_, kB, rn_id if_bl⟩, trivial⟩ (MiF.get (mi := [(0, _)]) ⟨⟨_, _, rfl, rfl, rc_sl (ifs_map (f := u32) (fun _ => if_u32) s97.1)⟩, trivial⟩) ⟨⟨_, rfl⟩, trivial⟩ rfl trivial ⟨.inr rfl, trivial⟩ rfl ⟨.inl ⟨_, _, rfl, rfl, rc_sl (ifs_map (f := u32) (fun _ => if_u32) r131)⟩, trivial⟩ ⟨⟨_, rfl⟩, trivial⟩ trivial (rn_tup (rns_nil)) rfl) ?_
        refine snil ?_
        refine pnm ?_
        refine sseq ?_
        refine sreg ?_
        refine s1 (mv rfl rfl) ?_
        refine s1 (mv rfl rfl) ?_
        refine bd fun r133 h134 => ?_
        refine s1 (callL (em := []) [101] [] [] [] rfl (c_retrospectref02_Cmp _ h134) trivial (pl_i64) ⟨.inr ⟨101, rfl, .inl ⟨rfl, .inl ⟨_, _, _, rfl, ifs_map (f := u32) (fun _ => if_u32) r125, rfl⟩⟩⟩, .inl ⟨_, rfl, rn_id if_sli⟩, trivial⟩ (fun _ _ h => by cases h) trivial rfl trivial trivial rfl trivial trivial trivial (rn_id (if_i64)) rfl) ?_
        refine s1 (geI rfl rfl (kI (x := 0) rfl)) ?_
        refine snil ?_
        refine pnm ?_
        refine scond rfl ?_ ?_
        · refine sseq ?_
          refine sreg ?_
          refine s1 (mv rfl rfl) ?_
          refine s1 (mv rfl rfl) ?_
          refine owW 42 (n := r125.length) rfl rfl (List.length_map _).symm ?_
          refine bd fun r135 h136 => ?_
          refine so (callG (em := [(101, .sl 107 1 (List.map u32 r135))]) (res' := .tup []) [(0, 101)] [] [(101, 0)] (c_retrospectref05_Less _ h136) ⟨⟨_, rfl, rn_win rfl⟩, ⟨_, rfl, rn_id if_sli⟩, trivial⟩ (MiF.get (mi := [(0, _)]) ⟨⟨_, _, rfl, rfl, rc_sl (ifs_map (f := u32) (fun _ => if_u32) r125)⟩, trivial⟩) ⟨⟨_, rfl⟩, trivial⟩ rfl trivial ⟨.inr rfl, trivial⟩ rfl ⟨.inl ⟨_, _, rfl, rfl, rc_sl (ifs_map (f := u32) (fun _ => if_u32) r135)⟩, trivial⟩ ⟨⟨_, rfl⟩, trivial⟩ trivial (rn_tup (rns_nil)) rfl) ?_
          refine snil ?_
          refine pnm ?_
          refine sreg ?_
          refine s1 (mv rfl rfl) ?_
          refine bd fun y137 h138 => ?_
          refine s1 (ixO (f := u32) rfl Tryz.underlying67 ti_107 h138 rfl rfl (kI (x := 0) rfl)) ?_
          refine s1 (ldO (f := u32) [] rfl (getI_ix h138) (by exact rfl) (by exact rfl) sh_107 (by exact rfl) (by exact rfl) rfl rfl) ?_
          refine s1 (addU uk32 rfl rfl (k32 (x := 1) rfl)) ?_
          refine bd fun y139 h140 => ?_
          refine s1 (ixO (f := u32) rfl Tryz.underlying67 ti_107 h140 rfl rfl (kI (x := 0) rfl)) ?_
          refine so (stO (f := u32) ((y137 + 1) % 4294967296) [] rfl (getI_ix h140) (by exact rfl) (by exact rfl) (by exact rfl) (by exact rfl) sh_107 (by exact rfl) (by exact rfl) (by exact rfl) rfl rfl) ?_
          refine snil ?_
          refine pbn ?_
          refine pnm ?_
          exact sj (hj119 _) (entR [(100, 100), (101, 101)] rfl (keepS hγ trivial) ⟨⟨_, rfl⟩, ⟨_, rfl⟩, trivial⟩ ⟨⟨_, _, rfl, rfl, rci (rc_sl (ifs_map (f := u32) (fun _ => if_u32) (List.set r131 (Int.toNat (0 : Int)) ((y137 + 1) % 4294967296))))⟩, ⟨_, _, rfl, rfl, rci (rc_sl (ifs_map (f := u32) (fun _ => if_u32) r135))⟩, trivial⟩ ⟨⟨_, rfl, rn_id if_sli⟩, ⟨_, rfl, rn_id if_sli⟩, ⟨_, rfl, rn_id if_sli⟩, ⟨_, rfl, rn_id if_sli⟩, ⟨_, rfl, rn_own rfl⟩, ⟨_, rfl, rn_own rfl⟩, ⟨_, rfl, rn_id if_i64⟩, trivial⟩)
        · refine sskip ?_
          refine pbn ?_
          refine pnm ?_
          exact sj (hj119 _) (entR [(100, 100), (101, 101)] rfl (keepS hγ trivial) ⟨⟨_, rfl⟩, ⟨_, rfl⟩, trivial⟩ ⟨⟨_, _, rfl, rfl, rci (rc_sl (ifs_map (f := u32) (fun _ => if_u32) r131))⟩, ⟨_, _, rfl, rfl, rci (rc_sl (ifs_map (f := u32) (fun _ => if_u32) r125))⟩, trivial⟩ ⟨⟨_, rfl, rn_id if_sli⟩, ⟨_, rfl, rn_id if_sli⟩, ⟨_, rfl, rn_id if_sli⟩, ⟨_, rfl, rn_id if_sli⟩, ⟨_, rfl, rn_own rfl⟩, ⟨_, rfl, rn_own rfl⟩, ⟨_, rfl, rn_id if_i64⟩, trivial⟩)
      · intro s120
        refine sreg ?_
        refine s1 (mv rfl rfl) ?_
        refine s1 (subI rfl rfl (kI (x := 1) rfl)) ?_
        refine s1 (asg rfl rfl) ?_
        refine snil ?_
        exact sgo (entR [(100, 100), (101, 101)] rfl (keepS hγ trivial) ⟨⟨_, rfl⟩, ⟨_, rfl⟩, trivial⟩ ⟨⟨_, _, rfl, rfl, rci (rc_sl (ifs_map (f := u32) (fun _ => if_u32) s120.1))⟩, ⟨_, _, rfl, rfl, rci (rc_sl (ifs_map (f := u32) (fun _ => if_u32) s120.2))⟩, trivial⟩ ⟨⟨_, rfl, rn_id if_sli⟩, ⟨_, rfl, rn_id if_sli⟩, ⟨_, rfl, rn_id if_sli⟩, ⟨_, rfl, rn_id if_sli⟩, ⟨_, rfl, rn_own rfl⟩, ⟨_, rfl, rn_own rfl⟩, ⟨_, rfl, rn_id if_i64⟩, trivial⟩)
    · refine sexit ?_
      refine ptx ?_
      exact sout (fun h => by cases h) (sj (hj96 _) (entR [(100, 100), (101, 101)] rfl (keepS hγ trivial) ⟨⟨_, rfl⟩, ⟨_, rfl⟩, trivial⟩ ⟨⟨_, _, rfl, rfl, rci (rc_sl (ifs_map (f := u32) (fun _ => if_u32) s97.1))⟩, ⟨_, _, rfl, rfl, rci (rc_sl (ifs_map (f := u32) (fun _ => if_u32) s97.2.1))⟩, trivial⟩ ⟨⟨_, rfl, rn_id if_sli⟩, ⟨_, rfl, rn_id if_sli⟩, ⟨_, rfl, rn_own rfl⟩, ⟨_, rfl, rn_own rfl⟩, trivial⟩))
  · intro t95
    refine sx ?_
    refine pnm ?_
    refine sseq ?_
    refine sreg ?_
    refine s1 (mv rfl rfl) ?_
    refine bd fun r141 h142 => ?_
    refine so (callL (em := [(102, .sl 107 1 (List.map u32 r141))]) (res' := .own 102) [100] [] [(102, 50)] [(102, 50)] rfl (c_retrospectref02_Norm _ h142) ⟨pls_map (f := u32) (fun _ => pl_u32) _, trivial⟩ (pl_own) ⟨.inr ⟨100, rfl, .inl ⟨rfl, .inl ⟨_, _, _, rfl, ifs_map (f := u32) (fun _ => if_u32) t95.1, rfl⟩⟩⟩, trivial⟩ (MiF.get (mi := []) trivial) trivial rfl ⟨rfl, trivial⟩ ⟨.inl rfl, trivial⟩ rfl ⟨.inl ⟨_, _, rfl, rfl, rc_sl (ifs_map (f := u32) (fun _ => if_u32) r141)⟩, trivial⟩ trivial ⟨⟨_, rfl⟩, trivial⟩ (rn_own rfl) rfl) ?_
    refine s1 (mv rfl rfl) ?_
    refine bd fun r143 h144 => ?_
    refine so (callL (em := [(103, .sl 107 1 (List.map u32 r143))]) (res' := .own 103) [101] [] [(103, 50)] [(103, 50)] rfl (c_retrospectref02_Norm _ h144) ⟨pls_map (f := u32) (fun _ => pl_u32) _, trivial⟩ (pl_own) ⟨.inr ⟨101, rfl, .inl ⟨rfl, .inl ⟨_, _, _, rfl, ifs_map (f := u32) (fun _ => if_u32) t95.2, rfl⟩⟩⟩, trivial⟩ (MiF.get (mi := []) trivial) trivial rfl ⟨rfl, trivial⟩ ⟨.inl rfl, trivial⟩ rfl ⟨.inl ⟨_, _, rfl, rfl, rc_sl (ifs_map (f := u32) (fun _ => if_u32) r143)⟩, trivial⟩ trivial ⟨⟨_, rfl⟩, trivial⟩ (rn_own rfl) rfl) ?_
    refine s1 (asg rfl rfl) ?_
    refine s1 (asg rfl rfl) ?_
    refine snil ?_
    refine pnm ?_
    refine sret ?_
    refine frz (id := 102) [(4, sli 1 (List.map u32 r141)), (51, sli 1 (List.map u32 r141))] [] rfl (ifs_map (f := u32) (fun _ => if_u32) r141) ⟨⟨_, rfl, fz_own⟩, ⟨_, rfl, fz_own⟩, trivial⟩ trivial ?_
    refine frz (id := 103) [(5, sli 1 (List.map u32 r143)), (53, sli 1 (List.map u32 r143))] [] rfl (ifs_map (f := u32) (fun _ => if_u32) r143) ⟨⟨_, rfl, fz_own⟩, ⟨_, rfl, fz_own⟩, trivial⟩ trivial ?_
    exact ret [] [.tmp 4, .tmp 5] [_, _] [_, _] .ret hγ (.inl rfl) rfl ⟨rfl, rfl, trivial⟩ rfl trivial trivial trivial (rns_cons (rn_id if_sli) (rns_cons (rn_id if_sli) (rns_nil))) rfl
theorem c_retrospectref06_Over {n : Nat} {x0 : (List Nat)} {x1 : (List Nat)} : ∀ r, m_retrospectref06_Over n x0 x1 = some r → FnOk Tryz.prog 77 [sli 1 (List.map u32 x0), sli 1 (List.map u32 x1)] [] (sli 1 (List.map u32 r)) [] := by
  unfold m_retrospectref06_Over
  refine fn_of_sq (res := fun (r : (List Nat)) => sli 1 (List.map u32 r)) (mo := fun (r : (List Nat)) => []) Tryz.func77 rfl rfl (by kernel_rfl) rfl ?_
  intro w S0 γ hγ
  refine sseq ?_
  refine sreg ?_
  refine s1 (asg rfl (kLm (k := 1) u32)) ?_
  refine snil ?_
  refine pnm ?_
  refine sseq ?_
  refine sseq ?_
  refine sreg ?_
  refine s1 (mv rfl rfl) ?_
  refine bd fun r1 h2 => ?_
  refine s1 (call0 (c_retrospectref06_One _ h2) ⟨⟨_, rfl, rn_id if_sli⟩, trivial⟩ (if_bl) rfl) ?_
  refine snil ?_
  refine pnm ?_
  refine scond rfl ?_ ?_
  · refine sseq ?_
    refine sreg ?_
    refine s1 (mv rfl rfl) ?_
    refine bd fun r3 h4 => ?_
    refine so (callG (em := [(100, .sl 107 1 (List.map u32 r3))]) (res' := .own 100) [] [(100, 50)] [(100, 50)] (c_retrospectref02_Norm _ h4) ⟨⟨_, rfl, rn_id if_sli⟩, trivial⟩ (MiF.get (mi := []) trivial) trivial rfl ⟨rfl, trivial⟩ ⟨.inl rfl, trivial⟩ rfl ⟨.inl ⟨_, _, rfl, rfl, rc_sl (ifs_map (f := u32) (fun _ => if_u32) r3)⟩, trivial⟩ trivial ⟨⟨_, rfl⟩, trivial⟩ (rn_own rfl) rfl) ?_
    refine s1 (asg rfl rfl) ?_
    refine snil ?_
    refine pnm ?_
    refine sret ?_
    refine pth ?_
    refine frz (id := 100) [(4, sli 1 (List.map u32 r3)), (10, sli 1 (List.map u32 r3))] [] rfl (ifs_map (f := u32) (fun _ => if_u32) r3) ⟨⟨_, rfl, fz_own⟩, ⟨_, rfl, fz_own⟩, trivial⟩ trivial ?_
    exact ret [] [.tmp 4] [_] [_] .ret hγ (.inl rfl) rfl ⟨rfl, trivial⟩ rfl trivial trivial trivial (rns_cons (rn_id if_sli) (rns_nil)) rfl
  · refine sskip ?_
    refine pnm ?_
    refine sseq ?_
    refine sreg ?_
    refine s1 (mv rfl rfl) ?_
    refine s1 (mv rfl rfl) ?_
    refine bd fun r5 h6 => ?_
    refine s1 (call0 (c_retrospectref05_Div _ h6) ⟨⟨_, rfl, rn_id if_sli⟩, ⟨_, rfl, rn_id if_sli⟩, trivial⟩ (if_tup (ifs_cons if_sli (ifs_cons if_sli (ifs_nil)))) rfl) ?_
    refine s1 (mv rfl rfl) ?_
    refine s1 (ext (by exact rfl) rfl rfl) ?_
    refine s1 (ext (by exact rfl) rfl rfl) ?_
    refine s1 (asg rfl rfl) ?_
    refine s1 (asg rfl rfl) ?_
    refine snil ?_
    refine pnm ?_
    refine sseq ?_
    refine sreg ?_
    refine s1 (mv rfl rfl) ?_
    refine s1 (asg rfl rfl) ?_
    refine snil ?_
    refine pnm ?_
    refine sret ?_
    exact ret [] [.tmp 4] [_] [_] .ret hγ (.inl rfl) rfl ⟨rfl, trivial⟩ rfl trivial trivial trivial (rns_cons (rn_id if_sli) (rns_nil)) rfl
theorem c_retrospectref09_Norm {n : Nat} {x0 : M_retrospectref09_Frac} : ∀ r, m_retrospectref09_Norm n x0 = some r → FnOk Tryz.prog 50 [L_retrospectref09_Frac x0] [] (L_retrospectref09_Frac r) [] := by
  unfold m_retrospectref09_Norm
  refine fn_of_sq (res := fun (r : M_retrospectref09_Frac) => L_retrospectref09_Frac r) (mo := fun (r : M_retrospectref09_Frac) => []) Tryz.func50 rfl rfl (by kernel_rfl) rfl ?_
  intro w S0 γ hγ
  refine sseq ?_
  refine sreg ?_
  refine so (box (y := 100) (by exact rfl) rfl rfl rfl) ?_
  refine so (al (y := 101) (ly := L_retrospectref09_Frac (⟨false, [], []⟩ : M_retrospectref09_Frac)) ti_84 zr_retrospectref09_Frac rfl rfl) ?_
  refine snil ?_
  refine pnm ?_
  refine sseq ?_
  refine sreg ?_
  refine s1 (faO rfl fd_84_2 rfl rfl) ?_
  refine s1 (ldB [2] rfl (by exact rfl) sh_67 (by exact rfl) (by exact rfl) rfl rfl (.inl rfl)) ?_
  refine bd fun r1 h2 => ?_
  refine so (callG (em := [(102, .sl 107 1 (List.map u32 r1))]) (res' := .own 102) [] [(102, 50)] [(102, 50)] (c_retrospectref02_Norm _ h2) ⟨⟨_, rfl, rn_id if_sli⟩, trivial⟩ (MiF.get (mi := []) trivial) trivial rfl ⟨rfl, trivial⟩ ⟨.inl rfl, trivial⟩ rfl ⟨.inl ⟨_, _, rfl, rfl, rc_sl (ifs_map (f := u32) (fun _ => if_u32) r1)⟩, trivial⟩ trivial ⟨⟨_, rfl⟩, trivial⟩ (rn_own rfl) rfl) ?_
  refine s1 (asg rfl rfl) ?_
  refine snil ?_
  refine pnm ?_
  refine sseq ?_
  refine sreg ?_
  refine s1 (faO rfl fd_84_1 rfl rfl) ?_
  refine s1 (ldB [1] rfl (by exact rfl) sh_67 (by exact rfl) (by exact rfl) rfl rfl (.inl rfl)) ?_
  refine bd fun r3 h4 => ?_
  refine so (callG (em := [(103, .sl 107 1 (List.map u32 r3))]) (res' := .own 103) [] [(103, 50)] [(103, 50)] (c_retrospectref02_Norm _ h4) ⟨⟨_, rfl, rn_id if_sli⟩, trivial⟩ (MiF.get (mi := []) trivial) trivial rfl ⟨rfl, trivial⟩ ⟨.inl rfl, trivial⟩ rfl ⟨.inl ⟨_, _, rfl, rfl, rc_sl (ifs_map (f := u32) (fun _ => if_u32) r3)⟩, trivial⟩ trivial ⟨⟨_, rfl⟩, trivial⟩ (rn_own rfl) rfl) ?_
  refine s1 (asg rfl rfl) ?_
  refine snil ?_
  refine pnm ?_
  refine sseq ?_
  refine sjq (fun (s7 : Bool) => [(1, .own 100), (2, .own 101), (3, .own 102), (4, .own 103), (19, bl s7)]) (fun (s7 : Bool) => [(100, .bx 84 (L_retrospectref09_Frac x0)), (101, .bx 84 (L_retrospectref09_Frac (⟨false, [], []⟩ : M_retrospectref09_Frac))), (102, .sl 107 1 (List.map u32 r1)), (103, .sl 107 1 (List.map u32 r3))]) ?_ ?_
  · intro j5 hj6
    refine sreg ?_
    refine s1 (mv rfl rfl) ?_
    refine s1 (lenO (f := u32) Tryz.underlying67 rfl rfl rfl) ?_
    refine s1 (eqI rfl rfl (kI (x := 0) rfl)) ?_
    refine s1 (mv rfl rfl) ?_
    refine sifd 15 rfl ?_ ?_
    · refine spB 15 rfl rfl rfl ?_
      refine spB 15 rfl rfl rfl ?_
      refine spB 15 rfl rfl rfl ?_
      refine s1 (pickT rfl rfl kB) ?_
      refine snil ?_
      refine pnm ?_
      exact sj (hj6 _) (entR [(100, 100), (101, 101), (102, 102), (103, 103)] rfl (keepS hγ trivial) ⟨⟨_, rfl⟩, ⟨_, rfl⟩, ⟨_, rfl⟩, ⟨_, rfl⟩, trivial⟩ ⟨⟨_, _, rfl, rfl, rci (rc_bx (rn_id if_L_retrospectref09_Frac))⟩, ⟨_, _, rfl, rfl, rci (rc_bx (rn_id if_L_retrospectref09_Frac))⟩, ⟨_, _, rfl, rfl, rci (rc_sl (ifs_map (f := u32) (fun _ => if_u32) r1))⟩, ⟨_, _, rfl, rfl, rci (rc_sl (ifs_map (f := u32) (fun _ => if_u32) r3))⟩, trivial⟩ ⟨⟨_, rfl, rn_own rfl⟩, ⟨_, rfl, rn_own rfl⟩, ⟨_, rfl, rn_own rfl⟩, ⟨_, rfl, rn_own rfl⟩, ⟨_, rfl, rn_id if_bl⟩, trivial⟩)
    · refine sg 15 rfl rfl (mv rfl rfl) ?_
      refine sg 15 rfl rfl (lenO (f := u32) Tryz.underlying67 rfl rfl rfl) ?_
      refine sg 15 rfl rfl (eqI rfl rfl (kI (x := 0) rfl)) ?_
      refine s1 (pickF rfl rfl rfl) ?_
      refine snil ?_
      refine pnm ?_
      exact sj (hj6 _) (entR [(100, 100), (101, 101), (102, 102), (103, 103)] rfl (keepS hγ trivial) ⟨⟨_, rfl⟩, ⟨_, rfl⟩, ⟨_, rfl⟩, ⟨_, rfl⟩, trivial⟩ ⟨⟨_, _, rfl, rfl, rci (rc_bx (rn_id if_L_retrospectref09_Frac))⟩, ⟨_, _, rfl, rfl, rci (rc_bx (rn_id if_L_retrospectref09_Frac))⟩, ⟨_, _, rfl, rfl, rci (rc_sl (ifs_map (f := u32) (fun _ => if_u32) r1))⟩, ⟨_, _, rfl, rfl, rci (rc_sl (ifs_map (f := u32) (fun _ => if_u32) r3))⟩, trivial⟩ ⟨⟨_, rfl, rn_own rfl⟩, ⟨_, rfl, rn_own rfl⟩, ⟨_, rfl, rn_own rfl⟩, ⟨_, rfl, rn_own rfl⟩, ⟨_, rfl, rn_id if_bl⟩, trivial⟩)
  · intro s7
    refine scond rfl ?_ ?_
    · refine sseq ?_
      refine sreg ?_
      refine so (bsl (y := 104) (ls := List.map u32 ([] : List Nat)) Tryz.underlying67 ti_107 rfl rfl rfl rfl rfl trivial rfl rfl) ?_
      refine so (bsl (y := 105) (ls := List.map u32 ([1] : List Nat)) Tryz.underlying67 ti_107 rfl rfl rfl rfl rfl ⟨rfl, (k32 (x := 1) rfl), (by exact rfl), (by exact rfl), trivial⟩ rfl rfl) ?_
      refine frz (id := 104) [(20, sli 1 (List.map u32 ([] : List Nat)))] [] rfl (ifs_map (f := u32) (fun _ => if_u32) ([] : List Nat)) ⟨⟨_, rfl, fz_own⟩, trivial⟩ trivial ?_
      refine frz (id := 105) [(21, sli 1 (List.map u32 ([1] : List Nat)))] [] rfl (ifs_map (f := u32) (fun _ => if_u32) ([1] : List Nat)) ⟨⟨_, rfl, fz_own⟩, trivial⟩ trivial ?_
      refine s1 (bld (l := [bl false, sli 1 (List.map u32 ([] : List Nat)), sli 1 (List.map u32 ([1] : List Nat))]) pl_84 ti_84 zr_retrospectref09_Frac ⟨_, _, _, rfl, rfl, rfl, rfl, (szk (k := 1) rfl rfl), ⟨_, _, _, rfl, rfl, rfl, rfl, (szk (k := 1) rfl rfl), rfl⟩⟩ rfl) ?_
      refine so (stB2 (ly2 := L_retrospectref09_Frac (⟨false, ([] : List Nat), ([1] : List Nat)⟩ : M_retrospectref09_Frac)) [] (by exact rfl) rfl (by exact rfl) sh_84 (by exact rfl) (by exact rfl) (by exact rfl) rfl (.inr ⟨rfl, rfl, _, _, rfl⟩) rfl) ?_
      refine snil ?_
      refine pnm ?_
      refine sret ?_
      refine pth ?_
      exact ret [] [.cell 2 84] [_] [_] .ret hγ (.inl rfl) rfl ⟨⟨101, _, rfl, rfl, sh_84⟩, trivial⟩ rfl trivial trivial trivial (rns_cons (rn_id if_L_retrospectref09_Frac) (rns_nil)) rfl
    · refine sskip ?_
      refine pnm ?_
      refine sjq (fun (s34 : (List Nat) × (List Nat)) => [(1, .own 100), (2, .own 101), (3, sli 1 (List.map u32 s34.1)), (4, sli 1 (List.map u32 s34.2))]) (fun (s34 : (List Nat) × (List Nat)) => [(100, .bx 84 (L_retrospectref09_Frac x0)), (101, .bx 84 (L_retrospectref09_Frac (⟨false, [], []⟩ : M_retrospectref09_Frac)))]) ?_ ?_
      · intro j32 hj33
        refine sseq ?_
        refine sreg ?_
        refine s1 (mv rfl rfl) ?_
        refine bd fun r35 h36 => ?_
        refine s1 (callL (em := []) [102] [] [] [] rfl (c_retrospectref06_One _ h36) trivial (pl_bl) ⟨.inr ⟨102, rfl, .inl ⟨rfl, .inl ⟨_, _, _, rfl, ifs_map (f := u32) (fun _ => if_u32) r1, rfl⟩⟩⟩, trivial⟩ (fun _ _ h => by cases h) trivial rfl trivial trivial rfl trivial trivial trivial (rn_id (if_bl)) rfl) ?_
        refine s1 (notB rfl rfl) ?_
        refine snil ?_
        refine pnm ?_
        refine scond rfl ?_ ?_
        · refine sseq ?_
          refine sreg ?_
          refine s1 (mv rfl rfl) ?_
          refine s1 (mv rfl rfl) ?_
          refine frz (id := 103) [(4, sli 1 (List.map u32 r3)), (26, sli 1 (List.map u32 r3))] [] rfl (ifs_map (f := u32) (fun _ => if_u32) r3) ⟨⟨_, rfl, fz_own⟩, ⟨_, rfl, fz_own⟩, trivial⟩ trivial ?_
          refine frz (id := 102) [(3, sli 1 (List.map u32 r1)), (23, sli 1 (List.map u32 r1)), (27, sli 1 (List.map u32 r1))] [] rfl (ifs_map (f := u32) (fun _ => if_u32) r1) ⟨⟨_, rfl, fz_own⟩, ⟨_, rfl, fz_own⟩, ⟨_, rfl, fz_own⟩, trivial⟩ trivial ?_
          refine bd fun r37 h38 => ?_
          refine s1 (call0 (c_retrospectref06_Gcd _ h38) ⟨⟨_, rfl, rn_id if_sli⟩, ⟨_, rfl, rn_id if_sli⟩, trivial⟩ (if_sli) rfl) ?_
          refine s1 (asg rfl rfl) ?_
          refine snil ?_
          refine pnm ?_
          refine sseq ?_
          refine sreg ?_
          refine s1 (mv rfl rfl) ?_
          refine s1 (mv rfl rfl) ?_
          refine bd fun r39 h40 => ?_
          refine s1 (call0 (c_retrospectref06_Over _ h40) ⟨⟨_, rfl, rn_id if_sli⟩, ⟨_, rfl, rn_id if_sli⟩, trivial⟩ (if_sli) rfl) ?_
          refine s1 (asg rfl rfl) ?_
          refine snil ?_
          refine pnm ?_
          refine sreg ?_
          refine s1 (mv rfl rfl) ?_
          refine s1 (mv rfl rfl) ?_
          refine bd fun r41 h42 => ?_
          refine s1 (call0 (c_retrospectref06_Over _ h42) ⟨⟨_, rfl, rn_id if_sli⟩, ⟨_, rfl, rn_id if_sli⟩, trivial⟩ (if_sli) rfl) ?_
          refine s1 (asg rfl rfl) ?_
          refine snil ?_
          refine pnm ?_
          exact sj (hj33 _) (entR [(100, 100), (101, 101)] rfl (keepS hγ trivial) ⟨⟨_, rfl⟩, ⟨_, rfl⟩, trivial⟩ ⟨⟨_, _, rfl, rfl, rci (rc_bx (rn_id if_L_retrospectref09_Frac))⟩, ⟨_, _, rfl, rfl, rci (rc_bx (rn_id if_L_retrospectref09_Frac))⟩, trivial⟩ ⟨⟨_, rfl, rn_own rfl⟩, ⟨_, rfl, rn_own rfl⟩, ⟨_, rfl, rn_id if_sli⟩, ⟨_, rfl, rn_id if_sli⟩, trivial⟩)
        · refine sskip ?_
          refine frz (id := 102) [(3, sli 1 (List.map u32 r1)), (23, sli 1 (List.map u32 r1))] [] rfl (ifs_map (f := u32) (fun _ => if_u32) r1) ⟨⟨_, rfl, fz_own⟩, ⟨_, rfl, fz_own⟩, trivial⟩ trivial ?_
          refine frz (id := 103) [(4, sli 1 (List.map u32 r3))] [] rfl (ifs_map (f := u32) (fun _ => if_u32) r3) ⟨⟨_, rfl, fz_own⟩, trivial⟩ trivial ?_
          refine pnm ?_
          exact sj (hj33 _) (entR [(100, 100), (101, 101)] rfl (keepS hγ trivial) ⟨⟨_, rfl⟩, ⟨_, rfl⟩, trivial⟩ ⟨⟨_, _, rfl, rfl, rci (rc_bx (rn_id if_L_retrospectref09_Frac))⟩, ⟨_, _, rfl, rfl, rci (rc_bx (rn_id if_L_retrospectref09_Frac))⟩, trivial⟩ ⟨⟨_, rfl, rn_own rfl⟩, ⟨_, rfl, rn_own rfl⟩, ⟨_, rfl, rn_id if_sli⟩, ⟨_, rfl, rn_id if_sli⟩, trivial⟩)
      · intro s34
        refine sseq ?_
        refine sreg ?_
        refine s1 (faO rfl fd_84_0 rfl rfl) ?_
        refine s1 (ldB [0] rfl (by exact rfl) sh_4 (by exact rfl) (by exact rfl) rfl rfl (.inl rfl)) ?_
        refine s1 (mv rfl rfl) ?_
        refine s1 (mv rfl rfl) ?_
        refine s1 (bld (l := [bl x0.Neg, sli 1 (List.map u32 s34.2), sli 1 (List.map u32 s34.1)]) pl_84 ti_84 zr_retrospectref09_Frac ⟨_, _, _, rfl, rfl, rfl, rfl, (szk (k := 1) rfl rfl), ⟨_, _, _, rfl, rfl, rfl, rfl, (szk (k := 1) rfl rfl), ⟨_, _, _, rfl, rfl, rfl, rfl, (szk (k := 1) rfl rfl), rfl⟩⟩⟩ rfl) ?_
        refine so (stB2 (ly2 := L_retrospectref09_Frac (⟨x0.Neg, s34.2, s34.1⟩ : M_retrospectref09_Frac)) [] (by exact rfl) rfl (by exact rfl) sh_84 (by exact rfl) (by exact rfl) (by exact rfl) rfl (.inr ⟨rfl, rfl, _, _, rfl⟩) rfl) ?_
        refine snil ?_
        refine pnm ?_
        refine sret ?_
        exact ret [] [.cell 2 84] [_] [_] .ret hγ (.inl rfl) rfl ⟨⟨101, _, rfl, rfl, sh_84⟩, trivial⟩ rfl trivial trivial trivial (rns_cons (rn_id if_L_retrospectref09_Frac) (rns_nil)) rfl
theorem c_retrospectref09_Int {n : Nat} {x0 : Int} : ∀ r, m_retrospectref09_Int n x0 = some r → FnOk Tryz.prog 35 [i64 x0] [] (L_retrospectref09_Frac r) [] := by
  unfold m_retrospectref09_Int
  refine fn_of_sq (res := fun (r : M_retrospectref09_Frac) => L_retrospectref09_Frac r) (mo := fun (r : M_retrospectref09_Frac) => []) Tryz.func35 rfl rfl (by kernel_rfl) rfl ?_
  intro w S0 γ hγ
  refine sseq ?_
  refine sreg ?_
  refine so (al (y := 100) (ly := L_retrospectref09_Frac (⟨false, [], []⟩ : M_retrospectref09_Frac)) ti_84 zr_retrospectref09_Frac rfl rfl) ?_
  refine snil ?_
  refine pnm ?_
  refine sseq ?_
  refine sseq ?_
  refine sreg ?_
  refine s1 (mv rfl rfl) ?_
  refine s1 (ltI rfl rfl (kI (x := 0) rfl)) ?_
  refine snil ?_
  refine pnm ?_
  refine scond rfl ?_ ?_
  · refine sseq ?_
    refine sreg ?_
    refine s1 (mv rfl rfl) ?_
    refine s1 (addI rfl rfl (kI (x := 1) rfl)) ?_
    refine s1 (negI rfl rfl) ?_
    refine s1 (cvIU uk64 Tryz.underlying3 Tryz.underlying106 rfl rfl) ?_
    refine sbn (F := u64) 8 rfl fun z1 => ?_
    refine bd fun r2 h3 => ?_
    refine s1 (call0 (c_retrospectref02_Of _ h3) ⟨⟨_, rfl, rn_id if_u64⟩, trivial⟩ (if_sli) rfl) ?_
    refine so (bsl (y := 101) (ls := List.map u32 ([1] : List Nat)) Tryz.underlying67 ti_107 rfl rfl rfl rfl rfl ⟨rfl, (k32 (x := 1) rfl), (by exact rfl), (by exact rfl), trivial⟩ rfl rfl) ?_
    refine frz (id := 101) [(10, sli 1 (List.map u32 ([1] : List Nat)))] [] rfl (ifs_map (f := u32) (fun _ => if_u32) ([1] : List Nat)) ⟨⟨_, rfl, fz_own⟩, trivial⟩ trivial ?_
    refine bd fun r4 h5 => ?_
    refine s1 (call0 (c_retrospectref02_Add _ h5) ⟨⟨_, rfl, rn_id if_sli⟩, ⟨_, rfl, rn_id if_sli⟩, trivial⟩ (if_sli) rfl) ?_
    refine so (bsl (y := 102) (ls := List.map u32 ([1] : List Nat)) Tryz.underlying67 ti_107 rfl rfl rfl rfl rfl ⟨rfl, (k32 (x := 1) rfl), (by exact rfl), (by exact rfl), trivial⟩ rfl rfl) ?_
    refine frz (id := 102) [(12, sli 1 (List.map u32 ([1] : List Nat)))] [] rfl (ifs_map (f := u32) (fun _ => if_u32) ([1] : List Nat)) ⟨⟨_, rfl, fz_own⟩, trivial⟩ trivial ?_
    refine s1 (bld (l := [bl true, sli 1 (List.map u32 r4), sli 1 (List.map u32 ([1] : List Nat))]) pl_84 ti_84 zr_retrospectref09_Frac ⟨_, _, _, kB, rfl, rfl, rfl, (szk (k := 1) rfl rfl), ⟨_, _, _, rfl, rfl, rfl, rfl, (szk (k := 1) rfl rfl), ⟨_, _, _, rfl, rfl, rfl, rfl, (szk (k := 1) rfl rfl), rfl⟩⟩⟩ rfl) ?_
    refine bd fun r6 h7 => ?_
    refine s1 (call0 (c_retrospectref09_Norm _ h7) ⟨⟨_, rfl, rn_id if_L_retrospectref09_Frac⟩, trivial⟩ (if_L_retrospectref09_Frac) rfl) ?_
    refine so (stB2 (ly2 := L_retrospectref09_Frac r6) [] (by exact rfl) rfl (by exact rfl) sh_84 (by exact rfl) (by exact rfl) (by exact rfl) rfl (.inr ⟨rfl, rfl, _, _, rfl⟩) rfl) ?_
    refine snil ?_
    refine pnm ?_
    refine sret ?_
    refine pth ?_
    exact ret [] [.cell 2 84] [_] [_] .ret hγ (.inl rfl) rfl ⟨⟨100, _, rfl, rfl, sh_84⟩, trivial⟩ rfl trivial trivial trivial (rns_cons (rn_id if_L_retrospectref09_Frac) (rns_nil)) rfl
  · refine sskip ?_
    refine pnm ?_
    refine sseq ?_
    refine sreg ?_
    refine s1 (mv rfl rfl) ?_
    refine s1 (cvIU uk64 Tryz.underlying3 Tryz.underlying106 rfl rfl) ?_
    refine bd fun r8 h9 => ?_
    refine s1 (call0 (c_retrospectref02_Of _ h9) ⟨⟨_, rfl, rn_id if_u64⟩, trivial⟩ (if_sli) rfl) ?_
    refine so (bsl (y := 101) (ls := List.map u32 ([1] : List Nat)) Tryz.underlying67 ti_107 rfl rfl rfl rfl rfl ⟨rfl, (k32 (x := 1) rfl), (by exact rfl), (by exact rfl), trivial⟩ rfl rfl) ?_
    refine frz (id := 101) [(18, sli 1 (List.map u32 ([1] : List Nat)))] [] rfl (ifs_map (f := u32) (fun _ => if_u32) ([1] : List Nat)) ⟨⟨_, rfl, fz_own⟩, trivial⟩ trivial ?_
    refine s1 (bld (l := [bl false, sli 1 (List.map u32 r8), sli 1 (List.map u32 ([1] : List Nat))]) pl_84 ti_84 zr_retrospectref09_Frac ⟨_, _, _, rfl, rfl, rfl, rfl, (szk (k := 1) rfl rfl), ⟨_, _, _, rfl, rfl, rfl, rfl, (szk (k := 1) rfl rfl), rfl⟩⟩ rfl) ?_
    refine bd fun r10 h11 => ?_
    refine s1 (call0 (c_retrospectref09_Norm _ h11) ⟨⟨_, rfl, rn_id if_L_retrospectref09_Frac⟩, trivial⟩ (if_L_retrospectref09_Frac) rfl) ?_
    refine so (stB2 (ly2 := L_retrospectref09_Frac r10) [] (by exact rfl) rfl (by exact rfl) sh_84 (by exact rfl) (by exact rfl) (by exact rfl) rfl (.inr ⟨rfl, rfl, _, _, rfl⟩) rfl) ?_
    refine snil ?_
    refine pnm ?_
    refine sret ?_
    exact ret [] [.cell 2 84] [_] [_] .ret hγ (.inl rfl) rfl ⟨⟨100, _, rfl, rfl, sh_84⟩, trivial⟩ rfl trivial trivial trivial (rns_cons (rn_id if_L_retrospectref09_Frac) (rns_nil)) rfl
theorem c_retrospectref09_Up {x0 : M_retrospectref09_Frac} : ∀ r, m_retrospectref09_Up x0 = some r → FnOk Tryz.prog 34 [L_retrospectref09_Frac x0] [] (L_retrospectref08_Whole r) [] := by
  unfold m_retrospectref09_Up
  refine fn_of_sq (res := fun (r : M_retrospectref08_Whole) => L_retrospectref08_Whole r) (mo := fun (r : M_retrospectref08_Whole) => []) Tryz.func34 rfl rfl (by kernel_rfl) rfl ?_
  intro w S0 γ hγ
  refine sseq ?_
  refine sreg ?_
  refine so (box (y := 100) (by exact rfl) rfl rfl rfl) ?_
  refine so (al (y := 101) (ly := L_retrospectref08_Whole (⟨false, []⟩ : M_retrospectref08_Whole)) ti_69 zr_retrospectref08_Whole rfl rfl) ?_
  refine snil ?_
  refine pnm ?_
  refine sseq ?_
  refine sreg ?_
  refine s1 (faO rfl fd_84_0 rfl rfl) ?_
  refine s1 (ldB [0] rfl (by exact rfl) sh_4 (by exact rfl) (by exact rfl) rfl rfl (.inl rfl)) ?_
  refine s1 (faO rfl fd_84_1 rfl rfl) ?_
  refine s1 (ldB [1] rfl (by exact rfl) sh_67 (by exact rfl) (by exact rfl) rfl rfl (.inl rfl)) ?_
  refine s1 (bld (l := [bl x0.Neg, sli 1 (List.map u32 x0.N)]) pl_69 ti_69 zr_retrospectref08_Whole ⟨_, _, _, rfl, rfl, rfl, rfl, (szk (k := 1) rfl rfl), ⟨_, _, _, rfl, rfl, rfl, rfl, (szk (k := 1) rfl rfl), rfl⟩⟩ rfl) ?_
  refine so (stB2 (ly2 := L_retrospectref08_Whole (⟨x0.Neg, x0.N⟩ : M_retrospectref08_Whole)) [] (by exact rfl) rfl (by exact rfl) sh_69 (by exact rfl) (by exact rfl) (by exact rfl) rfl (.inr ⟨rfl, rfl, _, _, rfl⟩) rfl) ?_
  refine snil ?_
  refine pnm ?_
  refine sret ?_
  exact ret [] [.cell 2 69] [_] [_] .ret hγ (.inl rfl) rfl ⟨⟨101, _, rfl, rfl, sh_69⟩, trivial⟩ rfl trivial trivial trivial (rns_cons (rn_id if_L_retrospectref08_Whole) (rns_nil)) rfl
theorem c_retrospectref07_ten {n : Nat} {x0 : (List Nat)} : ∀ r, m_retrospectref07_ten n x0 = some r → FnOk Tryz.prog 60 [.own 0] [(0, .sl 107 1 (List.map u32 x0))] (u64 r.1) [(0, .sl 107 1 (List.map u32 r.2))] := by
  unfold m_retrospectref07_ten
  refine fn_of_sq (res := fun (r : Nat × (List Nat)) => u64 r.1) (mo := fun (r : Nat × (List Nat)) => [(0, .sl 107 1 (List.map u32 r.2))]) Tryz.func60 rfl rfl (by kernel_rfl) rfl ?_
  intro w S0 γ hγ
  refine sseq ?_
  refine sreg ?_
  refine s1 (asg rfl (k64 (x := 0) rfl)) ?_
  refine snil ?_
  refine pnm ?_
  refine sseq ?_
  refine sreg ?_
  refine s1 (asg rfl (k64 (x := 0) rfl)) ?_
  refine snil ?_
  refine pnm ?_
  refine sseq ?_
  refine sseq ?_
  refine sreg ?_
  refine s1 (mv rfl rfl) ?_
  refine s1 (lenO (f := u32) Tryz.underlying67 rfl rfl rfl) ?_
  refine s1 (subI rfl rfl (kI (x := 1) rfl)) ?_
  refine s1 (asg rfl rfl) ?_
  refine snil ?_
  refine pnm ?_
  refine sblk ?_
  refine sloopE 0 (fun t => t) (fun (s16 : (List Nat) × Nat × Int) => [(0, .own 0), (2, u64 0), (3, u64 s16.2.1), (4, i64 s16.2.2)]) (fun (s16 : (List Nat) × Nat × Int) => [(0, .sl 107 1 (List.map u32 s16.1))]) (fun (t14 : (List Nat) × Nat) => [(2, u64 0), (3, u64 t14.2)]) (fun (t14 : (List Nat) × Nat) => [(0, .sl 107 1 (List.map u32 t14.1))]) (entR [(0, 0)] rfl (keepS hγ ⟨rfl, trivial⟩) ⟨⟨_, rfl⟩, trivial⟩ ⟨⟨_, _, rfl, rfl, rci (rc_sl (ifs_map (f := u32) (fun _ => if_u32) x0))⟩, trivial⟩ ⟨⟨_, rfl, rn_own rfl⟩, ⟨_, rfl, rn_id if_u64⟩, ⟨_, rfl, rn_id if_u64⟩, ⟨_, rfl, rn_id if_i64⟩, trivial⟩) ?_ ?_
  · intro hj15 s16
    refine sseq ?_
    refine sseq ?_
    refine sreg ?_
    refine s1 (mv rfl rfl) ?_
    refine s1 (geI rfl rfl (kI (x := 0) rfl)) ?_
    refine snil ?_
    refine pnm ?_
    refine scond rfl ?_ ?_
    · refine sskip ?_
      refine pnm ?_
      refine sseq ?_
      refine sblk ?_
      refine sseq ?_
      refine sreg ?_
      refine s1 (mv rfl rfl) ?_
      refine s1 (mulU uk64 rfl rfl (k64 (x := 4294967296) rfl)) ?_
      refine s1 (mv rfl rfl) ?_
      refine s1 (mv rfl rfl) ?_
      refine bd fun y17 h18 => ?_
      refine s1 (ixO (f := u32) rfl Tryz.underlying67 ti_107 h18 rfl rfl rfl) ?_
      refine s1 (ldO (f := u32) [] rfl (getI_ix h18) (by exact rfl) (by exact rfl) sh_107 (by exact rfl) (by exact rfl) rfl rfl) ?_
      refine s1 (cvUw uk64 uk32 rfl Tryz.underlying107 Tryz.underlying106 rfl rfl) ?_
      refine s1 (addU uk64 rfl rfl rfl) ?_
      refine sbn (F := u64) 19 rfl fun z19 => ?_
      refine s1 (asg rfl rfl) ?_
      refine snil ?_
      refine pnm ?_
      refine sseq ?_
      refine sreg ?_
      refine s1 (mv rfl rfl) ?_
      refine s1 (mv rfl rfl) ?_
      refine s1 (mv rfl rfl) ?_
      refine s1 (quoU uk64 rfl rfl rfl (k64 (x := 10) rfl)) ?_
      refine s1 (cvU uk32 Tryz.underlying106 Tryz.underlying107 rfl rfl) ?_
      refine bd fun y20 h21 => ?_
      refine s1 (ixO (f := u32) rfl Tryz.underlying67 ti_107 h21 rfl rfl rfl) ?_
      refine so (stO (f := u32) ((z19 / 10) % 4294967296) [] rfl (getI_ix h21) (by exact rfl) (by exact rfl) (by exact rfl) (by exact rfl) sh_107 (by exact rfl) (by exact rfl) (by exact rfl) rfl rfl) ?_
      refine snil ?_
      refine pnm ?_
      refine sreg ?_
      refine s1 (mv rfl rfl) ?_
      refine s1 (remU uk64 rfl rfl rfl (k64 (x := 10) rfl)) ?_
      refine s1 (asg rfl rfl) ?_
      refine snil ?_
      refine pbn ?_
      refine pnm ?_
      refine sreg ?_
      refine s1 (mv rfl rfl) ?_
      refine s1 (subI rfl rfl (kI (x := 1) rfl)) ?_
      refine s1 (asg rfl rfl) ?_
      refine snil ?_
      exact sgo (entR [(0, 0)] rfl (keepS hγ ⟨rfl, trivial⟩) ⟨⟨_, rfl⟩, trivial⟩ ⟨⟨_, _, rfl, rfl, rci (rc_sl (ifs_map (f := u32) (fun _ => if_u32) (List.set s16.1 (Int.toNat s16.2.2) ((z19 / 10) % 4294967296))))⟩, trivial⟩ ⟨⟨_, rfl, rn_own rfl⟩, ⟨_, rfl, rn_id if_u64⟩, ⟨_, rfl, rn_id if_u64⟩, ⟨_, rfl, rn_id if_i64⟩, trivial⟩)
    · refine sexit ?_
      refine ptx ?_
      exact sout (fun h => by cases h) (sj (hj15 _) (entR [(0, 0)] rfl (keepS hγ ⟨rfl, trivial⟩) ⟨⟨_, rfl⟩, trivial⟩ ⟨⟨_, _, rfl, rfl, rci (rc_sl (ifs_map (f := u32) (fun _ => if_u32) s16.1))⟩, trivial⟩ ⟨⟨_, rfl, rn_id if_u64⟩, ⟨_, rfl, rn_id if_u64⟩, trivial⟩))
  · intro t14
    refine sx ?_
    refine pnm ?_
    refine sseq ?_
    refine sreg ?_
    refine s1 (mv rfl rfl) ?_
    refine s1 (asg rfl rfl) ?_
    refine snil ?_
    refine pnm ?_
    refine sret ?_
    exact ret [(0, 0)] [.tmp 2] [_] [_] .ret hγ (.inl rfl) rfl ⟨rfl, trivial⟩ rfl ⟨rfl, trivial⟩ ⟨⟨_, rfl⟩, trivial⟩ ⟨⟨_, _, rfl, rfl, rci (rc_sl (ifs_map (f := u32) (fun _ => if_u32) t14.1))⟩, trivial⟩ (rns_cons (rn_id if_u64) (rns_nil)) rfl
theorem c_retrospectref07_Text {n : Nat} {x0 : (List Nat)} : ∀ r, m_retrospectref07_Text n x0 = some r → FnOk Tryz.prog 41 [sli 1 (List.map u32 x0)] [] (str r) [] := by
  unfold m_retrospectref07_Text
  refine fn_of_sq (res := fun (r : (List UInt8)) => str r) (mo := fun (r : (List UInt8)) => []) Tryz.func41 rfl rfl (by kernel_rfl) rfl ?_
  intro w S0 γ hγ
  refine sseq ?_
  refine sreg ?_
  refine s1 (asg rfl (kS (s := []) rfl)) ?_
  refine snil ?_
  refine pnm ?_
  refine sseq ?_
  refine sreg ?_
  refine s1 (mv rfl rfl) ?_
  refine bd fun r1 h2 => ?_
  refine so (callG (em := [(100, .sl 107 1 (List.map u32 r1))]) (res' := .own 100) [] [(100, 50)] [(100, 50)] (c_retrospectref02_Norm _ h2) ⟨⟨_, rfl, rn_id if_sli⟩, trivial⟩ (MiF.get (mi := []) trivial) trivial rfl ⟨rfl, trivial⟩ ⟨.inl rfl, trivial⟩ rfl ⟨.inl ⟨_, _, rfl, rfl, rc_sl (ifs_map (f := u32) (fun _ => if_u32) r1)⟩, trivial⟩ trivial ⟨⟨_, rfl⟩, trivial⟩ (rn_own rfl) rfl) ?_
  refine s1 (asg rfl rfl) ?_
  refine snil ?_
  refine pnm ?_
  refine sseq ?_
  refine sreg ?_
  refine s1 (asg rfl (kS (s := []) rfl)) ?_
  refine snil ?_
  refine pnm ?_
  refine sseq ?_
  refine sblk ?_
  refine sloopE 0 (fun t => t) (fun (s29 : (List Nat) × (List UInt8)) => [(2, str ([] : List UInt8)), (3, .own 100), (4, str s29.2)]) (fun (s29 : (List Nat) × (List UInt8)) => [(100, .sl 107 1 (List.map u32 s29.1))]) (fun (t27 : (List UInt8)) => [(2, str ([] : List UInt8)), (4, str t27)]) (fun (t27 : (List UInt8)) => []) (entR [(100, 100)] rfl (keepS hγ trivial) ⟨⟨_, rfl⟩, trivial⟩ ⟨⟨_, _, rfl, rfl, rci (rc_sl (ifs_map (f := u32) (fun _ => if_u32) r1))⟩, trivial⟩ ⟨⟨_, rfl, rn_id if_str⟩, ⟨_, rfl, rn_own rfl⟩, ⟨_, rfl, rn_id if_str⟩, trivial⟩) ?_ ?_
  · intro hj28 s29
    refine sseq ?_
    refine sjq (fun (s32 : Bool) => [(2, str ([] : List UInt8)), (3, .own 100), (4, str s29.2), (14, bl s32)]) (fun (s32 : Bool) => [(100, .sl 107 1 (List.map u32 s29.1))]) ?_ ?_
    · intro j30 hj31
      refine sreg ?_
      refine s1 (mv rfl rfl) ?_
      refine s1 (lenO (f := u32) Tryz.underlying67 rfl rfl rfl) ?_
      refine s1 (gtI rfl rfl (kI (x := 0) rfl)) ?_
      refine s1 (mv rfl rfl) ?_
      refine sifd 11 rfl ?_ ?_
      · refine spB 11 rfl rfl rfl ?_
        refine spB 11 rfl rfl rfl ?_
        refine s1 (pickT rfl rfl kB) ?_
        refine snil ?_
        refine pnm ?_
        exact sj (hj31 _) (entR [(100, 100)] rfl (keepS hγ trivial) ⟨⟨_, rfl⟩, trivial⟩ ⟨⟨_, _, rfl, rfl, rci (rc_sl (ifs_map (f := u32) (fun _ => if_u32) s29.1))⟩, trivial⟩ ⟨⟨_, rfl, rn_id if_str⟩, ⟨_, rfl, rn_own rfl⟩, ⟨_, rfl, rn_id if_str⟩, ⟨_, rfl, rn_id if_bl⟩, trivial⟩)
      · refine sg 11 rfl rfl (mv rfl rfl) ?_
        refine sg 11 rfl rfl (eqS rfl rfl (kS (s := []) rfl)) ?_
        refine s1 (pickF rfl rfl rfl) ?_
        refine snil ?_
        refine pnm ?_
        exact sj (hj31 _) (entR [(100, 100)] rfl (keepS hγ trivial) ⟨⟨_, rfl⟩, trivial⟩ ⟨⟨_, _, rfl, rfl, rci (rc_sl (ifs_map (f := u32) (fun _ => if_u32) s29.1))⟩, trivial⟩ ⟨⟨_, rfl, rn_id if_str⟩, ⟨_, rfl, rn_own rfl⟩, ⟨_, rfl, rn_id if_str⟩, ⟨_, rfl, rn_id if_bl⟩, trivial⟩)
    · intro s32
      refine scond rfl ?_ ?_
      · refine sskip ?_
        refine pnm ?_
        refine sblk ?_
        refine sseq ?_
        refine sreg ?_
        refine s1 (mv rfl rfl) ?_
        refine bd fun r33 h34 => ?_
        refine so (callG (em := [(100, .sl 107 1 (List.map u32 r33.2))]) (res' := u64 r33.1) [(0, 100)] [] [(100, 0)] (c_retrospectref07_ten _ h34) ⟨⟨_, rfl, rn_own rfl⟩, trivial⟩ (MiF.get (mi := [(0, _)]) ⟨⟨_, _, rfl, rfl, rc_sl (ifs_map (f := u32) (fun _ => if_u32) s29.1)⟩, trivial⟩) ⟨⟨_, rfl⟩, trivial⟩ rfl trivial ⟨.inr rfl, trivial⟩ rfl ⟨.inl ⟨_, _, rfl, rfl, rc_sl (ifs_map (f := u32) (fun _ => if_u32) r33.2)⟩, trivial⟩ ⟨⟨_, rfl⟩, trivial⟩ trivial (rn_id if_u64) rfl) ?_
        refine s1 (asg rfl rfl) ?_
        refine snil ?_
        refine pnm ?_
        refine sseq ?_
        refine sreg ?_
        refine s1 (mv rfl rfl) ?_
        refine s1 (mv rfl rfl) ?_
        refine s1 (addU uk64 rfl rfl (k64 (x := 1) rfl)) ?_
        refine bd fun y35 h36 => ?_
        refine s1 (slS h36 Tryz.underlying9 rfl (kS (s := [48, 49, 50, 51, 52, 53, 54, 55, 56, 57]) rfl) (bnd rfl) (bnd rfl)) ?_
        refine s1 (mv rfl rfl) ?_
        refine bd fun y37 h38 => ?_
        refine s1 (catStr h38 rfl rfl rfl) ?_
        refine s1 (asg rfl rfl) ?_
        refine snil ?_
        refine pnm ?_
        refine sreg ?_
        refine s1 (mv rfl rfl) ?_
        refine bd fun r39 h40 => ?_
        refine so (callL (em := [(101, .sl 107 1 (List.map u32 r39))]) (res' := .own 101) [100] [] [(101, 50)] [(101, 50)] rfl (c_retrospectref02_Norm _ h40) ⟨pls_map (f := u32) (fun _ => pl_u32) _, trivial⟩ (pl_own) ⟨.inr ⟨100, rfl, .inl ⟨rfl, .inl ⟨_, _, _, rfl, ifs_map (f := u32) (fun _ => if_u32) r33.2, rfl⟩⟩⟩, trivial⟩ (MiF.get (mi := []) trivial) trivial rfl ⟨rfl, trivial⟩ ⟨.inl rfl, trivial⟩ rfl ⟨.inl ⟨_, _, rfl, rfl, rc_sl (ifs_map (f := u32) (fun _ => if_u32) r39)⟩, trivial⟩ trivial ⟨⟨_, rfl⟩, trivial⟩ (rn_own rfl) rfl) ?_
        refine s1 (asg rfl rfl) ?_
        refine snil ?_
        refine pbn ?_
        exact sgo (entR [(100, 101)] rfl (keepS hγ trivial) ⟨⟨_, rfl⟩, trivial⟩ ⟨⟨_, _, rfl, rfl, rci (rc_sl (ifs_map (f := u32) (fun _ => if_u32) r39))⟩, trivial⟩ ⟨⟨_, rfl, rn_id if_str⟩, ⟨_, rfl, rn_own rfl⟩, ⟨_, rfl, rn_id if_str⟩, trivial⟩)
      · refine sexit ?_
        refine ptx ?_
        exact sout (fun h => by cases h) (sj (hj28 _) (entR [] rfl (keepS hγ trivial) (by exact trivial) (by exact trivial) ⟨⟨_, rfl, rn_id if_str⟩, ⟨_, rfl, rn_id if_str⟩, trivial⟩))
  · intro t27
    refine sx ?_
    refine pnm ?_
    refine sseq ?_
    refine sreg ?_
    refine s1 (mv rfl rfl) ?_
    refine s1 (asg rfl rfl) ?_
    refine snil ?_
    refine pnm ?_
    refine sret ?_
    exact ret [] [.tmp 2] [_] [_] .ret hγ (.inl rfl) rfl ⟨rfl, trivial⟩ rfl trivial trivial trivial (rns_cons (rn_id if_str) (rns_nil)) rfl
theorem c_retrospectref08_Norm {n : Nat} {x0 : M_retrospectref08_Whole} : ∀ r, m_retrospectref08_Norm n x0 = some r → FnOk Tryz.prog 39 [L_retrospectref08_Whole x0] [] (L_retrospectref08_Whole r) [] := by
  unfold m_retrospectref08_Norm
  refine fn_of_sq (res := fun (r : M_retrospectref08_Whole) => L_retrospectref08_Whole r) (mo := fun (r : M_retrospectref08_Whole) => []) Tryz.func39 rfl rfl (by kernel_rfl) rfl ?_
  intro w S0 γ hγ
  refine sseq ?_
  refine sreg ?_
  refine so (box (y := 100) (by exact rfl) rfl rfl rfl) ?_
  refine so (al (y := 101) (ly := L_retrospectref08_Whole (⟨false, []⟩ : M_retrospectref08_Whole)) ti_69 zr_retrospectref08_Whole rfl rfl) ?_
  refine snil ?_
  refine pnm ?_
  refine sseq ?_
  refine sreg ?_
  refine s1 (faO rfl fd_69_1 rfl rfl) ?_
  refine s1 (ldB [1] rfl (by exact rfl) sh_67 (by exact rfl) (by exact rfl) rfl rfl (.inl rfl)) ?_
  refine bd fun r1 h2 => ?_
  refine so (callG (em := [(102, .sl 107 1 (List.map u32 r1))]) (res' := .own 102) [] [(102, 50)] [(102, 50)] (c_retrospectref02_Norm _ h2) ⟨⟨_, rfl, rn_id if_sli⟩, trivial⟩ (MiF.get (mi := []) trivial) trivial rfl ⟨rfl, trivial⟩ ⟨.inl rfl, trivial⟩ rfl ⟨.inl ⟨_, _, rfl, rfl, rc_sl (ifs_map (f := u32) (fun _ => if_u32) r1)⟩, trivial⟩ trivial ⟨⟨_, rfl⟩, trivial⟩ (rn_own rfl) rfl) ?_
  refine s1 (asg rfl rfl) ?_
  refine snil ?_
  refine pnm ?_
  refine sjq (fun (s5 : M_retrospectref08_Whole) => [(2, .own 101)]) (fun (s5 : M_retrospectref08_Whole) => [(101, .bx 69 (L_retrospectref08_Whole s5))]) ?_ ?_
  · intro j3 hj4
    refine sreg ?_
    refine s1 (faO rfl fd_69_0 rfl rfl) ?_
    refine s1 (ldB [0] rfl (by exact rfl) sh_4 (by exact rfl) (by exact rfl) rfl rfl (.inl rfl)) ?_
    refine s1 (mv rfl rfl) ?_
    refine sifd 9 rfl ?_ ?_
    · refine sg 9 rfl rfl (mv rfl rfl) ?_
      refine sg 9 rfl rfl (lenO (f := u32) Tryz.underlying67 rfl rfl rfl) ?_
      refine sg 9 rfl rfl (gtI rfl rfl (kI (x := 0) rfl)) ?_
      refine s1 (pickT rfl rfl rfl) ?_
      refine s1 (mv rfl rfl) ?_
      refine frz (id := 102) [(3, sli 1 (List.map u32 r1)), (6, sli 1 (List.map u32 r1)), (10, sli 1 (List.map u32 r1)), (14, sli 1 (List.map u32 r1))] [] rfl (ifs_map (f := u32) (fun _ => if_u32) r1) ⟨⟨_, rfl, fz_own⟩, ⟨_, rfl, fz_own⟩, ⟨_, rfl, fz_own⟩, ⟨_, rfl, fz_own⟩, trivial⟩ trivial ?_
      refine s1 (bld (l := [bl (decide ((0 : Int) < (r1.length : Int))), sli 1 (List.map u32 r1)]) pl_69 ti_69 zr_retrospectref08_Whole ⟨_, _, _, rfl, rfl, rfl, rfl, (szk (k := 1) rfl rfl), ⟨_, _, _, rfl, rfl, rfl, rfl, (szk (k := 1) rfl rfl), rfl⟩⟩ rfl) ?_
      refine so (stB2 (ly2 := L_retrospectref08_Whole (⟨decide ((0 : Int) < (r1.length : Int)), r1⟩ : M_retrospectref08_Whole)) [] (by exact rfl) rfl (by exact rfl) sh_69 (by exact rfl) (by exact rfl) (by exact rfl) rfl (.inr ⟨rfl, rfl, _, _, rfl⟩) rfl) ?_
      refine snil ?_
      refine pnm ?_
      exact sj (hj4 _) (entR [(101, 101)] rfl (keepS hγ trivial) ⟨⟨_, rfl⟩, trivial⟩ ⟨⟨_, _, rfl, rfl, rci (rc_bx (rn_id if_L_retrospectref08_Whole))⟩, trivial⟩ ⟨⟨_, rfl, rn_own rfl⟩, trivial⟩)
    · refine spB 9 rfl rfl rfl ?_
      refine spB 9 rfl rfl rfl ?_
      refine spB 9 rfl rfl rfl ?_
      refine s1 (pickF rfl rfl kB) ?_
      refine s1 (mv rfl rfl) ?_
      refine frz (id := 102) [(3, sli 1 (List.map u32 r1)), (6, sli 1 (List.map u32 r1)), (14, sli 1 (List.map u32 r1))] [] rfl (ifs_map (f := u32) (fun _ => if_u32) r1) ⟨⟨_, rfl, fz_own⟩, ⟨_, rfl, fz_own⟩, ⟨_, rfl, fz_own⟩, trivial⟩ trivial ?_
      refine s1 (bld (l := [bl false, sli 1 (List.map u32 r1)]) pl_69 ti_69 zr_retrospectref08_Whole ⟨_, _, _, rfl, rfl, rfl, rfl, (szk (k := 1) rfl rfl), ⟨_, _, _, rfl, rfl, rfl, rfl, (szk (k := 1) rfl rfl), rfl⟩⟩ rfl) ?_
      refine so (stB2 (ly2 := L_retrospectref08_Whole (⟨false, r1⟩ : M_retrospectref08_Whole)) [] (by exact rfl) rfl (by exact rfl) sh_69 (by exact rfl) (by exact rfl) (by exact rfl) rfl (.inr ⟨rfl, rfl, _, _, rfl⟩) rfl) ?_
      refine snil ?_
      refine pnm ?_
      exact sj (hj4 _) (entR [(101, 101)] rfl (keepS hγ trivial) ⟨⟨_, rfl⟩, trivial⟩ ⟨⟨_, _, rfl, rfl, rci (rc_bx (rn_id if_L_retrospectref08_Whole))⟩, trivial⟩ ⟨⟨_, rfl, rn_own rfl⟩, trivial⟩)
  · intro s5
    refine sret ?_
    exact ret [] [.cell 2 69] [_] [_] .ret hγ (.inl rfl) rfl ⟨⟨101, _, rfl, rfl, sh_69⟩, trivial⟩ rfl trivial trivial trivial (rns_cons (rn_id if_L_retrospectref08_Whole) (rns_nil)) rfl
theorem c_retrospectref08_Sign {n : Nat} {x0 : M_retrospectref08_Whole} : ∀ r, m_retrospectref08_Sign n x0 = some r → FnOk Tryz.prog 42 [L_retrospectref08_Whole x0] [] (i64 r) [] := by
  unfold m_retrospectref08_Sign
  refine fn_of_sq (res := fun (r : Int) => i64 r) (mo := fun (r : Int) => []) Tryz.func42 rfl rfl (by kernel_rfl) rfl ?_
  intro w S0 γ hγ
  refine sseq ?_
  refine sreg ?_
  refine so (box (y := 100) (by exact rfl) rfl rfl rfl) ?_
  refine s1 (asg rfl (kI (x := 0) rfl)) ?_
  refine snil ?_
  refine pnm ?_
  refine sseq ?_
  refine sreg ?_
  refine s1 (ldB [] rfl rfl sh_69 (by exact rfl) (by exact rfl) rfl rfl (.inr ⟨rfl, rfl, _, _, rfl⟩)) ?_
  refine bd fun r1 h2 => ?_
  refine s1 (call0 (c_retrospectref08_Norm _ h2) ⟨⟨_, rfl, rn_id if_L_retrospectref08_Whole⟩, trivial⟩ (if_L_retrospectref08_Whole) rfl) ?_
  refine so (al (y := 101) (ly := L_retrospectref08_Whole (⟨false, []⟩ : M_retrospectref08_Whole)) ti_69 zr_retrospectref08_Whole rfl rfl) ?_
  refine so (stB2 (ly2 := L_retrospectref08_Whole r1) [] (by exact rfl) rfl (by exact rfl) sh_69 (by exact rfl) (by exact rfl) (by exact rfl) rfl (.inr ⟨rfl, rfl, _, _, rfl⟩) rfl) ?_
  refine snil ?_
  refine pnm ?_
  refine sseq ?_
  refine sseq ?_
  refine sreg ?_
  refine s1 (faO rfl fd_69_1 rfl rfl) ?_
  refine s1 (ldB [1] rfl (by exact rfl) sh_67 (by exact rfl) (by exact rfl) rfl rfl (.inl rfl)) ?_
  refine s1 (lenL (f := u32) Tryz.underlying67 rfl rfl) ?_
  refine s1 (eqI rfl rfl (kI (x := 0) rfl)) ?_
  refine snil ?_
  refine pnm ?_
  refine scond rfl ?_ ?_
  · refine sseq ?_
    refine sreg ?_
    refine s1 (asg rfl (kI (x := 0) rfl)) ?_
    refine snil ?_
    refine pnm ?_
    refine sret ?_
    refine pth ?_
    exact ret [] [.tmp 2] [_] [_] .ret hγ (.inl rfl) rfl ⟨rfl, trivial⟩ rfl trivial trivial trivial (rns_cons (rn_id if_i64) (rns_nil)) rfl
  · refine sskip ?_
    refine pnm ?_
    refine sseq ?_
    refine sseq ?_
    refine sreg ?_
    refine s1 (faO rfl fd_69_0 rfl rfl) ?_
    refine s1 (ldB [0] rfl (by exact rfl) sh_4 (by exact rfl) (by exact rfl) rfl rfl (.inl rfl)) ?_
    refine snil ?_
    refine pnm ?_
    refine scond rfl ?_ ?_
    · refine sseq ?_
      refine sreg ?_
      refine s1 (asg rfl (kI (x := (-1)) rfl)) ?_
      refine snil ?_
      refine pnm ?_
      refine sret ?_
      refine pth ?_
      exact ret [] [.tmp 2] [_] [_] .ret hγ (.inl rfl) rfl ⟨rfl, trivial⟩ rfl trivial trivial trivial (rns_cons (rn_id if_i64) (rns_nil)) rfl
    · refine sskip ?_
      refine pnm ?_
      refine sseq ?_
      refine sreg ?_
      refine s1 (asg rfl (kI (x := 1) rfl)) ?_
      refine snil ?_
      refine pnm ?_
      refine sret ?_
      exact ret [] [.tmp 2] [_] [_] .ret hγ (.inl rfl) rfl ⟨rfl, trivial⟩ rfl trivial trivial trivial (rns_cons (rn_id if_i64) (rns_nil)) rfl
theorem c_retrospectref08_Text {n : Nat} {x0 : M_retrospectref08_Whole} : ∀ r, m_retrospectref08_Text n x0 = some r → FnOk Tryz.prog 28 [L_retrospectref08_Whole x0] [] (str r) [] := by
  unfold m_retrospectref08_Text
  refine fn_of_sq (res := fun (r : (List UInt8)) => str r) (mo := fun (r : (List UInt8)) => []) Tryz.func28 rfl rfl (by kernel_rfl) rfl ?_
  intro w S0 γ hγ
  refine sseq ?_
  refine sreg ?_
  refine so (box (y := 100) (by exact rfl) rfl rfl rfl) ?_
  refine s1 (asg rfl (kS (s := []) rfl)) ?_
  refine snil ?_
  refine pnm ?_
  refine sseq ?_
  refine sreg ?_
  refine s1 (faO rfl fd_69_1 rfl rfl) ?_
  refine s1 (ldB [1] rfl (by exact rfl) sh_67 (by exact rfl) (by exact rfl) rfl rfl (.inl rfl)) ?_
  refine bd fun r1 h2 => ?_
  refine s1 (call0 (c_retrospectref07_Text _ h2) ⟨⟨_, rfl, rn_id if_sli⟩, trivial⟩ (if_str) rfl) ?_
  refine s1 (asg rfl rfl) ?_
  refine snil ?_
  refine pnm ?_
  refine sjq (fun (s9 : (List UInt8)) => [(2, str ([] : List UInt8)), (3, str s9)]) (fun (s9 : (List UInt8)) => []) ?_ ?_
  · intro j7 hj8
    refine sseq ?_
    refine sreg ?_
    refine s1 (ldB [] rfl rfl sh_69 (by exact rfl) (by exact rfl) rfl rfl (.inr ⟨rfl, rfl, _, _, rfl⟩)) ?_
    refine bd fun r10 h11 => ?_
    refine s1 (call0 (c_retrospectref08_Sign _ h11) ⟨⟨_, rfl, rn_id if_L_retrospectref08_Whole⟩, trivial⟩ (if_i64) rfl) ?_
    refine s1 (ltI rfl rfl (kI (x := 0) rfl)) ?_
    refine snil ?_
    refine pnm ?_
    refine scond rfl ?_ ?_
    · refine sreg ?_
      refine s1 (mv rfl rfl) ?_
      refine bd fun y12 h13 => ?_
      refine s1 (catStr h13 rfl (kS (s := [45]) rfl) rfl) ?_
      refine s1 (asg rfl rfl) ?_
      refine snil ?_
      refine pnm ?_
      exact sj (hj8 _) (entR [] rfl (keepS hγ trivial) (by exact trivial) (by exact trivial) ⟨⟨_, rfl, rn_id if_str⟩, ⟨_, rfl, rn_id if_str⟩, trivial⟩)
    · refine sskip ?_
      refine pnm ?_
      exact sj (hj8 _) (entR [] rfl (keepS hγ trivial) (by exact trivial) (by exact trivial) ⟨⟨_, rfl, rn_id if_str⟩, ⟨_, rfl, rn_id if_str⟩, trivial⟩)
  · intro s9
    refine sseq ?_
    refine sreg ?_
    refine s1 (mv rfl rfl) ?_
    refine s1 (asg rfl rfl) ?_
    refine snil ?_
    refine pnm ?_
    refine sret ?_
    exact ret [] [.tmp 2] [_] [_] .ret hγ (.inl rfl) rfl ⟨rfl, trivial⟩ rfl trivial trivial trivial (rns_cons (rn_id if_str) (rns_nil)) rfl
theorem c_retrospectref20_Int {n : Nat} {x0 : Int} : ∀ r, m_retrospectref20_Int n x0 = some r → FnOk Tryz.prog 22 [i64 x0] [] (str r) [] := by
  unfold m_retrospectref20_Int
  refine fn_of_sq (res := fun (r : (List UInt8)) => str r) (mo := fun (r : (List UInt8)) => []) Tryz.func22 rfl rfl (by kernel_rfl) rfl ?_
  intro w S0 γ hγ
  refine sseq ?_
  refine sreg ?_
  refine s1 (asg rfl (kS (s := []) rfl)) ?_
  refine snil ?_
  refine pnm ?_
  refine sseq ?_
  refine sreg ?_
  refine s1 (mv rfl rfl) ?_
  refine bd fun r1 h2 => ?_
  refine s1 (call0 (c_retrospectref09_Int _ h2) ⟨⟨_, rfl, rn_id if_i64⟩, trivial⟩ (if_L_retrospectref09_Frac) rfl) ?_
  refine bd fun r3 h4 => ?_
  refine s1 (call0 (c_retrospectref09_Up _ h4) ⟨⟨_, rfl, rn_id if_L_retrospectref09_Frac⟩, trivial⟩ (if_L_retrospectref08_Whole) rfl) ?_
  refine bd fun r5 h6 => ?_
  refine s1 (call0 (c_retrospectref08_Text _ h6) ⟨⟨_, rfl, rn_id if_L_retrospectref08_Whole⟩, trivial⟩ (if_str) rfl) ?_
  refine s1 (asg rfl rfl) ?_
  refine snil ?_
  refine pnm ?_
  refine sret ?_
  exact ret [] [.tmp 2] [_] [_] .ret hγ (.inl rfl) rfl ⟨rfl, trivial⟩ rfl trivial trivial trivial (rns_cons (rn_id if_str) (rns_nil)) rfl
theorem c_retrospectref48_Pack {n : Nat} {x0 : (List M_retrospectref48_Piece)} : ∀ r, m_retrospectref48_Pack n x0 = some r → FnOk Tryz.prog 11 [sli 2 (List.map L_retrospectref48_Piece x0)] [] (str r) [] := by
  unfold m_retrospectref48_Pack
  refine fn_of_sq (res := fun (r : (List UInt8)) => str r) (mo := fun (r : (List UInt8)) => []) Tryz.func11 rfl rfl (by kernel_rfl) rfl ?_
  intro w S0 γ hγ
  refine sseq ?_
  refine sreg ?_
  refine s1 (asg rfl (kS (s := []) rfl)) ?_
  refine snil ?_
  refine pnm ?_
  refine sseq ?_
  refine sreg ?_
  refine s1 (asg rfl (kS (s := []) rfl)) ?_
  refine snil ?_
  refine pnm ?_
  refine sseq ?_
  refine sseq ?_
  refine sreg ?_
  refine s1 (asg rfl (kI (x := 0) rfl)) ?_
  refine snil ?_
  refine pnm ?_
  refine sblk ?_
  refine sloopE 0 (fun t => t) (fun (s45 : (List UInt8) × Int) => [(0, sli 2 (List.map L_retrospectref48_Piece x0)), (2, str ([] : List UInt8)), (3, str s45.1), (4, i64 s45.2)]) (fun (s45 : (List UInt8) × Int) => []) (fun (t43 : (List UInt8)) => [(2, str ([] : List UInt8)), (3, str t43)]) (fun (t43 : (List UInt8)) => []) (entI ⟨rfl, rfl, rfl, rfl, trivial⟩ eqm0) ?_ ?_
  · intro hj44 s45
    refine sseq ?_
    refine sseq ?_
    refine sreg ?_
    refine s1 (mv rfl rfl) ?_
    refine s1 (mv rfl rfl) ?_
    refine s1 (lenL (f := L_retrospectref48_Piece) Tryz.underlying22 rfl rfl) ?_
    refine s1 (ltI rfl rfl rfl) ?_
    refine snil ?_
    refine pnm ?_
    refine scond rfl ?_ ?_
    · refine sskip ?_
      refine pnm ?_
      refine sseq ?_
      refine sblk ?_
      refine bd fun y46 h47 => ?_
      refine bd fun y48 h49 => ?_
      refine bd fun y50 h51 => ?_
      refine bd fun r52 h53 => ?_
      refine bd fun y54 h55 => ?_
      refine bd fun y56 h57 => ?_
      refine bd fun y58 h59 => ?_
      refine bd fun y60 h61 => ?_
      refine bd fun y62 h63 => ?_
      refine bd fun y64 h65 => ?_
      refine sdraw [⟨[3], [], [(11, str s45.1)], []⟩, ⟨[0], [], [(12, sli 2 (List.map L_retrospectref48_Piece x0))], []⟩, ⟨[4], [], [(13, i64 s45.2)], []⟩, ⟨[12, 13], [], [(14, .ref (L_retrospectref48_Piece y46))], []⟩, ⟨[14], [], [(15, .ref (str y46.Name))], []⟩, ⟨[15], [], [(16, str y46.Name)], []⟩, ⟨[16], [], [(17, str y48)], []⟩, ⟨[0], [], [(18, sli 2 (List.map L_retrospectref48_Piece x0))], []⟩, ⟨[4], [], [(19, i64 s45.2)], []⟩, ⟨[18, 19], [], [(20, .ref (L_retrospectref48_Piece y50))], []⟩, ⟨[20], [], [(21, .ref (str y50.Text))], []⟩, ⟨[21], [], [(22, str y50.Text)], []⟩, ⟨[22], [], [(23, i64 (y50.Text.length : Int))], []⟩, ⟨[23], [], [(24, str r52)], []⟩, ⟨[17, 24], [], [(25, str y54)], []⟩, ⟨[25], [], [(26, str y56)], []⟩, ⟨[0], [], [(27, sli 2 (List.map L_retrospectref48_Piece x0))], []⟩, ⟨[4], [], [(28, i64 s45.2)], []⟩, ⟨[27, 28], [], [(29, .ref (L_retrospectref48_Piece y58))], []⟩, ⟨[29], [], [(30, .ref (str y58.Text))], []⟩, ⟨[30], [], [(31, str y58.Text)], []⟩, ⟨[26, 31], [], [(32, str y60)], []⟩, ⟨[32], [], [(33, str y62)], []⟩, ⟨[11, 33], [], [(34, str y64)], []⟩, ⟨[34], [], [(3, str y64)], []⟩] fol (by kernel_rfl) ⟨fun st mm ⟨a3, _⟩ _ => og (mv rfl (a3.trans rfl)), fun st mm ⟨a0, _⟩ _ => og (mv rfl (a0.trans rfl)), fun st mm ⟨a4, _⟩ _ => og (mv rfl (a4.trans rfl)), fun st mm ⟨a12, a13, _⟩ _ => og (ixR (f := L_retrospectref48_Piece) Tryz.underlying22 ti_31 h47 rfl (a12.trans rfl) (a13.trans rfl)), fun st mm ⟨a14, _⟩ _ => og (faR fd_31_0 (by exact rfl) rfl (a14.trans rfl)), fun st mm ⟨a15, _⟩ _ => og (ldR sh_9 (by exact rfl) (by exact rfl) rfl (a15.trans rfl)), fun st mm ⟨a16, _⟩ _ => og (catStr h49 rfl (a16.trans rfl) (kS (s := [61]) rfl)), fun st mm ⟨a0, _⟩ _ => og (mv rfl (a0.trans rfl)), fun st mm ⟨a4, _⟩ _ => og (mv rfl (a4.trans rfl)), fun st mm ⟨a18, a19, _⟩ _ => og (ixR (f := L_retrospectref48_Piece) Tryz.underlying22 ti_31 h51 rfl (a18.trans rfl) (a19.trans rfl)), fun st mm ⟨a20, _⟩ _ => og (faR fd_31_1 (by exact rfl) rfl (a20.trans rfl)), fun st mm ⟨a21, _⟩ _ => og (ldR sh_9 (by exact rfl) (by exact rfl) rfl (a21.trans rfl)), fun st mm ⟨a22, _⟩ _ => og (lenS Tryz.underlying9 rfl (a22.trans rfl)), fun st mm ⟨a23, _⟩ _ => og (call0 (c_retrospectref20_Int _ h53) ⟨⟨_, (a23.trans rfl), rn_id if_i64⟩, trivial⟩ (if_str) rfl), fun st mm ⟨a17, a24, _⟩ _ => og (catStr h55 rfl (a17.trans rfl) (a24.trans rfl)), fun st mm ⟨a25, _⟩ _ => og (catStr h57 rfl (a25.trans rfl) (kS (s := [58]) rfl)), fun st mm ⟨a0, _⟩ _ => og (mv rfl (a0.trans rfl)), fun st mm ⟨a4, _⟩ _ => og (mv rfl (a4.trans rfl)), fun st mm ⟨a27, a28, _⟩ _ => og (ixR (f := L_retrospectref48_Piece) Tryz.underlying22 ti_31 h59 rfl (a27.trans rfl) (a28.trans rfl)), fun st mm ⟨a29, _⟩ _ => og (faR fd_31_1 (by exact rfl) rfl (a29.trans rfl)), fun st mm ⟨a30, _⟩ _ => og (ldR sh_9 (by exact rfl) (by exact rfl) rfl (a30.trans rfl)), fun st mm ⟨a26, a31, _⟩ _ => og (catStr h61 rfl (a26.trans rfl) (a31.trans rfl)), fun st mm ⟨a32, _⟩ _ => og (catStr h63 rfl (a32.trans rfl) (kS (s := [59]) rfl)), fun st mm ⟨a11, a33, _⟩ _ => og (catStr h65 rfl (a11.trans rfl) (a33.trans rfl)), fun st mm ⟨a34, _⟩ _ => og (asg rfl (a34.trans rfl)), trivial⟩ ?_
      refine pbn ?_
      refine pnm ?_
      refine sreg ?_
      refine s1 (mv rfl rfl) ?_
      refine s1 (addI rfl rfl (kI (x := 1) rfl)) ?_
      refine s1 (asg rfl rfl) ?_
      refine snil ?_
      exact sgo (entI ⟨rfl, rfl, rfl, rfl, trivial⟩ eqm0)
    · refine sexit ?_
      refine ptx ?_
      exact sout (fun h => by cases h) (sj (hj44 _) (entI ⟨rfl, rfl, trivial⟩ eqm0))
  · intro t43
    refine sx ?_
    refine pnm ?_
    refine sseq ?_
    refine sreg ?_
    refine s1 (mv rfl rfl) ?_
    refine s1 (asg rfl rfl) ?_
    refine snil ?_
    refine pnm ?_
    refine sret ?_
    exact ret [] [.tmp 2] [_] [_] .ret hγ (.inl rfl) rfl ⟨rfl, trivial⟩ rfl trivial trivial trivial (rns_cons (rn_id if_str) (rns_nil)) rfl
theorem c_retrospectlaw48_WirePacks {n : Nat} {x0 : (List M_retrospectref48_Piece)} {x1 : (List UInt8)} : ∀ r, m_retrospectlaw48_WirePacks n x0 x1 = some r → FnOk Tryz.prog 3 [sli 2 (List.map L_retrospectref48_Piece x0), str x1] [] (bl r) [] := by
  unfold m_retrospectlaw48_WirePacks
  refine fn_of_sq (res := fun (r : Bool) => bl r) (mo := fun (r : Bool) => []) Tryz.func3 rfl rfl (by kernel_rfl) rfl ?_
  intro w S0 γ hγ
  refine sseq ?_
  refine sreg ?_
  refine s1 (asg rfl kB) ?_
  refine snil ?_
  refine pnm ?_
  refine sseq ?_
  refine sjq (fun (s5 : Bool) => [(0, sli 2 (List.map L_retrospectref48_Piece x0)), (1, str x1), (4, bl false), (18, bl s5)]) (fun (s5 : Bool) => []) ?_ ?_
  · intro j3 hj4
    refine sreg ?_
    refine s1 (mv rfl rfl) ?_
    refine bd fun r6 h7 => ?_
    refine s1 (call0 (c_retrospectref48_Long _ h7) ⟨⟨_, rfl, rn_id if_sli⟩, ⟨_, (kI (x := 40) rfl), rn_id if_i64⟩, ⟨_, (kI (x := 21000) rfl), rn_id if_i64⟩, trivial⟩ (if_bl) rfl) ?_
    refine s1 (mv rfl rfl) ?_
    refine sifd 14 rfl ?_ ?_
    · refine spB 14 rfl rfl rfl ?_
      refine spB 14 rfl rfl rfl ?_
      refine spB 14 rfl rfl rfl ?_
      refine s1 (pickT rfl rfl kB) ?_
      refine snil ?_
      refine pnm ?_
      exact sj (hj4 _) (entI ⟨rfl, rfl, rfl, rfl, trivial⟩ eqm0)
    · refine sg 14 rfl rfl (mv rfl rfl) ?_
      refine sg 14 rfl rfl (lenS Tryz.underlying9 rfl rfl) ?_
      refine sg 14 rfl rfl (gtI rfl rfl (kI (x := 100) rfl)) ?_
      refine s1 (pickF rfl rfl rfl) ?_
      refine snil ?_
      refine pnm ?_
      exact sj (hj4 _) (entI ⟨rfl, rfl, rfl, rfl, trivial⟩ eqm0)
  · intro s5
    refine scond rfl ?_ ?_
    · refine sseq ?_
      refine sreg ?_
      refine bd fun r8 h9 => ?_
      refine s1 (call0 (c_retrospectlaw48_works _ h9) trivial (if_bl) rfl) ?_
      refine s1 (asg rfl rfl) ?_
      refine snil ?_
      refine pnm ?_
      refine sret ?_
      refine pth ?_
      exact ret [] [.tmp 4] [_] [_] .ret hγ (.inl rfl) rfl ⟨rfl, trivial⟩ rfl trivial trivial trivial (rns_cons (rn_id if_bl) (rns_nil)) rfl
    · refine sskip ?_
      refine pnm ?_
      refine sseq ?_
      refine sreg ?_
      refine s1 (mv rfl rfl) ?_
      refine bd fun r10 h11 => ?_
      refine s1 (call0 (c_retrospectlaw48_To _ h11) ⟨⟨_, rfl, rn_id if_sli⟩, trivial⟩ (if_sli) rfl) ?_
      refine bd fun r12 h13 => ?_
      refine s1 (call0 (c_wire_Pack _ h13) ⟨⟨_, rfl, rn_id if_sli⟩, trivial⟩ (if_tup (ifs_cons if_str (ifs_cons if_bl (ifs_nil)))) rfl) ?_
      refine s1 (mv rfl rfl) ?_
      refine s1 (ext (by exact rfl) rfl rfl) ?_
      refine s1 (ext (by exact rfl) rfl rfl) ?_
      refine s1 (asg rfl rfl) ?_
      refine s1 (asg rfl rfl) ?_
      refine snil ?_
      refine pnm ?_
      refine sseq ?_
      refine sreg ?_
      refine s1 (mv rfl rfl) ?_
      refine bd fun r14 h15 => ?_
      refine s1 (call0 (c_retrospectlaw48_To _ h15) ⟨⟨_, rfl, rn_id if_sli⟩, trivial⟩ (if_sli) rfl) ?_
      refine s1 (mv rfl rfl) ?_
      refine bd fun r16 h17 => ?_
      refine s1 (call0 (c_wire_Get _ h17) ⟨⟨_, rfl, rn_id if_sli⟩, ⟨_, rfl, rn_id if_str⟩, trivial⟩ (if_tup (ifs_cons if_str (ifs_cons if_bl (ifs_nil)))) rfl) ?_
      refine s1 (mv rfl rfl) ?_
      refine s1 (ext (by exact rfl) rfl rfl) ?_
      refine s1 (ext (by exact rfl) rfl rfl) ?_
      refine s1 (asg rfl rfl) ?_
      refine s1 (asg rfl rfl) ?_
      refine snil ?_
      refine pnm ?_
      refine sseq ?_
      refine sreg ?_
      refine s1 (asg rfl (kS (s := []) rfl)) ?_
      refine snil ?_
      refine pnm ?_
      refine sseq ?_
      refine sreg ?_
      refine s1 (asg rfl kB) ?_
      refine snil ?_
      refine pnm ?_
      refine sseq ?_
      refine sseq ?_
      refine sreg ?_
      refine s1 (mv rfl rfl) ?_
      refine s1 (lenL (f := L_retrospectref48_Piece) Tryz.underlying22 rfl rfl) ?_
      refine s1 (subI rfl rfl (kI (x := 1) rfl)) ?_
      refine s1 (asg rfl rfl) ?_
      refine snil ?_
      refine pnm ?_
      refine sblk ?_
      refine sloopE 0 (fun t => t) (fun (s44 : (List UInt8) × Bool × Int) => [(0, sli 2 (List.map L_retrospectref48_Piece x0)), (1, str x1), (4, bl false), (5, str r12.1), (6, bl r12.2), (7, str r16.1), (8, bl r16.2), (9, str s44.1), (10, bl s44.2.1), (11, i64 s44.2.2)]) (fun (s44 : (List UInt8) × Bool × Int) => []) (fun (t42 : (List UInt8) × Bool) => [(0, sli 2 (List.map L_retrospectref48_Piece x0)), (4, bl false), (5, str r12.1), (6, bl r12.2), (7, str r16.1), (8, bl r16.2), (9, str t42.1), (10, bl t42.2)]) (fun (t42 : (List UInt8) × Bool) => []) (entI ⟨rfl, rfl, rfl, rfl, rfl, rfl, rfl, rfl, rfl, rfl, trivial⟩ eqm0) ?_ ?_
      · intro hj43 s44
        refine sseq ?_
        refine sseq ?_
        refine sreg ?_
        refine s1 (mv rfl rfl) ?_
        refine s1 (geI rfl rfl (kI (x := 0) rfl)) ?_
        refine snil ?_
        refine pnm ?_
        refine scond rfl ?_ ?_
        · refine sskip ?_
          refine pnm ?_
          refine sjq (fun (s51 : (List UInt8) × Bool) => [(0, sli 2 (List.map L_retrospectref48_Piece x0)), (1, str x1), (4, bl false), (5, str r12.1), (6, bl r12.2), (7, str r16.1), (8, bl r16.2), (9, str s51.1), (10, bl s51.2), (11, i64 s44.2.2)]) (fun (s51 : (List UInt8) × Bool) => []) ?_ ?_
          · intro j49 hj50
            refine sblk ?_
            refine sseq ?_
            refine sreg ?_
            refine s1 (mv rfl rfl) ?_
            refine s1 (mv rfl rfl) ?_
            refine bd fun y52 h53 => ?_
            refine s1 (ixR (f := L_retrospectref48_Piece) Tryz.underlying22 ti_31 h53 rfl rfl rfl) ?_
            refine s1 (faR fd_31_0 (by exact rfl) rfl rfl) ?_
            refine s1 (ldR sh_9 (by exact rfl) (by exact rfl) rfl rfl) ?_
            refine s1 (mv rfl rfl) ?_
            refine s1 (eqS rfl rfl rfl) ?_
            refine snil ?_
            refine pnm ?_
            refine scond rfl ?_ ?_
            · refine sseq ?_
              refine sreg ?_
              refine s1 (mv rfl rfl) ?_
              refine s1 (mv rfl rfl) ?_
              refine bd fun y54 h55 => ?_
              refine s1 (ixR (f := L_retrospectref48_Piece) Tryz.underlying22 ti_31 h55 rfl rfl rfl) ?_
              refine s1 (faR fd_31_1 (by exact rfl) rfl rfl) ?_
              refine s1 (ldR sh_9 (by exact rfl) (by exact rfl) rfl rfl) ?_
              refine s1 (asg rfl rfl) ?_
              refine snil ?_
              refine pnm ?_
              refine sreg ?_
              refine s1 (asg rfl kB) ?_
              refine snil ?_
              refine pbn ?_
              refine pnm ?_
              exact sj (hj50 _) (entI ⟨rfl, rfl, rfl, rfl, rfl, rfl, rfl, rfl, rfl, rfl, trivial⟩ eqm0)
            · refine sskip ?_
              refine pbn ?_
              refine pnm ?_
              exact sj (hj50 _) (entI ⟨rfl, rfl, rfl, rfl, rfl, rfl, rfl, rfl, rfl, rfl, trivial⟩ eqm0)
          · intro s51
            refine sreg ?_
            refine s1 (mv rfl rfl) ?_
            refine s1 (subI rfl rfl (kI (x := 1) rfl)) ?_
            refine s1 (asg rfl rfl) ?_
            refine snil ?_
            exact sgo (entI ⟨rfl, rfl, rfl, rfl, rfl, rfl, rfl, rfl, rfl, rfl, trivial⟩ eqm0)
        · refine sexit ?_
          refine ptx ?_
          exact sout (fun h => by cases h) (sj (hj43 _) (entI ⟨rfl, rfl, rfl, rfl, rfl, rfl, rfl, rfl, trivial⟩ eqm0))
      · intro t42
        refine sx ?_
        refine pnm ?_
        refine sseq ?_
        refine sjq (fun (s60 : Bool) => [(0, sli 2 (List.map L_retrospectref48_Piece x0)), (4, bl false), (5, str r12.1), (6, bl r12.2), (65, bl s60)]) (fun (s60 : Bool) => []) ?_ ?_
        · intro j58 hj59
          refine sreg ?_
          refine s1 (mv rfl rfl) ?_
          refine s1 (mv rfl rfl) ?_
          refine s1 (neS rfl rfl rfl) ?_
          refine s1 (mv rfl rfl) ?_
          refine sifd 55 rfl ?_ ?_
          · refine spB 55 rfl rfl rfl ?_
            refine spB 55 rfl rfl rfl ?_
            refine spB 55 rfl rfl rfl ?_
            refine s1 (pickT rfl rfl kB) ?_
            refine s1 (mv rfl rfl) ?_
            refine spB 60 rfl rfl rfl ?_
            refine spB 60 rfl rfl rfl ?_
            refine spB 60 rfl rfl rfl ?_
            refine spB 60 rfl rfl rfl ?_
            refine s1 (pickT rfl rfl kB) ?_
            refine snil ?_
            refine pnm ?_
            exact sj (hj59 _) (entI ⟨rfl, rfl, rfl, rfl, rfl, trivial⟩ eqm0)
          · refine sg 55 rfl rfl (mv rfl rfl) ?_
            refine sg 55 rfl rfl (mv rfl rfl) ?_
            refine sg 55 rfl rfl (neB Tryz.underlying4 rfl rfl rfl) ?_
            refine s1 (pickF rfl rfl rfl) ?_
            refine s1 (mv rfl rfl) ?_
            refine sifd 60 rfl ?_ ?_
            · refine spB 60 rfl rfl rfl ?_
              refine spB 60 rfl rfl rfl ?_
              refine spB 60 rfl rfl rfl ?_
              refine spB 60 rfl rfl rfl ?_
              refine s1 (pickT rfl rfl kB) ?_
              refine snil ?_
              refine pnm ?_
              exact sj (hj59 _) (entI ⟨rfl, rfl, rfl, rfl, rfl, trivial⟩ eqm0)
            · refine sg 60 rfl rfl (mv rfl rfl) ?_
              refine sg 60 rfl rfl (mv rfl rfl) ?_
              refine bd fun r61 h62 => ?_
              refine sg 60 rfl rfl (call0 (c_retrospectref48_May _ h62) ⟨⟨_, rfl, rn_id if_sli⟩, trivial⟩ (if_bl) rfl) ?_
              refine sg 60 rfl rfl (neB Tryz.underlying4 rfl rfl rfl) ?_
              refine s1 (pickF rfl rfl rfl) ?_
              refine snil ?_
              refine pnm ?_
              exact sj (hj59 _) (entI ⟨rfl, rfl, rfl, rfl, rfl, trivial⟩ eqm0)
        · intro s60
          refine scond rfl ?_ ?_
          · refine sseq ?_
            refine sreg ?_
            refine s1 (asg rfl kB) ?_
            refine snil ?_
            refine pnm ?_
            refine sret ?_
            refine pth ?_
            exact ret [] [.tmp 4] [_] [_] .ret hγ (.inl rfl) rfl ⟨rfl, trivial⟩ rfl trivial trivial trivial (rns_cons (rn_id if_bl) (rns_nil)) rfl
          · refine sskip ?_
            refine pnm ?_
            refine sseq ?_
            refine sseq ?_
            refine sreg ?_
            refine s1 (mv rfl rfl) ?_
            refine s1 (notB rfl rfl) ?_
            refine snil ?_
            refine pnm ?_
            refine scond rfl ?_ ?_
            · refine sjq (fun (s67 : Bool) => [(0, sli 2 (List.map L_retrospectref48_Piece x0)), (4, bl s67), (5, str r12.1)]) (fun (s67 : Bool) => []) ?_ ?_
              · intro j65 hj66
                refine sreg ?_
                refine s1 (mv rfl rfl) ?_
                refine s1 (eqS rfl rfl (kS (s := []) rfl)) ?_
                refine s1 (mv rfl rfl) ?_
                refine sifd 70 rfl ?_ ?_
                · refine bd fun r68 h69 => ?_
                  refine sg 70 rfl rfl (call0 (c_retrospectlaw48_works _ h69) trivial (if_bl) rfl) ?_
                  refine s1 (pickT rfl rfl rfl) ?_
                  refine s1 (asg rfl rfl) ?_
                  refine snil ?_
                  refine pnm ?_
                  exact sj (hj66 _) (entI ⟨rfl, rfl, rfl, trivial⟩ eqm0)
                · refine spB 70 rfl rfl rfl ?_
                  refine s1 (pickF rfl rfl kB) ?_
                  refine s1 (asg rfl rfl) ?_
                  refine snil ?_
                  refine pnm ?_
                  exact sj (hj66 _) (entI ⟨rfl, rfl, rfl, trivial⟩ eqm0)
              · intro s67
                refine sret ?_
                refine pth ?_
                exact ret [] [.tmp 4] [_] [_] .ret hγ (.inl rfl) rfl ⟨rfl, trivial⟩ rfl trivial trivial trivial (rns_cons (rn_id if_bl) (rns_nil)) rfl
            · refine sskip ?_
              refine pnm ?_
              refine sjq (fun (s76 : Bool) => [(4, bl s76)]) (fun (s76 : Bool) => []) ?_ ?_
              · intro j74 hj75
                refine sreg ?_
                refine s1 (mv rfl rfl) ?_
                refine s1 (mv rfl rfl) ?_
                refine bd fun r77 h78 => ?_
                refine s1 (call0 (c_retrospectref48_Pack _ h78) ⟨⟨_, rfl, rn_id if_sli⟩, trivial⟩ (if_str) rfl) ?_
                refine s1 (eqS rfl rfl rfl) ?_
                refine s1 (mv rfl rfl) ?_
                refine sifd 77 rfl ?_ ?_
                · refine bd fun r79 h80 => ?_
                  refine sg 77 rfl rfl (call0 (c_retrospectlaw48_works _ h80) trivial (if_bl) rfl) ?_
                  refine s1 (pickT rfl rfl rfl) ?_
                  refine s1 (asg rfl rfl) ?_
                  refine snil ?_
                  refine pnm ?_
                  exact sj (hj75 _) (entI ⟨rfl, trivial⟩ eqm0)
                · refine spB 77 rfl rfl rfl ?_
                  refine s1 (pickF rfl rfl kB) ?_
                  refine s1 (asg rfl rfl) ?_
                  refine snil ?_
                  refine pnm ?_
                  exact sj (hj75 _) (entI ⟨rfl, trivial⟩ eqm0)
              · intro s76
                refine sret ?_
                exact ret [] [.tmp 4] [_] [_] .ret hγ (.inl rfl) rfl ⟨rfl, trivial⟩ rfl trivial trivial trivial (rns_cons (rn_id if_bl) (rns_nil)) rfl
end Go.Proofs.YtiobbiamnjapgaaGreatDoor
