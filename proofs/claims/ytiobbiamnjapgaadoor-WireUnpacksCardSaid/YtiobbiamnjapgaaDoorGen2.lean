import Derived.Test.YtiobbiamnjapgaaDoorGen1
set_option maxRecDepth 100000
set_option maxHeartbeats 4000000
namespace Go.Proofs.YtiobbiamnjapgaaDoor
open Go Go.RowKit
theorem c_retrospectref16_Scan {n : Nat} {x0 : (List UInt8)} : ∀ r, m_retrospectref16_Scan n x0 = some r → FnOk Tryd.prog 58 [str x0] [] (.tup [sli 3 (List.map L_retrospectref16_Word r.1), i64 r.2]) [] := by
  unfold m_retrospectref16_Scan
  refine fn_of_sq (res := fun (r : (List M_retrospectref16_Word) × Int) => .tup [sli 3 (List.map L_retrospectref16_Word r.1), i64 r.2]) (mo := fun (r : (List M_retrospectref16_Word) × Int) => []) Tryd.func58 rfl rfl (by kernel_rfl) rfl ?_
  intro w S0 γ hγ
  refine sseq ?_
  refine sreg ?_
  refine s1 (asg rfl (kLm (k := 3) L_retrospectref16_Word)) ?_
  refine s1 (asg rfl (kI (x := 0) rfl)) ?_
  refine snil ?_
  refine pnm ?_
  refine sseq ?_
  refine sseq ?_
  refine sreg ?_
  refine s1 (mv rfl rfl) ?_
  refine s1 (lenS Tryd.underlying9 rfl rfl) ?_
  refine s1 (gtI rfl rfl (kI (x := 4000) rfl)) ?_
  refine snil ?_
  refine pnm ?_
  refine scond rfl ?_ ?_
  · refine sseq ?_
    refine sreg ?_
    refine so (bsl (y := 100) (ls := List.map L_retrospectref16_Word ([] : List M_retrospectref16_Word)) Tryd.underlying122 ti_108 rfl rfl rfl rfl rfl trivial rfl rfl) ?_
    refine s1 (asg rfl rfl) ?_
    refine s1 (asg rfl (kI (x := 4000) rfl)) ?_
    refine snil ?_
    refine pnm ?_
    refine sret ?_
    refine pth ?_
    refine frz (id := 100) [(2, sli 3 (List.map L_retrospectref16_Word ([] : List M_retrospectref16_Word))), (13, sli 3 (List.map L_retrospectref16_Word ([] : List M_retrospectref16_Word)))] [] rfl (ifs_map (f := L_retrospectref16_Word) (fun _ => if_L_retrospectref16_Word) ([] : List M_retrospectref16_Word)) ⟨⟨_, rfl, fz_own⟩, ⟨_, rfl, fz_own⟩, trivial⟩ trivial ?_
    exact ret [] [.tmp 2, .tmp 3] [_, _] [_, _] .ret hγ (.inl rfl) rfl ⟨rfl, rfl, trivial⟩ rfl trivial trivial trivial (rns_cons (rn_id if_sli) (rns_cons (rn_id if_i64) (rns_nil))) rfl
  · refine sskip ?_
    refine pnm ?_
    refine sseq ?_
    refine sreg ?_
    refine so (asgN (y := 100) (E := 108) (k := 3) rfl rfl) ?_
    refine snil ?_
    refine pnm ?_
    refine sseq ?_
    refine sreg ?_
    refine s1 (asg rfl kB) ?_
    refine snil ?_
    refine pnm ?_
    refine sseq ?_
    refine sseq ?_
    refine sreg ?_
    refine s1 (asg rfl (kI (x := 0) rfl)) ?_
    refine snil ?_
    refine pnm ?_
    refine sblk ?_
    refine sloopE 0 Lp.go (fun (s407 : (List M_retrospectref16_Word) × Bool × Int) => [(0, str x0), (2, sli 3 (List.map L_retrospectref16_Word ([] : List M_retrospectref16_Word))), (3, i64 (0 : Int)), (4, .own 100), (5, bl s407.2.1), (6, i64 s407.2.2)]) (fun (s407 : (List M_retrospectref16_Word) × Bool × Int) => [(100, .sl 108 3 (List.map L_retrospectref16_Word s407.1))]) (fun (t405 : (List M_retrospectref16_Word)) => [(2, sli 3 (List.map L_retrospectref16_Word ([] : List M_retrospectref16_Word))), (3, i64 (0 : Int)), (4, .own 100)]) (fun (t405 : (List M_retrospectref16_Word)) => [(100, .sl 108 3 (List.map L_retrospectref16_Word t405))]) (entR [(100, 100)] rfl (keepS hγ trivial) ⟨⟨_, rfl⟩, trivial⟩ ⟨⟨_, _, rfl, rfl, rci (rc_sl (ifs_map (f := L_retrospectref16_Word) (fun _ => if_L_retrospectref16_Word) ([] : List M_retrospectref16_Word)))⟩, trivial⟩ ⟨⟨_, rfl, rn_id if_str⟩, ⟨_, rfl, rn_id if_sli⟩, ⟨_, rfl, rn_id if_i64⟩, ⟨_, rfl, rn_own rfl⟩, ⟨_, rfl, rn_id if_bl⟩, ⟨_, rfl, rn_id if_i64⟩, trivial⟩) ?_ ?_
    · intro hj406 s407
      refine sseq ?_
      refine sseq ?_
      refine sreg ?_
      refine s1 (mv rfl rfl) ?_
      refine s1 (mv rfl rfl) ?_
      refine s1 (lenS Tryd.underlying9 rfl rfl) ?_
      refine s1 (ltI rfl rfl rfl) ?_
      refine snil ?_
      refine pnm ?_
      refine scond rfl ?_ ?_
      · refine sskip ?_
        refine pnm ?_
        refine sjq (fun (s509 : (List M_retrospectref16_Word) × Bool) => [(0, str x0), (2, sli 3 (List.map L_retrospectref16_Word ([] : List M_retrospectref16_Word))), (3, i64 (0 : Int)), (4, .own 100), (5, bl s509.2), (6, i64 s407.2.2)]) (fun (s509 : (List M_retrospectref16_Word) × Bool) => [(100, .sl 108 3 (List.map L_retrospectref16_Word s509.1))]) ?_ ?_
        · intro j507 hj508
          refine sblk ?_
          refine sseq ?_
          refine sreg ?_
          refine s1 (mv rfl rfl) ?_
          refine s1 (mv rfl rfl) ?_
          refine bd fun y510 h511 => ?_
          refine s1 (ixS Tryd.underlying9 h511 rfl rfl rfl) ?_
          refine s1 (asg rfl rfl) ?_
          refine snil ?_
          refine pnm ?_
          refine sjq (fun (s514 : Bool) => [(0, str x0), (2, sli 3 (List.map L_retrospectref16_Word ([] : List M_retrospectref16_Word))), (3, i64 (0 : Int)), (4, .own 100), (5, bl s514), (6, i64 s407.2.2), (7, u8 y510)]) (fun (s514 : Bool) => [(100, .sl 108 3 (List.map L_retrospectref16_Word s407.1))]) ?_ ?_
          · intro j512 hj513
            refine sseq ?_
            refine sreg ?_
            refine s1 (mv rfl rfl) ?_
            refine s1 (eqU .u8 rfl rfl (k8 (x := 10) rfl)) ?_
            refine snil ?_
            refine pnm ?_
            refine scond rfl ?_ ?_
            · refine sreg ?_
              refine s1 (asg rfl kB) ?_
              refine snil ?_
              refine pnm ?_
              exact sj (hj513 _) (entR [(100, 100)] rfl (keepS hγ trivial) ⟨⟨_, rfl⟩, trivial⟩ ⟨⟨_, _, rfl, rfl, rci (rc_sl (ifs_map (f := L_retrospectref16_Word) (fun _ => if_L_retrospectref16_Word) s407.1))⟩, trivial⟩ ⟨⟨_, rfl, rn_id if_str⟩, ⟨_, rfl, rn_id if_sli⟩, ⟨_, rfl, rn_id if_i64⟩, ⟨_, rfl, rn_own rfl⟩, ⟨_, rfl, rn_id if_bl⟩, ⟨_, rfl, rn_id if_i64⟩, ⟨_, rfl, rn_id if_u8⟩, trivial⟩)
            · refine sskip ?_
              refine pnm ?_
              exact sj (hj513 _) (entR [(100, 100)] rfl (keepS hγ trivial) ⟨⟨_, rfl⟩, trivial⟩ ⟨⟨_, _, rfl, rfl, rci (rc_sl (ifs_map (f := L_retrospectref16_Word) (fun _ => if_L_retrospectref16_Word) s407.1))⟩, trivial⟩ ⟨⟨_, rfl, rn_id if_str⟩, ⟨_, rfl, rn_id if_sli⟩, ⟨_, rfl, rn_id if_i64⟩, ⟨_, rfl, rn_own rfl⟩, ⟨_, rfl, rn_id if_bl⟩, ⟨_, rfl, rn_id if_i64⟩, ⟨_, rfl, rn_id if_u8⟩, trivial⟩)
          · intro s514
            refine sjq (fun (s517 : Bool) => [(0, str x0), (2, sli 3 (List.map L_retrospectref16_Word ([] : List M_retrospectref16_Word))), (3, i64 (0 : Int)), (4, .own 100), (5, bl s517), (6, i64 s407.2.2), (7, u8 y510)]) (fun (s517 : Bool) => [(100, .sl 108 3 (List.map L_retrospectref16_Word s407.1))]) ?_ ?_
            · intro j515 hj516
              refine sseq ?_
              refine sreg ?_
              refine s1 (mv rfl rfl) ?_
              refine s1 (eqU .u8 rfl rfl (k8 (x := 35) rfl)) ?_
              refine snil ?_
              refine pnm ?_
              refine scond rfl ?_ ?_
              · refine sreg ?_
                refine s1 (asg rfl kB) ?_
                refine snil ?_
                refine pnm ?_
                exact sj (hj516 _) (entR [(100, 100)] rfl (keepS hγ trivial) ⟨⟨_, rfl⟩, trivial⟩ ⟨⟨_, _, rfl, rfl, rci (rc_sl (ifs_map (f := L_retrospectref16_Word) (fun _ => if_L_retrospectref16_Word) s407.1))⟩, trivial⟩ ⟨⟨_, rfl, rn_id if_str⟩, ⟨_, rfl, rn_id if_sli⟩, ⟨_, rfl, rn_id if_i64⟩, ⟨_, rfl, rn_own rfl⟩, ⟨_, rfl, rn_id if_bl⟩, ⟨_, rfl, rn_id if_i64⟩, ⟨_, rfl, rn_id if_u8⟩, trivial⟩)
              · refine sskip ?_
                refine pnm ?_
                exact sj (hj516 _) (entR [(100, 100)] rfl (keepS hγ trivial) ⟨⟨_, rfl⟩, trivial⟩ ⟨⟨_, _, rfl, rfl, rci (rc_sl (ifs_map (f := L_retrospectref16_Word) (fun _ => if_L_retrospectref16_Word) s407.1))⟩, trivial⟩ ⟨⟨_, rfl, rn_id if_str⟩, ⟨_, rfl, rn_id if_sli⟩, ⟨_, rfl, rn_id if_i64⟩, ⟨_, rfl, rn_own rfl⟩, ⟨_, rfl, rn_id if_bl⟩, ⟨_, rfl, rn_id if_i64⟩, ⟨_, rfl, rn_id if_u8⟩, trivial⟩)
            · intro s517
              refine sseq ?_
              refine sjq (fun (s520 : Bool) => [(0, str x0), (2, sli 3 (List.map L_retrospectref16_Word ([] : List M_retrospectref16_Word))), (3, i64 (0 : Int)), (4, .own 100), (5, bl s517), (6, i64 s407.2.2), (7, u8 y510), (43, bl s520)]) (fun (s520 : Bool) => [(100, .sl 108 3 (List.map L_retrospectref16_Word s407.1))]) ?_ ?_
              · intro j518 hj519
                refine sreg ?_
                refine s1 (mv rfl rfl) ?_
                refine s1 (mv rfl rfl) ?_
                refine sifd 28 rfl ?_ ?_
                · refine spB 28 rfl rfl rfl ?_
                  refine spB 28 rfl rfl rfl ?_
                  refine s1 (pickT rfl rfl kB) ?_
                  refine s1 (mv rfl rfl) ?_
                  refine spB 32 rfl rfl rfl ?_
                  refine spB 32 rfl rfl rfl ?_
                  refine s1 (pickT rfl rfl kB) ?_
                  refine s1 (mv rfl rfl) ?_
                  refine spB 36 rfl rfl rfl ?_
                  refine spB 36 rfl rfl rfl ?_
                  refine s1 (pickT rfl rfl kB) ?_
                  refine s1 (mv rfl rfl) ?_
                  refine spB 40 rfl rfl rfl ?_
                  refine spB 40 rfl rfl rfl ?_
                  refine s1 (pickT rfl rfl kB) ?_
                  refine snil ?_
                  refine pnm ?_
                  exact sj (hj519 _) (entR [(100, 100)] rfl (keepS hγ trivial) ⟨⟨_, rfl⟩, trivial⟩ ⟨⟨_, _, rfl, rfl, rci (rc_sl (ifs_map (f := L_retrospectref16_Word) (fun _ => if_L_retrospectref16_Word) s407.1))⟩, trivial⟩ ⟨⟨_, rfl, rn_id if_str⟩, ⟨_, rfl, rn_id if_sli⟩, ⟨_, rfl, rn_id if_i64⟩, ⟨_, rfl, rn_own rfl⟩, ⟨_, rfl, rn_id if_bl⟩, ⟨_, rfl, rn_id if_i64⟩, ⟨_, rfl, rn_id if_u8⟩, ⟨_, rfl, rn_id if_bl⟩, trivial⟩)
                · refine sg 28 rfl rfl (mv rfl rfl) ?_
                  refine sg 28 rfl rfl (eqU .u8 rfl rfl (k8 (x := 32) rfl)) ?_
                  refine s1 (pickF rfl rfl rfl) ?_
                  refine s1 (mv rfl rfl) ?_
                  refine sifd 32 rfl ?_ ?_
                  · refine spB 32 rfl rfl rfl ?_
                    refine spB 32 rfl rfl rfl ?_
                    refine s1 (pickT rfl rfl kB) ?_
                    refine s1 (mv rfl rfl) ?_
                    refine spB 36 rfl rfl rfl ?_
                    refine spB 36 rfl rfl rfl ?_
                    refine s1 (pickT rfl rfl kB) ?_
                    refine s1 (mv rfl rfl) ?_
                    refine spB 40 rfl rfl rfl ?_
                    refine spB 40 rfl rfl rfl ?_
                    refine s1 (pickT rfl rfl kB) ?_
                    refine snil ?_
                    refine pnm ?_
                    exact sj (hj519 _) (entR [(100, 100)] rfl (keepS hγ trivial) ⟨⟨_, rfl⟩, trivial⟩ ⟨⟨_, _, rfl, rfl, rci (rc_sl (ifs_map (f := L_retrospectref16_Word) (fun _ => if_L_retrospectref16_Word) s407.1))⟩, trivial⟩ ⟨⟨_, rfl, rn_id if_str⟩, ⟨_, rfl, rn_id if_sli⟩, ⟨_, rfl, rn_id if_i64⟩, ⟨_, rfl, rn_own rfl⟩, ⟨_, rfl, rn_id if_bl⟩, ⟨_, rfl, rn_id if_i64⟩, ⟨_, rfl, rn_id if_u8⟩, ⟨_, rfl, rn_id if_bl⟩, trivial⟩)
                  · refine sg 32 rfl rfl (mv rfl rfl) ?_
                    refine sg 32 rfl rfl (eqU .u8 rfl rfl (k8 (x := 9) rfl)) ?_
                    refine s1 (pickF rfl rfl rfl) ?_
                    refine s1 (mv rfl rfl) ?_
                    refine sifd 36 rfl ?_ ?_
                    · refine spB 36 rfl rfl rfl ?_
                      refine spB 36 rfl rfl rfl ?_
                      refine s1 (pickT rfl rfl kB) ?_
                      refine s1 (mv rfl rfl) ?_
                      refine spB 40 rfl rfl rfl ?_
                      refine spB 40 rfl rfl rfl ?_
                      refine s1 (pickT rfl rfl kB) ?_
                      refine snil ?_
                      refine pnm ?_
                      exact sj (hj519 _) (entR [(100, 100)] rfl (keepS hγ trivial) ⟨⟨_, rfl⟩, trivial⟩ ⟨⟨_, _, rfl, rfl, rci (rc_sl (ifs_map (f := L_retrospectref16_Word) (fun _ => if_L_retrospectref16_Word) s407.1))⟩, trivial⟩ ⟨⟨_, rfl, rn_id if_str⟩, ⟨_, rfl, rn_id if_sli⟩, ⟨_, rfl, rn_id if_i64⟩, ⟨_, rfl, rn_own rfl⟩, ⟨_, rfl, rn_id if_bl⟩, ⟨_, rfl, rn_id if_i64⟩, ⟨_, rfl, rn_id if_u8⟩, ⟨_, rfl, rn_id if_bl⟩, trivial⟩)
                    · refine sg 36 rfl rfl (mv rfl rfl) ?_
                      refine sg 36 rfl rfl (eqU .u8 rfl rfl (k8 (x := 10) rfl)) ?_
                      refine s1 (pickF rfl rfl rfl) ?_
                      refine s1 (mv rfl rfl) ?_
                      refine sifd 40 rfl ?_ ?_
                      · refine spB 40 rfl rfl rfl ?_
                        refine spB 40 rfl rfl rfl ?_
                        refine s1 (pickT rfl rfl kB) ?_
                        refine snil ?_
                        refine pnm ?_
                        exact sj (hj519 _) (entR [(100, 100)] rfl (keepS hγ trivial) ⟨⟨_, rfl⟩, trivial⟩ ⟨⟨_, _, rfl, rfl, rci (rc_sl (ifs_map (f := L_retrospectref16_Word) (fun _ => if_L_retrospectref16_Word) s407.1))⟩, trivial⟩ ⟨⟨_, rfl, rn_id if_str⟩, ⟨_, rfl, rn_id if_sli⟩, ⟨_, rfl, rn_id if_i64⟩, ⟨_, rfl, rn_own rfl⟩, ⟨_, rfl, rn_id if_bl⟩, ⟨_, rfl, rn_id if_i64⟩, ⟨_, rfl, rn_id if_u8⟩, ⟨_, rfl, rn_id if_bl⟩, trivial⟩)
                      · refine sg 40 rfl rfl (mv rfl rfl) ?_
                        refine sg 40 rfl rfl (eqU .u8 rfl rfl (k8 (x := 13) rfl)) ?_
                        refine s1 (pickF rfl rfl rfl) ?_
                        refine snil ?_
                        refine pnm ?_
                        exact sj (hj519 _) (entR [(100, 100)] rfl (keepS hγ trivial) ⟨⟨_, rfl⟩, trivial⟩ ⟨⟨_, _, rfl, rfl, rci (rc_sl (ifs_map (f := L_retrospectref16_Word) (fun _ => if_L_retrospectref16_Word) s407.1))⟩, trivial⟩ ⟨⟨_, rfl, rn_id if_str⟩, ⟨_, rfl, rn_id if_sli⟩, ⟨_, rfl, rn_id if_i64⟩, ⟨_, rfl, rn_own rfl⟩, ⟨_, rfl, rn_id if_bl⟩, ⟨_, rfl, rn_id if_i64⟩, ⟨_, rfl, rn_id if_u8⟩, ⟨_, rfl, rn_id if_bl⟩, trivial⟩)
              · intro s520
                refine scond rfl ?_ ?_
                · refine sexit ?_
                  refine ptx ?_
                  refine sx ?_
                  refine pnm ?_
                  exact sj (hj508 _) (entR [(100, 100)] rfl (keepS hγ trivial) ⟨⟨_, rfl⟩, trivial⟩ ⟨⟨_, _, rfl, rfl, rci (rc_sl (ifs_map (f := L_retrospectref16_Word) (fun _ => if_L_retrospectref16_Word) s407.1))⟩, trivial⟩ ⟨⟨_, rfl, rn_id if_str⟩, ⟨_, rfl, rn_id if_sli⟩, ⟨_, rfl, rn_id if_i64⟩, ⟨_, rfl, rn_own rfl⟩, ⟨_, rfl, rn_id if_bl⟩, ⟨_, rfl, rn_id if_i64⟩, trivial⟩)
                · refine sskip ?_
                  refine pnm ?_
                  refine sseq ?_
                  refine sreg ?_
                  refine s1 (mv rfl rfl) ?_
                  refine s1 (lenO (f := L_retrospectref16_Word) Tryd.underlying122 rfl rfl rfl) ?_
                  refine s1 (asg rfl rfl) ?_
                  refine snil ?_
                  refine pnm ?_
                  refine sjq (fun (s560 : (List M_retrospectref16_Word)) => [(0, str x0), (2, sli 3 (List.map L_retrospectref16_Word ([] : List M_retrospectref16_Word))), (3, i64 (0 : Int)), (4, .own 100), (5, bl s517), (6, i64 s407.2.2)]) (fun (s560 : (List M_retrospectref16_Word)) => [(100, .sl 108 3 (List.map L_retrospectref16_Word s560))]) ?_ ?_
                  · intro j558 hj559
                    refine sjq (fun (s573 : Bool) => [(0, str x0), (2, sli 3 (List.map L_retrospectref16_Word ([] : List M_retrospectref16_Word))), (3, i64 (0 : Int)), (4, .own 100), (5, bl s517), (6, i64 s407.2.2), (7, u8 y510), (8, i64 (s407.1.length : Int)), (75, bl s573)]) (fun (s573 : Bool) => [(100, .sl 108 3 (List.map L_retrospectref16_Word s407.1))]) ?_ ?_
                    · intro j571 hj572
                      refine sif (fun hb574 => ?_) (fun hb574 => ?_)
                      · refine bd fun y575 h576 => ?_
                        refine bd fun y577 h578 => ?_
                        refine sif (fun hb579 => ?_) (fun hb579 => ?_)
                        · refine bd fun y580 h581 => ?_
                          refine bd fun r582 h583 => ?_
                          refine sdraw [⟨[8], [], [(46, i64 (s407.1.length : Int))], []⟩, ⟨[46], [], [(47, bl (decide ((0 : Int) < (s407.1.length : Int))))], []⟩, ⟨[47], [], [(48, bl true)], []⟩, ⟨[48, 4], [], [(49, .own 100)], []⟩, ⟨[48, 8], [], [(50, i64 (s407.1.length : Int))], []⟩, ⟨[48, 50], [], [(51, i64 (wrap64 ((s407.1.length : Int) - (1 : Int))))], []⟩, ⟨[48, 49, 51], [100], [(52, .ptr 100 (Int.toNat (wrap64 ((s407.1.length : Int) - (1 : Int))) * 3))], []⟩, ⟨[48, 52], [], [(53, .ptr 100 ((Int.toNat (wrap64 ((s407.1.length : Int) - (1 : Int))) * 3) + 2))], []⟩, ⟨[48, 53], [100], [(54, i64 y575.At)], []⟩, ⟨[48, 4], [], [(55, .own 100)], []⟩, ⟨[48, 8], [], [(56, i64 (s407.1.length : Int))], []⟩, ⟨[48, 56], [], [(57, i64 (wrap64 ((s407.1.length : Int) - (1 : Int))))], []⟩, ⟨[48, 55, 57], [100], [(58, .ptr 100 (Int.toNat (wrap64 ((s407.1.length : Int) - (1 : Int))) * 3))], []⟩, ⟨[48, 58], [], [(59, .ptr 100 ((Int.toNat (wrap64 ((s407.1.length : Int) - (1 : Int))) * 3) + 1))], []⟩, ⟨[48, 59], [100], [(60, str y577.Text)], []⟩, ⟨[48, 60], [], [(61, i64 (y577.Text.length : Int))], []⟩, ⟨[48, 54, 61], [], [(62, i64 (wrap64 (y575.At + (y577.Text.length : Int))))], []⟩, ⟨[48, 6], [], [(63, i64 s407.2.2)], []⟩, ⟨[48, 62, 63], [], [(64, bl (decide ((wrap64 (y575.At + (y577.Text.length : Int))) = s407.2.2)))], []⟩, ⟨[48, 64], [], [(65, bl (decide ((wrap64 (y575.At + (y577.Text.length : Int))) = s407.2.2)))], []⟩, ⟨[65], [], [(66, bl true)], []⟩, ⟨[66, 4], [], [(67, .own 100)], []⟩, ⟨[66, 8], [], [(68, i64 (s407.1.length : Int))], []⟩, ⟨[66, 68], [], [(69, i64 (wrap64 ((s407.1.length : Int) - (1 : Int))))], []⟩, ⟨[66, 67, 69], [100], [(70, .ptr 100 (Int.toNat (wrap64 ((s407.1.length : Int) - (1 : Int))) * 3))], []⟩, ⟨[66, 70], [], [(71, .ptr 100 ((Int.toNat (wrap64 ((s407.1.length : Int) - (1 : Int))) * 3) + 0))], []⟩, ⟨[66, 71], [100], [(72, i64 y580.Kind)], []⟩, ⟨[66, 7], [], [(73, u8 y510)], []⟩, ⟨[66, 72, 73], [], [(74, bl r582)], []⟩, ⟨[66, 74], [], [(75, bl r582)], []⟩] fol (by kernel_rfl) ⟨fun st mm ⟨a8, _⟩ _ => og (mv rfl (a8.trans rfl)), fun st mm ⟨a46, _⟩ _ => og (gtI rfl (a46.trans rfl) (kI (x := 0) rfl)), fun st mm ⟨a47, _⟩ _ => og (okb hb574 (mv rfl (a47.trans rfl))), fun st mm ⟨a48, a4, _⟩ _ => ogG 48 rfl (a48.trans rfl) (mv rfl (a4.trans rfl)), fun st mm ⟨a48, a8, _⟩ _ => ogG 48 rfl (a48.trans rfl) (mv rfl (a8.trans rfl)), fun st mm ⟨a48, a50, _⟩ _ => ogG 48 rfl (a48.trans rfl) (subI rfl (a50.trans rfl) (kI (x := 1) rfl)), fun st mm ⟨a48, a49, a51, _⟩ ⟨g100, _⟩ => ogG 48 rfl (a48.trans rfl) (ixO (f := L_retrospectref16_Word) (g100.trans rfl) Tryd.underlying122 ti_108 h576 rfl (a49.trans rfl) (a51.trans rfl)), fun st mm ⟨a48, a52, _⟩ _ => ogG 48 rfl (a48.trans rfl) (faP (id := 100) (off := (Int.toNat (wrap64 ((s407.1.length : Int) - (1 : Int))) * 3)) (fo := 2) fd_108_2 rfl (a52.trans rfl)), fun st mm ⟨a48, a53, _⟩ ⟨g100, _⟩ => ogG 48 rfl (a48.trans rfl) (ldO (f := L_retrospectref16_Word) [2] (g100.trans rfl) (getI_ix h576) (by exact rfl) (by exact rfl) sh_3 (by exact rfl) (by exact rfl) rfl (a53.trans rfl)), fun st mm ⟨a48, a4, _⟩ _ => ogG 48 rfl (a48.trans rfl) (mv rfl (a4.trans rfl)), fun st mm ⟨a48, a8, _⟩ _ => ogG 48 rfl (a48.trans rfl) (mv rfl (a8.trans rfl)), fun st mm ⟨a48, a56, _⟩ _ => ogG 48 rfl (a48.trans rfl) (subI rfl (a56.trans rfl) (kI (x := 1) rfl)), fun st mm ⟨a48, a55, a57, _⟩ ⟨g100, _⟩ => ogG 48 rfl (a48.trans rfl) (ixO (f := L_retrospectref16_Word) (g100.trans rfl) Tryd.underlying122 ti_108 h578 rfl (a55.trans rfl) (a57.trans rfl)), fun st mm ⟨a48, a58, _⟩ _ => ogG 48 rfl (a48.trans rfl) (faP (id := 100) (off := (Int.toNat (wrap64 ((s407.1.length : Int) - (1 : Int))) * 3)) (fo := 1) fd_108_1 rfl (a58.trans rfl)), fun st mm ⟨a48, a59, _⟩ ⟨g100, _⟩ => ogG 48 rfl (a48.trans rfl) (ldO (f := L_retrospectref16_Word) [1] (g100.trans rfl) (getI_ix h578) (by exact rfl) (by exact rfl) sh_9 (by exact rfl) (by exact rfl) rfl (a59.trans rfl)), fun st mm ⟨a48, a60, _⟩ _ => ogG 48 rfl (a48.trans rfl) (lenS Tryd.underlying9 rfl (a60.trans rfl)), fun st mm ⟨a48, a54, a61, _⟩ _ => ogG 48 rfl (a48.trans rfl) (addI rfl (a54.trans rfl) (a61.trans rfl)), fun st mm ⟨a48, a6, _⟩ _ => ogG 48 rfl (a48.trans rfl) (mv rfl (a6.trans rfl)), fun st mm ⟨a48, a62, a63, _⟩ _ => ogG 48 rfl (a48.trans rfl) (eqI rfl (a62.trans rfl) (a63.trans rfl)), fun st mm ⟨a48, a64, _⟩ _ => og (pickT rfl (a48.trans rfl) (a64.trans rfl)), fun st mm ⟨a65, _⟩ _ => og (okb hb579 (mv rfl (a65.trans rfl))), fun st mm ⟨a66, a4, _⟩ _ => ogG 66 rfl (a66.trans rfl) (mv rfl (a4.trans rfl)), fun st mm ⟨a66, a8, _⟩ _ => ogG 66 rfl (a66.trans rfl) (mv rfl (a8.trans rfl)), fun st mm ⟨a66, a68, _⟩ _ => ogG 66 rfl (a66.trans rfl) (subI rfl (a68.trans rfl) (kI (x := 1) rfl)), fun st mm ⟨a66, a67, a69, _⟩ ⟨g100, _⟩ => ogG 66 rfl (a66.trans rfl) (ixO (f := L_retrospectref16_Word) (g100.trans rfl) Tryd.underlying122 ti_108 h581 rfl (a67.trans rfl) (a69.trans rfl)), fun st mm ⟨a66, a70, _⟩ _ => ogG 66 rfl (a66.trans rfl) (faP (id := 100) (off := (Int.toNat (wrap64 ((s407.1.length : Int) - (1 : Int))) * 3)) (fo := 0) fd_108_0 rfl (a70.trans rfl)), fun st mm ⟨a66, a71, _⟩ ⟨g100, _⟩ => ogG 66 rfl (a66.trans rfl) (ldO (f := L_retrospectref16_Word) [0] (g100.trans rfl) (getI_ix h581) (by exact rfl) (by exact rfl) sh_3 (by exact rfl) (by exact rfl) rfl (a71.trans rfl)), fun st mm ⟨a66, a7, _⟩ _ => ogG 66 rfl (a66.trans rfl) (mv rfl (a7.trans rfl)), fun st mm ⟨a66, a72, a73, _⟩ _ => ogG 66 rfl (a66.trans rfl) (call0 (c_retrospectref16_more _ h583) ⟨⟨_, (a72.trans rfl), rn_id if_i64⟩, ⟨_, (a73.trans rfl), rn_id if_u8⟩, trivial⟩ (if_bl) rfl), fun st mm ⟨a66, a74, _⟩ _ => og (pickT rfl (a66.trans rfl) (a74.trans rfl)), trivial⟩ ?_
                          refine pnm ?_
                          exact sj (hj572 _) (entR [(100, 100)] rfl (keepS hγ trivial) ⟨⟨_, rfl⟩, trivial⟩ ⟨⟨_, _, rfl, rfl, rci (rc_sl (ifs_map (f := L_retrospectref16_Word) (fun _ => if_L_retrospectref16_Word) s407.1))⟩, trivial⟩ ⟨⟨_, rfl, rn_id if_str⟩, ⟨_, rfl, rn_id if_sli⟩, ⟨_, rfl, rn_id if_i64⟩, ⟨_, rfl, rn_own rfl⟩, ⟨_, rfl, rn_id if_bl⟩, ⟨_, rfl, rn_id if_i64⟩, ⟨_, rfl, rn_id if_u8⟩, ⟨_, rfl, rn_id if_i64⟩, ⟨_, rfl, rn_id if_bl⟩, trivial⟩)
                        · refine sdraw [⟨[8], [], [(46, i64 (s407.1.length : Int))], []⟩, ⟨[46], [], [(47, bl (decide ((0 : Int) < (s407.1.length : Int))))], []⟩, ⟨[47], [], [(48, bl true)], []⟩, ⟨[48, 4], [], [(49, .own 100)], []⟩, ⟨[48, 8], [], [(50, i64 (s407.1.length : Int))], []⟩, ⟨[48, 50], [], [(51, i64 (wrap64 ((s407.1.length : Int) - (1 : Int))))], []⟩, ⟨[48, 49, 51], [100], [(52, .ptr 100 (Int.toNat (wrap64 ((s407.1.length : Int) - (1 : Int))) * 3))], []⟩, ⟨[48, 52], [], [(53, .ptr 100 ((Int.toNat (wrap64 ((s407.1.length : Int) - (1 : Int))) * 3) + 2))], []⟩, ⟨[48, 53], [100], [(54, i64 y575.At)], []⟩, ⟨[48, 4], [], [(55, .own 100)], []⟩, ⟨[48, 8], [], [(56, i64 (s407.1.length : Int))], []⟩, ⟨[48, 56], [], [(57, i64 (wrap64 ((s407.1.length : Int) - (1 : Int))))], []⟩, ⟨[48, 55, 57], [100], [(58, .ptr 100 (Int.toNat (wrap64 ((s407.1.length : Int) - (1 : Int))) * 3))], []⟩, ⟨[48, 58], [], [(59, .ptr 100 ((Int.toNat (wrap64 ((s407.1.length : Int) - (1 : Int))) * 3) + 1))], []⟩, ⟨[48, 59], [100], [(60, str y577.Text)], []⟩, ⟨[48, 60], [], [(61, i64 (y577.Text.length : Int))], []⟩, ⟨[48, 54, 61], [], [(62, i64 (wrap64 (y575.At + (y577.Text.length : Int))))], []⟩, ⟨[48, 6], [], [(63, i64 s407.2.2)], []⟩, ⟨[48, 62, 63], [], [(64, bl (decide ((wrap64 (y575.At + (y577.Text.length : Int))) = s407.2.2)))], []⟩, ⟨[48, 64], [], [(65, bl (decide ((wrap64 (y575.At + (y577.Text.length : Int))) = s407.2.2)))], []⟩, ⟨[65], [], [(66, bl false)], []⟩, ⟨[66], [], [(67, .tup [])], []⟩, ⟨[66], [], [(68, .tup [])], []⟩, ⟨[66], [], [(69, .tup [])], []⟩, ⟨[66], [], [(70, .tup [])], []⟩, ⟨[66], [], [(71, .tup [])], []⟩, ⟨[66], [], [(72, .tup [])], []⟩, ⟨[66], [], [(73, .tup [])], []⟩, ⟨[66], [], [(74, .tup [])], []⟩, ⟨[66], [], [(75, bl false)], []⟩] fol (by kernel_rfl) ⟨fun st mm ⟨a8, _⟩ _ => og (mv rfl (a8.trans rfl)), fun st mm ⟨a46, _⟩ _ => og (gtI rfl (a46.trans rfl) (kI (x := 0) rfl)), fun st mm ⟨a47, _⟩ _ => og (okb hb574 (mv rfl (a47.trans rfl))), fun st mm ⟨a48, a4, _⟩ _ => ogG 48 rfl (a48.trans rfl) (mv rfl (a4.trans rfl)), fun st mm ⟨a48, a8, _⟩ _ => ogG 48 rfl (a48.trans rfl) (mv rfl (a8.trans rfl)), fun st mm ⟨a48, a50, _⟩ _ => ogG 48 rfl (a48.trans rfl) (subI rfl (a50.trans rfl) (kI (x := 1) rfl)), fun st mm ⟨a48, a49, a51, _⟩ ⟨g100, _⟩ => ogG 48 rfl (a48.trans rfl) (ixO (f := L_retrospectref16_Word) (g100.trans rfl) Tryd.underlying122 ti_108 h576 rfl (a49.trans rfl) (a51.trans rfl)), fun st mm ⟨a48, a52, _⟩ _ => ogG 48 rfl (a48.trans rfl) (faP (id := 100) (off := (Int.toNat (wrap64 ((s407.1.length : Int) - (1 : Int))) * 3)) (fo := 2) fd_108_2 rfl (a52.trans rfl)), fun st mm ⟨a48, a53, _⟩ ⟨g100, _⟩ => ogG 48 rfl (a48.trans rfl) (ldO (f := L_retrospectref16_Word) [2] (g100.trans rfl) (getI_ix h576) (by exact rfl) (by exact rfl) sh_3 (by exact rfl) (by exact rfl) rfl (a53.trans rfl)), fun st mm ⟨a48, a4, _⟩ _ => ogG 48 rfl (a48.trans rfl) (mv rfl (a4.trans rfl)), fun st mm ⟨a48, a8, _⟩ _ => ogG 48 rfl (a48.trans rfl) (mv rfl (a8.trans rfl)), fun st mm ⟨a48, a56, _⟩ _ => ogG 48 rfl (a48.trans rfl) (subI rfl (a56.trans rfl) (kI (x := 1) rfl)), fun st mm ⟨a48, a55, a57, _⟩ ⟨g100, _⟩ => ogG 48 rfl (a48.trans rfl) (ixO (f := L_retrospectref16_Word) (g100.trans rfl) Tryd.underlying122 ti_108 h578 rfl (a55.trans rfl) (a57.trans rfl)), fun st mm ⟨a48, a58, _⟩ _ => ogG 48 rfl (a48.trans rfl) (faP (id := 100) (off := (Int.toNat (wrap64 ((s407.1.length : Int) - (1 : Int))) * 3)) (fo := 1) fd_108_1 rfl (a58.trans rfl)), fun st mm ⟨a48, a59, _⟩ ⟨g100, _⟩ => ogG 48 rfl (a48.trans rfl) (ldO (f := L_retrospectref16_Word) [1] (g100.trans rfl) (getI_ix h578) (by exact rfl) (by exact rfl) sh_9 (by exact rfl) (by exact rfl) rfl (a59.trans rfl)), fun st mm ⟨a48, a60, _⟩ _ => ogG 48 rfl (a48.trans rfl) (lenS Tryd.underlying9 rfl (a60.trans rfl)), fun st mm ⟨a48, a54, a61, _⟩ _ => ogG 48 rfl (a48.trans rfl) (addI rfl (a54.trans rfl) (a61.trans rfl)), fun st mm ⟨a48, a6, _⟩ _ => ogG 48 rfl (a48.trans rfl) (mv rfl (a6.trans rfl)), fun st mm ⟨a48, a62, a63, _⟩ _ => ogG 48 rfl (a48.trans rfl) (eqI rfl (a62.trans rfl) (a63.trans rfl)), fun st mm ⟨a48, a64, _⟩ _ => og (pickT rfl (a48.trans rfl) (a64.trans rfl)), fun st mm ⟨a65, _⟩ _ => og (okb hb579 (mv rfl (a65.trans rfl))), fun st mm ⟨a66, _⟩ _ => ogB 66 rfl (a66.trans rfl) rfl, fun st mm ⟨a66, _⟩ _ => ogB 66 rfl (a66.trans rfl) rfl, fun st mm ⟨a66, _⟩ _ => ogB 66 rfl (a66.trans rfl) rfl, fun st mm ⟨a66, _⟩ _ => ogB 66 rfl (a66.trans rfl) rfl, fun st mm ⟨a66, _⟩ _ => ogB 66 rfl (a66.trans rfl) rfl, fun st mm ⟨a66, _⟩ _ => ogB 66 rfl (a66.trans rfl) rfl, fun st mm ⟨a66, _⟩ _ => ogB 66 rfl (a66.trans rfl) rfl, fun st mm ⟨a66, _⟩ _ => ogB 66 rfl (a66.trans rfl) rfl, fun st mm ⟨a66, _⟩ _ => og (pickF rfl (a66.trans rfl) kB), trivial⟩ ?_
                          refine pnm ?_
                          exact sj (hj572 _) (entR [(100, 100)] rfl (keepS hγ trivial) ⟨⟨_, rfl⟩, trivial⟩ ⟨⟨_, _, rfl, rfl, rci (rc_sl (ifs_map (f := L_retrospectref16_Word) (fun _ => if_L_retrospectref16_Word) s407.1))⟩, trivial⟩ ⟨⟨_, rfl, rn_id if_str⟩, ⟨_, rfl, rn_id if_sli⟩, ⟨_, rfl, rn_id if_i64⟩, ⟨_, rfl, rn_own rfl⟩, ⟨_, rfl, rn_id if_bl⟩, ⟨_, rfl, rn_id if_i64⟩, ⟨_, rfl, rn_id if_u8⟩, ⟨_, rfl, rn_id if_i64⟩, ⟨_, rfl, rn_id if_bl⟩, trivial⟩)
                      · refine sdraw [⟨[8], [], [(46, i64 (s407.1.length : Int))], []⟩, ⟨[46], [], [(47, bl (decide ((0 : Int) < (s407.1.length : Int))))], []⟩, ⟨[47], [], [(48, bl false)], []⟩, ⟨[48], [], [(49, .tup [])], []⟩, ⟨[48], [], [(50, .tup [])], []⟩, ⟨[48], [], [(51, .tup [])], []⟩, ⟨[48], [], [(52, .tup [])], []⟩, ⟨[48], [], [(53, .tup [])], []⟩, ⟨[48], [], [(54, .tup [])], []⟩, ⟨[48], [], [(55, .tup [])], []⟩, ⟨[48], [], [(56, .tup [])], []⟩, ⟨[48], [], [(57, .tup [])], []⟩, ⟨[48], [], [(58, .tup [])], []⟩, ⟨[48], [], [(59, .tup [])], []⟩, ⟨[48], [], [(60, .tup [])], []⟩, ⟨[48], [], [(61, .tup [])], []⟩, ⟨[48], [], [(62, .tup [])], []⟩, ⟨[48], [], [(63, .tup [])], []⟩, ⟨[48], [], [(64, .tup [])], []⟩, ⟨[48], [], [(65, bl false)], []⟩, ⟨[65], [], [(66, bl false)], []⟩, ⟨[66], [], [(67, .tup [])], []⟩, ⟨[66], [], [(68, .tup [])], []⟩, ⟨[66], [], [(69, .tup [])], []⟩, ⟨[66], [], [(70, .tup [])], []⟩, ⟨[66], [], [(71, .tup [])], []⟩, ⟨[66], [], [(72, .tup [])], []⟩, ⟨[66], [], [(73, .tup [])], []⟩, ⟨[66], [], [(74, .tup [])], []⟩, ⟨[66], [], [(75, bl false)], []⟩] fol (by kernel_rfl) ⟨fun st mm ⟨a8, _⟩ _ => og (mv rfl (a8.trans rfl)), fun st mm ⟨a46, _⟩ _ => og (gtI rfl (a46.trans rfl) (kI (x := 0) rfl)), fun st mm ⟨a47, _⟩ _ => og (okb hb574 (mv rfl (a47.trans rfl))), fun st mm ⟨a48, _⟩ _ => ogB 48 rfl (a48.trans rfl) rfl, fun st mm ⟨a48, _⟩ _ => ogB 48 rfl (a48.trans rfl) rfl, fun st mm ⟨a48, _⟩ _ => ogB 48 rfl (a48.trans rfl) rfl, fun st mm ⟨a48, _⟩ _ => ogB 48 rfl (a48.trans rfl) rfl, fun st mm ⟨a48, _⟩ _ => ogB 48 rfl (a48.trans rfl) rfl, fun st mm ⟨a48, _⟩ _ => ogB 48 rfl (a48.trans rfl) rfl, fun st mm ⟨a48, _⟩ _ => ogB 48 rfl (a48.trans rfl) rfl, fun st mm ⟨a48, _⟩ _ => ogB 48 rfl (a48.trans rfl) rfl, fun st mm ⟨a48, _⟩ _ => ogB 48 rfl (a48.trans rfl) rfl, fun st mm ⟨a48, _⟩ _ => ogB 48 rfl (a48.trans rfl) rfl, fun st mm ⟨a48, _⟩ _ => ogB 48 rfl (a48.trans rfl) rfl, fun st mm ⟨a48, _⟩ _ => ogB 48 rfl (a48.trans rfl) rfl, fun st mm ⟨a48, _⟩ _ => ogB 48 rfl (a48.trans rfl) rfl, fun st mm ⟨a48, _⟩ _ => ogB 48 rfl (a48.trans rfl) rfl, fun st mm ⟨a48, _⟩ _ => ogB 48 rfl (a48.trans rfl) rfl, fun st mm ⟨a48, _⟩ _ => ogB 48 rfl (a48.trans rfl) rfl, fun st mm ⟨a48, _⟩ _ => og (pickF rfl (a48.trans rfl) kB), fun st mm ⟨a65, _⟩ _ => og (mv rfl (a65.trans rfl)), fun st mm ⟨a66, _⟩ _ => ogB 66 rfl (a66.trans rfl) rfl, fun st mm ⟨a66, _⟩ _ => ogB 66 rfl (a66.trans rfl) rfl, fun st mm ⟨a66, _⟩ _ => ogB 66 rfl (a66.trans rfl) rfl, fun st mm ⟨a66, _⟩ _ => ogB 66 rfl (a66.trans rfl) rfl, fun st mm ⟨a66, _⟩ _ => ogB 66 rfl (a66.trans rfl) rfl, fun st mm ⟨a66, _⟩ _ => ogB 66 rfl (a66.trans rfl) rfl, fun st mm ⟨a66, _⟩ _ => ogB 66 rfl (a66.trans rfl) rfl, fun st mm ⟨a66, _⟩ _ => ogB 66 rfl (a66.trans rfl) rfl, fun st mm ⟨a66, _⟩ _ => og (pickF rfl (a66.trans rfl) kB), trivial⟩ ?_
                        refine pnm ?_
                        exact sj (hj572 _) (entR [(100, 100)] rfl (keepS hγ trivial) ⟨⟨_, rfl⟩, trivial⟩ ⟨⟨_, _, rfl, rfl, rci (rc_sl (ifs_map (f := L_retrospectref16_Word) (fun _ => if_L_retrospectref16_Word) s407.1))⟩, trivial⟩ ⟨⟨_, rfl, rn_id if_str⟩, ⟨_, rfl, rn_id if_sli⟩, ⟨_, rfl, rn_id if_i64⟩, ⟨_, rfl, rn_own rfl⟩, ⟨_, rfl, rn_id if_bl⟩, ⟨_, rfl, rn_id if_i64⟩, ⟨_, rfl, rn_id if_u8⟩, ⟨_, rfl, rn_id if_i64⟩, ⟨_, rfl, rn_id if_bl⟩, trivial⟩)
                    · intro s573
                      refine scond rfl ?_ ?_
                      · refine bd fun y584 h585 => ?_
                        refine bd fun y586 h587 => ?_
                        refine bd fun y588 h589 => ?_
                        refine bd fun y590 h591 => ?_
                        refine sdraw [⟨[4], [], [(76, .own 100)], []⟩, ⟨[8], [], [(77, i64 (s407.1.length : Int))], []⟩, ⟨[77], [], [(78, i64 (wrap64 ((s407.1.length : Int) - (1 : Int))))], []⟩, ⟨[76, 78], [100], [(79, .ptr 100 (Int.toNat (wrap64 ((s407.1.length : Int) - (1 : Int))) * 3))], []⟩, ⟨[79], [], [(80, .ptr 100 ((Int.toNat (wrap64 ((s407.1.length : Int) - (1 : Int))) * 3) + 1))], []⟩, ⟨[80], [100], [(81, str y584.Text)], []⟩, ⟨[0], [], [(82, str x0)], []⟩, ⟨[6], [], [(83, i64 s407.2.2)], []⟩, ⟨[6], [], [(84, i64 s407.2.2)], []⟩, ⟨[84], [], [(85, i64 (wrap64 (s407.2.2 + (1 : Int))))], []⟩, ⟨[82, 83, 85], [], [(86, str y586)], []⟩, ⟨[81, 86], [], [(87, str y588)], []⟩, ⟨[76, 78], [100], [(88, .ptr 100 (Int.toNat (wrap64 ((s407.1.length : Int) - (1 : Int))) * 3))], []⟩, ⟨[88], [], [(89, .ptr 100 ((Int.toNat (wrap64 ((s407.1.length : Int) - (1 : Int))) * 3) + 1))], []⟩, ⟨[89, 87], [100], [], [(100, .sl 108 3 (List.map L_retrospectref16_Word (List.set s407.1 (Int.toNat (wrap64 ((s407.1.length : Int) - (1 : Int)))) (⟨y590.Kind, y588, y590.At⟩ : M_retrospectref16_Word))))]⟩] fol (by kernel_rfl) ⟨fun st mm ⟨a4, _⟩ _ => og (mv rfl (a4.trans rfl)), fun st mm ⟨a8, _⟩ _ => og (mv rfl (a8.trans rfl)), fun st mm ⟨a77, _⟩ _ => og (subI rfl (a77.trans rfl) (kI (x := 1) rfl)), fun st mm ⟨a76, a78, _⟩ ⟨g100, _⟩ => og (ixO (f := L_retrospectref16_Word) (g100.trans rfl) Tryd.underlying122 ti_108 h585 rfl (a76.trans rfl) (a78.trans rfl)), fun st mm ⟨a79, _⟩ _ => og (faP (id := 100) (off := (Int.toNat (wrap64 ((s407.1.length : Int) - (1 : Int))) * 3)) (fo := 1) fd_108_1 rfl (a79.trans rfl)), fun st mm ⟨a80, _⟩ ⟨g100, _⟩ => og (ldO (f := L_retrospectref16_Word) [1] (g100.trans rfl) (getI_ix h585) (by exact rfl) (by exact rfl) sh_9 (by exact rfl) (by exact rfl) rfl (a80.trans rfl)), fun st mm ⟨a0, _⟩ _ => og (mv rfl (a0.trans rfl)), fun st mm ⟨a6, _⟩ _ => og (mv rfl (a6.trans rfl)), fun st mm ⟨a6, _⟩ _ => og (mv rfl (a6.trans rfl)), fun st mm ⟨a84, _⟩ _ => og (addI rfl (a84.trans rfl) (kI (x := 1) rfl)), fun st mm ⟨a82, a83, a85, _⟩ _ => og (slS h587 Tryd.underlying9 rfl (a82.trans rfl) (bnd (a83.trans rfl)) (bnd (a85.trans rfl))), fun st mm ⟨a81, a86, _⟩ _ => og (catStr h589 rfl (a81.trans rfl) (a86.trans rfl)), fun st mm ⟨a76, a78, _⟩ ⟨g100, _⟩ => og (ixO (f := L_retrospectref16_Word) (g100.trans rfl) Tryd.underlying122 ti_108 h591 rfl (a76.trans rfl) (a78.trans rfl)), fun st mm ⟨a88, _⟩ _ => og (faP (id := 100) (off := (Int.toNat (wrap64 ((s407.1.length : Int) - (1 : Int))) * 3)) (fo := 1) fd_108_1 rfl (a88.trans rfl)), fun st mm ⟨a89, a87, _⟩ ⟨g100, _⟩ => og (stO (f := L_retrospectref16_Word) (⟨y590.Kind, y588, y590.At⟩ : M_retrospectref16_Word) [1] (g100.trans rfl) (getI_ix h591) (by exact rfl) (by exact rfl) (by exact rfl) (by exact rfl) sh_9 (by exact rfl) (by exact rfl) (by exact rfl) (a89.trans rfl) (a87.trans rfl)), trivial⟩ ?_
                        refine pnm ?_
                        exact sj (hj559 _) (entR [(100, 100)] rfl (keepS hγ trivial) ⟨⟨_, rfl⟩, trivial⟩ ⟨⟨_, _, rfl, rfl, rci (rc_sl (ifs_map (f := L_retrospectref16_Word) (fun _ => if_L_retrospectref16_Word) (List.set s407.1 (Int.toNat (wrap64 ((s407.1.length : Int) - (1 : Int)))) (⟨y590.Kind, y588, y590.At⟩ : M_retrospectref16_Word))))⟩, trivial⟩ ⟨⟨_, rfl, rn_id if_str⟩, ⟨_, rfl, rn_id if_sli⟩, ⟨_, rfl, rn_id if_i64⟩, ⟨_, rfl, rn_own rfl⟩, ⟨_, rfl, rn_id if_bl⟩, ⟨_, rfl, rn_id if_i64⟩, trivial⟩)
                      · refine bd fun r592 h593 => ?_
                        refine bd fun y594 h595 => ?_
                        refine bd fun y596 h597 => ?_
                        refine sdraw [⟨[4], [], [(90, .own 100)], []⟩, ⟨[7], [], [(91, u8 y510)], []⟩, ⟨[91], [], [(92, i64 r592)], []⟩, ⟨[0], [], [(93, str x0)], []⟩, ⟨[6], [], [(94, i64 s407.2.2)], []⟩, ⟨[6], [], [(95, i64 s407.2.2)], []⟩, ⟨[95], [], [(96, i64 (wrap64 (s407.2.2 + (1 : Int))))], []⟩, ⟨[93, 94, 96], [], [(97, str y594)], []⟩, ⟨[6], [], [(98, i64 s407.2.2)], []⟩, ⟨[92, 97, 98], [], [(99, L_retrospectref16_Word (⟨r592, y594, s407.2.2⟩ : M_retrospectref16_Word))], []⟩, ⟨[99], [101], [(100, .own 101)], [(101, .sl 108 3 (List.map L_retrospectref16_Word ([(⟨r592, y594, s407.2.2⟩ : M_retrospectref16_Word)] : List M_retrospectref16_Word)))]⟩, ⟨[90, 100], [100, 101, 102], [(101, .own 102)], [(102, .sl 108 3 (List.map L_retrospectref16_Word y596)), (100, .gone)]⟩, ⟨[101], [], [(4, .own 102)], []⟩] fol (by kernel_rfl) ⟨fun st mm ⟨a4, _⟩ _ => og (mv rfl (a4.trans rfl)), fun st mm ⟨a7, _⟩ _ => og (mv rfl (a7.trans rfl)), fun st mm ⟨a91, _⟩ _ => og (call0 (c_retrospectref16_Kind _ h593) ⟨⟨_, (a91.trans rfl), rn_id if_u8⟩, trivial⟩ (if_i64) rfl), fun st mm ⟨a0, _⟩ _ => og (mv rfl (a0.trans rfl)), fun st mm ⟨a6, _⟩ _ => og (mv rfl (a6.trans rfl)), fun st mm ⟨a6, _⟩ _ => og (mv rfl (a6.trans rfl)), fun st mm ⟨a95, _⟩ _ => og (addI rfl (a95.trans rfl) (kI (x := 1) rfl)), fun st mm ⟨a93, a94, a96, _⟩ _ => og (slS h595 Tryd.underlying9 rfl (a93.trans rfl) (bnd (a94.trans rfl)) (bnd (a96.trans rfl))), fun st mm ⟨a6, _⟩ _ => og (mv rfl (a6.trans rfl)), fun st mm ⟨a92, a97, a98, _⟩ _ => og (bld (l := [i64 r592, str y594, i64 s407.2.2]) pl_108 ti_108 zr_retrospectref16_Word ⟨_, _, _, (a92.trans rfl), rfl, rfl, rfl, (szk (k := 1) rfl rfl), ⟨_, _, _, (a97.trans rfl), rfl, rfl, rfl, (szk (k := 1) rfl rfl), ⟨_, _, _, (a98.trans rfl), rfl, rfl, rfl, (szk (k := 1) rfl rfl), rfl⟩⟩⟩ rfl), fun st mm ⟨a99, _⟩ ⟨g101, _⟩ => og (bsl (y := 101) (ls := List.map L_retrospectref16_Word ([(⟨r592, y594, s407.2.2⟩ : M_retrospectref16_Word)] : List M_retrospectref16_Word)) Tryd.underlying122 ti_108 rfl rfl rfl rfl rfl ⟨rfl, (a99.trans rfl), (by exact rfl), (by exact rfl), trivial⟩ (g101.trans rfl) rfl), fun st mm ⟨a90, a100, _⟩ ⟨g100, g101, g102, _⟩ => og (app (y := 102) (f := L_retrospectref16_Word) h597 (g100.trans rfl) Tryd.underlying122 ti_108 rfl rfl (a90.trans rfl) (a100.trans rfl) (.inr ⟨_, _, rfl, (g101.trans rfl)⟩) (g102.trans rfl) rfl), fun st mm ⟨a101, _⟩ _ => og (asg rfl (a101.trans rfl)), trivial⟩ ?_
                        refine pnm ?_
                        exact sj (hj559 _) (entR [(100, 102)] rfl (keepS hγ trivial) ⟨⟨_, rfl⟩, trivial⟩ ⟨⟨_, _, rfl, rfl, rci (rc_sl (ifs_map (f := L_retrospectref16_Word) (fun _ => if_L_retrospectref16_Word) y596))⟩, trivial⟩ ⟨⟨_, rfl, rn_id if_str⟩, ⟨_, rfl, rn_id if_sli⟩, ⟨_, rfl, rn_id if_i64⟩, ⟨_, rfl, rn_own rfl⟩, ⟨_, rfl, rn_id if_bl⟩, ⟨_, rfl, rn_id if_i64⟩, trivial⟩)
                  · intro s560
                    refine sseq ?_
                    refine sreg ?_
                    refine s1 (mv rfl rfl) ?_
                    refine s1 (mv rfl rfl) ?_
                    refine s1 (lenO (f := L_retrospectref16_Word) Tryd.underlying122 rfl rfl rfl) ?_
                    refine s1 (subI rfl rfl (kI (x := 1) rfl)) ?_
                    refine bd fun y598 h599 => ?_
                    refine s1 (ixO (f := L_retrospectref16_Word) rfl Tryd.underlying122 ti_108 h599 rfl rfl rfl) ?_
                    refine s1 (ldO (f := L_retrospectref16_Word) [] rfl (getI_ix h599) (by exact rfl) (by exact rfl) sh_108 (by exact rfl) (by exact rfl) rfl rfl) ?_
                    refine so (al (y := 103) (ly := L_retrospectref16_Word (⟨0, [], 0⟩ : M_retrospectref16_Word)) ti_108 zr_retrospectref16_Word rfl rfl) ?_
                    refine so (stB2 (ly2 := L_retrospectref16_Word y598) [] (by exact rfl) rfl (by exact rfl) sh_108 (by exact rfl) (by exact rfl) (by exact rfl) rfl (.inr ⟨rfl, rfl, _, _, rfl⟩) rfl) ?_
                    refine snil ?_
                    refine pnm ?_
                    refine sjq (fun (s605 : Bool) => [(0, str x0), (2, sli 3 (List.map L_retrospectref16_Word ([] : List M_retrospectref16_Word))), (3, i64 (0 : Int)), (4, .own 100), (5, bl s517), (6, i64 s407.2.2), (119, bl s605)]) (fun (s605 : Bool) => [(100, .sl 108 3 (List.map L_retrospectref16_Word s560))]) ?_ ?_
                    · intro j603 hj604
                      refine sif (fun hb606 => ?_) (fun hb606 => ?_)
                      · refine sdraw [⟨[9], [103], [(108, .ptr 103 0)], []⟩, ⟨[108], [103], [(109, i64 y598.Kind)], []⟩, ⟨[109], [], [(110, bl (decide (y598.Kind = (0 : Int))))], []⟩, ⟨[110], [], [(111, bl true)], []⟩, ⟨[111], [], [(112, .tup [])], []⟩, ⟨[111], [], [(113, .tup [])], []⟩, ⟨[111], [], [(114, .tup [])], []⟩, ⟨[111], [], [(115, .tup [])], []⟩, ⟨[111], [], [(116, .tup [])], []⟩, ⟨[111], [], [(117, .tup [])], []⟩, ⟨[111], [], [(118, .tup [])], []⟩, ⟨[111], [], [(119, bl true)], []⟩] fol (by kernel_rfl) ⟨fun st mm ⟨a9, _⟩ ⟨g103, _⟩ => og (faO (g103.trans rfl) fd_108_0 rfl (a9.trans rfl)), fun st mm ⟨a108, _⟩ ⟨g103, _⟩ => og (ldB [0] (g103.trans rfl) (by exact rfl) sh_3 (by exact rfl) (by exact rfl) rfl (a108.trans rfl) (.inl rfl)), fun st mm ⟨a109, _⟩ _ => og (eqI rfl (a109.trans rfl) (kI (x := 0) rfl)), fun st mm ⟨a110, _⟩ _ => og (okb hb606 (mv rfl (a110.trans rfl))), fun st mm ⟨a111, _⟩ _ => ogB 111 rfl (a111.trans rfl) rfl, fun st mm ⟨a111, _⟩ _ => ogB 111 rfl (a111.trans rfl) rfl, fun st mm ⟨a111, _⟩ _ => ogB 111 rfl (a111.trans rfl) rfl, fun st mm ⟨a111, _⟩ _ => ogB 111 rfl (a111.trans rfl) rfl, fun st mm ⟨a111, _⟩ _ => ogB 111 rfl (a111.trans rfl) rfl, fun st mm ⟨a111, _⟩ _ => ogB 111 rfl (a111.trans rfl) rfl, fun st mm ⟨a111, _⟩ _ => ogB 111 rfl (a111.trans rfl) rfl, fun st mm ⟨a111, _⟩ _ => og (pickT rfl (a111.trans rfl) kB), trivial⟩ ?_
                        refine pnm ?_
                        exact sj (hj604 _) (entR [(100, 100)] rfl (keepS hγ trivial) ⟨⟨_, rfl⟩, trivial⟩ ⟨⟨_, _, rfl, rfl, rci (rc_sl (ifs_map (f := L_retrospectref16_Word) (fun _ => if_L_retrospectref16_Word) s560))⟩, trivial⟩ ⟨⟨_, rfl, rn_id if_str⟩, ⟨_, rfl, rn_id if_sli⟩, ⟨_, rfl, rn_id if_i64⟩, ⟨_, rfl, rn_own rfl⟩, ⟨_, rfl, rn_id if_bl⟩, ⟨_, rfl, rn_id if_i64⟩, ⟨_, rfl, rn_id if_bl⟩, trivial⟩)
                      · refine bd fun r607 h608 => ?_
                        refine sdraw [⟨[9], [103], [(108, .ptr 103 0)], []⟩, ⟨[108], [103], [(109, i64 y598.Kind)], []⟩, ⟨[109], [], [(110, bl (decide (y598.Kind = (0 : Int))))], []⟩, ⟨[110], [], [(111, bl false)], []⟩, ⟨[111, 9], [103], [(112, .ptr 103 1)], []⟩, ⟨[111, 112], [103], [(113, str y598.Text)], []⟩, ⟨[111, 113], [], [(114, i64 (y598.Text.length : Int))], []⟩, ⟨[111, 9], [103], [(115, .ptr 103 0)], []⟩, ⟨[111, 115], [103], [(116, i64 y598.Kind)], []⟩, ⟨[111, 116], [], [(117, i64 r607)], []⟩, ⟨[111, 114, 117], [], [(118, bl (decide (r607 < (y598.Text.length : Int))))], []⟩, ⟨[111, 118], [], [(119, bl (decide (r607 < (y598.Text.length : Int))))], []⟩] fol (by kernel_rfl) ⟨fun st mm ⟨a9, _⟩ ⟨g103, _⟩ => og (faO (g103.trans rfl) fd_108_0 rfl (a9.trans rfl)), fun st mm ⟨a108, _⟩ ⟨g103, _⟩ => og (ldB [0] (g103.trans rfl) (by exact rfl) sh_3 (by exact rfl) (by exact rfl) rfl (a108.trans rfl) (.inl rfl)), fun st mm ⟨a109, _⟩ _ => og (eqI rfl (a109.trans rfl) (kI (x := 0) rfl)), fun st mm ⟨a110, _⟩ _ => og (okb hb606 (mv rfl (a110.trans rfl))), fun st mm ⟨a111, a9, _⟩ ⟨g103, _⟩ => ogG 111 rfl (a111.trans rfl) (faO (g103.trans rfl) fd_108_1 rfl (a9.trans rfl)), fun st mm ⟨a111, a112, _⟩ ⟨g103, _⟩ => ogG 111 rfl (a111.trans rfl) (ldB [1] (g103.trans rfl) (by exact rfl) sh_9 (by exact rfl) (by exact rfl) rfl (a112.trans rfl) (.inl rfl)), fun st mm ⟨a111, a113, _⟩ _ => ogG 111 rfl (a111.trans rfl) (lenS Tryd.underlying9 rfl (a113.trans rfl)), fun st mm ⟨a111, a9, _⟩ ⟨g103, _⟩ => ogG 111 rfl (a111.trans rfl) (faO (g103.trans rfl) fd_108_0 rfl (a9.trans rfl)), fun st mm ⟨a111, a115, _⟩ ⟨g103, _⟩ => ogG 111 rfl (a111.trans rfl) (ldB [0] (g103.trans rfl) (by exact rfl) sh_3 (by exact rfl) (by exact rfl) rfl (a115.trans rfl) (.inl rfl)), fun st mm ⟨a111, a116, _⟩ _ => ogG 111 rfl (a111.trans rfl) (call0 (c_retrospectref16_Most _ h608) ⟨⟨_, (a116.trans rfl), rn_id if_i64⟩, trivial⟩ (if_i64) rfl), fun st mm ⟨a111, a114, a117, _⟩ _ => ogG 111 rfl (a111.trans rfl) (gtI rfl (a114.trans rfl) (a117.trans rfl)), fun st mm ⟨a111, a118, _⟩ _ => og (pickF rfl (a111.trans rfl) (a118.trans rfl)), trivial⟩ ?_
                        refine pnm ?_
                        exact sj (hj604 _) (entR [(100, 100)] rfl (keepS hγ trivial) ⟨⟨_, rfl⟩, trivial⟩ ⟨⟨_, _, rfl, rfl, rci (rc_sl (ifs_map (f := L_retrospectref16_Word) (fun _ => if_L_retrospectref16_Word) s560))⟩, trivial⟩ ⟨⟨_, rfl, rn_id if_str⟩, ⟨_, rfl, rn_id if_sli⟩, ⟨_, rfl, rn_id if_i64⟩, ⟨_, rfl, rn_own rfl⟩, ⟨_, rfl, rn_id if_bl⟩, ⟨_, rfl, rn_id if_i64⟩, ⟨_, rfl, rn_id if_bl⟩, trivial⟩)
                    · intro s605
                      refine scond rfl ?_ ?_
                      · refine sseq ?_
                        refine sreg ?_
                        refine so (bsl (y := 104) (ls := List.map L_retrospectref16_Word ([] : List M_retrospectref16_Word)) Tryd.underlying122 ti_108 rfl rfl rfl rfl rfl trivial rfl rfl) ?_
                        refine s1 (mv rfl rfl) ?_
                        refine s1 (asg rfl rfl) ?_
                        refine s1 (asg rfl rfl) ?_
                        refine snil ?_
                        refine pnm ?_
                        refine sret ?_
                        refine pbl ?_
                        refine pth ?_
                        refine sout (fun h => by cases h) ?_
                        refine pbl ?_
                        refine pth ?_
                        refine frz (id := 104) [(2, sli 3 (List.map L_retrospectref16_Word ([] : List M_retrospectref16_Word))), (120, sli 3 (List.map L_retrospectref16_Word ([] : List M_retrospectref16_Word)))] [] rfl (ifs_map (f := L_retrospectref16_Word) (fun _ => if_L_retrospectref16_Word) ([] : List M_retrospectref16_Word)) ⟨⟨_, rfl, fz_own⟩, ⟨_, rfl, fz_own⟩, trivial⟩ trivial ?_
                        exact ret [] [.tmp 2, .tmp 3] [_, _] [_, _] .ret hγ (.inl rfl) rfl ⟨rfl, rfl, trivial⟩ rfl trivial trivial trivial (rns_cons (rn_id if_sli) (rns_cons (rn_id if_i64) (rns_nil))) rfl
                      · refine sskip ?_
                        refine pbn ?_
                        refine pnm ?_
                        exact sj (hj508 _) (entR [(100, 100)] rfl (keepS hγ trivial) ⟨⟨_, rfl⟩, trivial⟩ ⟨⟨_, _, rfl, rfl, rci (rc_sl (ifs_map (f := L_retrospectref16_Word) (fun _ => if_L_retrospectref16_Word) s560))⟩, trivial⟩ ⟨⟨_, rfl, rn_id if_str⟩, ⟨_, rfl, rn_id if_sli⟩, ⟨_, rfl, rn_id if_i64⟩, ⟨_, rfl, rn_own rfl⟩, ⟨_, rfl, rn_id if_bl⟩, ⟨_, rfl, rn_id if_i64⟩, trivial⟩)
        · intro s509
          refine sreg ?_
          refine s1 (mv rfl rfl) ?_
          refine s1 (addI rfl rfl (kI (x := 1) rfl)) ?_
          refine s1 (asg rfl rfl) ?_
          refine snil ?_
          exact sgo (entR [(100, 100)] rfl (keepS hγ trivial) ⟨⟨_, rfl⟩, trivial⟩ ⟨⟨_, _, rfl, rfl, rci (rc_sl (ifs_map (f := L_retrospectref16_Word) (fun _ => if_L_retrospectref16_Word) s509.1))⟩, trivial⟩ ⟨⟨_, rfl, rn_id if_str⟩, ⟨_, rfl, rn_id if_sli⟩, ⟨_, rfl, rn_id if_i64⟩, ⟨_, rfl, rn_own rfl⟩, ⟨_, rfl, rn_id if_bl⟩, ⟨_, rfl, rn_id if_i64⟩, trivial⟩)
      · refine sexit ?_
        refine ptx ?_
        exact sout (fun h => by cases h) (sj (hj406 _) (entR [(100, 100)] rfl (keepS hγ trivial) ⟨⟨_, rfl⟩, trivial⟩ ⟨⟨_, _, rfl, rfl, rci (rc_sl (ifs_map (f := L_retrospectref16_Word) (fun _ => if_L_retrospectref16_Word) s407.1))⟩, trivial⟩ ⟨⟨_, rfl, rn_id if_sli⟩, ⟨_, rfl, rn_id if_i64⟩, ⟨_, rfl, rn_own rfl⟩, trivial⟩))
    · intro t405
      refine slpk ?_
      refine sx ?_
      refine pnm ?_
      refine sseq ?_
      refine sreg ?_
      refine s1 (mv rfl rfl) ?_
      refine s1 (asg rfl rfl) ?_
      refine s1 (asg rfl (kI (x := (-1)) rfl)) ?_
      refine snil ?_
      refine pnm ?_
      refine sret ?_
      refine frz (id := 100) [(2, sli 3 (List.map L_retrospectref16_Word t405)), (4, sli 3 (List.map L_retrospectref16_Word t405)), (122, sli 3 (List.map L_retrospectref16_Word t405))] [] rfl (ifs_map (f := L_retrospectref16_Word) (fun _ => if_L_retrospectref16_Word) t405) ⟨⟨_, rfl, fz_own⟩, ⟨_, rfl, fz_own⟩, ⟨_, rfl, fz_own⟩, trivial⟩ trivial ?_
      exact ret [] [.tmp 2, .tmp 3] [_, _] [_, _] .ret hγ (.inl rfl) rfl ⟨rfl, rfl, trivial⟩ rfl trivial trivial trivial (rns_cons (rn_id if_sli) (rns_cons (rn_id if_i64) (rns_nil))) rfl
theorem c_retrospectref16_Right {n : Nat} {x0 : M_retrospectref16_Word} : ∀ r, m_retrospectref16_Right n x0 = some r → FnOk Tryd.prog 44 [L_retrospectref16_Word x0] [] (bl r) [] := by
  unfold m_retrospectref16_Right
  refine fn_of_sq (res := fun (r : Bool) => bl r) (mo := fun (r : Bool) => []) Tryd.func44 rfl rfl (by kernel_rfl) rfl ?_
  intro w S0 γ hγ
  refine sseq ?_
  refine sreg ?_
  refine so (box (y := 100) (by exact rfl) rfl rfl rfl) ?_
  refine s1 (asg rfl kB) ?_
  refine snil ?_
  refine pnm ?_
  refine sseq ?_
  refine sreg ?_
  refine s1 (faO rfl fd_108_1 rfl rfl) ?_
  refine s1 (ldB [1] rfl (by exact rfl) sh_9 (by exact rfl) (by exact rfl) rfl rfl (.inl rfl)) ?_
  refine bd fun r1 h2 => ?_
  refine s1 (call0 (c_retrospectref16_Scan _ h2) ⟨⟨_, rfl, rn_id if_str⟩, trivial⟩ (if_tup (ifs_cons if_sli (ifs_cons if_i64 (ifs_nil)))) rfl) ?_
  refine s1 (mv rfl rfl) ?_
  refine s1 (ext (by exact rfl) rfl rfl) ?_
  refine s1 (ext (by exact rfl) rfl rfl) ?_
  refine s1 (asg rfl rfl) ?_
  refine s1 (asg rfl rfl) ?_
  refine snil ?_
  refine pnm ?_
  refine sjq (fun (s12 : Bool) => [(2, bl s12)]) (fun (s12 : Bool) => []) ?_ ?_
  · intro j10 hj11
    refine sif (fun hb13 => ?_) (fun hb13 => ?_)
    · refine sif (fun hb14 => ?_) (fun hb14 => ?_)
      · refine bd fun y15 h16 => ?_
        refine sif (fun hb17 => ?_) (fun hb17 => ?_)
        · refine bd fun y18 h19 => ?_
          refine sdraw [⟨[4], [], [(11, i64 r1.2)], []⟩, ⟨[11], [], [(12, bl (decide (r1.2 < (0 : Int))))], []⟩, ⟨[12], [], [(13, bl true)], []⟩, ⟨[13, 3], [], [(14, sli 3 (List.map L_retrospectref16_Word r1.1))], []⟩, ⟨[13, 14], [], [(15, i64 (r1.1.length : Int))], []⟩, ⟨[13, 15], [], [(16, bl (decide ((r1.1.length : Int) = (1 : Int))))], []⟩, ⟨[13, 16], [], [(17, bl (decide ((r1.1.length : Int) = (1 : Int))))], []⟩, ⟨[17], [], [(18, bl true)], []⟩, ⟨[18, 3], [], [(19, sli 3 (List.map L_retrospectref16_Word r1.1))], []⟩, ⟨[18, 19], [], [(20, .ref (L_retrospectref16_Word y15))], []⟩, ⟨[18, 20], [], [(21, .ref (i64 y15.Kind))], []⟩, ⟨[18, 21], [], [(22, i64 y15.Kind)], []⟩, ⟨[18, 1], [100], [(23, .ptr 100 0)], []⟩, ⟨[18, 23], [100], [(24, i64 x0.Kind)], []⟩, ⟨[18, 22, 24], [], [(25, bl (decide (y15.Kind = x0.Kind)))], []⟩, ⟨[18, 25], [], [(26, bl (decide (y15.Kind = x0.Kind)))], []⟩, ⟨[26], [], [(27, bl true)], []⟩, ⟨[27, 3], [], [(28, sli 3 (List.map L_retrospectref16_Word r1.1))], []⟩, ⟨[27, 28], [], [(29, .ref (L_retrospectref16_Word y18))], []⟩, ⟨[27, 29], [], [(30, .ref (str y18.Text))], []⟩, ⟨[27, 30], [], [(31, str y18.Text)], []⟩, ⟨[27, 1], [100], [(32, .ptr 100 1)], []⟩, ⟨[27, 32], [100], [(33, str x0.Text)], []⟩, ⟨[27, 31, 33], [], [(34, bl (decide (y18.Text = x0.Text)))], []⟩, ⟨[27, 34], [], [(35, bl (decide (y18.Text = x0.Text)))], []⟩, ⟨[35], [], [(2, bl (decide (y18.Text = x0.Text)))], []⟩] fol (by kernel_rfl) ⟨fun st mm ⟨a4, _⟩ _ => og (mv rfl (a4.trans rfl)), fun st mm ⟨a11, _⟩ _ => og (ltI rfl (a11.trans rfl) (kI (x := 0) rfl)), fun st mm ⟨a12, _⟩ _ => og (okb hb13 (mv rfl (a12.trans rfl))), fun st mm ⟨a13, a3, _⟩ _ => ogG 13 rfl (a13.trans rfl) (mv rfl (a3.trans rfl)), fun st mm ⟨a13, a14, _⟩ _ => ogG 13 rfl (a13.trans rfl) (lenL (f := L_retrospectref16_Word) Tryd.underlying122 rfl (a14.trans rfl)), fun st mm ⟨a13, a15, _⟩ _ => ogG 13 rfl (a13.trans rfl) (eqI rfl (a15.trans rfl) (kI (x := 1) rfl)), fun st mm ⟨a13, a16, _⟩ _ => og (pickT rfl (a13.trans rfl) (a16.trans rfl)), fun st mm ⟨a17, _⟩ _ => og (okb hb14 (mv rfl (a17.trans rfl))), fun st mm ⟨a18, a3, _⟩ _ => ogG 18 rfl (a18.trans rfl) (mv rfl (a3.trans rfl)), fun st mm ⟨a18, a19, _⟩ _ => ogG 18 rfl (a18.trans rfl) (ixR (f := L_retrospectref16_Word) Tryd.underlying122 ti_108 h16 rfl (a19.trans rfl) (kI (x := 0) rfl)), fun st mm ⟨a18, a20, _⟩ _ => ogG 18 rfl (a18.trans rfl) (faR fd_108_0 (by exact rfl) rfl (a20.trans rfl)), fun st mm ⟨a18, a21, _⟩ _ => ogG 18 rfl (a18.trans rfl) (ldR sh_3 (by exact rfl) (by exact rfl) rfl (a21.trans rfl)), fun st mm ⟨a18, a1, _⟩ ⟨g100, _⟩ => ogG 18 rfl (a18.trans rfl) (faO (g100.trans rfl) fd_108_0 rfl (a1.trans rfl)), fun st mm ⟨a18, a23, _⟩ ⟨g100, _⟩ => ogG 18 rfl (a18.trans rfl) (ldB [0] (g100.trans rfl) (by exact rfl) sh_3 (by exact rfl) (by exact rfl) rfl (a23.trans rfl) (.inl rfl)), fun st mm ⟨a18, a22, a24, _⟩ _ => ogG 18 rfl (a18.trans rfl) (eqI rfl (a22.trans rfl) (a24.trans rfl)), fun st mm ⟨a18, a25, _⟩ _ => og (pickT rfl (a18.trans rfl) (a25.trans rfl)), fun st mm ⟨a26, _⟩ _ => og (okb hb17 (mv rfl (a26.trans rfl))), fun st mm ⟨a27, a3, _⟩ _ => ogG 27 rfl (a27.trans rfl) (mv rfl (a3.trans rfl)), fun st mm ⟨a27, a28, _⟩ _ => ogG 27 rfl (a27.trans rfl) (ixR (f := L_retrospectref16_Word) Tryd.underlying122 ti_108 h19 rfl (a28.trans rfl) (kI (x := 0) rfl)), fun st mm ⟨a27, a29, _⟩ _ => ogG 27 rfl (a27.trans rfl) (faR fd_108_1 (by exact rfl) rfl (a29.trans rfl)), fun st mm ⟨a27, a30, _⟩ _ => ogG 27 rfl (a27.trans rfl) (ldR sh_9 (by exact rfl) (by exact rfl) rfl (a30.trans rfl)), fun st mm ⟨a27, a1, _⟩ ⟨g100, _⟩ => ogG 27 rfl (a27.trans rfl) (faO (g100.trans rfl) fd_108_1 rfl (a1.trans rfl)), fun st mm ⟨a27, a32, _⟩ ⟨g100, _⟩ => ogG 27 rfl (a27.trans rfl) (ldB [1] (g100.trans rfl) (by exact rfl) sh_9 (by exact rfl) (by exact rfl) rfl (a32.trans rfl) (.inl rfl)), fun st mm ⟨a27, a31, a33, _⟩ _ => ogG 27 rfl (a27.trans rfl) (eqS rfl (a31.trans rfl) (a33.trans rfl)), fun st mm ⟨a27, a34, _⟩ _ => og (pickT rfl (a27.trans rfl) (a34.trans rfl)), fun st mm ⟨a35, _⟩ _ => og (asg rfl (a35.trans rfl)), trivial⟩ ?_
          refine pnm ?_
          exact sj (hj11 _) (entR [] rfl (keepS hγ trivial) (by exact trivial) (by exact trivial) ⟨⟨_, rfl, rn_id if_bl⟩, trivial⟩)
        · refine sdraw [⟨[4], [], [(11, i64 r1.2)], []⟩, ⟨[11], [], [(12, bl (decide (r1.2 < (0 : Int))))], []⟩, ⟨[12], [], [(13, bl true)], []⟩, ⟨[13, 3], [], [(14, sli 3 (List.map L_retrospectref16_Word r1.1))], []⟩, ⟨[13, 14], [], [(15, i64 (r1.1.length : Int))], []⟩, ⟨[13, 15], [], [(16, bl (decide ((r1.1.length : Int) = (1 : Int))))], []⟩, ⟨[13, 16], [], [(17, bl (decide ((r1.1.length : Int) = (1 : Int))))], []⟩, ⟨[17], [], [(18, bl true)], []⟩, ⟨[18, 3], [], [(19, sli 3 (List.map L_retrospectref16_Word r1.1))], []⟩, ⟨[18, 19], [], [(20, .ref (L_retrospectref16_Word y15))], []⟩, ⟨[18, 20], [], [(21, .ref (i64 y15.Kind))], []⟩, ⟨[18, 21], [], [(22, i64 y15.Kind)], []⟩, ⟨[18, 1], [100], [(23, .ptr 100 0)], []⟩, ⟨[18, 23], [100], [(24, i64 x0.Kind)], []⟩, ⟨[18, 22, 24], [], [(25, bl (decide (y15.Kind = x0.Kind)))], []⟩, ⟨[18, 25], [], [(26, bl (decide (y15.Kind = x0.Kind)))], []⟩, ⟨[26], [], [(27, bl false)], []⟩, ⟨[27], [], [(28, .tup [])], []⟩, ⟨[27], [], [(29, .tup [])], []⟩, ⟨[27], [], [(30, .tup [])], []⟩, ⟨[27], [], [(31, .tup [])], []⟩, ⟨[27], [], [(32, .tup [])], []⟩, ⟨[27], [], [(33, .tup [])], []⟩, ⟨[27], [], [(34, .tup [])], []⟩, ⟨[27], [], [(35, bl false)], []⟩, ⟨[35], [], [(2, bl false)], []⟩] fol (by kernel_rfl) ⟨fun st mm ⟨a4, _⟩ _ => og (mv rfl (a4.trans rfl)), fun st mm ⟨a11, _⟩ _ => og (ltI rfl (a11.trans rfl) (kI (x := 0) rfl)), fun st mm ⟨a12, _⟩ _ => og (okb hb13 (mv rfl (a12.trans rfl))), fun st mm ⟨a13, a3, _⟩ _ => ogG 13 rfl (a13.trans rfl) (mv rfl (a3.trans rfl)), fun st mm ⟨a13, a14, _⟩ _ => ogG 13 rfl (a13.trans rfl) (lenL (f := L_retrospectref16_Word) Tryd.underlying122 rfl (a14.trans rfl)), fun st mm ⟨a13, a15, _⟩ _ => ogG 13 rfl (a13.trans rfl) (eqI rfl (a15.trans rfl) (kI (x := 1) rfl)), fun st mm ⟨a13, a16, _⟩ _ => og (pickT rfl (a13.trans rfl) (a16.trans rfl)), fun st mm ⟨a17, _⟩ _ => og (okb hb14 (mv rfl (a17.trans rfl))), fun st mm ⟨a18, a3, _⟩ _ => ogG 18 rfl (a18.trans rfl) (mv rfl (a3.trans rfl)), fun st mm ⟨a18, a19, _⟩ _ => ogG 18 rfl (a18.trans rfl) (ixR (f := L_retrospectref16_Word) Tryd.underlying122 ti_108 h16 rfl (a19.trans rfl) (kI (x := 0) rfl)), fun st mm ⟨a18, a20, _⟩ _ => ogG 18 rfl (a18.trans rfl) (faR fd_108_0 (by exact rfl) rfl (a20.trans rfl)), fun st mm ⟨a18, a21, _⟩ _ => ogG 18 rfl (a18.trans rfl) (ldR sh_3 (by exact rfl) (by exact rfl) rfl (a21.trans rfl)), fun st mm ⟨a18, a1, _⟩ ⟨g100, _⟩ => ogG 18 rfl (a18.trans rfl) (faO (g100.trans rfl) fd_108_0 rfl (a1.trans rfl)), fun st mm ⟨a18, a23, _⟩ ⟨g100, _⟩ => ogG 18 rfl (a18.trans rfl) (ldB [0] (g100.trans rfl) (by exact rfl) sh_3 (by exact rfl) (by exact rfl) rfl (a23.trans rfl) (.inl rfl)), fun st mm ⟨a18, a22, a24, _⟩ _ => ogG 18 rfl (a18.trans rfl) (eqI rfl (a22.trans rfl) (a24.trans rfl)), fun st mm ⟨a18, a25, _⟩ _ => og (pickT rfl (a18.trans rfl) (a25.trans rfl)), fun st mm ⟨a26, _⟩ _ => og (okb hb17 (mv rfl (a26.trans rfl))), fun st mm ⟨a27, _⟩ _ => ogB 27 rfl (a27.trans rfl) rfl, fun st mm ⟨a27, _⟩ _ => ogB 27 rfl (a27.trans rfl) rfl, fun st mm ⟨a27, _⟩ _ => ogB 27 rfl (a27.trans rfl) rfl, fun st mm ⟨a27, _⟩ _ => ogB 27 rfl (a27.trans rfl) rfl, fun st mm ⟨a27, _⟩ _ => ogB 27 rfl (a27.trans rfl) rfl, fun st mm ⟨a27, _⟩ _ => ogB 27 rfl (a27.trans rfl) rfl, fun st mm ⟨a27, _⟩ _ => ogB 27 rfl (a27.trans rfl) rfl, fun st mm ⟨a27, _⟩ _ => og (pickF rfl (a27.trans rfl) kB), fun st mm ⟨a35, _⟩ _ => og (asg rfl (a35.trans rfl)), trivial⟩ ?_
          refine pnm ?_
          exact sj (hj11 _) (entR [] rfl (keepS hγ trivial) (by exact trivial) (by exact trivial) ⟨⟨_, rfl, rn_id if_bl⟩, trivial⟩)
      · refine sdraw [⟨[4], [], [(11, i64 r1.2)], []⟩, ⟨[11], [], [(12, bl (decide (r1.2 < (0 : Int))))], []⟩, ⟨[12], [], [(13, bl true)], []⟩, ⟨[13, 3], [], [(14, sli 3 (List.map L_retrospectref16_Word r1.1))], []⟩, ⟨[13, 14], [], [(15, i64 (r1.1.length : Int))], []⟩, ⟨[13, 15], [], [(16, bl (decide ((r1.1.length : Int) = (1 : Int))))], []⟩, ⟨[13, 16], [], [(17, bl (decide ((r1.1.length : Int) = (1 : Int))))], []⟩, ⟨[17], [], [(18, bl false)], []⟩, ⟨[18], [], [(19, .tup [])], []⟩, ⟨[18], [], [(20, .tup [])], []⟩, ⟨[18], [], [(21, .tup [])], []⟩, ⟨[18], [], [(22, .tup [])], []⟩, ⟨[18], [], [(23, .tup [])], []⟩, ⟨[18], [], [(24, .tup [])], []⟩, ⟨[18], [], [(25, .tup [])], []⟩, ⟨[18], [], [(26, bl false)], []⟩, ⟨[26], [], [(27, bl false)], []⟩, ⟨[27], [], [(28, .tup [])], []⟩, ⟨[27], [], [(29, .tup [])], []⟩, ⟨[27], [], [(30, .tup [])], []⟩, ⟨[27], [], [(31, .tup [])], []⟩, ⟨[27], [], [(32, .tup [])], []⟩, ⟨[27], [], [(33, .tup [])], []⟩, ⟨[27], [], [(34, .tup [])], []⟩, ⟨[27], [], [(35, bl false)], []⟩, ⟨[35], [], [(2, bl false)], []⟩] fol (by kernel_rfl) ⟨fun st mm ⟨a4, _⟩ _ => og (mv rfl (a4.trans rfl)), fun st mm ⟨a11, _⟩ _ => og (ltI rfl (a11.trans rfl) (kI (x := 0) rfl)), fun st mm ⟨a12, _⟩ _ => og (okb hb13 (mv rfl (a12.trans rfl))), fun st mm ⟨a13, a3, _⟩ _ => ogG 13 rfl (a13.trans rfl) (mv rfl (a3.trans rfl)), fun st mm ⟨a13, a14, _⟩ _ => ogG 13 rfl (a13.trans rfl) (lenL (f := L_retrospectref16_Word) Tryd.underlying122 rfl (a14.trans rfl)), fun st mm ⟨a13, a15, _⟩ _ => ogG 13 rfl (a13.trans rfl) (eqI rfl (a15.trans rfl) (kI (x := 1) rfl)), fun st mm ⟨a13, a16, _⟩ _ => og (pickT rfl (a13.trans rfl) (a16.trans rfl)), fun st mm ⟨a17, _⟩ _ => og (okb hb14 (mv rfl (a17.trans rfl))), fun st mm ⟨a18, _⟩ _ => ogB 18 rfl (a18.trans rfl) rfl, fun st mm ⟨a18, _⟩ _ => ogB 18 rfl (a18.trans rfl) rfl, fun st mm ⟨a18, _⟩ _ => ogB 18 rfl (a18.trans rfl) rfl, fun st mm ⟨a18, _⟩ _ => ogB 18 rfl (a18.trans rfl) rfl, fun st mm ⟨a18, _⟩ _ => ogB 18 rfl (a18.trans rfl) rfl, fun st mm ⟨a18, _⟩ _ => ogB 18 rfl (a18.trans rfl) rfl, fun st mm ⟨a18, _⟩ _ => ogB 18 rfl (a18.trans rfl) rfl, fun st mm ⟨a18, _⟩ _ => og (pickF rfl (a18.trans rfl) kB), fun st mm ⟨a26, _⟩ _ => og (mv rfl (a26.trans rfl)), fun st mm ⟨a27, _⟩ _ => ogB 27 rfl (a27.trans rfl) rfl, fun st mm ⟨a27, _⟩ _ => ogB 27 rfl (a27.trans rfl) rfl, fun st mm ⟨a27, _⟩ _ => ogB 27 rfl (a27.trans rfl) rfl, fun st mm ⟨a27, _⟩ _ => ogB 27 rfl (a27.trans rfl) rfl, fun st mm ⟨a27, _⟩ _ => ogB 27 rfl (a27.trans rfl) rfl, fun st mm ⟨a27, _⟩ _ => ogB 27 rfl (a27.trans rfl) rfl, fun st mm ⟨a27, _⟩ _ => ogB 27 rfl (a27.trans rfl) rfl, fun st mm ⟨a27, _⟩ _ => og (pickF rfl (a27.trans rfl) kB), fun st mm ⟨a35, _⟩ _ => og (asg rfl (a35.trans rfl)), trivial⟩ ?_
        refine pnm ?_
        exact sj (hj11 _) (entR [] rfl (keepS hγ trivial) (by exact trivial) (by exact trivial) ⟨⟨_, rfl, rn_id if_bl⟩, trivial⟩)
    · refine sdraw [⟨[4], [], [(11, i64 r1.2)], []⟩, ⟨[11], [], [(12, bl (decide (r1.2 < (0 : Int))))], []⟩, ⟨[12], [], [(13, bl false)], []⟩, ⟨[13], [], [(14, .tup [])], []⟩, ⟨[13], [], [(15, .tup [])], []⟩, ⟨[13], [], [(16, .tup [])], []⟩, ⟨[13], [], [(17, bl false)], []⟩, ⟨[17], [], [(18, bl false)], []⟩, ⟨[18], [], [(19, .tup [])], []⟩, ⟨[18], [], [(20, .tup [])], []⟩, ⟨[18], [], [(21, .tup [])], []⟩, ⟨[18], [], [(22, .tup [])], []⟩, ⟨[18], [], [(23, .tup [])], []⟩, ⟨[18], [], [(24, .tup [])], []⟩, ⟨[18], [], [(25, .tup [])], []⟩, ⟨[18], [], [(26, bl false)], []⟩, ⟨[26], [], [(27, bl false)], []⟩, ⟨[27], [], [(28, .tup [])], []⟩, ⟨[27], [], [(29, .tup [])], []⟩, ⟨[27], [], [(30, .tup [])], []⟩, ⟨[27], [], [(31, .tup [])], []⟩, ⟨[27], [], [(32, .tup [])], []⟩, ⟨[27], [], [(33, .tup [])], []⟩, ⟨[27], [], [(34, .tup [])], []⟩, ⟨[27], [], [(35, bl false)], []⟩, ⟨[35], [], [(2, bl false)], []⟩] fol (by kernel_rfl) ⟨fun st mm ⟨a4, _⟩ _ => og (mv rfl (a4.trans rfl)), fun st mm ⟨a11, _⟩ _ => og (ltI rfl (a11.trans rfl) (kI (x := 0) rfl)), fun st mm ⟨a12, _⟩ _ => og (okb hb13 (mv rfl (a12.trans rfl))), fun st mm ⟨a13, _⟩ _ => ogB 13 rfl (a13.trans rfl) rfl, fun st mm ⟨a13, _⟩ _ => ogB 13 rfl (a13.trans rfl) rfl, fun st mm ⟨a13, _⟩ _ => ogB 13 rfl (a13.trans rfl) rfl, fun st mm ⟨a13, _⟩ _ => og (pickF rfl (a13.trans rfl) kB), fun st mm ⟨a17, _⟩ _ => og (mv rfl (a17.trans rfl)), fun st mm ⟨a18, _⟩ _ => ogB 18 rfl (a18.trans rfl) rfl, fun st mm ⟨a18, _⟩ _ => ogB 18 rfl (a18.trans rfl) rfl, fun st mm ⟨a18, _⟩ _ => ogB 18 rfl (a18.trans rfl) rfl, fun st mm ⟨a18, _⟩ _ => ogB 18 rfl (a18.trans rfl) rfl, fun st mm ⟨a18, _⟩ _ => ogB 18 rfl (a18.trans rfl) rfl, fun st mm ⟨a18, _⟩ _ => ogB 18 rfl (a18.trans rfl) rfl, fun st mm ⟨a18, _⟩ _ => ogB 18 rfl (a18.trans rfl) rfl, fun st mm ⟨a18, _⟩ _ => og (pickF rfl (a18.trans rfl) kB), fun st mm ⟨a26, _⟩ _ => og (mv rfl (a26.trans rfl)), fun st mm ⟨a27, _⟩ _ => ogB 27 rfl (a27.trans rfl) rfl, fun st mm ⟨a27, _⟩ _ => ogB 27 rfl (a27.trans rfl) rfl, fun st mm ⟨a27, _⟩ _ => ogB 27 rfl (a27.trans rfl) rfl, fun st mm ⟨a27, _⟩ _ => ogB 27 rfl (a27.trans rfl) rfl, fun st mm ⟨a27, _⟩ _ => ogB 27 rfl (a27.trans rfl) rfl, fun st mm ⟨a27, _⟩ _ => ogB 27 rfl (a27.trans rfl) rfl, fun st mm ⟨a27, _⟩ _ => ogB 27 rfl (a27.trans rfl) rfl, fun st mm ⟨a27, _⟩ _ => og (pickF rfl (a27.trans rfl) kB), fun st mm ⟨a35, _⟩ _ => og (asg rfl (a35.trans rfl)), trivial⟩ ?_
      refine pnm ?_
      exact sj (hj11 _) (entR [] rfl (keepS hγ trivial) (by exact trivial) (by exact trivial) ⟨⟨_, rfl, rn_id if_bl⟩, trivial⟩)
  · intro s12
    refine sret ?_
    exact ret [] [.tmp 2] [_] [_] .ret hγ (.inl rfl) rfl ⟨rfl, trivial⟩ rfl trivial trivial trivial (rns_cons (rn_id if_bl) (rns_nil)) rfl
theorem c_retrospectref48_named {n : Nat} {x0 : (List UInt8)} : ∀ r, m_retrospectref48_named n x0 = some r → FnOk Tryd.prog 26 [str x0] [] (bl r) [] := by
  unfold m_retrospectref48_named
  refine fn_of_sq (res := fun (r : Bool) => bl r) (mo := fun (r : Bool) => []) Tryd.func26 rfl rfl (by kernel_rfl) rfl ?_
  intro w S0 γ hγ
  refine sseq ?_
  refine sreg ?_
  refine s1 (asg rfl kB) ?_
  refine snil ?_
  refine pnm ?_
  refine sseq ?_
  refine sreg ?_
  refine s1 (mv rfl rfl) ?_
  refine s1 (bld (l := [i64 (2 : Int), str x0, i64 0]) pl_108 ti_108 zr_retrospectref16_Word ⟨_, _, _, (kI (x := 2) rfl), rfl, rfl, rfl, (szk (k := 1) rfl rfl), ⟨_, _, _, rfl, rfl, rfl, rfl, (szk (k := 1) rfl rfl), rfl⟩⟩ rfl) ?_
  refine bd fun r1 h2 => ?_
  refine s1 (call0 (c_retrospectref16_Right _ h2) ⟨⟨_, rfl, rn_id if_L_retrospectref16_Word⟩, trivial⟩ (if_bl) rfl) ?_
  refine s1 (asg rfl rfl) ?_
  refine snil ?_
  refine pnm ?_
  refine sret ?_
  exact ret [] [.tmp 2] [_] [_] .ret hγ (.inl rfl) rfl ⟨rfl, trivial⟩ rfl trivial trivial trivial (rns_cons (rn_id if_bl) (rns_nil)) rfl
theorem c_retrospectref07_Wrong {n : Nat} {x0 : (List UInt8)} : ∀ r, m_retrospectref07_Wrong n x0 = some r → FnOk Tryd.prog 27 [str x0] [] (i64 r) [] := by
  unfold m_retrospectref07_Wrong
  refine fn_of_sq (res := fun (r : Int) => i64 r) (mo := fun (r : Int) => []) Tryd.func27 rfl rfl (by kernel_rfl) rfl ?_
  intro w S0 γ hγ
  refine sseq ?_
  refine sreg ?_
  refine s1 (asg rfl (kI (x := 0) rfl)) ?_
  refine snil ?_
  refine pnm ?_
  refine sseq ?_
  refine sseq ?_
  refine sreg ?_
  refine s1 (mv rfl rfl) ?_
  refine s1 (eqS rfl rfl (kS (s := []) rfl)) ?_
  refine snil ?_
  refine pnm ?_
  refine scond rfl ?_ ?_
  · refine sseq ?_
    refine sreg ?_
    refine s1 (asg rfl (kI (x := 0) rfl)) ?_
    refine snil ?_
    refine pnm ?_
    refine sret ?_
    refine pth ?_
    exact ret [] [.tmp 2] [_] [_] .ret hγ (.inl rfl) rfl ⟨rfl, trivial⟩ rfl trivial trivial trivial (rns_cons (rn_id if_i64) (rns_nil)) rfl
  · refine sskip ?_
    refine pnm ?_
    refine sseq ?_
    refine sseq ?_
    refine sreg ?_
    refine s1 (asg rfl (kI (x := 0) rfl)) ?_
    refine snil ?_
    refine pnm ?_
    refine sblk ?_
    refine sloopE 0 Lp.go (fun (s27 : Int) => [(0, str x0), (2, i64 (0 : Int)), (3, i64 s27)]) (fun (s27 : Int) => []) (fun (t25 : Unit) => [(2, i64 (0 : Int))]) (fun (t25 : Unit) => []) (entI ⟨rfl, rfl, rfl, trivial⟩ eqm0) ?_ ?_
    · intro hj26 s27
      refine sseq ?_
      refine sseq ?_
      refine sreg ?_
      refine s1 (mv rfl rfl) ?_
      refine s1 (mv rfl rfl) ?_
      refine s1 (lenS Tryd.underlying9 rfl rfl) ?_
      refine s1 (ltI rfl rfl rfl) ?_
      refine snil ?_
      refine pnm ?_
      refine scond rfl ?_ ?_
      · refine sskip ?_
        refine pnm ?_
        refine sseq ?_
        refine sblk ?_
        refine sjq (fun (s34 : Bool) => [(0, str x0), (2, i64 (0 : Int)), (3, i64 s27), (25, bl s34)]) (fun (s34 : Bool) => []) ?_ ?_
        · intro j32 hj33
          refine sreg ?_
          refine s1 (mv rfl rfl) ?_
          refine s1 (mv rfl rfl) ?_
          refine bd fun y35 h36 => ?_
          refine s1 (ixS Tryd.underlying9 h36 rfl rfl rfl) ?_
          refine s1 (ltU .u8 rfl rfl (k8 (x := 48) rfl)) ?_
          refine s1 (mv rfl rfl) ?_
          refine sifd 16 rfl ?_ ?_
          · refine spB 16 rfl rfl rfl ?_
            refine spB 16 rfl rfl rfl ?_
            refine spB 16 rfl rfl rfl ?_
            refine spB 16 rfl rfl rfl ?_
            refine s1 (pickT rfl rfl kB) ?_
            refine s1 (mv rfl rfl) ?_
            refine spB 22 rfl rfl rfl ?_
            refine spB 22 rfl rfl rfl ?_
            refine s1 (pickT rfl rfl kB) ?_
            refine snil ?_
            refine pnm ?_
            exact sj (hj33 _) (entI ⟨rfl, rfl, rfl, rfl, trivial⟩ eqm0)
          · refine sg 16 rfl rfl (mv rfl rfl) ?_
            refine sg 16 rfl rfl (mv rfl rfl) ?_
            refine bd fun y37 h38 => ?_
            refine sg 16 rfl rfl (ixS Tryd.underlying9 h38 rfl rfl rfl) ?_
            refine sg 16 rfl rfl (gtU .u8 rfl rfl (k8 (x := 57) rfl)) ?_
            refine s1 (pickF rfl rfl rfl) ?_
            refine s1 (mv rfl rfl) ?_
            refine sifd 22 rfl ?_ ?_
            · refine spB 22 rfl rfl rfl ?_
              refine spB 22 rfl rfl rfl ?_
              refine s1 (pickT rfl rfl kB) ?_
              refine snil ?_
              refine pnm ?_
              exact sj (hj33 _) (entI ⟨rfl, rfl, rfl, rfl, trivial⟩ eqm0)
            · refine sg 22 rfl rfl (mv rfl rfl) ?_
              refine sg 22 rfl rfl (geI rfl rfl (kI (x := 60) rfl)) ?_
              refine s1 (pickF rfl rfl rfl) ?_
              refine snil ?_
              refine pnm ?_
              exact sj (hj33 _) (entI ⟨rfl, rfl, rfl, rfl, trivial⟩ eqm0)
        · intro s34
          refine scond rfl ?_ ?_
          · refine sseq ?_
            refine sreg ?_
            refine s1 (mv rfl rfl) ?_
            refine s1 (asg rfl rfl) ?_
            refine snil ?_
            refine pnm ?_
            refine sret ?_
            refine pbl ?_
            refine pth ?_
            refine sout (fun h => by cases h) ?_
            refine pbl ?_
            refine pth ?_
            exact ret [] [.tmp 2] [_] [_] .ret hγ (.inl rfl) rfl ⟨rfl, trivial⟩ rfl trivial trivial trivial (rns_cons (rn_id if_i64) (rns_nil)) rfl
          · refine sskip ?_
            refine pbn ?_
            refine pnm ?_
            refine sreg ?_
            refine s1 (mv rfl rfl) ?_
            refine s1 (addI rfl rfl (kI (x := 1) rfl)) ?_
            refine s1 (asg rfl rfl) ?_
            refine snil ?_
            exact sgo (entI ⟨rfl, rfl, rfl, trivial⟩ eqm0)
      · refine sexit ?_
        refine ptx ?_
        exact sout (fun h => by cases h) (sj (hj26 _) (entI ⟨rfl, trivial⟩ eqm0))
    · intro t25
      refine slpk ?_
      refine sx ?_
      refine pnm ?_
      refine sseq ?_
      refine sreg ?_
      refine s1 (asg rfl (kI (x := (-1)) rfl)) ?_
      refine snil ?_
      refine pnm ?_
      refine sret ?_
      exact ret [] [.tmp 2] [_] [_] .ret hγ (.inl rfl) rfl ⟨rfl, trivial⟩ rfl trivial trivial trivial (rns_cons (rn_id if_i64) (rns_nil)) rfl
theorem c_retrospectref07_Trim {n : Nat} {x0 : (List UInt8)} : ∀ r, m_retrospectref07_Trim n x0 = some r → FnOk Tryd.prog 28 [str x0] [] (str r) [] := by
  unfold m_retrospectref07_Trim
  refine fn_of_sq (res := fun (r : (List UInt8)) => str r) (mo := fun (r : (List UInt8)) => []) Tryd.func28 rfl rfl (by kernel_rfl) rfl ?_
  intro w S0 γ hγ
  refine sseq ?_
  refine sreg ?_
  refine s1 (asg rfl (kS (s := []) rfl)) ?_
  refine snil ?_
  refine pnm ?_
  refine sseq ?_
  refine sblk ?_
  refine sloopE 0 (fun t => t) (fun (s23 : (List UInt8)) => [(0, str s23), (2, str ([] : List UInt8))]) (fun (s23 : (List UInt8)) => []) (fun (t21 : (List UInt8)) => [(0, str t21), (2, str ([] : List UInt8))]) (fun (t21 : (List UInt8)) => []) (entI ⟨rfl, rfl, trivial⟩ eqm0) ?_ ?_
  · intro hj22 s23
    refine sseq ?_
    refine sjq (fun (s28 : Bool) => [(0, str s23), (2, str ([] : List UInt8)), (10, bl s28)]) (fun (s28 : Bool) => []) ?_ ?_
    · intro j26 hj27
      refine sreg ?_
      refine s1 (mv rfl rfl) ?_
      refine s1 (lenS Tryd.underlying9 rfl rfl) ?_
      refine s1 (gtI rfl rfl (kI (x := 1) rfl)) ?_
      refine s1 (mv rfl rfl) ?_
      refine sifd 6 rfl ?_ ?_
      · refine sg 6 rfl rfl (mv rfl rfl) ?_
        refine bd fun y29 h30 => ?_
        refine sg 6 rfl rfl (ixS Tryd.underlying9 h30 rfl rfl (kI (x := 0) rfl)) ?_
        refine sg 6 rfl rfl (eqU .u8 rfl rfl (k8 (x := 48) rfl)) ?_
        refine s1 (pickT rfl rfl rfl) ?_
        refine snil ?_
        refine pnm ?_
        exact sj (hj27 _) (entI ⟨rfl, rfl, rfl, trivial⟩ eqm0)
      · refine spB 6 rfl rfl rfl ?_
        refine spB 6 rfl rfl rfl ?_
        refine spB 6 rfl rfl rfl ?_
        refine s1 (pickF rfl rfl kB) ?_
        refine snil ?_
        refine pnm ?_
        exact sj (hj27 _) (entI ⟨rfl, rfl, rfl, trivial⟩ eqm0)
    · intro s28
      refine scond rfl ?_ ?_
      · refine sskip ?_
        refine pnm ?_
        refine sblk ?_
        refine sreg ?_
        refine s1 (mv rfl rfl) ?_
        refine bd fun y31 h32 => ?_
        refine s1 (slS h32 Tryd.underlying9 rfl rfl (bnd (kI (x := 1) rfl)) bnd0) ?_
        refine s1 (asg rfl rfl) ?_
        refine snil ?_
        refine pbn ?_
        exact sgo (entI ⟨rfl, rfl, trivial⟩ eqm0)
      · refine sexit ?_
        refine ptx ?_
        exact sout (fun h => by cases h) (sj (hj22 _) (entI ⟨rfl, rfl, trivial⟩ eqm0))
  · intro t21
    refine sx ?_
    refine pnm ?_
    refine sseq ?_
    refine sreg ?_
    refine s1 (mv rfl rfl) ?_
    refine s1 (asg rfl rfl) ?_
    refine snil ?_
    refine pnm ?_
    refine sret ?_
    exact ret [] [.tmp 2] [_] [_] .ret hγ (.inl rfl) rfl ⟨rfl, trivial⟩ rfl trivial trivial trivial (rns_cons (rn_id if_str) (rns_nil)) rfl
theorem c_retrospectref48_May {n : Nat} {x0 : (List M_retrospectref48_Piece)} : ∀ r, m_retrospectref48_May n x0 = some r → FnOk Tryd.prog 29 [sli 2 (List.map L_retrospectref48_Piece x0)] [] (bl r) [] := by
  unfold m_retrospectref48_May
  refine fn_of_sq (res := fun (r : Bool) => bl r) (mo := fun (r : Bool) => []) Tryd.func29 rfl rfl (by kernel_rfl) rfl ?_
  intro w S0 γ hγ
  refine sseq ?_
  refine sreg ?_
  refine s1 (asg rfl kB) ?_
  refine snil ?_
  refine pnm ?_
  refine sseq ?_
  refine sseq ?_
  refine sreg ?_
  refine s1 (mv rfl rfl) ?_
  refine s1 (lenL (f := L_retrospectref48_Piece) Tryd.underlying28 rfl rfl) ?_
  refine s1 (gtI rfl rfl (kI (x := 30) rfl)) ?_
  refine snil ?_
  refine pnm ?_
  refine scond rfl ?_ ?_
  · refine sseq ?_
    refine sreg ?_
    refine s1 (asg rfl kB) ?_
    refine snil ?_
    refine pnm ?_
    refine sret ?_
    refine pth ?_
    exact ret [] [.tmp 2] [_] [_] .ret hγ (.inl rfl) rfl ⟨rfl, trivial⟩ rfl trivial trivial trivial (rns_cons (rn_id if_bl) (rns_nil)) rfl
  · refine sskip ?_
    refine pnm ?_
    refine sseq ?_
    refine sseq ?_
    refine sreg ?_
    refine s1 (asg rfl (kI (x := 0) rfl)) ?_
    refine snil ?_
    refine pnm ?_
    refine sblk ?_
    refine sloopE 0 Lp.go (fun (s64 : Int) => [(0, sli 2 (List.map L_retrospectref48_Piece x0)), (2, bl false), (3, i64 s64)]) (fun (s64 : Int) => []) (fun (t62 : Unit) => [(2, bl false)]) (fun (t62 : Unit) => []) (entI ⟨rfl, rfl, rfl, trivial⟩ eqm0) ?_ ?_
    · intro hj63 s64
      refine sseq ?_
      refine sseq ?_
      refine sreg ?_
      refine s1 (mv rfl rfl) ?_
      refine s1 (mv rfl rfl) ?_
      refine s1 (lenL (f := L_retrospectref48_Piece) Tryd.underlying28 rfl rfl) ?_
      refine s1 (ltI rfl rfl rfl) ?_
      refine snil ?_
      refine pnm ?_
      refine scond rfl ?_ ?_
      · refine sskip ?_
        refine pnm ?_
        refine sseq ?_
        refine sblk ?_
        refine sseq ?_
        refine sjq (fun (s73 : Bool) => [(0, sli 2 (List.map L_retrospectref48_Piece x0)), (2, bl false), (3, i64 s64), (29, bl s73)]) (fun (s73 : Bool) => []) ?_ ?_
        · intro j71 hj72
          refine sreg ?_
          refine s1 (mv rfl rfl) ?_
          refine s1 (mv rfl rfl) ?_
          refine bd fun y74 h75 => ?_
          refine s1 (ixR (f := L_retrospectref48_Piece) Tryd.underlying28 ti_77 h75 rfl rfl rfl) ?_
          refine s1 (faR fd_77_0 (by exact rfl) rfl rfl) ?_
          refine s1 (ldR sh_9 (by exact rfl) (by exact rfl) rfl rfl) ?_
          refine bd fun r76 h77 => ?_
          refine s1 (call0 (c_retrospectref48_named _ h77) ⟨⟨_, rfl, rn_id if_str⟩, trivial⟩ (if_bl) rfl) ?_
          refine s1 (notB rfl rfl) ?_
          refine s1 (mv rfl rfl) ?_
          refine sifd 21 rfl ?_ ?_
          · refine spB 21 rfl rfl rfl ?_
            refine spB 21 rfl rfl rfl ?_
            refine spB 21 rfl rfl rfl ?_
            refine spB 21 rfl rfl rfl ?_
            refine spB 21 rfl rfl rfl ?_
            refine spB 21 rfl rfl rfl ?_
            refine spB 21 rfl rfl rfl ?_
            refine s1 (pickT rfl rfl kB) ?_
            refine snil ?_
            refine pnm ?_
            exact sj (hj72 _) (entI ⟨rfl, rfl, rfl, rfl, trivial⟩ eqm0)
          · refine sg 21 rfl rfl (mv rfl rfl) ?_
            refine sg 21 rfl rfl (mv rfl rfl) ?_
            refine bd fun y78 h79 => ?_
            refine sg 21 rfl rfl (ixR (f := L_retrospectref48_Piece) Tryd.underlying28 ti_77 h79 rfl rfl rfl) ?_
            refine sg 21 rfl rfl (faR fd_77_1 (by exact rfl) rfl rfl) ?_
            refine sg 21 rfl rfl (ldR sh_9 (by exact rfl) (by exact rfl) rfl rfl) ?_
            refine sg 21 rfl rfl (lenS Tryd.underlying9 rfl rfl) ?_
            refine sg 21 rfl rfl (gtI rfl rfl (kI (x := 20000) rfl)) ?_
            refine s1 (pickF rfl rfl rfl) ?_
            refine snil ?_
            refine pnm ?_
            exact sj (hj72 _) (entI ⟨rfl, rfl, rfl, rfl, trivial⟩ eqm0)
        · intro s73
          refine scond rfl ?_ ?_
          · refine sseq ?_
            refine sreg ?_
            refine s1 (asg rfl kB) ?_
            refine snil ?_
            refine pnm ?_
            refine sret ?_
            refine pth ?_
            refine pbl ?_
            refine pth ?_
            refine sout (fun h => by cases h) ?_
            refine pbl ?_
            refine pth ?_
            exact ret [] [.tmp 2] [_] [_] .ret hγ (.inl rfl) rfl ⟨rfl, trivial⟩ rfl trivial trivial trivial (rns_cons (rn_id if_bl) (rns_nil)) rfl
          · refine sskip ?_
            refine pnm ?_
            refine sseq ?_
            refine sreg ?_
            refine s1 (asg rfl (kI (x := 0) rfl)) ?_
            refine snil ?_
            refine pnm ?_
            refine sblk ?_
            refine sloopE 2 Lp.go (fun (s87 : Int) => [(0, sli 2 (List.map L_retrospectref48_Piece x0)), (2, bl false), (3, i64 s64), (4, i64 s87)]) (fun (s87 : Int) => []) (fun (t85 : Unit) => [(0, sli 2 (List.map L_retrospectref48_Piece x0)), (2, bl false), (3, i64 s64)]) (fun (t85 : Unit) => []) (entI ⟨rfl, rfl, rfl, rfl, trivial⟩ eqm0) ?_ ?_
            · intro hj86 s87
              refine sseq ?_
              refine sseq ?_
              refine sreg ?_
              refine s1 (mv rfl rfl) ?_
              refine s1 (mv rfl rfl) ?_
              refine s1 (ltI rfl rfl rfl) ?_
              refine snil ?_
              refine pnm ?_
              refine scond rfl ?_ ?_
              · refine sskip ?_
                refine pnm ?_
                refine sseq ?_
                refine sblk ?_
                refine sseq ?_
                refine bd fun y88 h89 => ?_
                refine bd fun y90 h91 => ?_
                refine sdraw [⟨[0], [], [(35, sli 2 (List.map L_retrospectref48_Piece x0))], []⟩, ⟨[4], [], [(36, i64 s87)], []⟩, ⟨[35, 36], [], [(37, .ref (L_retrospectref48_Piece y88))], []⟩, ⟨[37], [], [(38, .ref (str y88.Name))], []⟩, ⟨[38], [], [(39, str y88.Name)], []⟩, ⟨[0], [], [(40, sli 2 (List.map L_retrospectref48_Piece x0))], []⟩, ⟨[3], [], [(41, i64 s64)], []⟩, ⟨[40, 41], [], [(42, .ref (L_retrospectref48_Piece y90))], []⟩, ⟨[42], [], [(43, .ref (str y90.Name))], []⟩, ⟨[43], [], [(44, str y90.Name)], []⟩, ⟨[39, 44], [], [(45, bl (decide (y88.Name = y90.Name)))], []⟩] fol (by kernel_rfl) ⟨fun st mm ⟨a0, _⟩ _ => og (mv rfl (a0.trans rfl)), fun st mm ⟨a4, _⟩ _ => og (mv rfl (a4.trans rfl)), fun st mm ⟨a35, a36, _⟩ _ => og (ixR (f := L_retrospectref48_Piece) Tryd.underlying28 ti_77 h89 rfl (a35.trans rfl) (a36.trans rfl)), fun st mm ⟨a37, _⟩ _ => og (faR fd_77_0 (by exact rfl) rfl (a37.trans rfl)), fun st mm ⟨a38, _⟩ _ => og (ldR sh_9 (by exact rfl) (by exact rfl) rfl (a38.trans rfl)), fun st mm ⟨a0, _⟩ _ => og (mv rfl (a0.trans rfl)), fun st mm ⟨a3, _⟩ _ => og (mv rfl (a3.trans rfl)), fun st mm ⟨a40, a41, _⟩ _ => og (ixR (f := L_retrospectref48_Piece) Tryd.underlying28 ti_77 h91 rfl (a40.trans rfl) (a41.trans rfl)), fun st mm ⟨a42, _⟩ _ => og (faR fd_77_0 (by exact rfl) rfl (a42.trans rfl)), fun st mm ⟨a43, _⟩ _ => og (ldR sh_9 (by exact rfl) (by exact rfl) rfl (a43.trans rfl)), fun st mm ⟨a39, a44, _⟩ _ => og (eqS rfl (a39.trans rfl) (a44.trans rfl)), trivial⟩ ?_
                refine pnm ?_
                refine scond rfl ?_ ?_
                · refine sseq ?_
                  refine sreg ?_
                  refine s1 (asg rfl kB) ?_
                  refine snil ?_
                  refine pnm ?_
                  refine sret ?_
                  refine pbl ?_
                  refine pth ?_
                  refine sout (fun h => by cases h) ?_
                  refine pbl ?_
                  refine pbl ?_
                  refine pth ?_
                  refine sout (fun h => by cases h) ?_
                  refine pbl ?_
                  refine pth ?_
                  exact ret [] [.tmp 2] [_] [_] .ret hγ (.inl rfl) rfl ⟨rfl, trivial⟩ rfl trivial trivial trivial (rns_cons (rn_id if_bl) (rns_nil)) rfl
                · refine sskip ?_
                  refine pbn ?_
                  refine pnm ?_
                  refine sreg ?_
                  refine s1 (mv rfl rfl) ?_
                  refine s1 (addI rfl rfl (kI (x := 1) rfl)) ?_
                  refine s1 (asg rfl rfl) ?_
                  refine snil ?_
                  exact sgo (entI ⟨rfl, rfl, rfl, rfl, trivial⟩ eqm0)
              · refine sexit ?_
                refine ptx ?_
                exact sout (fun h => by cases h) (sj (hj86 _) (entI ⟨rfl, rfl, rfl, trivial⟩ eqm0))
            · intro t85
              refine slpk ?_
              refine sx ?_
              refine pbn ?_
              refine pnm ?_
              refine sreg ?_
              refine s1 (mv rfl rfl) ?_
              refine s1 (addI rfl rfl (kI (x := 1) rfl)) ?_
              refine s1 (asg rfl rfl) ?_
              refine snil ?_
              exact sgo (entI ⟨rfl, rfl, rfl, trivial⟩ eqm0)
      · refine sexit ?_
        refine ptx ?_
        exact sout (fun h => by cases h) (sj (hj63 _) (entI ⟨rfl, trivial⟩ eqm0))
    · intro t62
      refine slpk ?_
      refine sx ?_
      refine pnm ?_
      refine sseq ?_
      refine sreg ?_
      refine s1 (asg rfl kB) ?_
      refine snil ?_
      refine pnm ?_
      refine sret ?_
      exact ret [] [.tmp 2] [_] [_] .ret hγ (.inl rfl) rfl ⟨rfl, trivial⟩ rfl trivial trivial trivial (rns_cons (rn_id if_bl) (rns_nil)) rfl
theorem c_retrospectref48_Unpack {n : Nat} {x0 : (List UInt8)} : ∀ r, m_retrospectref48_Unpack n x0 = some r → FnOk Tryd.prog 9 [str x0] [] (.tup [sli 2 (List.map L_retrospectref48_Piece r.1), L_A2_i64 r.2]) [] := by
  unfold m_retrospectref48_Unpack
  refine fn_of_sq (res := fun (r : (List M_retrospectref48_Piece) × M_A2_i64) => .tup [sli 2 (List.map L_retrospectref48_Piece r.1), L_A2_i64 r.2]) (mo := fun (r : (List M_retrospectref48_Piece) × M_A2_i64) => []) Tryd.func9 rfl rfl (by kernel_rfl) rfl ?_
  intro w S0 γ hγ
  refine sseq ?_
  refine sreg ?_
  refine s1 (asg rfl (kLm (k := 2) L_retrospectref48_Piece)) ?_
  refine so (al (y := 100) (ly := L_A2_i64 (⟨0, 0⟩ : M_A2_i64)) ti_29 zr_A2_i64 rfl rfl) ?_
  refine snil ?_
  refine pnm ?_
  refine sseq ?_
  refine sreg ?_
  refine so (asgN (y := 101) (E := 77) (k := 2) rfl rfl) ?_
  refine snil ?_
  refine pnm ?_
  refine sseq ?_
  refine sreg ?_
  refine so (bsl (y := 102) (ls := List.map L_retrospectref48_Piece ([] : List M_retrospectref48_Piece)) Tryd.underlying28 ti_77 rfl rfl rfl rfl rfl trivial rfl rfl) ?_
  refine s1 (asg rfl rfl) ?_
  refine snil ?_
  refine pnm ?_
  refine sseq ?_
  refine sreg ?_
  refine s1 (asg rfl (kI (x := 0) rfl)) ?_
  refine snil ?_
  refine pnm ?_
  refine sseq ?_
  refine sblk ?_
  refine sloopE 0 Lp.go (fun (s99 : (List M_retrospectref48_Piece) × Int) => [(0, str x0), (2, sli 2 (List.map L_retrospectref48_Piece ([] : List M_retrospectref48_Piece))), (3, .own 100), (4, .own 101), (5, .own 102), (6, i64 s99.2)]) (fun (s99 : (List M_retrospectref48_Piece) × Int) => [(100, .bx 29 (L_A2_i64 (⟨0, 0⟩ : M_A2_i64))), (101, .sl 77 2 (List.map L_retrospectref48_Piece s99.1)), (102, .sl 77 2 (List.map L_retrospectref48_Piece ([] : List M_retrospectref48_Piece)))]) (fun (t97 : (List M_retrospectref48_Piece)) => [(2, sli 2 (List.map L_retrospectref48_Piece ([] : List M_retrospectref48_Piece))), (3, .own 100), (4, .own 101), (5, .own 102)]) (fun (t97 : (List M_retrospectref48_Piece)) => [(100, .bx 29 (L_A2_i64 (⟨0, 0⟩ : M_A2_i64))), (101, .sl 77 2 (List.map L_retrospectref48_Piece t97)), (102, .sl 77 2 (List.map L_retrospectref48_Piece ([] : List M_retrospectref48_Piece)))]) (entR [(100, 100), (101, 101), (102, 102)] rfl (keepS hγ trivial) ⟨⟨_, rfl⟩, ⟨_, rfl⟩, ⟨_, rfl⟩, trivial⟩ ⟨⟨_, _, rfl, rfl, rci (rc_bx (rn_id if_L_A2_i64))⟩, ⟨_, _, rfl, rfl, rci (rc_sl (ifs_map (f := L_retrospectref48_Piece) (fun _ => if_L_retrospectref48_Piece) ([] : List M_retrospectref48_Piece)))⟩, ⟨_, _, rfl, rfl, rci (rc_sl (ifs_map (f := L_retrospectref48_Piece) (fun _ => if_L_retrospectref48_Piece) ([] : List M_retrospectref48_Piece)))⟩, trivial⟩ ⟨⟨_, rfl, rn_id if_str⟩, ⟨_, rfl, rn_id if_sli⟩, ⟨_, rfl, rn_own rfl⟩, ⟨_, rfl, rn_own rfl⟩, ⟨_, rfl, rn_own rfl⟩, ⟨_, rfl, rn_id if_i64⟩, trivial⟩) ?_ ?_
  · intro hj98 s99
    refine sseq ?_
    refine sseq ?_
    refine sreg ?_
    refine s1 (mv rfl rfl) ?_
    refine s1 (mv rfl rfl) ?_
    refine s1 (lenS Tryd.underlying9 rfl rfl) ?_
    refine s1 (ltI rfl rfl rfl) ?_
    refine snil ?_
    refine pnm ?_
    refine scond rfl ?_ ?_
    · refine sskip ?_
      refine pnm ?_
      refine sblk ?_
      refine sseq ?_
      refine sreg ?_
      refine s1 (mv rfl rfl) ?_
      refine s1 (mv rfl rfl) ?_
      refine bd fun r100 h101 => ?_
      refine s1 (call0 (c_retrospectref48_find _ h101) ⟨⟨_, rfl, rn_id if_str⟩, ⟨_, rfl, rn_id if_i64⟩, ⟨_, (k8 (x := 61) rfl), rn_id if_u8⟩, trivial⟩ (if_i64) rfl) ?_
      refine s1 (asg rfl rfl) ?_
      refine snil ?_
      refine pnm ?_
      refine sseq ?_
      refine sjq (fun (s108 : Bool) => [(0, str x0), (2, sli 2 (List.map L_retrospectref48_Piece ([] : List M_retrospectref48_Piece))), (3, .own 100), (4, .own 101), (5, .own 102), (6, i64 s99.2), (7, i64 r100), (31, bl s108)]) (fun (s108 : Bool) => [(100, .bx 29 (L_A2_i64 (⟨0, 0⟩ : M_A2_i64))), (101, .sl 77 2 (List.map L_retrospectref48_Piece s99.1)), (102, .sl 77 2 (List.map L_retrospectref48_Piece ([] : List M_retrospectref48_Piece)))]) ?_ ?_
      · intro j106 hj107
        refine sreg ?_
        refine s1 (mv rfl rfl) ?_
        refine s1 (mv rfl rfl) ?_
        refine s1 (subI rfl rfl rfl) ?_
        refine s1 (gtI rfl rfl (kI (x := 12) rfl)) ?_
        refine s1 (mv rfl rfl) ?_
        refine sifd 24 rfl ?_ ?_
        · refine spB 24 rfl rfl rfl ?_
          refine spB 24 rfl rfl rfl ?_
          refine spB 24 rfl rfl rfl ?_
          refine spB 24 rfl rfl rfl ?_
          refine spB 24 rfl rfl rfl ?_
          refine spB 24 rfl rfl rfl ?_
          refine s1 (pickT rfl rfl kB) ?_
          refine snil ?_
          refine pnm ?_
          exact sj (hj107 _) (entR [(100, 100), (101, 101), (102, 102)] rfl (keepS hγ trivial) ⟨⟨_, rfl⟩, ⟨_, rfl⟩, ⟨_, rfl⟩, trivial⟩ ⟨⟨_, _, rfl, rfl, rci (rc_bx (rn_id if_L_A2_i64))⟩, ⟨_, _, rfl, rfl, rci (rc_sl (ifs_map (f := L_retrospectref48_Piece) (fun _ => if_L_retrospectref48_Piece) s99.1))⟩, ⟨_, _, rfl, rfl, rci (rc_sl (ifs_map (f := L_retrospectref48_Piece) (fun _ => if_L_retrospectref48_Piece) ([] : List M_retrospectref48_Piece)))⟩, trivial⟩ ⟨⟨_, rfl, rn_id if_str⟩, ⟨_, rfl, rn_id if_sli⟩, ⟨_, rfl, rn_own rfl⟩, ⟨_, rfl, rn_own rfl⟩, ⟨_, rfl, rn_own rfl⟩, ⟨_, rfl, rn_id if_i64⟩, ⟨_, rfl, rn_id if_i64⟩, ⟨_, rfl, rn_id if_bl⟩, trivial⟩)
        · refine sg 24 rfl rfl (mv rfl rfl) ?_
          refine sg 24 rfl rfl (mv rfl rfl) ?_
          refine sg 24 rfl rfl (mv rfl rfl) ?_
          refine bd fun y109 h110 => ?_
          refine sg 24 rfl rfl (slS h110 Tryd.underlying9 rfl rfl (bnd rfl) (bnd rfl)) ?_
          refine bd fun r111 h112 => ?_
          refine sg 24 rfl rfl (call0 (c_retrospectref48_named _ h112) ⟨⟨_, rfl, rn_id if_str⟩, trivial⟩ (if_bl) rfl) ?_
          refine sg 24 rfl rfl (notB rfl rfl) ?_
          refine s1 (pickF rfl rfl rfl) ?_
          refine snil ?_
          refine pnm ?_
          exact sj (hj107 _) (entR [(100, 100), (101, 101), (102, 102)] rfl (keepS hγ trivial) ⟨⟨_, rfl⟩, ⟨_, rfl⟩, ⟨_, rfl⟩, trivial⟩ ⟨⟨_, _, rfl, rfl, rci (rc_bx (rn_id if_L_A2_i64))⟩, ⟨_, _, rfl, rfl, rci (rc_sl (ifs_map (f := L_retrospectref48_Piece) (fun _ => if_L_retrospectref48_Piece) s99.1))⟩, ⟨_, _, rfl, rfl, rci (rc_sl (ifs_map (f := L_retrospectref48_Piece) (fun _ => if_L_retrospectref48_Piece) ([] : List M_retrospectref48_Piece)))⟩, trivial⟩ ⟨⟨_, rfl, rn_id if_str⟩, ⟨_, rfl, rn_id if_sli⟩, ⟨_, rfl, rn_own rfl⟩, ⟨_, rfl, rn_own rfl⟩, ⟨_, rfl, rn_own rfl⟩, ⟨_, rfl, rn_id if_i64⟩, ⟨_, rfl, rn_id if_i64⟩, ⟨_, rfl, rn_id if_bl⟩, trivial⟩)
      · intro s108
        refine scond rfl ?_ ?_
        · refine sseq ?_
          refine sreg ?_
          refine s1 (mv rfl rfl) ?_
          refine s1 (mv rfl rfl) ?_
          refine s1 (bldA (l := [i64 (1 : Int), i64 s99.2]) Tryd.underlying29 ti_29 ti_3 zr_A2_i64 rfl ⟨_, _, _, (kI (x := 1) rfl), rfl, rfl, rfl, rfl, rfl, ⟨_, _, _, rfl, rfl, rfl, rfl, rfl, rfl, rfl⟩⟩ rfl) ?_
          refine s1 (asg rfl rfl) ?_
          refine so (stB2 (ly2 := L_A2_i64 (⟨(1 : Int), s99.2⟩ : M_A2_i64)) [] (by exact rfl) rfl (by exact rfl) sh_29 (by exact rfl) (by exact rfl) (by exact rfl) rfl (.inr ⟨rfl, rfl, _, _, rfl⟩) rfl) ?_
          refine snil ?_
          refine pnm ?_
          refine sret ?_
          refine pth ?_
          refine pbl ?_
          refine sout (fun h => by cases h) ?_
          refine pbl ?_
          refine pth ?_
          refine frz (id := 102) [(2, sli 2 (List.map L_retrospectref48_Piece ([] : List M_retrospectref48_Piece))), (5, sli 2 (List.map L_retrospectref48_Piece ([] : List M_retrospectref48_Piece))), (32, sli 2 (List.map L_retrospectref48_Piece ([] : List M_retrospectref48_Piece)))] [] rfl (ifs_map (f := L_retrospectref48_Piece) (fun _ => if_L_retrospectref48_Piece) ([] : List M_retrospectref48_Piece)) ⟨⟨_, rfl, fz_own⟩, ⟨_, rfl, fz_own⟩, ⟨_, rfl, fz_own⟩, trivial⟩ trivial ?_
          exact ret [] [.tmp 2, .cell 3 29] [_, _] [_, _] .ret hγ (.inl rfl) rfl ⟨rfl, ⟨100, _, rfl, rfl, sh_29⟩, trivial⟩ rfl trivial trivial trivial (rns_cons (rn_id if_sli) (rns_cons (rn_id if_L_A2_i64) (rns_nil))) rfl
        · refine sskip ?_
          refine pnm ?_
          refine sseq ?_
          refine sseq ?_
          refine sreg ?_
          refine s1 (mv rfl rfl) ?_
          refine s1 (mv rfl rfl) ?_
          refine s1 (lenS Tryd.underlying9 rfl rfl) ?_
          refine s1 (eqI rfl rfl rfl) ?_
          refine snil ?_
          refine pnm ?_
          refine scond rfl ?_ ?_
          · refine sseq ?_
            refine sreg ?_
            refine s1 (mv rfl rfl) ?_
            refine s1 (mv rfl rfl) ?_
            refine s1 (lenS Tryd.underlying9 rfl rfl) ?_
            refine s1 (bldA (l := [i64 (1 : Int), i64 (x0.length : Int)]) Tryd.underlying29 ti_29 ti_3 zr_A2_i64 rfl ⟨_, _, _, (kI (x := 1) rfl), rfl, rfl, rfl, rfl, rfl, ⟨_, _, _, rfl, rfl, rfl, rfl, rfl, rfl, rfl⟩⟩ rfl) ?_
            refine s1 (asg rfl rfl) ?_
            refine so (stB2 (ly2 := L_A2_i64 (⟨(1 : Int), (x0.length : Int)⟩ : M_A2_i64)) [] (by exact rfl) rfl (by exact rfl) sh_29 (by exact rfl) (by exact rfl) (by exact rfl) rfl (.inr ⟨rfl, rfl, _, _, rfl⟩) rfl) ?_
            refine snil ?_
            refine pnm ?_
            refine sret ?_
            refine pth ?_
            refine pbl ?_
            refine sout (fun h => by cases h) ?_
            refine pbl ?_
            refine pth ?_
            refine frz (id := 102) [(2, sli 2 (List.map L_retrospectref48_Piece ([] : List M_retrospectref48_Piece))), (5, sli 2 (List.map L_retrospectref48_Piece ([] : List M_retrospectref48_Piece))), (39, sli 2 (List.map L_retrospectref48_Piece ([] : List M_retrospectref48_Piece)))] [] rfl (ifs_map (f := L_retrospectref48_Piece) (fun _ => if_L_retrospectref48_Piece) ([] : List M_retrospectref48_Piece)) ⟨⟨_, rfl, fz_own⟩, ⟨_, rfl, fz_own⟩, ⟨_, rfl, fz_own⟩, trivial⟩ trivial ?_
            exact ret [] [.tmp 2, .cell 3 29] [_, _] [_, _] .ret hγ (.inl rfl) rfl ⟨rfl, ⟨100, _, rfl, rfl, sh_29⟩, trivial⟩ rfl trivial trivial trivial (rns_cons (rn_id if_sli) (rns_cons (rn_id if_L_A2_i64) (rns_nil))) rfl
          · refine sskip ?_
            refine pnm ?_
            refine sseq ?_
            refine sreg ?_
            refine s1 (mv rfl rfl) ?_
            refine s1 (mv rfl rfl) ?_
            refine s1 (addI rfl rfl (kI (x := 1) rfl)) ?_
            refine bd fun r113 h114 => ?_
            refine s1 (call0 (c_retrospectref48_find _ h114) ⟨⟨_, rfl, rn_id if_str⟩, ⟨_, rfl, rn_id if_i64⟩, ⟨_, (k8 (x := 58) rfl), rn_id if_u8⟩, trivial⟩ (if_i64) rfl) ?_
            refine s1 (asg rfl rfl) ?_
            refine snil ?_
            refine pnm ?_
            refine sseq ?_
            refine sreg ?_
            refine s1 (mv rfl rfl) ?_
            refine s1 (mv rfl rfl) ?_
            refine s1 (addI rfl rfl (kI (x := 1) rfl)) ?_
            refine s1 (mv rfl rfl) ?_
            refine bd fun y115 h116 => ?_
            refine s1 (slS h116 Tryd.underlying9 rfl rfl (bnd rfl) (bnd rfl)) ?_
            refine s1 (asg rfl rfl) ?_
            refine snil ?_
            refine pnm ?_
            refine sseq ?_
            refine sjq (fun (s123 : Bool) => [(0, str x0), (2, sli 2 (List.map L_retrospectref48_Piece ([] : List M_retrospectref48_Piece))), (3, .own 100), (4, .own 101), (5, .own 102), (6, i64 s99.2), (7, i64 r100), (8, i64 r113), (9, str y115), (71, bl s123)]) (fun (s123 : Bool) => [(100, .bx 29 (L_A2_i64 (⟨0, 0⟩ : M_A2_i64))), (101, .sl 77 2 (List.map L_retrospectref48_Piece s99.1)), (102, .sl 77 2 (List.map L_retrospectref48_Piece ([] : List M_retrospectref48_Piece)))]) ?_ ?_
            · intro j121 hj122
              refine sreg ?_
              refine s1 (mv rfl rfl) ?_
              refine s1 (mv rfl rfl) ?_
              refine s1 (lenS Tryd.underlying9 rfl rfl) ?_
              refine s1 (eqI rfl rfl rfl) ?_
              refine s1 (mv rfl rfl) ?_
              refine sifd 56 rfl ?_ ?_
              · refine spB 56 rfl rfl rfl ?_
                refine spB 56 rfl rfl rfl ?_
                refine spB 56 rfl rfl rfl ?_
                refine s1 (pickT rfl rfl kB) ?_
                refine s1 (mv rfl rfl) ?_
                refine spB 61 rfl rfl rfl ?_
                refine spB 61 rfl rfl rfl ?_
                refine spB 61 rfl rfl rfl ?_
                refine s1 (pickT rfl rfl kB) ?_
                refine s1 (mv rfl rfl) ?_
                refine spB 66 rfl rfl rfl ?_
                refine spB 66 rfl rfl rfl ?_
                refine spB 66 rfl rfl rfl ?_
                refine spB 66 rfl rfl rfl ?_
                refine s1 (pickT rfl rfl kB) ?_
                refine snil ?_
                refine pnm ?_
                exact sj (hj122 _) (entR [(100, 100), (101, 101), (102, 102)] rfl (keepS hγ trivial) ⟨⟨_, rfl⟩, ⟨_, rfl⟩, ⟨_, rfl⟩, trivial⟩ ⟨⟨_, _, rfl, rfl, rci (rc_bx (rn_id if_L_A2_i64))⟩, ⟨_, _, rfl, rfl, rci (rc_sl (ifs_map (f := L_retrospectref48_Piece) (fun _ => if_L_retrospectref48_Piece) s99.1))⟩, ⟨_, _, rfl, rfl, rci (rc_sl (ifs_map (f := L_retrospectref48_Piece) (fun _ => if_L_retrospectref48_Piece) ([] : List M_retrospectref48_Piece)))⟩, trivial⟩ ⟨⟨_, rfl, rn_id if_str⟩, ⟨_, rfl, rn_id if_sli⟩, ⟨_, rfl, rn_own rfl⟩, ⟨_, rfl, rn_own rfl⟩, ⟨_, rfl, rn_own rfl⟩, ⟨_, rfl, rn_id if_i64⟩, ⟨_, rfl, rn_id if_i64⟩, ⟨_, rfl, rn_id if_i64⟩, ⟨_, rfl, rn_id if_str⟩, ⟨_, rfl, rn_id if_bl⟩, trivial⟩)
              · refine sg 56 rfl rfl (mv rfl rfl) ?_
                refine sg 56 rfl rfl (lenS Tryd.underlying9 rfl rfl) ?_
                refine sg 56 rfl rfl (gtI rfl rfl (kI (x := 5) rfl)) ?_
                refine s1 (pickF rfl rfl rfl) ?_
                refine s1 (mv rfl rfl) ?_
                refine sifd 61 rfl ?_ ?_
                · refine spB 61 rfl rfl rfl ?_
                  refine spB 61 rfl rfl rfl ?_
                  refine spB 61 rfl rfl rfl ?_
                  refine s1 (pickT rfl rfl kB) ?_
                  refine s1 (mv rfl rfl) ?_
                  refine spB 66 rfl rfl rfl ?_
                  refine spB 66 rfl rfl rfl ?_
                  refine spB 66 rfl rfl rfl ?_
                  refine spB 66 rfl rfl rfl ?_
                  refine s1 (pickT rfl rfl kB) ?_
                  refine snil ?_
                  refine pnm ?_
                  exact sj (hj122 _) (entR [(100, 100), (101, 101), (102, 102)] rfl (keepS hγ trivial) ⟨⟨_, rfl⟩, ⟨_, rfl⟩, ⟨_, rfl⟩, trivial⟩ ⟨⟨_, _, rfl, rfl, rci (rc_bx (rn_id if_L_A2_i64))⟩, ⟨_, _, rfl, rfl, rci (rc_sl (ifs_map (f := L_retrospectref48_Piece) (fun _ => if_L_retrospectref48_Piece) s99.1))⟩, ⟨_, _, rfl, rfl, rci (rc_sl (ifs_map (f := L_retrospectref48_Piece) (fun _ => if_L_retrospectref48_Piece) ([] : List M_retrospectref48_Piece)))⟩, trivial⟩ ⟨⟨_, rfl, rn_id if_str⟩, ⟨_, rfl, rn_id if_sli⟩, ⟨_, rfl, rn_own rfl⟩, ⟨_, rfl, rn_own rfl⟩, ⟨_, rfl, rn_own rfl⟩, ⟨_, rfl, rn_id if_i64⟩, ⟨_, rfl, rn_id if_i64⟩, ⟨_, rfl, rn_id if_i64⟩, ⟨_, rfl, rn_id if_str⟩, ⟨_, rfl, rn_id if_bl⟩, trivial⟩)
                · refine sg 61 rfl rfl (mv rfl rfl) ?_
                  refine bd fun r124 h125 => ?_
                  refine sg 61 rfl rfl (call0 (c_retrospectref07_Wrong _ h125) ⟨⟨_, rfl, rn_id if_str⟩, trivial⟩ (if_i64) rfl) ?_
                  refine sg 61 rfl rfl (geI rfl rfl (kI (x := 0) rfl)) ?_
                  refine s1 (pickF rfl rfl rfl) ?_
                  refine s1 (mv rfl rfl) ?_
                  refine sifd 66 rfl ?_ ?_
                  · refine spB 66 rfl rfl rfl ?_
                    refine spB 66 rfl rfl rfl ?_
                    refine spB 66 rfl rfl rfl ?_
                    refine spB 66 rfl rfl rfl ?_
                    refine s1 (pickT rfl rfl kB) ?_
                    refine snil ?_
                    refine pnm ?_
                    exact sj (hj122 _) (entR [(100, 100), (101, 101), (102, 102)] rfl (keepS hγ trivial) ⟨⟨_, rfl⟩, ⟨_, rfl⟩, ⟨_, rfl⟩, trivial⟩ ⟨⟨_, _, rfl, rfl, rci (rc_bx (rn_id if_L_A2_i64))⟩, ⟨_, _, rfl, rfl, rci (rc_sl (ifs_map (f := L_retrospectref48_Piece) (fun _ => if_L_retrospectref48_Piece) s99.1))⟩, ⟨_, _, rfl, rfl, rci (rc_sl (ifs_map (f := L_retrospectref48_Piece) (fun _ => if_L_retrospectref48_Piece) ([] : List M_retrospectref48_Piece)))⟩, trivial⟩ ⟨⟨_, rfl, rn_id if_str⟩, ⟨_, rfl, rn_id if_sli⟩, ⟨_, rfl, rn_own rfl⟩, ⟨_, rfl, rn_own rfl⟩, ⟨_, rfl, rn_own rfl⟩, ⟨_, rfl, rn_id if_i64⟩, ⟨_, rfl, rn_id if_i64⟩, ⟨_, rfl, rn_id if_i64⟩, ⟨_, rfl, rn_id if_str⟩, ⟨_, rfl, rn_id if_bl⟩, trivial⟩)
                  · refine sg 66 rfl rfl (mv rfl rfl) ?_
                    refine bd fun r126 h127 => ?_
                    refine sg 66 rfl rfl (call0 (c_retrospectref07_Trim _ h127) ⟨⟨_, rfl, rn_id if_str⟩, trivial⟩ (if_str) rfl) ?_
                    refine sg 66 rfl rfl (mv rfl rfl) ?_
                    refine sg 66 rfl rfl (neS rfl rfl rfl) ?_
                    refine s1 (pickF rfl rfl rfl) ?_
                    refine snil ?_
                    refine pnm ?_
                    exact sj (hj122 _) (entR [(100, 100), (101, 101), (102, 102)] rfl (keepS hγ trivial) ⟨⟨_, rfl⟩, ⟨_, rfl⟩, ⟨_, rfl⟩, trivial⟩ ⟨⟨_, _, rfl, rfl, rci (rc_bx (rn_id if_L_A2_i64))⟩, ⟨_, _, rfl, rfl, rci (rc_sl (ifs_map (f := L_retrospectref48_Piece) (fun _ => if_L_retrospectref48_Piece) s99.1))⟩, ⟨_, _, rfl, rfl, rci (rc_sl (ifs_map (f := L_retrospectref48_Piece) (fun _ => if_L_retrospectref48_Piece) ([] : List M_retrospectref48_Piece)))⟩, trivial⟩ ⟨⟨_, rfl, rn_id if_str⟩, ⟨_, rfl, rn_id if_sli⟩, ⟨_, rfl, rn_own rfl⟩, ⟨_, rfl, rn_own rfl⟩, ⟨_, rfl, rn_own rfl⟩, ⟨_, rfl, rn_id if_i64⟩, ⟨_, rfl, rn_id if_i64⟩, ⟨_, rfl, rn_id if_i64⟩, ⟨_, rfl, rn_id if_str⟩, ⟨_, rfl, rn_id if_bl⟩, trivial⟩)
            · intro s123
              refine scond rfl ?_ ?_
              · refine sseq ?_
                refine sreg ?_
                refine s1 (mv rfl rfl) ?_
                refine s1 (mv rfl rfl) ?_
                refine s1 (addI rfl rfl (kI (x := 1) rfl)) ?_
                refine s1 (bldA (l := [i64 (1 : Int), i64 (wrap64 (r100 + (1 : Int)))]) Tryd.underlying29 ti_29 ti_3 zr_A2_i64 rfl ⟨_, _, _, (kI (x := 1) rfl), rfl, rfl, rfl, rfl, rfl, ⟨_, _, _, rfl, rfl, rfl, rfl, rfl, rfl, rfl⟩⟩ rfl) ?_
                refine s1 (asg rfl rfl) ?_
                refine so (stB2 (ly2 := L_A2_i64 (⟨(1 : Int), wrap64 (r100 + (1 : Int))⟩ : M_A2_i64)) [] (by exact rfl) rfl (by exact rfl) sh_29 (by exact rfl) (by exact rfl) (by exact rfl) rfl (.inr ⟨rfl, rfl, _, _, rfl⟩) rfl) ?_
                refine snil ?_
                refine pnm ?_
                refine sret ?_
                refine pth ?_
                refine pbl ?_
                refine sout (fun h => by cases h) ?_
                refine pbl ?_
                refine pth ?_
                refine frz (id := 102) [(2, sli 2 (List.map L_retrospectref48_Piece ([] : List M_retrospectref48_Piece))), (5, sli 2 (List.map L_retrospectref48_Piece ([] : List M_retrospectref48_Piece))), (72, sli 2 (List.map L_retrospectref48_Piece ([] : List M_retrospectref48_Piece)))] [] rfl (ifs_map (f := L_retrospectref48_Piece) (fun _ => if_L_retrospectref48_Piece) ([] : List M_retrospectref48_Piece)) ⟨⟨_, rfl, fz_own⟩, ⟨_, rfl, fz_own⟩, ⟨_, rfl, fz_own⟩, trivial⟩ trivial ?_
                exact ret [] [.tmp 2, .cell 3 29] [_, _] [_, _] .ret hγ (.inl rfl) rfl ⟨rfl, ⟨100, _, rfl, rfl, sh_29⟩, trivial⟩ rfl trivial trivial trivial (rns_cons (rn_id if_sli) (rns_cons (rn_id if_L_A2_i64) (rns_nil))) rfl
              · refine sskip ?_
                refine pnm ?_
                refine sseq ?_
                refine sreg ?_
                refine s1 (asg rfl (kI (x := 0) rfl)) ?_
                refine snil ?_
                refine pnm ?_
                refine sseq ?_
                refine sseq ?_
                refine sreg ?_
                refine s1 (asg rfl (kI (x := 0) rfl)) ?_
                refine snil ?_
                refine pnm ?_
                refine sblk ?_
                refine sloopE 2 (fun t => t) (fun (s134 : Int × Int) => [(0, str x0), (2, sli 2 (List.map L_retrospectref48_Piece ([] : List M_retrospectref48_Piece))), (3, .own 100), (4, .own 101), (5, .own 102), (6, i64 s99.2), (7, i64 r100), (8, i64 r113), (9, str y115), (10, i64 s134.1), (11, i64 s134.2)]) (fun (s134 : Int × Int) => [(100, .bx 29 (L_A2_i64 (⟨0, 0⟩ : M_A2_i64))), (101, .sl 77 2 (List.map L_retrospectref48_Piece s99.1)), (102, .sl 77 2 (List.map L_retrospectref48_Piece ([] : List M_retrospectref48_Piece)))]) (fun (t132 : Int) => [(0, str x0), (2, sli 2 (List.map L_retrospectref48_Piece ([] : List M_retrospectref48_Piece))), (3, .own 100), (4, .own 101), (5, .own 102), (6, i64 s99.2), (7, i64 r100), (8, i64 r113), (10, i64 t132)]) (fun (t132 : Int) => [(100, .bx 29 (L_A2_i64 (⟨0, 0⟩ : M_A2_i64))), (101, .sl 77 2 (List.map L_retrospectref48_Piece s99.1)), (102, .sl 77 2 (List.map L_retrospectref48_Piece ([] : List M_retrospectref48_Piece)))]) (entR [(100, 100), (101, 101), (102, 102)] rfl (keepS hγ trivial) ⟨⟨_, rfl⟩, ⟨_, rfl⟩, ⟨_, rfl⟩, trivial⟩ ⟨⟨_, _, rfl, rfl, rci (rc_bx (rn_id if_L_A2_i64))⟩, ⟨_, _, rfl, rfl, rci (rc_sl (ifs_map (f := L_retrospectref48_Piece) (fun _ => if_L_retrospectref48_Piece) s99.1))⟩, ⟨_, _, rfl, rfl, rci (rc_sl (ifs_map (f := L_retrospectref48_Piece) (fun _ => if_L_retrospectref48_Piece) ([] : List M_retrospectref48_Piece)))⟩, trivial⟩ ⟨⟨_, rfl, rn_id if_str⟩, ⟨_, rfl, rn_id if_sli⟩, ⟨_, rfl, rn_own rfl⟩, ⟨_, rfl, rn_own rfl⟩, ⟨_, rfl, rn_own rfl⟩, ⟨_, rfl, rn_id if_i64⟩, ⟨_, rfl, rn_id if_i64⟩, ⟨_, rfl, rn_id if_i64⟩, ⟨_, rfl, rn_id if_str⟩, ⟨_, rfl, rn_id if_i64⟩, ⟨_, rfl, rn_id if_i64⟩, trivial⟩) ?_ ?_
                · intro hj133 s134
                  refine sseq ?_
                  refine sseq ?_
                  refine sreg ?_
                  refine s1 (mv rfl rfl) ?_
                  refine s1 (mv rfl rfl) ?_
                  refine s1 (lenS Tryd.underlying9 rfl rfl) ?_
                  refine s1 (ltI rfl rfl rfl) ?_
                  refine snil ?_
                  refine pnm ?_
                  refine scond rfl ?_ ?_
                  · refine sskip ?_
                    refine pnm ?_
                    refine sseq ?_
                    refine sblk ?_
                    refine sreg ?_
                    refine s1 (mv rfl rfl) ?_
                    refine s1 (mulI rfl (kI (x := 10) rfl) rfl) ?_
                    refine s1 (mv rfl rfl) ?_
                    refine s1 (mv rfl rfl) ?_
                    refine bd fun y135 h136 => ?_
                    refine s1 (ixS Tryd.underlying9 h136 rfl rfl rfl) ?_
                    refine s1 (cvUIw uk8 rfl Tryd.underlying5 Tryd.underlying3 rfl rfl) ?_
                    refine s1 (addI rfl rfl rfl) ?_
                    refine s1 (subI rfl rfl (kI (x := 48) rfl)) ?_
                    refine sbn (F := i64) 89 rfl fun z137 => ?_
                    refine s1 (asg rfl rfl) ?_
                    refine snil ?_
                    refine pbn ?_
                    refine pnm ?_
                    refine sreg ?_
                    refine s1 (mv rfl rfl) ?_
                    refine s1 (addI rfl rfl (kI (x := 1) rfl)) ?_
                    refine s1 (asg rfl rfl) ?_
                    refine snil ?_
                    exact sgo (entR [(100, 100), (101, 101), (102, 102)] rfl (keepS hγ trivial) ⟨⟨_, rfl⟩, ⟨_, rfl⟩, ⟨_, rfl⟩, trivial⟩ ⟨⟨_, _, rfl, rfl, rci (rc_bx (rn_id if_L_A2_i64))⟩, ⟨_, _, rfl, rfl, rci (rc_sl (ifs_map (f := L_retrospectref48_Piece) (fun _ => if_L_retrospectref48_Piece) s99.1))⟩, ⟨_, _, rfl, rfl, rci (rc_sl (ifs_map (f := L_retrospectref48_Piece) (fun _ => if_L_retrospectref48_Piece) ([] : List M_retrospectref48_Piece)))⟩, trivial⟩ ⟨⟨_, rfl, rn_id if_str⟩, ⟨_, rfl, rn_id if_sli⟩, ⟨_, rfl, rn_own rfl⟩, ⟨_, rfl, rn_own rfl⟩, ⟨_, rfl, rn_own rfl⟩, ⟨_, rfl, rn_id if_i64⟩, ⟨_, rfl, rn_id if_i64⟩, ⟨_, rfl, rn_id if_i64⟩, ⟨_, rfl, rn_id if_str⟩, ⟨_, rfl, rn_id if_i64⟩, ⟨_, rfl, rn_id if_i64⟩, trivial⟩)
                  · refine sexit ?_
                    refine ptx ?_
                    exact sout (fun h => by cases h) (sj (hj133 _) (entR [(100, 100), (101, 101), (102, 102)] rfl (keepS hγ trivial) ⟨⟨_, rfl⟩, ⟨_, rfl⟩, ⟨_, rfl⟩, trivial⟩ ⟨⟨_, _, rfl, rfl, rci (rc_bx (rn_id if_L_A2_i64))⟩, ⟨_, _, rfl, rfl, rci (rc_sl (ifs_map (f := L_retrospectref48_Piece) (fun _ => if_L_retrospectref48_Piece) s99.1))⟩, ⟨_, _, rfl, rfl, rci (rc_sl (ifs_map (f := L_retrospectref48_Piece) (fun _ => if_L_retrospectref48_Piece) ([] : List M_retrospectref48_Piece)))⟩, trivial⟩ ⟨⟨_, rfl, rn_id if_str⟩, ⟨_, rfl, rn_id if_sli⟩, ⟨_, rfl, rn_own rfl⟩, ⟨_, rfl, rn_own rfl⟩, ⟨_, rfl, rn_own rfl⟩, ⟨_, rfl, rn_id if_i64⟩, ⟨_, rfl, rn_id if_i64⟩, ⟨_, rfl, rn_id if_i64⟩, ⟨_, rfl, rn_id if_i64⟩, trivial⟩))
                · intro t132
                  refine sx ?_
                  refine pnm ?_
                  refine sseq ?_
                  refine sseq ?_
                  refine sreg ?_
                  refine s1 (mv rfl rfl) ?_
                  refine s1 (lenS Tryd.underlying9 rfl rfl) ?_
                  refine s1 (mv rfl rfl) ?_
                  refine s1 (addI rfl rfl (kI (x := 1) rfl)) ?_
                  refine s1 (mv rfl rfl) ?_
                  refine s1 (addI rfl rfl rfl) ?_
                  refine s1 (addI rfl rfl (kI (x := 1) rfl)) ?_
                  refine s1 (ltI rfl rfl rfl) ?_
                  refine sbn (F := bl) 97 rfl fun z138 => ?_
                  refine snil ?_
                  refine pnm ?_
                  refine scond rfl ?_ ?_
                  · refine sseq ?_
                    refine sreg ?_
                    refine s1 (mv rfl rfl) ?_
                    refine s1 (mv rfl rfl) ?_
                    refine s1 (lenS Tryd.underlying9 rfl rfl) ?_
                    refine s1 (bldA (l := [i64 (1 : Int), i64 (x0.length : Int)]) Tryd.underlying29 ti_29 ti_3 zr_A2_i64 rfl ⟨_, _, _, (kI (x := 1) rfl), rfl, rfl, rfl, rfl, rfl, ⟨_, _, _, rfl, rfl, rfl, rfl, rfl, rfl, rfl⟩⟩ rfl) ?_
                    refine s1 (asg rfl rfl) ?_
                    refine so (stB2 (ly2 := L_A2_i64 (⟨(1 : Int), (x0.length : Int)⟩ : M_A2_i64)) [] (by exact rfl) rfl (by exact rfl) sh_29 (by exact rfl) (by exact rfl) (by exact rfl) rfl (.inr ⟨rfl, rfl, _, _, rfl⟩) rfl) ?_
                    refine snil ?_
                    refine pnm ?_
                    refine sret ?_
                    refine pth ?_
                    refine pbl ?_
                    refine sout (fun h => by cases h) ?_
                    refine pbl ?_
                    refine pth ?_
                    refine frz (id := 102) [(2, sli 2 (List.map L_retrospectref48_Piece ([] : List M_retrospectref48_Piece))), (5, sli 2 (List.map L_retrospectref48_Piece ([] : List M_retrospectref48_Piece))), (98, sli 2 (List.map L_retrospectref48_Piece ([] : List M_retrospectref48_Piece)))] [] rfl (ifs_map (f := L_retrospectref48_Piece) (fun _ => if_L_retrospectref48_Piece) ([] : List M_retrospectref48_Piece)) ⟨⟨_, rfl, fz_own⟩, ⟨_, rfl, fz_own⟩, ⟨_, rfl, fz_own⟩, trivial⟩ trivial ?_
                    exact ret [] [.tmp 2, .cell 3 29] [_, _] [_, _] .ret hγ (.inl rfl) rfl ⟨rfl, ⟨100, _, rfl, rfl, sh_29⟩, trivial⟩ rfl trivial trivial trivial (rns_cons (rn_id if_sli) (rns_cons (rn_id if_L_A2_i64) (rns_nil))) rfl
                  · refine sskip ?_
                    refine pnm ?_
                    refine sseq ?_
                    refine sseq ?_
                    refine sreg ?_
                    refine s1 (mv rfl rfl) ?_
                    refine s1 (mv rfl rfl) ?_
                    refine s1 (addI rfl rfl (kI (x := 1) rfl)) ?_
                    refine s1 (mv rfl rfl) ?_
                    refine s1 (addI rfl rfl rfl) ?_
                    refine bd fun y139 h140 => ?_
                    refine s1 (ixS Tryd.underlying9 h140 rfl rfl rfl) ?_
                    refine s1 (neU .u8 rfl rfl (k8 (x := 59) rfl)) ?_
                    refine snil ?_
                    refine pnm ?_
                    refine scond rfl ?_ ?_
                    · refine sseq ?_
                      refine sreg ?_
                      refine s1 (mv rfl rfl) ?_
                      refine s1 (mv rfl rfl) ?_
                      refine s1 (addI rfl rfl (kI (x := 1) rfl)) ?_
                      refine s1 (mv rfl rfl) ?_
                      refine s1 (addI rfl rfl rfl) ?_
                      refine s1 (bldA (l := [i64 (1 : Int), i64 (wrap64 ((wrap64 (r113 + (1 : Int))) + t132))]) Tryd.underlying29 ti_29 ti_3 zr_A2_i64 rfl ⟨_, _, _, (kI (x := 1) rfl), rfl, rfl, rfl, rfl, rfl, ⟨_, _, _, rfl, rfl, rfl, rfl, rfl, rfl, rfl⟩⟩ rfl) ?_
                      refine s1 (asg rfl rfl) ?_
                      refine so (stB2 (ly2 := L_A2_i64 (⟨(1 : Int), wrap64 ((wrap64 (r113 + (1 : Int))) + t132)⟩ : M_A2_i64)) [] (by exact rfl) rfl (by exact rfl) sh_29 (by exact rfl) (by exact rfl) (by exact rfl) rfl (.inr ⟨rfl, rfl, _, _, rfl⟩) rfl) ?_
                      refine snil ?_
                      refine pnm ?_
                      refine sret ?_
                      refine pth ?_
                      refine pbl ?_
                      refine sout (fun h => by cases h) ?_
                      refine pbl ?_
                      refine pth ?_
                      refine frz (id := 102) [(2, sli 2 (List.map L_retrospectref48_Piece ([] : List M_retrospectref48_Piece))), (5, sli 2 (List.map L_retrospectref48_Piece ([] : List M_retrospectref48_Piece))), (109, sli 2 (List.map L_retrospectref48_Piece ([] : List M_retrospectref48_Piece)))] [] rfl (ifs_map (f := L_retrospectref48_Piece) (fun _ => if_L_retrospectref48_Piece) ([] : List M_retrospectref48_Piece)) ⟨⟨_, rfl, fz_own⟩, ⟨_, rfl, fz_own⟩, ⟨_, rfl, fz_own⟩, trivial⟩ trivial ?_
                      exact ret [] [.tmp 2, .cell 3 29] [_, _] [_, _] .ret hγ (.inl rfl) rfl ⟨rfl, ⟨100, _, rfl, rfl, sh_29⟩, trivial⟩ rfl trivial trivial trivial (rns_cons (rn_id if_sli) (rns_cons (rn_id if_L_A2_i64) (rns_nil))) rfl
                    · refine sskip ?_
                      refine pnm ?_
                      refine sseq ?_
                      refine bd fun y141 h142 => ?_
                      refine bd fun y143 h144 => ?_
                      refine bd fun y145 h146 => ?_
                      refine sdraw [⟨[4], [], [(115, .own 101)], []⟩, ⟨[0], [], [(116, str x0)], []⟩, ⟨[6], [], [(117, i64 s99.2)], []⟩, ⟨[7], [], [(118, i64 r100)], []⟩, ⟨[116, 117, 118], [], [(119, str y141)], []⟩, ⟨[0], [], [(120, str x0)], []⟩, ⟨[8], [], [(121, i64 r113)], []⟩, ⟨[121], [], [(122, i64 (wrap64 (r113 + (1 : Int))))], []⟩, ⟨[8], [], [(123, i64 r113)], []⟩, ⟨[123], [], [(124, i64 (wrap64 (r113 + (1 : Int))))], []⟩, ⟨[10], [], [(125, i64 t132)], []⟩, ⟨[124, 125], [], [(126, i64 (wrap64 ((wrap64 (r113 + (1 : Int))) + t132)))], []⟩, ⟨[120, 122, 126], [], [(127, str y143)], []⟩, ⟨[119, 127], [], [(128, L_retrospectref48_Piece (⟨y141, y143⟩ : M_retrospectref48_Piece))], []⟩, ⟨[128], [103], [(129, .own 103)], [(103, .sl 77 2 (List.map L_retrospectref48_Piece ([(⟨y141, y143⟩ : M_retrospectref48_Piece)] : List M_retrospectref48_Piece)))]⟩, ⟨[115, 129], [101, 103, 104], [(130, .own 104)], [(104, .sl 77 2 (List.map L_retrospectref48_Piece y145)), (101, .gone)]⟩, ⟨[130], [], [(4, .own 104)], []⟩] fol (by kernel_rfl) ⟨fun st mm ⟨a4, _⟩ _ => og (mv rfl (a4.trans rfl)), fun st mm ⟨a0, _⟩ _ => og (mv rfl (a0.trans rfl)), fun st mm ⟨a6, _⟩ _ => og (mv rfl (a6.trans rfl)), fun st mm ⟨a7, _⟩ _ => og (mv rfl (a7.trans rfl)), fun st mm ⟨a116, a117, a118, _⟩ _ => og (slS h142 Tryd.underlying9 rfl (a116.trans rfl) (bnd (a117.trans rfl)) (bnd (a118.trans rfl))), fun st mm ⟨a0, _⟩ _ => og (mv rfl (a0.trans rfl)), fun st mm ⟨a8, _⟩ _ => og (mv rfl (a8.trans rfl)), fun st mm ⟨a121, _⟩ _ => og (addI rfl (a121.trans rfl) (kI (x := 1) rfl)), fun st mm ⟨a8, _⟩ _ => og (mv rfl (a8.trans rfl)), fun st mm ⟨a123, _⟩ _ => og (addI rfl (a123.trans rfl) (kI (x := 1) rfl)), fun st mm ⟨a10, _⟩ _ => og (mv rfl (a10.trans rfl)), fun st mm ⟨a124, a125, _⟩ _ => og (addI rfl (a124.trans rfl) (a125.trans rfl)), fun st mm ⟨a120, a122, a126, _⟩ _ => og (slS h144 Tryd.underlying9 rfl (a120.trans rfl) (bnd (a122.trans rfl)) (bnd (a126.trans rfl))), fun st mm ⟨a119, a127, _⟩ _ => og (bld (l := [str y141, str y143]) pl_77 ti_77 zr_retrospectref48_Piece ⟨_, _, _, (a119.trans rfl), rfl, rfl, rfl, (szk (k := 1) rfl rfl), ⟨_, _, _, (a127.trans rfl), rfl, rfl, rfl, (szk (k := 1) rfl rfl), rfl⟩⟩ rfl), fun st mm ⟨a128, _⟩ ⟨g103, _⟩ => og (bsl (y := 103) (ls := List.map L_retrospectref48_Piece ([(⟨y141, y143⟩ : M_retrospectref48_Piece)] : List M_retrospectref48_Piece)) Tryd.underlying28 ti_77 rfl rfl rfl rfl rfl ⟨rfl, (a128.trans rfl), (by exact rfl), (by exact rfl), trivial⟩ (g103.trans rfl) rfl), fun st mm ⟨a115, a129, _⟩ ⟨g101, g103, g104, _⟩ => og (app (y := 104) (f := L_retrospectref48_Piece) h146 (g101.trans rfl) Tryd.underlying28 ti_77 rfl rfl (a115.trans rfl) (a129.trans rfl) (.inr ⟨_, _, rfl, (g103.trans rfl)⟩) (g104.trans rfl) rfl), fun st mm ⟨a130, _⟩ _ => og (asg rfl (a130.trans rfl)), trivial⟩ ?_
                      refine pnm ?_
                      refine sreg ?_
                      refine s1 (mv rfl rfl) ?_
                      refine s1 (mv rfl rfl) ?_
                      refine s1 (addI rfl rfl rfl) ?_
                      refine s1 (addI rfl rfl (kI (x := 2) rfl)) ?_
                      refine s1 (asg rfl rfl) ?_
                      refine snil ?_
                      refine pbn ?_
                      exact sgo (entR [(100, 100), (101, 104), (102, 102)] rfl (keepS hγ trivial) ⟨⟨_, rfl⟩, ⟨_, rfl⟩, ⟨_, rfl⟩, trivial⟩ ⟨⟨_, _, rfl, rfl, rci (rc_bx (rn_id if_L_A2_i64))⟩, ⟨_, _, rfl, rfl, rci (rc_sl (ifs_map (f := L_retrospectref48_Piece) (fun _ => if_L_retrospectref48_Piece) y145))⟩, ⟨_, _, rfl, rfl, rci (rc_sl (ifs_map (f := L_retrospectref48_Piece) (fun _ => if_L_retrospectref48_Piece) ([] : List M_retrospectref48_Piece)))⟩, trivial⟩ ⟨⟨_, rfl, rn_id if_str⟩, ⟨_, rfl, rn_id if_sli⟩, ⟨_, rfl, rn_own rfl⟩, ⟨_, rfl, rn_own rfl⟩, ⟨_, rfl, rn_own rfl⟩, ⟨_, rfl, rn_id if_i64⟩, trivial⟩)
    · refine sexit ?_
      refine ptx ?_
      exact sout (fun h => by cases h) (sj (hj98 _) (entR [(100, 100), (101, 101), (102, 102)] rfl (keepS hγ trivial) ⟨⟨_, rfl⟩, ⟨_, rfl⟩, ⟨_, rfl⟩, trivial⟩ ⟨⟨_, _, rfl, rfl, rci (rc_bx (rn_id if_L_A2_i64))⟩, ⟨_, _, rfl, rfl, rci (rc_sl (ifs_map (f := L_retrospectref48_Piece) (fun _ => if_L_retrospectref48_Piece) s99.1))⟩, ⟨_, _, rfl, rfl, rci (rc_sl (ifs_map (f := L_retrospectref48_Piece) (fun _ => if_L_retrospectref48_Piece) ([] : List M_retrospectref48_Piece)))⟩, trivial⟩ ⟨⟨_, rfl, rn_id if_sli⟩, ⟨_, rfl, rn_own rfl⟩, ⟨_, rfl, rn_own rfl⟩, ⟨_, rfl, rn_own rfl⟩, trivial⟩))
  · intro t97
    refine slpk ?_
    refine sx ?_
    refine pnm ?_
    refine sseq ?_
    refine sseq ?_
    refine sreg ?_
    refine s1 (mv rfl rfl) ?_
    refine bd fun r147 h148 => ?_
    refine s1 (callL (em := []) [101] [] [] [] rfl (c_retrospectref48_May _ h148) trivial (pl_bl) ⟨.inr ⟨101, rfl, .inl ⟨rfl, .inl ⟨_, _, _, rfl, ifs_map (f := L_retrospectref48_Piece) (fun _ => if_L_retrospectref48_Piece) t97, rfl⟩⟩⟩, trivial⟩ (fun _ _ h => by cases h) trivial rfl trivial trivial rfl trivial trivial trivial (rn_id (if_bl)) rfl) ?_
    refine s1 (notB rfl rfl) ?_
    refine snil ?_
    refine pnm ?_
    refine scond rfl ?_ ?_
    · refine sseq ?_
      refine sreg ?_
      refine s1 (mv rfl rfl) ?_
      refine s1 (bldA (l := [i64 (2 : Int), i64 (0 : Int)]) Tryd.underlying29 ti_29 ti_3 zr_A2_i64 rfl ⟨_, _, _, (kI (x := 2) rfl), rfl, rfl, rfl, rfl, rfl, ⟨_, _, _, (kI (x := 0) rfl), rfl, rfl, rfl, rfl, rfl, rfl⟩⟩ rfl) ?_
      refine s1 (asg rfl rfl) ?_
      refine so (stB2 (ly2 := L_A2_i64 (⟨(2 : Int), (0 : Int)⟩ : M_A2_i64)) [] (by exact rfl) rfl (by exact rfl) sh_29 (by exact rfl) (by exact rfl) (by exact rfl) rfl (.inr ⟨rfl, rfl, _, _, rfl⟩) rfl) ?_
      refine snil ?_
      refine pnm ?_
      refine sret ?_
      refine pth ?_
      refine frz (id := 102) [(2, sli 2 (List.map L_retrospectref48_Piece ([] : List M_retrospectref48_Piece))), (5, sli 2 (List.map L_retrospectref48_Piece ([] : List M_retrospectref48_Piece))), (138, sli 2 (List.map L_retrospectref48_Piece ([] : List M_retrospectref48_Piece)))] [] rfl (ifs_map (f := L_retrospectref48_Piece) (fun _ => if_L_retrospectref48_Piece) ([] : List M_retrospectref48_Piece)) ⟨⟨_, rfl, fz_own⟩, ⟨_, rfl, fz_own⟩, ⟨_, rfl, fz_own⟩, trivial⟩ trivial ?_
      exact ret [] [.tmp 2, .cell 3 29] [_, _] [_, _] .ret hγ (.inl rfl) rfl ⟨rfl, ⟨100, _, rfl, rfl, sh_29⟩, trivial⟩ rfl trivial trivial trivial (rns_cons (rn_id if_sli) (rns_cons (rn_id if_L_A2_i64) (rns_nil))) rfl
    · refine sskip ?_
      refine pnm ?_
      refine sseq ?_
      refine sreg ?_
      refine s1 (mv rfl rfl) ?_
      refine s1 (bldA (l := [i64 0, i64 0]) Tryd.underlying29 ti_29 ti_3 zr_A2_i64 rfl rfl rfl) ?_
      refine s1 (asg rfl rfl) ?_
      refine so (stB2 (ly2 := L_A2_i64 (⟨0, 0⟩ : M_A2_i64)) [] (by exact rfl) rfl (by exact rfl) sh_29 (by exact rfl) (by exact rfl) (by exact rfl) rfl (.inr ⟨rfl, rfl, _, _, rfl⟩) rfl) ?_
      refine snil ?_
      refine pnm ?_
      refine sret ?_
      refine frz (id := 101) [(2, sli 2 (List.map L_retrospectref48_Piece t97)), (4, sli 2 (List.map L_retrospectref48_Piece t97)), (135, sli 2 (List.map L_retrospectref48_Piece t97)), (140, sli 2 (List.map L_retrospectref48_Piece t97))] [] rfl (ifs_map (f := L_retrospectref48_Piece) (fun _ => if_L_retrospectref48_Piece) t97) ⟨⟨_, rfl, fz_own⟩, ⟨_, rfl, fz_own⟩, ⟨_, rfl, fz_own⟩, ⟨_, rfl, fz_own⟩, trivial⟩ trivial ?_
      exact ret [] [.tmp 2, .cell 3 29] [_, _] [_, _] .ret hγ (.inl rfl) rfl ⟨rfl, ⟨100, _, rfl, rfl, sh_29⟩, trivial⟩ rfl trivial trivial trivial (rns_cons (rn_id if_sli) (rns_cons (rn_id if_L_A2_i64) (rns_nil))) rfl
theorem c_retrospectlaw48_Of {n : Nat} {x0 : (List M_wire_Piece)} : ∀ r, m_retrospectlaw48_Of n x0 = some r → FnOk Tryd.prog 11 [sli 2 (List.map L_wire_Piece x0)] [] (sli 2 (List.map L_retrospectref48_Piece r)) [] := by
  unfold m_retrospectlaw48_Of
  refine fn_of_sq (res := fun (r : (List M_retrospectref48_Piece)) => sli 2 (List.map L_retrospectref48_Piece r)) (mo := fun (r : (List M_retrospectref48_Piece)) => []) Tryd.func11 rfl rfl (by kernel_rfl) rfl ?_
  intro w S0 γ hγ
  refine sseq ?_
  refine sreg ?_
  refine s1 (asg rfl (kLm (k := 2) L_retrospectref48_Piece)) ?_
  refine snil ?_
  refine pnm ?_
  refine sseq ?_
  refine sreg ?_
  refine so (asgN (y := 100) (E := 77) (k := 2) rfl rfl) ?_
  refine snil ?_
  refine pnm ?_
  refine sseq ?_
  refine sseq ?_
  refine sreg ?_
  refine s1 (asg rfl (kI (x := 0) rfl)) ?_
  refine snil ?_
  refine pnm ?_
  refine sblk ?_
  refine sloopE 0 (fun t => t) (fun (s17 : (List M_retrospectref48_Piece) × Int) => [(0, sli 2 (List.map L_wire_Piece x0)), (2, sli 2 (List.map L_retrospectref48_Piece ([] : List M_retrospectref48_Piece))), (3, .own 100), (4, i64 s17.2)]) (fun (s17 : (List M_retrospectref48_Piece) × Int) => [(100, .sl 77 2 (List.map L_retrospectref48_Piece s17.1))]) (fun (t15 : (List M_retrospectref48_Piece)) => [(2, sli 2 (List.map L_retrospectref48_Piece ([] : List M_retrospectref48_Piece))), (3, .own 100)]) (fun (t15 : (List M_retrospectref48_Piece)) => [(100, .sl 77 2 (List.map L_retrospectref48_Piece t15))]) (entR [(100, 100)] rfl (keepS hγ trivial) ⟨⟨_, rfl⟩, trivial⟩ ⟨⟨_, _, rfl, rfl, rci (rc_sl (ifs_map (f := L_retrospectref48_Piece) (fun _ => if_L_retrospectref48_Piece) ([] : List M_retrospectref48_Piece)))⟩, trivial⟩ ⟨⟨_, rfl, rn_id if_sli⟩, ⟨_, rfl, rn_id if_sli⟩, ⟨_, rfl, rn_own rfl⟩, ⟨_, rfl, rn_id if_i64⟩, trivial⟩) ?_ ?_
  · intro hj16 s17
    refine sseq ?_
    refine sseq ?_
    refine sreg ?_
    refine s1 (mv rfl rfl) ?_
    refine s1 (mv rfl rfl) ?_
    refine s1 (lenL (f := L_wire_Piece) Tryd.underlying23 rfl rfl) ?_
    refine s1 (ltI rfl rfl rfl) ?_
    refine snil ?_
    refine pnm ?_
    refine scond rfl ?_ ?_
    · refine sskip ?_
      refine pnm ?_
      refine sseq ?_
      refine sblk ?_
      refine bd fun y18 h19 => ?_
      refine bd fun y20 h21 => ?_
      refine bd fun y22 h23 => ?_
      refine sdraw [⟨[3], [], [(11, .own 100)], []⟩, ⟨[0], [], [(12, sli 2 (List.map L_wire_Piece x0))], []⟩, ⟨[4], [], [(13, i64 s17.2)], []⟩, ⟨[12, 13], [], [(14, .ref (L_wire_Piece y18))], []⟩, ⟨[14], [], [(15, .ref (str y18.Name))], []⟩, ⟨[15], [], [(16, str y18.Name)], []⟩, ⟨[0], [], [(17, sli 2 (List.map L_wire_Piece x0))], []⟩, ⟨[4], [], [(18, i64 s17.2)], []⟩, ⟨[17, 18], [], [(19, .ref (L_wire_Piece y20))], []⟩, ⟨[19], [], [(20, .ref (str y20.Text))], []⟩, ⟨[20], [], [(21, str y20.Text)], []⟩, ⟨[16, 21], [], [(22, L_retrospectref48_Piece (⟨y18.Name, y20.Text⟩ : M_retrospectref48_Piece))], []⟩, ⟨[22], [101], [(23, .own 101)], [(101, .sl 77 2 (List.map L_retrospectref48_Piece ([(⟨y18.Name, y20.Text⟩ : M_retrospectref48_Piece)] : List M_retrospectref48_Piece)))]⟩, ⟨[11, 23], [100, 101, 102], [(24, .own 102)], [(102, .sl 77 2 (List.map L_retrospectref48_Piece y22)), (100, .gone)]⟩, ⟨[24], [], [(3, .own 102)], []⟩] fol (by kernel_rfl) ⟨fun st mm ⟨a3, _⟩ _ => og (mv rfl (a3.trans rfl)), fun st mm ⟨a0, _⟩ _ => og (mv rfl (a0.trans rfl)), fun st mm ⟨a4, _⟩ _ => og (mv rfl (a4.trans rfl)), fun st mm ⟨a12, a13, _⟩ _ => og (ixR (f := L_wire_Piece) Tryd.underlying23 ti_67 h19 rfl (a12.trans rfl) (a13.trans rfl)), fun st mm ⟨a14, _⟩ _ => og (faR fd_67_0 (by exact rfl) rfl (a14.trans rfl)), fun st mm ⟨a15, _⟩ _ => og (ldR sh_9 (by exact rfl) (by exact rfl) rfl (a15.trans rfl)), fun st mm ⟨a0, _⟩ _ => og (mv rfl (a0.trans rfl)), fun st mm ⟨a4, _⟩ _ => og (mv rfl (a4.trans rfl)), fun st mm ⟨a17, a18, _⟩ _ => og (ixR (f := L_wire_Piece) Tryd.underlying23 ti_67 h21 rfl (a17.trans rfl) (a18.trans rfl)), fun st mm ⟨a19, _⟩ _ => og (faR fd_67_1 (by exact rfl) rfl (a19.trans rfl)), fun st mm ⟨a20, _⟩ _ => og (ldR sh_9 (by exact rfl) (by exact rfl) rfl (a20.trans rfl)), fun st mm ⟨a16, a21, _⟩ _ => og (bld (l := [str y18.Name, str y20.Text]) pl_77 ti_77 zr_retrospectref48_Piece ⟨_, _, _, (a16.trans rfl), rfl, rfl, rfl, (szk (k := 1) rfl rfl), ⟨_, _, _, (a21.trans rfl), rfl, rfl, rfl, (szk (k := 1) rfl rfl), rfl⟩⟩ rfl), fun st mm ⟨a22, _⟩ ⟨g101, _⟩ => og (bsl (y := 101) (ls := List.map L_retrospectref48_Piece ([(⟨y18.Name, y20.Text⟩ : M_retrospectref48_Piece)] : List M_retrospectref48_Piece)) Tryd.underlying28 ti_77 rfl rfl rfl rfl rfl ⟨rfl, (a22.trans rfl), (by exact rfl), (by exact rfl), trivial⟩ (g101.trans rfl) rfl), fun st mm ⟨a11, a23, _⟩ ⟨g100, g101, g102, _⟩ => og (app (y := 102) (f := L_retrospectref48_Piece) h23 (g100.trans rfl) Tryd.underlying28 ti_77 rfl rfl (a11.trans rfl) (a23.trans rfl) (.inr ⟨_, _, rfl, (g101.trans rfl)⟩) (g102.trans rfl) rfl), fun st mm ⟨a24, _⟩ _ => og (asg rfl (a24.trans rfl)), trivial⟩ ?_
      refine pbn ?_
      refine pnm ?_
      refine sreg ?_
      refine s1 (mv rfl rfl) ?_
      refine s1 (addI rfl rfl (kI (x := 1) rfl)) ?_
      refine s1 (asg rfl rfl) ?_
      refine snil ?_
      exact sgo (entR [(100, 102)] rfl (keepS hγ trivial) ⟨⟨_, rfl⟩, trivial⟩ ⟨⟨_, _, rfl, rfl, rci (rc_sl (ifs_map (f := L_retrospectref48_Piece) (fun _ => if_L_retrospectref48_Piece) y22))⟩, trivial⟩ ⟨⟨_, rfl, rn_id if_sli⟩, ⟨_, rfl, rn_id if_sli⟩, ⟨_, rfl, rn_own rfl⟩, ⟨_, rfl, rn_id if_i64⟩, trivial⟩)
    · refine sexit ?_
      refine ptx ?_
      exact sout (fun h => by cases h) (sj (hj16 _) (entR [(100, 100)] rfl (keepS hγ trivial) ⟨⟨_, rfl⟩, trivial⟩ ⟨⟨_, _, rfl, rfl, rci (rc_sl (ifs_map (f := L_retrospectref48_Piece) (fun _ => if_L_retrospectref48_Piece) s17.1))⟩, trivial⟩ ⟨⟨_, rfl, rn_id if_sli⟩, ⟨_, rfl, rn_own rfl⟩, trivial⟩))
  · intro t15
    refine sx ?_
    refine pnm ?_
    refine sseq ?_
    refine sreg ?_
    refine s1 (mv rfl rfl) ?_
    refine s1 (asg rfl rfl) ?_
    refine snil ?_
    refine pnm ?_
    refine sret ?_
    refine frz (id := 100) [(2, sli 2 (List.map L_retrospectref48_Piece t15)), (3, sli 2 (List.map L_retrospectref48_Piece t15)), (25, sli 2 (List.map L_retrospectref48_Piece t15))] [] rfl (ifs_map (f := L_retrospectref48_Piece) (fun _ => if_L_retrospectref48_Piece) t15) ⟨⟨_, rfl, fz_own⟩, ⟨_, rfl, fz_own⟩, ⟨_, rfl, fz_own⟩, trivial⟩ trivial ?_
    exact ret [] [.tmp 2] [_] [_] .ret hγ (.inl rfl) rfl ⟨rfl, trivial⟩ rfl trivial trivial trivial (rns_cons (rn_id if_sli) (rns_nil)) rfl
theorem c_retrospectlaw48_Same {n : Nat} {x0 : (List M_retrospectref48_Piece)} {x1 : (List M_retrospectref48_Piece)} : ∀ r, m_retrospectlaw48_Same n x0 x1 = some r → FnOk Tryd.prog 10 [sli 2 (List.map L_retrospectref48_Piece x0), sli 2 (List.map L_retrospectref48_Piece x1)] [] (bl r) [] := by
  unfold m_retrospectlaw48_Same
  refine fn_of_sq (res := fun (r : Bool) => bl r) (mo := fun (r : Bool) => []) Tryd.func10 rfl rfl (by kernel_rfl) rfl ?_
  intro w S0 γ hγ
  refine sseq ?_
  refine sreg ?_
  refine s1 (asg rfl kB) ?_
  refine snil ?_
  refine pnm ?_
  refine sseq ?_
  refine sseq ?_
  refine sreg ?_
  refine s1 (mv rfl rfl) ?_
  refine s1 (lenL (f := L_retrospectref48_Piece) Tryd.underlying28 rfl rfl) ?_
  refine s1 (mv rfl rfl) ?_
  refine s1 (lenL (f := L_retrospectref48_Piece) Tryd.underlying28 rfl rfl) ?_
  refine s1 (neI rfl rfl rfl) ?_
  refine snil ?_
  refine pnm ?_
  refine scond rfl ?_ ?_
  · refine sseq ?_
    refine sreg ?_
    refine s1 (asg rfl kB) ?_
    refine snil ?_
    refine pnm ?_
    refine sret ?_
    refine pth ?_
    exact ret [] [.tmp 4] [_] [_] .ret hγ (.inl rfl) rfl ⟨rfl, trivial⟩ rfl trivial trivial trivial (rns_cons (rn_id if_bl) (rns_nil)) rfl
  · refine sskip ?_
    refine pnm ?_
    refine sseq ?_
    refine sseq ?_
    refine sreg ?_
    refine s1 (asg rfl (kI (x := 0) rfl)) ?_
    refine snil ?_
    refine pnm ?_
    refine sblk ?_
    refine sloopE 0 Lp.go (fun (s13 : Int) => [(0, sli 2 (List.map L_retrospectref48_Piece x0)), (1, sli 2 (List.map L_retrospectref48_Piece x1)), (4, bl false), (5, i64 s13)]) (fun (s13 : Int) => []) (fun (t11 : Unit) => [(4, bl false)]) (fun (t11 : Unit) => []) (entI ⟨rfl, rfl, rfl, rfl, trivial⟩ eqm0) ?_ ?_
    · intro hj12 s13
      refine sseq ?_
      refine sseq ?_
      refine sreg ?_
      refine s1 (mv rfl rfl) ?_
      refine s1 (mv rfl rfl) ?_
      refine s1 (lenL (f := L_retrospectref48_Piece) Tryd.underlying28 rfl rfl) ?_
      refine s1 (ltI rfl rfl rfl) ?_
      refine snil ?_
      refine pnm ?_
      refine scond rfl ?_ ?_
      · refine sskip ?_
        refine pnm ?_
        refine sseq ?_
        refine sblk ?_
        refine sseq ?_
        refine bd fun y14 h15 => ?_
        refine bd fun y16 h17 => ?_
        refine sdraw [⟨[0], [], [(17, sli 2 (List.map L_retrospectref48_Piece x0))], []⟩, ⟨[5], [], [(18, i64 s13)], []⟩, ⟨[17, 18], [], [(19, .ref (L_retrospectref48_Piece y14))], []⟩, ⟨[19], [], [(20, L_retrospectref48_Piece y14)], []⟩, ⟨[1], [], [(21, sli 2 (List.map L_retrospectref48_Piece x1))], []⟩, ⟨[5], [], [(22, i64 s13)], []⟩, ⟨[21, 22], [], [(23, .ref (L_retrospectref48_Piece y16))], []⟩, ⟨[23], [], [(24, L_retrospectref48_Piece y16)], []⟩, ⟨[20, 24], [], [(25, bl (!(eqb_retrospectref48_Piece y14 y16)))], []⟩] fol (by kernel_rfl) ⟨fun st mm ⟨a0, _⟩ _ => og (mv rfl (a0.trans rfl)), fun st mm ⟨a5, _⟩ _ => og (mv rfl (a5.trans rfl)), fun st mm ⟨a17, a18, _⟩ _ => og (ixR (f := L_retrospectref48_Piece) Tryd.underlying28 ti_77 h15 rfl (a17.trans rfl) (a18.trans rfl)), fun st mm ⟨a19, _⟩ _ => og (ldR sh_77 (by exact rfl) (by exact rfl) rfl (a19.trans rfl)), fun st mm ⟨a1, _⟩ _ => og (mv rfl (a1.trans rfl)), fun st mm ⟨a5, _⟩ _ => og (mv rfl (a5.trans rfl)), fun st mm ⟨a21, a22, _⟩ _ => og (ixR (f := L_retrospectref48_Piece) Tryd.underlying28 ti_77 h17 rfl (a21.trans rfl) (a22.trans rfl)), fun st mm ⟨a23, _⟩ _ => og (ldR sh_77 (by exact rfl) (by exact rfl) rfl (a23.trans rfl)), fun st mm ⟨a20, a24, _⟩ _ => og (neA (p := (y14 : M_retrospectref48_Piece)) (q := (y16 : M_retrospectref48_Piece)) eq_77_2 rfl eg_77 rfl (a20.trans rfl) (a24.trans rfl)), trivial⟩ ?_
        refine pnm ?_
        refine scond rfl ?_ ?_
        · refine sseq ?_
          refine sreg ?_
          refine s1 (asg rfl kB) ?_
          refine snil ?_
          refine pnm ?_
          refine sret ?_
          refine pbl ?_
          refine pth ?_
          refine sout (fun h => by cases h) ?_
          refine pbl ?_
          refine pth ?_
          exact ret [] [.tmp 4] [_] [_] .ret hγ (.inl rfl) rfl ⟨rfl, trivial⟩ rfl trivial trivial trivial (rns_cons (rn_id if_bl) (rns_nil)) rfl
        · refine sskip ?_
          refine pbn ?_
          refine pnm ?_
          refine sreg ?_
          refine s1 (mv rfl rfl) ?_
          refine s1 (addI rfl rfl (kI (x := 1) rfl)) ?_
          refine s1 (asg rfl rfl) ?_
          refine snil ?_
          exact sgo (entI ⟨rfl, rfl, rfl, rfl, trivial⟩ eqm0)
      · refine sexit ?_
        refine ptx ?_
        exact sout (fun h => by cases h) (sj (hj12 _) (entI ⟨rfl, trivial⟩ eqm0))
    · intro t11
      refine slpk ?_
      refine sx ?_
      refine pnm ?_
      refine sseq ?_
      refine sreg ?_
      refine s1 (asg rfl kB) ?_
      refine snil ?_
      refine pnm ?_
      refine sret ?_
      exact ret [] [.tmp 4] [_] [_] .ret hγ (.inl rfl) rfl ⟨rfl, trivial⟩ rfl trivial trivial trivial (rns_cons (rn_id if_bl) (rns_nil)) rfl
theorem c_retrospectlaw48_WireUnpacks {n : Nat} {x0 : (List UInt8)} : ∀ r, m_retrospectlaw48_WireUnpacks n x0 = some r → FnOk Tryd.prog 3 [str x0] [] (bl r) [] := by
  unfold m_retrospectlaw48_WireUnpacks
  refine fn_of_sq (res := fun (r : Bool) => bl r) (mo := fun (r : Bool) => []) Tryd.func3 rfl rfl (by kernel_rfl) rfl ?_
  intro w S0 γ hγ
  refine sseq ?_
  refine sreg ?_
  refine s1 (asg rfl kB) ?_
  refine snil ?_
  refine pnm ?_
  refine sseq ?_
  refine sseq ?_
  refine sreg ?_
  refine s1 (mv rfl rfl) ?_
  refine s1 (lenS Tryd.underlying9 rfl rfl) ?_
  refine s1 (gtI rfl rfl (kI (x := 3000) rfl)) ?_
  refine snil ?_
  refine pnm ?_
  refine scond rfl ?_ ?_
  · refine sseq ?_
    refine sreg ?_
    refine bd fun r1 h2 => ?_
    refine s1 (call0 (c_retrospectlaw48_works _ h2) trivial (if_bl) rfl) ?_
    refine s1 (asg rfl rfl) ?_
    refine snil ?_
    refine pnm ?_
    refine sret ?_
    refine pth ?_
    exact ret [] [.tmp 2] [_] [_] .ret hγ (.inl rfl) rfl ⟨rfl, trivial⟩ rfl trivial trivial trivial (rns_cons (rn_id if_bl) (rns_nil)) rfl
  · refine sskip ?_
    refine pnm ?_
    refine sseq ?_
    refine sreg ?_
    refine s1 (mv rfl rfl) ?_
    refine bd fun r3 h4 => ?_
    refine s1 (call0 (c_wire_Unpack _ h4) ⟨⟨_, rfl, rn_id if_str⟩, trivial⟩ (if_tup (ifs_cons if_sli (ifs_cons if_L_api_Fault (ifs_nil)))) rfl) ?_
    refine s1 (mv rfl rfl) ?_
    refine s1 (ext (by exact rfl) rfl rfl) ?_
    refine s1 (ext (by exact rfl) rfl rfl) ?_
    refine so (al (y := 100) (ly := L_api_Fault (⟨0, 0, 0, 0⟩ : M_api_Fault)) ti_25 zr_api_Fault rfl rfl) ?_
    refine s1 (asg rfl rfl) ?_
    refine so (stB2 (ly2 := L_api_Fault r3.2) [] (by exact rfl) rfl (by exact rfl) sh_25 (by exact rfl) (by exact rfl) (by exact rfl) rfl (.inr ⟨rfl, rfl, _, _, rfl⟩) rfl) ?_
    refine snil ?_
    refine pnm ?_
    refine sseq ?_
    refine sreg ?_
    refine s1 (mv rfl rfl) ?_
    refine bd fun r5 h6 => ?_
    refine s1 (call0 (c_retrospectref48_Unpack _ h6) ⟨⟨_, rfl, rn_id if_str⟩, trivial⟩ (if_tup (ifs_cons if_sli (ifs_cons if_L_A2_i64 (ifs_nil)))) rfl) ?_
    refine s1 (mv rfl rfl) ?_
    refine s1 (ext (by exact rfl) rfl rfl) ?_
    refine s1 (ext (by exact rfl) rfl rfl) ?_
    refine so (al (y := 101) (ly := L_A2_i64 (⟨0, 0⟩ : M_A2_i64)) ti_29 zr_A2_i64 rfl rfl) ?_
    refine s1 (asg rfl rfl) ?_
    refine so (stB2 (ly2 := L_A2_i64 r5.2) [] (by exact rfl) rfl (by exact rfl) sh_29 (by exact rfl) (by exact rfl) (by exact rfl) rfl (.inr ⟨rfl, rfl, _, _, rfl⟩) rfl) ?_
    refine snil ?_
    refine pnm ?_
    refine sjq (fun (s15 : Bool) => [(2, bl s15)]) (fun (s15 : Bool) => []) ?_ ?_
    · intro j13 hj14
      refine sreg ?_
      refine s1 (mv rfl rfl) ?_
      refine bd fun r16 h17 => ?_
      refine s1 (call0 (c_retrospectlaw48_Of _ h17) ⟨⟨_, rfl, rn_id if_sli⟩, trivial⟩ (if_sli) rfl) ?_
      refine s1 (mv rfl rfl) ?_
      refine bd fun r18 h19 => ?_
      refine s1 (call0 (c_retrospectlaw48_Same _ h19) ⟨⟨_, rfl, rn_id if_sli⟩, ⟨_, rfl, rn_id if_sli⟩, trivial⟩ (if_bl) rfl) ?_
      refine s1 (mv rfl rfl) ?_
      refine sifd 25 rfl ?_ ?_
      · refine sg 25 rfl rfl (ldB [] rfl rfl sh_25 (by exact rfl) (by exact rfl) rfl rfl (.inr ⟨rfl, rfl, _, _, rfl⟩)) ?_
        refine sg 25 rfl rfl (ixAO Tryd.underlying29 ti_3 rfl (.inr ⟨rfl, rfl, _, _, rfl⟩) rfl rfl (kI (x := 0) rfl)) ?_
        refine sg 25 rfl rfl (ldB [0] rfl (by exact rfl) sh_3 (by exact rfl) (by exact rfl) rfl rfl (.inl rfl)) ?_
        refine sg 25 rfl rfl (ixAO Tryd.underlying29 ti_3 rfl (.inr ⟨rfl, rfl, _, _, rfl⟩) rfl rfl (kI (x := 1) rfl)) ?_
        refine sg 25 rfl rfl (ldB [1] rfl (by exact rfl) sh_3 (by exact rfl) (by exact rfl) rfl rfl (.inl rfl)) ?_
        refine sg 25 rfl rfl (bld (l := [i64 r5.2.a0, i64 0, i64 0, i64 r5.2.a1]) pl_25 ti_25 zr_api_Fault ⟨_, _, _, rfl, rfl, rfl, rfl, (szk (k := 1) rfl rfl), ⟨_, _, _, rfl, rfl, rfl, rfl, (szk (k := 1) rfl rfl), rfl⟩⟩ rfl) ?_
        refine sg 25 rfl rfl (eqA (p := (r3.2 : M_api_Fault)) (q := ((⟨r5.2.a0, 0, 0, r5.2.a1⟩ : M_api_Fault) : M_api_Fault)) eq_25_2 rfl eg_25 rfl rfl rfl) ?_
        refine s1 (pickT rfl rfl rfl) ?_
        refine s1 (mv rfl rfl) ?_
        refine sifd 34 rfl ?_ ?_
        · refine bd fun r20 h21 => ?_
          refine sg 34 rfl rfl (call0 (c_retrospectlaw48_works _ h21) trivial (if_bl) rfl) ?_
          refine s1 (pickT rfl rfl rfl) ?_
          refine s1 (asg rfl rfl) ?_
          refine snil ?_
          refine pnm ?_
          exact sj (hj14 _) (entR [] rfl (keepS hγ trivial) (by exact trivial) (by exact trivial) ⟨⟨_, rfl, rn_id if_bl⟩, trivial⟩)
        · refine spB 34 rfl rfl rfl ?_
          refine s1 (pickF rfl rfl kB) ?_
          refine s1 (asg rfl rfl) ?_
          refine snil ?_
          refine pnm ?_
          exact sj (hj14 _) (entR [] rfl (keepS hγ trivial) (by exact trivial) (by exact trivial) ⟨⟨_, rfl, rn_id if_bl⟩, trivial⟩)
      · refine spB 25 rfl rfl rfl ?_
        refine spB 25 rfl rfl rfl ?_
        refine spB 25 rfl rfl rfl ?_
        refine spB 25 rfl rfl rfl ?_
        refine spB 25 rfl rfl rfl ?_
        refine spB 25 rfl rfl rfl ?_
        refine spB 25 rfl rfl rfl ?_
        refine s1 (pickF rfl rfl kB) ?_
        refine s1 (mv rfl rfl) ?_
        refine spB 34 rfl rfl rfl ?_
        refine s1 (pickF rfl rfl kB) ?_
        refine s1 (asg rfl rfl) ?_
        refine snil ?_
        refine pnm ?_
        exact sj (hj14 _) (entR [] rfl (keepS hγ trivial) (by exact trivial) (by exact trivial) ⟨⟨_, rfl, rn_id if_bl⟩, trivial⟩)
    · intro s15
      refine sret ?_
      exact ret [] [.tmp 2] [_] [_] .ret hγ (.inl rfl) rfl ⟨rfl, trivial⟩ rfl trivial trivial trivial (rns_cons (rn_id if_bl) (rns_nil)) rfl
end Go.Proofs.YtiobbiamnjapgaaDoor
