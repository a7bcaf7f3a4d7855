import Derived.Test.YtgafinimmcfekaaDoorGen2
set_option maxRecDepth 100000
set_option maxHeartbeats 4000000
namespace Go.Proofs.YtgafinimmcfekaaDoor
open Go Go.RowKit
theorem c_retrospectref19_Check {n : Nat} {x0 : M_retrospectref17_Field} {x1 : Int} {x2 : Int} : ∀ r, m_retrospectref19_Check n x0 x1 x2 = some r → FnOk Tryd.prog 21 [L_retrospectref17_Field x0, i64 x1, i64 x2] [] (.tup [bl r.1, L_A3_i64 r.2]) [] := by
  unfold m_retrospectref19_Check
  refine fn_of_sq (res := fun (r : Bool × M_A3_i64) => .tup [bl r.1, L_A3_i64 r.2]) (mo := fun (r : Bool × M_A3_i64) => []) Tryd.func21 rfl rfl (by kernel_rfl) rfl ?_
  intro w S0 γ hγ
  refine sseq ?_
  refine sreg ?_
  refine so (box (y := 100) (by exact rfl) rfl rfl rfl) ?_
  refine s1 (asg rfl kB) ?_
  refine so (al (y := 101) (ly := L_A3_i64 (⟨0, 0, 0⟩ : M_A3_i64)) ti_43 zr_A3_i64 rfl rfl) ?_
  refine snil ?_
  refine pnm ?_
  refine sseq ?_
  refine sjq (fun (s5 : Bool) => [(1, i64 x1), (2, i64 x2), (3, .own 100), (6, bl false), (7, .own 101), (45, bl s5)]) (fun (s5 : Bool) => [(100, .bx 41 (L_retrospectref17_Field x0)), (101, .bx 43 (L_A3_i64 (⟨0, 0, 0⟩ : M_A3_i64)))]) ?_ ?_
  · intro j3 hj4
    refine sreg ?_
    refine s1 (mv rfl rfl) ?_
    refine s1 (ltI rfl rfl (kI (x := 1) rfl)) ?_
    refine s1 (mv rfl rfl) ?_
    refine sifd 16 rfl ?_ ?_
    · refine spB 16 rfl rfl rfl ?_
      refine spB 16 rfl rfl rfl ?_
      refine s1 (pickT rfl rfl kB) ?_
      refine s1 (mv rfl rfl) ?_
      refine spB 20 rfl rfl rfl ?_
      refine spB 20 rfl rfl rfl ?_
      refine s1 (pickT rfl rfl kB) ?_
      refine s1 (mv rfl rfl) ?_
      refine spB 24 rfl rfl rfl ?_
      refine spB 24 rfl rfl rfl ?_
      refine s1 (pickT rfl rfl kB) ?_
      refine s1 (mv rfl rfl) ?_
      refine spB 28 rfl rfl rfl ?_
      refine spB 28 rfl rfl rfl ?_
      refine spB 28 rfl rfl rfl ?_
      refine spB 28 rfl rfl rfl ?_
      refine spB 28 rfl rfl rfl ?_
      refine s1 (pickT rfl rfl kB) ?_
      refine s1 (mv rfl rfl) ?_
      refine spB 35 rfl rfl rfl ?_
      refine spB 35 rfl rfl rfl ?_
      refine spB 35 rfl rfl rfl ?_
      refine spB 35 rfl rfl rfl ?_
      refine s1 (pickT rfl rfl kB) ?_
      refine s1 (mv rfl rfl) ?_
      refine spB 41 rfl rfl rfl ?_
      refine spB 41 rfl rfl rfl ?_
      refine spB 41 rfl rfl rfl ?_
      refine s1 (pickT rfl rfl kB) ?_
      refine snil ?_
      refine pnm ?_
      exact sj (hj4 _) (entR [(100, 100), (101, 101)] rfl (keepS hγ trivial) ⟨⟨_, rfl⟩, ⟨_, rfl⟩, trivial⟩ ⟨⟨_, _, rfl, rfl, rci (rc_bx (rn_id if_L_retrospectref17_Field))⟩, ⟨_, _, rfl, rfl, rci (rc_bx (rn_id if_L_A3_i64))⟩, trivial⟩ ⟨⟨_, rfl, rn_id if_i64⟩, ⟨_, rfl, rn_id if_i64⟩, ⟨_, rfl, rn_own rfl⟩, ⟨_, rfl, rn_id if_bl⟩, ⟨_, rfl, rn_own rfl⟩, ⟨_, rfl, rn_id if_bl⟩, trivial⟩)
    · refine sg 16 rfl rfl (mv rfl rfl) ?_
      refine sg 16 rfl rfl (gtI rfl rfl (kI (x := 6) rfl)) ?_
      refine s1 (pickF rfl rfl rfl) ?_
      refine s1 (mv rfl rfl) ?_
      refine sifd 20 rfl ?_ ?_
      · refine spB 20 rfl rfl rfl ?_
        refine spB 20 rfl rfl rfl ?_
        refine s1 (pickT rfl rfl kB) ?_
        refine s1 (mv rfl rfl) ?_
        refine spB 24 rfl rfl rfl ?_
        refine spB 24 rfl rfl rfl ?_
        refine s1 (pickT rfl rfl kB) ?_
        refine s1 (mv rfl rfl) ?_
        refine spB 28 rfl rfl rfl ?_
        refine spB 28 rfl rfl rfl ?_
        refine spB 28 rfl rfl rfl ?_
        refine spB 28 rfl rfl rfl ?_
        refine spB 28 rfl rfl rfl ?_
        refine s1 (pickT rfl rfl kB) ?_
        refine s1 (mv rfl rfl) ?_
        refine spB 35 rfl rfl rfl ?_
        refine spB 35 rfl rfl rfl ?_
        refine spB 35 rfl rfl rfl ?_
        refine spB 35 rfl rfl rfl ?_
        refine s1 (pickT rfl rfl kB) ?_
        refine s1 (mv rfl rfl) ?_
        refine spB 41 rfl rfl rfl ?_
        refine spB 41 rfl rfl rfl ?_
        refine spB 41 rfl rfl rfl ?_
        refine s1 (pickT rfl rfl kB) ?_
        refine snil ?_
        refine pnm ?_
        exact sj (hj4 _) (entR [(100, 100), (101, 101)] rfl (keepS hγ trivial) ⟨⟨_, rfl⟩, ⟨_, rfl⟩, trivial⟩ ⟨⟨_, _, rfl, rfl, rci (rc_bx (rn_id if_L_retrospectref17_Field))⟩, ⟨_, _, rfl, rfl, rci (rc_bx (rn_id if_L_A3_i64))⟩, trivial⟩ ⟨⟨_, rfl, rn_id if_i64⟩, ⟨_, rfl, rn_id if_i64⟩, ⟨_, rfl, rn_own rfl⟩, ⟨_, rfl, rn_id if_bl⟩, ⟨_, rfl, rn_own rfl⟩, ⟨_, rfl, rn_id if_bl⟩, trivial⟩)
      · refine sg 20 rfl rfl (mv rfl rfl) ?_
        refine sg 20 rfl rfl (ltI rfl rfl (kI (x := 0) rfl)) ?_
        refine s1 (pickF rfl rfl rfl) ?_
        refine s1 (mv rfl rfl) ?_
        refine sifd 24 rfl ?_ ?_
        · refine spB 24 rfl rfl rfl ?_
          refine spB 24 rfl rfl rfl ?_
          refine s1 (pickT rfl rfl kB) ?_
          refine s1 (mv rfl rfl) ?_
          refine spB 28 rfl rfl rfl ?_
          refine spB 28 rfl rfl rfl ?_
          refine spB 28 rfl rfl rfl ?_
          refine spB 28 rfl rfl rfl ?_
          refine spB 28 rfl rfl rfl ?_
          refine s1 (pickT rfl rfl kB) ?_
          refine s1 (mv rfl rfl) ?_
          refine spB 35 rfl rfl rfl ?_
          refine spB 35 rfl rfl rfl ?_
          refine spB 35 rfl rfl rfl ?_
          refine spB 35 rfl rfl rfl ?_
          refine s1 (pickT rfl rfl kB) ?_
          refine s1 (mv rfl rfl) ?_
          refine spB 41 rfl rfl rfl ?_
          refine spB 41 rfl rfl rfl ?_
          refine spB 41 rfl rfl rfl ?_
          refine s1 (pickT rfl rfl kB) ?_
          refine snil ?_
          refine pnm ?_
          exact sj (hj4 _) (entR [(100, 100), (101, 101)] rfl (keepS hγ trivial) ⟨⟨_, rfl⟩, ⟨_, rfl⟩, trivial⟩ ⟨⟨_, _, rfl, rfl, rci (rc_bx (rn_id if_L_retrospectref17_Field))⟩, ⟨_, _, rfl, rfl, rci (rc_bx (rn_id if_L_A3_i64))⟩, trivial⟩ ⟨⟨_, rfl, rn_id if_i64⟩, ⟨_, rfl, rn_id if_i64⟩, ⟨_, rfl, rn_own rfl⟩, ⟨_, rfl, rn_id if_bl⟩, ⟨_, rfl, rn_own rfl⟩, ⟨_, rfl, rn_id if_bl⟩, trivial⟩)
        · refine sg 24 rfl rfl (mv rfl rfl) ?_
          refine sg 24 rfl rfl (gtI rfl rfl (kI (x := 6) rfl)) ?_
          refine s1 (pickF rfl rfl rfl) ?_
          refine s1 (mv rfl rfl) ?_
          refine sifd 28 rfl ?_ ?_
          · refine spB 28 rfl rfl rfl ?_
            refine spB 28 rfl rfl rfl ?_
            refine spB 28 rfl rfl rfl ?_
            refine spB 28 rfl rfl rfl ?_
            refine spB 28 rfl rfl rfl ?_
            refine s1 (pickT rfl rfl kB) ?_
            refine s1 (mv rfl rfl) ?_
            refine spB 35 rfl rfl rfl ?_
            refine spB 35 rfl rfl rfl ?_
            refine spB 35 rfl rfl rfl ?_
            refine spB 35 rfl rfl rfl ?_
            refine s1 (pickT rfl rfl kB) ?_
            refine s1 (mv rfl rfl) ?_
            refine spB 41 rfl rfl rfl ?_
            refine spB 41 rfl rfl rfl ?_
            refine spB 41 rfl rfl rfl ?_
            refine s1 (pickT rfl rfl kB) ?_
            refine snil ?_
            refine pnm ?_
            exact sj (hj4 _) (entR [(100, 100), (101, 101)] rfl (keepS hγ trivial) ⟨⟨_, rfl⟩, ⟨_, rfl⟩, trivial⟩ ⟨⟨_, _, rfl, rfl, rci (rc_bx (rn_id if_L_retrospectref17_Field))⟩, ⟨_, _, rfl, rfl, rci (rc_bx (rn_id if_L_A3_i64))⟩, trivial⟩ ⟨⟨_, rfl, rn_id if_i64⟩, ⟨_, rfl, rn_id if_i64⟩, ⟨_, rfl, rn_own rfl⟩, ⟨_, rfl, rn_id if_bl⟩, ⟨_, rfl, rn_own rfl⟩, ⟨_, rfl, rn_id if_bl⟩, trivial⟩)
          · refine sg 28 rfl rfl (faO rfl fd_41_1 rfl rfl) ?_
            refine sg 28 rfl rfl (ldB [1] rfl (by exact rfl) sh_39 (by exact rfl) (by exact rfl) rfl rfl (.inl rfl)) ?_
            refine sg 28 rfl rfl (lenL (f := L_S_retrospectref17_Node) Tryd.underlying39 rfl rfl) ?_
            refine sg 28 rfl rfl (mv rfl rfl) ?_
            refine sg 28 rfl rfl (neI rfl rfl rfl) ?_
            refine s1 (pickF rfl rfl rfl) ?_
            refine s1 (mv rfl rfl) ?_
            refine sifd 35 rfl ?_ ?_
            · refine spB 35 rfl rfl rfl ?_
              refine spB 35 rfl rfl rfl ?_
              refine spB 35 rfl rfl rfl ?_
              refine spB 35 rfl rfl rfl ?_
              refine s1 (pickT rfl rfl kB) ?_
              refine s1 (mv rfl rfl) ?_
              refine spB 41 rfl rfl rfl ?_
              refine spB 41 rfl rfl rfl ?_
              refine spB 41 rfl rfl rfl ?_
              refine s1 (pickT rfl rfl kB) ?_
              refine snil ?_
              refine pnm ?_
              exact sj (hj4 _) (entR [(100, 100), (101, 101)] rfl (keepS hγ trivial) ⟨⟨_, rfl⟩, ⟨_, rfl⟩, trivial⟩ ⟨⟨_, _, rfl, rfl, rci (rc_bx (rn_id if_L_retrospectref17_Field))⟩, ⟨_, _, rfl, rfl, rci (rc_bx (rn_id if_L_A3_i64))⟩, trivial⟩ ⟨⟨_, rfl, rn_id if_i64⟩, ⟨_, rfl, rn_id if_i64⟩, ⟨_, rfl, rn_own rfl⟩, ⟨_, rfl, rn_id if_bl⟩, ⟨_, rfl, rn_own rfl⟩, ⟨_, rfl, rn_id if_bl⟩, trivial⟩)
            · refine sg 35 rfl rfl (faO rfl fd_41_0 rfl rfl) ?_
              refine sg 35 rfl rfl (ldB [0] rfl (by exact rfl) sh_38 (by exact rfl) (by exact rfl) rfl rfl (.inl rfl)) ?_
              refine sg 35 rfl rfl (lenL (f := L_retrospectref17_Let) Tryd.underlying38 rfl rfl) ?_
              refine sg 35 rfl rfl (gtI rfl rfl (kI (x := 10) rfl)) ?_
              refine s1 (pickF rfl rfl rfl) ?_
              refine s1 (mv rfl rfl) ?_
              refine sifd 41 rfl ?_ ?_
              · refine spB 41 rfl rfl rfl ?_
                refine spB 41 rfl rfl rfl ?_
                refine spB 41 rfl rfl rfl ?_
                refine s1 (pickT rfl rfl kB) ?_
                refine snil ?_
                refine pnm ?_
                exact sj (hj4 _) (entR [(100, 100), (101, 101)] rfl (keepS hγ trivial) ⟨⟨_, rfl⟩, ⟨_, rfl⟩, trivial⟩ ⟨⟨_, _, rfl, rfl, rci (rc_bx (rn_id if_L_retrospectref17_Field))⟩, ⟨_, _, rfl, rfl, rci (rc_bx (rn_id if_L_A3_i64))⟩, trivial⟩ ⟨⟨_, rfl, rn_id if_i64⟩, ⟨_, rfl, rn_id if_i64⟩, ⟨_, rfl, rn_own rfl⟩, ⟨_, rfl, rn_id if_bl⟩, ⟨_, rfl, rn_own rfl⟩, ⟨_, rfl, rn_id if_bl⟩, trivial⟩)
              · refine sg 41 rfl rfl (ldB [] rfl rfl sh_41 (by exact rfl) (by exact rfl) rfl rfl (.inr ⟨rfl, rfl, _, _, rfl⟩)) ?_
                refine bd fun r6 h7 => ?_
                refine sg 41 rfl rfl (call0 (c_retrospectref17_Size _ h7) ⟨⟨_, rfl, rn_id if_L_retrospectref17_Field⟩, trivial⟩ (if_i64) rfl) ?_
                refine sg 41 rfl rfl (gtI rfl rfl (kI (x := 300) rfl)) ?_
                refine s1 (pickF rfl rfl rfl) ?_
                refine snil ?_
                refine pnm ?_
                exact sj (hj4 _) (entR [(100, 100), (101, 101)] rfl (keepS hγ trivial) ⟨⟨_, rfl⟩, ⟨_, rfl⟩, trivial⟩ ⟨⟨_, _, rfl, rfl, rci (rc_bx (rn_id if_L_retrospectref17_Field))⟩, ⟨_, _, rfl, rfl, rci (rc_bx (rn_id if_L_A3_i64))⟩, trivial⟩ ⟨⟨_, rfl, rn_id if_i64⟩, ⟨_, rfl, rn_id if_i64⟩, ⟨_, rfl, rn_own rfl⟩, ⟨_, rfl, rn_id if_bl⟩, ⟨_, rfl, rn_own rfl⟩, ⟨_, rfl, rn_id if_bl⟩, trivial⟩)
  · intro s5
    refine scond rfl ?_ ?_
    · refine sseq ?_
      refine sreg ?_
      refine s1 (bldA (l := [i64 0, i64 0, i64 0]) Tryd.underlying43 ti_43 ti_3 zr_A3_i64 rfl rfl rfl) ?_
      refine s1 (asg rfl kB) ?_
      refine so (stB2 (ly2 := L_A3_i64 (⟨0, 0, 0⟩ : M_A3_i64)) [] (by exact rfl) rfl (by exact rfl) sh_43 (by exact rfl) (by exact rfl) (by exact rfl) rfl (.inr ⟨rfl, rfl, _, _, rfl⟩) rfl) ?_
      refine snil ?_
      refine pnm ?_
      refine sret ?_
      refine pth ?_
      exact ret [] [.tmp 6, .cell 7 43] [_, _] [_, _] .ret hγ (.inl rfl) rfl ⟨rfl, ⟨101, _, rfl, rfl, sh_43⟩, trivial⟩ rfl trivial trivial trivial (rns_cons (rn_id if_bl) (rns_cons (rn_id if_L_A3_i64) (rns_nil))) rfl
    · refine sskip ?_
      refine pnm ?_
      refine sseq ?_
      refine sreg ?_
      refine s1 (ldB [] rfl rfl sh_41 (by exact rfl) (by exact rfl) rfl rfl (.inr ⟨rfl, rfl, _, _, rfl⟩)) ?_
      refine bd fun r8 h9 => ?_
      refine s1 (call0 (c_retrospectref17_Codes _ h9) ⟨⟨_, rfl, rn_id if_L_retrospectref17_Field⟩, trivial⟩ (if_sli) rfl) ?_
      refine s1 (asg rfl rfl) ?_
      refine snil ?_
      refine pnm ?_
      refine sseq ?_
      refine sseq ?_
      refine sreg ?_
      refine s1 (asg rfl (kI (x := 0) rfl)) ?_
      refine snil ?_
      refine pnm ?_
      refine sblk ?_
      refine sloopE 0 Lp.go (fun (s190 : Int) => [(1, i64 x1), (2, i64 x2), (3, .own 100), (6, bl false), (7, .own 101), (8, sli 1 (List.map L_S_retrospectref17_Node r8)), (9, i64 s190)]) (fun (s190 : Int) => [(100, .bx 41 (L_retrospectref17_Field x0)), (101, .bx 43 (L_A3_i64 (⟨0, 0, 0⟩ : M_A3_i64)))]) (fun (t188 : Unit) => [(6, bl false), (7, .own 101)]) (fun (t188 : Unit) => [(101, .bx 43 (L_A3_i64 (⟨0, 0, 0⟩ : M_A3_i64)))]) (entR [(100, 100), (101, 101)] rfl (keepS hγ trivial) ⟨⟨_, rfl⟩, ⟨_, rfl⟩, trivial⟩ ⟨⟨_, _, rfl, rfl, rci (rc_bx (rn_id if_L_retrospectref17_Field))⟩, ⟨_, _, rfl, rfl, rci (rc_bx (rn_id if_L_A3_i64))⟩, trivial⟩ ⟨⟨_, rfl, rn_id if_i64⟩, ⟨_, rfl, rn_id if_i64⟩, ⟨_, rfl, rn_own rfl⟩, ⟨_, rfl, rn_id if_bl⟩, ⟨_, rfl, rn_own rfl⟩, ⟨_, rfl, rn_id if_sli⟩, ⟨_, rfl, rn_id if_i64⟩, trivial⟩) ?_ ?_
      · intro hj189 s190
        refine sseq ?_
        refine sseq ?_
        refine sreg ?_
        refine s1 (mv rfl rfl) ?_
        refine s1 (mv rfl rfl) ?_
        refine s1 (lenL (f := L_S_retrospectref17_Node) Tryd.underlying39 rfl rfl) ?_
        refine s1 (ltI rfl rfl rfl) ?_
        refine snil ?_
        refine pnm ?_
        refine scond rfl ?_ ?_
        · refine sskip ?_
          refine pnm ?_
          refine sseq ?_
          refine sblk ?_
          refine sseq ?_
          refine sreg ?_
          refine s1 (mv rfl rfl) ?_
          refine s1 (faO rfl fd_41_0 rfl rfl) ?_
          refine s1 (ldB [0] rfl (by exact rfl) sh_38 (by exact rfl) (by exact rfl) rfl rfl (.inl rfl)) ?_
          refine s1 (lenL (f := L_retrospectref17_Let) Tryd.underlying38 rfl rfl) ?_
          refine s1 (minI rfl rfl rfl) ?_
          refine s1 (asg rfl rfl) ?_
          refine snil ?_
          refine pnm ?_
          refine sjq (fun (s227 : Unit) => [(1, i64 x1), (2, i64 x2), (3, .own 100), (6, bl false), (7, .own 101), (8, sli 1 (List.map L_S_retrospectref17_Node r8)), (9, i64 s190), (10, i64 (min s190 (x0.Lets.length : Int)))]) (fun (s227 : Unit) => [(100, .bx 41 (L_retrospectref17_Field x0)), (101, .bx 43 (L_A3_i64 (⟨0, 0, 0⟩ : M_A3_i64)))]) ?_ ?_
          · intro j225 hj226
            refine sseq ?_
            refine sreg ?_
            refine s1 (mv rfl rfl) ?_
            refine s1 (faO rfl fd_41_0 rfl rfl) ?_
            refine s1 (ldB [0] rfl (by exact rfl) sh_38 (by exact rfl) (by exact rfl) rfl rfl (.inl rfl)) ?_
            refine s1 (lenL (f := L_retrospectref17_Let) Tryd.underlying38 rfl rfl) ?_
            refine s1 (ltI rfl rfl rfl) ?_
            refine snil ?_
            refine pnm ?_
            refine scond rfl ?_ ?_
            · refine sseq ?_
              refine sreg ?_
              refine s1 (faO rfl fd_41_0 rfl rfl) ?_
              refine s1 (ldB [0] rfl (by exact rfl) sh_38 (by exact rfl) (by exact rfl) rfl rfl (.inl rfl)) ?_
              refine s1 (mv rfl rfl) ?_
              refine bd fun y228 h229 => ?_
              refine s1 (ixR (f := L_retrospectref17_Let) Tryd.underlying38 ti_92 h229 rfl rfl rfl) ?_
              refine s1 (faR fd_92_0 (by exact rfl) rfl rfl) ?_
              refine s1 (ldR sh_9 (by exact rfl) (by exact rfl) rfl rfl) ?_
              refine bd fun r230 h231 => ?_
              refine s1 (call0 (c_retrospectref19_Name _ h231) ⟨⟨_, rfl, rn_id if_str⟩, trivial⟩ (if_bl) rfl) ?_
              refine s1 (asg rfl rfl) ?_
              refine snil ?_
              refine pnm ?_
              refine sseq ?_
              refine sseq ?_
              refine sreg ?_
              refine s1 (asg rfl (kI (x := 0) rfl)) ?_
              refine snil ?_
              refine pnm ?_
              refine sblk ?_
              refine sloopE 2 (fun t => t) (fun (s248 : Bool × Int) => [(1, i64 x1), (2, i64 x2), (3, .own 100), (6, bl false), (7, .own 101), (8, sli 1 (List.map L_S_retrospectref17_Node r8)), (9, i64 s190), (10, i64 (min s190 (x0.Lets.length : Int))), (11, bl s248.1), (12, i64 s248.2)]) (fun (s248 : Bool × Int) => [(100, .bx 41 (L_retrospectref17_Field x0)), (101, .bx 43 (L_A3_i64 (⟨0, 0, 0⟩ : M_A3_i64)))]) (fun (t246 : Bool) => [(1, i64 x1), (2, i64 x2), (3, .own 100), (6, bl false), (7, .own 101), (8, sli 1 (List.map L_S_retrospectref17_Node r8)), (9, i64 s190), (10, i64 (min s190 (x0.Lets.length : Int))), (11, bl t246)]) (fun (t246 : Bool) => [(100, .bx 41 (L_retrospectref17_Field x0)), (101, .bx 43 (L_A3_i64 (⟨0, 0, 0⟩ : M_A3_i64)))]) (entR [(100, 100), (101, 101)] rfl (keepS hγ trivial) ⟨⟨_, rfl⟩, ⟨_, rfl⟩, trivial⟩ ⟨⟨_, _, rfl, rfl, rci (rc_bx (rn_id if_L_retrospectref17_Field))⟩, ⟨_, _, rfl, rfl, rci (rc_bx (rn_id if_L_A3_i64))⟩, trivial⟩ ⟨⟨_, rfl, rn_id if_i64⟩, ⟨_, rfl, rn_id if_i64⟩, ⟨_, rfl, rn_own rfl⟩, ⟨_, rfl, rn_id if_bl⟩, ⟨_, rfl, rn_own rfl⟩, ⟨_, rfl, rn_id if_sli⟩, ⟨_, rfl, rn_id if_i64⟩, ⟨_, rfl, rn_id if_i64⟩, ⟨_, rfl, rn_id if_bl⟩, ⟨_, rfl, rn_id if_i64⟩, trivial⟩) ?_ ?_
              · intro hj247 s248
                refine sseq ?_
                refine sseq ?_
                refine sreg ?_
                refine s1 (mv rfl rfl) ?_
                refine s1 (mv rfl rfl) ?_
                refine s1 (ltI rfl rfl rfl) ?_
                refine snil ?_
                refine pnm ?_
                refine scond rfl ?_ ?_
                · refine sskip ?_
                  refine pnm ?_
                  refine sjq (fun (s256 : Bool) => [(1, i64 x1), (2, i64 x2), (3, .own 100), (6, bl false), (7, .own 101), (8, sli 1 (List.map L_S_retrospectref17_Node r8)), (9, i64 s190), (10, i64 (min s190 (x0.Lets.length : Int))), (11, bl s256), (12, i64 s248.2)]) (fun (s256 : Bool) => [(100, .bx 41 (L_retrospectref17_Field x0)), (101, .bx 43 (L_A3_i64 (⟨0, 0, 0⟩ : M_A3_i64)))]) ?_ ?_
                  · intro j254 hj255
                    refine sblk ?_
                    refine sif (fun hb257 => ?_) (fun hb257 => ?_)
                    · refine bd fun y258 h259 => ?_
                      refine bd fun y260 h261 => ?_
                      refine sdraw [⟨[11], [], [(77, bl s248.1)], []⟩, ⟨[77], [], [(78, bl true)], []⟩, ⟨[78, 3], [100], [(79, .ptr 100 0)], []⟩, ⟨[78, 79], [100], [(80, sli 2 (List.map L_retrospectref17_Let x0.Lets))], []⟩, ⟨[78, 12], [], [(81, i64 s248.2)], []⟩, ⟨[78, 80, 81], [], [(82, .ref (L_retrospectref17_Let y258))], []⟩, ⟨[78, 82], [], [(83, .ref (str y258.Name))], []⟩, ⟨[78, 83], [], [(84, str y258.Name)], []⟩, ⟨[78, 3], [100], [(85, .ptr 100 0)], []⟩, ⟨[78, 85], [100], [(86, sli 2 (List.map L_retrospectref17_Let x0.Lets))], []⟩, ⟨[78, 9], [], [(87, i64 s190)], []⟩, ⟨[78, 86, 87], [], [(88, .ref (L_retrospectref17_Let y260))], []⟩, ⟨[78, 88], [], [(89, .ref (str y260.Name))], []⟩, ⟨[78, 89], [], [(90, str y260.Name)], []⟩, ⟨[78, 84, 90], [], [(91, bl (!decide (y258.Name = y260.Name)))], []⟩, ⟨[78, 91], [], [(92, bl (!decide (y258.Name = y260.Name)))], []⟩, ⟨[92], [], [(11, bl (!decide (y258.Name = y260.Name)))], []⟩] fol (by kernel_rfl) ⟨fun st mm ⟨a11, _⟩ _ => og (mv rfl (a11.trans rfl)), fun st mm ⟨a77, _⟩ _ => og (okb hb257 (mv rfl (a77.trans rfl))), fun st mm ⟨a78, a3, _⟩ ⟨g100, _⟩ => ogG 78 rfl (a78.trans rfl) (faO (g100.trans rfl) fd_41_0 rfl (a3.trans rfl)), fun st mm ⟨a78, a79, _⟩ ⟨g100, _⟩ => ogG 78 rfl (a78.trans rfl) (ldB [0] (g100.trans rfl) (by exact rfl) sh_38 (by exact rfl) (by exact rfl) rfl (a79.trans rfl) (.inl rfl)), fun st mm ⟨a78, a12, _⟩ _ => ogG 78 rfl (a78.trans rfl) (mv rfl (a12.trans rfl)), fun st mm ⟨a78, a80, a81, _⟩ _ => ogG 78 rfl (a78.trans rfl) (ixR (f := L_retrospectref17_Let) Tryd.underlying38 ti_92 h259 rfl (a80.trans rfl) (a81.trans rfl)), fun st mm ⟨a78, a82, _⟩ _ => ogG 78 rfl (a78.trans rfl) (faR fd_92_0 (by exact rfl) rfl (a82.trans rfl)), fun st mm ⟨a78, a83, _⟩ _ => ogG 78 rfl (a78.trans rfl) (ldR sh_9 (by exact rfl) (by exact rfl) rfl (a83.trans rfl)), fun st mm ⟨a78, a3, _⟩ ⟨g100, _⟩ => ogG 78 rfl (a78.trans rfl) (faO (g100.trans rfl) fd_41_0 rfl (a3.trans rfl)), fun st mm ⟨a78, a85, _⟩ ⟨g100, _⟩ => ogG 78 rfl (a78.trans rfl) (ldB [0] (g100.trans rfl) (by exact rfl) sh_38 (by exact rfl) (by exact rfl) rfl (a85.trans rfl) (.inl rfl)), fun st mm ⟨a78, a9, _⟩ _ => ogG 78 rfl (a78.trans rfl) (mv rfl (a9.trans rfl)), fun st mm ⟨a78, a86, a87, _⟩ _ => ogG 78 rfl (a78.trans rfl) (ixR (f := L_retrospectref17_Let) Tryd.underlying38 ti_92 h261 rfl (a86.trans rfl) (a87.trans rfl)), fun st mm ⟨a78, a88, _⟩ _ => ogG 78 rfl (a78.trans rfl) (faR fd_92_0 (by exact rfl) rfl (a88.trans rfl)), fun st mm ⟨a78, a89, _⟩ _ => ogG 78 rfl (a78.trans rfl) (ldR sh_9 (by exact rfl) (by exact rfl) rfl (a89.trans rfl)), fun st mm ⟨a78, a84, a90, _⟩ _ => ogG 78 rfl (a78.trans rfl) (neS rfl (a84.trans rfl) (a90.trans rfl)), fun st mm ⟨a78, a91, _⟩ _ => og (pickT rfl (a78.trans rfl) (a91.trans rfl)), fun st mm ⟨a92, _⟩ _ => og (asg rfl (a92.trans rfl)), trivial⟩ ?_
                      refine pbn ?_
                      refine pnm ?_
                      exact sj (hj255 _) (entR [(100, 100), (101, 101)] rfl (keepS hγ trivial) ⟨⟨_, rfl⟩, ⟨_, rfl⟩, trivial⟩ ⟨⟨_, _, rfl, rfl, rci (rc_bx (rn_id if_L_retrospectref17_Field))⟩, ⟨_, _, rfl, rfl, rci (rc_bx (rn_id if_L_A3_i64))⟩, trivial⟩ ⟨⟨_, rfl, rn_id if_i64⟩, ⟨_, rfl, rn_id if_i64⟩, ⟨_, rfl, rn_own rfl⟩, ⟨_, rfl, rn_id if_bl⟩, ⟨_, rfl, rn_own rfl⟩, ⟨_, rfl, rn_id if_sli⟩, ⟨_, rfl, rn_id if_i64⟩, ⟨_, rfl, rn_id if_i64⟩, ⟨_, rfl, rn_id if_bl⟩, ⟨_, rfl, rn_id if_i64⟩, trivial⟩)
                    · refine sdraw [⟨[11], [], [(77, bl s248.1)], []⟩, ⟨[77], [], [(78, bl false)], []⟩, ⟨[78], [], [(79, .tup [])], []⟩, ⟨[78], [], [(80, .tup [])], []⟩, ⟨[78], [], [(81, .tup [])], []⟩, ⟨[78], [], [(82, .tup [])], []⟩, ⟨[78], [], [(83, .tup [])], []⟩, ⟨[78], [], [(84, .tup [])], []⟩, ⟨[78], [], [(85, .tup [])], []⟩, ⟨[78], [], [(86, .tup [])], []⟩, ⟨[78], [], [(87, .tup [])], []⟩, ⟨[78], [], [(88, .tup [])], []⟩, ⟨[78], [], [(89, .tup [])], []⟩, ⟨[78], [], [(90, .tup [])], []⟩, ⟨[78], [], [(91, .tup [])], []⟩, ⟨[78], [], [(92, bl false)], []⟩, ⟨[92], [], [(11, bl false)], []⟩] fol (by kernel_rfl) ⟨fun st mm ⟨a11, _⟩ _ => og (mv rfl (a11.trans rfl)), fun st mm ⟨a77, _⟩ _ => og (okb hb257 (mv rfl (a77.trans rfl))), fun st mm ⟨a78, _⟩ _ => ogB 78 rfl (a78.trans rfl) rfl, fun st mm ⟨a78, _⟩ _ => ogB 78 rfl (a78.trans rfl) rfl, fun st mm ⟨a78, _⟩ _ => ogB 78 rfl (a78.trans rfl) rfl, fun st mm ⟨a78, _⟩ _ => ogB 78 rfl (a78.trans rfl) rfl, fun st mm ⟨a78, _⟩ _ => ogB 78 rfl (a78.trans rfl) rfl, fun st mm ⟨a78, _⟩ _ => ogB 78 rfl (a78.trans rfl) rfl, fun st mm ⟨a78, _⟩ _ => ogB 78 rfl (a78.trans rfl) rfl, fun st mm ⟨a78, _⟩ _ => ogB 78 rfl (a78.trans rfl) rfl, fun st mm ⟨a78, _⟩ _ => ogB 78 rfl (a78.trans rfl) rfl, fun st mm ⟨a78, _⟩ _ => ogB 78 rfl (a78.trans rfl) rfl, fun st mm ⟨a78, _⟩ _ => ogB 78 rfl (a78.trans rfl) rfl, fun st mm ⟨a78, _⟩ _ => ogB 78 rfl (a78.trans rfl) rfl, fun st mm ⟨a78, _⟩ _ => ogB 78 rfl (a78.trans rfl) rfl, fun st mm ⟨a78, _⟩ _ => og (pickF rfl (a78.trans rfl) kB), fun st mm ⟨a92, _⟩ _ => og (asg rfl (a92.trans rfl)), trivial⟩ ?_
                      refine pbn ?_
                      refine pnm ?_
                      exact sj (hj255 _) (entR [(100, 100), (101, 101)] rfl (keepS hγ trivial) ⟨⟨_, rfl⟩, ⟨_, rfl⟩, trivial⟩ ⟨⟨_, _, rfl, rfl, rci (rc_bx (rn_id if_L_retrospectref17_Field))⟩, ⟨_, _, rfl, rfl, rci (rc_bx (rn_id if_L_A3_i64))⟩, trivial⟩ ⟨⟨_, rfl, rn_id if_i64⟩, ⟨_, rfl, rn_id if_i64⟩, ⟨_, rfl, rn_own rfl⟩, ⟨_, rfl, rn_id if_bl⟩, ⟨_, rfl, rn_own rfl⟩, ⟨_, rfl, rn_id if_sli⟩, ⟨_, rfl, rn_id if_i64⟩, ⟨_, rfl, rn_id if_i64⟩, ⟨_, rfl, rn_id if_bl⟩, ⟨_, rfl, rn_id if_i64⟩, trivial⟩)
                  · intro s256
                    refine sreg ?_
                    refine s1 (mv rfl rfl) ?_
                    refine s1 (addI rfl rfl (kI (x := 1) rfl)) ?_
                    refine s1 (asg rfl rfl) ?_
                    refine snil ?_
                    exact sgo (entR [(100, 100), (101, 101)] rfl (keepS hγ trivial) ⟨⟨_, rfl⟩, ⟨_, rfl⟩, trivial⟩ ⟨⟨_, _, rfl, rfl, rci (rc_bx (rn_id if_L_retrospectref17_Field))⟩, ⟨_, _, rfl, rfl, rci (rc_bx (rn_id if_L_A3_i64))⟩, trivial⟩ ⟨⟨_, rfl, rn_id if_i64⟩, ⟨_, rfl, rn_id if_i64⟩, ⟨_, rfl, rn_own rfl⟩, ⟨_, rfl, rn_id if_bl⟩, ⟨_, rfl, rn_own rfl⟩, ⟨_, rfl, rn_id if_sli⟩, ⟨_, rfl, rn_id if_i64⟩, ⟨_, rfl, rn_id if_i64⟩, ⟨_, rfl, rn_id if_bl⟩, ⟨_, rfl, rn_id if_i64⟩, trivial⟩)
                · refine sexit ?_
                  refine ptx ?_
                  exact sout (fun h => by cases h) (sj (hj247 _) (entR [(100, 100), (101, 101)] rfl (keepS hγ trivial) ⟨⟨_, rfl⟩, ⟨_, rfl⟩, trivial⟩ ⟨⟨_, _, rfl, rfl, rci (rc_bx (rn_id if_L_retrospectref17_Field))⟩, ⟨_, _, rfl, rfl, rci (rc_bx (rn_id if_L_A3_i64))⟩, trivial⟩ ⟨⟨_, rfl, rn_id if_i64⟩, ⟨_, rfl, rn_id if_i64⟩, ⟨_, rfl, rn_own rfl⟩, ⟨_, rfl, rn_id if_bl⟩, ⟨_, rfl, rn_own rfl⟩, ⟨_, rfl, rn_id if_sli⟩, ⟨_, rfl, rn_id if_i64⟩, ⟨_, rfl, rn_id if_i64⟩, ⟨_, rfl, rn_id if_bl⟩, trivial⟩))
              · intro t246
                refine sx ?_
                refine pnm ?_
                refine sseq ?_
                refine sreg ?_
                refine s1 (mv rfl rfl) ?_
                refine s1 (notB rfl rfl) ?_
                refine snil ?_
                refine pnm ?_
                refine scond rfl ?_ ?_
                · refine sseq ?_
                  refine sreg ?_
                  refine s1 (mv rfl rfl) ?_
                  refine s1 (addI rfl rfl (kI (x := 1) rfl)) ?_
                  refine s1 (bldA (l := [i64 (wrap64 (s190 + (1 : Int))), i64 (1 : Int), i64 (0 : Int)]) Tryd.underlying43 ti_43 ti_3 zr_A3_i64 rfl ⟨_, _, _, rfl, rfl, rfl, rfl, rfl, rfl, ⟨_, _, _, (kI (x := 1) rfl), rfl, rfl, rfl, rfl, rfl, ⟨_, _, _, (kI (x := 0) rfl), rfl, rfl, rfl, rfl, rfl, rfl⟩⟩⟩ rfl) ?_
                  refine s1 (asg rfl kB) ?_
                  refine so (stB2 (ly2 := L_A3_i64 (⟨wrap64 (s190 + (1 : Int)), (1 : Int), (0 : Int)⟩ : M_A3_i64)) [] (by exact rfl) rfl (by exact rfl) sh_43 (by exact rfl) (by exact rfl) (by exact rfl) rfl (.inr ⟨rfl, rfl, _, _, rfl⟩) rfl) ?_
                  refine snil ?_
                  refine pnm ?_
                  refine sret ?_
                  refine pth ?_
                  refine pbl ?_
                  refine pth ?_
                  refine sout (fun h => by cases h) ?_
                  refine pbl ?_
                  refine pth ?_
                  exact ret [] [.tmp 6, .cell 7 43] [_, _] [_, _] .ret hγ (.inl rfl) rfl ⟨rfl, ⟨101, _, rfl, rfl, sh_43⟩, trivial⟩ rfl trivial trivial trivial (rns_cons (rn_id if_bl) (rns_cons (rn_id if_L_A3_i64) (rns_nil))) rfl
                · refine sskip ?_
                  refine pnm ?_
                  exact sj (hj226 _) (entR [(100, 100), (101, 101)] rfl (keepS hγ trivial) ⟨⟨_, rfl⟩, ⟨_, rfl⟩, trivial⟩ ⟨⟨_, _, rfl, rfl, rci (rc_bx (rn_id if_L_retrospectref17_Field))⟩, ⟨_, _, rfl, rfl, rci (rc_bx (rn_id if_L_A3_i64))⟩, trivial⟩ ⟨⟨_, rfl, rn_id if_i64⟩, ⟨_, rfl, rn_id if_i64⟩, ⟨_, rfl, rn_own rfl⟩, ⟨_, rfl, rn_id if_bl⟩, ⟨_, rfl, rn_own rfl⟩, ⟨_, rfl, rn_id if_sli⟩, ⟨_, rfl, rn_id if_i64⟩, ⟨_, rfl, rn_id if_i64⟩, trivial⟩)
            · refine sskip ?_
              refine pnm ?_
              exact sj (hj226 _) (entR [(100, 100), (101, 101)] rfl (keepS hγ trivial) ⟨⟨_, rfl⟩, ⟨_, rfl⟩, trivial⟩ ⟨⟨_, _, rfl, rfl, rci (rc_bx (rn_id if_L_retrospectref17_Field))⟩, ⟨_, _, rfl, rfl, rci (rc_bx (rn_id if_L_A3_i64))⟩, trivial⟩ ⟨⟨_, rfl, rn_id if_i64⟩, ⟨_, rfl, rn_id if_i64⟩, ⟨_, rfl, rn_own rfl⟩, ⟨_, rfl, rn_id if_bl⟩, ⟨_, rfl, rn_own rfl⟩, ⟨_, rfl, rn_id if_sli⟩, ⟨_, rfl, rn_id if_i64⟩, ⟨_, rfl, rn_id if_i64⟩, trivial⟩)
          · intro s227
            refine sseq ?_
            refine sreg ?_
            refine s1 (mv rfl rfl) ?_
            refine s1 (mv rfl rfl) ?_
            refine bd fun y262 h263 => ?_
            refine s1 (ixR (f := L_S_retrospectref17_Node) Tryd.underlying39 ti_54 h263 rfl rfl rfl) ?_
            refine s1 (ldR sh_54 (by exact rfl) (by exact rfl) rfl rfl) ?_
            refine s1 (mv rfl rfl) ?_
            refine s1 (mv rfl rfl) ?_
            refine s1 (mv rfl rfl) ?_
            refine bd fun r264 h265 => ?_
            refine s1 (call0 (c_retrospectref19_Place _ h265) ⟨⟨_, rfl, rn_id if_sli⟩, ⟨_, rfl, rn_id if_i64⟩, ⟨_, rfl, rn_id if_i64⟩, ⟨_, rfl, rn_id if_i64⟩, trivial⟩ (if_i64) rfl) ?_
            refine s1 (asg rfl rfl) ?_
            refine snil ?_
            refine pnm ?_
            refine sseq ?_
            refine sseq ?_
            refine sreg ?_
            refine s1 (mv rfl rfl) ?_
            refine s1 (geI rfl rfl (kI (x := 0) rfl)) ?_
            refine snil ?_
            refine pnm ?_
            refine scond rfl ?_ ?_
            · refine sseq ?_
              refine sreg ?_
              refine s1 (mv rfl rfl) ?_
              refine s1 (addI rfl rfl (kI (x := 1) rfl)) ?_
              refine s1 (mv rfl rfl) ?_
              refine s1 (bldA (l := [i64 (wrap64 (s190 + (1 : Int))), i64 (0 : Int), i64 r264]) Tryd.underlying43 ti_43 ti_3 zr_A3_i64 rfl ⟨_, _, _, rfl, rfl, rfl, rfl, rfl, rfl, ⟨_, _, _, (kI (x := 0) rfl), rfl, rfl, rfl, rfl, rfl, ⟨_, _, _, rfl, rfl, rfl, rfl, rfl, rfl, rfl⟩⟩⟩ rfl) ?_
              refine s1 (asg rfl kB) ?_
              refine so (stB2 (ly2 := L_A3_i64 (⟨wrap64 (s190 + (1 : Int)), (0 : Int), r264⟩ : M_A3_i64)) [] (by exact rfl) rfl (by exact rfl) sh_43 (by exact rfl) (by exact rfl) (by exact rfl) rfl (.inr ⟨rfl, rfl, _, _, rfl⟩) rfl) ?_
              refine snil ?_
              refine pnm ?_
              refine sret ?_
              refine pth ?_
              refine pbl ?_
              refine pth ?_
              refine sout (fun h => by cases h) ?_
              refine pbl ?_
              refine pth ?_
              exact ret [] [.tmp 6, .cell 7 43] [_, _] [_, _] .ret hγ (.inl rfl) rfl ⟨rfl, ⟨101, _, rfl, rfl, sh_43⟩, trivial⟩ rfl trivial trivial trivial (rns_cons (rn_id if_bl) (rns_cons (rn_id if_L_A3_i64) (rns_nil))) rfl
            · refine sskip ?_
              refine pnm ?_
              refine sseq ?_
              refine sreg ?_
              refine s1 (mv rfl rfl) ?_
              refine s1 (mv rfl rfl) ?_
              refine bd fun y266 h267 => ?_
              refine s1 (ixR (f := L_S_retrospectref17_Node) Tryd.underlying39 ti_54 h267 rfl rfl rfl) ?_
              refine s1 (ldR sh_54 (by exact rfl) (by exact rfl) rfl rfl) ?_
              refine bd fun r268 h269 => ?_
              refine s1 (call0 (c_retrospectref17_Depth _ h269) ⟨⟨_, rfl, rn_id if_sli⟩, trivial⟩ (if_i64) rfl) ?_
              refine s1 (gtI rfl rfl (kI (x := 40) rfl)) ?_
              refine snil ?_
              refine pnm ?_
              refine scond rfl ?_ ?_
              · refine sseq ?_
                refine bd fun y270 h271 => ?_
                refine sdraw [⟨[9], [], [(118, i64 s190)], []⟩, ⟨[118], [], [(119, i64 (wrap64 (s190 + (1 : Int))))], []⟩, ⟨[8], [], [(120, sli 1 (List.map L_S_retrospectref17_Node r8))], []⟩, ⟨[9], [], [(121, i64 s190)], []⟩, ⟨[120, 121], [], [(122, .ref (sli 3 (List.map L_retrospectref17_Node y270)))], []⟩, ⟨[122], [], [(123, sli 3 (List.map L_retrospectref17_Node y270))], []⟩, ⟨[123], [], [(124, i64 (y270.length : Int))], []⟩, ⟨[119, 124], [], [(125, L_A3_i64 (⟨wrap64 (s190 + (1 : Int)), (0 : Int), (y270.length : Int)⟩ : M_A3_i64))], []⟩, ⟨[], [], [(6, bl true)], []⟩, ⟨[7, 125], [101], [], [(101, .bx 43 (L_A3_i64 (⟨wrap64 (s190 + (1 : Int)), (0 : Int), (y270.length : Int)⟩ : M_A3_i64)))]⟩] fol (by kernel_rfl) ⟨fun st mm ⟨a9, _⟩ _ => og (mv rfl (a9.trans rfl)), fun st mm ⟨a118, _⟩ _ => og (addI rfl (a118.trans rfl) (kI (x := 1) rfl)), fun st mm ⟨a8, _⟩ _ => og (mv rfl (a8.trans rfl)), fun st mm ⟨a9, _⟩ _ => og (mv rfl (a9.trans rfl)), fun st mm ⟨a120, a121, _⟩ _ => og (ixR (f := L_S_retrospectref17_Node) Tryd.underlying39 ti_54 h271 rfl (a120.trans rfl) (a121.trans rfl)), fun st mm ⟨a122, _⟩ _ => og (ldR sh_54 (by exact rfl) (by exact rfl) rfl (a122.trans rfl)), fun st mm ⟨a123, _⟩ _ => og (lenL (f := L_retrospectref17_Node) Tryd.underlying54 rfl (a123.trans rfl)), fun st mm ⟨a119, a124, _⟩ _ => og (bldA (l := [i64 (wrap64 (s190 + (1 : Int))), i64 (0 : Int), i64 (y270.length : Int)]) Tryd.underlying43 ti_43 ti_3 zr_A3_i64 rfl ⟨_, _, _, (a119.trans rfl), rfl, rfl, rfl, rfl, rfl, ⟨_, _, _, (kI (x := 0) rfl), rfl, rfl, rfl, rfl, rfl, ⟨_, _, _, (a124.trans rfl), rfl, rfl, rfl, rfl, rfl, rfl⟩⟩⟩ rfl), fun st mm _ _ => og (asg rfl kB), fun st mm ⟨a7, a125, _⟩ ⟨g101, _⟩ => og (stB2 (ly2 := L_A3_i64 (⟨wrap64 (s190 + (1 : Int)), (0 : Int), (y270.length : Int)⟩ : M_A3_i64)) [] (by exact rfl) (g101.trans rfl) (by exact rfl) sh_43 (by exact rfl) (by exact rfl) (by exact rfl) (a7.trans rfl) (.inr ⟨rfl, rfl, _, _, (g101.trans rfl)⟩) (a125.trans rfl)), trivial⟩ ?_
                refine pnm ?_
                refine sret ?_
                refine pbl ?_
                refine pth ?_
                refine sout (fun h => by cases h) ?_
                refine pbl ?_
                refine pth ?_
                exact ret [] [.tmp 6, .cell 7 43] [_, _] [_, _] .ret hγ (.inl rfl) rfl ⟨rfl, ⟨101, _, rfl, rfl, sh_43⟩, trivial⟩ rfl trivial trivial trivial (rns_cons (rn_id if_bl) (rns_cons (rn_id if_L_A3_i64) (rns_nil))) rfl
              · refine sskip ?_
                refine pbn ?_
                refine pnm ?_
                refine sreg ?_
                refine s1 (mv rfl rfl) ?_
                refine s1 (addI rfl rfl (kI (x := 1) rfl)) ?_
                refine s1 (asg rfl rfl) ?_
                refine snil ?_
                exact sgo (entR [(100, 100), (101, 101)] rfl (keepS hγ trivial) ⟨⟨_, rfl⟩, ⟨_, rfl⟩, trivial⟩ ⟨⟨_, _, rfl, rfl, rci (rc_bx (rn_id if_L_retrospectref17_Field))⟩, ⟨_, _, rfl, rfl, rci (rc_bx (rn_id if_L_A3_i64))⟩, trivial⟩ ⟨⟨_, rfl, rn_id if_i64⟩, ⟨_, rfl, rn_id if_i64⟩, ⟨_, rfl, rn_own rfl⟩, ⟨_, rfl, rn_id if_bl⟩, ⟨_, rfl, rn_own rfl⟩, ⟨_, rfl, rn_id if_sli⟩, ⟨_, rfl, rn_id if_i64⟩, trivial⟩)
        · refine sexit ?_
          refine ptx ?_
          exact sout (fun h => by cases h) (sj (hj189 _) (entR [(101, 101)] rfl (keepS hγ trivial) ⟨⟨_, rfl⟩, trivial⟩ ⟨⟨_, _, rfl, rfl, rci (rc_bx (rn_id if_L_A3_i64))⟩, trivial⟩ ⟨⟨_, rfl, rn_id if_bl⟩, ⟨_, rfl, rn_own rfl⟩, trivial⟩))
      · intro t188
        refine slpk ?_
        refine sx ?_
        refine pnm ?_
        refine sseq ?_
        refine sreg ?_
        refine s1 (bldA (l := [i64 0, i64 0, i64 0]) Tryd.underlying43 ti_43 ti_3 zr_A3_i64 rfl rfl rfl) ?_
        refine s1 (asg rfl kB) ?_
        refine so (stB2 (ly2 := L_A3_i64 (⟨0, 0, 0⟩ : M_A3_i64)) [] (by exact rfl) rfl (by exact rfl) sh_43 (by exact rfl) (by exact rfl) (by exact rfl) rfl (.inr ⟨rfl, rfl, _, _, rfl⟩) rfl) ?_
        refine snil ?_
        refine pnm ?_
        refine sret ?_
        exact ret [] [.tmp 6, .cell 7 43] [_, _] [_, _] .ret hγ (.inl rfl) rfl ⟨rfl, ⟨101, _, rfl, rfl, sh_43⟩, trivial⟩ rfl trivial trivial trivial (rns_cons (rn_id if_bl) (rns_cons (rn_id if_L_A3_i64) (rns_nil))) rfl
theorem c_retrospectlaw17_To {n : Nat} {x0 : (List M_retrospectref17_Node)} : ∀ r, m_retrospectlaw17_To n x0 = some r → FnOk Tryd.prog 26 [sli 3 (List.map L_retrospectref17_Node x0)] [] (sli 3 (List.map L_tree_Node r)) [] := by
  unfold m_retrospectlaw17_To
  refine fn_of_sq (res := fun (r : (List M_tree_Node)) => sli 3 (List.map L_tree_Node r)) (mo := fun (r : (List M_tree_Node)) => []) Tryd.func26 rfl rfl (by kernel_rfl) rfl ?_
  intro w S0 γ hγ
  refine sseq ?_
  refine sreg ?_
  refine s1 (asg rfl (kLm (k := 3) L_tree_Node)) ?_
  refine snil ?_
  refine pnm ?_
  refine sseq ?_
  refine sreg ?_
  refine so (asgN (y := 100) (E := 60) (k := 3) rfl rfl) ?_
  refine snil ?_
  refine pnm ?_
  refine sseq ?_
  refine sseq ?_
  refine sreg ?_
  refine s1 (asg rfl (kI (x := 0) rfl)) ?_
  refine snil ?_
  refine pnm ?_
  refine sblk ?_
  refine sloopE 0 (fun t => t) (fun (s21 : (List M_tree_Node) × Int) => [(0, sli 3 (List.map L_retrospectref17_Node x0)), (2, sli 3 (List.map L_tree_Node ([] : List M_tree_Node))), (3, .own 100), (4, i64 s21.2)]) (fun (s21 : (List M_tree_Node) × Int) => [(100, .sl 60 3 (List.map L_tree_Node s21.1))]) (fun (t19 : (List M_tree_Node)) => [(2, sli 3 (List.map L_tree_Node ([] : List M_tree_Node))), (3, .own 100)]) (fun (t19 : (List M_tree_Node)) => [(100, .sl 60 3 (List.map L_tree_Node t19))]) (entR [(100, 100)] rfl (keepS hγ trivial) ⟨⟨_, rfl⟩, trivial⟩ ⟨⟨_, _, rfl, rfl, rci (rc_sl (ifs_map (f := L_tree_Node) (fun _ => if_L_tree_Node) ([] : List M_tree_Node)))⟩, trivial⟩ ⟨⟨_, rfl, rn_id if_sli⟩, ⟨_, rfl, rn_id if_sli⟩, ⟨_, rfl, rn_own rfl⟩, ⟨_, rfl, rn_id if_i64⟩, trivial⟩) ?_ ?_
  · intro hj20 s21
    refine sseq ?_
    refine sseq ?_
    refine sreg ?_
    refine s1 (mv rfl rfl) ?_
    refine s1 (mv rfl rfl) ?_
    refine s1 (lenL (f := L_retrospectref17_Node) Tryd.underlying54 rfl rfl) ?_
    refine s1 (ltI rfl rfl rfl) ?_
    refine snil ?_
    refine pnm ?_
    refine scond rfl ?_ ?_
    · refine sskip ?_
      refine pnm ?_
      refine sseq ?_
      refine sblk ?_
      refine bd fun y22 h23 => ?_
      refine bd fun y24 h25 => ?_
      refine bd fun y26 h27 => ?_
      refine bd fun y28 h29 => ?_
      refine sdraw [⟨[3], [], [(11, .own 100)], []⟩, ⟨[0], [], [(12, sli 3 (List.map L_retrospectref17_Node x0))], []⟩, ⟨[4], [], [(13, i64 s21.2)], []⟩, ⟨[12, 13], [], [(14, .ref (L_retrospectref17_Node y22))], []⟩, ⟨[14], [], [(15, .ref (i64 y22.Op))], []⟩, ⟨[15], [], [(16, i64 y22.Op)], []⟩, ⟨[0], [], [(17, sli 3 (List.map L_retrospectref17_Node x0))], []⟩, ⟨[4], [], [(18, i64 s21.2)], []⟩, ⟨[17, 18], [], [(19, .ref (L_retrospectref17_Node y24))], []⟩, ⟨[19], [], [(20, .ref (i64 y24.I))], []⟩, ⟨[20], [], [(21, i64 y24.I)], []⟩, ⟨[0], [], [(22, sli 3 (List.map L_retrospectref17_Node x0))], []⟩, ⟨[4], [], [(23, i64 s21.2)], []⟩, ⟨[22, 23], [], [(24, .ref (L_retrospectref17_Node y26))], []⟩, ⟨[24], [], [(25, .ref (sli 1 (List.map u32 y26.N)))], []⟩, ⟨[25], [], [(26, sli 1 (List.map u32 y26.N))], []⟩, ⟨[16, 21, 26], [], [(27, L_tree_Node (⟨y22.Op, y24.I, y26.N⟩ : M_tree_Node))], []⟩, ⟨[27], [101], [(28, .own 101)], [(101, .sl 60 3 (List.map L_tree_Node ([(⟨y22.Op, y24.I, y26.N⟩ : M_tree_Node)] : List M_tree_Node)))]⟩, ⟨[11, 28], [100, 101, 102], [(29, .own 102)], [(102, .sl 60 3 (List.map L_tree_Node y28)), (100, .gone)]⟩, ⟨[29], [], [(3, .own 102)], []⟩] fol (by kernel_rfl) ⟨fun st mm ⟨a3, _⟩ _ => og (mv rfl (a3.trans rfl)), fun st mm ⟨a0, _⟩ _ => og (mv rfl (a0.trans rfl)), fun st mm ⟨a4, _⟩ _ => og (mv rfl (a4.trans rfl)), fun st mm ⟨a12, a13, _⟩ _ => og (ixR (f := L_retrospectref17_Node) Tryd.underlying54 ti_62 h23 rfl (a12.trans rfl) (a13.trans rfl)), fun st mm ⟨a14, _⟩ _ => og (faR fd_62_0 (by exact rfl) rfl (a14.trans rfl)), fun st mm ⟨a15, _⟩ _ => og (ldR sh_3 (by exact rfl) (by exact rfl) rfl (a15.trans rfl)), fun st mm ⟨a0, _⟩ _ => og (mv rfl (a0.trans rfl)), fun st mm ⟨a4, _⟩ _ => og (mv rfl (a4.trans rfl)), fun st mm ⟨a17, a18, _⟩ _ => og (ixR (f := L_retrospectref17_Node) Tryd.underlying54 ti_62 h25 rfl (a17.trans rfl) (a18.trans rfl)), fun st mm ⟨a19, _⟩ _ => og (faR fd_62_1 (by exact rfl) rfl (a19.trans rfl)), fun st mm ⟨a20, _⟩ _ => og (ldR sh_3 (by exact rfl) (by exact rfl) rfl (a20.trans rfl)), fun st mm ⟨a0, _⟩ _ => og (mv rfl (a0.trans rfl)), fun st mm ⟨a4, _⟩ _ => og (mv rfl (a4.trans rfl)), fun st mm ⟨a22, a23, _⟩ _ => og (ixR (f := L_retrospectref17_Node) Tryd.underlying54 ti_62 h27 rfl (a22.trans rfl) (a23.trans rfl)), fun st mm ⟨a24, _⟩ _ => og (faR fd_62_2 (by exact rfl) rfl (a24.trans rfl)), fun st mm ⟨a25, _⟩ _ => og (ldR sh_23 (by exact rfl) (by exact rfl) rfl (a25.trans rfl)), fun st mm ⟨a16, a21, a26, _⟩ _ => og (bld (l := [i64 y22.Op, i64 y24.I, sli 1 (List.map u32 y26.N)]) pl_60 ti_60 zr_tree_Node ⟨_, _, _, (a16.trans rfl), rfl, rfl, rfl, (szk (k := 1) rfl rfl), ⟨_, _, _, (a21.trans rfl), rfl, rfl, rfl, (szk (k := 1) rfl rfl), ⟨_, _, _, (a26.trans rfl), rfl, rfl, rfl, (szk (k := 1) rfl rfl), rfl⟩⟩⟩ rfl), fun st mm ⟨a27, _⟩ ⟨g101, _⟩ => og (bsl (y := 101) (ls := List.map L_tree_Node ([(⟨y22.Op, y24.I, y26.N⟩ : M_tree_Node)] : List M_tree_Node)) Tryd.underlying56 ti_60 rfl rfl rfl rfl rfl ⟨rfl, (a27.trans rfl), (by exact rfl), (by exact rfl), trivial⟩ (g101.trans rfl) rfl), fun st mm ⟨a11, a28, _⟩ ⟨g100, g101, g102, _⟩ => og (app (y := 102) (f := L_tree_Node) h29 (g100.trans rfl) Tryd.underlying56 ti_60 rfl rfl (a11.trans rfl) (a28.trans rfl) (.inr ⟨_, _, rfl, (g101.trans rfl)⟩) (g102.trans rfl) rfl), fun st mm ⟨a29, _⟩ _ => og (asg rfl (a29.trans rfl)), trivial⟩ ?_
      refine pbn ?_
      refine pnm ?_
      refine sreg ?_
      refine s1 (mv rfl rfl) ?_
      refine s1 (addI rfl rfl (kI (x := 1) rfl)) ?_
      refine s1 (asg rfl rfl) ?_
      refine snil ?_
      exact sgo (entR [(100, 102)] rfl (keepS hγ trivial) ⟨⟨_, rfl⟩, trivial⟩ ⟨⟨_, _, rfl, rfl, rci (rc_sl (ifs_map (f := L_tree_Node) (fun _ => if_L_tree_Node) y28))⟩, trivial⟩ ⟨⟨_, rfl, rn_id if_sli⟩, ⟨_, rfl, rn_id if_sli⟩, ⟨_, rfl, rn_own rfl⟩, ⟨_, rfl, rn_id if_i64⟩, trivial⟩)
    · refine sexit ?_
      refine ptx ?_
      exact sout (fun h => by cases h) (sj (hj20 _) (entR [(100, 100)] rfl (keepS hγ trivial) ⟨⟨_, rfl⟩, trivial⟩ ⟨⟨_, _, rfl, rfl, rci (rc_sl (ifs_map (f := L_tree_Node) (fun _ => if_L_tree_Node) s21.1))⟩, trivial⟩ ⟨⟨_, rfl, rn_id if_sli⟩, ⟨_, rfl, rn_own rfl⟩, trivial⟩))
  · intro t19
    refine sx ?_
    refine pnm ?_
    refine sseq ?_
    refine sreg ?_
    refine s1 (mv rfl rfl) ?_
    refine s1 (asg rfl rfl) ?_
    refine snil ?_
    refine pnm ?_
    refine sret ?_
    refine frz (id := 100) [(2, sli 3 (List.map L_tree_Node t19)), (3, sli 3 (List.map L_tree_Node t19)), (30, sli 3 (List.map L_tree_Node t19))] [] rfl (ifs_map (f := L_tree_Node) (fun _ => if_L_tree_Node) t19) ⟨⟨_, rfl, fz_own⟩, ⟨_, rfl, fz_own⟩, ⟨_, rfl, fz_own⟩, trivial⟩ trivial ?_
    exact ret [] [.tmp 2] [_] [_] .ret hγ (.inl rfl) rfl ⟨rfl, trivial⟩ rfl trivial trivial trivial (rns_cons (rn_id if_sli) (rns_nil)) rfl
theorem c_retrospectlaw17_ToField {n : Nat} {x0 : M_retrospectref17_Field} : ∀ r, m_retrospectlaw17_ToField n x0 = some r → FnOk Tryd.prog 23 [L_retrospectref17_Field x0] [] (L_tree_Field r) [] := by
  unfold m_retrospectlaw17_ToField
  refine fn_of_sq (res := fun (r : M_tree_Field) => L_tree_Field r) (mo := fun (r : M_tree_Field) => []) Tryd.func23 rfl rfl (by kernel_rfl) rfl ?_
  intro w S0 γ hγ
  refine sseq ?_
  refine sreg ?_
  refine so (box (y := 100) (by exact rfl) rfl rfl rfl) ?_
  refine so (al (y := 101) (ly := L_tree_Field (⟨[], []⟩ : M_tree_Field)) ti_50 zr_tree_Field rfl rfl) ?_
  refine snil ?_
  refine pnm ?_
  refine sseq ?_
  refine sreg ?_
  refine so (alOw (y := 102) (ly := .agg [.own 103, .own 104]) [(103, 98, 2), (104, 56, 1)] ti_50 (zo_agg (zos_cons (c1 := [.slice none 0 0]) (zo_own rfl) (zos_cons (c1 := [.slice none 0 0]) (zo_own rfl) (zos_nil)))) ⟨rfl, rfl, trivial⟩ rfl rfl rfl) ?_
  refine snil ?_
  refine pnm ?_
  refine sseq ?_
  refine sseq ?_
  refine sreg ?_
  refine s1 (asg rfl (kI (x := 0) rfl)) ?_
  refine snil ?_
  refine pnm ?_
  refine sblk ?_
  refine sloopE 0 (fun t => t) (fun (s12 : (List M_tree_Let) × Int) => [(1, .own 100), (2, .own 101), (3, .own 102), (4, i64 s12.2)]) (fun (s12 : (List M_tree_Let) × Int) => [(100, .bx 41 (L_retrospectref17_Field x0)), (101, .bx 50 (L_tree_Field (⟨[], []⟩ : M_tree_Field))), (102, .bx 50 (.agg [.own 103, .own 104])), (103, .sl 98 2 (List.map L_tree_Let s12.1)), (104, .sl 56 1 (List.map L_S_tree_Node ([] : List (List M_tree_Node))))]) (fun (t10 : (List M_tree_Let)) => [(1, .own 100), (2, .own 101), (3, .own 102)]) (fun (t10 : (List M_tree_Let)) => [(100, .bx 41 (L_retrospectref17_Field x0)), (101, .bx 50 (L_tree_Field (⟨[], []⟩ : M_tree_Field))), (102, .bx 50 (.agg [.own 103, .own 104])), (103, .sl 98 2 (List.map L_tree_Let t10)), (104, .sl 56 1 (List.map L_S_tree_Node ([] : List (List M_tree_Node))))]) (entR [(100, 100), (101, 101), (102, 102), (103, 103), (104, 104)] rfl (keepS hγ trivial) ⟨⟨_, rfl⟩, ⟨_, rfl⟩, ⟨_, rfl⟩, ⟨_, rfl⟩, ⟨_, rfl⟩, trivial⟩ ⟨⟨_, _, rfl, rfl, rci (rc_bx (rn_id if_L_retrospectref17_Field))⟩, ⟨_, _, rfl, rfl, rci (rc_bx (rn_id if_L_tree_Field))⟩, ⟨_, _, rfl, rfl, rci (rc_bx (rn_agg (rns_cons (rn_own rfl) (rns_cons (rn_own rfl) (rns_nil)))))⟩, ⟨_, _, rfl, rfl, rci (rc_sl (ifs_map (f := L_tree_Let) (fun _ => if_L_tree_Let) ([] : List M_tree_Let)))⟩, ⟨_, _, rfl, rfl, rci (rc_sl (ifs_map (f := L_S_tree_Node) (fun _ => if_sli) ([] : List (List M_tree_Node))))⟩, trivial⟩ ⟨⟨_, rfl, rn_own rfl⟩, ⟨_, rfl, rn_own rfl⟩, ⟨_, rfl, rn_own rfl⟩, ⟨_, rfl, rn_id if_i64⟩, trivial⟩) ?_ ?_
  · intro hj11 s12
    refine sseq ?_
    refine sseq ?_
    refine sreg ?_
    refine s1 (mv rfl rfl) ?_
    refine s1 (faO rfl fd_41_0 rfl rfl) ?_
    refine s1 (ldB [0] rfl (by exact rfl) sh_38 (by exact rfl) (by exact rfl) rfl rfl (.inl rfl)) ?_
    refine s1 (lenL (f := L_retrospectref17_Let) Tryd.underlying38 rfl rfl) ?_
    refine s1 (ltI rfl rfl rfl) ?_
    refine snil ?_
    refine pnm ?_
    refine scond rfl ?_ ?_
    · refine sskip ?_
      refine pnm ?_
      refine sseq ?_
      refine sblk ?_
      refine bd fun y13 h14 => ?_
      refine bd fun y15 h16 => ?_
      refine bd fun r17 h18 => ?_
      refine bd fun y19 h20 => ?_
      refine sdraw [⟨[3], [102], [(13, .ptr 102 0)], []⟩, ⟨[13], [102], [(14, .own 103)], []⟩, ⟨[1], [100], [(15, .ptr 100 0)], []⟩, ⟨[15], [100], [(16, sli 2 (List.map L_retrospectref17_Let x0.Lets))], []⟩, ⟨[4], [], [(17, i64 s12.2)], []⟩, ⟨[16, 17], [], [(18, .ref (L_retrospectref17_Let y13))], []⟩, ⟨[18], [], [(19, .ref (str y13.Name))], []⟩, ⟨[19], [], [(20, str y13.Name)], []⟩, ⟨[1], [100], [(21, .ptr 100 0)], []⟩, ⟨[21], [100], [(22, sli 2 (List.map L_retrospectref17_Let x0.Lets))], []⟩, ⟨[4], [], [(23, i64 s12.2)], []⟩, ⟨[22, 23], [], [(24, .ref (L_retrospectref17_Let y15))], []⟩, ⟨[24], [], [(25, .ref (sli 3 (List.map L_retrospectref17_Node y15.Code)))], []⟩, ⟨[25], [], [(26, sli 3 (List.map L_retrospectref17_Node y15.Code))], []⟩, ⟨[26], [], [(27, sli 3 (List.map L_tree_Node r17))], []⟩, ⟨[20, 27], [], [(28, L_tree_Let (⟨y13.Name, r17⟩ : M_tree_Let))], []⟩, ⟨[28], [105], [(29, .own 105)], [(105, .sl 98 2 (List.map L_tree_Let ([(⟨y13.Name, r17⟩ : M_tree_Let)] : List M_tree_Let)))]⟩, ⟨[14, 29], [103, 105, 106], [(30, .own 106)], [(106, .sl 98 2 (List.map L_tree_Let y19)), (103, .gone)]⟩, ⟨[3], [102], [(31, .ptr 102 0)], []⟩, ⟨[31, 30], [102], [], [(102, .bx 50 (.agg [.own 106, .own 104]))]⟩] fol (by kernel_rfl) ⟨fun st mm ⟨a3, _⟩ ⟨g102, _⟩ => og (faO (g102.trans rfl) fd_50_0 rfl (a3.trans rfl)), fun st mm ⟨a13, _⟩ ⟨g102, _⟩ => og (ldB [0] (g102.trans rfl) (by exact rfl) sh_47 (by exact rfl) (by exact rfl) rfl (a13.trans rfl) (.inl rfl)), fun st mm ⟨a1, _⟩ ⟨g100, _⟩ => og (faO (g100.trans rfl) fd_41_0 rfl (a1.trans rfl)), fun st mm ⟨a15, _⟩ ⟨g100, _⟩ => og (ldB [0] (g100.trans rfl) (by exact rfl) sh_38 (by exact rfl) (by exact rfl) rfl (a15.trans rfl) (.inl rfl)), fun st mm ⟨a4, _⟩ _ => og (mv rfl (a4.trans rfl)), fun st mm ⟨a16, a17, _⟩ _ => og (ixR (f := L_retrospectref17_Let) Tryd.underlying38 ti_92 h14 rfl (a16.trans rfl) (a17.trans rfl)), fun st mm ⟨a18, _⟩ _ => og (faR fd_92_0 (by exact rfl) rfl (a18.trans rfl)), fun st mm ⟨a19, _⟩ _ => og (ldR sh_9 (by exact rfl) (by exact rfl) rfl (a19.trans rfl)), fun st mm ⟨a1, _⟩ ⟨g100, _⟩ => og (faO (g100.trans rfl) fd_41_0 rfl (a1.trans rfl)), fun st mm ⟨a21, _⟩ ⟨g100, _⟩ => og (ldB [0] (g100.trans rfl) (by exact rfl) sh_38 (by exact rfl) (by exact rfl) rfl (a21.trans rfl) (.inl rfl)), fun st mm ⟨a4, _⟩ _ => og (mv rfl (a4.trans rfl)), fun st mm ⟨a22, a23, _⟩ _ => og (ixR (f := L_retrospectref17_Let) Tryd.underlying38 ti_92 h16 rfl (a22.trans rfl) (a23.trans rfl)), fun st mm ⟨a24, _⟩ _ => og (faR fd_92_1 (by exact rfl) rfl (a24.trans rfl)), fun st mm ⟨a25, _⟩ _ => og (ldR sh_54 (by exact rfl) (by exact rfl) rfl (a25.trans rfl)), fun st mm ⟨a26, _⟩ _ => og (call0 (c_retrospectlaw17_To _ h18) ⟨⟨_, (a26.trans rfl), rn_id if_sli⟩, trivial⟩ (if_sli) rfl), fun st mm ⟨a20, a27, _⟩ _ => og (bld (l := [str y13.Name, sli 3 (List.map L_tree_Node r17)]) pl_98 ti_98 zr_tree_Let ⟨_, _, _, (a20.trans rfl), rfl, rfl, rfl, (szk (k := 1) rfl rfl), ⟨_, _, _, (a27.trans rfl), rfl, rfl, rfl, (szk (k := 1) rfl rfl), rfl⟩⟩ rfl), fun st mm ⟨a28, _⟩ ⟨g105, _⟩ => og (bsl (y := 105) (ls := List.map L_tree_Let ([(⟨y13.Name, r17⟩ : M_tree_Let)] : List M_tree_Let)) Tryd.underlying47 ti_98 rfl rfl rfl rfl rfl ⟨rfl, (a28.trans rfl), (by exact rfl), (by exact rfl), trivial⟩ (g105.trans rfl) rfl), fun st mm ⟨a14, a29, _⟩ ⟨g103, g105, g106, _⟩ => og (app (y := 106) (f := L_tree_Let) h20 (g103.trans rfl) Tryd.underlying47 ti_98 rfl rfl (a14.trans rfl) (a29.trans rfl) (.inr ⟨_, _, rfl, (g105.trans rfl)⟩) (g106.trans rfl) rfl), fun st mm ⟨a3, _⟩ ⟨g102, _⟩ => og (faO (g102.trans rfl) fd_50_0 rfl (a3.trans rfl)), fun st mm ⟨a31, a30, _⟩ ⟨g102, _⟩ => og (stB2 (ly2 := .agg [.own 106, .own 104]) [0] (by exact rfl) (g102.trans rfl) (by exact rfl) sh_47 (by exact rfl) (by exact rfl) (by exact rfl) (a31.trans rfl) (.inl rfl) (a30.trans rfl)), trivial⟩ ?_
      refine pbn ?_
      refine pnm ?_
      refine sreg ?_
      refine s1 (mv rfl rfl) ?_
      refine s1 (addI rfl rfl (kI (x := 1) rfl)) ?_
      refine s1 (asg rfl rfl) ?_
      refine snil ?_
      exact sgo (entR [(100, 100), (101, 101), (102, 102), (103, 106), (104, 104)] rfl (keepS hγ trivial) ⟨⟨_, rfl⟩, ⟨_, rfl⟩, ⟨_, rfl⟩, ⟨_, rfl⟩, ⟨_, rfl⟩, trivial⟩ ⟨⟨_, _, rfl, rfl, rci (rc_bx (rn_id if_L_retrospectref17_Field))⟩, ⟨_, _, rfl, rfl, rci (rc_bx (rn_id if_L_tree_Field))⟩, ⟨_, _, rfl, rfl, rci (rc_bx (rn_agg (rns_cons (rn_own rfl) (rns_cons (rn_own rfl) (rns_nil)))))⟩, ⟨_, _, rfl, rfl, rci (rc_sl (ifs_map (f := L_tree_Let) (fun _ => if_L_tree_Let) y19))⟩, ⟨_, _, rfl, rfl, rci (rc_sl (ifs_map (f := L_S_tree_Node) (fun _ => if_sli) ([] : List (List M_tree_Node))))⟩, trivial⟩ ⟨⟨_, rfl, rn_own rfl⟩, ⟨_, rfl, rn_own rfl⟩, ⟨_, rfl, rn_own rfl⟩, ⟨_, rfl, rn_id if_i64⟩, trivial⟩)
    · refine sexit ?_
      refine ptx ?_
      exact sout (fun h => by cases h) (sj (hj11 _) (entR [(100, 100), (101, 101), (102, 102), (103, 103), (104, 104)] rfl (keepS hγ trivial) ⟨⟨_, rfl⟩, ⟨_, rfl⟩, ⟨_, rfl⟩, ⟨_, rfl⟩, ⟨_, rfl⟩, trivial⟩ ⟨⟨_, _, rfl, rfl, rci (rc_bx (rn_id if_L_retrospectref17_Field))⟩, ⟨_, _, rfl, rfl, rci (rc_bx (rn_id if_L_tree_Field))⟩, ⟨_, _, rfl, rfl, rci (rc_bx (rn_agg (rns_cons (rn_own rfl) (rns_cons (rn_own rfl) (rns_nil)))))⟩, ⟨_, _, rfl, rfl, rci (rc_sl (ifs_map (f := L_tree_Let) (fun _ => if_L_tree_Let) s12.1))⟩, ⟨_, _, rfl, rfl, rci (rc_sl (ifs_map (f := L_S_tree_Node) (fun _ => if_sli) ([] : List (List M_tree_Node))))⟩, trivial⟩ ⟨⟨_, rfl, rn_own rfl⟩, ⟨_, rfl, rn_own rfl⟩, ⟨_, rfl, rn_own rfl⟩, trivial⟩))
  · intro t10
    refine sx ?_
    refine pnm ?_
    refine sseq ?_
    refine sseq ?_
    refine sreg ?_
    refine s1 (asg rfl (kI (x := 0) rfl)) ?_
    refine snil ?_
    refine pnm ?_
    refine sblk ?_
    refine sloopE 2 (fun t => t) (fun (s37 : (List (List M_tree_Node)) × Int) => [(1, .own 100), (2, .own 101), (3, .own 102), (5, i64 s37.2)]) (fun (s37 : (List (List M_tree_Node)) × Int) => [(100, .bx 41 (L_retrospectref17_Field x0)), (101, .bx 50 (L_tree_Field (⟨[], []⟩ : M_tree_Field))), (102, .bx 50 (.agg [.own 103, .own 104])), (103, .sl 98 2 (List.map L_tree_Let t10)), (104, .sl 56 1 (List.map L_S_tree_Node s37.1))]) (fun (t35 : (List (List M_tree_Node))) => [(2, .own 101), (3, .own 102)]) (fun (t35 : (List (List M_tree_Node))) => [(101, .bx 50 (L_tree_Field (⟨[], []⟩ : M_tree_Field))), (102, .bx 50 (.agg [.own 103, .own 104])), (103, .sl 98 2 (List.map L_tree_Let t10)), (104, .sl 56 1 (List.map L_S_tree_Node t35))]) (entR [(100, 100), (101, 101), (102, 102), (103, 103), (104, 104)] rfl (keepS hγ trivial) ⟨⟨_, rfl⟩, ⟨_, rfl⟩, ⟨_, rfl⟩, ⟨_, rfl⟩, ⟨_, rfl⟩, trivial⟩ ⟨⟨_, _, rfl, rfl, rci (rc_bx (rn_id if_L_retrospectref17_Field))⟩, ⟨_, _, rfl, rfl, rci (rc_bx (rn_id if_L_tree_Field))⟩, ⟨_, _, rfl, rfl, rci (rc_bx (rn_agg (rns_cons (rn_own rfl) (rns_cons (rn_own rfl) (rns_nil)))))⟩, ⟨_, _, rfl, rfl, rci (rc_sl (ifs_map (f := L_tree_Let) (fun _ => if_L_tree_Let) t10))⟩, ⟨_, _, rfl, rfl, rci (rc_sl (ifs_map (f := L_S_tree_Node) (fun _ => if_sli) ([] : List (List M_tree_Node))))⟩, trivial⟩ ⟨⟨_, rfl, rn_own rfl⟩, ⟨_, rfl, rn_own rfl⟩, ⟨_, rfl, rn_own rfl⟩, ⟨_, rfl, rn_id if_i64⟩, trivial⟩) ?_ ?_
    · intro hj36 s37
      refine sseq ?_
      refine sseq ?_
      refine sreg ?_
      refine s1 (mv rfl rfl) ?_
      refine s1 (faO rfl fd_41_1 rfl rfl) ?_
      refine s1 (ldB [1] rfl (by exact rfl) sh_39 (by exact rfl) (by exact rfl) rfl rfl (.inl rfl)) ?_
      refine s1 (lenL (f := L_S_retrospectref17_Node) Tryd.underlying39 rfl rfl) ?_
      refine s1 (ltI rfl rfl rfl) ?_
      refine snil ?_
      refine pnm ?_
      refine scond rfl ?_ ?_
      · refine sskip ?_
        refine pnm ?_
        refine sseq ?_
        refine sblk ?_
        refine bd fun y38 h39 => ?_
        refine bd fun r40 h41 => ?_
        refine bd fun y42 h43 => ?_
        refine sdraw [⟨[3], [102], [(39, .ptr 102 1)], []⟩, ⟨[39], [102], [(40, .own 104)], []⟩, ⟨[1], [100], [(41, .ptr 100 1)], []⟩, ⟨[41], [100], [(42, sli 1 (List.map L_S_retrospectref17_Node x0.Outs))], []⟩, ⟨[5], [], [(43, i64 s37.2)], []⟩, ⟨[42, 43], [], [(44, .ref (sli 3 (List.map L_retrospectref17_Node y38)))], []⟩, ⟨[44], [], [(45, sli 3 (List.map L_retrospectref17_Node y38))], []⟩, ⟨[45], [], [(46, sli 3 (List.map L_tree_Node r40))], []⟩, ⟨[46], [105], [(47, .own 105)], [(105, .sl 56 1 (List.map L_S_tree_Node ([r40] : List (List M_tree_Node))))]⟩, ⟨[40, 47], [104, 105, 106], [(48, .own 106)], [(106, .sl 56 1 (List.map L_S_tree_Node y42)), (104, .gone)]⟩, ⟨[3], [102], [(49, .ptr 102 1)], []⟩, ⟨[49, 48], [102], [], [(102, .bx 50 (.agg [.own 103, .own 106]))]⟩] fol (by kernel_rfl) ⟨fun st mm ⟨a3, _⟩ ⟨g102, _⟩ => og (faO (g102.trans rfl) fd_50_1 rfl (a3.trans rfl)), fun st mm ⟨a39, _⟩ ⟨g102, _⟩ => og (ldB [1] (g102.trans rfl) (by exact rfl) sh_48 (by exact rfl) (by exact rfl) rfl (a39.trans rfl) (.inl rfl)), fun st mm ⟨a1, _⟩ ⟨g100, _⟩ => og (faO (g100.trans rfl) fd_41_1 rfl (a1.trans rfl)), fun st mm ⟨a41, _⟩ ⟨g100, _⟩ => og (ldB [1] (g100.trans rfl) (by exact rfl) sh_39 (by exact rfl) (by exact rfl) rfl (a41.trans rfl) (.inl rfl)), fun st mm ⟨a5, _⟩ _ => og (mv rfl (a5.trans rfl)), fun st mm ⟨a42, a43, _⟩ _ => og (ixR (f := L_S_retrospectref17_Node) Tryd.underlying39 ti_54 h39 rfl (a42.trans rfl) (a43.trans rfl)), fun st mm ⟨a44, _⟩ _ => og (ldR sh_54 (by exact rfl) (by exact rfl) rfl (a44.trans rfl)), fun st mm ⟨a45, _⟩ _ => og (call0 (c_retrospectlaw17_To _ h41) ⟨⟨_, (a45.trans rfl), rn_id if_sli⟩, trivial⟩ (if_sli) rfl), fun st mm ⟨a46, _⟩ ⟨g105, _⟩ => og (bsl (y := 105) (ls := List.map L_S_tree_Node ([r40] : List (List M_tree_Node))) Tryd.underlying48 ti_56 rfl rfl rfl rfl rfl ⟨rfl, (a46.trans rfl), (by exact rfl), (by exact rfl), trivial⟩ (g105.trans rfl) rfl), fun st mm ⟨a40, a47, _⟩ ⟨g104, g105, g106, _⟩ => og (app (y := 106) (f := L_S_tree_Node) h43 (g104.trans rfl) Tryd.underlying48 ti_56 rfl rfl (a40.trans rfl) (a47.trans rfl) (.inr ⟨_, _, rfl, (g105.trans rfl)⟩) (g106.trans rfl) rfl), fun st mm ⟨a3, _⟩ ⟨g102, _⟩ => og (faO (g102.trans rfl) fd_50_1 rfl (a3.trans rfl)), fun st mm ⟨a49, a48, _⟩ ⟨g102, _⟩ => og (stB2 (ly2 := .agg [.own 103, .own 106]) [1] (by exact rfl) (g102.trans rfl) (by exact rfl) sh_48 (by exact rfl) (by exact rfl) (by exact rfl) (a49.trans rfl) (.inl rfl) (a48.trans rfl)), trivial⟩ ?_
        refine pbn ?_
        refine pnm ?_
        refine sreg ?_
        refine s1 (mv rfl rfl) ?_
        refine s1 (addI rfl rfl (kI (x := 1) rfl)) ?_
        refine s1 (asg rfl rfl) ?_
        refine snil ?_
        exact sgo (entR [(100, 100), (101, 101), (102, 102), (103, 103), (104, 106)] rfl (keepS hγ trivial) ⟨⟨_, rfl⟩, ⟨_, rfl⟩, ⟨_, rfl⟩, ⟨_, rfl⟩, ⟨_, rfl⟩, trivial⟩ ⟨⟨_, _, rfl, rfl, rci (rc_bx (rn_id if_L_retrospectref17_Field))⟩, ⟨_, _, rfl, rfl, rci (rc_bx (rn_id if_L_tree_Field))⟩, ⟨_, _, rfl, rfl, rci (rc_bx (rn_agg (rns_cons (rn_own rfl) (rns_cons (rn_own rfl) (rns_nil)))))⟩, ⟨_, _, rfl, rfl, rci (rc_sl (ifs_map (f := L_tree_Let) (fun _ => if_L_tree_Let) t10))⟩, ⟨_, _, rfl, rfl, rci (rc_sl (ifs_map (f := L_S_tree_Node) (fun _ => if_sli) y42))⟩, trivial⟩ ⟨⟨_, rfl, rn_own rfl⟩, ⟨_, rfl, rn_own rfl⟩, ⟨_, rfl, rn_own rfl⟩, ⟨_, rfl, rn_id if_i64⟩, trivial⟩)
      · refine sexit ?_
        refine ptx ?_
        exact sout (fun h => by cases h) (sj (hj36 _) (entR [(101, 101), (102, 102), (103, 103), (104, 104)] rfl (keepS hγ trivial) ⟨⟨_, rfl⟩, ⟨_, rfl⟩, ⟨_, rfl⟩, ⟨_, rfl⟩, trivial⟩ ⟨⟨_, _, rfl, rfl, rci (rc_bx (rn_id if_L_tree_Field))⟩, ⟨_, _, rfl, rfl, rci (rc_bx (rn_agg (rns_cons (rn_own rfl) (rns_cons (rn_own rfl) (rns_nil)))))⟩, ⟨_, _, rfl, rfl, rci (rc_sl (ifs_map (f := L_tree_Let) (fun _ => if_L_tree_Let) t10))⟩, ⟨_, _, rfl, rfl, rci (rc_sl (ifs_map (f := L_S_tree_Node) (fun _ => if_sli) s37.1))⟩, trivial⟩ ⟨⟨_, rfl, rn_own rfl⟩, ⟨_, rfl, rn_own rfl⟩, trivial⟩))
    · intro t35
      refine sx ?_
      refine pnm ?_
      refine sseq ?_
      refine sreg ?_
      refine s1 (ldB [] rfl rfl sh_50 (by exact rfl) (by exact rfl) rfl rfl (.inr ⟨rfl, rfl, _, _, rfl⟩)) ?_
      refine so (stB2 (ly2 := .agg [.own 103, .own 104]) [] (by exact rfl) rfl (by exact rfl) sh_50 (by exact rfl) (by exact rfl) (by exact rfl) rfl (.inr ⟨rfl, rfl, _, _, rfl⟩) rfl) ?_
      refine snil ?_
      refine pnm ?_
      refine sret ?_
      refine frz (id := 103) [(50, .agg [sli 2 (List.map L_tree_Let t10), .own 104])] [(101, .bx 50 (.agg [sli 2 (List.map L_tree_Let t10), .own 104])), (102, .bx 50 (.agg [sli 2 (List.map L_tree_Let t10), .own 104]))] rfl (ifs_map (f := L_tree_Let) (fun _ => if_L_tree_Let) t10) ⟨⟨_, rfl, fz_agg (fzs_cons fz_own (fzs_cons fz_id (fzs_nil)))⟩, trivial⟩ ⟨⟨rfl, _, rfl, fz_agg (fzs_cons fz_own (fzs_cons fz_id (fzs_nil)))⟩, ⟨⟨rfl, _, rfl, fz_agg (fzs_cons fz_own (fzs_cons fz_id (fzs_nil)))⟩, trivial⟩⟩ ?_
      refine frz (id := 104) [(50, L_tree_Field (⟨t10, t35⟩ : M_tree_Field))] [(101, .bx 50 (L_tree_Field (⟨t10, t35⟩ : M_tree_Field))), (102, .bx 50 (L_tree_Field (⟨t10, t35⟩ : M_tree_Field)))] rfl (ifs_map (f := L_S_tree_Node) (fun _ => if_sli) t35) ⟨⟨_, rfl, fz_agg (fzs_cons fz_id (fzs_cons fz_own (fzs_nil)))⟩, trivial⟩ ⟨⟨rfl, _, rfl, fz_agg (fzs_cons fz_id (fzs_cons fz_own (fzs_nil)))⟩, ⟨⟨rfl, _, rfl, fz_agg (fzs_cons fz_id (fzs_cons fz_own (fzs_nil)))⟩, trivial⟩⟩ ?_
      exact ret [] [.cell 2 50] [_] [_] .ret hγ (.inl rfl) rfl ⟨⟨101, _, rfl, rfl, sh_50⟩, trivial⟩ rfl trivial trivial trivial (rns_cons (rn_id if_L_tree_Field) (rns_nil)) rfl
theorem c_retrospectlaw19_Fault {x0 : Bool} {x1 : M_A3_i64} : ∀ r, m_retrospectlaw19_Fault x0 x1 = some r → FnOk Tryd.prog 24 [bl x0, L_A3_i64 x1] [] (L_api_Fault r) [] := by
  unfold m_retrospectlaw19_Fault
  refine fn_of_sq (res := fun (r : M_api_Fault) => L_api_Fault r) (mo := fun (r : M_api_Fault) => []) Tryd.func24 rfl rfl (by kernel_rfl) rfl ?_
  intro w S0 γ hγ
  refine sseq ?_
  refine sreg ?_
  refine so (box (y := 100) (by exact rfl) rfl rfl rfl) ?_
  refine so (al (y := 101) (ly := L_api_Fault (⟨0, 0, 0, 0⟩ : M_api_Fault)) ti_25 zr_api_Fault rfl rfl) ?_
  refine snil ?_
  refine pnm ?_
  refine sseq ?_
  refine sseq ?_
  refine sreg ?_
  refine s1 (mv rfl rfl) ?_
  refine s1 (notB rfl rfl) ?_
  refine snil ?_
  refine pnm ?_
  refine scond rfl ?_ ?_
  · refine sseq ?_
    refine sreg ?_
    refine s1 (bld (l := [i64 0, i64 0, i64 0, i64 0]) pl_25 ti_25 zr_api_Fault rfl rfl) ?_
    refine so (stB2 (ly2 := L_api_Fault (⟨0, 0, 0, 0⟩ : M_api_Fault)) [] (by exact rfl) rfl (by exact rfl) sh_25 (by exact rfl) (by exact rfl) (by exact rfl) rfl (.inr ⟨rfl, rfl, _, _, rfl⟩) rfl) ?_
    refine snil ?_
    refine pnm ?_
    refine sret ?_
    refine pth ?_
    exact ret [] [.cell 4 25] [_] [_] .ret hγ (.inl rfl) rfl ⟨⟨101, _, rfl, rfl, sh_25⟩, trivial⟩ rfl trivial trivial trivial (rns_cons (rn_id if_L_api_Fault) (rns_nil)) rfl
  · refine sskip ?_
    refine pnm ?_
    refine sseq ?_
    refine sreg ?_
    refine s1 (ixAO Tryd.underlying43 ti_3 rfl (.inr ⟨rfl, rfl, _, _, rfl⟩) rfl rfl (kI (x := 0) rfl)) ?_
    refine s1 (ldB [0] rfl (by exact rfl) sh_3 (by exact rfl) (by exact rfl) rfl rfl (.inl rfl)) ?_
    refine s1 (ixAO Tryd.underlying43 ti_3 rfl (.inr ⟨rfl, rfl, _, _, rfl⟩) rfl rfl (kI (x := 1) rfl)) ?_
    refine s1 (ldB [1] rfl (by exact rfl) sh_3 (by exact rfl) (by exact rfl) rfl rfl (.inl rfl)) ?_
    refine s1 (ixAO Tryd.underlying43 ti_3 rfl (.inr ⟨rfl, rfl, _, _, rfl⟩) rfl rfl (kI (x := 2) rfl)) ?_
    refine s1 (ldB [2] rfl (by exact rfl) sh_3 (by exact rfl) (by exact rfl) rfl rfl (.inl rfl)) ?_
    refine s1 (bld (l := [i64 (2 : Int), i64 x1.a0, i64 x1.a1, i64 x1.a2]) pl_25 ti_25 zr_api_Fault ⟨_, _, _, (kI (x := 2) rfl), rfl, rfl, rfl, (szk (k := 1) rfl rfl), ⟨_, _, _, rfl, rfl, rfl, rfl, (szk (k := 1) rfl rfl), ⟨_, _, _, rfl, rfl, rfl, rfl, (szk (k := 1) rfl rfl), ⟨_, _, _, rfl, rfl, rfl, rfl, (szk (k := 1) rfl rfl), rfl⟩⟩⟩⟩ rfl) ?_
    refine so (stB2 (ly2 := L_api_Fault (⟨(2 : Int), x1.a0, x1.a1, x1.a2⟩ : M_api_Fault)) [] (by exact rfl) rfl (by exact rfl) sh_25 (by exact rfl) (by exact rfl) (by exact rfl) rfl (.inr ⟨rfl, rfl, _, _, rfl⟩) rfl) ?_
    refine snil ?_
    refine pnm ?_
    refine sret ?_
    exact ret [] [.cell 4 25] [_] [_] .ret hγ (.inl rfl) rfl ⟨⟨101, _, rfl, rfl, sh_25⟩, trivial⟩ rfl trivial trivial trivial (rns_cons (rn_id if_L_api_Fault) (rns_nil)) rfl
theorem c_retrospectlaw19_CheckFields {n : Nat} {x0 : M_retrospectref17_Field} {x1 : Int} {x2 : Int} : ∀ r, m_retrospectlaw19_CheckFields n x0 x1 x2 = some r → FnOk Tryd.prog 6 [L_retrospectref17_Field x0, i64 x1, i64 x2] [] (bl r) [] := by
  unfold m_retrospectlaw19_CheckFields
  refine fn_of_sq (res := fun (r : Bool) => bl r) (mo := fun (r : Bool) => []) Tryd.func6 rfl rfl (by kernel_rfl) rfl ?_
  intro w S0 γ hγ
  refine sseq ?_
  refine sreg ?_
  refine so (box (y := 100) (by exact rfl) rfl rfl rfl) ?_
  refine s1 (asg rfl kB) ?_
  refine snil ?_
  refine pnm ?_
  refine sseq ?_
  refine sseq ?_
  refine sreg ?_
  refine s1 (ldB [] rfl rfl sh_41 (by exact rfl) (by exact rfl) rfl rfl (.inr ⟨rfl, rfl, _, _, rfl⟩)) ?_
  refine bd fun r1 h2 => ?_
  refine s1 (call0 (c_retrospectref17_LongField _ h2) ⟨⟨_, rfl, rn_id if_L_retrospectref17_Field⟩, ⟨_, (kI (x := 12) rfl), rn_id if_i64⟩, ⟨_, (kI (x := 310) rfl), rn_id if_i64⟩, ⟨_, (kI (x := 9) rfl), rn_id if_i64⟩, trivial⟩ (if_bl) rfl) ?_
  refine snil ?_
  refine pnm ?_
  refine scond rfl ?_ ?_
  · refine sseq ?_
    refine sreg ?_
    refine bd fun r3 h4 => ?_
    refine s1 (call0 (c_retrospectlaw19_works _ h4) trivial (if_bl) rfl) ?_
    refine s1 (asg rfl rfl) ?_
    refine snil ?_
    refine pnm ?_
    refine sret ?_
    refine pth ?_
    exact ret [] [.tmp 6] [_] [_] .ret hγ (.inl rfl) rfl ⟨rfl, trivial⟩ rfl trivial trivial trivial (rns_cons (rn_id if_bl) (rns_nil)) rfl
  · refine sskip ?_
    refine pnm ?_
    refine sseq ?_
    refine sreg ?_
    refine s1 (ldB [] rfl rfl sh_41 (by exact rfl) (by exact rfl) rfl rfl (.inr ⟨rfl, rfl, _, _, rfl⟩)) ?_
    refine s1 (mv rfl rfl) ?_
    refine s1 (mv rfl rfl) ?_
    refine bd fun r5 h6 => ?_
    refine s1 (call0 (c_retrospectref19_Check _ h6) ⟨⟨_, rfl, rn_id if_L_retrospectref17_Field⟩, ⟨_, rfl, rn_id if_i64⟩, ⟨_, rfl, rn_id if_i64⟩, trivial⟩ (if_tup (ifs_cons if_bl (ifs_cons if_L_A3_i64 (ifs_nil)))) rfl) ?_
    refine s1 (mv rfl rfl) ?_
    refine s1 (ext (by exact rfl) rfl rfl) ?_
    refine s1 (ext (by exact rfl) rfl rfl) ?_
    refine so (al (y := 101) (ly := L_A3_i64 (⟨0, 0, 0⟩ : M_A3_i64)) ti_43 zr_A3_i64 rfl rfl) ?_
    refine s1 (asg rfl rfl) ?_
    refine so (stB2 (ly2 := L_A3_i64 r5.2) [] (by exact rfl) rfl (by exact rfl) sh_43 (by exact rfl) (by exact rfl) (by exact rfl) rfl (.inr ⟨rfl, rfl, _, _, rfl⟩) rfl) ?_
    refine snil ?_
    refine pnm ?_
    refine sjq (fun (s18 : Bool) => [(6, bl s18)]) (fun (s18 : Bool) => []) ?_ ?_
    · intro j16 hj17
      refine bd fun r19 h20 => ?_
      refine bd fun r21 h22 => ?_
      refine bd fun r23 h24 => ?_
      refine sif (fun hb25 => ?_) (fun hb25 => ?_)
      · refine bd fun r26 h27 => ?_
        refine sdraw [⟨[3], [100], [(19, L_retrospectref17_Field x0)], []⟩, ⟨[19], [], [(20, L_tree_Field r19)], []⟩, ⟨[1], [], [(21, i64 x1)], []⟩, ⟨[2], [], [(22, i64 x2)], []⟩, ⟨[20, 21, 22], [], [(23, L_api_Fault r21)], []⟩, ⟨[7], [], [(24, bl r5.1)], []⟩, ⟨[8], [101], [(25, L_A3_i64 r5.2)], []⟩, ⟨[24, 25], [], [(26, L_api_Fault r23)], []⟩, ⟨[23, 26], [], [(27, bl (eqb_api_Fault r21 r23))], []⟩, ⟨[27], [], [(28, bl true)], []⟩, ⟨[28], [], [(29, bl r26)], []⟩, ⟨[28, 29], [], [(30, bl r26)], []⟩, ⟨[30], [], [(6, bl r26)], []⟩] fol (by kernel_rfl) ⟨fun st mm ⟨a3, _⟩ ⟨g100, _⟩ => og (ldB [] (g100.trans rfl) rfl sh_41 (by exact rfl) (by exact rfl) rfl (a3.trans rfl) (.inr ⟨rfl, rfl, _, _, (g100.trans rfl)⟩)), fun st mm ⟨a19, _⟩ _ => og (call0 (c_retrospectlaw17_ToField _ h20) ⟨⟨_, (a19.trans rfl), rn_id if_L_retrospectref17_Field⟩, trivial⟩ (if_L_tree_Field) rfl), fun st mm ⟨a1, _⟩ _ => og (mv rfl (a1.trans rfl)), fun st mm ⟨a2, _⟩ _ => og (mv rfl (a2.trans rfl)), fun st mm ⟨a20, a21, a22, _⟩ _ => og (call0 (c_check_Check _ h22) ⟨⟨_, (a20.trans rfl), rn_id if_L_tree_Field⟩, ⟨_, (a21.trans rfl), rn_id if_i64⟩, ⟨_, (a22.trans rfl), rn_id if_i64⟩, trivial⟩ (if_L_api_Fault) rfl), fun st mm ⟨a7, _⟩ _ => og (mv rfl (a7.trans rfl)), fun st mm ⟨a8, _⟩ ⟨g101, _⟩ => og (ldB [] (g101.trans rfl) rfl sh_43 (by exact rfl) (by exact rfl) rfl (a8.trans rfl) (.inr ⟨rfl, rfl, _, _, (g101.trans rfl)⟩)), fun st mm ⟨a24, a25, _⟩ _ => og (call0 (c_retrospectlaw19_Fault _ h24) ⟨⟨_, (a24.trans rfl), rn_id if_bl⟩, ⟨_, (a25.trans rfl), rn_id if_L_A3_i64⟩, trivial⟩ (if_L_api_Fault) rfl), fun st mm ⟨a23, a26, _⟩ _ => og (eqA (p := (r21 : M_api_Fault)) (q := (r23 : M_api_Fault)) eq_25_2 rfl eg_25 rfl (a23.trans rfl) (a26.trans rfl)), fun st mm ⟨a27, _⟩ _ => og (okb hb25 (mv rfl (a27.trans rfl))), fun st mm ⟨a28, _⟩ _ => ogG 28 rfl (a28.trans rfl) (call0 (c_retrospectlaw19_works _ h27) trivial (if_bl) rfl), fun st mm ⟨a28, a29, _⟩ _ => og (pickT rfl (a28.trans rfl) (a29.trans rfl)), fun st mm ⟨a30, _⟩ _ => og (asg rfl (a30.trans rfl)), trivial⟩ ?_
        refine pnm ?_
        exact sj (hj17 _) (entR [] rfl (keepS hγ trivial) (by exact trivial) (by exact trivial) ⟨⟨_, rfl, rn_id if_bl⟩, trivial⟩)
      · refine sdraw [⟨[3], [100], [(19, L_retrospectref17_Field x0)], []⟩, ⟨[19], [], [(20, L_tree_Field r19)], []⟩, ⟨[1], [], [(21, i64 x1)], []⟩, ⟨[2], [], [(22, i64 x2)], []⟩, ⟨[20, 21, 22], [], [(23, L_api_Fault r21)], []⟩, ⟨[7], [], [(24, bl r5.1)], []⟩, ⟨[8], [101], [(25, L_A3_i64 r5.2)], []⟩, ⟨[24, 25], [], [(26, L_api_Fault r23)], []⟩, ⟨[23, 26], [], [(27, bl (eqb_api_Fault r21 r23))], []⟩, ⟨[27], [], [(28, bl false)], []⟩, ⟨[28], [], [(29, .tup [])], []⟩, ⟨[28], [], [(30, bl false)], []⟩, ⟨[30], [], [(6, bl false)], []⟩] fol (by kernel_rfl) ⟨fun st mm ⟨a3, _⟩ ⟨g100, _⟩ => og (ldB [] (g100.trans rfl) rfl sh_41 (by exact rfl) (by exact rfl) rfl (a3.trans rfl) (.inr ⟨rfl, rfl, _, _, (g100.trans rfl)⟩)), fun st mm ⟨a19, _⟩ _ => og (call0 (c_retrospectlaw17_ToField _ h20) ⟨⟨_, (a19.trans rfl), rn_id if_L_retrospectref17_Field⟩, trivial⟩ (if_L_tree_Field) rfl), fun st mm ⟨a1, _⟩ _ => og (mv rfl (a1.trans rfl)), fun st mm ⟨a2, _⟩ _ => og (mv rfl (a2.trans rfl)), fun st mm ⟨a20, a21, a22, _⟩ _ => og (call0 (c_check_Check _ h22) ⟨⟨_, (a20.trans rfl), rn_id if_L_tree_Field⟩, ⟨_, (a21.trans rfl), rn_id if_i64⟩, ⟨_, (a22.trans rfl), rn_id if_i64⟩, trivial⟩ (if_L_api_Fault) rfl), fun st mm ⟨a7, _⟩ _ => og (mv rfl (a7.trans rfl)), fun st mm ⟨a8, _⟩ ⟨g101, _⟩ => og (ldB [] (g101.trans rfl) rfl sh_43 (by exact rfl) (by exact rfl) rfl (a8.trans rfl) (.inr ⟨rfl, rfl, _, _, (g101.trans rfl)⟩)), fun st mm ⟨a24, a25, _⟩ _ => og (call0 (c_retrospectlaw19_Fault _ h24) ⟨⟨_, (a24.trans rfl), rn_id if_bl⟩, ⟨_, (a25.trans rfl), rn_id if_L_A3_i64⟩, trivial⟩ (if_L_api_Fault) rfl), fun st mm ⟨a23, a26, _⟩ _ => og (eqA (p := (r21 : M_api_Fault)) (q := (r23 : M_api_Fault)) eq_25_2 rfl eg_25 rfl (a23.trans rfl) (a26.trans rfl)), fun st mm ⟨a27, _⟩ _ => og (okb hb25 (mv rfl (a27.trans rfl))), fun st mm ⟨a28, _⟩ _ => ogB 28 rfl (a28.trans rfl) rfl, fun st mm ⟨a28, _⟩ _ => og (pickF rfl (a28.trans rfl) kB), fun st mm ⟨a30, _⟩ _ => og (asg rfl (a30.trans rfl)), trivial⟩ ?_
        refine pnm ?_
        exact sj (hj17 _) (entR [] rfl (keepS hγ trivial) (by exact trivial) (by exact trivial) ⟨⟨_, rfl, rn_id if_bl⟩, trivial⟩)
    · intro s18
      refine sret ?_
      exact ret [] [.tmp 6] [_] [_] .ret hγ (.inl rfl) rfl ⟨rfl, trivial⟩ rfl trivial trivial trivial (rns_cons (rn_id if_bl) (rns_nil)) rfl
theorem c_retrospectlaw19_CheckNodes {n : Nat} {x0 : (List M_retrospectref17_Node)} {x1 : M_A3_i64} {x2 : (List UInt8)} : ∀ r, m_retrospectlaw19_CheckNodes n x0 x1 x2 = some r → FnOk Tryd.prog 7 [sli 3 (List.map L_retrospectref17_Node x0), L_A3_i64 x1, str x2] [] (bl r) [] := by
  unfold m_retrospectlaw19_CheckNodes
  refine fn_of_sq (res := fun (r : Bool) => bl r) (mo := fun (r : Bool) => []) Tryd.func7 rfl rfl (by kernel_rfl) rfl ?_
  intro w S0 γ hγ
  refine sseq ?_
  refine sreg ?_
  refine so (box (y := 100) (by exact rfl) rfl rfl rfl) ?_
  refine s1 (asg rfl kB) ?_
  refine snil ?_
  refine pnm ?_
  refine sseq ?_
  refine sjq (fun (s5 : Bool) => [(0, sli 3 (List.map L_retrospectref17_Node x0)), (2, str x2), (4, .own 100), (6, bl false), (15, bl s5)]) (fun (s5 : Bool) => [(100, .bx 43 (L_A3_i64 x1))]) ?_ ?_
  · intro j3 hj4
    refine sreg ?_
    refine s1 (mv rfl rfl) ?_
    refine bd fun r6 h7 => ?_
    refine s1 (call0 (c_retrospectref17_Long _ h7) ⟨⟨_, rfl, rn_id if_sli⟩, ⟨_, (kI (x := 100) rfl), rn_id if_i64⟩, ⟨_, (kI (x := 9) rfl), rn_id if_i64⟩, trivial⟩ (if_bl) rfl) ?_
    refine s1 (mv rfl rfl) ?_
    refine sifd 11 rfl ?_ ?_
    · refine spB 11 rfl rfl rfl ?_
      refine spB 11 rfl rfl rfl ?_
      refine spB 11 rfl rfl rfl ?_
      refine s1 (pickT rfl rfl kB) ?_
      refine snil ?_
      refine pnm ?_
      exact sj (hj4 _) (entR [(100, 100)] rfl (keepS hγ trivial) ⟨⟨_, rfl⟩, trivial⟩ ⟨⟨_, _, rfl, rfl, rci (rc_bx (rn_id if_L_A3_i64))⟩, trivial⟩ ⟨⟨_, rfl, rn_id if_sli⟩, ⟨_, rfl, rn_id if_str⟩, ⟨_, rfl, rn_own rfl⟩, ⟨_, rfl, rn_id if_bl⟩, ⟨_, rfl, rn_id if_bl⟩, trivial⟩)
    · refine sg 11 rfl rfl (mv rfl rfl) ?_
      refine sg 11 rfl rfl (lenS Tryd.underlying9 rfl rfl) ?_
      refine sg 11 rfl rfl (gtI rfl rfl (kI (x := 100) rfl)) ?_
      refine s1 (pickF rfl rfl rfl) ?_
      refine snil ?_
      refine pnm ?_
      exact sj (hj4 _) (entR [(100, 100)] rfl (keepS hγ trivial) ⟨⟨_, rfl⟩, trivial⟩ ⟨⟨_, _, rfl, rfl, rci (rc_bx (rn_id if_L_A3_i64))⟩, trivial⟩ ⟨⟨_, rfl, rn_id if_sli⟩, ⟨_, rfl, rn_id if_str⟩, ⟨_, rfl, rn_own rfl⟩, ⟨_, rfl, rn_id if_bl⟩, ⟨_, rfl, rn_id if_bl⟩, trivial⟩)
  · intro s5
    refine scond rfl ?_ ?_
    · refine sseq ?_
      refine sreg ?_
      refine bd fun r8 h9 => ?_
      refine s1 (call0 (c_retrospectlaw19_works _ h9) trivial (if_bl) rfl) ?_
      refine s1 (asg rfl rfl) ?_
      refine snil ?_
      refine pnm ?_
      refine sret ?_
      refine pth ?_
      exact ret [] [.tmp 6] [_] [_] .ret hγ (.inl rfl) rfl ⟨rfl, trivial⟩ rfl trivial trivial trivial (rns_cons (rn_id if_bl) (rns_nil)) rfl
    · refine sskip ?_
      refine pnm ?_
      refine sseq ?_
      refine sreg ?_
      refine s1 (mv rfl rfl) ?_
      refine bd fun r10 h11 => ?_
      refine s1 (call0 (c_retrospectlaw17_To _ h11) ⟨⟨_, rfl, rn_id if_sli⟩, trivial⟩ (if_sli) rfl) ?_
      refine s1 (asg rfl rfl) ?_
      refine snil ?_
      refine pnm ?_
      refine sseq ?_
      refine sseq ?_
      refine sreg ?_
      refine s1 (asg rfl (kI (x := 0) rfl)) ?_
      refine snil ?_
      refine pnm ?_
      refine sblk ?_
      refine sloopE 0 Lp.go (fun (s32 : Int) => [(0, sli 3 (List.map L_retrospectref17_Node x0)), (2, str x2), (4, .own 100), (6, bl false), (7, sli 3 (List.map L_tree_Node r10)), (8, i64 s32)]) (fun (s32 : Int) => [(100, .bx 43 (L_A3_i64 x1))]) (fun (t30 : Unit) => [(0, sli 3 (List.map L_retrospectref17_Node x0)), (2, str x2), (4, .own 100), (6, bl false), (7, sli 3 (List.map L_tree_Node r10))]) (fun (t30 : Unit) => [(100, .bx 43 (L_A3_i64 x1))]) (entR [(100, 100)] rfl (keepS hγ trivial) ⟨⟨_, rfl⟩, trivial⟩ ⟨⟨_, _, rfl, rfl, rci (rc_bx (rn_id if_L_A3_i64))⟩, trivial⟩ ⟨⟨_, rfl, rn_id if_sli⟩, ⟨_, rfl, rn_id if_str⟩, ⟨_, rfl, rn_own rfl⟩, ⟨_, rfl, rn_id if_bl⟩, ⟨_, rfl, rn_id if_sli⟩, ⟨_, rfl, rn_id if_i64⟩, trivial⟩) ?_ ?_
      · intro hj31 s32
        refine sseq ?_
        refine sseq ?_
        refine sreg ?_
        refine s1 (mv rfl rfl) ?_
        refine s1 (mv rfl rfl) ?_
        refine s1 (lenL (f := L_retrospectref17_Node) Tryd.underlying54 rfl rfl) ?_
        refine s1 (ltI rfl rfl rfl) ?_
        refine snil ?_
        refine pnm ?_
        refine scond rfl ?_ ?_
        · refine sskip ?_
          refine pnm ?_
          refine sseq ?_
          refine sblk ?_
          refine sseq ?_
          refine bd fun y33 h34 => ?_
          refine bd fun r35 h36 => ?_
          refine bd fun y37 h38 => ?_
          refine bd fun r39 h40 => ?_
          refine sdraw [⟨[7], [], [(25, sli 3 (List.map L_tree_Node r10))], []⟩, ⟨[8], [], [(26, i64 s32)], []⟩, ⟨[25, 26], [], [(27, .ref (L_tree_Node y33))], []⟩, ⟨[27], [], [(28, L_tree_Node y33)], []⟩, ⟨[4], [100], [(29, .ptr 100 0)], []⟩, ⟨[29], [100], [(30, i64 x1.a0)], []⟩, ⟨[4], [100], [(31, .ptr 100 1)], []⟩, ⟨[31], [100], [(32, i64 x1.a1)], []⟩, ⟨[4], [100], [(33, .ptr 100 2)], []⟩, ⟨[33], [100], [(34, i64 x1.a2)], []⟩, ⟨[28, 30, 32, 34], [], [(35, bl r35)], []⟩, ⟨[0], [], [(36, sli 3 (List.map L_retrospectref17_Node x0))], []⟩, ⟨[8], [], [(37, i64 s32)], []⟩, ⟨[36, 37], [], [(38, .ref (L_retrospectref17_Node y37))], []⟩, ⟨[38], [], [(39, L_retrospectref17_Node y37)], []⟩, ⟨[4], [100], [(40, .ptr 100 0)], []⟩, ⟨[40], [100], [(41, i64 x1.a0)], []⟩, ⟨[4], [100], [(42, .ptr 100 1)], []⟩, ⟨[42], [100], [(43, i64 x1.a1)], []⟩, ⟨[4], [100], [(44, .ptr 100 2)], []⟩, ⟨[44], [100], [(45, i64 x1.a2)], []⟩, ⟨[39, 41, 43, 45], [], [(46, bl r39)], []⟩, ⟨[35, 46], [], [(47, bl (r35 != r39))], []⟩] fol (by kernel_rfl) ⟨fun st mm ⟨a7, _⟩ _ => og (mv rfl (a7.trans rfl)), fun st mm ⟨a8, _⟩ _ => og (mv rfl (a8.trans rfl)), fun st mm ⟨a25, a26, _⟩ _ => og (ixR (f := L_tree_Node) Tryd.underlying56 ti_60 h34 rfl (a25.trans rfl) (a26.trans rfl)), fun st mm ⟨a27, _⟩ _ => og (ldR sh_60 (by exact rfl) (by exact rfl) rfl (a27.trans rfl)), fun st mm ⟨a4, _⟩ ⟨g100, _⟩ => og (ixAO (id := 100) (k := 1) (off := 0) (p := 0) Tryd.underlying43 ti_3 rfl (.inr ⟨rfl, rfl, _, _, (g100.trans rfl)⟩) rfl (a4.trans rfl) (kI (x := 0) rfl)), fun st mm ⟨a29, _⟩ ⟨g100, _⟩ => og (ldB [0] (g100.trans rfl) (by exact rfl) sh_3 (by exact rfl) (by exact rfl) rfl (a29.trans rfl) (.inl rfl)), fun st mm ⟨a4, _⟩ ⟨g100, _⟩ => og (ixAO (id := 100) (k := 1) (off := 0) (p := 1) Tryd.underlying43 ti_3 rfl (.inr ⟨rfl, rfl, _, _, (g100.trans rfl)⟩) rfl (a4.trans rfl) (kI (x := 1) rfl)), fun st mm ⟨a31, _⟩ ⟨g100, _⟩ => og (ldB [1] (g100.trans rfl) (by exact rfl) sh_3 (by exact rfl) (by exact rfl) rfl (a31.trans rfl) (.inl rfl)), fun st mm ⟨a4, _⟩ ⟨g100, _⟩ => og (ixAO (id := 100) (k := 1) (off := 0) (p := 2) Tryd.underlying43 ti_3 rfl (.inr ⟨rfl, rfl, _, _, (g100.trans rfl)⟩) rfl (a4.trans rfl) (kI (x := 2) rfl)), fun st mm ⟨a33, _⟩ ⟨g100, _⟩ => og (ldB [2] (g100.trans rfl) (by exact rfl) sh_3 (by exact rfl) (by exact rfl) rfl (a33.trans rfl) (.inl rfl)), fun st mm ⟨a28, a30, a32, a34, _⟩ _ => og (call0 (c_check_Node _ h36) ⟨⟨_, (a28.trans rfl), rn_id if_L_tree_Node⟩, ⟨_, (a30.trans rfl), rn_id if_i64⟩, ⟨_, (a32.trans rfl), rn_id if_i64⟩, ⟨_, (a34.trans rfl), rn_id if_i64⟩, trivial⟩ (if_bl) rfl), fun st mm ⟨a0, _⟩ _ => og (mv rfl (a0.trans rfl)), fun st mm ⟨a8, _⟩ _ => og (mv rfl (a8.trans rfl)), fun st mm ⟨a36, a37, _⟩ _ => og (ixR (f := L_retrospectref17_Node) Tryd.underlying54 ti_62 h38 rfl (a36.trans rfl) (a37.trans rfl)), fun st mm ⟨a38, _⟩ _ => og (ldR sh_62 (by exact rfl) (by exact rfl) rfl (a38.trans rfl)), fun st mm ⟨a4, _⟩ ⟨g100, _⟩ => og (ixAO (id := 100) (k := 1) (off := 0) (p := 0) Tryd.underlying43 ti_3 rfl (.inr ⟨rfl, rfl, _, _, (g100.trans rfl)⟩) rfl (a4.trans rfl) (kI (x := 0) rfl)), fun st mm ⟨a40, _⟩ ⟨g100, _⟩ => og (ldB [0] (g100.trans rfl) (by exact rfl) sh_3 (by exact rfl) (by exact rfl) rfl (a40.trans rfl) (.inl rfl)), fun st mm ⟨a4, _⟩ ⟨g100, _⟩ => og (ixAO (id := 100) (k := 1) (off := 0) (p := 1) Tryd.underlying43 ti_3 rfl (.inr ⟨rfl, rfl, _, _, (g100.trans rfl)⟩) rfl (a4.trans rfl) (kI (x := 1) rfl)), fun st mm ⟨a42, _⟩ ⟨g100, _⟩ => og (ldB [1] (g100.trans rfl) (by exact rfl) sh_3 (by exact rfl) (by exact rfl) rfl (a42.trans rfl) (.inl rfl)), fun st mm ⟨a4, _⟩ ⟨g100, _⟩ => og (ixAO (id := 100) (k := 1) (off := 0) (p := 2) Tryd.underlying43 ti_3 rfl (.inr ⟨rfl, rfl, _, _, (g100.trans rfl)⟩) rfl (a4.trans rfl) (kI (x := 2) rfl)), fun st mm ⟨a44, _⟩ ⟨g100, _⟩ => og (ldB [2] (g100.trans rfl) (by exact rfl) sh_3 (by exact rfl) (by exact rfl) rfl (a44.trans rfl) (.inl rfl)), fun st mm ⟨a39, a41, a43, a45, _⟩ _ => og (call0 (c_retrospectref19_Node _ h40) ⟨⟨_, (a39.trans rfl), rn_id if_L_retrospectref17_Node⟩, ⟨_, (a41.trans rfl), rn_id if_i64⟩, ⟨_, (a43.trans rfl), rn_id if_i64⟩, ⟨_, (a45.trans rfl), rn_id if_i64⟩, trivial⟩ (if_bl) rfl), fun st mm ⟨a35, a46, _⟩ _ => og (neB Tryd.underlying4 rfl (a35.trans rfl) (a46.trans rfl)), trivial⟩ ?_
          refine pnm ?_
          refine scond rfl ?_ ?_
          · refine sseq ?_
            refine sreg ?_
            refine s1 (asg rfl kB) ?_
            refine snil ?_
            refine pnm ?_
            refine sret ?_
            refine pbl ?_
            refine pth ?_
            refine sout (fun h => by cases h) ?_
            refine pbl ?_
            refine pth ?_
            exact ret [] [.tmp 6] [_] [_] .ret hγ (.inl rfl) rfl ⟨rfl, trivial⟩ rfl trivial trivial trivial (rns_cons (rn_id if_bl) (rns_nil)) rfl
          · refine sskip ?_
            refine pbn ?_
            refine pnm ?_
            refine sreg ?_
            refine s1 (mv rfl rfl) ?_
            refine s1 (addI rfl rfl (kI (x := 1) rfl)) ?_
            refine s1 (asg rfl rfl) ?_
            refine snil ?_
            exact sgo (entR [(100, 100)] rfl (keepS hγ trivial) ⟨⟨_, rfl⟩, trivial⟩ ⟨⟨_, _, rfl, rfl, rci (rc_bx (rn_id if_L_A3_i64))⟩, trivial⟩ ⟨⟨_, rfl, rn_id if_sli⟩, ⟨_, rfl, rn_id if_str⟩, ⟨_, rfl, rn_own rfl⟩, ⟨_, rfl, rn_id if_bl⟩, ⟨_, rfl, rn_id if_sli⟩, ⟨_, rfl, rn_id if_i64⟩, trivial⟩)
        · refine sexit ?_
          refine ptx ?_
          exact sout (fun h => by cases h) (sj (hj31 _) (entR [(100, 100)] rfl (keepS hγ trivial) ⟨⟨_, rfl⟩, trivial⟩ ⟨⟨_, _, rfl, rfl, rci (rc_bx (rn_id if_L_A3_i64))⟩, trivial⟩ ⟨⟨_, rfl, rn_id if_sli⟩, ⟨_, rfl, rn_id if_str⟩, ⟨_, rfl, rn_own rfl⟩, ⟨_, rfl, rn_id if_bl⟩, ⟨_, rfl, rn_id if_sli⟩, trivial⟩))
      · intro t30
        refine slpk ?_
        refine sx ?_
        refine pnm ?_
        refine sjq (fun (s55 : Bool) => [(6, bl s55)]) (fun (s55 : Bool) => []) ?_ ?_
        · intro j53 hj54
          refine bd fun r56 h57 => ?_
          refine bd fun r58 h59 => ?_
          refine sif (fun hb60 => ?_) (fun hb60 => ?_)
          · refine bd fun r61 h62 => ?_
            refine bd fun r63 h64 => ?_
            refine sif (fun hb65 => ?_) (fun hb65 => ?_)
            · refine bd fun r66 h67 => ?_
              refine sdraw [⟨[7], [], [(48, sli 3 (List.map L_tree_Node r10))], []⟩, ⟨[4], [100], [(49, .ptr 100 0)], []⟩, ⟨[49], [100], [(50, i64 x1.a0)], []⟩, ⟨[4], [100], [(51, .ptr 100 1)], []⟩, ⟨[51], [100], [(52, i64 x1.a1)], []⟩, ⟨[4], [100], [(53, .ptr 100 2)], []⟩, ⟨[53], [100], [(54, i64 x1.a2)], []⟩, ⟨[48, 50, 52, 54], [], [(55, i64 r56)], []⟩, ⟨[0], [], [(56, sli 3 (List.map L_retrospectref17_Node x0))], []⟩, ⟨[4], [100], [(57, .ptr 100 0)], []⟩, ⟨[57], [100], [(58, i64 x1.a0)], []⟩, ⟨[4], [100], [(59, .ptr 100 1)], []⟩, ⟨[59], [100], [(60, i64 x1.a1)], []⟩, ⟨[4], [100], [(61, .ptr 100 2)], []⟩, ⟨[61], [100], [(62, i64 x1.a2)], []⟩, ⟨[56, 58, 60, 62], [], [(63, i64 r58)], []⟩, ⟨[55, 63], [], [(64, bl (decide (r56 = r58)))], []⟩, ⟨[64], [], [(65, bl true)], []⟩, ⟨[65, 2], [], [(66, str x2)], []⟩, ⟨[65, 66], [], [(67, bl r61)], []⟩, ⟨[65, 2], [], [(68, str x2)], []⟩, ⟨[65, 68], [], [(69, bl r63)], []⟩, ⟨[65, 67, 69], [], [(70, bl (r61 == r63))], []⟩, ⟨[65, 70], [], [(71, bl (r61 == r63))], []⟩, ⟨[71], [], [(72, bl true)], []⟩, ⟨[72], [], [(73, bl r66)], []⟩, ⟨[72, 73], [], [(74, bl r66)], []⟩, ⟨[74], [], [(6, bl r66)], []⟩] fol (by kernel_rfl) ⟨fun st mm ⟨a7, _⟩ _ => og (mv rfl (a7.trans rfl)), fun st mm ⟨a4, _⟩ ⟨g100, _⟩ => og (ixAO (id := 100) (k := 1) (off := 0) (p := 0) Tryd.underlying43 ti_3 rfl (.inr ⟨rfl, rfl, _, _, (g100.trans rfl)⟩) rfl (a4.trans rfl) (kI (x := 0) rfl)), fun st mm ⟨a49, _⟩ ⟨g100, _⟩ => og (ldB [0] (g100.trans rfl) (by exact rfl) sh_3 (by exact rfl) (by exact rfl) rfl (a49.trans rfl) (.inl rfl)), fun st mm ⟨a4, _⟩ ⟨g100, _⟩ => og (ixAO (id := 100) (k := 1) (off := 0) (p := 1) Tryd.underlying43 ti_3 rfl (.inr ⟨rfl, rfl, _, _, (g100.trans rfl)⟩) rfl (a4.trans rfl) (kI (x := 1) rfl)), fun st mm ⟨a51, _⟩ ⟨g100, _⟩ => og (ldB [1] (g100.trans rfl) (by exact rfl) sh_3 (by exact rfl) (by exact rfl) rfl (a51.trans rfl) (.inl rfl)), fun st mm ⟨a4, _⟩ ⟨g100, _⟩ => og (ixAO (id := 100) (k := 1) (off := 0) (p := 2) Tryd.underlying43 ti_3 rfl (.inr ⟨rfl, rfl, _, _, (g100.trans rfl)⟩) rfl (a4.trans rfl) (kI (x := 2) rfl)), fun st mm ⟨a53, _⟩ ⟨g100, _⟩ => og (ldB [2] (g100.trans rfl) (by exact rfl) sh_3 (by exact rfl) (by exact rfl) rfl (a53.trans rfl) (.inl rfl)), fun st mm ⟨a48, a50, a52, a54, _⟩ _ => og (call0 (c_check_Place _ h57) ⟨⟨_, (a48.trans rfl), rn_id if_sli⟩, ⟨_, (a50.trans rfl), rn_id if_i64⟩, ⟨_, (a52.trans rfl), rn_id if_i64⟩, ⟨_, (a54.trans rfl), rn_id if_i64⟩, trivial⟩ (if_i64) rfl), fun st mm ⟨a0, _⟩ _ => og (mv rfl (a0.trans rfl)), fun st mm ⟨a4, _⟩ ⟨g100, _⟩ => og (ixAO (id := 100) (k := 1) (off := 0) (p := 0) Tryd.underlying43 ti_3 rfl (.inr ⟨rfl, rfl, _, _, (g100.trans rfl)⟩) rfl (a4.trans rfl) (kI (x := 0) rfl)), fun st mm ⟨a57, _⟩ ⟨g100, _⟩ => og (ldB [0] (g100.trans rfl) (by exact rfl) sh_3 (by exact rfl) (by exact rfl) rfl (a57.trans rfl) (.inl rfl)), fun st mm ⟨a4, _⟩ ⟨g100, _⟩ => og (ixAO (id := 100) (k := 1) (off := 0) (p := 1) Tryd.underlying43 ti_3 rfl (.inr ⟨rfl, rfl, _, _, (g100.trans rfl)⟩) rfl (a4.trans rfl) (kI (x := 1) rfl)), fun st mm ⟨a59, _⟩ ⟨g100, _⟩ => og (ldB [1] (g100.trans rfl) (by exact rfl) sh_3 (by exact rfl) (by exact rfl) rfl (a59.trans rfl) (.inl rfl)), fun st mm ⟨a4, _⟩ ⟨g100, _⟩ => og (ixAO (id := 100) (k := 1) (off := 0) (p := 2) Tryd.underlying43 ti_3 rfl (.inr ⟨rfl, rfl, _, _, (g100.trans rfl)⟩) rfl (a4.trans rfl) (kI (x := 2) rfl)), fun st mm ⟨a61, _⟩ ⟨g100, _⟩ => og (ldB [2] (g100.trans rfl) (by exact rfl) sh_3 (by exact rfl) (by exact rfl) rfl (a61.trans rfl) (.inl rfl)), fun st mm ⟨a56, a58, a60, a62, _⟩ _ => og (call0 (c_retrospectref19_Place _ h59) ⟨⟨_, (a56.trans rfl), rn_id if_sli⟩, ⟨_, (a58.trans rfl), rn_id if_i64⟩, ⟨_, (a60.trans rfl), rn_id if_i64⟩, ⟨_, (a62.trans rfl), rn_id if_i64⟩, trivial⟩ (if_i64) rfl), fun st mm ⟨a55, a63, _⟩ _ => og (eqI rfl (a55.trans rfl) (a63.trans rfl)), fun st mm ⟨a64, _⟩ _ => og (okb hb60 (mv rfl (a64.trans rfl))), fun st mm ⟨a65, a2, _⟩ _ => ogG 65 rfl (a65.trans rfl) (mv rfl (a2.trans rfl)), fun st mm ⟨a65, a66, _⟩ _ => ogG 65 rfl (a65.trans rfl) (call0 (c_check_Name _ h62) ⟨⟨_, (a66.trans rfl), rn_id if_str⟩, trivial⟩ (if_bl) rfl), fun st mm ⟨a65, a2, _⟩ _ => ogG 65 rfl (a65.trans rfl) (mv rfl (a2.trans rfl)), fun st mm ⟨a65, a68, _⟩ _ => ogG 65 rfl (a65.trans rfl) (call0 (c_retrospectref19_Name _ h64) ⟨⟨_, (a68.trans rfl), rn_id if_str⟩, trivial⟩ (if_bl) rfl), fun st mm ⟨a65, a67, a69, _⟩ _ => ogG 65 rfl (a65.trans rfl) (eqB Tryd.underlying4 rfl (a67.trans rfl) (a69.trans rfl)), fun st mm ⟨a65, a70, _⟩ _ => og (pickT rfl (a65.trans rfl) (a70.trans rfl)), fun st mm ⟨a71, _⟩ _ => og (okb hb65 (mv rfl (a71.trans rfl))), fun st mm ⟨a72, _⟩ _ => ogG 72 rfl (a72.trans rfl) (call0 (c_retrospectlaw19_works _ h67) trivial (if_bl) rfl), fun st mm ⟨a72, a73, _⟩ _ => og (pickT rfl (a72.trans rfl) (a73.trans rfl)), fun st mm ⟨a74, _⟩ _ => og (asg rfl (a74.trans rfl)), trivial⟩ ?_
              refine pnm ?_
              exact sj (hj54 _) (entR [] rfl (keepS hγ trivial) (by exact trivial) (by exact trivial) ⟨⟨_, rfl, rn_id if_bl⟩, trivial⟩)
            · refine sdraw [⟨[7], [], [(48, sli 3 (List.map L_tree_Node r10))], []⟩, ⟨[4], [100], [(49, .ptr 100 0)], []⟩, ⟨[49], [100], [(50, i64 x1.a0)], []⟩, ⟨[4], [100], [(51, .ptr 100 1)], []⟩, ⟨[51], [100], [(52, i64 x1.a1)], []⟩, ⟨[4], [100], [(53, .ptr 100 2)], []⟩, ⟨[53], [100], [(54, i64 x1.a2)], []⟩, ⟨[48, 50, 52, 54], [], [(55, i64 r56)], []⟩, ⟨[0], [], [(56, sli 3 (List.map L_retrospectref17_Node x0))], []⟩, ⟨[4], [100], [(57, .ptr 100 0)], []⟩, ⟨[57], [100], [(58, i64 x1.a0)], []⟩, ⟨[4], [100], [(59, .ptr 100 1)], []⟩, ⟨[59], [100], [(60, i64 x1.a1)], []⟩, ⟨[4], [100], [(61, .ptr 100 2)], []⟩, ⟨[61], [100], [(62, i64 x1.a2)], []⟩, ⟨[56, 58, 60, 62], [], [(63, i64 r58)], []⟩, ⟨[55, 63], [], [(64, bl (decide (r56 = r58)))], []⟩, ⟨[64], [], [(65, bl true)], []⟩, ⟨[65, 2], [], [(66, str x2)], []⟩, ⟨[65, 66], [], [(67, bl r61)], []⟩, ⟨[65, 2], [], [(68, str x2)], []⟩, ⟨[65, 68], [], [(69, bl r63)], []⟩, ⟨[65, 67, 69], [], [(70, bl (r61 == r63))], []⟩, ⟨[65, 70], [], [(71, bl (r61 == r63))], []⟩, ⟨[71], [], [(72, bl false)], []⟩, ⟨[72], [], [(73, .tup [])], []⟩, ⟨[72], [], [(74, bl false)], []⟩, ⟨[74], [], [(6, bl false)], []⟩] fol (by kernel_rfl) ⟨fun st mm ⟨a7, _⟩ _ => og (mv rfl (a7.trans rfl)), fun st mm ⟨a4, _⟩ ⟨g100, _⟩ => og (ixAO (id := 100) (k := 1) (off := 0) (p := 0) Tryd.underlying43 ti_3 rfl (.inr ⟨rfl, rfl, _, _, (g100.trans rfl)⟩) rfl (a4.trans rfl) (kI (x := 0) rfl)), fun st mm ⟨a49, _⟩ ⟨g100, _⟩ => og (ldB [0] (g100.trans rfl) (by exact rfl) sh_3 (by exact rfl) (by exact rfl) rfl (a49.trans rfl) (.inl rfl)), fun st mm ⟨a4, _⟩ ⟨g100, _⟩ => og (ixAO (id := 100) (k := 1) (off := 0) (p := 1) Tryd.underlying43 ti_3 rfl (.inr ⟨rfl, rfl, _, _, (g100.trans rfl)⟩) rfl (a4.trans rfl) (kI (x := 1) rfl)), fun st mm ⟨a51, _⟩ ⟨g100, _⟩ => og (ldB [1] (g100.trans rfl) (by exact rfl) sh_3 (by exact rfl) (by exact rfl) rfl (a51.trans rfl) (.inl rfl)), fun st mm ⟨a4, _⟩ ⟨g100, _⟩ => og (ixAO (id := 100) (k := 1) (off := 0) (p := 2) Tryd.underlying43 ti_3 rfl (.inr ⟨rfl, rfl, _, _, (g100.trans rfl)⟩) rfl (a4.trans rfl) (kI (x := 2) rfl)), fun st mm ⟨a53, _⟩ ⟨g100, _⟩ => og (ldB [2] (g100.trans rfl) (by exact rfl) sh_3 (by exact rfl) (by exact rfl) rfl (a53.trans rfl) (.inl rfl)), fun st mm ⟨a48, a50, a52, a54, _⟩ _ => og (call0 (c_check_Place _ h57) ⟨⟨_, (a48.trans rfl), rn_id if_sli⟩, ⟨_, (a50.trans rfl), rn_id if_i64⟩, ⟨_, (a52.trans rfl), rn_id if_i64⟩, ⟨_, (a54.trans rfl), rn_id if_i64⟩, trivial⟩ (if_i64) rfl), fun st mm ⟨a0, _⟩ _ => og (mv rfl (a0.trans rfl)), fun st mm ⟨a4, _⟩ ⟨g100, _⟩ => og (ixAO (id := 100) (k := 1) (off := 0) (p := 0) Tryd.underlying43 ti_3 rfl (.inr ⟨rfl, rfl, _, _, (g100.trans rfl)⟩) rfl (a4.trans rfl) (kI (x := 0) rfl)), fun st mm ⟨a57, _⟩ ⟨g100, _⟩ => og (ldB [0] (g100.trans rfl) (by exact rfl) sh_3 (by exact rfl) (by exact rfl) rfl (a57.trans rfl) (.inl rfl)), fun st mm ⟨a4, _⟩ ⟨g100, _⟩ => og (ixAO (id := 100) (k := 1) (off := 0) (p := 1) Tryd.underlying43 ti_3 rfl (.inr ⟨rfl, rfl, _, _, (g100.trans rfl)⟩) rfl (a4.trans rfl) (kI (x := 1) rfl)), fun st mm ⟨a59, _⟩ ⟨g100, _⟩ => og (ldB [1] (g100.trans rfl) (by exact rfl) sh_3 (by exact rfl) (by exact rfl) rfl (a59.trans rfl) (.inl rfl)), fun st mm ⟨a4, _⟩ ⟨g100, _⟩ => og (ixAO (id := 100) (k := 1) (off := 0) (p := 2) Tryd.underlying43 ti_3 rfl (.inr ⟨rfl, rfl, _, _, (g100.trans rfl)⟩) rfl (a4.trans rfl) (kI (x := 2) rfl)), fun st mm ⟨a61, _⟩ ⟨g100, _⟩ => og (ldB [2] (g100.trans rfl) (by exact rfl) sh_3 (by exact rfl) (by exact rfl) rfl (a61.trans rfl) (.inl rfl)), fun st mm ⟨a56, a58, a60, a62, _⟩ _ => og (call0 (c_retrospectref19_Place _ h59) ⟨⟨_, (a56.trans rfl), rn_id if_sli⟩, ⟨_, (a58.trans rfl), rn_id if_i64⟩, ⟨_, (a60.trans rfl), rn_id if_i64⟩, ⟨_, (a62.trans rfl), rn_id if_i64⟩, trivial⟩ (if_i64) rfl), fun st mm ⟨a55, a63, _⟩ _ => og (eqI rfl (a55.trans rfl) (a63.trans rfl)), fun st mm ⟨a64, _⟩ _ => og (okb hb60 (mv rfl (a64.trans rfl))), fun st mm ⟨a65, a2, _⟩ _ => ogG 65 rfl (a65.trans rfl) (mv rfl (a2.trans rfl)), fun st mm ⟨a65, a66, _⟩ _ => ogG 65 rfl (a65.trans rfl) (call0 (c_check_Name _ h62) ⟨⟨_, (a66.trans rfl), rn_id if_str⟩, trivial⟩ (if_bl) rfl), fun st mm ⟨a65, a2, _⟩ _ => ogG 65 rfl (a65.trans rfl) (mv rfl (a2.trans rfl)), fun st mm ⟨a65, a68, _⟩ _ => ogG 65 rfl (a65.trans rfl) (call0 (c_retrospectref19_Name _ h64) ⟨⟨_, (a68.trans rfl), rn_id if_str⟩, trivial⟩ (if_bl) rfl), fun st mm ⟨a65, a67, a69, _⟩ _ => ogG 65 rfl (a65.trans rfl) (eqB Tryd.underlying4 rfl (a67.trans rfl) (a69.trans rfl)), fun st mm ⟨a65, a70, _⟩ _ => og (pickT rfl (a65.trans rfl) (a70.trans rfl)), fun st mm ⟨a71, _⟩ _ => og (okb hb65 (mv rfl (a71.trans rfl))), fun st mm ⟨a72, _⟩ _ => ogB 72 rfl (a72.trans rfl) rfl, fun st mm ⟨a72, _⟩ _ => og (pickF rfl (a72.trans rfl) kB), fun st mm ⟨a74, _⟩ _ => og (asg rfl (a74.trans rfl)), trivial⟩ ?_
              refine pnm ?_
              exact sj (hj54 _) (entR [] rfl (keepS hγ trivial) (by exact trivial) (by exact trivial) ⟨⟨_, rfl, rn_id if_bl⟩, trivial⟩)
          · refine sdraw [⟨[7], [], [(48, sli 3 (List.map L_tree_Node r10))], []⟩, ⟨[4], [100], [(49, .ptr 100 0)], []⟩, ⟨[49], [100], [(50, i64 x1.a0)], []⟩, ⟨[4], [100], [(51, .ptr 100 1)], []⟩, ⟨[51], [100], [(52, i64 x1.a1)], []⟩, ⟨[4], [100], [(53, .ptr 100 2)], []⟩, ⟨[53], [100], [(54, i64 x1.a2)], []⟩, ⟨[48, 50, 52, 54], [], [(55, i64 r56)], []⟩, ⟨[0], [], [(56, sli 3 (List.map L_retrospectref17_Node x0))], []⟩, ⟨[4], [100], [(57, .ptr 100 0)], []⟩, ⟨[57], [100], [(58, i64 x1.a0)], []⟩, ⟨[4], [100], [(59, .ptr 100 1)], []⟩, ⟨[59], [100], [(60, i64 x1.a1)], []⟩, ⟨[4], [100], [(61, .ptr 100 2)], []⟩, ⟨[61], [100], [(62, i64 x1.a2)], []⟩, ⟨[56, 58, 60, 62], [], [(63, i64 r58)], []⟩, ⟨[55, 63], [], [(64, bl (decide (r56 = r58)))], []⟩, ⟨[64], [], [(65, bl false)], []⟩, ⟨[65], [], [(66, .tup [])], []⟩, ⟨[65], [], [(67, .tup [])], []⟩, ⟨[65], [], [(68, .tup [])], []⟩, ⟨[65], [], [(69, .tup [])], []⟩, ⟨[65], [], [(70, .tup [])], []⟩, ⟨[65], [], [(71, bl false)], []⟩, ⟨[71], [], [(72, bl false)], []⟩, ⟨[72], [], [(73, .tup [])], []⟩, ⟨[72], [], [(74, bl false)], []⟩, ⟨[74], [], [(6, bl false)], []⟩] fol (by kernel_rfl) ⟨fun st mm ⟨a7, _⟩ _ => og (mv rfl (a7.trans rfl)), fun st mm ⟨a4, _⟩ ⟨g100, _⟩ => og (ixAO (id := 100) (k := 1) (off := 0) (p := 0) Tryd.underlying43 ti_3 rfl (.inr ⟨rfl, rfl, _, _, (g100.trans rfl)⟩) rfl (a4.trans rfl) (kI (x := 0) rfl)), fun st mm ⟨a49, _⟩ ⟨g100, _⟩ => og (ldB [0] (g100.trans rfl) (by exact rfl) sh_3 (by exact rfl) (by exact rfl) rfl (a49.trans rfl) (.inl rfl)), fun st mm ⟨a4, _⟩ ⟨g100, _⟩ => og (ixAO (id := 100) (k := 1) (off := 0) (p := 1) Tryd.underlying43 ti_3 rfl (.inr ⟨rfl, rfl, _, _, (g100.trans rfl)⟩) rfl (a4.trans rfl) (kI (x := 1) rfl)), fun st mm ⟨a51, _⟩ ⟨g100, _⟩ => og (ldB [1] (g100.trans rfl) (by exact rfl) sh_3 (by exact rfl) (by exact rfl) rfl (a51.trans rfl) (.inl rfl)), fun st mm ⟨a4, _⟩ ⟨g100, _⟩ => og (ixAO (id := 100) (k := 1) (off := 0) (p := 2) Tryd.underlying43 ti_3 rfl (.inr ⟨rfl, rfl, _, _, (g100.trans rfl)⟩) rfl (a4.trans rfl) (kI (x := 2) rfl)), fun st mm ⟨a53, _⟩ ⟨g100, _⟩ => og (ldB [2] (g100.trans rfl) (by exact rfl) sh_3 (by exact rfl) (by exact rfl) rfl (a53.trans rfl) (.inl rfl)), fun st mm ⟨a48, a50, a52, a54, _⟩ _ => og (call0 (c_check_Place _ h57) ⟨⟨_, (a48.trans rfl), rn_id if_sli⟩, ⟨_, (a50.trans rfl), rn_id if_i64⟩, ⟨_, (a52.trans rfl), rn_id if_i64⟩, ⟨_, (a54.trans rfl), rn_id if_i64⟩, trivial⟩ (if_i64) rfl), fun st mm ⟨a0, _⟩ _ => og (mv rfl (a0.trans rfl)), fun st mm ⟨a4, _⟩ ⟨g100, _⟩ => og (ixAO (id := 100) (k := 1) (off := 0) (p := 0) Tryd.underlying43 ti_3 rfl (.inr ⟨rfl, rfl, _, _, (g100.trans rfl)⟩) rfl (a4.trans rfl) (kI (x := 0) rfl)), fun st mm ⟨a57, _⟩ ⟨g100, _⟩ => og (ldB [0] (g100.trans rfl) (by exact rfl) sh_3 (by exact rfl) (by exact rfl) rfl (a57.trans rfl) (.inl rfl)), fun st mm ⟨a4, _⟩ ⟨g100, _⟩ => og (ixAO (id := 100) (k := 1) (off := 0) (p := 1) Tryd.underlying43 ti_3 rfl (.inr ⟨rfl, rfl, _, _, (g100.trans rfl)⟩) rfl (a4.trans rfl) (kI (x := 1) rfl)), fun st mm ⟨a59, _⟩ ⟨g100, _⟩ => og (ldB [1] (g100.trans rfl) (by exact rfl) sh_3 (by exact rfl) (by exact rfl) rfl (a59.trans rfl) (.inl rfl)), fun st mm ⟨a4, _⟩ ⟨g100, _⟩ => og (ixAO (id := 100) (k := 1) (off := 0) (p := 2) Tryd.underlying43 ti_3 rfl (.inr ⟨rfl, rfl, _, _, (g100.trans rfl)⟩) rfl (a4.trans rfl) (kI (x := 2) rfl)), fun st mm ⟨a61, _⟩ ⟨g100, _⟩ => og (ldB [2] (g100.trans rfl) (by exact rfl) sh_3 (by exact rfl) (by exact rfl) rfl (a61.trans rfl) (.inl rfl)), fun st mm ⟨a56, a58, a60, a62, _⟩ _ => og (call0 (c_retrospectref19_Place _ h59) ⟨⟨_, (a56.trans rfl), rn_id if_sli⟩, ⟨_, (a58.trans rfl), rn_id if_i64⟩, ⟨_, (a60.trans rfl), rn_id if_i64⟩, ⟨_, (a62.trans rfl), rn_id if_i64⟩, trivial⟩ (if_i64) rfl), fun st mm ⟨a55, a63, _⟩ _ => og (eqI rfl (a55.trans rfl) (a63.trans rfl)), fun st mm ⟨a64, _⟩ _ => og (okb hb60 (mv rfl (a64.trans rfl))), fun st mm ⟨a65, _⟩ _ => ogB 65 rfl (a65.trans rfl) rfl, fun st mm ⟨a65, _⟩ _ => ogB 65 rfl (a65.trans rfl) rfl, fun st mm ⟨a65, _⟩ _ => ogB 65 rfl (a65.trans rfl) rfl, fun st mm ⟨a65, _⟩ _ => ogB 65 rfl (a65.trans rfl) rfl, fun st mm ⟨a65, _⟩ _ => ogB 65 rfl (a65.trans rfl) rfl, fun st mm ⟨a65, _⟩ _ => og (pickF rfl (a65.trans rfl) kB), fun st mm ⟨a71, _⟩ _ => og (mv rfl (a71.trans rfl)), fun st mm ⟨a72, _⟩ _ => ogB 72 rfl (a72.trans rfl) rfl, fun st mm ⟨a72, _⟩ _ => og (pickF rfl (a72.trans rfl) kB), fun st mm ⟨a74, _⟩ _ => og (asg rfl (a74.trans rfl)), trivial⟩ ?_
            refine pnm ?_
            exact sj (hj54 _) (entR [] rfl (keepS hγ trivial) (by exact trivial) (by exact trivial) ⟨⟨_, rfl, rn_id if_bl⟩, trivial⟩)
        · intro s55
          refine sret ?_
          exact ret [] [.tmp 6] [_] [_] .ret hγ (.inl rfl) rfl ⟨rfl, trivial⟩ rfl trivial trivial trivial (rns_cons (rn_id if_bl) (rns_nil)) rfl
theorem c_retrospectlaw19_CheckMore {n : Nat} {x0 : M_retrospectref17_Field} {x1 : Int} {x2 : Int} : ∀ r, m_retrospectlaw19_CheckMore n x0 x1 x2 = some r → FnOk Tryd.prog 8 [L_retrospectref17_Field x0, i64 x1, i64 x2] [] (bl r) [] := by
  unfold m_retrospectlaw19_CheckMore
  refine fn_of_sq (res := fun (r : Bool) => bl r) (mo := fun (r : Bool) => []) Tryd.func8 rfl rfl (by kernel_rfl) rfl ?_
  intro w S0 γ hγ
  refine sseq ?_
  refine sreg ?_
  refine so (box (y := 100) (by exact rfl) rfl rfl rfl) ?_
  refine s1 (asg rfl kB) ?_
  refine snil ?_
  refine pnm ?_
  refine sseq ?_
  refine sjq (fun (s5 : Bool) => [(1, i64 x1), (2, i64 x2), (3, .own 100), (6, bl false), (22, bl s5)]) (fun (s5 : Bool) => [(100, .bx 41 (L_retrospectref17_Field x0))]) ?_ ?_
  · intro j3 hj4
    refine sreg ?_
    refine s1 (ldB [] rfl rfl sh_41 (by exact rfl) (by exact rfl) rfl rfl (.inr ⟨rfl, rfl, _, _, rfl⟩)) ?_
    refine bd fun r6 h7 => ?_
    refine s1 (call0 (c_retrospectref17_LongField _ h7) ⟨⟨_, rfl, rn_id if_L_retrospectref17_Field⟩, ⟨_, (kI (x := 6) rfl), rn_id if_i64⟩, ⟨_, (kI (x := 60) rfl), rn_id if_i64⟩, ⟨_, (kI (x := 9) rfl), rn_id if_i64⟩, trivial⟩ (if_bl) rfl) ?_
    refine s1 (mv rfl rfl) ?_
    refine sifd 15 rfl ?_ ?_
    · refine spB 15 rfl rfl rfl ?_
      refine spB 15 rfl rfl rfl ?_
      refine s1 (pickT rfl rfl kB) ?_
      refine s1 (mv rfl rfl) ?_
      refine spB 19 rfl rfl rfl ?_
      refine spB 19 rfl rfl rfl ?_
      refine s1 (pickT rfl rfl kB) ?_
      refine snil ?_
      refine pnm ?_
      exact sj (hj4 _) (entR [(100, 100)] rfl (keepS hγ trivial) ⟨⟨_, rfl⟩, trivial⟩ ⟨⟨_, _, rfl, rfl, rci (rc_bx (rn_id if_L_retrospectref17_Field))⟩, trivial⟩ ⟨⟨_, rfl, rn_id if_i64⟩, ⟨_, rfl, rn_id if_i64⟩, ⟨_, rfl, rn_own rfl⟩, ⟨_, rfl, rn_id if_bl⟩, ⟨_, rfl, rn_id if_bl⟩, trivial⟩)
    · refine sg 15 rfl rfl (mv rfl rfl) ?_
      refine sg 15 rfl rfl (ltI rfl rfl (kI (x := 0) rfl)) ?_
      refine s1 (pickF rfl rfl rfl) ?_
      refine s1 (mv rfl rfl) ?_
      refine sifd 19 rfl ?_ ?_
      · refine spB 19 rfl rfl rfl ?_
        refine spB 19 rfl rfl rfl ?_
        refine s1 (pickT rfl rfl kB) ?_
        refine snil ?_
        refine pnm ?_
        exact sj (hj4 _) (entR [(100, 100)] rfl (keepS hγ trivial) ⟨⟨_, rfl⟩, trivial⟩ ⟨⟨_, _, rfl, rfl, rci (rc_bx (rn_id if_L_retrospectref17_Field))⟩, trivial⟩ ⟨⟨_, rfl, rn_id if_i64⟩, ⟨_, rfl, rn_id if_i64⟩, ⟨_, rfl, rn_own rfl⟩, ⟨_, rfl, rn_id if_bl⟩, ⟨_, rfl, rn_id if_bl⟩, trivial⟩)
      · refine sg 19 rfl rfl (mv rfl rfl) ?_
        refine sg 19 rfl rfl (gtI rfl rfl (kI (x := 6) rfl)) ?_
        refine s1 (pickF rfl rfl rfl) ?_
        refine snil ?_
        refine pnm ?_
        exact sj (hj4 _) (entR [(100, 100)] rfl (keepS hγ trivial) ⟨⟨_, rfl⟩, trivial⟩ ⟨⟨_, _, rfl, rfl, rci (rc_bx (rn_id if_L_retrospectref17_Field))⟩, trivial⟩ ⟨⟨_, rfl, rn_id if_i64⟩, ⟨_, rfl, rn_id if_i64⟩, ⟨_, rfl, rn_own rfl⟩, ⟨_, rfl, rn_id if_bl⟩, ⟨_, rfl, rn_id if_bl⟩, trivial⟩)
  · intro s5
    refine scond rfl ?_ ?_
    · refine sseq ?_
      refine sreg ?_
      refine bd fun r8 h9 => ?_
      refine s1 (call0 (c_retrospectlaw19_works _ h9) trivial (if_bl) rfl) ?_
      refine s1 (asg rfl rfl) ?_
      refine snil ?_
      refine pnm ?_
      refine sret ?_
      refine pth ?_
      exact ret [] [.tmp 6] [_] [_] .ret hγ (.inl rfl) rfl ⟨rfl, trivial⟩ rfl trivial trivial trivial (rns_cons (rn_id if_bl) (rns_nil)) rfl
    · refine sskip ?_
      refine pnm ?_
      refine sseq ?_
      refine sreg ?_
      refine s1 (ldB [] rfl rfl sh_41 (by exact rfl) (by exact rfl) rfl rfl (.inr ⟨rfl, rfl, _, _, rfl⟩)) ?_
      refine bd fun r10 h11 => ?_
      refine s1 (call0 (c_retrospectlaw17_ToField _ h11) ⟨⟨_, rfl, rn_id if_L_retrospectref17_Field⟩, trivial⟩ (if_L_tree_Field) rfl) ?_
      refine so (al (y := 101) (ly := L_tree_Field (⟨[], []⟩ : M_tree_Field)) ti_50 zr_tree_Field rfl rfl) ?_
      refine so (stB2 (ly2 := L_tree_Field r10) [] (by exact rfl) rfl (by exact rfl) sh_50 (by exact rfl) (by exact rfl) (by exact rfl) rfl (.inr ⟨rfl, rfl, _, _, rfl⟩) rfl) ?_
      refine snil ?_
      refine pnm ?_
      refine sseq ?_
      refine sreg ?_
      refine s1 (faO rfl fd_50_1 rfl rfl) ?_
      refine s1 (ldB [1] rfl (by exact rfl) sh_48 (by exact rfl) (by exact rfl) rfl rfl (.inl rfl)) ?_
      refine s1 (lenL (f := L_S_tree_Node) Tryd.underlying48 rfl rfl) ?_
      refine s1 (asg rfl rfl) ?_
      refine snil ?_
      refine pnm ?_
      refine sseq ?_
      refine sseq ?_
      refine sreg ?_
      refine s1 (ldB [] rfl rfl sh_50 (by exact rfl) (by exact rfl) rfl rfl (.inr ⟨rfl, rfl, _, _, rfl⟩)) ?_
      refine s1 (mv rfl rfl) ?_
      refine s1 (mv rfl rfl) ?_
      refine bd fun r12 h13 => ?_
      refine s1 (call0 (c_check_Check _ h13) ⟨⟨_, rfl, rn_id if_L_tree_Field⟩, ⟨_, rfl, rn_id if_i64⟩, ⟨_, rfl, rn_id if_i64⟩, trivial⟩ (if_L_api_Fault) rfl) ?_
      refine s1 (bld (l := [i64 0, i64 0, i64 0, i64 0]) pl_25 ti_25 zr_api_Fault rfl rfl) ?_
      refine s1 (neA (p := (r12 : M_api_Fault)) (q := ((⟨0, 0, 0, 0⟩ : M_api_Fault) : M_api_Fault)) eq_25_2 rfl eg_25 rfl rfl rfl) ?_
      refine snil ?_
      refine pnm ?_
      refine scond rfl ?_ ?_
      · refine sseq ?_
        refine sreg ?_
        refine bd fun r14 h15 => ?_
        refine s1 (call0 (c_retrospectlaw19_works _ h15) trivial (if_bl) rfl) ?_
        refine s1 (asg rfl rfl) ?_
        refine snil ?_
        refine pnm ?_
        refine sret ?_
        refine pth ?_
        exact ret [] [.tmp 6] [_] [_] .ret hγ (.inl rfl) rfl ⟨rfl, trivial⟩ rfl trivial trivial trivial (rns_cons (rn_id if_bl) (rns_nil)) rfl
      · refine sskip ?_
        refine pnm ?_
        refine sseq ?_
        refine sreg ?_
        refine s1 (ldB [] rfl rfl sh_50 (by exact rfl) (by exact rfl) rfl rfl (.inr ⟨rfl, rfl, _, _, rfl⟩)) ?_
        refine bd fun r16 h17 => ?_
        refine s1 (call0 (c_tree_Codes _ h17) ⟨⟨_, rfl, rn_id if_L_tree_Field⟩, trivial⟩ (if_sli) rfl) ?_
        refine s1 (asg rfl rfl) ?_
        refine snil ?_
        refine pnm ?_
        refine sseq ?_
        refine sseq ?_
        refine sreg ?_
        refine s1 (asg rfl (kI (x := 0) rfl)) ?_
        refine snil ?_
        refine pnm ?_
        refine sblk ?_
        refine sloopE 0 Lp.go (fun (s60 : Int) => [(1, i64 x1), (2, i64 x2), (6, bl false), (7, .own 101), (8, i64 (r10.Outs.length : Int)), (9, sli 1 (List.map L_S_tree_Node r16)), (10, i64 s60)]) (fun (s60 : Int) => [(101, .bx 50 (L_tree_Field r10))]) (fun (t58 : Unit) => [(1, i64 x1), (2, i64 x2), (6, bl false), (7, .own 101), (8, i64 (r10.Outs.length : Int))]) (fun (t58 : Unit) => [(101, .bx 50 (L_tree_Field r10))]) (entR [(101, 101)] rfl (keepS hγ trivial) ⟨⟨_, rfl⟩, trivial⟩ ⟨⟨_, _, rfl, rfl, rci (rc_bx (rn_id if_L_tree_Field))⟩, trivial⟩ ⟨⟨_, rfl, rn_id if_i64⟩, ⟨_, rfl, rn_id if_i64⟩, ⟨_, rfl, rn_id if_bl⟩, ⟨_, rfl, rn_own rfl⟩, ⟨_, rfl, rn_id if_i64⟩, ⟨_, rfl, rn_id if_sli⟩, ⟨_, rfl, rn_id if_i64⟩, trivial⟩) ?_ ?_
        · intro hj59 s60
          refine sseq ?_
          refine sseq ?_
          refine sreg ?_
          refine s1 (mv rfl rfl) ?_
          refine s1 (mv rfl rfl) ?_
          refine s1 (lenL (f := L_S_tree_Node) Tryd.underlying48 rfl rfl) ?_
          refine s1 (ltI rfl rfl rfl) ?_
          refine snil ?_
          refine pnm ?_
          refine scond rfl ?_ ?_
          · refine sskip ?_
            refine pnm ?_
            refine sseq ?_
            refine sblk ?_
            refine sjq (fun (s71 : Bool) => [(1, i64 x1), (2, i64 x2), (6, bl false), (7, .own 101), (8, i64 (r10.Outs.length : Int)), (9, sli 1 (List.map L_S_tree_Node r16)), (10, i64 s60), (57, bl s71)]) (fun (s71 : Bool) => [(101, .bx 50 (L_tree_Field r10))]) ?_ ?_
            · intro j69 hj70
              refine sreg ?_
              refine s1 (mv rfl rfl) ?_
              refine s1 (mv rfl rfl) ?_
              refine bd fun y72 h73 => ?_
              refine s1 (ixR (f := L_S_tree_Node) Tryd.underlying48 ti_56 h73 rfl rfl rfl) ?_
              refine s1 (ldR sh_56 (by exact rfl) (by exact rfl) rfl rfl) ?_
              refine bd fun r74 h75 => ?_
              refine s1 (call0 (c_tree_Right _ h75) ⟨⟨_, rfl, rn_id if_sli⟩, trivial⟩ (if_bl) rfl) ?_
              refine s1 (notB rfl rfl) ?_
              refine s1 (mv rfl rfl) ?_
              refine sifd 50 rfl ?_ ?_
              · refine spB 50 rfl rfl rfl ?_
                refine spB 50 rfl rfl rfl ?_
                refine spB 50 rfl rfl rfl ?_
                refine spB 50 rfl rfl rfl ?_
                refine spB 50 rfl rfl rfl ?_
                refine spB 50 rfl rfl rfl ?_
                refine s1 (pickT rfl rfl kB) ?_
                refine snil ?_
                refine pnm ?_
                exact sj (hj70 _) (entR [(101, 101)] rfl (keepS hγ trivial) ⟨⟨_, rfl⟩, trivial⟩ ⟨⟨_, _, rfl, rfl, rci (rc_bx (rn_id if_L_tree_Field))⟩, trivial⟩ ⟨⟨_, rfl, rn_id if_i64⟩, ⟨_, rfl, rn_id if_i64⟩, ⟨_, rfl, rn_id if_bl⟩, ⟨_, rfl, rn_own rfl⟩, ⟨_, rfl, rn_id if_i64⟩, ⟨_, rfl, rn_id if_sli⟩, ⟨_, rfl, rn_id if_i64⟩, ⟨_, rfl, rn_id if_bl⟩, trivial⟩)
              · refine sg 50 rfl rfl (mv rfl rfl) ?_
                refine sg 50 rfl rfl (mv rfl rfl) ?_
                refine bd fun y76 h77 => ?_
                refine sg 50 rfl rfl (ixR (f := L_S_tree_Node) Tryd.underlying48 ti_56 h77 rfl rfl rfl) ?_
                refine sg 50 rfl rfl (ldR sh_56 (by exact rfl) (by exact rfl) rfl rfl) ?_
                refine bd fun r78 h79 => ?_
                refine sg 50 rfl rfl (call0 (c_tree_Depth _ h79) ⟨⟨_, rfl, rn_id if_sli⟩, trivial⟩ (if_i64) rfl) ?_
                refine sg 50 rfl rfl (gtI rfl rfl (kI (x := 40) rfl)) ?_
                refine s1 (pickF rfl rfl rfl) ?_
                refine snil ?_
                refine pnm ?_
                exact sj (hj70 _) (entR [(101, 101)] rfl (keepS hγ trivial) ⟨⟨_, rfl⟩, trivial⟩ ⟨⟨_, _, rfl, rfl, rci (rc_bx (rn_id if_L_tree_Field))⟩, trivial⟩ ⟨⟨_, rfl, rn_id if_i64⟩, ⟨_, rfl, rn_id if_i64⟩, ⟨_, rfl, rn_id if_bl⟩, ⟨_, rfl, rn_own rfl⟩, ⟨_, rfl, rn_id if_i64⟩, ⟨_, rfl, rn_id if_sli⟩, ⟨_, rfl, rn_id if_i64⟩, ⟨_, rfl, rn_id if_bl⟩, trivial⟩)
            · intro s71
              refine scond rfl ?_ ?_
              · refine sseq ?_
                refine sreg ?_
                refine s1 (asg rfl kB) ?_
                refine snil ?_
                refine pnm ?_
                refine sret ?_
                refine pbl ?_
                refine pth ?_
                refine sout (fun h => by cases h) ?_
                refine pbl ?_
                refine pth ?_
                exact ret [] [.tmp 6] [_] [_] .ret hγ (.inl rfl) rfl ⟨rfl, trivial⟩ rfl trivial trivial trivial (rns_cons (rn_id if_bl) (rns_nil)) rfl
              · refine sskip ?_
                refine pbn ?_
                refine pnm ?_
                refine sreg ?_
                refine s1 (mv rfl rfl) ?_
                refine s1 (addI rfl rfl (kI (x := 1) rfl)) ?_
                refine s1 (asg rfl rfl) ?_
                refine snil ?_
                exact sgo (entR [(101, 101)] rfl (keepS hγ trivial) ⟨⟨_, rfl⟩, trivial⟩ ⟨⟨_, _, rfl, rfl, rci (rc_bx (rn_id if_L_tree_Field))⟩, trivial⟩ ⟨⟨_, rfl, rn_id if_i64⟩, ⟨_, rfl, rn_id if_i64⟩, ⟨_, rfl, rn_id if_bl⟩, ⟨_, rfl, rn_own rfl⟩, ⟨_, rfl, rn_id if_i64⟩, ⟨_, rfl, rn_id if_sli⟩, ⟨_, rfl, rn_id if_i64⟩, trivial⟩)
          · refine sexit ?_
            refine ptx ?_
            exact sout (fun h => by cases h) (sj (hj59 _) (entR [(101, 101)] rfl (keepS hγ trivial) ⟨⟨_, rfl⟩, trivial⟩ ⟨⟨_, _, rfl, rfl, rci (rc_bx (rn_id if_L_tree_Field))⟩, trivial⟩ ⟨⟨_, rfl, rn_id if_i64⟩, ⟨_, rfl, rn_id if_i64⟩, ⟨_, rfl, rn_id if_bl⟩, ⟨_, rfl, rn_own rfl⟩, ⟨_, rfl, rn_id if_i64⟩, trivial⟩))
        · intro t58
          refine slpk ?_
          refine sx ?_
          refine pnm ?_
          refine sseq ?_
          refine sjq (fun (s84 : Bool) => [(1, i64 x1), (6, bl false), (7, .own 101), (8, i64 (r10.Outs.length : Int)), (71, bl s84)]) (fun (s84 : Bool) => [(101, .bx 50 (L_tree_Field r10))]) ?_ ?_
          · intro j82 hj83
            refine sreg ?_
            refine s1 (mv rfl rfl) ?_
            refine s1 (mv rfl rfl) ?_
            refine s1 (addI rfl rfl rfl) ?_
            refine s1 (leI rfl rfl (kI (x := 6) rfl)) ?_
            refine s1 (mv rfl rfl) ?_
            refine sifd 62 rfl ?_ ?_
            · refine sg 62 rfl rfl (ldB [] rfl rfl sh_50 (by exact rfl) (by exact rfl) rfl rfl (.inr ⟨rfl, rfl, _, _, rfl⟩)) ?_
              refine sg 62 rfl rfl (mv rfl rfl) ?_
              refine sg 62 rfl rfl (mv rfl rfl) ?_
              refine sg 62 rfl rfl (mv rfl rfl) ?_
              refine sg 62 rfl rfl (addI rfl rfl rfl) ?_
              refine bd fun r85 h86 => ?_
              refine sg 62 rfl rfl (call0 (c_check_Check _ h86) ⟨⟨_, rfl, rn_id if_L_tree_Field⟩, ⟨_, rfl, rn_id if_i64⟩, ⟨_, rfl, rn_id if_i64⟩, trivial⟩ (if_L_api_Fault) rfl) ?_
              refine sg 62 rfl rfl (bld (l := [i64 0, i64 0, i64 0, i64 0]) pl_25 ti_25 zr_api_Fault rfl rfl) ?_
              refine sg 62 rfl rfl (neA (p := (r85 : M_api_Fault)) (q := ((⟨0, 0, 0, 0⟩ : M_api_Fault) : M_api_Fault)) eq_25_2 rfl eg_25 rfl rfl rfl) ?_
              refine s1 (pickT rfl rfl rfl) ?_
              refine snil ?_
              refine pnm ?_
              exact sj (hj83 _) (entR [(101, 101)] rfl (keepS hγ trivial) ⟨⟨_, rfl⟩, trivial⟩ ⟨⟨_, _, rfl, rfl, rci (rc_bx (rn_id if_L_tree_Field))⟩, trivial⟩ ⟨⟨_, rfl, rn_id if_i64⟩, ⟨_, rfl, rn_id if_bl⟩, ⟨_, rfl, rn_own rfl⟩, ⟨_, rfl, rn_id if_i64⟩, ⟨_, rfl, rn_id if_bl⟩, trivial⟩)
            · refine spB 62 rfl rfl rfl ?_
              refine spB 62 rfl rfl rfl ?_
              refine spB 62 rfl rfl rfl ?_
              refine spB 62 rfl rfl rfl ?_
              refine spB 62 rfl rfl rfl ?_
              refine spB 62 rfl rfl rfl ?_
              refine spB 62 rfl rfl rfl ?_
              refine spB 62 rfl rfl rfl ?_
              refine s1 (pickF rfl rfl kB) ?_
              refine snil ?_
              refine pnm ?_
              exact sj (hj83 _) (entR [(101, 101)] rfl (keepS hγ trivial) ⟨⟨_, rfl⟩, trivial⟩ ⟨⟨_, _, rfl, rfl, rci (rc_bx (rn_id if_L_tree_Field))⟩, trivial⟩ ⟨⟨_, rfl, rn_id if_i64⟩, ⟨_, rfl, rn_id if_bl⟩, ⟨_, rfl, rn_own rfl⟩, ⟨_, rfl, rn_id if_i64⟩, ⟨_, rfl, rn_id if_bl⟩, trivial⟩)
          · intro s84
            refine scond rfl ?_ ?_
            · refine sseq ?_
              refine sreg ?_
              refine s1 (asg rfl kB) ?_
              refine snil ?_
              refine pnm ?_
              refine sret ?_
              refine pth ?_
              exact ret [] [.tmp 6] [_] [_] .ret hγ (.inl rfl) rfl ⟨rfl, trivial⟩ rfl trivial trivial trivial (rns_cons (rn_id if_bl) (rns_nil)) rfl
            · refine sskip ?_
              refine pnm ?_
              refine sseq ?_
              refine bd fun y93 h94 => ?_
              refine bd fun y95 h96 => ?_
              refine sdraw [⟨[7], [101], [(72, .ptr 101 0)], []⟩, ⟨[72], [101], [(73, sli 2 (List.map L_tree_Let r10.Lets))], []⟩, ⟨[], [102], [(74, .own 102)], [(102, .sl 56 1 (List.map L_S_tree_Node ([] : List (List M_tree_Node))))]⟩, ⟨[7], [101], [(75, .ptr 101 1)], []⟩, ⟨[75], [101], [(76, sli 1 (List.map L_S_tree_Node r10.Outs))], []⟩, ⟨[74, 76], [102, 103], [(77, .own 103)], [(103, .sl 56 1 (List.map L_S_tree_Node y93)), (102, .gone)]⟩, ⟨[8], [], [(78, i64 (r10.Outs.length : Int))], []⟩, ⟨[78], [], [(79, L_tree_Node (⟨(3 : Int), (r10.Outs.length : Int), []⟩ : M_tree_Node))], []⟩, ⟨[79], [104], [(80, sli 3 (List.map L_tree_Node ([(⟨(3 : Int), (r10.Outs.length : Int), []⟩ : M_tree_Node)] : List M_tree_Node)))], [(104, .gone)]⟩, ⟨[80], [105], [(81, .own 105)], [(105, .sl 56 1 (List.map L_S_tree_Node ([([(⟨(3 : Int), (r10.Outs.length : Int), []⟩ : M_tree_Node)] : List M_tree_Node)] : List (List M_tree_Node))))]⟩, ⟨[77, 81], [103, 105, 106], [(82, sli 1 (List.map L_S_tree_Node y95))], [(106, .gone), (103, .gone)]⟩, ⟨[73, 82], [], [(83, L_tree_Field (⟨r10.Lets, y95⟩ : M_tree_Field))], []⟩, ⟨[], [107], [(11, .own 107)], [(107, .bx 50 (L_tree_Field (⟨[], []⟩ : M_tree_Field)))]⟩, ⟨[11, 83], [107], [], [(107, .bx 50 (L_tree_Field (⟨r10.Lets, y95⟩ : M_tree_Field)))]⟩] fol (by kernel_rfl) ⟨fun st mm ⟨a7, _⟩ ⟨g101, _⟩ => og (faO (g101.trans rfl) fd_50_0 rfl (a7.trans rfl)), fun st mm ⟨a72, _⟩ ⟨g101, _⟩ => og (ldB [0] (g101.trans rfl) (by exact rfl) sh_47 (by exact rfl) (by exact rfl) rfl (a72.trans rfl) (.inl rfl)), fun st mm _ ⟨g102, _⟩ => og (bsl (y := 102) (ls := List.map L_S_tree_Node ([] : List (List M_tree_Node))) Tryd.underlying48 ti_56 rfl rfl rfl rfl rfl trivial (g102.trans rfl) rfl), fun st mm ⟨a7, _⟩ ⟨g101, _⟩ => og (faO (g101.trans rfl) fd_50_1 rfl (a7.trans rfl)), fun st mm ⟨a75, _⟩ ⟨g101, _⟩ => og (ldB [1] (g101.trans rfl) (by exact rfl) sh_48 (by exact rfl) (by exact rfl) rfl (a75.trans rfl) (.inl rfl)), fun st mm ⟨a74, a76, _⟩ ⟨g102, g103, _⟩ => og (app (y := 103) (f := L_S_tree_Node) h94 (g102.trans rfl) Tryd.underlying48 ti_56 rfl rfl (a74.trans rfl) (a76.trans rfl) (.inl rfl) (g103.trans rfl) rfl), fun st mm ⟨a8, _⟩ _ => og (mv rfl (a8.trans rfl)), fun st mm ⟨a78, _⟩ _ => og (bld (l := [i64 (3 : Int), i64 (r10.Outs.length : Int), sli 1 (List.map u32 [])]) pl_60 ti_60 zr_tree_Node ⟨_, _, _, (kI (x := 3) rfl), rfl, rfl, rfl, (szk (k := 1) rfl rfl), ⟨_, _, _, (a78.trans rfl), rfl, rfl, rfl, (szk (k := 1) rfl rfl), rfl⟩⟩ rfl), fun st mm ⟨a79, _⟩ ⟨g104, _⟩ => og (toV (bsl (y := 104) (ls := List.map L_tree_Node ([(⟨(3 : Int), (r10.Outs.length : Int), []⟩ : M_tree_Node)] : List M_tree_Node)) Tryd.underlying56 ti_60 rfl rfl rfl rfl rfl ⟨rfl, (a79.trans rfl), (by exact rfl), (by exact rfl), trivial⟩ (g104.trans rfl) rfl) (ifs_map (f := L_tree_Node) (fun _ => if_L_tree_Node) ([(⟨(3 : Int), (r10.Outs.length : Int), []⟩ : M_tree_Node)] : List M_tree_Node))), fun st mm ⟨a80, _⟩ ⟨g105, _⟩ => og (bsl (y := 105) (ls := List.map L_S_tree_Node ([([(⟨(3 : Int), (r10.Outs.length : Int), []⟩ : M_tree_Node)] : List M_tree_Node)] : List (List M_tree_Node))) Tryd.underlying48 ti_56 rfl rfl rfl rfl rfl ⟨rfl, (a80.trans rfl), (by exact rfl), (by exact rfl), trivial⟩ (g105.trans rfl) rfl), fun st mm ⟨a77, a81, _⟩ ⟨g103, g105, g106, _⟩ => og (toV (app (y := 106) (f := L_S_tree_Node) h96 (g103.trans rfl) Tryd.underlying48 ti_56 rfl rfl (a77.trans rfl) (a81.trans rfl) (.inr ⟨_, _, rfl, (g105.trans rfl)⟩) (g106.trans rfl) rfl) (ifs_map (f := L_S_tree_Node) (fun _ => if_sli) y95)), fun st mm ⟨a73, a82, _⟩ _ => og (bld (l := [sli 2 (List.map L_tree_Let r10.Lets), sli 1 (List.map L_S_tree_Node y95)]) pl_50 ti_50 zr_tree_Field ⟨_, _, _, (a73.trans rfl), rfl, rfl, rfl, (szk (k := 1) rfl rfl), ⟨_, _, _, (a82.trans rfl), rfl, rfl, rfl, (szk (k := 1) rfl rfl), rfl⟩⟩ rfl), fun st mm _ ⟨g107, _⟩ => og (al (y := 107) (ly := L_tree_Field (⟨[], []⟩ : M_tree_Field)) ti_50 zr_tree_Field (g107.trans rfl) rfl), fun st mm ⟨a11, a83, _⟩ ⟨g107, _⟩ => og (stB2 (ly2 := L_tree_Field (⟨r10.Lets, y95⟩ : M_tree_Field)) [] (by exact rfl) (g107.trans rfl) (by exact rfl) sh_50 (by exact rfl) (by exact rfl) (by exact rfl) (a11.trans rfl) (.inr ⟨rfl, rfl, _, _, (g107.trans rfl)⟩) (a83.trans rfl)), trivial⟩ ?_
              refine sbn (F := (fun x => sli 3 (List.map L_tree_Node x))) 80 rfl fun z97 => ?_
              refine pnm ?_
              refine sjq (fun (s102 : Bool) => [(1, i64 x1), (6, bl false), (8, i64 (r10.Outs.length : Int)), (11, .own 107), (12, bl s102)]) (fun (s102 : Bool) => [(107, .bx 50 (L_tree_Field (⟨r10.Lets, y95⟩ : M_tree_Field)))]) ?_ ?_
              · intro j100 hj101
                refine sreg ?_
                refine s1 (mv rfl rfl) ?_
                refine s1 (ltI rfl rfl (kI (x := 6) rfl)) ?_
                refine s1 (mv rfl rfl) ?_
                refine sifd 86 rfl ?_ ?_
                · refine sg 86 rfl rfl (ldB [] rfl rfl sh_50 (by exact rfl) (by exact rfl) rfl rfl (.inr ⟨rfl, rfl, _, _, rfl⟩)) ?_
                  refine bd fun r103 h104 => ?_
                  refine sg 86 rfl rfl (call0 (c_tree_Size _ h104) ⟨⟨_, rfl, rn_id if_L_tree_Field⟩, trivial⟩ (if_i64) rfl) ?_
                  refine sg 86 rfl rfl (ltI rfl rfl (kI (x := 300) rfl)) ?_
                  refine s1 (pickT rfl rfl rfl) ?_
                  refine s1 (asg rfl rfl) ?_
                  refine snil ?_
                  refine pnm ?_
                  exact sj (hj101 _) (entR [(107, 107)] rfl (keepS hγ trivial) ⟨⟨_, rfl⟩, trivial⟩ ⟨⟨_, _, rfl, rfl, rci (rc_bx (rn_id if_L_tree_Field))⟩, trivial⟩ ⟨⟨_, rfl, rn_id if_i64⟩, ⟨_, rfl, rn_id if_bl⟩, ⟨_, rfl, rn_id if_i64⟩, ⟨_, rfl, rn_own rfl⟩, ⟨_, rfl, rn_id if_bl⟩, trivial⟩)
                · refine spB 86 rfl rfl rfl ?_
                  refine spB 86 rfl rfl rfl ?_
                  refine spB 86 rfl rfl rfl ?_
                  refine s1 (pickF rfl rfl kB) ?_
                  refine s1 (asg rfl rfl) ?_
                  refine snil ?_
                  refine pnm ?_
                  exact sj (hj101 _) (entR [(107, 107)] rfl (keepS hγ trivial) ⟨⟨_, rfl⟩, trivial⟩ ⟨⟨_, _, rfl, rfl, rci (rc_bx (rn_id if_L_tree_Field))⟩, trivial⟩ ⟨⟨_, rfl, rn_id if_i64⟩, ⟨_, rfl, rn_id if_bl⟩, ⟨_, rfl, rn_id if_i64⟩, ⟨_, rfl, rn_own rfl⟩, ⟨_, rfl, rn_id if_bl⟩, trivial⟩)
              · intro s102
                refine sjq (fun (s111 : Bool) => [(6, bl s111)]) (fun (s111 : Bool) => []) ?_ ?_
                · intro j109 hj110
                  refine sreg ?_
                  refine s1 (ldB [] rfl rfl sh_50 (by exact rfl) (by exact rfl) rfl rfl (.inr ⟨rfl, rfl, _, _, rfl⟩)) ?_
                  refine s1 (mv rfl rfl) ?_
                  refine s1 (addI rfl rfl (kI (x := 1) rfl)) ?_
                  refine s1 (mv rfl rfl) ?_
                  refine bd fun r112 h113 => ?_
                  refine s1 (call0 (c_check_Check _ h113) ⟨⟨_, rfl, rn_id if_L_tree_Field⟩, ⟨_, rfl, rn_id if_i64⟩, ⟨_, rfl, rn_id if_i64⟩, trivial⟩ (if_L_api_Fault) rfl) ?_
                  refine s1 (bld (l := [i64 0, i64 0, i64 0, i64 0]) pl_25 ti_25 zr_api_Fault rfl rfl) ?_
                  refine s1 (eqA (p := (r112 : M_api_Fault)) (q := ((⟨0, 0, 0, 0⟩ : M_api_Fault) : M_api_Fault)) eq_25_2 rfl eg_25 rfl rfl rfl) ?_
                  refine s1 (mv rfl rfl) ?_
                  refine s1 (eqB Tryd.underlying4 rfl rfl rfl) ?_
                  refine s1 (mv rfl rfl) ?_
                  refine sifd 100 rfl ?_ ?_
                  · refine bd fun r114 h115 => ?_
                    refine sg 100 rfl rfl (call0 (c_retrospectlaw19_works _ h115) trivial (if_bl) rfl) ?_
                    refine s1 (pickT rfl rfl rfl) ?_
                    refine s1 (asg rfl rfl) ?_
                    refine snil ?_
                    refine pnm ?_
                    exact sj (hj110 _) (entR [] rfl (keepS hγ trivial) (by exact trivial) (by exact trivial) ⟨⟨_, rfl, rn_id if_bl⟩, trivial⟩)
                  · refine spB 100 rfl rfl rfl ?_
                    refine s1 (pickF rfl rfl kB) ?_
                    refine s1 (asg rfl rfl) ?_
                    refine snil ?_
                    refine pnm ?_
                    exact sj (hj110 _) (entR [] rfl (keepS hγ trivial) (by exact trivial) (by exact trivial) ⟨⟨_, rfl, rn_id if_bl⟩, trivial⟩)
                · intro s111
                  refine sret ?_
                  exact ret [] [.tmp 6] [_] [_] .ret hγ (.inl rfl) rfl ⟨rfl, trivial⟩ rfl trivial trivial trivial (rns_cons (rn_id if_bl) (rns_nil)) rfl
end Go.Proofs.YtgafinimmcfekaaDoor
