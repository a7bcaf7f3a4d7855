import Derived.Test.YtgafinimmcfekaaDoorGen1
set_option maxRecDepth 100000
set_option maxHeartbeats 4000000
namespace Go.Proofs.YtgafinimmcfekaaDoor
open Go Go.RowKit
theorem c_check_twice {n : Nat} {x0 : (List M_tree_Let)} {x1 : Int} : ∀ r, m_check_twice n x0 x1 = some r → FnOk Tryd.prog 55 [sli 2 (List.map L_tree_Let x0), i64 x1] [] (bl r) [] := by
  unfold m_check_twice
  refine fn_of_sq (res := fun (r : Bool) => bl r) (mo := fun (r : Bool) => []) Tryd.func55 rfl rfl (by kernel_rfl) rfl ?_
  intro w S0 γ hγ
  refine sseq ?_
  refine sreg ?_
  refine s1 (asg rfl kB) ?_
  refine snil ?_
  refine pnm ?_
  refine sseq ?_
  refine sseq ?_
  refine sreg ?_
  refine s1 (mv rfl rfl) ?_
  refine s1 (mv rfl (kI (x := 0) rfl)) ?_
  refine snil ?_
  refine pnm ?_
  refine sblk ?_
  refine sloopE 0 Lp.go (fun (s13 : Int) => [(0, sli 2 (List.map L_tree_Let x0)), (1, i64 x1), (4, bl false), (6, i64 x1), (7, i64 s13)]) (fun (s13 : Int) => []) (fun (t11 : Unit) => [(4, bl false)]) (fun (t11 : Unit) => []) (entI ⟨rfl, rfl, rfl, rfl, rfl, trivial⟩ eqm0) ?_ ?_
  · intro hj12 s13
    refine sseq ?_
    refine sreg ?_
    refine s1 (ltI rfl rfl rfl) ?_
    refine snil ?_
    refine pnm ?_
    refine sseq ?_
    refine scond rfl ?_ ?_
    · refine sskip ?_
      refine pnm ?_
      refine sseq ?_
      refine sblk ?_
      refine sseq ?_
      refine sreg ?_
      refine s1 (mv rfl rfl) ?_
      refine s1 (asg rfl rfl) ?_
      refine snil ?_
      refine pnm ?_
      refine sseq ?_
      refine bd fun y14 h15 => ?_
      refine bd fun y16 h17 => ?_
      refine sdraw [⟨[0], [], [(10, sli 2 (List.map L_tree_Let x0))], []⟩, ⟨[5], [], [(11, i64 s13)], []⟩, ⟨[10, 11], [], [(12, .ref (L_tree_Let y14))], []⟩, ⟨[12], [], [(13, .ref (str y14.Name))], []⟩, ⟨[13], [], [(14, str y14.Name)], []⟩, ⟨[0], [], [(15, sli 2 (List.map L_tree_Let x0))], []⟩, ⟨[1], [], [(16, i64 x1)], []⟩, ⟨[15, 16], [], [(17, .ref (L_tree_Let y16))], []⟩, ⟨[17], [], [(18, .ref (str y16.Name))], []⟩, ⟨[18], [], [(19, str y16.Name)], []⟩, ⟨[14, 19], [], [(20, bl (decide (y14.Name = y16.Name)))], []⟩] fol (by kernel_rfl) ⟨fun st mm ⟨a0, _⟩ _ => og (mv rfl (a0.trans rfl)), fun st mm ⟨a5, _⟩ _ => og (mv rfl (a5.trans rfl)), fun st mm ⟨a10, a11, _⟩ _ => og (ixR (f := L_tree_Let) Tryd.underlying47 ti_98 h15 rfl (a10.trans rfl) (a11.trans rfl)), fun st mm ⟨a12, _⟩ _ => og (faR fd_98_0 (by exact rfl) rfl (a12.trans rfl)), fun st mm ⟨a13, _⟩ _ => og (ldR sh_9 (by exact rfl) (by exact rfl) rfl (a13.trans rfl)), fun st mm ⟨a0, _⟩ _ => og (mv rfl (a0.trans rfl)), fun st mm ⟨a1, _⟩ _ => og (mv rfl (a1.trans rfl)), fun st mm ⟨a15, a16, _⟩ _ => og (ixR (f := L_tree_Let) Tryd.underlying47 ti_98 h17 rfl (a15.trans rfl) (a16.trans rfl)), fun st mm ⟨a17, _⟩ _ => og (faR fd_98_0 (by exact rfl) rfl (a17.trans rfl)), fun st mm ⟨a18, _⟩ _ => og (ldR sh_9 (by exact rfl) (by exact rfl) rfl (a18.trans rfl)), fun st mm ⟨a14, a19, _⟩ _ => og (eqS rfl (a14.trans rfl) (a19.trans rfl)), trivial⟩ ?_
      refine pnm ?_
      refine scond rfl ?_ ?_
      · refine sseq ?_
        refine sreg ?_
        refine s1 (asg rfl kB) ?_
        refine snil ?_
        refine pnm ?_
        refine sret ?_
        refine pbl ?_
        refine pth ?_
        refine sout (fun h => by cases h) ?_
        refine pbl ?_
        refine pth ?_
        exact ret [] [.tmp 4] [_] [_] .ret hγ (.inl rfl) rfl ⟨rfl, trivial⟩ rfl trivial trivial trivial (rns_cons (rn_id if_bl) (rns_nil)) rfl
      · refine sskip ?_
        refine pbn ?_
        refine pnm ?_
        refine sreg ?_
        refine s1 (addI rfl rfl (kI (x := 1) rfl)) ?_
        refine s1 (mv rfl rfl) ?_
        refine snil ?_
        exact sgo (entI ⟨rfl, rfl, rfl, rfl, rfl, trivial⟩ eqm0)
    · refine sexit ?_
      refine ptx ?_
      exact sout (fun h => by cases h) (sj (hj12 _) (entI ⟨rfl, trivial⟩ eqm0))
  · intro t11
    refine slpk ?_
    refine sx ?_
    refine pnm ?_
    refine sseq ?_
    refine sreg ?_
    refine s1 (asg rfl kB) ?_
    refine snil ?_
    refine pnm ?_
    refine sret ?_
    exact ret [] [.tmp 4] [_] [_] .ret hγ (.inl rfl) rfl ⟨rfl, trivial⟩ rfl trivial trivial trivial (rns_cons (rn_id if_bl) (rns_nil)) rfl
theorem c_tree_Arity {x0 : Int} : ∀ r, m_tree_Arity x0 = some r → FnOk Tryd.prog 59 [i64 x0] [] (i64 r) [] := by
  unfold m_tree_Arity
  refine fn_of_sq (res := fun (r : Int) => i64 r) (mo := fun (r : Int) => []) Tryd.func59 rfl rfl (by kernel_rfl) rfl ?_
  intro w S0 γ hγ
  refine sseq ?_
  refine sreg ?_
  refine s1 (asg rfl (kI (x := 0) rfl)) ?_
  refine snil ?_
  refine pnm ?_
  refine sseq ?_
  refine sseq ?_
  refine sreg ?_
  refine s1 (mv rfl rfl) ?_
  refine snil ?_
  refine pnm ?_
  refine sblk ?_
  refine sjq (fun (s3 : Bool) => [(2, i64 (0 : Int)), (3, i64 x0), (4, bl s3)]) (fun (s3 : Bool) => []) ?_ ?_
  · intro j1 hj2
    refine sseq ?_
    refine sreg ?_
    refine s1 (eqI rfl rfl (kI (x := 1) rfl)) ?_
    refine s1 (asg rfl rfl) ?_
    refine snil ?_
    refine pnm ?_
    refine scond rfl ?_ ?_
    · refine sskip ?_
      refine pnm ?_
      exact sj (hj2 _) (entI ⟨rfl, rfl, rfl, trivial⟩ eqm0)
    · refine sseq ?_
      refine sreg ?_
      refine s1 (eqI rfl rfl (kI (x := 2) rfl)) ?_
      refine s1 (asg rfl rfl) ?_
      refine snil ?_
      refine pnm ?_
      refine scond rfl ?_ ?_
      · refine sskip ?_
        refine pnm ?_
        exact sj (hj2 _) (entI ⟨rfl, rfl, rfl, trivial⟩ eqm0)
      · refine sseq ?_
        refine sreg ?_
        refine s1 (eqI rfl rfl (kI (x := 3) rfl)) ?_
        refine s1 (asg rfl rfl) ?_
        refine snil ?_
        refine pnm ?_
        refine scond rfl ?_ ?_
        · refine sskip ?_
          refine pnm ?_
          exact sj (hj2 _) (entI ⟨rfl, rfl, rfl, trivial⟩ eqm0)
        · refine sseq ?_
          refine sreg ?_
          refine s1 (eqI rfl rfl (kI (x := 4) rfl)) ?_
          refine s1 (asg rfl rfl) ?_
          refine snil ?_
          refine pnm ?_
          refine scond rfl ?_ ?_
          · refine sskip ?_
            refine pnm ?_
            exact sj (hj2 _) (entI ⟨rfl, rfl, rfl, trivial⟩ eqm0)
          · refine sreg ?_
            refine s1 (eqI rfl rfl (kI (x := 5) rfl)) ?_
            refine s1 (asg rfl rfl) ?_
            refine snil ?_
            refine pnm ?_
            exact sj (hj2 _) (entI ⟨rfl, rfl, rfl, trivial⟩ eqm0)
  · intro s3
    refine scond rfl ?_ ?_
    · refine sseq ?_
      refine sreg ?_
      refine s1 (asg rfl (kI (x := 0) rfl)) ?_
      refine snil ?_
      refine pnm ?_
      refine sret ?_
      refine pbl ?_
      refine pth ?_
      exact ret [] [.tmp 2] [_] [_] .ret hγ (.inl rfl) rfl ⟨rfl, trivial⟩ rfl trivial trivial trivial (rns_cons (rn_id if_i64) (rns_nil)) rfl
    · refine sjq (fun (s6 : Bool) => [(2, i64 (0 : Int)), (3, i64 x0), (10, bl s6)]) (fun (s6 : Bool) => []) ?_ ?_
      · intro j4 hj5
        refine sseq ?_
        refine sreg ?_
        refine s1 (eqI rfl rfl (kI (x := 6) rfl)) ?_
        refine s1 (asg rfl rfl) ?_
        refine snil ?_
        refine pnm ?_
        refine scond rfl ?_ ?_
        · refine sskip ?_
          refine pnm ?_
          exact sj (hj5 _) (entI ⟨rfl, rfl, rfl, trivial⟩ eqm0)
        · refine sreg ?_
          refine s1 (eqI rfl rfl (kI (x := 11) rfl)) ?_
          refine s1 (asg rfl rfl) ?_
          refine snil ?_
          refine pnm ?_
          exact sj (hj5 _) (entI ⟨rfl, rfl, rfl, trivial⟩ eqm0)
      · intro s6
        refine scond rfl ?_ ?_
        · refine sseq ?_
          refine sreg ?_
          refine s1 (asg rfl (kI (x := 1) rfl)) ?_
          refine snil ?_
          refine pnm ?_
          refine sret ?_
          refine pbl ?_
          refine pth ?_
          exact ret [] [.tmp 2] [_] [_] .ret hγ (.inl rfl) rfl ⟨rfl, trivial⟩ rfl trivial trivial trivial (rns_cons (rn_id if_i64) (rns_nil)) rfl
        · refine sjq (fun (s9 : Bool) => [(2, i64 (0 : Int)), (13, bl s9)]) (fun (s9 : Bool) => []) ?_ ?_
          · intro j7 hj8
            refine sseq ?_
            refine sreg ?_
            refine s1 (eqI rfl rfl (kI (x := 7) rfl)) ?_
            refine s1 (asg rfl rfl) ?_
            refine snil ?_
            refine pnm ?_
            refine scond rfl ?_ ?_
            · refine sskip ?_
              refine pnm ?_
              exact sj (hj8 _) (entI ⟨rfl, rfl, trivial⟩ eqm0)
            · refine sseq ?_
              refine sreg ?_
              refine s1 (eqI rfl rfl (kI (x := 8) rfl)) ?_
              refine s1 (asg rfl rfl) ?_
              refine snil ?_
              refine pnm ?_
              refine scond rfl ?_ ?_
              · refine sskip ?_
                refine pnm ?_
                exact sj (hj8 _) (entI ⟨rfl, rfl, trivial⟩ eqm0)
              · refine sseq ?_
                refine sreg ?_
                refine s1 (eqI rfl rfl (kI (x := 9) rfl)) ?_
                refine s1 (asg rfl rfl) ?_
                refine snil ?_
                refine pnm ?_
                refine scond rfl ?_ ?_
                · refine sskip ?_
                  refine pnm ?_
                  exact sj (hj8 _) (entI ⟨rfl, rfl, trivial⟩ eqm0)
                · refine sreg ?_
                  refine s1 (eqI rfl rfl (kI (x := 10) rfl)) ?_
                  refine s1 (asg rfl rfl) ?_
                  refine snil ?_
                  refine pnm ?_
                  exact sj (hj8 _) (entI ⟨rfl, rfl, trivial⟩ eqm0)
          · intro s9
            refine scond rfl ?_ ?_
            · refine sseq ?_
              refine sreg ?_
              refine s1 (asg rfl (kI (x := 2) rfl)) ?_
              refine snil ?_
              refine pnm ?_
              refine sret ?_
              refine pbl ?_
              refine pth ?_
              exact ret [] [.tmp 2] [_] [_] .ret hγ (.inl rfl) rfl ⟨rfl, trivial⟩ rfl trivial trivial trivial (rns_cons (rn_id if_i64) (rns_nil)) rfl
            · refine sskip ?_
              refine pbn ?_
              refine pnm ?_
              refine sseq ?_
              refine sreg ?_
              refine s1 (asg rfl (kI (x := (-1)) rfl)) ?_
              refine snil ?_
              refine pnm ?_
              refine sret ?_
              exact ret [] [.tmp 2] [_] [_] .ret hγ (.inl rfl) rfl ⟨rfl, trivial⟩ rfl trivial trivial trivial (rns_cons (rn_id if_i64) (rns_nil)) rfl
theorem c_tree_Wrong {x0 : (List M_tree_Node)} : ∀ r, m_tree_Wrong x0 = some r → FnOk Tryd.prog 60 [sli 3 (List.map L_tree_Node x0)] [] (i64 r) [] := by
  unfold m_tree_Wrong
  refine fn_of_sq (res := fun (r : Int) => i64 r) (mo := fun (r : Int) => []) Tryd.func60 rfl rfl (by kernel_rfl) rfl ?_
  intro w S0 γ hγ
  refine sseq ?_
  refine sreg ?_
  refine s1 (asg rfl (kI (x := 0) rfl)) ?_
  refine snil ?_
  refine pnm ?_
  refine sseq ?_
  refine sreg ?_
  refine s1 (asg rfl (kI (x := 0) rfl)) ?_
  refine snil ?_
  refine pnm ?_
  refine sseq ?_
  refine sseq ?_
  refine sreg ?_
  refine s1 (mv rfl rfl) ?_
  refine s1 (lenL (f := L_tree_Node) Tryd.underlying56 rfl rfl) ?_
  refine s1 (mv rfl (kI (x := 0) rfl)) ?_
  refine snil ?_
  refine pnm ?_
  refine sblk ?_
  refine srangeN (fun (s20 : Int) => [(0, sli 3 (List.map L_tree_Node x0)), (2, i64 (0 : Int)), (3, i64 s20), (7, sli 3 (List.map L_tree_Node x0))]) (fun (s20 : Int) => []) rfl (fun _ => rfl) (entI ⟨rfl, rfl, rfl, rfl, rfl, rfl, trivial⟩ eqm0) ?_ ?_
  · intro i21 x22 s20 hx23
    refine sblk ?_
    refine sseq ?_
    refine sreg ?_
    refine s1 (mv rfl rfl) ?_
    refine s1 (ixR (f := L_tree_Node) Tryd.underlying56 ti_60 (getI_nat hx23) rfl rfl rfl) ?_
    refine s1 (ldR sh_60 (by exact rfl) (by exact rfl) rfl rfl) ?_
    refine so (al (y := 100) (ly := L_tree_Node (⟨0, 0, []⟩ : M_tree_Node)) ti_60 zr_tree_Node rfl rfl) ?_
    refine s1 (asg rfl rfl) ?_
    refine so (stB2 (ly2 := L_tree_Node x22) [] (by exact rfl) rfl (by exact rfl) sh_60 (by exact rfl) (by exact rfl) (by exact rfl) rfl (.inr ⟨rfl, rfl, _, _, rfl⟩) rfl) ?_
    refine snil ?_
    refine pnm ?_
    refine sseq ?_
    refine sreg ?_
    refine s1 (faO rfl fd_60_0 rfl rfl) ?_
    refine s1 (ldB [0] rfl (by exact rfl) sh_3 (by exact rfl) (by exact rfl) rfl rfl (.inl rfl)) ?_
    refine bd fun r24 h25 => ?_
    refine s1 (call0 (c_tree_Arity _ h25) ⟨⟨_, rfl, rn_id if_i64⟩, trivial⟩ (if_i64) rfl) ?_
    refine s1 (asg rfl rfl) ?_
    refine snil ?_
    refine pnm ?_
    refine sseq ?_
    refine sjq (fun (s28 : Bool) => [(0, sli 3 (List.map L_tree_Node x0)), (2, i64 (0 : Int)), (3, i64 s20), (4, i64 (i21 : Int)), (6, i64 r24), (7, sli 3 (List.map L_tree_Node x0)), (8, i64 (x0.length : Int)), (9, i64 (i21 : Int)), (23, bl s28)]) (fun (s28 : Bool) => []) ?_ ?_
    · intro j26 hj27
      refine sreg ?_
      refine s1 (mv rfl rfl) ?_
      refine s1 (ltI rfl rfl (kI (x := 0) rfl)) ?_
      refine s1 (mv rfl rfl) ?_
      refine sifd 19 rfl ?_ ?_
      · refine spB 19 rfl rfl rfl ?_
        refine spB 19 rfl rfl rfl ?_
        refine spB 19 rfl rfl rfl ?_
        refine s1 (pickT rfl rfl kB) ?_
        refine snil ?_
        refine pnm ?_
        exact sj (hj27 _) (entR [] rfl (keepS hγ trivial) (by exact trivial) (by exact trivial) ⟨⟨_, rfl, rn_id if_sli⟩, ⟨_, rfl, rn_id if_i64⟩, ⟨_, rfl, rn_id if_i64⟩, ⟨_, rfl, rn_id if_i64⟩, ⟨_, rfl, rn_id if_i64⟩, ⟨_, rfl, rn_id if_sli⟩, ⟨_, rfl, rn_id if_i64⟩, ⟨_, rfl, rn_id if_i64⟩, ⟨_, rfl, rn_id if_bl⟩, trivial⟩)
      · refine sg 19 rfl rfl (mv rfl rfl) ?_
        refine sg 19 rfl rfl (mv rfl rfl) ?_
        refine sg 19 rfl rfl (gtI rfl rfl rfl) ?_
        refine s1 (pickF rfl rfl rfl) ?_
        refine snil ?_
        refine pnm ?_
        exact sj (hj27 _) (entR [] rfl (keepS hγ trivial) (by exact trivial) (by exact trivial) ⟨⟨_, rfl, rn_id if_sli⟩, ⟨_, rfl, rn_id if_i64⟩, ⟨_, rfl, rn_id if_i64⟩, ⟨_, rfl, rn_id if_i64⟩, ⟨_, rfl, rn_id if_i64⟩, ⟨_, rfl, rn_id if_sli⟩, ⟨_, rfl, rn_id if_i64⟩, ⟨_, rfl, rn_id if_i64⟩, ⟨_, rfl, rn_id if_bl⟩, trivial⟩)
    · intro s28
      refine scond rfl ?_ ?_
      · refine sseq ?_
        refine sreg ?_
        refine s1 (mv rfl rfl) ?_
        refine s1 (asg rfl rfl) ?_
        refine snil ?_
        refine pnm ?_
        refine sret ?_
        refine pth ?_
        refine pbl ?_
        refine sout (fun h => by cases h) ?_
        refine pbl ?_
        refine pth ?_
        exact ret [] [.tmp 2] [_] [_] .ret hγ (.inl rfl) rfl ⟨rfl, trivial⟩ rfl trivial trivial trivial (rns_cons (rn_id if_i64) (rns_nil)) rfl
      · refine sskip ?_
        refine pnm ?_
        refine sreg ?_
        refine s1 (mv rfl rfl) ?_
        refine s1 (mv rfl rfl) ?_
        refine s1 (subI rfl (kI (x := 1) rfl) rfl) ?_
        refine s1 (addI rfl rfl rfl) ?_
        refine s1 (asg rfl rfl) ?_
        refine snil ?_
        refine pbn ?_
        exact sgo (entI ⟨rfl, rfl, rfl, rfl, rfl, rfl, trivial⟩ eqm0)
  · intro s29
    refine sx ?_
    refine pnm ?_
    refine sseq ?_
    refine sseq ?_
    refine sreg ?_
    refine s1 (mv rfl rfl) ?_
    refine s1 (neI rfl rfl (kI (x := 1) rfl)) ?_
    refine snil ?_
    refine pnm ?_
    refine scond rfl ?_ ?_
    · refine sseq ?_
      refine sreg ?_
      refine s1 (mv rfl rfl) ?_
      refine s1 (lenL (f := L_tree_Node) Tryd.underlying56 rfl rfl) ?_
      refine s1 (asg rfl rfl) ?_
      refine snil ?_
      refine pnm ?_
      refine sret ?_
      refine pth ?_
      exact ret [] [.tmp 2] [_] [_] .ret hγ (.inl rfl) rfl ⟨rfl, trivial⟩ rfl trivial trivial trivial (rns_cons (rn_id if_i64) (rns_nil)) rfl
    · refine sskip ?_
      refine pnm ?_
      refine sseq ?_
      refine sreg ?_
      refine s1 (asg rfl (kI (x := (-1)) rfl)) ?_
      refine snil ?_
      refine pnm ?_
      refine sret ?_
      exact ret [] [.tmp 2] [_] [_] .ret hγ (.inl rfl) rfl ⟨rfl, trivial⟩ rfl trivial trivial trivial (rns_cons (rn_id if_i64) (rns_nil)) rfl
theorem c_check_number {n : Nat} {x0 : (List Nat)} : ∀ r, m_check_number n x0 = some r → FnOk Tryd.prog 57 [sli 1 (List.map u32 x0)] [] (bl r) [] := by
  unfold m_check_number
  refine fn_of_sq (res := fun (r : Bool) => bl r) (mo := fun (r : Bool) => []) Tryd.func57 rfl rfl (by kernel_rfl) rfl ?_
  intro w S0 γ hγ
  refine sseq ?_
  refine sreg ?_
  refine s1 (asg rfl kB) ?_
  refine snil ?_
  refine pnm ?_
  refine sjq (fun (s7 : Bool) => [(2, bl s7)]) (fun (s7 : Bool) => []) ?_ ?_
  · intro j5 hj6
    refine sreg ?_
    refine s1 (mv rfl rfl) ?_
    refine bd fun r8 h9 => ?_
    refine s1 (call0 (c_nat_Norm _ h9) ⟨⟨_, rfl, rn_id if_sli⟩, trivial⟩ (if_sli) rfl) ?_
    refine s1 (lenL (f := u32) Tryd.underlying23 rfl rfl) ?_
    refine s1 (mv rfl rfl) ?_
    refine s1 (lenL (f := u32) Tryd.underlying23 rfl rfl) ?_
    refine s1 (eqI rfl rfl rfl) ?_
    refine s1 (mv rfl rfl) ?_
    refine sifd 9 rfl ?_ ?_
    · refine sg 9 rfl rfl (mv rfl rfl) ?_
      refine bd fun r10 h11 => ?_
      refine sg 9 rfl rfl (call0 (c_digits_Len _ h11) ⟨⟨_, rfl, rn_id if_sli⟩, trivial⟩ (if_i64) rfl) ?_
      refine sg 9 rfl rfl (leI rfl rfl (kI (x := 60) rfl)) ?_
      refine s1 (pickT rfl rfl rfl) ?_
      refine s1 (asg rfl rfl) ?_
      refine snil ?_
      refine pnm ?_
      exact sj (hj6 _) (entI ⟨rfl, trivial⟩ eqm0)
    · refine spB 9 rfl rfl rfl ?_
      refine spB 9 rfl rfl rfl ?_
      refine spB 9 rfl rfl rfl ?_
      refine s1 (pickF rfl rfl kB) ?_
      refine s1 (asg rfl rfl) ?_
      refine snil ?_
      refine pnm ?_
      exact sj (hj6 _) (entI ⟨rfl, trivial⟩ eqm0)
  · intro s7
    refine sret ?_
    exact ret [] [.tmp 2] [_] [_] .ret hγ (.inl rfl) rfl ⟨rfl, trivial⟩ rfl trivial trivial trivial (rns_cons (rn_id if_bl) (rns_nil)) rfl
theorem c_check_below {x0 : Int} {x1 : Int} : ∀ r, m_check_below x0 x1 = some r → FnOk Tryd.prog 58 [i64 x0, i64 x1] [] (bl r) [] := by
  unfold m_check_below
  refine fn_of_sq (res := fun (r : Bool) => bl r) (mo := fun (r : Bool) => []) Tryd.func58 rfl rfl (by kernel_rfl) rfl ?_
  intro w S0 γ hγ
  refine sseq ?_
  refine sreg ?_
  refine s1 (asg rfl kB) ?_
  refine snil ?_
  refine pnm ?_
  refine sjq (fun (s3 : Bool) => [(4, bl s3)]) (fun (s3 : Bool) => []) ?_ ?_
  · intro j1 hj2
    refine sreg ?_
    refine s1 (mv rfl rfl) ?_
    refine s1 (geI rfl rfl (kI (x := 0) rfl)) ?_
    refine s1 (mv rfl rfl) ?_
    refine sifd 7 rfl ?_ ?_
    · refine sg 7 rfl rfl (mv rfl rfl) ?_
      refine sg 7 rfl rfl (mv rfl rfl) ?_
      refine sg 7 rfl rfl (ltI rfl rfl rfl) ?_
      refine s1 (pickT rfl rfl rfl) ?_
      refine s1 (asg rfl rfl) ?_
      refine snil ?_
      refine pnm ?_
      exact sj (hj2 _) (entI ⟨rfl, trivial⟩ eqm0)
    · refine spB 7 rfl rfl rfl ?_
      refine spB 7 rfl rfl rfl ?_
      refine spB 7 rfl rfl rfl ?_
      refine s1 (pickF rfl rfl kB) ?_
      refine s1 (asg rfl rfl) ?_
      refine snil ?_
      refine pnm ?_
      exact sj (hj2 _) (entI ⟨rfl, trivial⟩ eqm0)
  · intro s3
    refine sret ?_
    exact ret [] [.tmp 4] [_] [_] .ret hγ (.inl rfl) rfl ⟨rfl, trivial⟩ rfl trivial trivial trivial (rns_cons (rn_id if_bl) (rns_nil)) rfl
theorem c_check_Node {n : Nat} {x0 : M_tree_Node} {x1 : Int} {x2 : Int} {x3 : Int} : ∀ r, m_check_Node n x0 x1 x2 x3 = some r → FnOk Tryd.prog 27 [L_tree_Node x0, i64 x1, i64 x2, i64 x3] [] (bl r) [] := by
  unfold m_check_Node
  refine fn_of_sq (res := fun (r : Bool) => bl r) (mo := fun (r : Bool) => []) Tryd.func27 rfl rfl (by kernel_rfl) rfl ?_
  intro w S0 γ hγ
  refine sseq ?_
  refine sreg ?_
  refine so (box (y := 100) (by exact rfl) rfl rfl rfl) ?_
  refine s1 (asg rfl kB) ?_
  refine snil ?_
  refine pnm ?_
  refine sseq ?_
  refine sjq (fun (s3 : Bool) => [(1, i64 x1), (2, i64 x2), (3, i64 x3), (4, .own 100), (8, bl false), (17, bl s3)]) (fun (s3 : Bool) => [(100, .bx 60 (L_tree_Node x0))]) ?_ ?_
  · intro j1 hj2
    refine sreg ?_
    refine s1 (faO rfl fd_60_0 rfl rfl) ?_
    refine s1 (ldB [0] rfl (by exact rfl) sh_3 (by exact rfl) (by exact rfl) rfl rfl (.inl rfl)) ?_
    refine s1 (neI rfl rfl (kI (x := 1) rfl)) ?_
    refine s1 (mv rfl rfl) ?_
    refine sifd 12 rfl ?_ ?_
    · refine sg 12 rfl rfl (faO rfl fd_60_2 rfl rfl) ?_
      refine sg 12 rfl rfl (ldB [2] rfl (by exact rfl) sh_23 (by exact rfl) (by exact rfl) rfl rfl (.inl rfl)) ?_
      refine sg 12 rfl rfl (lenL (f := u32) Tryd.underlying23 rfl rfl) ?_
      refine sg 12 rfl rfl (gtI rfl rfl (kI (x := 0) rfl)) ?_
      refine s1 (pickT rfl rfl rfl) ?_
      refine snil ?_
      refine pnm ?_
      exact sj (hj2 _) (entR [(100, 100)] rfl (keepS hγ trivial) ⟨⟨_, rfl⟩, trivial⟩ ⟨⟨_, _, rfl, rfl, rci (rc_bx (rn_id if_L_tree_Node))⟩, trivial⟩ ⟨⟨_, rfl, rn_id if_i64⟩, ⟨_, rfl, rn_id if_i64⟩, ⟨_, rfl, rn_id if_i64⟩, ⟨_, rfl, rn_own rfl⟩, ⟨_, rfl, rn_id if_bl⟩, ⟨_, rfl, rn_id if_bl⟩, trivial⟩)
    · refine spB 12 rfl rfl rfl ?_
      refine spB 12 rfl rfl rfl ?_
      refine spB 12 rfl rfl rfl ?_
      refine spB 12 rfl rfl rfl ?_
      refine s1 (pickF rfl rfl kB) ?_
      refine snil ?_
      refine pnm ?_
      exact sj (hj2 _) (entR [(100, 100)] rfl (keepS hγ trivial) ⟨⟨_, rfl⟩, trivial⟩ ⟨⟨_, _, rfl, rfl, rci (rc_bx (rn_id if_L_tree_Node))⟩, trivial⟩ ⟨⟨_, rfl, rn_id if_i64⟩, ⟨_, rfl, rn_id if_i64⟩, ⟨_, rfl, rn_id if_i64⟩, ⟨_, rfl, rn_own rfl⟩, ⟨_, rfl, rn_id if_bl⟩, ⟨_, rfl, rn_id if_bl⟩, trivial⟩)
  · intro s3
    refine scond rfl ?_ ?_
    · refine sseq ?_
      refine sreg ?_
      refine s1 (asg rfl kB) ?_
      refine snil ?_
      refine pnm ?_
      refine sret ?_
      refine pth ?_
      exact ret [] [.tmp 8] [_] [_] .ret hγ (.inl rfl) rfl ⟨rfl, trivial⟩ rfl trivial trivial trivial (rns_cons (rn_id if_bl) (rns_nil)) rfl
    · refine sskip ?_
      refine pnm ?_
      refine sseq ?_
      refine sseq ?_
      refine sreg ?_
      refine s1 (faO rfl fd_60_0 rfl rfl) ?_
      refine s1 (ldB [0] rfl (by exact rfl) sh_3 (by exact rfl) (by exact rfl) rfl rfl (.inl rfl)) ?_
      refine snil ?_
      refine pnm ?_
      refine sblk ?_
      refine sseq ?_
      refine sreg ?_
      refine s1 (eqI rfl rfl (kI (x := 1) rfl)) ?_
      refine s1 (asg rfl rfl) ?_
      refine snil ?_
      refine pnm ?_
      refine scond rfl ?_ ?_
      · refine sjq (fun (s8 : Bool) => [(4, .own 100), (8, bl s8)]) (fun (s8 : Bool) => [(100, .bx 60 (L_tree_Node x0))]) ?_ ?_
        · intro j6 hj7
          refine sreg ?_
          refine s1 (faO rfl fd_60_1 rfl rfl) ?_
          refine s1 (ldB [1] rfl (by exact rfl) sh_3 (by exact rfl) (by exact rfl) rfl rfl (.inl rfl)) ?_
          refine s1 (eqI rfl rfl (kI (x := 0) rfl)) ?_
          refine s1 (mv rfl rfl) ?_
          refine sifd 25 rfl ?_ ?_
          · refine sg 25 rfl rfl (faO rfl fd_60_2 rfl rfl) ?_
            refine sg 25 rfl rfl (ldB [2] rfl (by exact rfl) sh_23 (by exact rfl) (by exact rfl) rfl rfl (.inl rfl)) ?_
            refine bd fun r9 h10 => ?_
            refine sg 25 rfl rfl (call0 (c_check_number _ h10) ⟨⟨_, rfl, rn_id if_sli⟩, trivial⟩ (if_bl) rfl) ?_
            refine s1 (pickT rfl rfl rfl) ?_
            refine s1 (asg rfl rfl) ?_
            refine snil ?_
            refine pnm ?_
            exact sj (hj7 _) (entR [(100, 100)] rfl (keepS hγ trivial) ⟨⟨_, rfl⟩, trivial⟩ ⟨⟨_, _, rfl, rfl, rci (rc_bx (rn_id if_L_tree_Node))⟩, trivial⟩ ⟨⟨_, rfl, rn_own rfl⟩, ⟨_, rfl, rn_id if_bl⟩, trivial⟩)
          · refine spB 25 rfl rfl rfl ?_
            refine spB 25 rfl rfl rfl ?_
            refine spB 25 rfl rfl rfl ?_
            refine s1 (pickF rfl rfl kB) ?_
            refine s1 (asg rfl rfl) ?_
            refine snil ?_
            refine pnm ?_
            exact sj (hj7 _) (entR [(100, 100)] rfl (keepS hγ trivial) ⟨⟨_, rfl⟩, trivial⟩ ⟨⟨_, _, rfl, rfl, rci (rc_bx (rn_id if_L_tree_Node))⟩, trivial⟩ ⟨⟨_, rfl, rn_own rfl⟩, ⟨_, rfl, rn_id if_bl⟩, trivial⟩)
        · intro s8
          refine sret ?_
          refine pbl ?_
          refine pth ?_
          exact ret [] [.tmp 8] [_] [_] .ret hγ (.inl rfl) rfl ⟨rfl, trivial⟩ rfl trivial trivial trivial (rns_cons (rn_id if_bl) (rns_nil)) rfl
      · refine sseq ?_
        refine sreg ?_
        refine s1 (eqI rfl rfl (kI (x := 3) rfl)) ?_
        refine s1 (asg rfl rfl) ?_
        refine snil ?_
        refine pnm ?_
        refine scond rfl ?_ ?_
        · refine sseq ?_
          refine sreg ?_
          refine s1 (faO rfl fd_60_1 rfl rfl) ?_
          refine s1 (ldB [1] rfl (by exact rfl) sh_3 (by exact rfl) (by exact rfl) rfl rfl (.inl rfl)) ?_
          refine s1 (mv rfl rfl) ?_
          refine bd fun r11 h12 => ?_
          refine s1 (call0 (c_check_below _ h12) ⟨⟨_, rfl, rn_id if_i64⟩, ⟨_, rfl, rn_id if_i64⟩, trivial⟩ (if_bl) rfl) ?_
          refine s1 (asg rfl rfl) ?_
          refine snil ?_
          refine pnm ?_
          refine sret ?_
          refine pbl ?_
          refine pth ?_
          exact ret [] [.tmp 8] [_] [_] .ret hγ (.inl rfl) rfl ⟨rfl, trivial⟩ rfl trivial trivial trivial (rns_cons (rn_id if_bl) (rns_nil)) rfl
        · refine sseq ?_
          refine sreg ?_
          refine s1 (eqI rfl rfl (kI (x := 4) rfl)) ?_
          refine s1 (asg rfl rfl) ?_
          refine snil ?_
          refine pnm ?_
          refine scond rfl ?_ ?_
          · refine sseq ?_
            refine sreg ?_
            refine s1 (faO rfl fd_60_1 rfl rfl) ?_
            refine s1 (ldB [1] rfl (by exact rfl) sh_3 (by exact rfl) (by exact rfl) rfl rfl (.inl rfl)) ?_
            refine s1 (mv rfl rfl) ?_
            refine bd fun r13 h14 => ?_
            refine s1 (call0 (c_check_below _ h14) ⟨⟨_, rfl, rn_id if_i64⟩, ⟨_, rfl, rn_id if_i64⟩, trivial⟩ (if_bl) rfl) ?_
            refine s1 (asg rfl rfl) ?_
            refine snil ?_
            refine pnm ?_
            refine sret ?_
            refine pbl ?_
            refine pth ?_
            exact ret [] [.tmp 8] [_] [_] .ret hγ (.inl rfl) rfl ⟨rfl, trivial⟩ rfl trivial trivial trivial (rns_cons (rn_id if_bl) (rns_nil)) rfl
          · refine sseq ?_
            refine sreg ?_
            refine s1 (eqI rfl rfl (kI (x := 5) rfl)) ?_
            refine s1 (asg rfl rfl) ?_
            refine snil ?_
            refine pnm ?_
            refine scond rfl ?_ ?_
            · refine sseq ?_
              refine sreg ?_
              refine s1 (faO rfl fd_60_1 rfl rfl) ?_
              refine s1 (ldB [1] rfl (by exact rfl) sh_3 (by exact rfl) (by exact rfl) rfl rfl (.inl rfl)) ?_
              refine s1 (mv rfl rfl) ?_
              refine bd fun r15 h16 => ?_
              refine s1 (call0 (c_check_below _ h16) ⟨⟨_, rfl, rn_id if_i64⟩, ⟨_, rfl, rn_id if_i64⟩, trivial⟩ (if_bl) rfl) ?_
              refine s1 (asg rfl rfl) ?_
              refine snil ?_
              refine pnm ?_
              refine sret ?_
              refine pbl ?_
              refine pth ?_
              exact ret [] [.tmp 8] [_] [_] .ret hγ (.inl rfl) rfl ⟨rfl, trivial⟩ rfl trivial trivial trivial (rns_cons (rn_id if_bl) (rns_nil)) rfl
            · refine sseq ?_
              refine sreg ?_
              refine s1 (eqI rfl rfl (kI (x := 11) rfl)) ?_
              refine s1 (asg rfl rfl) ?_
              refine snil ?_
              refine pnm ?_
              refine scond rfl ?_ ?_
              · refine sjq (fun (s19 : Bool) => [(4, .own 100), (8, bl s19)]) (fun (s19 : Bool) => [(100, .bx 60 (L_tree_Node x0))]) ?_ ?_
                · intro j17 hj18
                  refine sreg ?_
                  refine s1 (faO rfl fd_60_1 rfl rfl) ?_
                  refine s1 (ldB [1] rfl (by exact rfl) sh_3 (by exact rfl) (by exact rfl) rfl rfl (.inl rfl)) ?_
                  refine s1 (geI rfl rfl (kI (x := (-8)) rfl)) ?_
                  refine s1 (mv rfl rfl) ?_
                  refine sifd 53 rfl ?_ ?_
                  · refine sg 53 rfl rfl (faO rfl fd_60_1 rfl rfl) ?_
                    refine sg 53 rfl rfl (ldB [1] rfl (by exact rfl) sh_3 (by exact rfl) (by exact rfl) rfl rfl (.inl rfl)) ?_
                    refine sg 53 rfl rfl (leI rfl rfl (kI (x := 8) rfl)) ?_
                    refine s1 (pickT rfl rfl rfl) ?_
                    refine s1 (asg rfl rfl) ?_
                    refine snil ?_
                    refine pnm ?_
                    exact sj (hj18 _) (entR [(100, 100)] rfl (keepS hγ trivial) ⟨⟨_, rfl⟩, trivial⟩ ⟨⟨_, _, rfl, rfl, rci (rc_bx (rn_id if_L_tree_Node))⟩, trivial⟩ ⟨⟨_, rfl, rn_own rfl⟩, ⟨_, rfl, rn_id if_bl⟩, trivial⟩)
                  · refine spB 53 rfl rfl rfl ?_
                    refine spB 53 rfl rfl rfl ?_
                    refine spB 53 rfl rfl rfl ?_
                    refine s1 (pickF rfl rfl kB) ?_
                    refine s1 (asg rfl rfl) ?_
                    refine snil ?_
                    refine pnm ?_
                    exact sj (hj18 _) (entR [(100, 100)] rfl (keepS hγ trivial) ⟨⟨_, rfl⟩, trivial⟩ ⟨⟨_, _, rfl, rfl, rci (rc_bx (rn_id if_L_tree_Node))⟩, trivial⟩ ⟨⟨_, rfl, rn_own rfl⟩, ⟨_, rfl, rn_id if_bl⟩, trivial⟩)
                · intro s19
                  refine sret ?_
                  refine pbl ?_
                  refine pth ?_
                  exact ret [] [.tmp 8] [_] [_] .ret hγ (.inl rfl) rfl ⟨rfl, trivial⟩ rfl trivial trivial trivial (rns_cons (rn_id if_bl) (rns_nil)) rfl
              · refine sskip ?_
                refine pbn ?_
                refine pnm ?_
                refine sjq (fun (s24 : Bool) => [(8, bl s24)]) (fun (s24 : Bool) => []) ?_ ?_
                · intro j22 hj23
                  refine sreg ?_
                  refine s1 (faO rfl fd_60_1 rfl rfl) ?_
                  refine s1 (ldB [1] rfl (by exact rfl) sh_3 (by exact rfl) (by exact rfl) rfl rfl (.inl rfl)) ?_
                  refine s1 (eqI rfl rfl (kI (x := 0) rfl)) ?_
                  refine s1 (mv rfl rfl) ?_
                  refine sifd 61 rfl ?_ ?_
                  · refine sg 61 rfl rfl (faO rfl fd_60_0 rfl rfl) ?_
                    refine sg 61 rfl rfl (ldB [0] rfl (by exact rfl) sh_3 (by exact rfl) (by exact rfl) rfl rfl (.inl rfl)) ?_
                    refine bd fun r25 h26 => ?_
                    refine sg 61 rfl rfl (call0 (c_tree_Arity _ h26) ⟨⟨_, rfl, rn_id if_i64⟩, trivial⟩ (if_i64) rfl) ?_
                    refine sg 61 rfl rfl (geI rfl rfl (kI (x := 0) rfl)) ?_
                    refine s1 (pickT rfl rfl rfl) ?_
                    refine s1 (asg rfl rfl) ?_
                    refine snil ?_
                    refine pnm ?_
                    exact sj (hj23 _) (entR [] rfl (keepS hγ trivial) (by exact trivial) (by exact trivial) ⟨⟨_, rfl, rn_id if_bl⟩, trivial⟩)
                  · refine spB 61 rfl rfl rfl ?_
                    refine spB 61 rfl rfl rfl ?_
                    refine spB 61 rfl rfl rfl ?_
                    refine spB 61 rfl rfl rfl ?_
                    refine s1 (pickF rfl rfl kB) ?_
                    refine s1 (asg rfl rfl) ?_
                    refine snil ?_
                    refine pnm ?_
                    exact sj (hj23 _) (entR [] rfl (keepS hγ trivial) (by exact trivial) (by exact trivial) ⟨⟨_, rfl, rn_id if_bl⟩, trivial⟩)
                · intro s24
                  refine sret ?_
                  exact ret [] [.tmp 8] [_] [_] .ret hγ (.inl rfl) rfl ⟨rfl, trivial⟩ rfl trivial trivial trivial (rns_cons (rn_id if_bl) (rns_nil)) rfl
theorem c_check_Place {n : Nat} {x0 : (List M_tree_Node)} {x1 : Int} {x2 : Int} {x3 : Int} : ∀ r, m_check_Place n x0 x1 x2 x3 = some r → FnOk Tryd.prog 29 [sli 3 (List.map L_tree_Node x0), i64 x1, i64 x2, i64 x3] [] (i64 r) [] := by
  unfold m_check_Place
  refine fn_of_sq (res := fun (r : Int) => i64 r) (mo := fun (r : Int) => []) Tryd.func29 rfl rfl (by kernel_rfl) rfl ?_
  intro w S0 γ hγ
  refine sseq ?_
  refine sreg ?_
  refine s1 (asg rfl (kI (x := 0) rfl)) ?_
  refine snil ?_
  refine pnm ?_
  refine sseq ?_
  refine sreg ?_
  refine s1 (mv rfl rfl) ?_
  refine bd fun r1 h2 => ?_
  refine s1 (call0 (c_tree_Wrong _ h2) ⟨⟨_, rfl, rn_id if_sli⟩, trivial⟩ (if_i64) rfl) ?_
  refine s1 (asg rfl rfl) ?_
  refine snil ?_
  refine pnm ?_
  refine sseq ?_
  refine sseq ?_
  refine sreg ?_
  refine s1 (mv rfl rfl) ?_
  refine s1 (lenL (f := L_tree_Node) Tryd.underlying56 rfl rfl) ?_
  refine s1 (mv rfl (kI (x := 0) rfl)) ?_
  refine snil ?_
  refine pnm ?_
  refine sblk ?_
  refine srangeN (fun (s15 : Unit) => [(1, i64 x1), (2, i64 x2), (3, i64 x3), (8, i64 (0 : Int)), (9, i64 r1), (14, sli 3 (List.map L_tree_Node x0))]) (fun (s15 : Unit) => []) rfl (fun _ => rfl) (entI ⟨rfl, rfl, rfl, rfl, rfl, rfl, rfl, rfl, trivial⟩ eqm0) ?_ ?_
  · intro i16 x17 s15 hx18
    refine sblk ?_
    refine sseq ?_
    refine sreg ?_
    refine s1 (mv rfl rfl) ?_
    refine s1 (ixR (f := L_tree_Node) Tryd.underlying56 ti_60 (getI_nat hx18) rfl rfl rfl) ?_
    refine s1 (ldR sh_60 (by exact rfl) (by exact rfl) rfl rfl) ?_
    refine so (al (y := 100) (ly := L_tree_Node (⟨0, 0, []⟩ : M_tree_Node)) ti_60 zr_tree_Node rfl rfl) ?_
    refine s1 (asg rfl rfl) ?_
    refine so (stB2 (ly2 := L_tree_Node x17) [] (by exact rfl) rfl (by exact rfl) sh_60 (by exact rfl) (by exact rfl) (by exact rfl) rfl (.inr ⟨rfl, rfl, _, _, rfl⟩) rfl) ?_
    refine snil ?_
    refine pnm ?_
    refine sjq (fun (s23 : Bool) => [(1, i64 x1), (2, i64 x2), (3, i64 x3), (8, i64 (0 : Int)), (9, i64 r1), (10, i64 (i16 : Int)), (14, sli 3 (List.map L_tree_Node x0)), (15, i64 (x0.length : Int)), (16, i64 (i16 : Int)), (31, bl s23)]) (fun (s23 : Bool) => []) ?_ ?_
    · intro j21 hj22
      refine sreg ?_
      refine s1 (mv rfl rfl) ?_
      refine s1 (mv rfl rfl) ?_
      refine s1 (eqI rfl rfl rfl) ?_
      refine s1 (mv rfl rfl) ?_
      refine sifd 24 rfl ?_ ?_
      · refine spB 24 rfl rfl rfl ?_
        refine spB 24 rfl rfl rfl ?_
        refine spB 24 rfl rfl rfl ?_
        refine spB 24 rfl rfl rfl ?_
        refine spB 24 rfl rfl rfl ?_
        refine spB 24 rfl rfl rfl ?_
        refine s1 (pickT rfl rfl kB) ?_
        refine snil ?_
        refine pnm ?_
        exact sj (hj22 _) (entR [] rfl (keepS hγ trivial) (by exact trivial) (by exact trivial) ⟨⟨_, rfl, rn_id if_i64⟩, ⟨_, rfl, rn_id if_i64⟩, ⟨_, rfl, rn_id if_i64⟩, ⟨_, rfl, rn_id if_i64⟩, ⟨_, rfl, rn_id if_i64⟩, ⟨_, rfl, rn_id if_i64⟩, ⟨_, rfl, rn_id if_sli⟩, ⟨_, rfl, rn_id if_i64⟩, ⟨_, rfl, rn_id if_i64⟩, ⟨_, rfl, rn_id if_bl⟩, trivial⟩)
      · refine sg 24 rfl rfl (ldB [] rfl rfl sh_60 (by exact rfl) (by exact rfl) rfl rfl (.inr ⟨rfl, rfl, _, _, rfl⟩)) ?_
        refine sg 24 rfl rfl (mv rfl rfl) ?_
        refine sg 24 rfl rfl (mv rfl rfl) ?_
        refine sg 24 rfl rfl (mv rfl rfl) ?_
        refine bd fun r24 h25 => ?_
        refine sg 24 rfl rfl (call0 (c_check_Node _ h25) ⟨⟨_, rfl, rn_id if_L_tree_Node⟩, ⟨_, rfl, rn_id if_i64⟩, ⟨_, rfl, rn_id if_i64⟩, ⟨_, rfl, rn_id if_i64⟩, trivial⟩ (if_bl) rfl) ?_
        refine sg 24 rfl rfl (notB rfl rfl) ?_
        refine s1 (pickF rfl rfl rfl) ?_
        refine snil ?_
        refine pnm ?_
        exact sj (hj22 _) (entR [] rfl (keepS hγ trivial) (by exact trivial) (by exact trivial) ⟨⟨_, rfl, rn_id if_i64⟩, ⟨_, rfl, rn_id if_i64⟩, ⟨_, rfl, rn_id if_i64⟩, ⟨_, rfl, rn_id if_i64⟩, ⟨_, rfl, rn_id if_i64⟩, ⟨_, rfl, rn_id if_i64⟩, ⟨_, rfl, rn_id if_sli⟩, ⟨_, rfl, rn_id if_i64⟩, ⟨_, rfl, rn_id if_i64⟩, ⟨_, rfl, rn_id if_bl⟩, trivial⟩)
    · intro s23
      refine scond rfl ?_ ?_
      · refine sseq ?_
        refine sreg ?_
        refine s1 (mv rfl rfl) ?_
        refine s1 (asg rfl rfl) ?_
        refine snil ?_
        refine pnm ?_
        refine sret ?_
        refine pbl ?_
        refine sout (fun h => by cases h) ?_
        refine pbl ?_
        refine pth ?_
        exact ret [] [.tmp 8] [_] [_] .ret hγ (.inl rfl) rfl ⟨rfl, trivial⟩ rfl trivial trivial trivial (rns_cons (rn_id if_i64) (rns_nil)) rfl
      · refine sskip ?_
        refine pbn ?_
        exact sgo (entI ⟨rfl, rfl, rfl, rfl, rfl, rfl, rfl, rfl, trivial⟩ eqm0)
  · intro s26
    refine sx ?_
    refine pnm ?_
    refine sseq ?_
    refine sreg ?_
    refine s1 (mv rfl rfl) ?_
    refine s1 (asg rfl rfl) ?_
    refine snil ?_
    refine pnm ?_
    refine sret ?_
    exact ret [] [.tmp 8] [_] [_] .ret hγ (.inl rfl) rfl ⟨rfl, trivial⟩ rfl trivial trivial trivial (rns_cons (rn_id if_i64) (rns_nil)) rfl
theorem c_tree_Right {x0 : (List M_tree_Node)} : ∀ r, m_tree_Right x0 = some r → FnOk Tryd.prog 34 [sli 3 (List.map L_tree_Node x0)] [] (bl r) [] := by
  unfold m_tree_Right
  refine fn_of_sq (res := fun (r : Bool) => bl r) (mo := fun (r : Bool) => []) Tryd.func34 rfl rfl (by kernel_rfl) rfl ?_
  intro w S0 γ hγ
  refine sseq ?_
  refine sreg ?_
  refine s1 (asg rfl kB) ?_
  refine snil ?_
  refine pnm ?_
  refine sseq ?_
  refine sreg ?_
  refine s1 (mv rfl rfl) ?_
  refine bd fun r1 h2 => ?_
  refine s1 (call0 (c_tree_Wrong _ h2) ⟨⟨_, rfl, rn_id if_sli⟩, trivial⟩ (if_i64) rfl) ?_
  refine s1 (ltI rfl rfl (kI (x := 0) rfl)) ?_
  refine s1 (asg rfl rfl) ?_
  refine snil ?_
  refine pnm ?_
  refine sret ?_
  exact ret [] [.tmp 2] [_] [_] .ret hγ (.inl rfl) rfl ⟨rfl, trivial⟩ rfl trivial trivial trivial (rns_cons (rn_id if_bl) (rns_nil)) rfl
theorem c_tree_Depth {n : Nat} {x0 : (List M_tree_Node)} : ∀ r, m_tree_Depth n x0 = some r → FnOk Tryd.prog 35 [sli 3 (List.map L_tree_Node x0)] [] (i64 r) [] := by
  unfold m_tree_Depth
  refine fn_of_sq (res := fun (r : Int) => i64 r) (mo := fun (r : Int) => []) Tryd.func35 rfl rfl (by kernel_rfl) rfl ?_
  intro w S0 γ hγ
  refine sseq ?_
  refine sreg ?_
  refine s1 (asg rfl (kI (x := 0) rfl)) ?_
  refine snil ?_
  refine pnm ?_
  refine sseq ?_
  refine sseq ?_
  refine sreg ?_
  refine s1 (mv rfl rfl) ?_
  refine bd fun r1 h2 => ?_
  refine s1 (call0 (c_tree_Right _ h2) ⟨⟨_, rfl, rn_id if_sli⟩, trivial⟩ (if_bl) rfl) ?_
  refine s1 (notB rfl rfl) ?_
  refine snil ?_
  refine pnm ?_
  refine scond rfl ?_ ?_
  · refine sseq ?_
    refine sreg ?_
    refine s1 (asg rfl (kI (x := 0) rfl)) ?_
    refine snil ?_
    refine pnm ?_
    refine sret ?_
    refine pth ?_
    exact ret [] [.tmp 2] [_] [_] .ret hγ (.inl rfl) rfl ⟨rfl, trivial⟩ rfl trivial trivial trivial (rns_cons (rn_id if_i64) (rns_nil)) rfl
  · refine sskip ?_
    refine pnm ?_
    refine sseq ?_
    refine sreg ?_
    refine so (asgN (y := 100) (E := 3) (k := 1) rfl rfl) ?_
    refine snil ?_
    refine pnm ?_
    refine sseq ?_
    refine sseq ?_
    refine sreg ?_
    refine s1 (mv rfl rfl) ?_
    refine s1 (lenL (f := L_tree_Node) Tryd.underlying56 rfl rfl) ?_
    refine s1 (mv rfl (kI (x := 0) rfl)) ?_
    refine snil ?_
    refine pnm ?_
    refine sblk ?_
    refine srangeN (fun (s49 : (List Int)) => [(2, i64 (0 : Int)), (3, .own 100), (10, sli 3 (List.map L_tree_Node x0))]) (fun (s49 : (List Int)) => [(100, .sl 3 1 (List.map i64 s49))]) rfl (fun _ => rfl) (entR [(100, 100)] rfl (keepS hγ trivial) ⟨⟨_, rfl⟩, trivial⟩ ⟨⟨_, _, rfl, rfl, rci (rc_sl (ifs_map (f := i64) (fun _ => if_i64) ([] : List Int)))⟩, trivial⟩ ⟨⟨_, rfl, rn_id if_i64⟩, ⟨_, rfl, rn_id if_i64⟩, ⟨_, rfl, rn_id if_i64⟩, ⟨_, rfl, rn_own rfl⟩, ⟨_, rfl, rn_id if_sli⟩, trivial⟩) ?_ ?_
    · intro i50 x51 s49 hx52
      refine sblk ?_
      refine sseq ?_
      refine sreg ?_
      refine s1 (ixR (f := L_tree_Node) Tryd.underlying56 ti_60 (getI_nat hx52) rfl rfl rfl) ?_
      refine s1 (ldR sh_60 (by exact rfl) (by exact rfl) rfl rfl) ?_
      refine so (al (y := 101) (ly := L_tree_Node (⟨0, 0, []⟩ : M_tree_Node)) ti_60 zr_tree_Node rfl rfl) ?_
      refine so (stB2 (ly2 := L_tree_Node x51) [] (by exact rfl) rfl (by exact rfl) sh_60 (by exact rfl) (by exact rfl) (by exact rfl) rfl (.inr ⟨rfl, rfl, _, _, rfl⟩) rfl) ?_
      refine snil ?_
      refine pnm ?_
      refine sseq ?_
      refine sreg ?_
      refine s1 (asg rfl (kI (x := 0) rfl)) ?_
      refine snil ?_
      refine pnm ?_
      refine sseq ?_
      refine sseq ?_
      refine sreg ?_
      refine s1 (faO rfl fd_60_0 rfl rfl) ?_
      refine s1 (ldB [0] rfl (by exact rfl) sh_3 (by exact rfl) (by exact rfl) rfl rfl (.inl rfl)) ?_
      refine bd fun r53 h54 => ?_
      refine s1 (call0 (c_tree_Arity _ h54) ⟨⟨_, rfl, rn_id if_i64⟩, trivial⟩ (if_i64) rfl) ?_
      refine s1 (mv rfl (kI (x := 0) rfl)) ?_
      refine snil ?_
      refine pnm ?_
      refine sblk ?_
      refine sloopE 2 (fun t => t) (fun (s62 : (List Int) × Int × Int) => [(2, i64 (0 : Int)), (3, .own 100), (6, i64 s62.2.1), (10, sli 3 (List.map L_tree_Node x0)), (11, i64 (x0.length : Int)), (12, i64 (i50 : Int)), (18, i64 r53), (19, i64 s62.2.2)]) (fun (s62 : (List Int) × Int × Int) => [(100, .sl 3 1 (List.map i64 s62.1))]) (fun (t60 : (List Int) × Int) => [(2, i64 (0 : Int)), (3, .own 100), (6, i64 t60.2), (10, sli 3 (List.map L_tree_Node x0)), (11, i64 (x0.length : Int)), (12, i64 (i50 : Int))]) (fun (t60 : (List Int) × Int) => [(100, .sl 3 1 (List.map i64 t60.1))]) (entR [(100, 100)] rfl (keepS hγ trivial) ⟨⟨_, rfl⟩, trivial⟩ ⟨⟨_, _, rfl, rfl, rci (rc_sl (ifs_map (f := i64) (fun _ => if_i64) s49))⟩, trivial⟩ ⟨⟨_, rfl, rn_id if_i64⟩, ⟨_, rfl, rn_own rfl⟩, ⟨_, rfl, rn_id if_i64⟩, ⟨_, rfl, rn_id if_sli⟩, ⟨_, rfl, rn_id if_i64⟩, ⟨_, rfl, rn_id if_i64⟩, ⟨_, rfl, rn_id if_i64⟩, ⟨_, rfl, rn_id if_i64⟩, trivial⟩) ?_ ?_
      · intro hj61 s62
        refine sseq ?_
        refine sreg ?_
        refine s1 (ltI rfl rfl rfl) ?_
        refine snil ?_
        refine pnm ?_
        refine sseq ?_
        refine scond rfl ?_ ?_
        · refine sskip ?_
          refine pnm ?_
          refine sseq ?_
          refine sblk ?_
          refine sseq ?_
          refine sreg ?_
          refine s1 (mv rfl rfl) ?_
          refine s1 (mv rfl rfl) ?_
          refine s1 (mv rfl rfl) ?_
          refine s1 (lenO (f := i64) Tryd.underlying109 rfl rfl rfl) ?_
          refine s1 (subI rfl rfl (kI (x := 1) rfl)) ?_
          refine bd fun y63 h64 => ?_
          refine s1 (ixO (f := i64) rfl Tryd.underlying109 ti_3 h64 rfl rfl rfl) ?_
          refine s1 (ldO (f := i64) [] rfl (getI_ix h64) (by exact rfl) (by exact rfl) sh_3 (by exact rfl) (by exact rfl) rfl rfl) ?_
          refine s1 (maxI rfl rfl rfl) ?_
          refine s1 (asg rfl rfl) ?_
          refine snil ?_
          refine pnm ?_
          refine sreg ?_
          refine s1 (mv rfl rfl) ?_
          refine s1 (mv rfl rfl) ?_
          refine s1 (lenO (f := i64) Tryd.underlying109 rfl rfl rfl) ?_
          refine s1 (subI rfl rfl (kI (x := 1) rfl)) ?_
          refine bd fun y65 h66 => ?_
          refine so (slO (y := 102) (f := i64) h66 rfl Tryd.underlying109 ti_3 rfl rfl (bnd rfl) rfl) ?_
          refine s1 (asg rfl rfl) ?_
          refine snil ?_
          refine pbn ?_
          refine pnm ?_
          refine sreg ?_
          refine s1 (addI rfl rfl (kI (x := 1) rfl)) ?_
          refine s1 (mv rfl rfl) ?_
          refine snil ?_
          exact sgo (entR [(100, 102)] rfl (keepS hγ trivial) ⟨⟨_, rfl⟩, trivial⟩ ⟨⟨_, _, rfl, rfl, rci (rc_sl (ifs_map (f := i64) (fun _ => if_i64) y65))⟩, trivial⟩ ⟨⟨_, rfl, rn_id if_i64⟩, ⟨_, rfl, rn_own rfl⟩, ⟨_, rfl, rn_id if_i64⟩, ⟨_, rfl, rn_id if_sli⟩, ⟨_, rfl, rn_id if_i64⟩, ⟨_, rfl, rn_id if_i64⟩, ⟨_, rfl, rn_id if_i64⟩, ⟨_, rfl, rn_id if_i64⟩, trivial⟩)
        · refine sexit ?_
          refine ptx ?_
          exact sout (fun h => by cases h) (sj (hj61 _) (entR [(100, 100)] rfl (keepS hγ trivial) ⟨⟨_, rfl⟩, trivial⟩ ⟨⟨_, _, rfl, rfl, rci (rc_sl (ifs_map (f := i64) (fun _ => if_i64) s62.1))⟩, trivial⟩ ⟨⟨_, rfl, rn_id if_i64⟩, ⟨_, rfl, rn_own rfl⟩, ⟨_, rfl, rn_id if_i64⟩, ⟨_, rfl, rn_id if_sli⟩, ⟨_, rfl, rn_id if_i64⟩, ⟨_, rfl, rn_id if_i64⟩, trivial⟩))
      · intro t60
        refine sx ?_
        refine pnm ?_
        refine sreg ?_
        refine s1 (mv rfl rfl) ?_
        refine s1 (mv rfl rfl) ?_
        refine s1 (addI rfl rfl (kI (x := 1) rfl)) ?_
        refine so (bsl (y := 102) (ls := List.map i64 ([wrap64 (t60.2 + (1 : Int))] : List Int)) Tryd.underlying109 ti_3 rfl rfl rfl rfl rfl ⟨rfl, rfl, (by exact rfl), (by exact rfl), trivial⟩ rfl rfl) ?_
        refine bd fun y67 h68 => ?_
        refine so (app (y := 103) (f := i64) h68 rfl Tryd.underlying109 ti_3 rfl rfl rfl rfl (.inr ⟨_, _, rfl, rfl⟩) rfl rfl) ?_
        refine s1 (asg rfl rfl) ?_
        refine snil ?_
        refine pbn ?_
        exact sgo (entR [(100, 103)] rfl (keepS hγ trivial) ⟨⟨_, rfl⟩, trivial⟩ ⟨⟨_, _, rfl, rfl, rci (rc_sl (ifs_map (f := i64) (fun _ => if_i64) y67))⟩, trivial⟩ ⟨⟨_, rfl, rn_id if_i64⟩, ⟨_, rfl, rn_id if_i64⟩, ⟨_, rfl, rn_id if_i64⟩, ⟨_, rfl, rn_own rfl⟩, ⟨_, rfl, rn_id if_sli⟩, trivial⟩)
    · intro s69
      refine sx ?_
      refine pnm ?_
      refine sseq ?_
      refine sreg ?_
      refine s1 (mv rfl rfl) ?_
      refine bd fun y70 h71 => ?_
      refine s1 (ixO (f := i64) rfl Tryd.underlying109 ti_3 h71 rfl rfl (kI (x := 0) rfl)) ?_
      refine s1 (ldO (f := i64) [] rfl (getI_ix h71) (by exact rfl) (by exact rfl) sh_3 (by exact rfl) (by exact rfl) rfl rfl) ?_
      refine s1 (asg rfl rfl) ?_
      refine snil ?_
      refine pnm ?_
      refine sret ?_
      exact ret [] [.tmp 2] [_] [_] .ret hγ (.inl rfl) rfl ⟨rfl, trivial⟩ rfl trivial trivial trivial (rns_cons (rn_id if_i64) (rns_nil)) rfl
theorem c_check_part {n : Nat} {x0 : (List M_tree_Node)} {x1 : Int} {x2 : Int} {x3 : Int} {x4 : Int} : ∀ r, m_check_part n x0 x1 x2 x3 x4 = some r → FnOk Tryd.prog 56 [sli 3 (List.map L_tree_Node x0), i64 x1, i64 x2, i64 x3, i64 x4] [] (L_api_Fault r) [] := by
  unfold m_check_part
  refine fn_of_sq (res := fun (r : M_api_Fault) => L_api_Fault r) (mo := fun (r : M_api_Fault) => []) Tryd.func56 rfl rfl (by kernel_rfl) rfl ?_
  intro w S0 γ hγ
  refine sseq ?_
  refine sreg ?_
  refine so (al (y := 100) (ly := L_api_Fault (⟨0, 0, 0, 0⟩ : M_api_Fault)) ti_25 zr_api_Fault rfl rfl) ?_
  refine snil ?_
  refine pnm ?_
  refine sseq ?_
  refine sreg ?_
  refine s1 (mv rfl rfl) ?_
  refine s1 (mv rfl rfl) ?_
  refine s1 (mv rfl rfl) ?_
  refine s1 (mv rfl rfl) ?_
  refine bd fun r1 h2 => ?_
  refine s1 (call0 (c_check_Place _ h2) ⟨⟨_, rfl, rn_id if_sli⟩, ⟨_, rfl, rn_id if_i64⟩, ⟨_, rfl, rn_id if_i64⟩, ⟨_, rfl, rn_id if_i64⟩, trivial⟩ (if_i64) rfl) ?_
  refine s1 (asg rfl rfl) ?_
  refine snil ?_
  refine pnm ?_
  refine sjq (fun (s12 : Int) => [(1, i64 x1), (10, .own 100), (11, i64 s12)]) (fun (s12 : Int) => [(100, .bx 25 (L_api_Fault (⟨0, 0, 0, 0⟩ : M_api_Fault)))]) ?_ ?_
  · intro j10 hj11
    refine sjq (fun (s17 : Bool) => [(0, sli 3 (List.map L_tree_Node x0)), (1, i64 x1), (10, .own 100), (11, i64 r1), (23, bl s17)]) (fun (s17 : Bool) => [(100, .bx 25 (L_api_Fault (⟨0, 0, 0, 0⟩ : M_api_Fault)))]) ?_ ?_
    · intro j15 hj16
      refine sreg ?_
      refine s1 (mv rfl rfl) ?_
      refine s1 (ltI rfl rfl (kI (x := 0) rfl)) ?_
      refine s1 (mv rfl rfl) ?_
      refine sifd 19 rfl ?_ ?_
      · refine sg 19 rfl rfl (mv rfl rfl) ?_
        refine bd fun r18 h19 => ?_
        refine sg 19 rfl rfl (call0 (c_tree_Depth _ h19) ⟨⟨_, rfl, rn_id if_sli⟩, trivial⟩ (if_i64) rfl) ?_
        refine sg 19 rfl rfl (gtI rfl rfl (kI (x := 40) rfl)) ?_
        refine s1 (pickT rfl rfl rfl) ?_
        refine snil ?_
        refine pnm ?_
        exact sj (hj16 _) (entR [(100, 100)] rfl (keepS hγ trivial) ⟨⟨_, rfl⟩, trivial⟩ ⟨⟨_, _, rfl, rfl, rci (rc_bx (rn_id if_L_api_Fault))⟩, trivial⟩ ⟨⟨_, rfl, rn_id if_sli⟩, ⟨_, rfl, rn_id if_i64⟩, ⟨_, rfl, rn_own rfl⟩, ⟨_, rfl, rn_id if_i64⟩, ⟨_, rfl, rn_id if_bl⟩, trivial⟩)
      · refine spB 19 rfl rfl rfl ?_
        refine spB 19 rfl rfl rfl ?_
        refine spB 19 rfl rfl rfl ?_
        refine s1 (pickF rfl rfl kB) ?_
        refine snil ?_
        refine pnm ?_
        exact sj (hj16 _) (entR [(100, 100)] rfl (keepS hγ trivial) ⟨⟨_, rfl⟩, trivial⟩ ⟨⟨_, _, rfl, rfl, rci (rc_bx (rn_id if_L_api_Fault))⟩, trivial⟩ ⟨⟨_, rfl, rn_id if_sli⟩, ⟨_, rfl, rn_id if_i64⟩, ⟨_, rfl, rn_own rfl⟩, ⟨_, rfl, rn_id if_i64⟩, ⟨_, rfl, rn_id if_bl⟩, trivial⟩)
    · intro s17
      refine scond rfl ?_ ?_
      · refine sreg ?_
        refine s1 (mv rfl rfl) ?_
        refine s1 (lenL (f := L_tree_Node) Tryd.underlying56 rfl rfl) ?_
        refine s1 (asg rfl rfl) ?_
        refine snil ?_
        refine pnm ?_
        exact sj (hj11 _) (entR [(100, 100)] rfl (keepS hγ trivial) ⟨⟨_, rfl⟩, trivial⟩ ⟨⟨_, _, rfl, rfl, rci (rc_bx (rn_id if_L_api_Fault))⟩, trivial⟩ ⟨⟨_, rfl, rn_id if_i64⟩, ⟨_, rfl, rn_own rfl⟩, ⟨_, rfl, rn_id if_i64⟩, trivial⟩)
      · refine sskip ?_
        refine pnm ?_
        exact sj (hj11 _) (entR [(100, 100)] rfl (keepS hγ trivial) ⟨⟨_, rfl⟩, trivial⟩ ⟨⟨_, _, rfl, rfl, rci (rc_bx (rn_id if_L_api_Fault))⟩, trivial⟩ ⟨⟨_, rfl, rn_id if_i64⟩, ⟨_, rfl, rn_own rfl⟩, ⟨_, rfl, rn_id if_i64⟩, trivial⟩)
  · intro s12
    refine sseq ?_
    refine sseq ?_
    refine sreg ?_
    refine s1 (mv rfl rfl) ?_
    refine s1 (ltI rfl rfl (kI (x := 0) rfl)) ?_
    refine snil ?_
    refine pnm ?_
    refine scond rfl ?_ ?_
    · refine sseq ?_
      refine sreg ?_
      refine s1 (bld (l := [i64 0, i64 0, i64 0, i64 0]) pl_25 ti_25 zr_api_Fault rfl rfl) ?_
      refine so (stB2 (ly2 := L_api_Fault (⟨0, 0, 0, 0⟩ : M_api_Fault)) [] (by exact rfl) rfl (by exact rfl) sh_25 (by exact rfl) (by exact rfl) (by exact rfl) rfl (.inr ⟨rfl, rfl, _, _, rfl⟩) rfl) ?_
      refine snil ?_
      refine pnm ?_
      refine sret ?_
      refine pth ?_
      exact ret [] [.cell 10 25] [_] [_] .ret hγ (.inl rfl) rfl ⟨⟨100, _, rfl, rfl, sh_25⟩, trivial⟩ rfl trivial trivial trivial (rns_cons (rn_id if_L_api_Fault) (rns_nil)) rfl
    · refine sskip ?_
      refine pnm ?_
      refine sseq ?_
      refine sreg ?_
      refine s1 (mv rfl rfl) ?_
      refine s1 (mv rfl rfl) ?_
      refine s1 (bld (l := [i64 (2 : Int), i64 x1, i64 0, i64 s12]) pl_25 ti_25 zr_api_Fault ⟨_, _, _, (kI (x := 2) rfl), rfl, rfl, rfl, (szk (k := 1) rfl rfl), ⟨_, _, _, rfl, rfl, rfl, rfl, (szk (k := 1) rfl rfl), ⟨_, _, _, rfl, rfl, rfl, rfl, (szk (k := 1) rfl rfl), rfl⟩⟩⟩ rfl) ?_
      refine so (stB2 (ly2 := L_api_Fault (⟨(2 : Int), x1, 0, s12⟩ : M_api_Fault)) [] (by exact rfl) rfl (by exact rfl) sh_25 (by exact rfl) (by exact rfl) (by exact rfl) rfl (.inr ⟨rfl, rfl, _, _, rfl⟩) rfl) ?_
      refine snil ?_
      refine pnm ?_
      refine sret ?_
      exact ret [] [.cell 10 25] [_] [_] .ret hγ (.inl rfl) rfl ⟨⟨100, _, rfl, rfl, sh_25⟩, trivial⟩ rfl trivial trivial trivial (rns_cons (rn_id if_L_api_Fault) (rns_nil)) rfl
theorem c_check_Check {n : Nat} {x0 : M_tree_Field} {x1 : Int} {x2 : Int} : ∀ r, m_check_Check n x0 x1 x2 = some r → FnOk Tryd.prog 22 [L_tree_Field x0, i64 x1, i64 x2] [] (L_api_Fault r) [] := by
  unfold m_check_Check
  refine fn_of_sq (res := fun (r : M_api_Fault) => L_api_Fault r) (mo := fun (r : M_api_Fault) => []) Tryd.func22 rfl rfl (by kernel_rfl) rfl ?_
  intro w S0 γ hγ
  refine sseq ?_
  refine sreg ?_
  refine so (box (y := 100) (by exact rfl) rfl rfl rfl) ?_
  refine so (al (y := 101) (ly := L_api_Fault (⟨0, 0, 0, 0⟩ : M_api_Fault)) ti_25 zr_api_Fault rfl rfl) ?_
  refine snil ?_
  refine pnm ?_
  refine sseq ?_
  refine sseq ?_
  refine sreg ?_
  refine s1 (ldB [] rfl rfl sh_50 (by exact rfl) (by exact rfl) rfl rfl (.inr ⟨rfl, rfl, _, _, rfl⟩)) ?_
  refine s1 (mv rfl rfl) ?_
  refine s1 (mv rfl rfl) ?_
  refine bd fun r1 h2 => ?_
  refine s1 (call0 (c_check_whole _ h2) ⟨⟨_, rfl, rn_id if_L_tree_Field⟩, ⟨_, rfl, rn_id if_i64⟩, ⟨_, rfl, rn_id if_i64⟩, trivial⟩ (if_bl) rfl) ?_
  refine s1 (notB rfl rfl) ?_
  refine snil ?_
  refine pnm ?_
  refine scond rfl ?_ ?_
  · refine sseq ?_
    refine sreg ?_
    refine s1 (bld (l := [i64 (2 : Int), i64 0, i64 0, i64 0]) pl_25 ti_25 zr_api_Fault ⟨_, _, _, (kI (x := 2) rfl), rfl, rfl, rfl, (szk (k := 1) rfl rfl), rfl⟩ rfl) ?_
    refine so (stB2 (ly2 := L_api_Fault (⟨(2 : Int), 0, 0, 0⟩ : M_api_Fault)) [] (by exact rfl) rfl (by exact rfl) sh_25 (by exact rfl) (by exact rfl) (by exact rfl) rfl (.inr ⟨rfl, rfl, _, _, rfl⟩) rfl) ?_
    refine snil ?_
    refine pnm ?_
    refine sret ?_
    refine pth ?_
    exact ret [] [.cell 6 25] [_] [_] .ret hγ (.inl rfl) rfl ⟨⟨101, _, rfl, rfl, sh_25⟩, trivial⟩ rfl trivial trivial trivial (rns_cons (rn_id if_L_api_Fault) (rns_nil)) rfl
  · refine sskip ?_
    refine pnm ?_
    refine sseq ?_
    refine sseq ?_
    refine sreg ?_
    refine s1 (faO rfl fd_50_0 rfl rfl) ?_
    refine s1 (ldB [0] rfl (by exact rfl) sh_47 (by exact rfl) (by exact rfl) rfl rfl (.inl rfl)) ?_
    refine s1 (lenL (f := L_tree_Let) Tryd.underlying47 rfl rfl) ?_
    refine s1 (mv rfl (kI (x := 0) rfl)) ?_
    refine snil ?_
    refine pnm ?_
    refine sblk ?_
    refine srangeN (fun (s21 : Unit) => [(1, i64 x1), (2, i64 x2), (3, .own 100), (6, .own 101), (20, sli 2 (List.map L_tree_Let x0.Lets))]) (fun (s21 : Unit) => [(100, .bx 50 (L_tree_Field x0)), (101, .bx 25 (L_api_Fault (⟨0, 0, 0, 0⟩ : M_api_Fault)))]) rfl (fun _ => rfl) (entR [(100, 100), (101, 101)] rfl (keepS hγ trivial) ⟨⟨_, rfl⟩, ⟨_, rfl⟩, trivial⟩ ⟨⟨_, _, rfl, rfl, rci (rc_bx (rn_id if_L_tree_Field))⟩, ⟨_, _, rfl, rfl, rci (rc_bx (rn_id if_L_api_Fault))⟩, trivial⟩ ⟨⟨_, rfl, rn_id if_i64⟩, ⟨_, rfl, rn_id if_i64⟩, ⟨_, rfl, rn_id if_i64⟩, ⟨_, rfl, rn_id if_i64⟩, ⟨_, rfl, rn_own rfl⟩, ⟨_, rfl, rn_own rfl⟩, ⟨_, rfl, rn_id if_sli⟩, trivial⟩) ?_ ?_
    · intro i22 x23 s21 hx24
      refine sblk ?_
      refine sseq ?_
      refine sreg ?_
      refine s1 (mv rfl rfl) ?_
      refine s1 (ixR (f := L_tree_Let) Tryd.underlying47 ti_98 (getI_nat hx24) rfl rfl rfl) ?_
      refine s1 (ldR sh_98 (by exact rfl) (by exact rfl) rfl rfl) ?_
      refine so (al (y := 102) (ly := L_tree_Let (⟨[], []⟩ : M_tree_Let)) ti_98 zr_tree_Let rfl rfl) ?_
      refine s1 (asg rfl rfl) ?_
      refine so (stB2 (ly2 := L_tree_Let x23) [] (by exact rfl) rfl (by exact rfl) sh_98 (by exact rfl) (by exact rfl) (by exact rfl) rfl (.inr ⟨rfl, rfl, _, _, rfl⟩) rfl) ?_
      refine snil ?_
      refine pnm ?_
      refine sseq ?_
      refine sjq (fun (s31 : Bool) => [(1, i64 x1), (2, i64 x2), (3, .own 100), (6, .own 101), (7, i64 (i22 : Int)), (8, .own 102), (20, sli 2 (List.map L_tree_Let x0.Lets)), (21, i64 (x0.Lets.length : Int)), (22, i64 (i22 : Int)), (36, bl s31)]) (fun (s31 : Bool) => [(100, .bx 50 (L_tree_Field x0)), (101, .bx 25 (L_api_Fault (⟨0, 0, 0, 0⟩ : M_api_Fault))), (102, .bx 98 (L_tree_Let x23))]) ?_ ?_
      · intro j29 hj30
        refine sreg ?_
        refine s1 (faO rfl fd_98_0 rfl rfl) ?_
        refine s1 (ldB [0] rfl (by exact rfl) sh_9 (by exact rfl) (by exact rfl) rfl rfl (.inl rfl)) ?_
        refine bd fun r32 h33 => ?_
        refine s1 (call0 (c_check_Name _ h33) ⟨⟨_, rfl, rn_id if_str⟩, trivial⟩ (if_bl) rfl) ?_
        refine s1 (notB rfl rfl) ?_
        refine s1 (mv rfl rfl) ?_
        refine sifd 31 rfl ?_ ?_
        · refine spB 31 rfl rfl rfl ?_
          refine spB 31 rfl rfl rfl ?_
          refine spB 31 rfl rfl rfl ?_
          refine spB 31 rfl rfl rfl ?_
          refine s1 (pickT rfl rfl kB) ?_
          refine snil ?_
          refine pnm ?_
          exact sj (hj30 _) (entR [(100, 100), (101, 101), (102, 102)] rfl (keepS hγ trivial) ⟨⟨_, rfl⟩, ⟨_, rfl⟩, ⟨_, rfl⟩, trivial⟩ ⟨⟨_, _, rfl, rfl, rci (rc_bx (rn_id if_L_tree_Field))⟩, ⟨_, _, rfl, rfl, rci (rc_bx (rn_id if_L_api_Fault))⟩, ⟨_, _, rfl, rfl, rci (rc_bx (rn_id if_L_tree_Let))⟩, trivial⟩ ⟨⟨_, rfl, rn_id if_i64⟩, ⟨_, rfl, rn_id if_i64⟩, ⟨_, rfl, rn_own rfl⟩, ⟨_, rfl, rn_own rfl⟩, ⟨_, rfl, rn_id if_i64⟩, ⟨_, rfl, rn_own rfl⟩, ⟨_, rfl, rn_id if_sli⟩, ⟨_, rfl, rn_id if_i64⟩, ⟨_, rfl, rn_id if_i64⟩, ⟨_, rfl, rn_id if_bl⟩, trivial⟩)
        · refine sg 31 rfl rfl (faO rfl fd_50_0 rfl rfl) ?_
          refine sg 31 rfl rfl (ldB [0] rfl (by exact rfl) sh_47 (by exact rfl) (by exact rfl) rfl rfl (.inl rfl)) ?_
          refine sg 31 rfl rfl (mv rfl rfl) ?_
          refine bd fun r34 h35 => ?_
          refine sg 31 rfl rfl (call0 (c_check_twice _ h35) ⟨⟨_, rfl, rn_id if_sli⟩, ⟨_, rfl, rn_id if_i64⟩, trivial⟩ (if_bl) rfl) ?_
          refine s1 (pickF rfl rfl rfl) ?_
          refine snil ?_
          refine pnm ?_
          exact sj (hj30 _) (entR [(100, 100), (101, 101), (102, 102)] rfl (keepS hγ trivial) ⟨⟨_, rfl⟩, ⟨_, rfl⟩, ⟨_, rfl⟩, trivial⟩ ⟨⟨_, _, rfl, rfl, rci (rc_bx (rn_id if_L_tree_Field))⟩, ⟨_, _, rfl, rfl, rci (rc_bx (rn_id if_L_api_Fault))⟩, ⟨_, _, rfl, rfl, rci (rc_bx (rn_id if_L_tree_Let))⟩, trivial⟩ ⟨⟨_, rfl, rn_id if_i64⟩, ⟨_, rfl, rn_id if_i64⟩, ⟨_, rfl, rn_own rfl⟩, ⟨_, rfl, rn_own rfl⟩, ⟨_, rfl, rn_id if_i64⟩, ⟨_, rfl, rn_own rfl⟩, ⟨_, rfl, rn_id if_sli⟩, ⟨_, rfl, rn_id if_i64⟩, ⟨_, rfl, rn_id if_i64⟩, ⟨_, rfl, rn_id if_bl⟩, trivial⟩)
      · intro s31
        refine scond rfl ?_ ?_
        · refine sseq ?_
          refine sreg ?_
          refine s1 (mv rfl rfl) ?_
          refine s1 (addI rfl rfl (kI (x := 1) rfl)) ?_
          refine s1 (bld (l := [i64 (2 : Int), i64 (wrap64 ((i22 : Int) + (1 : Int))), i64 (1 : Int), i64 0]) pl_25 ti_25 zr_api_Fault ⟨_, _, _, (kI (x := 2) rfl), rfl, rfl, rfl, (szk (k := 1) rfl rfl), ⟨_, _, _, rfl, rfl, rfl, rfl, (szk (k := 1) rfl rfl), ⟨_, _, _, (kI (x := 1) rfl), rfl, rfl, rfl, (szk (k := 1) rfl rfl), rfl⟩⟩⟩ rfl) ?_
          refine so (stB2 (ly2 := L_api_Fault (⟨(2 : Int), wrap64 ((i22 : Int) + (1 : Int)), (1 : Int), 0⟩ : M_api_Fault)) [] (by exact rfl) rfl (by exact rfl) sh_25 (by exact rfl) (by exact rfl) (by exact rfl) rfl (.inr ⟨rfl, rfl, _, _, rfl⟩) rfl) ?_
          refine snil ?_
          refine pnm ?_
          refine sret ?_
          refine pth ?_
          refine pbl ?_
          refine sout (fun h => by cases h) ?_
          refine pbl ?_
          refine pth ?_
          exact ret [] [.cell 6 25] [_] [_] .ret hγ (.inl rfl) rfl ⟨⟨101, _, rfl, rfl, sh_25⟩, trivial⟩ rfl trivial trivial trivial (rns_cons (rn_id if_L_api_Fault) (rns_nil)) rfl
        · refine sskip ?_
          refine pnm ?_
          refine sseq ?_
          refine sreg ?_
          refine s1 (faO rfl fd_98_1 rfl rfl) ?_
          refine s1 (ldB [1] rfl (by exact rfl) sh_56 (by exact rfl) (by exact rfl) rfl rfl (.inl rfl)) ?_
          refine s1 (mv rfl rfl) ?_
          refine s1 (addI rfl rfl (kI (x := 1) rfl)) ?_
          refine s1 (mv rfl rfl) ?_
          refine s1 (mv rfl rfl) ?_
          refine s1 (mv rfl rfl) ?_
          refine bd fun r36 h37 => ?_
          refine s1 (call0 (c_check_part _ h37) ⟨⟨_, rfl, rn_id if_sli⟩, ⟨_, rfl, rn_id if_i64⟩, ⟨_, rfl, rn_id if_i64⟩, ⟨_, rfl, rn_id if_i64⟩, ⟨_, rfl, rn_id if_i64⟩, trivial⟩ (if_L_api_Fault) rfl) ?_
          refine so (al (y := 103) (ly := L_api_Fault (⟨0, 0, 0, 0⟩ : M_api_Fault)) ti_25 zr_api_Fault rfl rfl) ?_
          refine so (stB2 (ly2 := L_api_Fault r36) [] (by exact rfl) rfl (by exact rfl) sh_25 (by exact rfl) (by exact rfl) (by exact rfl) rfl (.inr ⟨rfl, rfl, _, _, rfl⟩) rfl) ?_
          refine snil ?_
          refine pnm ?_
          refine sseq ?_
          refine sreg ?_
          refine s1 (ldB [] rfl rfl sh_25 (by exact rfl) (by exact rfl) rfl rfl (.inr ⟨rfl, rfl, _, _, rfl⟩)) ?_
          refine s1 (bld (l := [i64 0, i64 0, i64 0, i64 0]) pl_25 ti_25 zr_api_Fault rfl rfl) ?_
          refine s1 (neA (p := (r36 : M_api_Fault)) (q := ((⟨0, 0, 0, 0⟩ : M_api_Fault) : M_api_Fault)) eq_25_2 rfl eg_25 rfl rfl rfl) ?_
          refine snil ?_
          refine pnm ?_
          refine scond rfl ?_ ?_
          · refine sseq ?_
            refine sreg ?_
            refine s1 (ldB [] rfl rfl sh_25 (by exact rfl) (by exact rfl) rfl rfl (.inr ⟨rfl, rfl, _, _, rfl⟩)) ?_
            refine so (stB2 (ly2 := L_api_Fault r36) [] (by exact rfl) rfl (by exact rfl) sh_25 (by exact rfl) (by exact rfl) (by exact rfl) rfl (.inr ⟨rfl, rfl, _, _, rfl⟩) rfl) ?_
            refine snil ?_
            refine pnm ?_
            refine sret ?_
            refine pbl ?_
            refine sout (fun h => by cases h) ?_
            refine pbl ?_
            refine pth ?_
            exact ret [] [.cell 6 25] [_] [_] .ret hγ (.inl rfl) rfl ⟨⟨101, _, rfl, rfl, sh_25⟩, trivial⟩ rfl trivial trivial trivial (rns_cons (rn_id if_L_api_Fault) (rns_nil)) rfl
          · refine sskip ?_
            refine pbn ?_
            exact sgo (entR [(100, 100), (101, 101)] rfl (keepS hγ trivial) ⟨⟨_, rfl⟩, ⟨_, rfl⟩, trivial⟩ ⟨⟨_, _, rfl, rfl, rci (rc_bx (rn_id if_L_tree_Field))⟩, ⟨_, _, rfl, rfl, rci (rc_bx (rn_id if_L_api_Fault))⟩, trivial⟩ ⟨⟨_, rfl, rn_id if_i64⟩, ⟨_, rfl, rn_id if_i64⟩, ⟨_, rfl, rn_id if_i64⟩, ⟨_, rfl, rn_id if_i64⟩, ⟨_, rfl, rn_own rfl⟩, ⟨_, rfl, rn_own rfl⟩, ⟨_, rfl, rn_id if_sli⟩, trivial⟩)
    · intro s38
      refine sx ?_
      refine pnm ?_
      refine sseq ?_
      refine sseq ?_
      refine sreg ?_
      refine s1 (faO rfl fd_50_1 rfl rfl) ?_
      refine s1 (ldB [1] rfl (by exact rfl) sh_48 (by exact rfl) (by exact rfl) rfl rfl (.inl rfl)) ?_
      refine s1 (lenL (f := L_S_tree_Node) Tryd.underlying48 rfl rfl) ?_
      refine s1 (mv rfl (kI (x := 0) rfl)) ?_
      refine snil ?_
      refine pnm ?_
      refine sblk ?_
      refine srangeN (fun (s46 : Unit) => [(1, i64 x1), (2, i64 x2), (3, .own 100), (6, .own 101), (54, sli 1 (List.map L_S_tree_Node x0.Outs))]) (fun (s46 : Unit) => [(100, .bx 50 (L_tree_Field x0)), (101, .bx 25 (L_api_Fault (⟨0, 0, 0, 0⟩ : M_api_Fault)))]) rfl (fun _ => rfl) (entR [(100, 100), (101, 101)] rfl (keepS hγ trivial) ⟨⟨_, rfl⟩, ⟨_, rfl⟩, trivial⟩ ⟨⟨_, _, rfl, rfl, rci (rc_bx (rn_id if_L_tree_Field))⟩, ⟨_, _, rfl, rfl, rci (rc_bx (rn_id if_L_api_Fault))⟩, trivial⟩ ⟨⟨_, rfl, rn_id if_i64⟩, ⟨_, rfl, rn_id if_i64⟩, ⟨_, rfl, rn_id if_i64⟩, ⟨_, rfl, rn_id if_i64⟩, ⟨_, rfl, rn_own rfl⟩, ⟨_, rfl, rn_own rfl⟩, ⟨_, rfl, rn_id if_sli⟩, trivial⟩) ?_ ?_
      · intro i47 x48 s46 hx49
        refine sblk ?_
        refine sseq ?_
        refine sreg ?_
        refine s1 (mv rfl rfl) ?_
        refine s1 (ixR (f := L_S_tree_Node) Tryd.underlying48 ti_56 (getI_nat hx49) rfl rfl rfl) ?_
        refine s1 (ldR sh_56 (by exact rfl) (by exact rfl) rfl rfl) ?_
        refine s1 (asg rfl rfl) ?_
        refine s1 (asg rfl rfl) ?_
        refine snil ?_
        refine pnm ?_
        refine sseq ?_
        refine sreg ?_
        refine s1 (mv rfl rfl) ?_
        refine s1 (faO rfl fd_50_0 rfl rfl) ?_
        refine s1 (ldB [0] rfl (by exact rfl) sh_47 (by exact rfl) (by exact rfl) rfl rfl (.inl rfl)) ?_
        refine s1 (lenL (f := L_tree_Let) Tryd.underlying47 rfl rfl) ?_
        refine s1 (mv rfl rfl) ?_
        refine s1 (addI rfl rfl rfl) ?_
        refine s1 (addI rfl rfl (kI (x := 1) rfl)) ?_
        refine s1 (mv rfl rfl) ?_
        refine s1 (mv rfl rfl) ?_
        refine s1 (faO rfl fd_50_0 rfl rfl) ?_
        refine s1 (ldB [0] rfl (by exact rfl) sh_47 (by exact rfl) (by exact rfl) rfl rfl (.inl rfl)) ?_
        refine s1 (lenL (f := L_tree_Let) Tryd.underlying47 rfl rfl) ?_
        refine bd fun r50 h51 => ?_
        refine s1 (call0 (c_check_part _ h51) ⟨⟨_, rfl, rn_id if_sli⟩, ⟨_, rfl, rn_id if_i64⟩, ⟨_, rfl, rn_id if_i64⟩, ⟨_, rfl, rn_id if_i64⟩, ⟨_, rfl, rn_id if_i64⟩, trivial⟩ (if_L_api_Fault) rfl) ?_
        refine so (al (y := 102) (ly := L_api_Fault (⟨0, 0, 0, 0⟩ : M_api_Fault)) ti_25 zr_api_Fault rfl rfl) ?_
        refine so (stB2 (ly2 := L_api_Fault r50) [] (by exact rfl) rfl (by exact rfl) sh_25 (by exact rfl) (by exact rfl) (by exact rfl) rfl (.inr ⟨rfl, rfl, _, _, rfl⟩) rfl) ?_
        refine snil ?_
        refine pnm ?_
        refine sseq ?_
        refine sreg ?_
        refine s1 (ldB [] rfl rfl sh_25 (by exact rfl) (by exact rfl) rfl rfl (.inr ⟨rfl, rfl, _, _, rfl⟩)) ?_
        refine s1 (bld (l := [i64 0, i64 0, i64 0, i64 0]) pl_25 ti_25 zr_api_Fault rfl rfl) ?_
        refine s1 (neA (p := (r50 : M_api_Fault)) (q := ((⟨0, 0, 0, 0⟩ : M_api_Fault) : M_api_Fault)) eq_25_2 rfl eg_25 rfl rfl rfl) ?_
        refine snil ?_
        refine pnm ?_
        refine scond rfl ?_ ?_
        · refine sseq ?_
          refine sreg ?_
          refine s1 (ldB [] rfl rfl sh_25 (by exact rfl) (by exact rfl) rfl rfl (.inr ⟨rfl, rfl, _, _, rfl⟩)) ?_
          refine so (stB2 (ly2 := L_api_Fault r50) [] (by exact rfl) rfl (by exact rfl) sh_25 (by exact rfl) (by exact rfl) (by exact rfl) rfl (.inr ⟨rfl, rfl, _, _, rfl⟩) rfl) ?_
          refine snil ?_
          refine pnm ?_
          refine sret ?_
          refine pbl ?_
          refine sout (fun h => by cases h) ?_
          refine pbl ?_
          refine pth ?_
          exact ret [] [.cell 6 25] [_] [_] .ret hγ (.inl rfl) rfl ⟨⟨101, _, rfl, rfl, sh_25⟩, trivial⟩ rfl trivial trivial trivial (rns_cons (rn_id if_L_api_Fault) (rns_nil)) rfl
        · refine sskip ?_
          refine pbn ?_
          exact sgo (entR [(100, 100), (101, 101)] rfl (keepS hγ trivial) ⟨⟨_, rfl⟩, ⟨_, rfl⟩, trivial⟩ ⟨⟨_, _, rfl, rfl, rci (rc_bx (rn_id if_L_tree_Field))⟩, ⟨_, _, rfl, rfl, rci (rc_bx (rn_id if_L_api_Fault))⟩, trivial⟩ ⟨⟨_, rfl, rn_id if_i64⟩, ⟨_, rfl, rn_id if_i64⟩, ⟨_, rfl, rn_id if_i64⟩, ⟨_, rfl, rn_id if_i64⟩, ⟨_, rfl, rn_own rfl⟩, ⟨_, rfl, rn_own rfl⟩, ⟨_, rfl, rn_id if_sli⟩, trivial⟩)
      · intro s52
        refine sx ?_
        refine pnm ?_
        refine sseq ?_
        refine sreg ?_
        refine s1 (bld (l := [i64 0, i64 0, i64 0, i64 0]) pl_25 ti_25 zr_api_Fault rfl rfl) ?_
        refine so (stB2 (ly2 := L_api_Fault (⟨0, 0, 0, 0⟩ : M_api_Fault)) [] (by exact rfl) rfl (by exact rfl) sh_25 (by exact rfl) (by exact rfl) (by exact rfl) rfl (.inr ⟨rfl, rfl, _, _, rfl⟩) rfl) ?_
        refine snil ?_
        refine pnm ?_
        refine sret ?_
        exact ret [] [.cell 6 25] [_] [_] .ret hγ (.inl rfl) rfl ⟨⟨101, _, rfl, rfl, sh_25⟩, trivial⟩ rfl trivial trivial trivial (rns_cons (rn_id if_L_api_Fault) (rns_nil)) rfl
theorem c_retrospectlaw19_works {n : Nat}  : ∀ r, m_retrospectlaw19_works n  = some r → FnOk Tryd.prog 20 [] [] (bl r) [] := by
  unfold m_retrospectlaw19_works
  refine fn_of_sq (res := fun (r : Bool) => bl r) (mo := fun (r : Bool) => []) Tryd.func20 rfl rfl (by kernel_rfl) rfl ?_
  intro w S0 γ hγ
  refine sseq ?_
  refine sreg ?_
  refine s1 (asg rfl kB) ?_
  refine snil ?_
  refine pnm ?_
  refine sseq ?_
  refine sreg ?_
  refine s1 (bld (l := [i64 (3 : Int), i64 0, sli 1 (List.map u32 [])]) pl_60 ti_60 zr_tree_Node ⟨_, _, _, (kI (x := 3) rfl), rfl, rfl, rfl, (szk (k := 1) rfl rfl), rfl⟩ rfl) ?_
  refine so (bsl (y := 100) (ls := List.map L_tree_Node ([(⟨(3 : Int), 0, []⟩ : M_tree_Node)] : List M_tree_Node)) Tryd.underlying56 ti_60 rfl rfl rfl rfl rfl ⟨rfl, rfl, (by exact rfl), (by exact rfl), trivial⟩ rfl rfl) ?_
  refine frz (id := 100) [(4, sli 3 (List.map L_tree_Node ([(⟨(3 : Int), 0, []⟩ : M_tree_Node)] : List M_tree_Node)))] [] rfl (ifs_map (f := L_tree_Node) (fun _ => if_L_tree_Node) ([(⟨(3 : Int), 0, []⟩ : M_tree_Node)] : List M_tree_Node)) ⟨⟨_, rfl, fz_own⟩, trivial⟩ trivial ?_
  refine so (bsl (y := 101) (ls := List.map L_S_tree_Node ([([(⟨(3 : Int), 0, []⟩ : M_tree_Node)] : List M_tree_Node)] : List (List M_tree_Node))) Tryd.underlying48 ti_56 rfl rfl rfl rfl rfl ⟨rfl, rfl, (by exact rfl), (by exact rfl), trivial⟩ rfl rfl) ?_
  refine sbm (C := fun x => .sl 56 1 (List.map L_S_tree_Node x)) 101 rfl fun z1 => ?_
  refine frz (id := 101) [(5, sli 1 (List.map L_S_tree_Node z1))] [] rfl (ifs_map (f := L_S_tree_Node) (fun _ => if_sli) z1) ⟨⟨_, rfl, fz_own⟩, trivial⟩ trivial ?_
  refine s1 (bld (l := [sli 2 (List.map L_tree_Let []), sli 1 (List.map L_S_tree_Node z1)]) pl_50 ti_50 zr_tree_Field ⟨_, _, _, rfl, rfl, rfl, rfl, (szk (k := 1) rfl rfl), rfl⟩ rfl) ?_
  refine so (al (y := 102) (ly := L_tree_Field (⟨[], []⟩ : M_tree_Field)) ti_50 zr_tree_Field rfl rfl) ?_
  refine so (stB2 (ly2 := L_tree_Field (⟨[], z1⟩ : M_tree_Field)) [] (by exact rfl) rfl (by exact rfl) sh_50 (by exact rfl) (by exact rfl) (by exact rfl) rfl (.inr ⟨rfl, rfl, _, _, rfl⟩) rfl) ?_
  refine snil ?_
  refine pnm ?_
  refine sseq ?_
  refine sreg ?_
  refine s1 (bld (l := [i64 (3 : Int), i64 (1 : Int), sli 1 (List.map u32 [])]) pl_60 ti_60 zr_tree_Node ⟨_, _, _, (kI (x := 3) rfl), rfl, rfl, rfl, (szk (k := 1) rfl rfl), ⟨_, _, _, (kI (x := 1) rfl), rfl, rfl, rfl, (szk (k := 1) rfl rfl), rfl⟩⟩ rfl) ?_
  refine so (bsl (y := 103) (ls := List.map L_tree_Node ([(⟨(3 : Int), (1 : Int), []⟩ : M_tree_Node)] : List M_tree_Node)) Tryd.underlying56 ti_60 rfl rfl rfl rfl rfl ⟨rfl, rfl, (by exact rfl), (by exact rfl), trivial⟩ rfl rfl) ?_
  refine frz (id := 103) [(8, sli 3 (List.map L_tree_Node ([(⟨(3 : Int), (1 : Int), []⟩ : M_tree_Node)] : List M_tree_Node)))] [] rfl (ifs_map (f := L_tree_Node) (fun _ => if_L_tree_Node) ([(⟨(3 : Int), (1 : Int), []⟩ : M_tree_Node)] : List M_tree_Node)) ⟨⟨_, rfl, fz_own⟩, trivial⟩ trivial ?_
  refine so (bsl (y := 104) (ls := List.map L_S_tree_Node ([([(⟨(3 : Int), (1 : Int), []⟩ : M_tree_Node)] : List M_tree_Node)] : List (List M_tree_Node))) Tryd.underlying48 ti_56 rfl rfl rfl rfl rfl ⟨rfl, rfl, (by exact rfl), (by exact rfl), trivial⟩ rfl rfl) ?_
  refine sbm (C := fun x => .sl 56 1 (List.map L_S_tree_Node x)) 104 rfl fun z2 => ?_
  refine frz (id := 104) [(9, sli 1 (List.map L_S_tree_Node z2))] [] rfl (ifs_map (f := L_S_tree_Node) (fun _ => if_sli) z2) ⟨⟨_, rfl, fz_own⟩, trivial⟩ trivial ?_
  refine s1 (bld (l := [sli 2 (List.map L_tree_Let []), sli 1 (List.map L_S_tree_Node z2)]) pl_50 ti_50 zr_tree_Field ⟨_, _, _, rfl, rfl, rfl, rfl, (szk (k := 1) rfl rfl), rfl⟩ rfl) ?_
  refine so (al (y := 105) (ly := L_tree_Field (⟨[], []⟩ : M_tree_Field)) ti_50 zr_tree_Field rfl rfl) ?_
  refine so (stB2 (ly2 := L_tree_Field (⟨[], z2⟩ : M_tree_Field)) [] (by exact rfl) rfl (by exact rfl) sh_50 (by exact rfl) (by exact rfl) (by exact rfl) rfl (.inr ⟨rfl, rfl, _, _, rfl⟩) rfl) ?_
  refine snil ?_
  refine pnm ?_
  refine sjq (fun (s13 : Bool) => [(0, bl s13)]) (fun (s13 : Bool) => []) ?_ ?_
  · intro j11 hj12
    refine sreg ?_
    refine s1 (ldB [] rfl rfl sh_50 (by exact rfl) (by exact rfl) rfl rfl (.inr ⟨rfl, rfl, _, _, rfl⟩)) ?_
    refine bd fun r14 h15 => ?_
    refine s1 (call0 (c_check_Check _ h15) ⟨⟨_, rfl, rn_id if_L_tree_Field⟩, ⟨_, (kI (x := 1) rfl), rn_id if_i64⟩, ⟨_, (kI (x := 0) rfl), rn_id if_i64⟩, trivial⟩ (if_L_api_Fault) rfl) ?_
    refine s1 (bld (l := [i64 0, i64 0, i64 0, i64 0]) pl_25 ti_25 zr_api_Fault rfl rfl) ?_
    refine s1 (eqA (p := (r14 : M_api_Fault)) (q := ((⟨0, 0, 0, 0⟩ : M_api_Fault) : M_api_Fault)) eq_25_2 rfl eg_25 rfl rfl rfl) ?_
    refine s1 (mv rfl rfl) ?_
    refine sifd 15 rfl ?_ ?_
    · refine sg 15 rfl rfl (ldB [] rfl rfl sh_50 (by exact rfl) (by exact rfl) rfl rfl (.inr ⟨rfl, rfl, _, _, rfl⟩)) ?_
      refine bd fun r16 h17 => ?_
      refine sg 15 rfl rfl (call0 (c_check_Check _ h17) ⟨⟨_, rfl, rn_id if_L_tree_Field⟩, ⟨_, (kI (x := 1) rfl), rn_id if_i64⟩, ⟨_, (kI (x := 0) rfl), rn_id if_i64⟩, trivial⟩ (if_L_api_Fault) rfl) ?_
      refine sg 15 rfl rfl (bld (l := [i64 (2 : Int), i64 (1 : Int), i64 0, i64 0]) pl_25 ti_25 zr_api_Fault ⟨_, _, _, (kI (x := 2) rfl), rfl, rfl, rfl, (szk (k := 1) rfl rfl), ⟨_, _, _, (kI (x := 1) rfl), rfl, rfl, rfl, (szk (k := 1) rfl rfl), rfl⟩⟩ rfl) ?_
      refine sg 15 rfl rfl (eqA (p := (r16 : M_api_Fault)) (q := ((⟨(2 : Int), (1 : Int), 0, 0⟩ : M_api_Fault) : M_api_Fault)) eq_25_2 rfl eg_25 rfl rfl rfl) ?_
      refine s1 (pickT rfl rfl rfl) ?_
      refine s1 (mv rfl rfl) ?_
      refine sifd 21 rfl ?_ ?_
      · refine bd fun r18 h19 => ?_
        refine sg 21 rfl rfl (call0 (c_check_Name _ h19) ⟨⟨_, (kS (s := [97]) rfl), rn_id if_str⟩, trivial⟩ (if_bl) rfl) ?_
        refine s1 (pickT rfl rfl rfl) ?_
        refine s1 (mv rfl rfl) ?_
        refine sifd 24 rfl ?_ ?_
        · refine bd fun r20 h21 => ?_
          refine sg 24 rfl rfl (call0 (c_check_Name _ h21) ⟨⟨_, (kS (s := [116]) rfl), rn_id if_str⟩, trivial⟩ (if_bl) rfl) ?_
          refine sg 24 rfl rfl (notB rfl rfl) ?_
          refine s1 (pickT rfl rfl rfl) ?_
          refine s1 (asg rfl rfl) ?_
          refine snil ?_
          refine pnm ?_
          exact sj (hj12 _) (entR [] rfl (keepS hγ trivial) (by exact trivial) (by exact trivial) ⟨⟨_, rfl, rn_id if_bl⟩, trivial⟩)
        · refine spB 24 rfl rfl rfl ?_
          refine spB 24 rfl rfl rfl ?_
          refine s1 (pickF rfl rfl kB) ?_
          refine s1 (asg rfl rfl) ?_
          refine snil ?_
          refine pnm ?_
          exact sj (hj12 _) (entR [] rfl (keepS hγ trivial) (by exact trivial) (by exact trivial) ⟨⟨_, rfl, rn_id if_bl⟩, trivial⟩)
      · refine spB 21 rfl rfl rfl ?_
        refine s1 (pickF rfl rfl kB) ?_
        refine s1 (mv rfl rfl) ?_
        refine spB 24 rfl rfl rfl ?_
        refine spB 24 rfl rfl rfl ?_
        refine s1 (pickF rfl rfl kB) ?_
        refine s1 (asg rfl rfl) ?_
        refine snil ?_
        refine pnm ?_
        exact sj (hj12 _) (entR [] rfl (keepS hγ trivial) (by exact trivial) (by exact trivial) ⟨⟨_, rfl, rn_id if_bl⟩, trivial⟩)
    · refine spB 15 rfl rfl rfl ?_
      refine spB 15 rfl rfl rfl ?_
      refine spB 15 rfl rfl rfl ?_
      refine spB 15 rfl rfl rfl ?_
      refine s1 (pickF rfl rfl kB) ?_
      refine s1 (mv rfl rfl) ?_
      refine spB 21 rfl rfl rfl ?_
      refine s1 (pickF rfl rfl kB) ?_
      refine s1 (mv rfl rfl) ?_
      refine spB 24 rfl rfl rfl ?_
      refine spB 24 rfl rfl rfl ?_
      refine s1 (pickF rfl rfl kB) ?_
      refine s1 (asg rfl rfl) ?_
      refine snil ?_
      refine pnm ?_
      exact sj (hj12 _) (entR [] rfl (keepS hγ trivial) (by exact trivial) (by exact trivial) ⟨⟨_, rfl, rn_id if_bl⟩, trivial⟩)
  · intro s13
    refine sret ?_
    exact ret [] [.tmp 0] [_] [_] .ret hγ (.inl rfl) rfl ⟨rfl, trivial⟩ rfl trivial trivial trivial (rns_cons (rn_id if_bl) (rns_nil)) rfl
theorem c_retrospectref17_Codes {n : Nat} {x0 : M_retrospectref17_Field} : ∀ r, m_retrospectref17_Codes n x0 = some r → FnOk Tryd.prog 52 [L_retrospectref17_Field x0] [] (sli 1 (List.map L_S_retrospectref17_Node r)) [] := by
  unfold m_retrospectref17_Codes
  refine fn_of_sq (res := fun (r : (List (List M_retrospectref17_Node))) => sli 1 (List.map L_S_retrospectref17_Node r)) (mo := fun (r : (List (List M_retrospectref17_Node))) => []) Tryd.func52 rfl rfl (by kernel_rfl) rfl ?_
  intro w S0 γ hγ
  refine sseq ?_
  refine sreg ?_
  refine so (box (y := 100) (by exact rfl) rfl rfl rfl) ?_
  refine s1 (asg rfl (kLm (k := 1) L_S_retrospectref17_Node)) ?_
  refine snil ?_
  refine pnm ?_
  refine sseq ?_
  refine sreg ?_
  refine so (asgN (y := 101) (E := 54) (k := 1) rfl rfl) ?_
  refine snil ?_
  refine pnm ?_
  refine sseq ?_
  refine sseq ?_
  refine sreg ?_
  refine s1 (asg rfl (kI (x := 0) rfl)) ?_
  refine snil ?_
  refine pnm ?_
  refine sblk ?_
  refine sloopE 0 (fun t => t) (fun (s13 : (List (List M_retrospectref17_Node)) × Int) => [(1, .own 100), (2, sli 1 (List.map L_S_retrospectref17_Node ([] : List (List M_retrospectref17_Node)))), (3, .own 101), (4, i64 s13.2)]) (fun (s13 : (List (List M_retrospectref17_Node)) × Int) => [(100, .bx 41 (L_retrospectref17_Field x0)), (101, .sl 54 1 (List.map L_S_retrospectref17_Node s13.1))]) (fun (t11 : (List (List M_retrospectref17_Node))) => [(1, .own 100), (2, sli 1 (List.map L_S_retrospectref17_Node ([] : List (List M_retrospectref17_Node)))), (3, .own 101)]) (fun (t11 : (List (List M_retrospectref17_Node))) => [(100, .bx 41 (L_retrospectref17_Field x0)), (101, .sl 54 1 (List.map L_S_retrospectref17_Node t11))]) (entR [(100, 100), (101, 101)] rfl (keepS hγ trivial) ⟨⟨_, rfl⟩, ⟨_, rfl⟩, trivial⟩ ⟨⟨_, _, rfl, rfl, rci (rc_bx (rn_id if_L_retrospectref17_Field))⟩, ⟨_, _, rfl, rfl, rci (rc_sl (ifs_map (f := L_S_retrospectref17_Node) (fun _ => if_sli) ([] : List (List M_retrospectref17_Node))))⟩, trivial⟩ ⟨⟨_, rfl, rn_own rfl⟩, ⟨_, rfl, rn_id if_sli⟩, ⟨_, rfl, rn_own rfl⟩, ⟨_, rfl, rn_id if_i64⟩, trivial⟩) ?_ ?_
  · intro hj12 s13
    refine sseq ?_
    refine sseq ?_
    refine sreg ?_
    refine s1 (mv rfl rfl) ?_
    refine s1 (faO rfl fd_41_0 rfl rfl) ?_
    refine s1 (ldB [0] rfl (by exact rfl) sh_38 (by exact rfl) (by exact rfl) rfl rfl (.inl rfl)) ?_
    refine s1 (lenL (f := L_retrospectref17_Let) Tryd.underlying38 rfl rfl) ?_
    refine s1 (ltI rfl rfl rfl) ?_
    refine snil ?_
    refine pnm ?_
    refine scond rfl ?_ ?_
    · refine sskip ?_
      refine pnm ?_
      refine sseq ?_
      refine sblk ?_
      refine sreg ?_
      refine s1 (mv rfl rfl) ?_
      refine s1 (faO rfl fd_41_0 rfl rfl) ?_
      refine s1 (ldB [0] rfl (by exact rfl) sh_38 (by exact rfl) (by exact rfl) rfl rfl (.inl rfl)) ?_
      refine s1 (mv rfl rfl) ?_
      refine bd fun y14 h15 => ?_
      refine s1 (ixR (f := L_retrospectref17_Let) Tryd.underlying38 ti_92 h15 rfl rfl rfl) ?_
      refine s1 (faR fd_92_1 (by exact rfl) rfl rfl) ?_
      refine s1 (ldR sh_54 (by exact rfl) (by exact rfl) rfl rfl) ?_
      refine so (bsl (y := 102) (ls := List.map L_S_retrospectref17_Node ([y14.Code] : List (List M_retrospectref17_Node))) Tryd.underlying39 ti_54 rfl rfl rfl rfl rfl ⟨rfl, rfl, (by exact rfl), (by exact rfl), trivial⟩ rfl rfl) ?_
      refine bd fun y16 h17 => ?_
      refine so (app (y := 103) (f := L_S_retrospectref17_Node) h17 rfl Tryd.underlying39 ti_54 rfl rfl rfl rfl (.inr ⟨_, _, rfl, rfl⟩) rfl rfl) ?_
      refine s1 (asg rfl rfl) ?_
      refine snil ?_
      refine pbn ?_
      refine pnm ?_
      refine sreg ?_
      refine s1 (mv rfl rfl) ?_
      refine s1 (addI rfl rfl (kI (x := 1) rfl)) ?_
      refine s1 (asg rfl rfl) ?_
      refine snil ?_
      exact sgo (entR [(100, 100), (101, 103)] rfl (keepS hγ trivial) ⟨⟨_, rfl⟩, ⟨_, rfl⟩, trivial⟩ ⟨⟨_, _, rfl, rfl, rci (rc_bx (rn_id if_L_retrospectref17_Field))⟩, ⟨_, _, rfl, rfl, rci (rc_sl (ifs_map (f := L_S_retrospectref17_Node) (fun _ => if_sli) y16))⟩, trivial⟩ ⟨⟨_, rfl, rn_own rfl⟩, ⟨_, rfl, rn_id if_sli⟩, ⟨_, rfl, rn_own rfl⟩, ⟨_, rfl, rn_id if_i64⟩, trivial⟩)
    · refine sexit ?_
      refine ptx ?_
      exact sout (fun h => by cases h) (sj (hj12 _) (entR [(100, 100), (101, 101)] rfl (keepS hγ trivial) ⟨⟨_, rfl⟩, ⟨_, rfl⟩, trivial⟩ ⟨⟨_, _, rfl, rfl, rci (rc_bx (rn_id if_L_retrospectref17_Field))⟩, ⟨_, _, rfl, rfl, rci (rc_sl (ifs_map (f := L_S_retrospectref17_Node) (fun _ => if_sli) s13.1))⟩, trivial⟩ ⟨⟨_, rfl, rn_own rfl⟩, ⟨_, rfl, rn_id if_sli⟩, ⟨_, rfl, rn_own rfl⟩, trivial⟩))
  · intro t11
    refine sx ?_
    refine pnm ?_
    refine sseq ?_
    refine sreg ?_
    refine s1 (mv rfl rfl) ?_
    refine s1 (faO rfl fd_41_1 rfl rfl) ?_
    refine s1 (ldB [1] rfl (by exact rfl) sh_39 (by exact rfl) (by exact rfl) rfl rfl (.inl rfl)) ?_
    refine bd fun y18 h19 => ?_
    refine so (app (y := 102) (f := L_S_retrospectref17_Node) h19 rfl Tryd.underlying39 ti_54 rfl rfl rfl rfl (.inl rfl) rfl rfl) ?_
    refine s1 (asg rfl rfl) ?_
    refine snil ?_
    refine pnm ?_
    refine sret ?_
    refine frz (id := 102) [(2, sli 1 (List.map L_S_retrospectref17_Node y18)), (24, sli 1 (List.map L_S_retrospectref17_Node y18))] [] rfl (ifs_map (f := L_S_retrospectref17_Node) (fun _ => if_sli) y18) ⟨⟨_, rfl, fz_own⟩, ⟨_, rfl, fz_own⟩, trivial⟩ trivial ?_
    exact ret [] [.tmp 2] [_] [_] .ret hγ (.inl rfl) rfl ⟨rfl, trivial⟩ rfl trivial trivial trivial (rns_cons (rn_id if_sli) (rns_nil)) rfl
theorem c_retrospectref17_Size {n : Nat} {x0 : M_retrospectref17_Field} : ∀ r, m_retrospectref17_Size n x0 = some r → FnOk Tryd.prog 51 [L_retrospectref17_Field x0] [] (i64 r) [] := by
  unfold m_retrospectref17_Size
  refine fn_of_sq (res := fun (r : Int) => i64 r) (mo := fun (r : Int) => []) Tryd.func51 rfl rfl (by kernel_rfl) rfl ?_
  intro w S0 γ hγ
  refine sseq ?_
  refine sreg ?_
  refine so (box (y := 100) (by exact rfl) rfl rfl rfl) ?_
  refine s1 (asg rfl (kI (x := 0) rfl)) ?_
  refine snil ?_
  refine pnm ?_
  refine sseq ?_
  refine sreg ?_
  refine s1 (asg rfl (kI (x := 0) rfl)) ?_
  refine snil ?_
  refine pnm ?_
  refine sseq ?_
  refine sreg ?_
  refine s1 (ldB [] rfl rfl sh_41 (by exact rfl) (by exact rfl) rfl rfl (.inr ⟨rfl, rfl, _, _, rfl⟩)) ?_
  refine bd fun r1 h2 => ?_
  refine s1 (call0 (c_retrospectref17_Codes _ h2) ⟨⟨_, rfl, rn_id if_L_retrospectref17_Field⟩, trivial⟩ (if_sli) rfl) ?_
  refine s1 (asg rfl rfl) ?_
  refine snil ?_
  refine pnm ?_
  refine sseq ?_
  refine sseq ?_
  refine sreg ?_
  refine s1 (asg rfl (kI (x := 0) rfl)) ?_
  refine snil ?_
  refine pnm ?_
  refine sblk ?_
  refine sloopE 0 (fun t => t) (fun (s11 : Int × Int) => [(2, i64 (0 : Int)), (3, i64 s11.1), (4, sli 1 (List.map L_S_retrospectref17_Node r1)), (5, i64 s11.2)]) (fun (s11 : Int × Int) => []) (fun (t9 : Int) => [(2, i64 (0 : Int)), (3, i64 t9)]) (fun (t9 : Int) => []) (entR [] rfl (keepS hγ trivial) (by exact trivial) (by exact trivial) ⟨⟨_, rfl, rn_id if_i64⟩, ⟨_, rfl, rn_id if_i64⟩, ⟨_, rfl, rn_id if_sli⟩, ⟨_, rfl, rn_id if_i64⟩, trivial⟩) ?_ ?_
  · intro hj10 s11
    refine sseq ?_
    refine sseq ?_
    refine sreg ?_
    refine s1 (mv rfl rfl) ?_
    refine s1 (mv rfl rfl) ?_
    refine s1 (lenL (f := L_S_retrospectref17_Node) Tryd.underlying39 rfl rfl) ?_
    refine s1 (ltI rfl rfl rfl) ?_
    refine snil ?_
    refine pnm ?_
    refine scond rfl ?_ ?_
    · refine sskip ?_
      refine pnm ?_
      refine sseq ?_
      refine sblk ?_
      refine sreg ?_
      refine s1 (mv rfl rfl) ?_
      refine s1 (mv rfl rfl) ?_
      refine s1 (mv rfl rfl) ?_
      refine bd fun y12 h13 => ?_
      refine s1 (ixR (f := L_S_retrospectref17_Node) Tryd.underlying39 ti_54 h13 rfl rfl rfl) ?_
      refine s1 (ldR sh_54 (by exact rfl) (by exact rfl) rfl rfl) ?_
      refine s1 (lenL (f := L_retrospectref17_Node) Tryd.underlying54 rfl rfl) ?_
      refine s1 (addI rfl rfl rfl) ?_
      refine s1 (asg rfl rfl) ?_
      refine snil ?_
      refine pbn ?_
      refine pnm ?_
      refine sreg ?_
      refine s1 (mv rfl rfl) ?_
      refine s1 (addI rfl rfl (kI (x := 1) rfl)) ?_
      refine s1 (asg rfl rfl) ?_
      refine snil ?_
      exact sgo (entI ⟨rfl, rfl, rfl, rfl, trivial⟩ eqm0)
    · refine sexit ?_
      refine ptx ?_
      exact sout (fun h => by cases h) (sj (hj10 _) (entI ⟨rfl, rfl, trivial⟩ eqm0))
  · intro t9
    refine sx ?_
    refine pnm ?_
    refine sseq ?_
    refine sreg ?_
    refine s1 (mv rfl rfl) ?_
    refine s1 (asg rfl rfl) ?_
    refine snil ?_
    refine pnm ?_
    refine sret ?_
    exact ret [] [.tmp 2] [_] [_] .ret hγ (.inl rfl) rfl ⟨rfl, trivial⟩ rfl trivial trivial trivial (rns_cons (rn_id if_i64) (rns_nil)) rfl
theorem c_retrospectref16_digit {x0 : Nat} : ∀ r, m_retrospectref16_digit x0 = some r → FnOk Tryd.prog 95 [u8 x0] [] (bl r) [] := by
  unfold m_retrospectref16_digit
  refine fn_of_sq (res := fun (r : Bool) => bl r) (mo := fun (r : Bool) => []) Tryd.func95 rfl rfl (by kernel_rfl) rfl ?_
  intro w S0 γ hγ
  refine sseq ?_
  refine sreg ?_
  refine s1 (asg rfl kB) ?_
  refine snil ?_
  refine pnm ?_
  refine sjq (fun (s3 : Bool) => [(2, bl s3)]) (fun (s3 : Bool) => []) ?_ ?_
  · intro j1 hj2
    refine sreg ?_
    refine s1 (mv rfl rfl) ?_
    refine s1 (geU .u8 rfl rfl (k8 (x := 48) rfl)) ?_
    refine s1 (mv rfl rfl) ?_
    refine sifd 5 rfl ?_ ?_
    · refine sg 5 rfl rfl (mv rfl rfl) ?_
      refine sg 5 rfl rfl (leU .u8 rfl rfl (k8 (x := 57) rfl)) ?_
      refine s1 (pickT rfl rfl rfl) ?_
      refine s1 (asg rfl rfl) ?_
      refine snil ?_
      refine pnm ?_
      exact sj (hj2 _) (entI ⟨rfl, trivial⟩ eqm0)
    · refine spB 5 rfl rfl rfl ?_
      refine spB 5 rfl rfl rfl ?_
      refine s1 (pickF rfl rfl kB) ?_
      refine s1 (asg rfl rfl) ?_
      refine snil ?_
      refine pnm ?_
      exact sj (hj2 _) (entI ⟨rfl, trivial⟩ eqm0)
  · intro s3
    refine sret ?_
    exact ret [] [.tmp 2] [_] [_] .ret hγ (.inl rfl) rfl ⟨rfl, trivial⟩ rfl trivial trivial trivial (rns_cons (rn_id if_bl) (rns_nil)) rfl
theorem c_retrospectref16_letter {x0 : Nat} : ∀ r, m_retrospectref16_letter x0 = some r → FnOk Tryd.prog 96 [u8 x0] [] (bl r) [] := by
  unfold m_retrospectref16_letter
  refine fn_of_sq (res := fun (r : Bool) => bl r) (mo := fun (r : Bool) => []) Tryd.func96 rfl rfl (by kernel_rfl) rfl ?_
  intro w S0 γ hγ
  refine sseq ?_
  refine sreg ?_
  refine s1 (asg rfl kB) ?_
  refine snil ?_
  refine pnm ?_
  refine sjq (fun (s3 : Bool) => [(2, bl s3)]) (fun (s3 : Bool) => []) ?_ ?_
  · intro j1 hj2
    refine sreg ?_
    refine s1 (mv rfl rfl) ?_
    refine s1 (geU .u8 rfl rfl (k8 (x := 97) rfl)) ?_
    refine s1 (mv rfl rfl) ?_
    refine sifd 5 rfl ?_ ?_
    · refine sg 5 rfl rfl (mv rfl rfl) ?_
      refine sg 5 rfl rfl (leU .u8 rfl rfl (k8 (x := 122) rfl)) ?_
      refine s1 (pickT rfl rfl rfl) ?_
      refine s1 (mv rfl rfl) ?_
      refine sifd 9 rfl ?_ ?_
      · refine spB 9 rfl rfl rfl ?_
        refine spB 9 rfl rfl rfl ?_
        refine spB 9 rfl rfl rfl ?_
        refine spU 12 rfl rfl rfl ?_
        refine spU 12 rfl rfl rfl ?_
        refine spB 9 rfl rfl rfl ?_
        refine s1 (pickT rfl rfl kB) ?_
        refine s1 (mv rfl rfl) ?_
        refine spB 17 rfl rfl rfl ?_
        refine spB 17 rfl rfl rfl ?_
        refine s1 (pickT rfl rfl kB) ?_
        refine s1 (asg rfl rfl) ?_
        refine snil ?_
        refine pnm ?_
        exact sj (hj2 _) (entI ⟨rfl, trivial⟩ eqm0)
      · refine sg 9 rfl rfl (mv rfl rfl) ?_
        refine sg 9 rfl rfl (geU .u8 rfl rfl (k8 (x := 65) rfl)) ?_
        refine sg 9 rfl rfl (mv rfl rfl) ?_
        refine sifd 12 rfl ?_ ?_
        · refine sg 12 rfl rfl (mv rfl rfl) ?_
          refine sg 12 rfl rfl (leU .u8 rfl rfl (k8 (x := 90) rfl)) ?_
          refine sg 9 rfl rfl (pickT rfl rfl rfl) ?_
          refine s1 (pickF rfl rfl rfl) ?_
          refine s1 (mv rfl rfl) ?_
          refine sifd 17 rfl ?_ ?_
          · refine spB 17 rfl rfl rfl ?_
            refine spB 17 rfl rfl rfl ?_
            refine s1 (pickT rfl rfl kB) ?_
            refine s1 (asg rfl rfl) ?_
            refine snil ?_
            refine pnm ?_
            exact sj (hj2 _) (entI ⟨rfl, trivial⟩ eqm0)
          · refine sg 17 rfl rfl (mv rfl rfl) ?_
            refine sg 17 rfl rfl (eqU .u8 rfl rfl (k8 (x := 95) rfl)) ?_
            refine s1 (pickF rfl rfl rfl) ?_
            refine s1 (asg rfl rfl) ?_
            refine snil ?_
            refine pnm ?_
            exact sj (hj2 _) (entI ⟨rfl, trivial⟩ eqm0)
        · refine spB 12 rfl rfl rfl ?_
          refine spB 12 rfl rfl rfl ?_
          refine sg 9 rfl rfl (pickF rfl rfl kB) ?_
          refine s1 (pickF rfl rfl rfl) ?_
          refine s1 (mv rfl rfl) ?_
          refine sg 17 rfl rfl (mv rfl rfl) ?_
          refine sg 17 rfl rfl (eqU .u8 rfl rfl (k8 (x := 95) rfl)) ?_
          refine s1 (pickF rfl rfl rfl) ?_
          refine s1 (asg rfl rfl) ?_
          refine snil ?_
          refine pnm ?_
          exact sj (hj2 _) (entI ⟨rfl, trivial⟩ eqm0)
    · refine spB 5 rfl rfl rfl ?_
      refine spB 5 rfl rfl rfl ?_
      refine s1 (pickF rfl rfl kB) ?_
      refine s1 (mv rfl rfl) ?_
      refine sg 9 rfl rfl (mv rfl rfl) ?_
      refine sg 9 rfl rfl (geU .u8 rfl rfl (k8 (x := 65) rfl)) ?_
      refine sg 9 rfl rfl (mv rfl rfl) ?_
      refine sifd 12 rfl ?_ ?_
      · refine sg 12 rfl rfl (mv rfl rfl) ?_
        refine sg 12 rfl rfl (leU .u8 rfl rfl (k8 (x := 90) rfl)) ?_
        refine sg 9 rfl rfl (pickT rfl rfl rfl) ?_
        refine s1 (pickF rfl rfl rfl) ?_
        refine s1 (mv rfl rfl) ?_
        refine sifd 17 rfl ?_ ?_
        · refine spB 17 rfl rfl rfl ?_
          refine spB 17 rfl rfl rfl ?_
          refine s1 (pickT rfl rfl kB) ?_
          refine s1 (asg rfl rfl) ?_
          refine snil ?_
          refine pnm ?_
          exact sj (hj2 _) (entI ⟨rfl, trivial⟩ eqm0)
        · refine sg 17 rfl rfl (mv rfl rfl) ?_
          refine sg 17 rfl rfl (eqU .u8 rfl rfl (k8 (x := 95) rfl)) ?_
          refine s1 (pickF rfl rfl rfl) ?_
          refine s1 (asg rfl rfl) ?_
          refine snil ?_
          refine pnm ?_
          exact sj (hj2 _) (entI ⟨rfl, trivial⟩ eqm0)
      · refine spB 12 rfl rfl rfl ?_
        refine spB 12 rfl rfl rfl ?_
        refine sg 9 rfl rfl (pickF rfl rfl kB) ?_
        refine s1 (pickF rfl rfl rfl) ?_
        refine s1 (mv rfl rfl) ?_
        refine sg 17 rfl rfl (mv rfl rfl) ?_
        refine sg 17 rfl rfl (eqU .u8 rfl rfl (k8 (x := 95) rfl)) ?_
        refine s1 (pickF rfl rfl rfl) ?_
        refine s1 (asg rfl rfl) ?_
        refine snil ?_
        refine pnm ?_
        exact sj (hj2 _) (entI ⟨rfl, trivial⟩ eqm0)
  · intro s3
    refine sret ?_
    exact ret [] [.tmp 2] [_] [_] .ret hγ (.inl rfl) rfl ⟨rfl, trivial⟩ rfl trivial trivial trivial (rns_cons (rn_id if_bl) (rns_nil)) rfl
theorem c_retrospectref16_more {x0 : Int} {x1 : Nat} : ∀ r, m_retrospectref16_more x0 x1 = some r → FnOk Tryd.prog 90 [i64 x0, u8 x1] [] (bl r) [] := by
  unfold m_retrospectref16_more
  refine fn_of_sq (res := fun (r : Bool) => bl r) (mo := fun (r : Bool) => []) Tryd.func90 rfl rfl (by kernel_rfl) rfl ?_
  intro w S0 γ hγ
  refine sseq ?_
  refine sreg ?_
  refine s1 (asg rfl kB) ?_
  refine snil ?_
  refine pnm ?_
  refine sjq (fun (s13 : Bool) => [(4, bl s13)]) (fun (s13 : Bool) => []) ?_ ?_
  · intro j11 hj12
    refine sreg ?_
    refine s1 (mv rfl rfl) ?_
    refine s1 (eqI rfl rfl (kI (x := 1) rfl)) ?_
    refine s1 (mv rfl rfl) ?_
    refine sifd 7 rfl ?_ ?_
    · refine sg 7 rfl rfl (mv rfl rfl) ?_
      refine bd fun r14 h15 => ?_
      refine sg 7 rfl rfl (call0 (c_retrospectref16_digit _ h15) ⟨⟨_, rfl, rn_id if_u8⟩, trivial⟩ (if_bl) rfl) ?_
      refine s1 (pickT rfl rfl rfl) ?_
      refine s1 (mv rfl rfl) ?_
      refine sifd 11 rfl ?_ ?_
      · refine spB 11 rfl rfl rfl ?_
        refine spB 11 rfl rfl rfl ?_
        refine spB 11 rfl rfl rfl ?_
        refine spU 14 rfl rfl rfl ?_
        refine spU 14 rfl rfl rfl ?_
        refine spU 14 rfl rfl rfl ?_
        refine spU 17 rfl rfl rfl ?_
        refine spU 17 rfl rfl rfl ?_
        refine spU 14 rfl rfl rfl ?_
        refine spB 11 rfl rfl rfl ?_
        refine s1 (pickT rfl rfl kB) ?_
        refine s1 (asg rfl rfl) ?_
        refine snil ?_
        refine pnm ?_
        exact sj (hj12 _) (entI ⟨rfl, trivial⟩ eqm0)
      · refine sg 11 rfl rfl (mv rfl rfl) ?_
        refine sg 11 rfl rfl (eqI rfl rfl (kI (x := 2) rfl)) ?_
        refine sg 11 rfl rfl (mv rfl rfl) ?_
        refine sifd 14 rfl ?_ ?_
        · refine sg 14 rfl rfl (mv rfl rfl) ?_
          refine bd fun r16 h17 => ?_
          refine sg 14 rfl rfl (call0 (c_retrospectref16_digit _ h17) ⟨⟨_, rfl, rn_id if_u8⟩, trivial⟩ (if_bl) rfl) ?_
          refine sg 14 rfl rfl (mv rfl rfl) ?_
          refine sifd 17 rfl ?_ ?_
          · refine spB 17 rfl rfl rfl ?_
            refine spB 17 rfl rfl rfl ?_
            refine sg 14 rfl rfl (pickT rfl rfl kB) ?_
            refine sg 11 rfl rfl (pickT rfl rfl rfl) ?_
            refine s1 (pickF rfl rfl rfl) ?_
            refine s1 (asg rfl rfl) ?_
            refine snil ?_
            refine pnm ?_
            exact sj (hj12 _) (entI ⟨rfl, trivial⟩ eqm0)
          · refine sg 17 rfl rfl (mv rfl rfl) ?_
            refine bd fun r18 h19 => ?_
            refine sg 17 rfl rfl (call0 (c_retrospectref16_letter _ h19) ⟨⟨_, rfl, rn_id if_u8⟩, trivial⟩ (if_bl) rfl) ?_
            refine sg 14 rfl rfl (pickF rfl rfl rfl) ?_
            refine sg 11 rfl rfl (pickT rfl rfl rfl) ?_
            refine s1 (pickF rfl rfl rfl) ?_
            refine s1 (asg rfl rfl) ?_
            refine snil ?_
            refine pnm ?_
            exact sj (hj12 _) (entI ⟨rfl, trivial⟩ eqm0)
        · refine spB 14 rfl rfl rfl ?_
          refine spB 14 rfl rfl rfl ?_
          refine spB 14 rfl rfl rfl ?_
          refine spU 17 rfl rfl rfl ?_
          refine spU 17 rfl rfl rfl ?_
          refine spB 14 rfl rfl rfl ?_
          refine sg 11 rfl rfl (pickF rfl rfl kB) ?_
          refine s1 (pickF rfl rfl rfl) ?_
          refine s1 (asg rfl rfl) ?_
          refine snil ?_
          refine pnm ?_
          exact sj (hj12 _) (entI ⟨rfl, trivial⟩ eqm0)
    · refine spB 7 rfl rfl rfl ?_
      refine spB 7 rfl rfl rfl ?_
      refine s1 (pickF rfl rfl kB) ?_
      refine s1 (mv rfl rfl) ?_
      refine sg 11 rfl rfl (mv rfl rfl) ?_
      refine sg 11 rfl rfl (eqI rfl rfl (kI (x := 2) rfl)) ?_
      refine sg 11 rfl rfl (mv rfl rfl) ?_
      refine sifd 14 rfl ?_ ?_
      · refine sg 14 rfl rfl (mv rfl rfl) ?_
        refine bd fun r20 h21 => ?_
        refine sg 14 rfl rfl (call0 (c_retrospectref16_digit _ h21) ⟨⟨_, rfl, rn_id if_u8⟩, trivial⟩ (if_bl) rfl) ?_
        refine sg 14 rfl rfl (mv rfl rfl) ?_
        refine sifd 17 rfl ?_ ?_
        · refine spB 17 rfl rfl rfl ?_
          refine spB 17 rfl rfl rfl ?_
          refine sg 14 rfl rfl (pickT rfl rfl kB) ?_
          refine sg 11 rfl rfl (pickT rfl rfl rfl) ?_
          refine s1 (pickF rfl rfl rfl) ?_
          refine s1 (asg rfl rfl) ?_
          refine snil ?_
          refine pnm ?_
          exact sj (hj12 _) (entI ⟨rfl, trivial⟩ eqm0)
        · refine sg 17 rfl rfl (mv rfl rfl) ?_
          refine bd fun r22 h23 => ?_
          refine sg 17 rfl rfl (call0 (c_retrospectref16_letter _ h23) ⟨⟨_, rfl, rn_id if_u8⟩, trivial⟩ (if_bl) rfl) ?_
          refine sg 14 rfl rfl (pickF rfl rfl rfl) ?_
          refine sg 11 rfl rfl (pickT rfl rfl rfl) ?_
          refine s1 (pickF rfl rfl rfl) ?_
          refine s1 (asg rfl rfl) ?_
          refine snil ?_
          refine pnm ?_
          exact sj (hj12 _) (entI ⟨rfl, trivial⟩ eqm0)
      · refine spB 14 rfl rfl rfl ?_
        refine spB 14 rfl rfl rfl ?_
        refine spB 14 rfl rfl rfl ?_
        refine spU 17 rfl rfl rfl ?_
        refine spU 17 rfl rfl rfl ?_
        refine spB 14 rfl rfl rfl ?_
        refine sg 11 rfl rfl (pickF rfl rfl kB) ?_
        refine s1 (pickF rfl rfl rfl) ?_
        refine s1 (asg rfl rfl) ?_
        refine snil ?_
        refine pnm ?_
        exact sj (hj12 _) (entI ⟨rfl, trivial⟩ eqm0)
  · intro s13
    refine sret ?_
    exact ret [] [.tmp 4] [_] [_] .ret hγ (.inl rfl) rfl ⟨rfl, trivial⟩ rfl trivial trivial trivial (rns_cons (rn_id if_bl) (rns_nil)) rfl
theorem c_retrospectref16_Kind {n : Nat} {x0 : Nat} : ∀ r, m_retrospectref16_Kind n x0 = some r → FnOk Tryd.prog 91 [u8 x0] [] (i64 r) [] := by
  unfold m_retrospectref16_Kind
  refine fn_of_sq (res := fun (r : Int) => i64 r) (mo := fun (r : Int) => []) Tryd.func91 rfl rfl (by kernel_rfl) rfl ?_
  intro w S0 γ hγ
  refine sseq ?_
  refine sreg ?_
  refine s1 (asg rfl (kI (x := 0) rfl)) ?_
  refine snil ?_
  refine pnm ?_
  refine sseq ?_
  refine sseq ?_
  refine sreg ?_
  refine s1 (mv rfl rfl) ?_
  refine bd fun r1 h2 => ?_
  refine s1 (call0 (c_retrospectref16_digit _ h2) ⟨⟨_, rfl, rn_id if_u8⟩, trivial⟩ (if_bl) rfl) ?_
  refine snil ?_
  refine pnm ?_
  refine scond rfl ?_ ?_
  · refine sseq ?_
    refine sreg ?_
    refine s1 (asg rfl (kI (x := 1) rfl)) ?_
    refine snil ?_
    refine pnm ?_
    refine sret ?_
    refine pth ?_
    exact ret [] [.tmp 2] [_] [_] .ret hγ (.inl rfl) rfl ⟨rfl, trivial⟩ rfl trivial trivial trivial (rns_cons (rn_id if_i64) (rns_nil)) rfl
  · refine sskip ?_
    refine pnm ?_
    refine sseq ?_
    refine sseq ?_
    refine sreg ?_
    refine s1 (mv rfl rfl) ?_
    refine bd fun r3 h4 => ?_
    refine s1 (call0 (c_retrospectref16_letter _ h4) ⟨⟨_, rfl, rn_id if_u8⟩, trivial⟩ (if_bl) rfl) ?_
    refine snil ?_
    refine pnm ?_
    refine scond rfl ?_ ?_
    · refine sseq ?_
      refine sreg ?_
      refine s1 (asg rfl (kI (x := 2) rfl)) ?_
      refine snil ?_
      refine pnm ?_
      refine sret ?_
      refine pth ?_
      exact ret [] [.tmp 2] [_] [_] .ret hγ (.inl rfl) rfl ⟨rfl, trivial⟩ rfl trivial trivial trivial (rns_cons (rn_id if_i64) (rns_nil)) rfl
    · refine sskip ?_
      refine pnm ?_
      refine sseq ?_
      refine sreg ?_
      refine s1 (asg rfl (kS (s := [43, 45, 42, 47, 94, 40, 41, 91, 93, 44, 59, 61]) rfl)) ?_
      refine snil ?_
      refine pnm ?_
      refine sseq ?_
      refine sseq ?_
      refine sreg ?_
      refine s1 (asg rfl (kI (x := 0) rfl)) ?_
      refine snil ?_
      refine pnm ?_
      refine sblk ?_
      refine sloopE 0 Lp.go (fun (s15 : Int) => [(0, u8 x0), (2, i64 (0 : Int)), (3, str ([43, 45, 42, 47, 94, 40, 41, 91, 93, 44, 59, 61] : List UInt8)), (4, i64 s15)]) (fun (s15 : Int) => []) (fun (t13 : Unit) => [(2, i64 (0 : Int))]) (fun (t13 : Unit) => []) (entI ⟨rfl, rfl, rfl, rfl, trivial⟩ eqm0) ?_ ?_
      · intro hj14 s15
        refine sseq ?_
        refine sseq ?_
        refine sreg ?_
        refine s1 (mv rfl rfl) ?_
        refine s1 (mv rfl rfl) ?_
        refine s1 (lenS Tryd.underlying9 rfl rfl) ?_
        refine sbn (F := i64) 11 rfl fun z16 => ?_
        refine s1 (ltI rfl rfl rfl) ?_
        refine snil ?_
        refine pnm ?_
        refine scond rfl ?_ ?_
        · refine sskip ?_
          refine pnm ?_
          refine sseq ?_
          refine sblk ?_
          refine sseq ?_
          refine sreg ?_
          refine s1 (mv rfl rfl) ?_
          refine s1 (mv rfl rfl) ?_
          refine bd fun y17 h18 => ?_
          refine s1 (ixS Tryd.underlying9 h18 rfl rfl rfl) ?_
          refine s1 (mv rfl rfl) ?_
          refine s1 (eqU .u8 rfl rfl rfl) ?_
          refine snil ?_
          refine pnm ?_
          refine scond rfl ?_ ?_
          · refine sseq ?_
            refine sreg ?_
            refine s1 (asg rfl (kI (x := 3) rfl)) ?_
            refine snil ?_
            refine pnm ?_
            refine sret ?_
            refine pbl ?_
            refine pth ?_
            refine sout (fun h => by cases h) ?_
            refine pbl ?_
            refine pth ?_
            exact ret [] [.tmp 2] [_] [_] .ret hγ (.inl rfl) rfl ⟨rfl, trivial⟩ rfl trivial trivial trivial (rns_cons (rn_id if_i64) (rns_nil)) rfl
          · refine sskip ?_
            refine pbn ?_
            refine pnm ?_
            refine sreg ?_
            refine s1 (mv rfl rfl) ?_
            refine s1 (addI rfl rfl (kI (x := 1) rfl)) ?_
            refine s1 (asg rfl rfl) ?_
            refine snil ?_
            exact sgo (entI ⟨rfl, rfl, rfl, rfl, trivial⟩ eqm0)
        · refine sexit ?_
          refine ptx ?_
          exact sout (fun h => by cases h) (sj (hj14 _) (entI ⟨rfl, trivial⟩ eqm0))
      · intro t13
        refine slpk ?_
        refine sx ?_
        refine pnm ?_
        refine sseq ?_
        refine sreg ?_
        refine s1 (asg rfl (kI (x := 0) rfl)) ?_
        refine snil ?_
        refine pnm ?_
        refine sret ?_
        exact ret [] [.tmp 2] [_] [_] .ret hγ (.inl rfl) rfl ⟨rfl, trivial⟩ rfl trivial trivial trivial (rns_cons (rn_id if_i64) (rns_nil)) rfl
theorem c_retrospectref16_Most {x0 : Int} : ∀ r, m_retrospectref16_Most x0 = some r → FnOk Tryd.prog 92 [i64 x0] [] (i64 r) [] := by
  unfold m_retrospectref16_Most
  refine fn_of_sq (res := fun (r : Int) => i64 r) (mo := fun (r : Int) => []) Tryd.func92 rfl rfl (by kernel_rfl) rfl ?_
  intro w S0 γ hγ
  refine sseq ?_
  refine sreg ?_
  refine s1 (asg rfl (kI (x := 0) rfl)) ?_
  refine snil ?_
  refine pnm ?_
  refine sseq ?_
  refine sseq ?_
  refine sreg ?_
  refine s1 (mv rfl rfl) ?_
  refine s1 (eqI rfl rfl (kI (x := 1) rfl)) ?_
  refine snil ?_
  refine pnm ?_
  refine scond rfl ?_ ?_
  · refine sseq ?_
    refine sreg ?_
    refine s1 (asg rfl (kI (x := 60) rfl)) ?_
    refine snil ?_
    refine pnm ?_
    refine sret ?_
    refine pth ?_
    exact ret [] [.tmp 2] [_] [_] .ret hγ (.inl rfl) rfl ⟨rfl, trivial⟩ rfl trivial trivial trivial (rns_cons (rn_id if_i64) (rns_nil)) rfl
  · refine sskip ?_
    refine pnm ?_
    refine sseq ?_
    refine sseq ?_
    refine sreg ?_
    refine s1 (mv rfl rfl) ?_
    refine s1 (eqI rfl rfl (kI (x := 2) rfl)) ?_
    refine snil ?_
    refine pnm ?_
    refine scond rfl ?_ ?_
    · refine sseq ?_
      refine sreg ?_
      refine s1 (asg rfl (kI (x := 12) rfl)) ?_
      refine snil ?_
      refine pnm ?_
      refine sret ?_
      refine pth ?_
      exact ret [] [.tmp 2] [_] [_] .ret hγ (.inl rfl) rfl ⟨rfl, trivial⟩ rfl trivial trivial trivial (rns_cons (rn_id if_i64) (rns_nil)) rfl
    · refine sskip ?_
      refine pnm ?_
      refine sseq ?_
      refine sreg ?_
      refine s1 (asg rfl (kI (x := 1) rfl)) ?_
      refine snil ?_
      refine pnm ?_
      refine sret ?_
      exact ret [] [.tmp 2] [_] [_] .ret hγ (.inl rfl) rfl ⟨rfl, trivial⟩ rfl trivial trivial trivial (rns_cons (rn_id if_i64) (rns_nil)) rfl
theorem c_retrospectref16_Scan {n : Nat} {x0 : (List UInt8)} : ∀ r, m_retrospectref16_Scan n x0 = some r → FnOk Tryd.prog 79 [str x0] [] (.tup [sli 3 (List.map L_retrospectref16_Word r.1), i64 r.2]) [] := by
  unfold m_retrospectref16_Scan
  refine fn_of_sq (res := fun (r : (List M_retrospectref16_Word) × Int) => .tup [sli 3 (List.map L_retrospectref16_Word r.1), i64 r.2]) (mo := fun (r : (List M_retrospectref16_Word) × Int) => []) Tryd.func79 rfl rfl (by kernel_rfl) rfl ?_
  intro w S0 γ hγ
  refine sseq ?_
  refine sreg ?_
  refine s1 (asg rfl (kLm (k := 3) L_retrospectref16_Word)) ?_
  refine s1 (asg rfl (kI (x := 0) rfl)) ?_
  refine snil ?_
  refine pnm ?_
  refine sseq ?_
  refine sseq ?_
  refine sreg ?_
  refine s1 (mv rfl rfl) ?_
  refine s1 (lenS Tryd.underlying9 rfl rfl) ?_
  refine s1 (gtI rfl rfl (kI (x := 4000) rfl)) ?_
  refine snil ?_
  refine pnm ?_
  refine scond rfl ?_ ?_
  · refine sseq ?_
    refine sreg ?_
    refine so (bsl (y := 100) (ls := List.map L_retrospectref16_Word ([] : List M_retrospectref16_Word)) Tryd.underlying128 ti_107 rfl rfl rfl rfl rfl trivial rfl rfl) ?_
    refine s1 (asg rfl rfl) ?_
    refine s1 (asg rfl (kI (x := 4000) rfl)) ?_
    refine snil ?_
    refine pnm ?_
    refine sret ?_
    refine pth ?_
    refine frz (id := 100) [(2, sli 3 (List.map L_retrospectref16_Word ([] : List M_retrospectref16_Word))), (13, sli 3 (List.map L_retrospectref16_Word ([] : List M_retrospectref16_Word)))] [] rfl (ifs_map (f := L_retrospectref16_Word) (fun _ => if_L_retrospectref16_Word) ([] : List M_retrospectref16_Word)) ⟨⟨_, rfl, fz_own⟩, ⟨_, rfl, fz_own⟩, trivial⟩ trivial ?_
    exact ret [] [.tmp 2, .tmp 3] [_, _] [_, _] .ret hγ (.inl rfl) rfl ⟨rfl, rfl, trivial⟩ rfl trivial trivial trivial (rns_cons (rn_id if_sli) (rns_cons (rn_id if_i64) (rns_nil))) rfl
  · refine sskip ?_
    refine pnm ?_
    refine sseq ?_
    refine sreg ?_
    refine so (asgN (y := 100) (E := 107) (k := 3) rfl rfl) ?_
    refine snil ?_
    refine pnm ?_
    refine sseq ?_
    refine sreg ?_
    refine s1 (asg rfl kB) ?_
    refine snil ?_
    refine pnm ?_
    refine sseq ?_
    refine sseq ?_
    refine sreg ?_
    refine s1 (asg rfl (kI (x := 0) rfl)) ?_
    refine snil ?_
    refine pnm ?_
    refine sblk ?_
    refine sloopE 0 Lp.go (fun (s407 : (List M_retrospectref16_Word) × Bool × Int) => [(0, str x0), (2, sli 3 (List.map L_retrospectref16_Word ([] : List M_retrospectref16_Word))), (3, i64 (0 : Int)), (4, .own 100), (5, bl s407.2.1), (6, i64 s407.2.2)]) (fun (s407 : (List M_retrospectref16_Word) × Bool × Int) => [(100, .sl 107 3 (List.map L_retrospectref16_Word s407.1))]) (fun (t405 : (List M_retrospectref16_Word)) => [(2, sli 3 (List.map L_retrospectref16_Word ([] : List M_retrospectref16_Word))), (3, i64 (0 : Int)), (4, .own 100)]) (fun (t405 : (List M_retrospectref16_Word)) => [(100, .sl 107 3 (List.map L_retrospectref16_Word t405))]) (entR [(100, 100)] rfl (keepS hγ trivial) ⟨⟨_, rfl⟩, trivial⟩ ⟨⟨_, _, rfl, rfl, rci (rc_sl (ifs_map (f := L_retrospectref16_Word) (fun _ => if_L_retrospectref16_Word) ([] : List M_retrospectref16_Word)))⟩, trivial⟩ ⟨⟨_, rfl, rn_id if_str⟩, ⟨_, rfl, rn_id if_sli⟩, ⟨_, rfl, rn_id if_i64⟩, ⟨_, rfl, rn_own rfl⟩, ⟨_, rfl, rn_id if_bl⟩, ⟨_, rfl, rn_id if_i64⟩, trivial⟩) ?_ ?_
    · intro hj406 s407
      refine sseq ?_
      refine sseq ?_
      refine sreg ?_
      refine s1 (mv rfl rfl) ?_
      refine s1 (mv rfl rfl) ?_
      refine s1 (lenS Tryd.underlying9 rfl rfl) ?_
      refine s1 (ltI rfl rfl rfl) ?_
      refine snil ?_
      refine pnm ?_
      refine scond rfl ?_ ?_
      · refine sskip ?_
        refine pnm ?_
        refine sjq (fun (s509 : (List M_retrospectref16_Word) × Bool) => [(0, str x0), (2, sli 3 (List.map L_retrospectref16_Word ([] : List M_retrospectref16_Word))), (3, i64 (0 : Int)), (4, .own 100), (5, bl s509.2), (6, i64 s407.2.2)]) (fun (s509 : (List M_retrospectref16_Word) × Bool) => [(100, .sl 107 3 (List.map L_retrospectref16_Word s509.1))]) ?_ ?_
        · intro j507 hj508
          refine sblk ?_
          refine sseq ?_
          refine sreg ?_
          refine s1 (mv rfl rfl) ?_
          refine s1 (mv rfl rfl) ?_
          refine bd fun y510 h511 => ?_
          refine s1 (ixS Tryd.underlying9 h511 rfl rfl rfl) ?_
          refine s1 (asg rfl rfl) ?_
          refine snil ?_
          refine pnm ?_
          refine sjq (fun (s514 : Bool) => [(0, str x0), (2, sli 3 (List.map L_retrospectref16_Word ([] : List M_retrospectref16_Word))), (3, i64 (0 : Int)), (4, .own 100), (5, bl s514), (6, i64 s407.2.2), (7, u8 y510)]) (fun (s514 : Bool) => [(100, .sl 107 3 (List.map L_retrospectref16_Word s407.1))]) ?_ ?_
          · intro j512 hj513
            refine sseq ?_
            refine sreg ?_
            refine s1 (mv rfl rfl) ?_
            refine s1 (eqU .u8 rfl rfl (k8 (x := 10) rfl)) ?_
            refine snil ?_
            refine pnm ?_
            refine scond rfl ?_ ?_
            · refine sreg ?_
              refine s1 (asg rfl kB) ?_
              refine snil ?_
              refine pnm ?_
              exact sj (hj513 _) (entR [(100, 100)] rfl (keepS hγ trivial) ⟨⟨_, rfl⟩, trivial⟩ ⟨⟨_, _, rfl, rfl, rci (rc_sl (ifs_map (f := L_retrospectref16_Word) (fun _ => if_L_retrospectref16_Word) s407.1))⟩, trivial⟩ ⟨⟨_, rfl, rn_id if_str⟩, ⟨_, rfl, rn_id if_sli⟩, ⟨_, rfl, rn_id if_i64⟩, ⟨_, rfl, rn_own rfl⟩, ⟨_, rfl, rn_id if_bl⟩, ⟨_, rfl, rn_id if_i64⟩, ⟨_, rfl, rn_id if_u8⟩, trivial⟩)
            · refine sskip ?_
              refine pnm ?_
              exact sj (hj513 _) (entR [(100, 100)] rfl (keepS hγ trivial) ⟨⟨_, rfl⟩, trivial⟩ ⟨⟨_, _, rfl, rfl, rci (rc_sl (ifs_map (f := L_retrospectref16_Word) (fun _ => if_L_retrospectref16_Word) s407.1))⟩, trivial⟩ ⟨⟨_, rfl, rn_id if_str⟩, ⟨_, rfl, rn_id if_sli⟩, ⟨_, rfl, rn_id if_i64⟩, ⟨_, rfl, rn_own rfl⟩, ⟨_, rfl, rn_id if_bl⟩, ⟨_, rfl, rn_id if_i64⟩, ⟨_, rfl, rn_id if_u8⟩, trivial⟩)
          · intro s514
            refine sjq (fun (s517 : Bool) => [(0, str x0), (2, sli 3 (List.map L_retrospectref16_Word ([] : List M_retrospectref16_Word))), (3, i64 (0 : Int)), (4, .own 100), (5, bl s517), (6, i64 s407.2.2), (7, u8 y510)]) (fun (s517 : Bool) => [(100, .sl 107 3 (List.map L_retrospectref16_Word s407.1))]) ?_ ?_
            · intro j515 hj516
              refine sseq ?_
              refine sreg ?_
              refine s1 (mv rfl rfl) ?_
              refine s1 (eqU .u8 rfl rfl (k8 (x := 35) rfl)) ?_
              refine snil ?_
              refine pnm ?_
              refine scond rfl ?_ ?_
              · refine sreg ?_
                refine s1 (asg rfl kB) ?_
                refine snil ?_
                refine pnm ?_
                exact sj (hj516 _) (entR [(100, 100)] rfl (keepS hγ trivial) ⟨⟨_, rfl⟩, trivial⟩ ⟨⟨_, _, rfl, rfl, rci (rc_sl (ifs_map (f := L_retrospectref16_Word) (fun _ => if_L_retrospectref16_Word) s407.1))⟩, trivial⟩ ⟨⟨_, rfl, rn_id if_str⟩, ⟨_, rfl, rn_id if_sli⟩, ⟨_, rfl, rn_id if_i64⟩, ⟨_, rfl, rn_own rfl⟩, ⟨_, rfl, rn_id if_bl⟩, ⟨_, rfl, rn_id if_i64⟩, ⟨_, rfl, rn_id if_u8⟩, trivial⟩)
              · refine sskip ?_
                refine pnm ?_
                exact sj (hj516 _) (entR [(100, 100)] rfl (keepS hγ trivial) ⟨⟨_, rfl⟩, trivial⟩ ⟨⟨_, _, rfl, rfl, rci (rc_sl (ifs_map (f := L_retrospectref16_Word) (fun _ => if_L_retrospectref16_Word) s407.1))⟩, trivial⟩ ⟨⟨_, rfl, rn_id if_str⟩, ⟨_, rfl, rn_id if_sli⟩, ⟨_, rfl, rn_id if_i64⟩, ⟨_, rfl, rn_own rfl⟩, ⟨_, rfl, rn_id if_bl⟩, ⟨_, rfl, rn_id if_i64⟩, ⟨_, rfl, rn_id if_u8⟩, trivial⟩)
            · intro s517
              refine sseq ?_
              refine sjq (fun (s520 : Bool) => [(0, str x0), (2, sli 3 (List.map L_retrospectref16_Word ([] : List M_retrospectref16_Word))), (3, i64 (0 : Int)), (4, .own 100), (5, bl s517), (6, i64 s407.2.2), (7, u8 y510), (43, bl s520)]) (fun (s520 : Bool) => [(100, .sl 107 3 (List.map L_retrospectref16_Word s407.1))]) ?_ ?_
              · intro j518 hj519
                refine sreg ?_
                refine s1 (mv rfl rfl) ?_
                refine s1 (mv rfl rfl) ?_
                refine sifd 28 rfl ?_ ?_
                · refine spB 28 rfl rfl rfl ?_
                  refine spB 28 rfl rfl rfl ?_
                  refine s1 (pickT rfl rfl kB) ?_
                  refine s1 (mv rfl rfl) ?_
                  refine spB 32 rfl rfl rfl ?_
                  refine spB 32 rfl rfl rfl ?_
                  refine s1 (pickT rfl rfl kB) ?_
                  refine s1 (mv rfl rfl) ?_
                  refine spB 36 rfl rfl rfl ?_
                  refine spB 36 rfl rfl rfl ?_
                  refine s1 (pickT rfl rfl kB) ?_
                  refine s1 (mv rfl rfl) ?_
                  refine spB 40 rfl rfl rfl ?_
                  refine spB 40 rfl rfl rfl ?_
                  refine s1 (pickT rfl rfl kB) ?_
                  refine snil ?_
                  refine pnm ?_
                  exact sj (hj519 _) (entR [(100, 100)] rfl (keepS hγ trivial) ⟨⟨_, rfl⟩, trivial⟩ ⟨⟨_, _, rfl, rfl, rci (rc_sl (ifs_map (f := L_retrospectref16_Word) (fun _ => if_L_retrospectref16_Word) s407.1))⟩, trivial⟩ ⟨⟨_, rfl, rn_id if_str⟩, ⟨_, rfl, rn_id if_sli⟩, ⟨_, rfl, rn_id if_i64⟩, ⟨_, rfl, rn_own rfl⟩, ⟨_, rfl, rn_id if_bl⟩, ⟨_, rfl, rn_id if_i64⟩, ⟨_, rfl, rn_id if_u8⟩, ⟨_, rfl, rn_id if_bl⟩, trivial⟩)
                · refine sg 28 rfl rfl (mv rfl rfl) ?_
                  refine sg 28 rfl rfl (eqU .u8 rfl rfl (k8 (x := 32) rfl)) ?_
                  refine s1 (pickF rfl rfl rfl) ?_
                  refine s1 (mv rfl rfl) ?_
                  refine sifd 32 rfl ?_ ?_
                  · refine spB 32 rfl rfl rfl ?_
                    refine spB 32 rfl rfl rfl ?_
                    refine s1 (pickT rfl rfl kB) ?_
                    refine s1 (mv rfl rfl) ?_
                    refine spB 36 rfl rfl rfl ?_
                    refine spB 36 rfl rfl rfl ?_
                    refine s1 (pickT rfl rfl kB) ?_
                    refine s1 (mv rfl rfl) ?_
                    refine spB 40 rfl rfl rfl ?_
                    refine spB 40 rfl rfl rfl ?_
                    refine s1 (pickT rfl rfl kB) ?_
                    refine snil ?_
                    refine pnm ?_
                    exact sj (hj519 _) (entR [(100, 100)] rfl (keepS hγ trivial) ⟨⟨_, rfl⟩, trivial⟩ ⟨⟨_, _, rfl, rfl, rci (rc_sl (ifs_map (f := L_retrospectref16_Word) (fun _ => if_L_retrospectref16_Word) s407.1))⟩, trivial⟩ ⟨⟨_, rfl, rn_id if_str⟩, ⟨_, rfl, rn_id if_sli⟩, ⟨_, rfl, rn_id if_i64⟩, ⟨_, rfl, rn_own rfl⟩, ⟨_, rfl, rn_id if_bl⟩, ⟨_, rfl, rn_id if_i64⟩, ⟨_, rfl, rn_id if_u8⟩, ⟨_, rfl, rn_id if_bl⟩, trivial⟩)
                  · refine sg 32 rfl rfl (mv rfl rfl) ?_
                    refine sg 32 rfl rfl (eqU .u8 rfl rfl (k8 (x := 9) rfl)) ?_
                    refine s1 (pickF rfl rfl rfl) ?_
                    refine s1 (mv rfl rfl) ?_
                    refine sifd 36 rfl ?_ ?_
                    · refine spB 36 rfl rfl rfl ?_
                      refine spB 36 rfl rfl rfl ?_
                      refine s1 (pickT rfl rfl kB) ?_
                      refine s1 (mv rfl rfl) ?_
                      refine spB 40 rfl rfl rfl ?_
                      refine spB 40 rfl rfl rfl ?_
                      refine s1 (pickT rfl rfl kB) ?_
                      refine snil ?_
                      refine pnm ?_
                      exact sj (hj519 _) (entR [(100, 100)] rfl (keepS hγ trivial) ⟨⟨_, rfl⟩, trivial⟩ ⟨⟨_, _, rfl, rfl, rci (rc_sl (ifs_map (f := L_retrospectref16_Word) (fun _ => if_L_retrospectref16_Word) s407.1))⟩, trivial⟩ ⟨⟨_, rfl, rn_id if_str⟩, ⟨_, rfl, rn_id if_sli⟩, ⟨_, rfl, rn_id if_i64⟩, ⟨_, rfl, rn_own rfl⟩, ⟨_, rfl, rn_id if_bl⟩, ⟨_, rfl, rn_id if_i64⟩, ⟨_, rfl, rn_id if_u8⟩, ⟨_, rfl, rn_id if_bl⟩, trivial⟩)
                    · refine sg 36 rfl rfl (mv rfl rfl) ?_
                      refine sg 36 rfl rfl (eqU .u8 rfl rfl (k8 (x := 10) rfl)) ?_
                      refine s1 (pickF rfl rfl rfl) ?_
                      refine s1 (mv rfl rfl) ?_
                      refine sifd 40 rfl ?_ ?_
                      · refine spB 40 rfl rfl rfl ?_
                        refine spB 40 rfl rfl rfl ?_
                        refine s1 (pickT rfl rfl kB) ?_
                        refine snil ?_
                        refine pnm ?_
                        exact sj (hj519 _) (entR [(100, 100)] rfl (keepS hγ trivial) ⟨⟨_, rfl⟩, trivial⟩ ⟨⟨_, _, rfl, rfl, rci (rc_sl (ifs_map (f := L_retrospectref16_Word) (fun _ => if_L_retrospectref16_Word) s407.1))⟩, trivial⟩ ⟨⟨_, rfl, rn_id if_str⟩, ⟨_, rfl, rn_id if_sli⟩, ⟨_, rfl, rn_id if_i64⟩, ⟨_, rfl, rn_own rfl⟩, ⟨_, rfl, rn_id if_bl⟩, ⟨_, rfl, rn_id if_i64⟩, ⟨_, rfl, rn_id if_u8⟩, ⟨_, rfl, rn_id if_bl⟩, trivial⟩)
                      · refine sg 40 rfl rfl (mv rfl rfl) ?_
                        refine sg 40 rfl rfl (eqU .u8 rfl rfl (k8 (x := 13) rfl)) ?_
                        refine s1 (pickF rfl rfl rfl) ?_
                        refine snil ?_
                        refine pnm ?_
                        exact sj (hj519 _) (entR [(100, 100)] rfl (keepS hγ trivial) ⟨⟨_, rfl⟩, trivial⟩ ⟨⟨_, _, rfl, rfl, rci (rc_sl (ifs_map (f := L_retrospectref16_Word) (fun _ => if_L_retrospectref16_Word) s407.1))⟩, trivial⟩ ⟨⟨_, rfl, rn_id if_str⟩, ⟨_, rfl, rn_id if_sli⟩, ⟨_, rfl, rn_id if_i64⟩, ⟨_, rfl, rn_own rfl⟩, ⟨_, rfl, rn_id if_bl⟩, ⟨_, rfl, rn_id if_i64⟩, ⟨_, rfl, rn_id if_u8⟩, ⟨_, rfl, rn_id if_bl⟩, trivial⟩)
              · intro s520
                refine scond rfl ?_ ?_
                · refine sexit ?_
                  refine ptx ?_
                  refine sx ?_
                  refine pnm ?_
                  exact sj (hj508 _) (entR [(100, 100)] rfl (keepS hγ trivial) ⟨⟨_, rfl⟩, trivial⟩ ⟨⟨_, _, rfl, rfl, rci (rc_sl (ifs_map (f := L_retrospectref16_Word) (fun _ => if_L_retrospectref16_Word) s407.1))⟩, trivial⟩ ⟨⟨_, rfl, rn_id if_str⟩, ⟨_, rfl, rn_id if_sli⟩, ⟨_, rfl, rn_id if_i64⟩, ⟨_, rfl, rn_own rfl⟩, ⟨_, rfl, rn_id if_bl⟩, ⟨_, rfl, rn_id if_i64⟩, trivial⟩)
                · refine sskip ?_
                  refine pnm ?_
                  refine sseq ?_
                  refine sreg ?_
                  refine s1 (mv rfl rfl) ?_
                  refine s1 (lenO (f := L_retrospectref16_Word) Tryd.underlying128 rfl rfl rfl) ?_
                  refine s1 (asg rfl rfl) ?_
                  refine snil ?_
                  refine pnm ?_
                  refine sjq (fun (s560 : (List M_retrospectref16_Word)) => [(0, str x0), (2, sli 3 (List.map L_retrospectref16_Word ([] : List M_retrospectref16_Word))), (3, i64 (0 : Int)), (4, .own 100), (5, bl s517), (6, i64 s407.2.2)]) (fun (s560 : (List M_retrospectref16_Word)) => [(100, .sl 107 3 (List.map L_retrospectref16_Word s560))]) ?_ ?_
                  · intro j558 hj559
                    refine sjq (fun (s573 : Bool) => [(0, str x0), (2, sli 3 (List.map L_retrospectref16_Word ([] : List M_retrospectref16_Word))), (3, i64 (0 : Int)), (4, .own 100), (5, bl s517), (6, i64 s407.2.2), (7, u8 y510), (8, i64 (s407.1.length : Int)), (75, bl s573)]) (fun (s573 : Bool) => [(100, .sl 107 3 (List.map L_retrospectref16_Word s407.1))]) ?_ ?_
                    · intro j571 hj572
                      refine sif (fun hb574 => ?_) (fun hb574 => ?_)
                      · refine bd fun y575 h576 => ?_
                        refine bd fun y577 h578 => ?_
                        refine sif (fun hb579 => ?_) (fun hb579 => ?_)
                        · refine bd fun y580 h581 => ?_
                          refine bd fun r582 h583 => ?_
                          refine sdraw [⟨[8], [], [(46, i64 (s407.1.length : Int))], []⟩, ⟨[46], [], [(47, bl (decide ((0 : Int) < (s407.1.length : Int))))], []⟩, ⟨[47], [], [(48, bl true)], []⟩, ⟨[48, 4], [], [(49, .own 100)], []⟩, ⟨[48, 8], [], [(50, i64 (s407.1.length : Int))], []⟩, ⟨[48, 50], [], [(51, i64 (wrap64 ((s407.1.length : Int) - (1 : Int))))], []⟩, ⟨[48, 49, 51], [100], [(52, .ptr 100 (Int.toNat (wrap64 ((s407.1.length : Int) - (1 : Int))) * 3))], []⟩, ⟨[48, 52], [], [(53, .ptr 100 ((Int.toNat (wrap64 ((s407.1.length : Int) - (1 : Int))) * 3) + 2))], []⟩, ⟨[48, 53], [100], [(54, i64 y575.At)], []⟩, ⟨[48, 4], [], [(55, .own 100)], []⟩, ⟨[48, 8], [], [(56, i64 (s407.1.length : Int))], []⟩, ⟨[48, 56], [], [(57, i64 (wrap64 ((s407.1.length : Int) - (1 : Int))))], []⟩, ⟨[48, 55, 57], [100], [(58, .ptr 100 (Int.toNat (wrap64 ((s407.1.length : Int) - (1 : Int))) * 3))], []⟩, ⟨[48, 58], [], [(59, .ptr 100 ((Int.toNat (wrap64 ((s407.1.length : Int) - (1 : Int))) * 3) + 1))], []⟩, ⟨[48, 59], [100], [(60, str y577.Text)], []⟩, ⟨[48, 60], [], [(61, i64 (y577.Text.length : Int))], []⟩, ⟨[48, 54, 61], [], [(62, i64 (wrap64 (y575.At + (y577.Text.length : Int))))], []⟩, ⟨[48, 6], [], [(63, i64 s407.2.2)], []⟩, ⟨[48, 62, 63], [], [(64, bl (decide ((wrap64 (y575.At + (y577.Text.length : Int))) = s407.2.2)))], []⟩, ⟨[48, 64], [], [(65, bl (decide ((wrap64 (y575.At + (y577.Text.length : Int))) = s407.2.2)))], []⟩, ⟨[65], [], [(66, bl true)], []⟩, ⟨[66, 4], [], [(67, .own 100)], []⟩, ⟨[66, 8], [], [(68, i64 (s407.1.length : Int))], []⟩, ⟨[66, 68], [], [(69, i64 (wrap64 ((s407.1.length : Int) - (1 : Int))))], []⟩, ⟨[66, 67, 69], [100], [(70, .ptr 100 (Int.toNat (wrap64 ((s407.1.length : Int) - (1 : Int))) * 3))], []⟩, ⟨[66, 70], [], [(71, .ptr 100 ((Int.toNat (wrap64 ((s407.1.length : Int) - (1 : Int))) * 3) + 0))], []⟩, ⟨[66, 71], [100], [(72, i64 y580.Kind)], []⟩, ⟨[66, 7], [], [(73, u8 y510)], []⟩, ⟨[66, 72, 73], [], [(74, bl r582)], []⟩, ⟨[66, 74], [], [(75, bl r582)], []⟩] fol (by kernel_rfl) ⟨fun st mm ⟨a8, _⟩ _ => og (mv rfl (a8.trans rfl)), fun st mm ⟨a46, _⟩ _ => og (gtI rfl (a46.trans rfl) (kI (x := 0) rfl)), fun st mm ⟨a47, _⟩ _ => og (okb hb574 (mv rfl (a47.trans rfl))), fun st mm ⟨a48, a4, _⟩ _ => ogG 48 rfl (a48.trans rfl) (mv rfl (a4.trans rfl)), fun st mm ⟨a48, a8, _⟩ _ => ogG 48 rfl (a48.trans rfl) (mv rfl (a8.trans rfl)), fun st mm ⟨a48, a50, _⟩ _ => ogG 48 rfl (a48.trans rfl) (subI rfl (a50.trans rfl) (kI (x := 1) rfl)), fun st mm ⟨a48, a49, a51, _⟩ ⟨g100, _⟩ => ogG 48 rfl (a48.trans rfl) (ixO (f := L_retrospectref16_Word) (g100.trans rfl) Tryd.underlying128 ti_107 h576 rfl (a49.trans rfl) (a51.trans rfl)), fun st mm ⟨a48, a52, _⟩ _ => ogG 48 rfl (a48.trans rfl) (faP fd_107_2 rfl (a52.trans rfl)), fun st mm ⟨a48, a53, _⟩ ⟨g100, _⟩ => ogG 48 rfl (a48.trans rfl) (ldO (f := L_retrospectref16_Word) [2] (g100.trans rfl) (getI_ix h576) (by exact rfl) (by exact rfl) sh_3 (by exact rfl) (by exact rfl) rfl (a53.trans rfl)), fun st mm ⟨a48, a4, _⟩ _ => ogG 48 rfl (a48.trans rfl) (mv rfl (a4.trans rfl)), fun st mm ⟨a48, a8, _⟩ _ => ogG 48 rfl (a48.trans rfl) (mv rfl (a8.trans rfl)), fun st mm ⟨a48, a56, _⟩ _ => ogG 48 rfl (a48.trans rfl) (subI rfl (a56.trans rfl) (kI (x := 1) rfl)), fun st mm ⟨a48, a55, a57, _⟩ ⟨g100, _⟩ => ogG 48 rfl (a48.trans rfl) (ixO (f := L_retrospectref16_Word) (g100.trans rfl) Tryd.underlying128 ti_107 h578 rfl (a55.trans rfl) (a57.trans rfl)), fun st mm ⟨a48, a58, _⟩ _ => ogG 48 rfl (a48.trans rfl) (faP fd_107_1 rfl (a58.trans rfl)), fun st mm ⟨a48, a59, _⟩ ⟨g100, _⟩ => ogG 48 rfl (a48.trans rfl) (ldO (f := L_retrospectref16_Word) [1] (g100.trans rfl) (getI_ix h578) (by exact rfl) (by exact rfl) sh_9 (by exact rfl) (by exact rfl) rfl (a59.trans rfl)), fun st mm ⟨a48, a60, _⟩ _ => ogG 48 rfl (a48.trans rfl) (lenS Tryd.underlying9 rfl (a60.trans rfl)), fun st mm ⟨a48, a54, a61, _⟩ _ => ogG 48 rfl (a48.trans rfl) (addI rfl (a54.trans rfl) (a61.trans rfl)), fun st mm ⟨a48, a6, _⟩ _ => ogG 48 rfl (a48.trans rfl) (mv rfl (a6.trans rfl)), fun st mm ⟨a48, a62, a63, _⟩ _ => ogG 48 rfl (a48.trans rfl) (eqI rfl (a62.trans rfl) (a63.trans rfl)), fun st mm ⟨a48, a64, _⟩ _ => og (pickT rfl (a48.trans rfl) (a64.trans rfl)), fun st mm ⟨a65, _⟩ _ => og (okb hb579 (mv rfl (a65.trans rfl))), fun st mm ⟨a66, a4, _⟩ _ => ogG 66 rfl (a66.trans rfl) (mv rfl (a4.trans rfl)), fun st mm ⟨a66, a8, _⟩ _ => ogG 66 rfl (a66.trans rfl) (mv rfl (a8.trans rfl)), fun st mm ⟨a66, a68, _⟩ _ => ogG 66 rfl (a66.trans rfl) (subI rfl (a68.trans rfl) (kI (x := 1) rfl)), fun st mm ⟨a66, a67, a69, _⟩ ⟨g100, _⟩ => ogG 66 rfl (a66.trans rfl) (ixO (f := L_retrospectref16_Word) (g100.trans rfl) Tryd.underlying128 ti_107 h581 rfl (a67.trans rfl) (a69.trans rfl)), fun st mm ⟨a66, a70, _⟩ _ => ogG 66 rfl (a66.trans rfl) (faP fd_107_0 rfl (a70.trans rfl)), fun st mm ⟨a66, a71, _⟩ ⟨g100, _⟩ => ogG 66 rfl (a66.trans rfl) (ldO (f := L_retrospectref16_Word) [0] (g100.trans rfl) (getI_ix h581) (by exact rfl) (by exact rfl) sh_3 (by exact rfl) (by exact rfl) rfl (a71.trans rfl)), fun st mm ⟨a66, a7, _⟩ _ => ogG 66 rfl (a66.trans rfl) (mv rfl (a7.trans rfl)), fun st mm ⟨a66, a72, a73, _⟩ _ => ogG 66 rfl (a66.trans rfl) (call0 (c_retrospectref16_more _ h583) ⟨⟨_, (a72.trans rfl), rn_id if_i64⟩, ⟨_, (a73.trans rfl), rn_id if_u8⟩, trivial⟩ (if_bl) rfl), fun st mm ⟨a66, a74, _⟩ _ => og (pickT rfl (a66.trans rfl) (a74.trans rfl)), trivial⟩ ?_
                          refine pnm ?_
                          exact sj (hj572 _) (entR [(100, 100)] rfl (keepS hγ trivial) ⟨⟨_, rfl⟩, trivial⟩ ⟨⟨_, _, rfl, rfl, rci (rc_sl (ifs_map (f := L_retrospectref16_Word) (fun _ => if_L_retrospectref16_Word) s407.1))⟩, trivial⟩ ⟨⟨_, rfl, rn_id if_str⟩, ⟨_, rfl, rn_id if_sli⟩, ⟨_, rfl, rn_id if_i64⟩, ⟨_, rfl, rn_own rfl⟩, ⟨_, rfl, rn_id if_bl⟩, ⟨_, rfl, rn_id if_i64⟩, ⟨_, rfl, rn_id if_u8⟩, ⟨_, rfl, rn_id if_i64⟩, ⟨_, rfl, rn_id if_bl⟩, trivial⟩)
                        · refine sdraw [⟨[8], [], [(46, i64 (s407.1.length : Int))], []⟩, ⟨[46], [], [(47, bl (decide ((0 : Int) < (s407.1.length : Int))))], []⟩, ⟨[47], [], [(48, bl true)], []⟩, ⟨[48, 4], [], [(49, .own 100)], []⟩, ⟨[48, 8], [], [(50, i64 (s407.1.length : Int))], []⟩, ⟨[48, 50], [], [(51, i64 (wrap64 ((s407.1.length : Int) - (1 : Int))))], []⟩, ⟨[48, 49, 51], [100], [(52, .ptr 100 (Int.toNat (wrap64 ((s407.1.length : Int) - (1 : Int))) * 3))], []⟩, ⟨[48, 52], [], [(53, .ptr 100 ((Int.toNat (wrap64 ((s407.1.length : Int) - (1 : Int))) * 3) + 2))], []⟩, ⟨[48, 53], [100], [(54, i64 y575.At)], []⟩, ⟨[48, 4], [], [(55, .own 100)], []⟩, ⟨[48, 8], [], [(56, i64 (s407.1.length : Int))], []⟩, ⟨[48, 56], [], [(57, i64 (wrap64 ((s407.1.length : Int) - (1 : Int))))], []⟩, ⟨[48, 55, 57], [100], [(58, .ptr 100 (Int.toNat (wrap64 ((s407.1.length : Int) - (1 : Int))) * 3))], []⟩, ⟨[48, 58], [], [(59, .ptr 100 ((Int.toNat (wrap64 ((s407.1.length : Int) - (1 : Int))) * 3) + 1))], []⟩, ⟨[48, 59], [100], [(60, str y577.Text)], []⟩, ⟨[48, 60], [], [(61, i64 (y577.Text.length : Int))], []⟩, ⟨[48, 54, 61], [], [(62, i64 (wrap64 (y575.At + (y577.Text.length : Int))))], []⟩, ⟨[48, 6], [], [(63, i64 s407.2.2)], []⟩, ⟨[48, 62, 63], [], [(64, bl (decide ((wrap64 (y575.At + (y577.Text.length : Int))) = s407.2.2)))], []⟩, ⟨[48, 64], [], [(65, bl (decide ((wrap64 (y575.At + (y577.Text.length : Int))) = s407.2.2)))], []⟩, ⟨[65], [], [(66, bl false)], []⟩, ⟨[66], [], [(67, .tup [])], []⟩, ⟨[66], [], [(68, .tup [])], []⟩, ⟨[66], [], [(69, .tup [])], []⟩, ⟨[66], [], [(70, .tup [])], []⟩, ⟨[66], [], [(71, .tup [])], []⟩, ⟨[66], [], [(72, .tup [])], []⟩, ⟨[66], [], [(73, .tup [])], []⟩, ⟨[66], [], [(74, .tup [])], []⟩, ⟨[66], [], [(75, bl false)], []⟩] fol (by kernel_rfl) ⟨fun st mm ⟨a8, _⟩ _ => og (mv rfl (a8.trans rfl)), fun st mm ⟨a46, _⟩ _ => og (gtI rfl (a46.trans rfl) (kI (x := 0) rfl)), fun st mm ⟨a47, _⟩ _ => og (okb hb574 (mv rfl (a47.trans rfl))), fun st mm ⟨a48, a4, _⟩ _ => ogG 48 rfl (a48.trans rfl) (mv rfl (a4.trans rfl)), fun st mm ⟨a48, a8, _⟩ _ => ogG 48 rfl (a48.trans rfl) (mv rfl (a8.trans rfl)), fun st mm ⟨a48, a50, _⟩ _ => ogG 48 rfl (a48.trans rfl) (subI rfl (a50.trans rfl) (kI (x := 1) rfl)), fun st mm ⟨a48, a49, a51, _⟩ ⟨g100, _⟩ => ogG 48 rfl (a48.trans rfl) (ixO (f := L_retrospectref16_Word) (g100.trans rfl) Tryd.underlying128 ti_107 h576 rfl (a49.trans rfl) (a51.trans rfl)), fun st mm ⟨a48, a52, _⟩ _ => ogG 48 rfl (a48.trans rfl) (faP fd_107_2 rfl (a52.trans rfl)), fun st mm ⟨a48, a53, _⟩ ⟨g100, _⟩ => ogG 48 rfl (a48.trans rfl) (ldO (f := L_retrospectref16_Word) [2] (g100.trans rfl) (getI_ix h576) (by exact rfl) (by exact rfl) sh_3 (by exact rfl) (by exact rfl) rfl (a53.trans rfl)), fun st mm ⟨a48, a4, _⟩ _ => ogG 48 rfl (a48.trans rfl) (mv rfl (a4.trans rfl)), fun st mm ⟨a48, a8, _⟩ _ => ogG 48 rfl (a48.trans rfl) (mv rfl (a8.trans rfl)), fun st mm ⟨a48, a56, _⟩ _ => ogG 48 rfl (a48.trans rfl) (subI rfl (a56.trans rfl) (kI (x := 1) rfl)), fun st mm ⟨a48, a55, a57, _⟩ ⟨g100, _⟩ => ogG 48 rfl (a48.trans rfl) (ixO (f := L_retrospectref16_Word) (g100.trans rfl) Tryd.underlying128 ti_107 h578 rfl (a55.trans rfl) (a57.trans rfl)), fun st mm ⟨a48, a58, _⟩ _ => ogG 48 rfl (a48.trans rfl) (faP fd_107_1 rfl (a58.trans rfl)), fun st mm ⟨a48, a59, _⟩ ⟨g100, _⟩ => ogG 48 rfl (a48.trans rfl) (ldO (f := L_retrospectref16_Word) [1] (g100.trans rfl) (getI_ix h578) (by exact rfl) (by exact rfl) sh_9 (by exact rfl) (by exact rfl) rfl (a59.trans rfl)), fun st mm ⟨a48, a60, _⟩ _ => ogG 48 rfl (a48.trans rfl) (lenS Tryd.underlying9 rfl (a60.trans rfl)), fun st mm ⟨a48, a54, a61, _⟩ _ => ogG 48 rfl (a48.trans rfl) (addI rfl (a54.trans rfl) (a61.trans rfl)), fun st mm ⟨a48, a6, _⟩ _ => ogG 48 rfl (a48.trans rfl) (mv rfl (a6.trans rfl)), fun st mm ⟨a48, a62, a63, _⟩ _ => ogG 48 rfl (a48.trans rfl) (eqI rfl (a62.trans rfl) (a63.trans rfl)), fun st mm ⟨a48, a64, _⟩ _ => og (pickT rfl (a48.trans rfl) (a64.trans rfl)), fun st mm ⟨a65, _⟩ _ => og (okb hb579 (mv rfl (a65.trans rfl))), fun st mm ⟨a66, _⟩ _ => ogB 66 rfl (a66.trans rfl) rfl, fun st mm ⟨a66, _⟩ _ => ogB 66 rfl (a66.trans rfl) rfl, fun st mm ⟨a66, _⟩ _ => ogB 66 rfl (a66.trans rfl) rfl, fun st mm ⟨a66, _⟩ _ => ogB 66 rfl (a66.trans rfl) rfl, fun st mm ⟨a66, _⟩ _ => ogB 66 rfl (a66.trans rfl) rfl, fun st mm ⟨a66, _⟩ _ => ogB 66 rfl (a66.trans rfl) rfl, fun st mm ⟨a66, _⟩ _ => ogB 66 rfl (a66.trans rfl) rfl, fun st mm ⟨a66, _⟩ _ => ogB 66 rfl (a66.trans rfl) rfl, fun st mm ⟨a66, _⟩ _ => og (pickF rfl (a66.trans rfl) kB), trivial⟩ ?_
                          refine pnm ?_
                          exact sj (hj572 _) (entR [(100, 100)] rfl (keepS hγ trivial) ⟨⟨_, rfl⟩, trivial⟩ ⟨⟨_, _, rfl, rfl, rci (rc_sl (ifs_map (f := L_retrospectref16_Word) (fun _ => if_L_retrospectref16_Word) s407.1))⟩, trivial⟩ ⟨⟨_, rfl, rn_id if_str⟩, ⟨_, rfl, rn_id if_sli⟩, ⟨_, rfl, rn_id if_i64⟩, ⟨_, rfl, rn_own rfl⟩, ⟨_, rfl, rn_id if_bl⟩, ⟨_, rfl, rn_id if_i64⟩, ⟨_, rfl, rn_id if_u8⟩, ⟨_, rfl, rn_id if_i64⟩, ⟨_, rfl, rn_id if_bl⟩, trivial⟩)
                      · refine sdraw [⟨[8], [], [(46, i64 (s407.1.length : Int))], []⟩, ⟨[46], [], [(47, bl (decide ((0 : Int) < (s407.1.length : Int))))], []⟩, ⟨[47], [], [(48, bl false)], []⟩, ⟨[48], [], [(49, .tup [])], []⟩, ⟨[48], [], [(50, .tup [])], []⟩, ⟨[48], [], [(51, .tup [])], []⟩, ⟨[48], [], [(52, .tup [])], []⟩, ⟨[48], [], [(53, .tup [])], []⟩, ⟨[48], [], [(54, .tup [])], []⟩, ⟨[48], [], [(55, .tup [])], []⟩, ⟨[48], [], [(56, .tup [])], []⟩, ⟨[48], [], [(57, .tup [])], []⟩, ⟨[48], [], [(58, .tup [])], []⟩, ⟨[48], [], [(59, .tup [])], []⟩, ⟨[48], [], [(60, .tup [])], []⟩, ⟨[48], [], [(61, .tup [])], []⟩, ⟨[48], [], [(62, .tup [])], []⟩, ⟨[48], [], [(63, .tup [])], []⟩, ⟨[48], [], [(64, .tup [])], []⟩, ⟨[48], [], [(65, bl false)], []⟩, ⟨[65], [], [(66, bl false)], []⟩, ⟨[66], [], [(67, .tup [])], []⟩, ⟨[66], [], [(68, .tup [])], []⟩, ⟨[66], [], [(69, .tup [])], []⟩, ⟨[66], [], [(70, .tup [])], []⟩, ⟨[66], [], [(71, .tup [])], []⟩, ⟨[66], [], [(72, .tup [])], []⟩, ⟨[66], [], [(73, .tup [])], []⟩, ⟨[66], [], [(74, .tup [])], []⟩, ⟨[66], [], [(75, bl false)], []⟩] fol (by kernel_rfl) ⟨fun st mm ⟨a8, _⟩ _ => og (mv rfl (a8.trans rfl)), fun st mm ⟨a46, _⟩ _ => og (gtI rfl (a46.trans rfl) (kI (x := 0) rfl)), fun st mm ⟨a47, _⟩ _ => og (okb hb574 (mv rfl (a47.trans rfl))), fun st mm ⟨a48, _⟩ _ => ogB 48 rfl (a48.trans rfl) rfl, fun st mm ⟨a48, _⟩ _ => ogB 48 rfl (a48.trans rfl) rfl, fun st mm ⟨a48, _⟩ _ => ogB 48 rfl (a48.trans rfl) rfl, fun st mm ⟨a48, _⟩ _ => ogB 48 rfl (a48.trans rfl) rfl, fun st mm ⟨a48, _⟩ _ => ogB 48 rfl (a48.trans rfl) rfl, fun st mm ⟨a48, _⟩ _ => ogB 48 rfl (a48.trans rfl) rfl, fun st mm ⟨a48, _⟩ _ => ogB 48 rfl (a48.trans rfl) rfl, fun st mm ⟨a48, _⟩ _ => ogB 48 rfl (a48.trans rfl) rfl, fun st mm ⟨a48, _⟩ _ => ogB 48 rfl (a48.trans rfl) rfl, fun st mm ⟨a48, _⟩ _ => ogB 48 rfl (a48.trans rfl) rfl, fun st mm ⟨a48, _⟩ _ => ogB 48 rfl (a48.trans rfl) rfl, fun st mm ⟨a48, _⟩ _ => ogB 48 rfl (a48.trans rfl) rfl, fun st mm ⟨a48, _⟩ _ => ogB 48 rfl (a48.trans rfl) rfl, fun st mm ⟨a48, _⟩ _ => ogB 48 rfl (a48.trans rfl) rfl, fun st mm ⟨a48, _⟩ _ => ogB 48 rfl (a48.trans rfl) rfl, fun st mm ⟨a48, _⟩ _ => ogB 48 rfl (a48.trans rfl) rfl, fun st mm ⟨a48, _⟩ _ => og (pickF rfl (a48.trans rfl) kB), fun st mm ⟨a65, _⟩ _ => og (mv rfl (a65.trans rfl)), fun st mm ⟨a66, _⟩ _ => ogB 66 rfl (a66.trans rfl) rfl, fun st mm ⟨a66, _⟩ _ => ogB 66 rfl (a66.trans rfl) rfl, fun st mm ⟨a66, _⟩ _ => ogB 66 rfl (a66.trans rfl) rfl, fun st mm ⟨a66, _⟩ _ => ogB 66 rfl (a66.trans rfl) rfl, fun st mm ⟨a66, _⟩ _ => ogB 66 rfl (a66.trans rfl) rfl, fun st mm ⟨a66, _⟩ _ => ogB 66 rfl (a66.trans rfl) rfl, fun st mm ⟨a66, _⟩ _ => ogB 66 rfl (a66.trans rfl) rfl, fun st mm ⟨a66, _⟩ _ => ogB 66 rfl (a66.trans rfl) rfl, fun st mm ⟨a66, _⟩ _ => og (pickF rfl (a66.trans rfl) kB), trivial⟩ ?_
                        refine pnm ?_
                        exact sj (hj572 _) (entR [(100, 100)] rfl (keepS hγ trivial) ⟨⟨_, rfl⟩, trivial⟩ ⟨⟨_, _, rfl, rfl, rci (rc_sl (ifs_map (f := L_retrospectref16_Word) (fun _ => if_L_retrospectref16_Word) s407.1))⟩, trivial⟩ ⟨⟨_, rfl, rn_id if_str⟩, ⟨_, rfl, rn_id if_sli⟩, ⟨_, rfl, rn_id if_i64⟩, ⟨_, rfl, rn_own rfl⟩, ⟨_, rfl, rn_id if_bl⟩, ⟨_, rfl, rn_id if_i64⟩, ⟨_, rfl, rn_id if_u8⟩, ⟨_, rfl, rn_id if_i64⟩, ⟨_, rfl, rn_id if_bl⟩, trivial⟩)
                    · intro s573
                      refine scond rfl ?_ ?_
                      · refine bd fun y584 h585 => ?_
                        refine bd fun y586 h587 => ?_
                        refine bd fun y588 h589 => ?_
                        refine bd fun y590 h591 => ?_
                        refine sdraw [⟨[4], [], [(76, .own 100)], []⟩, ⟨[8], [], [(77, i64 (s407.1.length : Int))], []⟩, ⟨[77], [], [(78, i64 (wrap64 ((s407.1.length : Int) - (1 : Int))))], []⟩, ⟨[76, 78], [100], [(79, .ptr 100 (Int.toNat (wrap64 ((s407.1.length : Int) - (1 : Int))) * 3))], []⟩, ⟨[79], [], [(80, .ptr 100 ((Int.toNat (wrap64 ((s407.1.length : Int) - (1 : Int))) * 3) + 1))], []⟩, ⟨[80], [100], [(81, str y584.Text)], []⟩, ⟨[0], [], [(82, str x0)], []⟩, ⟨[6], [], [(83, i64 s407.2.2)], []⟩, ⟨[6], [], [(84, i64 s407.2.2)], []⟩, ⟨[84], [], [(85, i64 (wrap64 (s407.2.2 + (1 : Int))))], []⟩, ⟨[82, 83, 85], [], [(86, str y586)], []⟩, ⟨[81, 86], [], [(87, str y588)], []⟩, ⟨[76, 78], [100], [(88, .ptr 100 (Int.toNat (wrap64 ((s407.1.length : Int) - (1 : Int))) * 3))], []⟩, ⟨[88], [], [(89, .ptr 100 ((Int.toNat (wrap64 ((s407.1.length : Int) - (1 : Int))) * 3) + 1))], []⟩, ⟨[89, 87], [100], [], [(100, .sl 107 3 (List.map L_retrospectref16_Word (List.set s407.1 (Int.toNat (wrap64 ((s407.1.length : Int) - (1 : Int)))) (⟨y590.Kind, y588, y590.At⟩ : M_retrospectref16_Word))))]⟩] fol (by kernel_rfl) ⟨fun st mm ⟨a4, _⟩ _ => og (mv rfl (a4.trans rfl)), fun st mm ⟨a8, _⟩ _ => og (mv rfl (a8.trans rfl)), fun st mm ⟨a77, _⟩ _ => og (subI rfl (a77.trans rfl) (kI (x := 1) rfl)), fun st mm ⟨a76, a78, _⟩ ⟨g100, _⟩ => og (ixO (f := L_retrospectref16_Word) (g100.trans rfl) Tryd.underlying128 ti_107 h585 rfl (a76.trans rfl) (a78.trans rfl)), fun st mm ⟨a79, _⟩ _ => og (faP fd_107_1 rfl (a79.trans rfl)), fun st mm ⟨a80, _⟩ ⟨g100, _⟩ => og (ldO (f := L_retrospectref16_Word) [1] (g100.trans rfl) (getI_ix h585) (by exact rfl) (by exact rfl) sh_9 (by exact rfl) (by exact rfl) rfl (a80.trans rfl)), fun st mm ⟨a0, _⟩ _ => og (mv rfl (a0.trans rfl)), fun st mm ⟨a6, _⟩ _ => og (mv rfl (a6.trans rfl)), fun st mm ⟨a6, _⟩ _ => og (mv rfl (a6.trans rfl)), fun st mm ⟨a84, _⟩ _ => og (addI rfl (a84.trans rfl) (kI (x := 1) rfl)), fun st mm ⟨a82, a83, a85, _⟩ _ => og (slS h587 Tryd.underlying9 rfl (a82.trans rfl) (bnd (a83.trans rfl)) (bnd (a85.trans rfl))), fun st mm ⟨a81, a86, _⟩ _ => og (catStr h589 rfl (a81.trans rfl) (a86.trans rfl)), fun st mm ⟨a76, a78, _⟩ ⟨g100, _⟩ => og (ixO (f := L_retrospectref16_Word) (g100.trans rfl) Tryd.underlying128 ti_107 h591 rfl (a76.trans rfl) (a78.trans rfl)), fun st mm ⟨a88, _⟩ _ => og (faP fd_107_1 rfl (a88.trans rfl)), fun st mm ⟨a89, a87, _⟩ ⟨g100, _⟩ => og (stO (f := L_retrospectref16_Word) (⟨y590.Kind, y588, y590.At⟩ : M_retrospectref16_Word) [1] (g100.trans rfl) (getI_ix h591) (by exact rfl) (by exact rfl) (by exact rfl) (by exact rfl) sh_9 (by exact rfl) (by exact rfl) (by exact rfl) (a89.trans rfl) (a87.trans rfl)), trivial⟩ ?_
                        refine pnm ?_
                        exact sj (hj559 _) (entR [(100, 100)] rfl (keepS hγ trivial) ⟨⟨_, rfl⟩, trivial⟩ ⟨⟨_, _, rfl, rfl, rci (rc_sl (ifs_map (f := L_retrospectref16_Word) (fun _ => if_L_retrospectref16_Word) (List.set s407.1 (Int.toNat (wrap64 ((s407.1.length : Int) - (1 : Int)))) (⟨y590.Kind, y588, y590.At⟩ : M_retrospectref16_Word))))⟩, trivial⟩ ⟨⟨_, rfl, rn_id if_str⟩, ⟨_, rfl, rn_id if_sli⟩, ⟨_, rfl, rn_id if_i64⟩, ⟨_, rfl, rn_own rfl⟩, ⟨_, rfl, rn_id if_bl⟩, ⟨_, rfl, rn_id if_i64⟩, trivial⟩)
                      · refine bd fun r592 h593 => ?_
                        refine bd fun y594 h595 => ?_
                        refine bd fun y596 h597 => ?_
                        refine sdraw [⟨[4], [], [(90, .own 100)], []⟩, ⟨[7], [], [(91, u8 y510)], []⟩, ⟨[91], [], [(92, i64 r592)], []⟩, ⟨[0], [], [(93, str x0)], []⟩, ⟨[6], [], [(94, i64 s407.2.2)], []⟩, ⟨[6], [], [(95, i64 s407.2.2)], []⟩, ⟨[95], [], [(96, i64 (wrap64 (s407.2.2 + (1 : Int))))], []⟩, ⟨[93, 94, 96], [], [(97, str y594)], []⟩, ⟨[6], [], [(98, i64 s407.2.2)], []⟩, ⟨[92, 97, 98], [], [(99, L_retrospectref16_Word (⟨r592, y594, s407.2.2⟩ : M_retrospectref16_Word))], []⟩, ⟨[99], [101], [(100, .own 101)], [(101, .sl 107 3 (List.map L_retrospectref16_Word ([(⟨r592, y594, s407.2.2⟩ : M_retrospectref16_Word)] : List M_retrospectref16_Word)))]⟩, ⟨[90, 100], [100, 101, 102], [(101, .own 102)], [(102, .sl 107 3 (List.map L_retrospectref16_Word y596)), (100, .gone)]⟩, ⟨[101], [], [(4, .own 102)], []⟩] fol (by kernel_rfl) ⟨fun st mm ⟨a4, _⟩ _ => og (mv rfl (a4.trans rfl)), fun st mm ⟨a7, _⟩ _ => og (mv rfl (a7.trans rfl)), fun st mm ⟨a91, _⟩ _ => og (call0 (c_retrospectref16_Kind _ h593) ⟨⟨_, (a91.trans rfl), rn_id if_u8⟩, trivial⟩ (if_i64) rfl), fun st mm ⟨a0, _⟩ _ => og (mv rfl (a0.trans rfl)), fun st mm ⟨a6, _⟩ _ => og (mv rfl (a6.trans rfl)), fun st mm ⟨a6, _⟩ _ => og (mv rfl (a6.trans rfl)), fun st mm ⟨a95, _⟩ _ => og (addI rfl (a95.trans rfl) (kI (x := 1) rfl)), fun st mm ⟨a93, a94, a96, _⟩ _ => og (slS h595 Tryd.underlying9 rfl (a93.trans rfl) (bnd (a94.trans rfl)) (bnd (a96.trans rfl))), fun st mm ⟨a6, _⟩ _ => og (mv rfl (a6.trans rfl)), fun st mm ⟨a92, a97, a98, _⟩ _ => og (bld (l := [i64 r592, str y594, i64 s407.2.2]) pl_107 ti_107 zr_retrospectref16_Word ⟨_, _, _, (a92.trans rfl), rfl, rfl, rfl, (szk (k := 1) rfl rfl), ⟨_, _, _, (a97.trans rfl), rfl, rfl, rfl, (szk (k := 1) rfl rfl), ⟨_, _, _, (a98.trans rfl), rfl, rfl, rfl, (szk (k := 1) rfl rfl), rfl⟩⟩⟩ rfl), fun st mm ⟨a99, _⟩ ⟨g101, _⟩ => og (bsl (y := 101) (ls := List.map L_retrospectref16_Word ([(⟨r592, y594, s407.2.2⟩ : M_retrospectref16_Word)] : List M_retrospectref16_Word)) Tryd.underlying128 ti_107 rfl rfl rfl rfl rfl ⟨rfl, (a99.trans rfl), (by exact rfl), (by exact rfl), trivial⟩ (g101.trans rfl) rfl), fun st mm ⟨a90, a100, _⟩ ⟨g100, g101, g102, _⟩ => og (app (y := 102) (f := L_retrospectref16_Word) h597 (g100.trans rfl) Tryd.underlying128 ti_107 rfl rfl (a90.trans rfl) (a100.trans rfl) (.inr ⟨_, _, rfl, (g101.trans rfl)⟩) (g102.trans rfl) rfl), fun st mm ⟨a101, _⟩ _ => og (asg rfl (a101.trans rfl)), trivial⟩ ?_
                        refine pnm ?_
                        exact sj (hj559 _) (entR [(100, 102)] rfl (keepS hγ trivial) ⟨⟨_, rfl⟩, trivial⟩ ⟨⟨_, _, rfl, rfl, rci (rc_sl (ifs_map (f := L_retrospectref16_Word) (fun _ => if_L_retrospectref16_Word) y596))⟩, trivial⟩ ⟨⟨_, rfl, rn_id if_str⟩, ⟨_, rfl, rn_id if_sli⟩, ⟨_, rfl, rn_id if_i64⟩, ⟨_, rfl, rn_own rfl⟩, ⟨_, rfl, rn_id if_bl⟩, ⟨_, rfl, rn_id if_i64⟩, trivial⟩)
                  · intro s560
                    refine sseq ?_
                    refine sreg ?_
                    refine s1 (mv rfl rfl) ?_
                    refine s1 (mv rfl rfl) ?_
                    refine s1 (lenO (f := L_retrospectref16_Word) Tryd.underlying128 rfl rfl rfl) ?_
                    refine s1 (subI rfl rfl (kI (x := 1) rfl)) ?_
                    refine bd fun y598 h599 => ?_
                    refine s1 (ixO (f := L_retrospectref16_Word) rfl Tryd.underlying128 ti_107 h599 rfl rfl rfl) ?_
                    refine s1 (ldO (f := L_retrospectref16_Word) [] rfl (getI_ix h599) (by exact rfl) (by exact rfl) sh_107 (by exact rfl) (by exact rfl) rfl rfl) ?_
                    refine so (al (y := 103) (ly := L_retrospectref16_Word (⟨0, [], 0⟩ : M_retrospectref16_Word)) ti_107 zr_retrospectref16_Word rfl rfl) ?_
                    refine so (stB2 (ly2 := L_retrospectref16_Word y598) [] (by exact rfl) rfl (by exact rfl) sh_107 (by exact rfl) (by exact rfl) (by exact rfl) rfl (.inr ⟨rfl, rfl, _, _, rfl⟩) rfl) ?_
                    refine snil ?_
                    refine pnm ?_
                    refine sjq (fun (s605 : Bool) => [(0, str x0), (2, sli 3 (List.map L_retrospectref16_Word ([] : List M_retrospectref16_Word))), (3, i64 (0 : Int)), (4, .own 100), (5, bl s517), (6, i64 s407.2.2), (119, bl s605)]) (fun (s605 : Bool) => [(100, .sl 107 3 (List.map L_retrospectref16_Word s560))]) ?_ ?_
                    · intro j603 hj604
                      refine sif (fun hb606 => ?_) (fun hb606 => ?_)
                      · refine sdraw [⟨[9], [103], [(108, .ptr 103 0)], []⟩, ⟨[108], [103], [(109, i64 y598.Kind)], []⟩, ⟨[109], [], [(110, bl (decide (y598.Kind = (0 : Int))))], []⟩, ⟨[110], [], [(111, bl true)], []⟩, ⟨[111], [], [(112, .tup [])], []⟩, ⟨[111], [], [(113, .tup [])], []⟩, ⟨[111], [], [(114, .tup [])], []⟩, ⟨[111], [], [(115, .tup [])], []⟩, ⟨[111], [], [(116, .tup [])], []⟩, ⟨[111], [], [(117, .tup [])], []⟩, ⟨[111], [], [(118, .tup [])], []⟩, ⟨[111], [], [(119, bl true)], []⟩] fol (by kernel_rfl) ⟨fun st mm ⟨a9, _⟩ ⟨g103, _⟩ => og (faO (g103.trans rfl) fd_107_0 rfl (a9.trans rfl)), fun st mm ⟨a108, _⟩ ⟨g103, _⟩ => og (ldB [0] (g103.trans rfl) (by exact rfl) sh_3 (by exact rfl) (by exact rfl) rfl (a108.trans rfl) (.inl rfl)), fun st mm ⟨a109, _⟩ _ => og (eqI rfl (a109.trans rfl) (kI (x := 0) rfl)), fun st mm ⟨a110, _⟩ _ => og (okb hb606 (mv rfl (a110.trans rfl))), fun st mm ⟨a111, _⟩ _ => ogB 111 rfl (a111.trans rfl) rfl, fun st mm ⟨a111, _⟩ _ => ogB 111 rfl (a111.trans rfl) rfl, fun st mm ⟨a111, _⟩ _ => ogB 111 rfl (a111.trans rfl) rfl, fun st mm ⟨a111, _⟩ _ => ogB 111 rfl (a111.trans rfl) rfl, fun st mm ⟨a111, _⟩ _ => ogB 111 rfl (a111.trans rfl) rfl, fun st mm ⟨a111, _⟩ _ => ogB 111 rfl (a111.trans rfl) rfl, fun st mm ⟨a111, _⟩ _ => ogB 111 rfl (a111.trans rfl) rfl, fun st mm ⟨a111, _⟩ _ => og (pickT rfl (a111.trans rfl) kB), trivial⟩ ?_
                        refine pnm ?_
                        exact sj (hj604 _) (entR [(100, 100)] rfl (keepS hγ trivial) ⟨⟨_, rfl⟩, trivial⟩ ⟨⟨_, _, rfl, rfl, rci (rc_sl (ifs_map (f := L_retrospectref16_Word) (fun _ => if_L_retrospectref16_Word) s560))⟩, trivial⟩ ⟨⟨_, rfl, rn_id if_str⟩, ⟨_, rfl, rn_id if_sli⟩, ⟨_, rfl, rn_id if_i64⟩, ⟨_, rfl, rn_own rfl⟩, ⟨_, rfl, rn_id if_bl⟩, ⟨_, rfl, rn_id if_i64⟩, ⟨_, rfl, rn_id if_bl⟩, trivial⟩)
                      · refine bd fun r607 h608 => ?_
                        refine sdraw [⟨[9], [103], [(108, .ptr 103 0)], []⟩, ⟨[108], [103], [(109, i64 y598.Kind)], []⟩, ⟨[109], [], [(110, bl (decide (y598.Kind = (0 : Int))))], []⟩, ⟨[110], [], [(111, bl false)], []⟩, ⟨[111, 9], [103], [(112, .ptr 103 1)], []⟩, ⟨[111, 112], [103], [(113, str y598.Text)], []⟩, ⟨[111, 113], [], [(114, i64 (y598.Text.length : Int))], []⟩, ⟨[111, 9], [103], [(115, .ptr 103 0)], []⟩, ⟨[111, 115], [103], [(116, i64 y598.Kind)], []⟩, ⟨[111, 116], [], [(117, i64 r607)], []⟩, ⟨[111, 114, 117], [], [(118, bl (decide (r607 < (y598.Text.length : Int))))], []⟩, ⟨[111, 118], [], [(119, bl (decide (r607 < (y598.Text.length : Int))))], []⟩] fol (by kernel_rfl) ⟨fun st mm ⟨a9, _⟩ ⟨g103, _⟩ => og (faO (g103.trans rfl) fd_107_0 rfl (a9.trans rfl)), fun st mm ⟨a108, _⟩ ⟨g103, _⟩ => og (ldB [0] (g103.trans rfl) (by exact rfl) sh_3 (by exact rfl) (by exact rfl) rfl (a108.trans rfl) (.inl rfl)), fun st mm ⟨a109, _⟩ _ => og (eqI rfl (a109.trans rfl) (kI (x := 0) rfl)), fun st mm ⟨a110, _⟩ _ => og (okb hb606 (mv rfl (a110.trans rfl))), fun st mm ⟨a111, a9, _⟩ ⟨g103, _⟩ => ogG 111 rfl (a111.trans rfl) (faO (g103.trans rfl) fd_107_1 rfl (a9.trans rfl)), fun st mm ⟨a111, a112, _⟩ ⟨g103, _⟩ => ogG 111 rfl (a111.trans rfl) (ldB [1] (g103.trans rfl) (by exact rfl) sh_9 (by exact rfl) (by exact rfl) rfl (a112.trans rfl) (.inl rfl)), fun st mm ⟨a111, a113, _⟩ _ => ogG 111 rfl (a111.trans rfl) (lenS Tryd.underlying9 rfl (a113.trans rfl)), fun st mm ⟨a111, a9, _⟩ ⟨g103, _⟩ => ogG 111 rfl (a111.trans rfl) (faO (g103.trans rfl) fd_107_0 rfl (a9.trans rfl)), fun st mm ⟨a111, a115, _⟩ ⟨g103, _⟩ => ogG 111 rfl (a111.trans rfl) (ldB [0] (g103.trans rfl) (by exact rfl) sh_3 (by exact rfl) (by exact rfl) rfl (a115.trans rfl) (.inl rfl)), fun st mm ⟨a111, a116, _⟩ _ => ogG 111 rfl (a111.trans rfl) (call0 (c_retrospectref16_Most _ h608) ⟨⟨_, (a116.trans rfl), rn_id if_i64⟩, trivial⟩ (if_i64) rfl), fun st mm ⟨a111, a114, a117, _⟩ _ => ogG 111 rfl (a111.trans rfl) (gtI rfl (a114.trans rfl) (a117.trans rfl)), fun st mm ⟨a111, a118, _⟩ _ => og (pickF rfl (a111.trans rfl) (a118.trans rfl)), trivial⟩ ?_
                        refine pnm ?_
                        exact sj (hj604 _) (entR [(100, 100)] rfl (keepS hγ trivial) ⟨⟨_, rfl⟩, trivial⟩ ⟨⟨_, _, rfl, rfl, rci (rc_sl (ifs_map (f := L_retrospectref16_Word) (fun _ => if_L_retrospectref16_Word) s560))⟩, trivial⟩ ⟨⟨_, rfl, rn_id if_str⟩, ⟨_, rfl, rn_id if_sli⟩, ⟨_, rfl, rn_id if_i64⟩, ⟨_, rfl, rn_own rfl⟩, ⟨_, rfl, rn_id if_bl⟩, ⟨_, rfl, rn_id if_i64⟩, ⟨_, rfl, rn_id if_bl⟩, trivial⟩)
                    · intro s605
                      refine scond rfl ?_ ?_
                      · refine sseq ?_
                        refine sreg ?_
                        refine so (bsl (y := 104) (ls := List.map L_retrospectref16_Word ([] : List M_retrospectref16_Word)) Tryd.underlying128 ti_107 rfl rfl rfl rfl rfl trivial rfl rfl) ?_
                        refine s1 (mv rfl rfl) ?_
                        refine s1 (asg rfl rfl) ?_
                        refine s1 (asg rfl rfl) ?_
                        refine snil ?_
                        refine pnm ?_
                        refine sret ?_
                        refine pbl ?_
                        refine pth ?_
                        refine sout (fun h => by cases h) ?_
                        refine pbl ?_
                        refine pth ?_
                        refine frz (id := 104) [(2, sli 3 (List.map L_retrospectref16_Word ([] : List M_retrospectref16_Word))), (120, sli 3 (List.map L_retrospectref16_Word ([] : List M_retrospectref16_Word)))] [] rfl (ifs_map (f := L_retrospectref16_Word) (fun _ => if_L_retrospectref16_Word) ([] : List M_retrospectref16_Word)) ⟨⟨_, rfl, fz_own⟩, ⟨_, rfl, fz_own⟩, trivial⟩ trivial ?_
                        exact ret [] [.tmp 2, .tmp 3] [_, _] [_, _] .ret hγ (.inl rfl) rfl ⟨rfl, rfl, trivial⟩ rfl trivial trivial trivial (rns_cons (rn_id if_sli) (rns_cons (rn_id if_i64) (rns_nil))) rfl
                      · refine sskip ?_
                        refine pbn ?_
                        refine pnm ?_
                        exact sj (hj508 _) (entR [(100, 100)] rfl (keepS hγ trivial) ⟨⟨_, rfl⟩, trivial⟩ ⟨⟨_, _, rfl, rfl, rci (rc_sl (ifs_map (f := L_retrospectref16_Word) (fun _ => if_L_retrospectref16_Word) s560))⟩, trivial⟩ ⟨⟨_, rfl, rn_id if_str⟩, ⟨_, rfl, rn_id if_sli⟩, ⟨_, rfl, rn_id if_i64⟩, ⟨_, rfl, rn_own rfl⟩, ⟨_, rfl, rn_id if_bl⟩, ⟨_, rfl, rn_id if_i64⟩, trivial⟩)
        · intro s509
          refine sreg ?_
          refine s1 (mv rfl rfl) ?_
          refine s1 (addI rfl rfl (kI (x := 1) rfl)) ?_
          refine s1 (asg rfl rfl) ?_
          refine snil ?_
          exact sgo (entR [(100, 100)] rfl (keepS hγ trivial) ⟨⟨_, rfl⟩, trivial⟩ ⟨⟨_, _, rfl, rfl, rci (rc_sl (ifs_map (f := L_retrospectref16_Word) (fun _ => if_L_retrospectref16_Word) s509.1))⟩, trivial⟩ ⟨⟨_, rfl, rn_id if_str⟩, ⟨_, rfl, rn_id if_sli⟩, ⟨_, rfl, rn_id if_i64⟩, ⟨_, rfl, rn_own rfl⟩, ⟨_, rfl, rn_id if_bl⟩, ⟨_, rfl, rn_id if_i64⟩, trivial⟩)
      · refine sexit ?_
        refine ptx ?_
        exact sout (fun h => by cases h) (sj (hj406 _) (entR [(100, 100)] rfl (keepS hγ trivial) ⟨⟨_, rfl⟩, trivial⟩ ⟨⟨_, _, rfl, rfl, rci (rc_sl (ifs_map (f := L_retrospectref16_Word) (fun _ => if_L_retrospectref16_Word) s407.1))⟩, trivial⟩ ⟨⟨_, rfl, rn_id if_sli⟩, ⟨_, rfl, rn_id if_i64⟩, ⟨_, rfl, rn_own rfl⟩, trivial⟩))
    · intro t405
      refine slpk ?_
      refine sx ?_
      refine pnm ?_
      refine sseq ?_
      refine sreg ?_
      refine s1 (mv rfl rfl) ?_
      refine s1 (asg rfl rfl) ?_
      refine s1 (asg rfl (kI (x := (-1)) rfl)) ?_
      refine snil ?_
      refine pnm ?_
      refine sret ?_
      refine frz (id := 100) [(2, sli 3 (List.map L_retrospectref16_Word t405)), (4, sli 3 (List.map L_retrospectref16_Word t405)), (122, sli 3 (List.map L_retrospectref16_Word t405))] [] rfl (ifs_map (f := L_retrospectref16_Word) (fun _ => if_L_retrospectref16_Word) t405) ⟨⟨_, rfl, fz_own⟩, ⟨_, rfl, fz_own⟩, ⟨_, rfl, fz_own⟩, trivial⟩ trivial ?_
      exact ret [] [.tmp 2, .tmp 3] [_, _] [_, _] .ret hγ (.inl rfl) rfl ⟨rfl, rfl, trivial⟩ rfl trivial trivial trivial (rns_cons (rn_id if_sli) (rns_cons (rn_id if_i64) (rns_nil))) rfl
theorem c_retrospectref16_Right {n : Nat} {x0 : M_retrospectref16_Word} : ∀ r, m_retrospectref16_Right n x0 = some r → FnOk Tryd.prog 63 [L_retrospectref16_Word x0] [] (bl r) [] := by
  unfold m_retrospectref16_Right
  refine fn_of_sq (res := fun (r : Bool) => bl r) (mo := fun (r : Bool) => []) Tryd.func63 rfl rfl (by kernel_rfl) rfl ?_
  intro w S0 γ hγ
  refine sseq ?_
  refine sreg ?_
  refine so (box (y := 100) (by exact rfl) rfl rfl rfl) ?_
  refine s1 (asg rfl kB) ?_
  refine snil ?_
  refine pnm ?_
  refine sseq ?_
  refine sreg ?_
  refine s1 (faO rfl fd_107_1 rfl rfl) ?_
  refine s1 (ldB [1] rfl (by exact rfl) sh_9 (by exact rfl) (by exact rfl) rfl rfl (.inl rfl)) ?_
  refine bd fun r1 h2 => ?_
  refine s1 (call0 (c_retrospectref16_Scan _ h2) ⟨⟨_, rfl, rn_id if_str⟩, trivial⟩ (if_tup (ifs_cons if_sli (ifs_cons if_i64 (ifs_nil)))) rfl) ?_
  refine s1 (mv rfl rfl) ?_
  refine s1 (ext (by exact rfl) rfl rfl) ?_
  refine s1 (ext (by exact rfl) rfl rfl) ?_
  refine s1 (asg rfl rfl) ?_
  refine s1 (asg rfl rfl) ?_
  refine snil ?_
  refine pnm ?_
  refine sjq (fun (s12 : Bool) => [(2, bl s12)]) (fun (s12 : Bool) => []) ?_ ?_
  · intro j10 hj11
    refine sif (fun hb13 => ?_) (fun hb13 => ?_)
    · refine sif (fun hb14 => ?_) (fun hb14 => ?_)
      · refine bd fun y15 h16 => ?_
        refine sif (fun hb17 => ?_) (fun hb17 => ?_)
        · refine bd fun y18 h19 => ?_
          refine sdraw [⟨[4], [], [(11, i64 r1.2)], []⟩, ⟨[11], [], [(12, bl (decide (r1.2 < (0 : Int))))], []⟩, ⟨[12], [], [(13, bl true)], []⟩, ⟨[13, 3], [], [(14, sli 3 (List.map L_retrospectref16_Word r1.1))], []⟩, ⟨[13, 14], [], [(15, i64 (r1.1.length : Int))], []⟩, ⟨[13, 15], [], [(16, bl (decide ((r1.1.length : Int) = (1 : Int))))], []⟩, ⟨[13, 16], [], [(17, bl (decide ((r1.1.length : Int) = (1 : Int))))], []⟩, ⟨[17], [], [(18, bl true)], []⟩, ⟨[18, 3], [], [(19, sli 3 (List.map L_retrospectref16_Word r1.1))], []⟩, ⟨[18, 19], [], [(20, .ref (L_retrospectref16_Word y15))], []⟩, ⟨[18, 20], [], [(21, .ref (i64 y15.Kind))], []⟩, ⟨[18, 21], [], [(22, i64 y15.Kind)], []⟩, ⟨[18, 1], [100], [(23, .ptr 100 0)], []⟩, ⟨[18, 23], [100], [(24, i64 x0.Kind)], []⟩, ⟨[18, 22, 24], [], [(25, bl (decide (y15.Kind = x0.Kind)))], []⟩, ⟨[18, 25], [], [(26, bl (decide (y15.Kind = x0.Kind)))], []⟩, ⟨[26], [], [(27, bl true)], []⟩, ⟨[27, 3], [], [(28, sli 3 (List.map L_retrospectref16_Word r1.1))], []⟩, ⟨[27, 28], [], [(29, .ref (L_retrospectref16_Word y18))], []⟩, ⟨[27, 29], [], [(30, .ref (str y18.Text))], []⟩, ⟨[27, 30], [], [(31, str y18.Text)], []⟩, ⟨[27, 1], [100], [(32, .ptr 100 1)], []⟩, ⟨[27, 32], [100], [(33, str x0.Text)], []⟩, ⟨[27, 31, 33], [], [(34, bl (decide (y18.Text = x0.Text)))], []⟩, ⟨[27, 34], [], [(35, bl (decide (y18.Text = x0.Text)))], []⟩, ⟨[35], [], [(2, bl (decide (y18.Text = x0.Text)))], []⟩] fol (by kernel_rfl) ⟨fun st mm ⟨a4, _⟩ _ => og (mv rfl (a4.trans rfl)), fun st mm ⟨a11, _⟩ _ => og (ltI rfl (a11.trans rfl) (kI (x := 0) rfl)), fun st mm ⟨a12, _⟩ _ => og (okb hb13 (mv rfl (a12.trans rfl))), fun st mm ⟨a13, a3, _⟩ _ => ogG 13 rfl (a13.trans rfl) (mv rfl (a3.trans rfl)), fun st mm ⟨a13, a14, _⟩ _ => ogG 13 rfl (a13.trans rfl) (lenL (f := L_retrospectref16_Word) Tryd.underlying128 rfl (a14.trans rfl)), fun st mm ⟨a13, a15, _⟩ _ => ogG 13 rfl (a13.trans rfl) (eqI rfl (a15.trans rfl) (kI (x := 1) rfl)), fun st mm ⟨a13, a16, _⟩ _ => og (pickT rfl (a13.trans rfl) (a16.trans rfl)), fun st mm ⟨a17, _⟩ _ => og (okb hb14 (mv rfl (a17.trans rfl))), fun st mm ⟨a18, a3, _⟩ _ => ogG 18 rfl (a18.trans rfl) (mv rfl (a3.trans rfl)), fun st mm ⟨a18, a19, _⟩ _ => ogG 18 rfl (a18.trans rfl) (ixR (f := L_retrospectref16_Word) Tryd.underlying128 ti_107 h16 rfl (a19.trans rfl) (kI (x := 0) rfl)), fun st mm ⟨a18, a20, _⟩ _ => ogG 18 rfl (a18.trans rfl) (faR fd_107_0 (by exact rfl) rfl (a20.trans rfl)), fun st mm ⟨a18, a21, _⟩ _ => ogG 18 rfl (a18.trans rfl) (ldR sh_3 (by exact rfl) (by exact rfl) rfl (a21.trans rfl)), fun st mm ⟨a18, a1, _⟩ ⟨g100, _⟩ => ogG 18 rfl (a18.trans rfl) (faO (g100.trans rfl) fd_107_0 rfl (a1.trans rfl)), fun st mm ⟨a18, a23, _⟩ ⟨g100, _⟩ => ogG 18 rfl (a18.trans rfl) (ldB [0] (g100.trans rfl) (by exact rfl) sh_3 (by exact rfl) (by exact rfl) rfl (a23.trans rfl) (.inl rfl)), fun st mm ⟨a18, a22, a24, _⟩ _ => ogG 18 rfl (a18.trans rfl) (eqI rfl (a22.trans rfl) (a24.trans rfl)), fun st mm ⟨a18, a25, _⟩ _ => og (pickT rfl (a18.trans rfl) (a25.trans rfl)), fun st mm ⟨a26, _⟩ _ => og (okb hb17 (mv rfl (a26.trans rfl))), fun st mm ⟨a27, a3, _⟩ _ => ogG 27 rfl (a27.trans rfl) (mv rfl (a3.trans rfl)), fun st mm ⟨a27, a28, _⟩ _ => ogG 27 rfl (a27.trans rfl) (ixR (f := L_retrospectref16_Word) Tryd.underlying128 ti_107 h19 rfl (a28.trans rfl) (kI (x := 0) rfl)), fun st mm ⟨a27, a29, _⟩ _ => ogG 27 rfl (a27.trans rfl) (faR fd_107_1 (by exact rfl) rfl (a29.trans rfl)), fun st mm ⟨a27, a30, _⟩ _ => ogG 27 rfl (a27.trans rfl) (ldR sh_9 (by exact rfl) (by exact rfl) rfl (a30.trans rfl)), fun st mm ⟨a27, a1, _⟩ ⟨g100, _⟩ => ogG 27 rfl (a27.trans rfl) (faO (g100.trans rfl) fd_107_1 rfl (a1.trans rfl)), fun st mm ⟨a27, a32, _⟩ ⟨g100, _⟩ => ogG 27 rfl (a27.trans rfl) (ldB [1] (g100.trans rfl) (by exact rfl) sh_9 (by exact rfl) (by exact rfl) rfl (a32.trans rfl) (.inl rfl)), fun st mm ⟨a27, a31, a33, _⟩ _ => ogG 27 rfl (a27.trans rfl) (eqS rfl (a31.trans rfl) (a33.trans rfl)), fun st mm ⟨a27, a34, _⟩ _ => og (pickT rfl (a27.trans rfl) (a34.trans rfl)), fun st mm ⟨a35, _⟩ _ => og (asg rfl (a35.trans rfl)), trivial⟩ ?_
          refine pnm ?_
          exact sj (hj11 _) (entR [] rfl (keepS hγ trivial) (by exact trivial) (by exact trivial) ⟨⟨_, rfl, rn_id if_bl⟩, trivial⟩)
        · refine sdraw [⟨[4], [], [(11, i64 r1.2)], []⟩, ⟨[11], [], [(12, bl (decide (r1.2 < (0 : Int))))], []⟩, ⟨[12], [], [(13, bl true)], []⟩, ⟨[13, 3], [], [(14, sli 3 (List.map L_retrospectref16_Word r1.1))], []⟩, ⟨[13, 14], [], [(15, i64 (r1.1.length : Int))], []⟩, ⟨[13, 15], [], [(16, bl (decide ((r1.1.length : Int) = (1 : Int))))], []⟩, ⟨[13, 16], [], [(17, bl (decide ((r1.1.length : Int) = (1 : Int))))], []⟩, ⟨[17], [], [(18, bl true)], []⟩, ⟨[18, 3], [], [(19, sli 3 (List.map L_retrospectref16_Word r1.1))], []⟩, ⟨[18, 19], [], [(20, .ref (L_retrospectref16_Word y15))], []⟩, ⟨[18, 20], [], [(21, .ref (i64 y15.Kind))], []⟩, ⟨[18, 21], [], [(22, i64 y15.Kind)], []⟩, ⟨[18, 1], [100], [(23, .ptr 100 0)], []⟩, ⟨[18, 23], [100], [(24, i64 x0.Kind)], []⟩, ⟨[18, 22, 24], [], [(25, bl (decide (y15.Kind = x0.Kind)))], []⟩, ⟨[18, 25], [], [(26, bl (decide (y15.Kind = x0.Kind)))], []⟩, ⟨[26], [], [(27, bl false)], []⟩, ⟨[27], [], [(28, .tup [])], []⟩, ⟨[27], [], [(29, .tup [])], []⟩, ⟨[27], [], [(30, .tup [])], []⟩, ⟨[27], [], [(31, .tup [])], []⟩, ⟨[27], [], [(32, .tup [])], []⟩, ⟨[27], [], [(33, .tup [])], []⟩, ⟨[27], [], [(34, .tup [])], []⟩, ⟨[27], [], [(35, bl false)], []⟩, ⟨[35], [], [(2, bl false)], []⟩] fol (by kernel_rfl) ⟨fun st mm ⟨a4, _⟩ _ => og (mv rfl (a4.trans rfl)), fun st mm ⟨a11, _⟩ _ => og (ltI rfl (a11.trans rfl) (kI (x := 0) rfl)), fun st mm ⟨a12, _⟩ _ => og (okb hb13 (mv rfl (a12.trans rfl))), fun st mm ⟨a13, a3, _⟩ _ => ogG 13 rfl (a13.trans rfl) (mv rfl (a3.trans rfl)), fun st mm ⟨a13, a14, _⟩ _ => ogG 13 rfl (a13.trans rfl) (lenL (f := L_retrospectref16_Word) Tryd.underlying128 rfl (a14.trans rfl)), fun st mm ⟨a13, a15, _⟩ _ => ogG 13 rfl (a13.trans rfl) (eqI rfl (a15.trans rfl) (kI (x := 1) rfl)), fun st mm ⟨a13, a16, _⟩ _ => og (pickT rfl (a13.trans rfl) (a16.trans rfl)), fun st mm ⟨a17, _⟩ _ => og (okb hb14 (mv rfl (a17.trans rfl))), fun st mm ⟨a18, a3, _⟩ _ => ogG 18 rfl (a18.trans rfl) (mv rfl (a3.trans rfl)), fun st mm ⟨a18, a19, _⟩ _ => ogG 18 rfl (a18.trans rfl) (ixR (f := L_retrospectref16_Word) Tryd.underlying128 ti_107 h16 rfl (a19.trans rfl) (kI (x := 0) rfl)), fun st mm ⟨a18, a20, _⟩ _ => ogG 18 rfl (a18.trans rfl) (faR fd_107_0 (by exact rfl) rfl (a20.trans rfl)), fun st mm ⟨a18, a21, _⟩ _ => ogG 18 rfl (a18.trans rfl) (ldR sh_3 (by exact rfl) (by exact rfl) rfl (a21.trans rfl)), fun st mm ⟨a18, a1, _⟩ ⟨g100, _⟩ => ogG 18 rfl (a18.trans rfl) (faO (g100.trans rfl) fd_107_0 rfl (a1.trans rfl)), fun st mm ⟨a18, a23, _⟩ ⟨g100, _⟩ => ogG 18 rfl (a18.trans rfl) (ldB [0] (g100.trans rfl) (by exact rfl) sh_3 (by exact rfl) (by exact rfl) rfl (a23.trans rfl) (.inl rfl)), fun st mm ⟨a18, a22, a24, _⟩ _ => ogG 18 rfl (a18.trans rfl) (eqI rfl (a22.trans rfl) (a24.trans rfl)), fun st mm ⟨a18, a25, _⟩ _ => og (pickT rfl (a18.trans rfl) (a25.trans rfl)), fun st mm ⟨a26, _⟩ _ => og (okb hb17 (mv rfl (a26.trans rfl))), fun st mm ⟨a27, _⟩ _ => ogB 27 rfl (a27.trans rfl) rfl, fun st mm ⟨a27, _⟩ _ => ogB 27 rfl (a27.trans rfl) rfl, fun st mm ⟨a27, _⟩ _ => ogB 27 rfl (a27.trans rfl) rfl, fun st mm ⟨a27, _⟩ _ => ogB 27 rfl (a27.trans rfl) rfl, fun st mm ⟨a27, _⟩ _ => ogB 27 rfl (a27.trans rfl) rfl, fun st mm ⟨a27, _⟩ _ => ogB 27 rfl (a27.trans rfl) rfl, fun st mm ⟨a27, _⟩ _ => ogB 27 rfl (a27.trans rfl) rfl, fun st mm ⟨a27, _⟩ _ => og (pickF rfl (a27.trans rfl) kB), fun st mm ⟨a35, _⟩ _ => og (asg rfl (a35.trans rfl)), trivial⟩ ?_
          refine pnm ?_
          exact sj (hj11 _) (entR [] rfl (keepS hγ trivial) (by exact trivial) (by exact trivial) ⟨⟨_, rfl, rn_id if_bl⟩, trivial⟩)
      · refine sdraw [⟨[4], [], [(11, i64 r1.2)], []⟩, ⟨[11], [], [(12, bl (decide (r1.2 < (0 : Int))))], []⟩, ⟨[12], [], [(13, bl true)], []⟩, ⟨[13, 3], [], [(14, sli 3 (List.map L_retrospectref16_Word r1.1))], []⟩, ⟨[13, 14], [], [(15, i64 (r1.1.length : Int))], []⟩, ⟨[13, 15], [], [(16, bl (decide ((r1.1.length : Int) = (1 : Int))))], []⟩, ⟨[13, 16], [], [(17, bl (decide ((r1.1.length : Int) = (1 : Int))))], []⟩, ⟨[17], [], [(18, bl false)], []⟩, ⟨[18], [], [(19, .tup [])], []⟩, ⟨[18], [], [(20, .tup [])], []⟩, ⟨[18], [], [(21, .tup [])], []⟩, ⟨[18], [], [(22, .tup [])], []⟩, ⟨[18], [], [(23, .tup [])], []⟩, ⟨[18], [], [(24, .tup [])], []⟩, ⟨[18], [], [(25, .tup [])], []⟩, ⟨[18], [], [(26, bl false)], []⟩, ⟨[26], [], [(27, bl false)], []⟩, ⟨[27], [], [(28, .tup [])], []⟩, ⟨[27], [], [(29, .tup [])], []⟩, ⟨[27], [], [(30, .tup [])], []⟩, ⟨[27], [], [(31, .tup [])], []⟩, ⟨[27], [], [(32, .tup [])], []⟩, ⟨[27], [], [(33, .tup [])], []⟩, ⟨[27], [], [(34, .tup [])], []⟩, ⟨[27], [], [(35, bl false)], []⟩, ⟨[35], [], [(2, bl false)], []⟩] fol (by kernel_rfl) ⟨fun st mm ⟨a4, _⟩ _ => og (mv rfl (a4.trans rfl)), fun st mm ⟨a11, _⟩ _ => og (ltI rfl (a11.trans rfl) (kI (x := 0) rfl)), fun st mm ⟨a12, _⟩ _ => og (okb hb13 (mv rfl (a12.trans rfl))), fun st mm ⟨a13, a3, _⟩ _ => ogG 13 rfl (a13.trans rfl) (mv rfl (a3.trans rfl)), fun st mm ⟨a13, a14, _⟩ _ => ogG 13 rfl (a13.trans rfl) (lenL (f := L_retrospectref16_Word) Tryd.underlying128 rfl (a14.trans rfl)), fun st mm ⟨a13, a15, _⟩ _ => ogG 13 rfl (a13.trans rfl) (eqI rfl (a15.trans rfl) (kI (x := 1) rfl)), fun st mm ⟨a13, a16, _⟩ _ => og (pickT rfl (a13.trans rfl) (a16.trans rfl)), fun st mm ⟨a17, _⟩ _ => og (okb hb14 (mv rfl (a17.trans rfl))), fun st mm ⟨a18, _⟩ _ => ogB 18 rfl (a18.trans rfl) rfl, fun st mm ⟨a18, _⟩ _ => ogB 18 rfl (a18.trans rfl) rfl, fun st mm ⟨a18, _⟩ _ => ogB 18 rfl (a18.trans rfl) rfl, fun st mm ⟨a18, _⟩ _ => ogB 18 rfl (a18.trans rfl) rfl, fun st mm ⟨a18, _⟩ _ => ogB 18 rfl (a18.trans rfl) rfl, fun st mm ⟨a18, _⟩ _ => ogB 18 rfl (a18.trans rfl) rfl, fun st mm ⟨a18, _⟩ _ => ogB 18 rfl (a18.trans rfl) rfl, fun st mm ⟨a18, _⟩ _ => og (pickF rfl (a18.trans rfl) kB), fun st mm ⟨a26, _⟩ _ => og (mv rfl (a26.trans rfl)), fun st mm ⟨a27, _⟩ _ => ogB 27 rfl (a27.trans rfl) rfl, fun st mm ⟨a27, _⟩ _ => ogB 27 rfl (a27.trans rfl) rfl, fun st mm ⟨a27, _⟩ _ => ogB 27 rfl (a27.trans rfl) rfl, fun st mm ⟨a27, _⟩ _ => ogB 27 rfl (a27.trans rfl) rfl, fun st mm ⟨a27, _⟩ _ => ogB 27 rfl (a27.trans rfl) rfl, fun st mm ⟨a27, _⟩ _ => ogB 27 rfl (a27.trans rfl) rfl, fun st mm ⟨a27, _⟩ _ => ogB 27 rfl (a27.trans rfl) rfl, fun st mm ⟨a27, _⟩ _ => og (pickF rfl (a27.trans rfl) kB), fun st mm ⟨a35, _⟩ _ => og (asg rfl (a35.trans rfl)), trivial⟩ ?_
        refine pnm ?_
        exact sj (hj11 _) (entR [] rfl (keepS hγ trivial) (by exact trivial) (by exact trivial) ⟨⟨_, rfl, rn_id if_bl⟩, trivial⟩)
    · refine sdraw [⟨[4], [], [(11, i64 r1.2)], []⟩, ⟨[11], [], [(12, bl (decide (r1.2 < (0 : Int))))], []⟩, ⟨[12], [], [(13, bl false)], []⟩, ⟨[13], [], [(14, .tup [])], []⟩, ⟨[13], [], [(15, .tup [])], []⟩, ⟨[13], [], [(16, .tup [])], []⟩, ⟨[13], [], [(17, bl false)], []⟩, ⟨[17], [], [(18, bl false)], []⟩, ⟨[18], [], [(19, .tup [])], []⟩, ⟨[18], [], [(20, .tup [])], []⟩, ⟨[18], [], [(21, .tup [])], []⟩, ⟨[18], [], [(22, .tup [])], []⟩, ⟨[18], [], [(23, .tup [])], []⟩, ⟨[18], [], [(24, .tup [])], []⟩, ⟨[18], [], [(25, .tup [])], []⟩, ⟨[18], [], [(26, bl false)], []⟩, ⟨[26], [], [(27, bl false)], []⟩, ⟨[27], [], [(28, .tup [])], []⟩, ⟨[27], [], [(29, .tup [])], []⟩, ⟨[27], [], [(30, .tup [])], []⟩, ⟨[27], [], [(31, .tup [])], []⟩, ⟨[27], [], [(32, .tup [])], []⟩, ⟨[27], [], [(33, .tup [])], []⟩, ⟨[27], [], [(34, .tup [])], []⟩, ⟨[27], [], [(35, bl false)], []⟩, ⟨[35], [], [(2, bl false)], []⟩] fol (by kernel_rfl) ⟨fun st mm ⟨a4, _⟩ _ => og (mv rfl (a4.trans rfl)), fun st mm ⟨a11, _⟩ _ => og (ltI rfl (a11.trans rfl) (kI (x := 0) rfl)), fun st mm ⟨a12, _⟩ _ => og (okb hb13 (mv rfl (a12.trans rfl))), fun st mm ⟨a13, _⟩ _ => ogB 13 rfl (a13.trans rfl) rfl, fun st mm ⟨a13, _⟩ _ => ogB 13 rfl (a13.trans rfl) rfl, fun st mm ⟨a13, _⟩ _ => ogB 13 rfl (a13.trans rfl) rfl, fun st mm ⟨a13, _⟩ _ => og (pickF rfl (a13.trans rfl) kB), fun st mm ⟨a17, _⟩ _ => og (mv rfl (a17.trans rfl)), fun st mm ⟨a18, _⟩ _ => ogB 18 rfl (a18.trans rfl) rfl, fun st mm ⟨a18, _⟩ _ => ogB 18 rfl (a18.trans rfl) rfl, fun st mm ⟨a18, _⟩ _ => ogB 18 rfl (a18.trans rfl) rfl, fun st mm ⟨a18, _⟩ _ => ogB 18 rfl (a18.trans rfl) rfl, fun st mm ⟨a18, _⟩ _ => ogB 18 rfl (a18.trans rfl) rfl, fun st mm ⟨a18, _⟩ _ => ogB 18 rfl (a18.trans rfl) rfl, fun st mm ⟨a18, _⟩ _ => ogB 18 rfl (a18.trans rfl) rfl, fun st mm ⟨a18, _⟩ _ => og (pickF rfl (a18.trans rfl) kB), fun st mm ⟨a26, _⟩ _ => og (mv rfl (a26.trans rfl)), fun st mm ⟨a27, _⟩ _ => ogB 27 rfl (a27.trans rfl) rfl, fun st mm ⟨a27, _⟩ _ => ogB 27 rfl (a27.trans rfl) rfl, fun st mm ⟨a27, _⟩ _ => ogB 27 rfl (a27.trans rfl) rfl, fun st mm ⟨a27, _⟩ _ => ogB 27 rfl (a27.trans rfl) rfl, fun st mm ⟨a27, _⟩ _ => ogB 27 rfl (a27.trans rfl) rfl, fun st mm ⟨a27, _⟩ _ => ogB 27 rfl (a27.trans rfl) rfl, fun st mm ⟨a27, _⟩ _ => ogB 27 rfl (a27.trans rfl) rfl, fun st mm ⟨a27, _⟩ _ => og (pickF rfl (a27.trans rfl) kB), fun st mm ⟨a35, _⟩ _ => og (asg rfl (a35.trans rfl)), trivial⟩ ?_
      refine pnm ?_
      exact sj (hj11 _) (entR [] rfl (keepS hγ trivial) (by exact trivial) (by exact trivial) ⟨⟨_, rfl, rn_id if_bl⟩, trivial⟩)
  · intro s12
    refine sret ?_
    exact ret [] [.tmp 2] [_] [_] .ret hγ (.inl rfl) rfl ⟨rfl, trivial⟩ rfl trivial trivial trivial (rns_cons (rn_id if_bl) (rns_nil)) rfl
theorem c_retrospectref19_Name {n : Nat} {x0 : (List UInt8)} : ∀ r, m_retrospectref19_Name n x0 = some r → FnOk Tryd.prog 32 [str x0] [] (bl r) [] := by
  unfold m_retrospectref19_Name
  refine fn_of_sq (res := fun (r : Bool) => bl r) (mo := fun (r : Bool) => []) Tryd.func32 rfl rfl (by kernel_rfl) rfl ?_
  intro w S0 γ hγ
  refine sseq ?_
  refine sreg ?_
  refine s1 (asg rfl kB) ?_
  refine snil ?_
  refine pnm ?_
  refine sjq (fun (s5 : Bool) => [(2, bl s5)]) (fun (s5 : Bool) => []) ?_ ?_
  · intro j3 hj4
    refine sreg ?_
    refine s1 (mv rfl rfl) ?_
    refine s1 (bld (l := [i64 (2 : Int), str x0, i64 0]) pl_107 ti_107 zr_retrospectref16_Word ⟨_, _, _, (kI (x := 2) rfl), rfl, rfl, rfl, (szk (k := 1) rfl rfl), ⟨_, _, _, rfl, rfl, rfl, rfl, (szk (k := 1) rfl rfl), rfl⟩⟩ rfl) ?_
    refine bd fun r6 h7 => ?_
    refine s1 (call0 (c_retrospectref16_Right _ h7) ⟨⟨_, rfl, rn_id if_L_retrospectref16_Word⟩, trivial⟩ (if_bl) rfl) ?_
    refine s1 (mv rfl rfl) ?_
    refine sifd 6 rfl ?_ ?_
    · refine sg 6 rfl rfl (mv rfl rfl) ?_
      refine sg 6 rfl rfl (neS rfl rfl (kS (s := [116]) rfl)) ?_
      refine s1 (pickT rfl rfl rfl) ?_
      refine s1 (mv rfl rfl) ?_
      refine sifd 10 rfl ?_ ?_
      · refine sg 10 rfl rfl (mv rfl rfl) ?_
        refine sg 10 rfl rfl (neS rfl rfl (kS (s := [121]) rfl)) ?_
        refine s1 (pickT rfl rfl rfl) ?_
        refine s1 (mv rfl rfl) ?_
        refine sifd 14 rfl ?_ ?_
        · refine sg 14 rfl rfl (mv rfl rfl) ?_
          refine sg 14 rfl rfl (neS rfl rfl (kS (s := [112]) rfl)) ?_
          refine s1 (pickT rfl rfl rfl) ?_
          refine s1 (mv rfl rfl) ?_
          refine sifd 18 rfl ?_ ?_
          · refine sg 18 rfl rfl (mv rfl rfl) ?_
            refine sg 18 rfl rfl (neS rfl rfl (kS (s := [108, 101, 116]) rfl)) ?_
            refine s1 (pickT rfl rfl rfl) ?_
            refine s1 (asg rfl rfl) ?_
            refine snil ?_
            refine pnm ?_
            exact sj (hj4 _) (entI ⟨rfl, trivial⟩ eqm0)
          · refine spB 18 rfl rfl rfl ?_
            refine spB 18 rfl rfl rfl ?_
            refine s1 (pickF rfl rfl kB) ?_
            refine s1 (asg rfl rfl) ?_
            refine snil ?_
            refine pnm ?_
            exact sj (hj4 _) (entI ⟨rfl, trivial⟩ eqm0)
        · refine spB 14 rfl rfl rfl ?_
          refine spB 14 rfl rfl rfl ?_
          refine s1 (pickF rfl rfl kB) ?_
          refine s1 (mv rfl rfl) ?_
          refine spB 18 rfl rfl rfl ?_
          refine spB 18 rfl rfl rfl ?_
          refine s1 (pickF rfl rfl kB) ?_
          refine s1 (asg rfl rfl) ?_
          refine snil ?_
          refine pnm ?_
          exact sj (hj4 _) (entI ⟨rfl, trivial⟩ eqm0)
      · refine spB 10 rfl rfl rfl ?_
        refine spB 10 rfl rfl rfl ?_
        refine s1 (pickF rfl rfl kB) ?_
        refine s1 (mv rfl rfl) ?_
        refine spB 14 rfl rfl rfl ?_
        refine spB 14 rfl rfl rfl ?_
        refine s1 (pickF rfl rfl kB) ?_
        refine s1 (mv rfl rfl) ?_
        refine spB 18 rfl rfl rfl ?_
        refine spB 18 rfl rfl rfl ?_
        refine s1 (pickF rfl rfl kB) ?_
        refine s1 (asg rfl rfl) ?_
        refine snil ?_
        refine pnm ?_
        exact sj (hj4 _) (entI ⟨rfl, trivial⟩ eqm0)
    · refine spB 6 rfl rfl rfl ?_
      refine spB 6 rfl rfl rfl ?_
      refine s1 (pickF rfl rfl kB) ?_
      refine s1 (mv rfl rfl) ?_
      refine spB 10 rfl rfl rfl ?_
      refine spB 10 rfl rfl rfl ?_
      refine s1 (pickF rfl rfl kB) ?_
      refine s1 (mv rfl rfl) ?_
      refine spB 14 rfl rfl rfl ?_
      refine spB 14 rfl rfl rfl ?_
      refine s1 (pickF rfl rfl kB) ?_
      refine s1 (mv rfl rfl) ?_
      refine spB 18 rfl rfl rfl ?_
      refine spB 18 rfl rfl rfl ?_
      refine s1 (pickF rfl rfl kB) ?_
      refine s1 (asg rfl rfl) ?_
      refine snil ?_
      refine pnm ?_
      exact sj (hj4 _) (entI ⟨rfl, trivial⟩ eqm0)
  · intro s5
    refine sret ?_
    exact ret [] [.tmp 2] [_] [_] .ret hγ (.inl rfl) rfl ⟨rfl, trivial⟩ rfl trivial trivial trivial (rns_cons (rn_id if_bl) (rns_nil)) rfl
theorem c_retrospectref17_Arity {x0 : Int} : ∀ r, m_retrospectref17_Arity x0 = some r → FnOk Tryd.prog 75 [i64 x0] [] (i64 r) [] := by
  unfold m_retrospectref17_Arity
  refine fn_of_sq (res := fun (r : Int) => i64 r) (mo := fun (r : Int) => []) Tryd.func75 rfl rfl (by kernel_rfl) rfl ?_
  intro w S0 γ hγ
  refine sseq ?_
  refine sreg ?_
  refine s1 (asg rfl (kI (x := 0) rfl)) ?_
  refine snil ?_
  refine pnm ?_
  refine sseq ?_
  refine sjq (fun (s3 : Bool) => [(0, i64 x0), (2, i64 (0 : Int)), (8, bl s3)]) (fun (s3 : Bool) => []) ?_ ?_
  · intro j1 hj2
    refine sreg ?_
    refine s1 (mv rfl rfl) ?_
    refine s1 (geI rfl rfl (kI (x := 1) rfl)) ?_
    refine s1 (mv rfl rfl) ?_
    refine sifd 5 rfl ?_ ?_
    · refine sg 5 rfl rfl (mv rfl rfl) ?_
      refine sg 5 rfl rfl (leI rfl rfl (kI (x := 5) rfl)) ?_
      refine s1 (pickT rfl rfl rfl) ?_
      refine snil ?_
      refine pnm ?_
      exact sj (hj2 _) (entI ⟨rfl, rfl, rfl, trivial⟩ eqm0)
    · refine spB 5 rfl rfl rfl ?_
      refine spB 5 rfl rfl rfl ?_
      refine s1 (pickF rfl rfl kB) ?_
      refine snil ?_
      refine pnm ?_
      exact sj (hj2 _) (entI ⟨rfl, rfl, rfl, trivial⟩ eqm0)
  · intro s3
    refine scond rfl ?_ ?_
    · refine sseq ?_
      refine sreg ?_
      refine s1 (asg rfl (kI (x := 0) rfl)) ?_
      refine snil ?_
      refine pnm ?_
      refine sret ?_
      refine pth ?_
      exact ret [] [.tmp 2] [_] [_] .ret hγ (.inl rfl) rfl ⟨rfl, trivial⟩ rfl trivial trivial trivial (rns_cons (rn_id if_i64) (rns_nil)) rfl
    · refine sskip ?_
      refine pnm ?_
      refine sseq ?_
      refine sjq (fun (s6 : Bool) => [(0, i64 x0), (2, i64 (0 : Int)), (14, bl s6)]) (fun (s6 : Bool) => []) ?_ ?_
      · intro j4 hj5
        refine sreg ?_
        refine s1 (mv rfl rfl) ?_
        refine s1 (eqI rfl rfl (kI (x := 6) rfl)) ?_
        refine s1 (mv rfl rfl) ?_
        refine sifd 11 rfl ?_ ?_
        · refine spB 11 rfl rfl rfl ?_
          refine spB 11 rfl rfl rfl ?_
          refine s1 (pickT rfl rfl kB) ?_
          refine snil ?_
          refine pnm ?_
          exact sj (hj5 _) (entI ⟨rfl, rfl, rfl, trivial⟩ eqm0)
        · refine sg 11 rfl rfl (mv rfl rfl) ?_
          refine sg 11 rfl rfl (eqI rfl rfl (kI (x := 11) rfl)) ?_
          refine s1 (pickF rfl rfl rfl) ?_
          refine snil ?_
          refine pnm ?_
          exact sj (hj5 _) (entI ⟨rfl, rfl, rfl, trivial⟩ eqm0)
      · intro s6
        refine scond rfl ?_ ?_
        · refine sseq ?_
          refine sreg ?_
          refine s1 (asg rfl (kI (x := 1) rfl)) ?_
          refine snil ?_
          refine pnm ?_
          refine sret ?_
          refine pth ?_
          exact ret [] [.tmp 2] [_] [_] .ret hγ (.inl rfl) rfl ⟨rfl, trivial⟩ rfl trivial trivial trivial (rns_cons (rn_id if_i64) (rns_nil)) rfl
        · refine sskip ?_
          refine pnm ?_
          refine sseq ?_
          refine sjq (fun (s9 : Bool) => [(2, i64 (0 : Int)), (20, bl s9)]) (fun (s9 : Bool) => []) ?_ ?_
          · intro j7 hj8
            refine sreg ?_
            refine s1 (mv rfl rfl) ?_
            refine s1 (geI rfl rfl (kI (x := 7) rfl)) ?_
            refine s1 (mv rfl rfl) ?_
            refine sifd 17 rfl ?_ ?_
            · refine sg 17 rfl rfl (mv rfl rfl) ?_
              refine sg 17 rfl rfl (leI rfl rfl (kI (x := 10) rfl)) ?_
              refine s1 (pickT rfl rfl rfl) ?_
              refine snil ?_
              refine pnm ?_
              exact sj (hj8 _) (entI ⟨rfl, rfl, trivial⟩ eqm0)
            · refine spB 17 rfl rfl rfl ?_
              refine spB 17 rfl rfl rfl ?_
              refine s1 (pickF rfl rfl kB) ?_
              refine snil ?_
              refine pnm ?_
              exact sj (hj8 _) (entI ⟨rfl, rfl, trivial⟩ eqm0)
          · intro s9
            refine scond rfl ?_ ?_
            · refine sseq ?_
              refine sreg ?_
              refine s1 (asg rfl (kI (x := 2) rfl)) ?_
              refine snil ?_
              refine pnm ?_
              refine sret ?_
              refine pth ?_
              exact ret [] [.tmp 2] [_] [_] .ret hγ (.inl rfl) rfl ⟨rfl, trivial⟩ rfl trivial trivial trivial (rns_cons (rn_id if_i64) (rns_nil)) rfl
            · refine sskip ?_
              refine pnm ?_
              refine sseq ?_
              refine sreg ?_
              refine s1 (asg rfl (kI (x := (-1)) rfl)) ?_
              refine snil ?_
              refine pnm ?_
              refine sret ?_
              exact ret [] [.tmp 2] [_] [_] .ret hγ (.inl rfl) rfl ⟨rfl, trivial⟩ rfl trivial trivial trivial (rns_cons (rn_id if_i64) (rns_nil)) rfl
theorem c_retrospectref17_Wrong {n : Nat} {x0 : (List M_retrospectref17_Node)} : ∀ r, m_retrospectref17_Wrong n x0 = some r → FnOk Tryd.prog 61 [sli 3 (List.map L_retrospectref17_Node x0)] [] (i64 r) [] := by
  unfold m_retrospectref17_Wrong
  refine fn_of_sq (res := fun (r : Int) => i64 r) (mo := fun (r : Int) => []) Tryd.func61 rfl rfl (by kernel_rfl) rfl ?_
  intro w S0 γ hγ
  refine sseq ?_
  refine sreg ?_
  refine s1 (asg rfl (kI (x := 0) rfl)) ?_
  refine snil ?_
  refine pnm ?_
  refine sseq ?_
  refine sreg ?_
  refine s1 (asg rfl (kI (x := 0) rfl)) ?_
  refine snil ?_
  refine pnm ?_
  refine sseq ?_
  refine sseq ?_
  refine sreg ?_
  refine s1 (asg rfl (kI (x := 0) rfl)) ?_
  refine snil ?_
  refine pnm ?_
  refine sblk ?_
  refine sloopE 0 Lp.go (fun (s19 : Int × Int) => [(0, sli 3 (List.map L_retrospectref17_Node x0)), (2, i64 (0 : Int)), (3, i64 s19.1), (4, i64 s19.2)]) (fun (s19 : Int × Int) => []) (fun (t17 : Int) => [(0, sli 3 (List.map L_retrospectref17_Node x0)), (2, i64 (0 : Int)), (3, i64 t17)]) (fun (t17 : Int) => []) (entI ⟨rfl, rfl, rfl, rfl, trivial⟩ eqm0) ?_ ?_
  · intro hj18 s19
    refine sseq ?_
    refine sseq ?_
    refine sreg ?_
    refine s1 (mv rfl rfl) ?_
    refine s1 (mv rfl rfl) ?_
    refine s1 (lenL (f := L_retrospectref17_Node) Tryd.underlying54 rfl rfl) ?_
    refine s1 (ltI rfl rfl rfl) ?_
    refine snil ?_
    refine pnm ?_
    refine scond rfl ?_ ?_
    · refine sskip ?_
      refine pnm ?_
      refine sseq ?_
      refine sblk ?_
      refine sseq ?_
      refine sreg ?_
      refine s1 (mv rfl rfl) ?_
      refine s1 (mv rfl rfl) ?_
      refine bd fun y20 h21 => ?_
      refine s1 (ixR (f := L_retrospectref17_Node) Tryd.underlying54 ti_62 h21 rfl rfl rfl) ?_
      refine s1 (faR fd_62_0 (by exact rfl) rfl rfl) ?_
      refine s1 (ldR sh_3 (by exact rfl) (by exact rfl) rfl rfl) ?_
      refine bd fun r22 h23 => ?_
      refine s1 (call0 (c_retrospectref17_Arity _ h23) ⟨⟨_, rfl, rn_id if_i64⟩, trivial⟩ (if_i64) rfl) ?_
      refine s1 (asg rfl rfl) ?_
      refine snil ?_
      refine pnm ?_
      refine sseq ?_
      refine sjq (fun (s26 : Bool) => [(0, sli 3 (List.map L_retrospectref17_Node x0)), (2, i64 (0 : Int)), (3, i64 s19.1), (4, i64 s19.2), (5, i64 r22), (24, bl s26)]) (fun (s26 : Bool) => []) ?_ ?_
      · intro j24 hj25
        refine sreg ?_
        refine s1 (mv rfl rfl) ?_
        refine s1 (ltI rfl rfl (kI (x := 0) rfl)) ?_
        refine s1 (mv rfl rfl) ?_
        refine sifd 20 rfl ?_ ?_
        · refine spB 20 rfl rfl rfl ?_
          refine spB 20 rfl rfl rfl ?_
          refine spB 20 rfl rfl rfl ?_
          refine s1 (pickT rfl rfl kB) ?_
          refine snil ?_
          refine pnm ?_
          exact sj (hj25 _) (entI ⟨rfl, rfl, rfl, rfl, rfl, rfl, trivial⟩ eqm0)
        · refine sg 20 rfl rfl (mv rfl rfl) ?_
          refine sg 20 rfl rfl (mv rfl rfl) ?_
          refine sg 20 rfl rfl (ltI rfl rfl rfl) ?_
          refine s1 (pickF rfl rfl rfl) ?_
          refine snil ?_
          refine pnm ?_
          exact sj (hj25 _) (entI ⟨rfl, rfl, rfl, rfl, rfl, rfl, trivial⟩ eqm0)
      · intro s26
        refine scond rfl ?_ ?_
        · refine sseq ?_
          refine sreg ?_
          refine s1 (mv rfl rfl) ?_
          refine s1 (asg rfl rfl) ?_
          refine snil ?_
          refine pnm ?_
          refine sret ?_
          refine pth ?_
          refine pbl ?_
          refine pth ?_
          refine sout (fun h => by cases h) ?_
          refine pbl ?_
          refine pth ?_
          exact ret [] [.tmp 2] [_] [_] .ret hγ (.inl rfl) rfl ⟨rfl, trivial⟩ rfl trivial trivial trivial (rns_cons (rn_id if_i64) (rns_nil)) rfl
        · refine sskip ?_
          refine pnm ?_
          refine sreg ?_
          refine s1 (mv rfl rfl) ?_
          refine s1 (mv rfl rfl) ?_
          refine s1 (subI rfl rfl rfl) ?_
          refine s1 (addI rfl rfl (kI (x := 1) rfl)) ?_
          refine s1 (asg rfl rfl) ?_
          refine snil ?_
          refine pbn ?_
          refine pnm ?_
          refine sreg ?_
          refine s1 (mv rfl rfl) ?_
          refine s1 (addI rfl rfl (kI (x := 1) rfl)) ?_
          refine s1 (asg rfl rfl) ?_
          refine snil ?_
          exact sgo (entI ⟨rfl, rfl, rfl, rfl, trivial⟩ eqm0)
    · refine sexit ?_
      refine ptx ?_
      exact sout (fun h => by cases h) (sj (hj18 _) (entI ⟨rfl, rfl, rfl, trivial⟩ eqm0))
  · intro t17
    refine slpk ?_
    refine sx ?_
    refine pnm ?_
    refine sseq ?_
    refine sseq ?_
    refine sreg ?_
    refine s1 (mv rfl rfl) ?_
    refine s1 (eqI rfl rfl (kI (x := 1) rfl)) ?_
    refine snil ?_
    refine pnm ?_
    refine scond rfl ?_ ?_
    · refine sseq ?_
      refine sreg ?_
      refine s1 (asg rfl (kI (x := (-1)) rfl)) ?_
      refine snil ?_
      refine pnm ?_
      refine sret ?_
      refine pth ?_
      exact ret [] [.tmp 2] [_] [_] .ret hγ (.inl rfl) rfl ⟨rfl, trivial⟩ rfl trivial trivial trivial (rns_cons (rn_id if_i64) (rns_nil)) rfl
    · refine sskip ?_
      refine pnm ?_
      refine sseq ?_
      refine sreg ?_
      refine s1 (mv rfl rfl) ?_
      refine s1 (lenL (f := L_retrospectref17_Node) Tryd.underlying54 rfl rfl) ?_
      refine s1 (asg rfl rfl) ?_
      refine snil ?_
      refine pnm ?_
      refine sret ?_
      exact ret [] [.tmp 2] [_] [_] .ret hγ (.inl rfl) rfl ⟨rfl, trivial⟩ rfl trivial trivial trivial (rns_cons (rn_id if_i64) (rns_nil)) rfl
theorem c_retrospectref19_Node {n : Nat} {x0 : M_retrospectref17_Node} {x1 : Int} {x2 : Int} {x3 : Int} : ∀ r, m_retrospectref19_Node n x0 x1 x2 x3 = some r → FnOk Tryd.prog 28 [L_retrospectref17_Node x0, i64 x1, i64 x2, i64 x3] [] (bl r) [] := by
  unfold m_retrospectref19_Node
  refine fn_of_sq (res := fun (r : Bool) => bl r) (mo := fun (r : Bool) => []) Tryd.func28 rfl rfl (by kernel_rfl) rfl ?_
  intro w S0 γ hγ
  refine sseq ?_
  refine sreg ?_
  refine so (box (y := 100) (by exact rfl) rfl rfl rfl) ?_
  refine s1 (asg rfl kB) ?_
  refine snil ?_
  refine pnm ?_
  refine sseq ?_
  refine sseq ?_
  refine sreg ?_
  refine s1 (faO rfl fd_62_0 rfl rfl) ?_
  refine s1 (ldB [0] rfl (by exact rfl) sh_3 (by exact rfl) (by exact rfl) rfl rfl (.inl rfl)) ?_
  refine s1 (eqI rfl rfl (kI (x := 1) rfl)) ?_
  refine snil ?_
  refine pnm ?_
  refine scond rfl ?_ ?_
  · refine sjq (fun (s11 : Bool) => [(1, i64 x1), (2, i64 x2), (3, i64 x3), (4, .own 100), (8, bl s11)]) (fun (s11 : Bool) => [(100, .bx 62 (L_retrospectref17_Node x0))]) ?_ ?_
    · intro j9 hj10
      refine sif (fun hb12 => ?_) (fun hb12 => ?_)
      · refine bd fun r13 h14 => ?_
        refine bd fun r15 h16 => ?_
        refine sif (fun hb17 => ?_) (fun hb17 => ?_)
        · refine bd fun r18 h19 => ?_
          refine sdraw [⟨[4], [100], [(12, .ptr 100 1)], []⟩, ⟨[12], [100], [(13, i64 x0.I)], []⟩, ⟨[13], [], [(14, bl (decide (x0.I = (0 : Int))))], []⟩, ⟨[14], [], [(15, bl true)], []⟩, ⟨[15, 4], [100], [(16, .ptr 100 2)], []⟩, ⟨[15, 16], [100], [(17, sli 1 (List.map u32 x0.N))], []⟩, ⟨[15, 17], [101], [(18, .own 101)], [(101, .sl 72 1 (List.map u32 r13))]⟩, ⟨[15, 4], [100], [(19, .ptr 100 2)], []⟩, ⟨[15, 19], [100], [(20, sli 1 (List.map u32 x0.N))], []⟩, ⟨[15, 18, 20], [101], [(21, bl r15)], []⟩, ⟨[15, 21], [], [(22, bl r15)], []⟩, ⟨[22], [], [(23, bl true)], []⟩, ⟨[23, 4], [100], [(24, .ptr 100 2)], []⟩, ⟨[23, 24], [100], [(25, sli 1 (List.map u32 x0.N))], []⟩, ⟨[23, 25], [], [(26, str r18)], []⟩, ⟨[23, 26], [], [(27, i64 (r18.length : Int))], []⟩, ⟨[23, 27], [], [(28, bl (decide ((r18.length : Int) ≤ (60 : Int))))], []⟩, ⟨[23, 28], [], [(29, bl (decide ((r18.length : Int) ≤ (60 : Int))))], []⟩, ⟨[29], [], [(8, bl (decide ((r18.length : Int) ≤ (60 : Int))))], []⟩] fol (by kernel_rfl) ⟨fun st mm ⟨a4, _⟩ ⟨g100, _⟩ => og (faO (g100.trans rfl) fd_62_1 rfl (a4.trans rfl)), fun st mm ⟨a12, _⟩ ⟨g100, _⟩ => og (ldB [1] (g100.trans rfl) (by exact rfl) sh_3 (by exact rfl) (by exact rfl) rfl (a12.trans rfl) (.inl rfl)), fun st mm ⟨a13, _⟩ _ => og (eqI rfl (a13.trans rfl) (kI (x := 0) rfl)), fun st mm ⟨a14, _⟩ _ => og (okb hb12 (mv rfl (a14.trans rfl))), fun st mm ⟨a15, a4, _⟩ ⟨g100, _⟩ => ogG 15 rfl (a15.trans rfl) (faO (g100.trans rfl) fd_62_2 rfl (a4.trans rfl)), fun st mm ⟨a15, a16, _⟩ ⟨g100, _⟩ => ogG 15 rfl (a15.trans rfl) (ldB [2] (g100.trans rfl) (by exact rfl) sh_23 (by exact rfl) (by exact rfl) rfl (a16.trans rfl) (.inl rfl)), fun st mm ⟨a15, a17, _⟩ ⟨g101, _⟩ => ogG 15 rfl (a15.trans rfl) (callG (em := [(101, .sl 72 1 (List.map u32 r13))]) (res' := .own 101) [] [(101, 50)] [(101, 50)] (c_retrospectref02_Norm _ h14) ⟨⟨_, (a17.trans rfl), rn_id if_sli⟩, trivial⟩ (MiF.get (mi := []) trivial) trivial rfl ⟨(g101.trans rfl), trivial⟩ ⟨.inl rfl, trivial⟩ rfl ⟨.inl ⟨_, _, rfl, rfl, rc_sl (ifs_map (f := u32) (fun _ => if_u32) r13)⟩, trivial⟩ trivial ⟨⟨_, rfl⟩, trivial⟩ (rn_own rfl) rfl), fun st mm ⟨a15, a4, _⟩ ⟨g100, _⟩ => ogG 15 rfl (a15.trans rfl) (faO (g100.trans rfl) fd_62_2 rfl (a4.trans rfl)), fun st mm ⟨a15, a19, _⟩ ⟨g100, _⟩ => ogG 15 rfl (a15.trans rfl) (ldB [2] (g100.trans rfl) (by exact rfl) sh_23 (by exact rfl) (by exact rfl) rfl (a19.trans rfl) (.inl rfl)), fun st mm ⟨a15, a18, a20, _⟩ ⟨g101, _⟩ => ogG 15 rfl (a15.trans rfl) (callL (em := []) [101] [] [] [] rfl (c_retrospectref02_Same _ h16) trivial (pl_bl) ⟨.inr ⟨101, rfl, (a18.trans rfl), .inl ⟨_, _, _, (g101.trans rfl), ifs_map (f := u32) (fun _ => if_u32) r13, rfl⟩⟩, .inl ⟨_, (a20.trans rfl), rn_id if_sli⟩, trivial⟩ (fun _ _ h => by cases h) trivial rfl trivial trivial rfl trivial trivial trivial (rn_id (if_bl)) rfl), fun st mm ⟨a15, a21, _⟩ _ => og (pickT rfl (a15.trans rfl) (a21.trans rfl)), fun st mm ⟨a22, _⟩ _ => og (okb hb17 (mv rfl (a22.trans rfl))), fun st mm ⟨a23, a4, _⟩ ⟨g100, _⟩ => ogG 23 rfl (a23.trans rfl) (faO (g100.trans rfl) fd_62_2 rfl (a4.trans rfl)), fun st mm ⟨a23, a24, _⟩ ⟨g100, _⟩ => ogG 23 rfl (a23.trans rfl) (ldB [2] (g100.trans rfl) (by exact rfl) sh_23 (by exact rfl) (by exact rfl) rfl (a24.trans rfl) (.inl rfl)), fun st mm ⟨a23, a25, _⟩ _ => ogG 23 rfl (a23.trans rfl) (call0 (c_retrospectref07_Text _ h19) ⟨⟨_, (a25.trans rfl), rn_id if_sli⟩, trivial⟩ (if_str) rfl), fun st mm ⟨a23, a26, _⟩ _ => ogG 23 rfl (a23.trans rfl) (lenS Tryd.underlying9 rfl (a26.trans rfl)), fun st mm ⟨a23, a27, _⟩ _ => ogG 23 rfl (a23.trans rfl) (leI rfl (a27.trans rfl) (kI (x := 60) rfl)), fun st mm ⟨a23, a28, _⟩ _ => og (pickT rfl (a23.trans rfl) (a28.trans rfl)), fun st mm ⟨a29, _⟩ _ => og (asg rfl (a29.trans rfl)), trivial⟩ ?_
          refine pnm ?_
          exact sj (hj10 _) (entR [(100, 100)] rfl (keepS hγ trivial) ⟨⟨_, rfl⟩, trivial⟩ ⟨⟨_, _, rfl, rfl, rci (rc_bx (rn_id if_L_retrospectref17_Node))⟩, trivial⟩ ⟨⟨_, rfl, rn_id if_i64⟩, ⟨_, rfl, rn_id if_i64⟩, ⟨_, rfl, rn_id if_i64⟩, ⟨_, rfl, rn_own rfl⟩, ⟨_, rfl, rn_id if_bl⟩, trivial⟩)
        · refine sdraw [⟨[4], [100], [(12, .ptr 100 1)], []⟩, ⟨[12], [100], [(13, i64 x0.I)], []⟩, ⟨[13], [], [(14, bl (decide (x0.I = (0 : Int))))], []⟩, ⟨[14], [], [(15, bl true)], []⟩, ⟨[15, 4], [100], [(16, .ptr 100 2)], []⟩, ⟨[15, 16], [100], [(17, sli 1 (List.map u32 x0.N))], []⟩, ⟨[15, 17], [101], [(18, .own 101)], [(101, .sl 72 1 (List.map u32 r13))]⟩, ⟨[15, 4], [100], [(19, .ptr 100 2)], []⟩, ⟨[15, 19], [100], [(20, sli 1 (List.map u32 x0.N))], []⟩, ⟨[15, 18, 20], [101], [(21, bl r15)], []⟩, ⟨[15, 21], [], [(22, bl r15)], []⟩, ⟨[22], [], [(23, bl false)], []⟩, ⟨[23], [], [(24, .tup [])], []⟩, ⟨[23], [], [(25, .tup [])], []⟩, ⟨[23], [], [(26, .tup [])], []⟩, ⟨[23], [], [(27, .tup [])], []⟩, ⟨[23], [], [(28, .tup [])], []⟩, ⟨[23], [], [(29, bl false)], []⟩, ⟨[29], [], [(8, bl false)], []⟩] fol (by kernel_rfl) ⟨fun st mm ⟨a4, _⟩ ⟨g100, _⟩ => og (faO (g100.trans rfl) fd_62_1 rfl (a4.trans rfl)), fun st mm ⟨a12, _⟩ ⟨g100, _⟩ => og (ldB [1] (g100.trans rfl) (by exact rfl) sh_3 (by exact rfl) (by exact rfl) rfl (a12.trans rfl) (.inl rfl)), fun st mm ⟨a13, _⟩ _ => og (eqI rfl (a13.trans rfl) (kI (x := 0) rfl)), fun st mm ⟨a14, _⟩ _ => og (okb hb12 (mv rfl (a14.trans rfl))), fun st mm ⟨a15, a4, _⟩ ⟨g100, _⟩ => ogG 15 rfl (a15.trans rfl) (faO (g100.trans rfl) fd_62_2 rfl (a4.trans rfl)), fun st mm ⟨a15, a16, _⟩ ⟨g100, _⟩ => ogG 15 rfl (a15.trans rfl) (ldB [2] (g100.trans rfl) (by exact rfl) sh_23 (by exact rfl) (by exact rfl) rfl (a16.trans rfl) (.inl rfl)), fun st mm ⟨a15, a17, _⟩ ⟨g101, _⟩ => ogG 15 rfl (a15.trans rfl) (callG (em := [(101, .sl 72 1 (List.map u32 r13))]) (res' := .own 101) [] [(101, 50)] [(101, 50)] (c_retrospectref02_Norm _ h14) ⟨⟨_, (a17.trans rfl), rn_id if_sli⟩, trivial⟩ (MiF.get (mi := []) trivial) trivial rfl ⟨(g101.trans rfl), trivial⟩ ⟨.inl rfl, trivial⟩ rfl ⟨.inl ⟨_, _, rfl, rfl, rc_sl (ifs_map (f := u32) (fun _ => if_u32) r13)⟩, trivial⟩ trivial ⟨⟨_, rfl⟩, trivial⟩ (rn_own rfl) rfl), fun st mm ⟨a15, a4, _⟩ ⟨g100, _⟩ => ogG 15 rfl (a15.trans rfl) (faO (g100.trans rfl) fd_62_2 rfl (a4.trans rfl)), fun st mm ⟨a15, a19, _⟩ ⟨g100, _⟩ => ogG 15 rfl (a15.trans rfl) (ldB [2] (g100.trans rfl) (by exact rfl) sh_23 (by exact rfl) (by exact rfl) rfl (a19.trans rfl) (.inl rfl)), fun st mm ⟨a15, a18, a20, _⟩ ⟨g101, _⟩ => ogG 15 rfl (a15.trans rfl) (callL (em := []) [101] [] [] [] rfl (c_retrospectref02_Same _ h16) trivial (pl_bl) ⟨.inr ⟨101, rfl, (a18.trans rfl), .inl ⟨_, _, _, (g101.trans rfl), ifs_map (f := u32) (fun _ => if_u32) r13, rfl⟩⟩, .inl ⟨_, (a20.trans rfl), rn_id if_sli⟩, trivial⟩ (fun _ _ h => by cases h) trivial rfl trivial trivial rfl trivial trivial trivial (rn_id (if_bl)) rfl), fun st mm ⟨a15, a21, _⟩ _ => og (pickT rfl (a15.trans rfl) (a21.trans rfl)), fun st mm ⟨a22, _⟩ _ => og (okb hb17 (mv rfl (a22.trans rfl))), fun st mm ⟨a23, _⟩ _ => ogB 23 rfl (a23.trans rfl) rfl, fun st mm ⟨a23, _⟩ _ => ogB 23 rfl (a23.trans rfl) rfl, fun st mm ⟨a23, _⟩ _ => ogB 23 rfl (a23.trans rfl) rfl, fun st mm ⟨a23, _⟩ _ => ogB 23 rfl (a23.trans rfl) rfl, fun st mm ⟨a23, _⟩ _ => ogB 23 rfl (a23.trans rfl) rfl, fun st mm ⟨a23, _⟩ _ => og (pickF rfl (a23.trans rfl) kB), fun st mm ⟨a29, _⟩ _ => og (asg rfl (a29.trans rfl)), trivial⟩ ?_
          refine pnm ?_
          exact sj (hj10 _) (entR [(100, 100)] rfl (keepS hγ trivial) ⟨⟨_, rfl⟩, trivial⟩ ⟨⟨_, _, rfl, rfl, rci (rc_bx (rn_id if_L_retrospectref17_Node))⟩, trivial⟩ ⟨⟨_, rfl, rn_id if_i64⟩, ⟨_, rfl, rn_id if_i64⟩, ⟨_, rfl, rn_id if_i64⟩, ⟨_, rfl, rn_own rfl⟩, ⟨_, rfl, rn_id if_bl⟩, trivial⟩)
      · refine sdraw [⟨[4], [100], [(12, .ptr 100 1)], []⟩, ⟨[12], [100], [(13, i64 x0.I)], []⟩, ⟨[13], [], [(14, bl (decide (x0.I = (0 : Int))))], []⟩, ⟨[14], [], [(15, bl false)], []⟩, ⟨[15], [], [(16, .tup [])], []⟩, ⟨[15], [], [(17, .tup [])], []⟩, ⟨[15], [], [(18, .tup [])], []⟩, ⟨[15], [], [(19, .tup [])], []⟩, ⟨[15], [], [(20, .tup [])], []⟩, ⟨[15], [], [(21, .tup [])], []⟩, ⟨[15], [], [(22, bl false)], []⟩, ⟨[22], [], [(23, bl false)], []⟩, ⟨[23], [], [(24, .tup [])], []⟩, ⟨[23], [], [(25, .tup [])], []⟩, ⟨[23], [], [(26, .tup [])], []⟩, ⟨[23], [], [(27, .tup [])], []⟩, ⟨[23], [], [(28, .tup [])], []⟩, ⟨[23], [], [(29, bl false)], []⟩, ⟨[29], [], [(8, bl false)], []⟩] fol (by kernel_rfl) ⟨fun st mm ⟨a4, _⟩ ⟨g100, _⟩ => og (faO (g100.trans rfl) fd_62_1 rfl (a4.trans rfl)), fun st mm ⟨a12, _⟩ ⟨g100, _⟩ => og (ldB [1] (g100.trans rfl) (by exact rfl) sh_3 (by exact rfl) (by exact rfl) rfl (a12.trans rfl) (.inl rfl)), fun st mm ⟨a13, _⟩ _ => og (eqI rfl (a13.trans rfl) (kI (x := 0) rfl)), fun st mm ⟨a14, _⟩ _ => og (okb hb12 (mv rfl (a14.trans rfl))), fun st mm ⟨a15, _⟩ _ => ogB 15 rfl (a15.trans rfl) rfl, fun st mm ⟨a15, _⟩ _ => ogB 15 rfl (a15.trans rfl) rfl, fun st mm ⟨a15, _⟩ _ => ogB 15 rfl (a15.trans rfl) rfl, fun st mm ⟨a15, _⟩ _ => ogB 15 rfl (a15.trans rfl) rfl, fun st mm ⟨a15, _⟩ _ => ogB 15 rfl (a15.trans rfl) rfl, fun st mm ⟨a15, _⟩ _ => ogB 15 rfl (a15.trans rfl) rfl, fun st mm ⟨a15, _⟩ _ => og (pickF rfl (a15.trans rfl) kB), fun st mm ⟨a22, _⟩ _ => og (mv rfl (a22.trans rfl)), fun st mm ⟨a23, _⟩ _ => ogB 23 rfl (a23.trans rfl) rfl, fun st mm ⟨a23, _⟩ _ => ogB 23 rfl (a23.trans rfl) rfl, fun st mm ⟨a23, _⟩ _ => ogB 23 rfl (a23.trans rfl) rfl, fun st mm ⟨a23, _⟩ _ => ogB 23 rfl (a23.trans rfl) rfl, fun st mm ⟨a23, _⟩ _ => ogB 23 rfl (a23.trans rfl) rfl, fun st mm ⟨a23, _⟩ _ => og (pickF rfl (a23.trans rfl) kB), fun st mm ⟨a29, _⟩ _ => og (asg rfl (a29.trans rfl)), trivial⟩ ?_
        refine pnm ?_
        exact sj (hj10 _) (entR [(100, 100)] rfl (keepS hγ trivial) ⟨⟨_, rfl⟩, trivial⟩ ⟨⟨_, _, rfl, rfl, rci (rc_bx (rn_id if_L_retrospectref17_Node))⟩, trivial⟩ ⟨⟨_, rfl, rn_id if_i64⟩, ⟨_, rfl, rn_id if_i64⟩, ⟨_, rfl, rn_id if_i64⟩, ⟨_, rfl, rn_own rfl⟩, ⟨_, rfl, rn_id if_bl⟩, trivial⟩)
    · intro s11
      refine sret ?_
      refine pth ?_
      exact ret [] [.tmp 8] [_] [_] .ret hγ (.inl rfl) rfl ⟨rfl, trivial⟩ rfl trivial trivial trivial (rns_cons (rn_id if_bl) (rns_nil)) rfl
  · refine sskip ?_
    refine pnm ?_
    refine sseq ?_
    refine sjq (fun (s22 : Bool) => [(1, i64 x1), (2, i64 x2), (3, i64 x3), (4, .own 100), (8, bl false), (43, bl s22)]) (fun (s22 : Bool) => [(100, .bx 62 (L_retrospectref17_Node x0))]) ?_ ?_
    · intro j20 hj21
      refine sreg ?_
      refine s1 (faO rfl fd_62_2 rfl rfl) ?_
      refine s1 (ldB [2] rfl (by exact rfl) sh_23 (by exact rfl) (by exact rfl) rfl rfl (.inl rfl)) ?_
      refine s1 (lenL (f := u32) Tryd.underlying23 rfl rfl) ?_
      refine s1 (gtI rfl rfl (kI (x := 0) rfl)) ?_
      refine s1 (mv rfl rfl) ?_
      refine sifd 34 rfl ?_ ?_
      · refine spB 34 rfl rfl rfl ?_
        refine spB 34 rfl rfl rfl ?_
        refine spB 34 rfl rfl rfl ?_
        refine s1 (pickT rfl rfl kB) ?_
        refine s1 (mv rfl rfl) ?_
        refine spB 39 rfl rfl rfl ?_
        refine spB 39 rfl rfl rfl ?_
        refine spB 39 rfl rfl rfl ?_
        refine s1 (pickT rfl rfl kB) ?_
        refine snil ?_
        refine pnm ?_
        exact sj (hj21 _) (entR [(100, 100)] rfl (keepS hγ trivial) ⟨⟨_, rfl⟩, trivial⟩ ⟨⟨_, _, rfl, rfl, rci (rc_bx (rn_id if_L_retrospectref17_Node))⟩, trivial⟩ ⟨⟨_, rfl, rn_id if_i64⟩, ⟨_, rfl, rn_id if_i64⟩, ⟨_, rfl, rn_id if_i64⟩, ⟨_, rfl, rn_own rfl⟩, ⟨_, rfl, rn_id if_bl⟩, ⟨_, rfl, rn_id if_bl⟩, trivial⟩)
      · refine sg 34 rfl rfl (faO rfl fd_62_0 rfl rfl) ?_
        refine sg 34 rfl rfl (ldB [0] rfl (by exact rfl) sh_3 (by exact rfl) (by exact rfl) rfl rfl (.inl rfl)) ?_
        refine sg 34 rfl rfl (ltI rfl rfl (kI (x := 1) rfl)) ?_
        refine s1 (pickF rfl rfl rfl) ?_
        refine s1 (mv rfl rfl) ?_
        refine sifd 39 rfl ?_ ?_
        · refine spB 39 rfl rfl rfl ?_
          refine spB 39 rfl rfl rfl ?_
          refine spB 39 rfl rfl rfl ?_
          refine s1 (pickT rfl rfl kB) ?_
          refine snil ?_
          refine pnm ?_
          exact sj (hj21 _) (entR [(100, 100)] rfl (keepS hγ trivial) ⟨⟨_, rfl⟩, trivial⟩ ⟨⟨_, _, rfl, rfl, rci (rc_bx (rn_id if_L_retrospectref17_Node))⟩, trivial⟩ ⟨⟨_, rfl, rn_id if_i64⟩, ⟨_, rfl, rn_id if_i64⟩, ⟨_, rfl, rn_id if_i64⟩, ⟨_, rfl, rn_own rfl⟩, ⟨_, rfl, rn_id if_bl⟩, ⟨_, rfl, rn_id if_bl⟩, trivial⟩)
        · refine sg 39 rfl rfl (faO rfl fd_62_0 rfl rfl) ?_
          refine sg 39 rfl rfl (ldB [0] rfl (by exact rfl) sh_3 (by exact rfl) (by exact rfl) rfl rfl (.inl rfl)) ?_
          refine sg 39 rfl rfl (gtI rfl rfl (kI (x := 11) rfl)) ?_
          refine s1 (pickF rfl rfl rfl) ?_
          refine snil ?_
          refine pnm ?_
          exact sj (hj21 _) (entR [(100, 100)] rfl (keepS hγ trivial) ⟨⟨_, rfl⟩, trivial⟩ ⟨⟨_, _, rfl, rfl, rci (rc_bx (rn_id if_L_retrospectref17_Node))⟩, trivial⟩ ⟨⟨_, rfl, rn_id if_i64⟩, ⟨_, rfl, rn_id if_i64⟩, ⟨_, rfl, rn_id if_i64⟩, ⟨_, rfl, rn_own rfl⟩, ⟨_, rfl, rn_id if_bl⟩, ⟨_, rfl, rn_id if_bl⟩, trivial⟩)
    · intro s22
      refine scond rfl ?_ ?_
      · refine sseq ?_
        refine sreg ?_
        refine s1 (asg rfl kB) ?_
        refine snil ?_
        refine pnm ?_
        refine sret ?_
        refine pth ?_
        exact ret [] [.tmp 8] [_] [_] .ret hγ (.inl rfl) rfl ⟨rfl, trivial⟩ rfl trivial trivial trivial (rns_cons (rn_id if_bl) (rns_nil)) rfl
      · refine sskip ?_
        refine pnm ?_
        refine sseq ?_
        refine sseq ?_
        refine sreg ?_
        refine s1 (faO rfl fd_62_0 rfl rfl) ?_
        refine s1 (ldB [0] rfl (by exact rfl) sh_3 (by exact rfl) (by exact rfl) rfl rfl (.inl rfl)) ?_
        refine s1 (eqI rfl rfl (kI (x := 3) rfl)) ?_
        refine snil ?_
        refine pnm ?_
        refine scond rfl ?_ ?_
        · refine sjq (fun (s25 : Bool) => [(2, i64 x2), (3, i64 x3), (4, .own 100), (8, bl s25)]) (fun (s25 : Bool) => [(100, .bx 62 (L_retrospectref17_Node x0))]) ?_ ?_
          · intro j23 hj24
            refine sreg ?_
            refine s1 (faO rfl fd_62_1 rfl rfl) ?_
            refine s1 (ldB [1] rfl (by exact rfl) sh_3 (by exact rfl) (by exact rfl) rfl rfl (.inl rfl)) ?_
            refine s1 (geI rfl rfl (kI (x := 0) rfl)) ?_
            refine s1 (mv rfl rfl) ?_
            refine sifd 50 rfl ?_ ?_
            · refine sg 50 rfl rfl (faO rfl fd_62_1 rfl rfl) ?_
              refine sg 50 rfl rfl (ldB [1] rfl (by exact rfl) sh_3 (by exact rfl) (by exact rfl) rfl rfl (.inl rfl)) ?_
              refine sg 50 rfl rfl (mv rfl rfl) ?_
              refine sg 50 rfl rfl (ltI rfl rfl rfl) ?_
              refine s1 (pickT rfl rfl rfl) ?_
              refine s1 (asg rfl rfl) ?_
              refine snil ?_
              refine pnm ?_
              exact sj (hj24 _) (entR [(100, 100)] rfl (keepS hγ trivial) ⟨⟨_, rfl⟩, trivial⟩ ⟨⟨_, _, rfl, rfl, rci (rc_bx (rn_id if_L_retrospectref17_Node))⟩, trivial⟩ ⟨⟨_, rfl, rn_id if_i64⟩, ⟨_, rfl, rn_id if_i64⟩, ⟨_, rfl, rn_own rfl⟩, ⟨_, rfl, rn_id if_bl⟩, trivial⟩)
            · refine spB 50 rfl rfl rfl ?_
              refine spB 50 rfl rfl rfl ?_
              refine spB 50 rfl rfl rfl ?_
              refine spB 50 rfl rfl rfl ?_
              refine s1 (pickF rfl rfl kB) ?_
              refine s1 (asg rfl rfl) ?_
              refine snil ?_
              refine pnm ?_
              exact sj (hj24 _) (entR [(100, 100)] rfl (keepS hγ trivial) ⟨⟨_, rfl⟩, trivial⟩ ⟨⟨_, _, rfl, rfl, rci (rc_bx (rn_id if_L_retrospectref17_Node))⟩, trivial⟩ ⟨⟨_, rfl, rn_id if_i64⟩, ⟨_, rfl, rn_id if_i64⟩, ⟨_, rfl, rn_own rfl⟩, ⟨_, rfl, rn_id if_bl⟩, trivial⟩)
          · intro s25
            refine sret ?_
            refine pth ?_
            exact ret [] [.tmp 8] [_] [_] .ret hγ (.inl rfl) rfl ⟨rfl, trivial⟩ rfl trivial trivial trivial (rns_cons (rn_id if_bl) (rns_nil)) rfl
        · refine sskip ?_
          refine pnm ?_
          refine sseq ?_
          refine sseq ?_
          refine sreg ?_
          refine s1 (faO rfl fd_62_0 rfl rfl) ?_
          refine s1 (ldB [0] rfl (by exact rfl) sh_3 (by exact rfl) (by exact rfl) rfl rfl (.inl rfl)) ?_
          refine s1 (eqI rfl rfl (kI (x := 4) rfl)) ?_
          refine snil ?_
          refine pnm ?_
          refine scond rfl ?_ ?_
          · refine sjq (fun (s28 : Bool) => [(3, i64 x3), (4, .own 100), (8, bl s28)]) (fun (s28 : Bool) => [(100, .bx 62 (L_retrospectref17_Node x0))]) ?_ ?_
            · intro j26 hj27
              refine sreg ?_
              refine s1 (faO rfl fd_62_1 rfl rfl) ?_
              refine s1 (ldB [1] rfl (by exact rfl) sh_3 (by exact rfl) (by exact rfl) rfl rfl (.inl rfl)) ?_
              refine s1 (geI rfl rfl (kI (x := 0) rfl)) ?_
              refine s1 (mv rfl rfl) ?_
              refine sifd 62 rfl ?_ ?_
              · refine sg 62 rfl rfl (faO rfl fd_62_1 rfl rfl) ?_
                refine sg 62 rfl rfl (ldB [1] rfl (by exact rfl) sh_3 (by exact rfl) (by exact rfl) rfl rfl (.inl rfl)) ?_
                refine sg 62 rfl rfl (mv rfl rfl) ?_
                refine sg 62 rfl rfl (ltI rfl rfl rfl) ?_
                refine s1 (pickT rfl rfl rfl) ?_
                refine s1 (asg rfl rfl) ?_
                refine snil ?_
                refine pnm ?_
                exact sj (hj27 _) (entR [(100, 100)] rfl (keepS hγ trivial) ⟨⟨_, rfl⟩, trivial⟩ ⟨⟨_, _, rfl, rfl, rci (rc_bx (rn_id if_L_retrospectref17_Node))⟩, trivial⟩ ⟨⟨_, rfl, rn_id if_i64⟩, ⟨_, rfl, rn_own rfl⟩, ⟨_, rfl, rn_id if_bl⟩, trivial⟩)
              · refine spB 62 rfl rfl rfl ?_
                refine spB 62 rfl rfl rfl ?_
                refine spB 62 rfl rfl rfl ?_
                refine spB 62 rfl rfl rfl ?_
                refine s1 (pickF rfl rfl kB) ?_
                refine s1 (asg rfl rfl) ?_
                refine snil ?_
                refine pnm ?_
                exact sj (hj27 _) (entR [(100, 100)] rfl (keepS hγ trivial) ⟨⟨_, rfl⟩, trivial⟩ ⟨⟨_, _, rfl, rfl, rci (rc_bx (rn_id if_L_retrospectref17_Node))⟩, trivial⟩ ⟨⟨_, rfl, rn_id if_i64⟩, ⟨_, rfl, rn_own rfl⟩, ⟨_, rfl, rn_id if_bl⟩, trivial⟩)
            · intro s28
              refine sret ?_
              refine pth ?_
              exact ret [] [.tmp 8] [_] [_] .ret hγ (.inl rfl) rfl ⟨rfl, trivial⟩ rfl trivial trivial trivial (rns_cons (rn_id if_bl) (rns_nil)) rfl
          · refine sskip ?_
            refine pnm ?_
            refine sseq ?_
            refine sseq ?_
            refine sreg ?_
            refine s1 (faO rfl fd_62_0 rfl rfl) ?_
            refine s1 (ldB [0] rfl (by exact rfl) sh_3 (by exact rfl) (by exact rfl) rfl rfl (.inl rfl)) ?_
            refine s1 (eqI rfl rfl (kI (x := 5) rfl)) ?_
            refine snil ?_
            refine pnm ?_
            refine scond rfl ?_ ?_
            · refine sjq (fun (s31 : Bool) => [(4, .own 100), (8, bl s31)]) (fun (s31 : Bool) => [(100, .bx 62 (L_retrospectref17_Node x0))]) ?_ ?_
              · intro j29 hj30
                refine sreg ?_
                refine s1 (faO rfl fd_62_1 rfl rfl) ?_
                refine s1 (ldB [1] rfl (by exact rfl) sh_3 (by exact rfl) (by exact rfl) rfl rfl (.inl rfl)) ?_
                refine s1 (geI rfl rfl (kI (x := 0) rfl)) ?_
                refine s1 (mv rfl rfl) ?_
                refine sifd 74 rfl ?_ ?_
                · refine sg 74 rfl rfl (faO rfl fd_62_1 rfl rfl) ?_
                  refine sg 74 rfl rfl (ldB [1] rfl (by exact rfl) sh_3 (by exact rfl) (by exact rfl) rfl rfl (.inl rfl)) ?_
                  refine sg 74 rfl rfl (mv rfl rfl) ?_
                  refine sg 74 rfl rfl (ltI rfl rfl rfl) ?_
                  refine s1 (pickT rfl rfl rfl) ?_
                  refine s1 (asg rfl rfl) ?_
                  refine snil ?_
                  refine pnm ?_
                  exact sj (hj30 _) (entR [(100, 100)] rfl (keepS hγ trivial) ⟨⟨_, rfl⟩, trivial⟩ ⟨⟨_, _, rfl, rfl, rci (rc_bx (rn_id if_L_retrospectref17_Node))⟩, trivial⟩ ⟨⟨_, rfl, rn_own rfl⟩, ⟨_, rfl, rn_id if_bl⟩, trivial⟩)
                · refine spB 74 rfl rfl rfl ?_
                  refine spB 74 rfl rfl rfl ?_
                  refine spB 74 rfl rfl rfl ?_
                  refine spB 74 rfl rfl rfl ?_
                  refine s1 (pickF rfl rfl kB) ?_
                  refine s1 (asg rfl rfl) ?_
                  refine snil ?_
                  refine pnm ?_
                  exact sj (hj30 _) (entR [(100, 100)] rfl (keepS hγ trivial) ⟨⟨_, rfl⟩, trivial⟩ ⟨⟨_, _, rfl, rfl, rci (rc_bx (rn_id if_L_retrospectref17_Node))⟩, trivial⟩ ⟨⟨_, rfl, rn_own rfl⟩, ⟨_, rfl, rn_id if_bl⟩, trivial⟩)
              · intro s31
                refine sret ?_
                refine pth ?_
                exact ret [] [.tmp 8] [_] [_] .ret hγ (.inl rfl) rfl ⟨rfl, trivial⟩ rfl trivial trivial trivial (rns_cons (rn_id if_bl) (rns_nil)) rfl
            · refine sskip ?_
              refine pnm ?_
              refine sseq ?_
              refine sseq ?_
              refine sreg ?_
              refine s1 (faO rfl fd_62_0 rfl rfl) ?_
              refine s1 (ldB [0] rfl (by exact rfl) sh_3 (by exact rfl) (by exact rfl) rfl rfl (.inl rfl)) ?_
              refine s1 (eqI rfl rfl (kI (x := 11) rfl)) ?_
              refine snil ?_
              refine pnm ?_
              refine scond rfl ?_ ?_
              · refine sjq (fun (s34 : Bool) => [(4, .own 100), (8, bl s34)]) (fun (s34 : Bool) => [(100, .bx 62 (L_retrospectref17_Node x0))]) ?_ ?_
                · intro j32 hj33
                  refine sreg ?_
                  refine s1 (faO rfl fd_62_1 rfl rfl) ?_
                  refine s1 (ldB [1] rfl (by exact rfl) sh_3 (by exact rfl) (by exact rfl) rfl rfl (.inl rfl)) ?_
                  refine s1 (geI rfl rfl (kI (x := (-8)) rfl)) ?_
                  refine s1 (mv rfl rfl) ?_
                  refine sifd 86 rfl ?_ ?_
                  · refine sg 86 rfl rfl (faO rfl fd_62_1 rfl rfl) ?_
                    refine sg 86 rfl rfl (ldB [1] rfl (by exact rfl) sh_3 (by exact rfl) (by exact rfl) rfl rfl (.inl rfl)) ?_
                    refine sg 86 rfl rfl (leI rfl rfl (kI (x := 8) rfl)) ?_
                    refine s1 (pickT rfl rfl rfl) ?_
                    refine s1 (asg rfl rfl) ?_
                    refine snil ?_
                    refine pnm ?_
                    exact sj (hj33 _) (entR [(100, 100)] rfl (keepS hγ trivial) ⟨⟨_, rfl⟩, trivial⟩ ⟨⟨_, _, rfl, rfl, rci (rc_bx (rn_id if_L_retrospectref17_Node))⟩, trivial⟩ ⟨⟨_, rfl, rn_own rfl⟩, ⟨_, rfl, rn_id if_bl⟩, trivial⟩)
                  · refine spB 86 rfl rfl rfl ?_
                    refine spB 86 rfl rfl rfl ?_
                    refine spB 86 rfl rfl rfl ?_
                    refine s1 (pickF rfl rfl kB) ?_
                    refine s1 (asg rfl rfl) ?_
                    refine snil ?_
                    refine pnm ?_
                    exact sj (hj33 _) (entR [(100, 100)] rfl (keepS hγ trivial) ⟨⟨_, rfl⟩, trivial⟩ ⟨⟨_, _, rfl, rfl, rci (rc_bx (rn_id if_L_retrospectref17_Node))⟩, trivial⟩ ⟨⟨_, rfl, rn_own rfl⟩, ⟨_, rfl, rn_id if_bl⟩, trivial⟩)
                · intro s34
                  refine sret ?_
                  refine pth ?_
                  exact ret [] [.tmp 8] [_] [_] .ret hγ (.inl rfl) rfl ⟨rfl, trivial⟩ rfl trivial trivial trivial (rns_cons (rn_id if_bl) (rns_nil)) rfl
              · refine sskip ?_
                refine pnm ?_
                refine sseq ?_
                refine sreg ?_
                refine s1 (faO rfl fd_62_1 rfl rfl) ?_
                refine s1 (ldB [1] rfl (by exact rfl) sh_3 (by exact rfl) (by exact rfl) rfl rfl (.inl rfl)) ?_
                refine s1 (eqI rfl rfl (kI (x := 0) rfl)) ?_
                refine s1 (asg rfl rfl) ?_
                refine snil ?_
                refine pnm ?_
                refine sret ?_
                exact ret [] [.tmp 8] [_] [_] .ret hγ (.inl rfl) rfl ⟨rfl, trivial⟩ rfl trivial trivial trivial (rns_cons (rn_id if_bl) (rns_nil)) rfl
theorem c_retrospectref19_Place {n : Nat} {x0 : (List M_retrospectref17_Node)} {x1 : Int} {x2 : Int} {x3 : Int} : ∀ r, m_retrospectref19_Place n x0 x1 x2 x3 = some r → FnOk Tryd.prog 30 [sli 3 (List.map L_retrospectref17_Node x0), i64 x1, i64 x2, i64 x3] [] (i64 r) [] := by
  unfold m_retrospectref19_Place
  refine fn_of_sq (res := fun (r : Int) => i64 r) (mo := fun (r : Int) => []) Tryd.func30 rfl rfl (by kernel_rfl) rfl ?_
  intro w S0 γ hγ
  refine sseq ?_
  refine sreg ?_
  refine s1 (asg rfl (kI (x := 0) rfl)) ?_
  refine snil ?_
  refine pnm ?_
  refine sseq ?_
  refine sreg ?_
  refine s1 (mv rfl rfl) ?_
  refine bd fun r1 h2 => ?_
  refine s1 (call0 (c_retrospectref17_Wrong _ h2) ⟨⟨_, rfl, rn_id if_sli⟩, trivial⟩ (if_i64) rfl) ?_
  refine s1 (asg rfl rfl) ?_
  refine snil ?_
  refine pnm ?_
  refine sseq ?_
  refine sseq ?_
  refine sreg ?_
  refine s1 (asg rfl (kI (x := 0) rfl)) ?_
  refine snil ?_
  refine pnm ?_
  refine sblk ?_
  refine sloopE 0 Lp.go (fun (s29 : Int) => [(0, sli 3 (List.map L_retrospectref17_Node x0)), (1, i64 x1), (2, i64 x2), (3, i64 x3), (8, i64 (0 : Int)), (9, i64 r1), (10, i64 s29)]) (fun (s29 : Int) => []) (fun (t27 : Unit) => [(8, i64 (0 : Int)), (9, i64 r1)]) (fun (t27 : Unit) => []) (entI ⟨rfl, rfl, rfl, rfl, rfl, rfl, rfl, trivial⟩ eqm0) ?_ ?_
  · intro hj28 s29
    refine sseq ?_
    refine sseq ?_
    refine sreg ?_
    refine s1 (mv rfl rfl) ?_
    refine s1 (mv rfl rfl) ?_
    refine s1 (lenL (f := L_retrospectref17_Node) Tryd.underlying54 rfl rfl) ?_
    refine s1 (ltI rfl rfl rfl) ?_
    refine snil ?_
    refine pnm ?_
    refine scond rfl ?_ ?_
    · refine sskip ?_
      refine pnm ?_
      refine sseq ?_
      refine sblk ?_
      refine sjq (fun (s36 : Bool) => [(0, sli 3 (List.map L_retrospectref17_Node x0)), (1, i64 x1), (2, i64 x2), (3, i64 x3), (8, i64 (0 : Int)), (9, i64 r1), (10, i64 s29), (32, bl s36)]) (fun (s36 : Bool) => []) ?_ ?_
      · intro j34 hj35
        refine sreg ?_
        refine s1 (mv rfl rfl) ?_
        refine s1 (mv rfl rfl) ?_
        refine s1 (eqI rfl rfl rfl) ?_
        refine s1 (mv rfl rfl) ?_
        refine sifd 22 rfl ?_ ?_
        · refine spB 22 rfl rfl rfl ?_
          refine spB 22 rfl rfl rfl ?_
          refine spB 22 rfl rfl rfl ?_
          refine spB 22 rfl rfl rfl ?_
          refine spB 22 rfl rfl rfl ?_
          refine spB 22 rfl rfl rfl ?_
          refine spB 22 rfl rfl rfl ?_
          refine spB 22 rfl rfl rfl ?_
          refine spB 22 rfl rfl rfl ?_
          refine s1 (pickT rfl rfl kB) ?_
          refine snil ?_
          refine pnm ?_
          exact sj (hj35 _) (entI ⟨rfl, rfl, rfl, rfl, rfl, rfl, rfl, rfl, trivial⟩ eqm0)
        · refine sg 22 rfl rfl (mv rfl rfl) ?_
          refine sg 22 rfl rfl (mv rfl rfl) ?_
          refine bd fun y37 h38 => ?_
          refine sg 22 rfl rfl (ixR (f := L_retrospectref17_Node) Tryd.underlying54 ti_62 h38 rfl rfl rfl) ?_
          refine sg 22 rfl rfl (ldR sh_62 (by exact rfl) (by exact rfl) rfl rfl) ?_
          refine sg 22 rfl rfl (mv rfl rfl) ?_
          refine sg 22 rfl rfl (mv rfl rfl) ?_
          refine sg 22 rfl rfl (mv rfl rfl) ?_
          refine bd fun r39 h40 => ?_
          refine sg 22 rfl rfl (call0 (c_retrospectref19_Node _ h40) ⟨⟨_, rfl, rn_id if_L_retrospectref17_Node⟩, ⟨_, rfl, rn_id if_i64⟩, ⟨_, rfl, rn_id if_i64⟩, ⟨_, rfl, rn_id if_i64⟩, trivial⟩ (if_bl) rfl) ?_
          refine sg 22 rfl rfl (notB rfl rfl) ?_
          refine s1 (pickF rfl rfl rfl) ?_
          refine snil ?_
          refine pnm ?_
          exact sj (hj35 _) (entI ⟨rfl, rfl, rfl, rfl, rfl, rfl, rfl, rfl, trivial⟩ eqm0)
      · intro s36
        refine scond rfl ?_ ?_
        · refine sseq ?_
          refine sreg ?_
          refine s1 (mv rfl rfl) ?_
          refine s1 (asg rfl rfl) ?_
          refine snil ?_
          refine pnm ?_
          refine sret ?_
          refine pbl ?_
          refine pth ?_
          refine sout (fun h => by cases h) ?_
          refine pbl ?_
          refine pth ?_
          exact ret [] [.tmp 8] [_] [_] .ret hγ (.inl rfl) rfl ⟨rfl, trivial⟩ rfl trivial trivial trivial (rns_cons (rn_id if_i64) (rns_nil)) rfl
        · refine sskip ?_
          refine pbn ?_
          refine pnm ?_
          refine sreg ?_
          refine s1 (mv rfl rfl) ?_
          refine s1 (addI rfl rfl (kI (x := 1) rfl)) ?_
          refine s1 (asg rfl rfl) ?_
          refine snil ?_
          exact sgo (entI ⟨rfl, rfl, rfl, rfl, rfl, rfl, rfl, trivial⟩ eqm0)
    · refine sexit ?_
      refine ptx ?_
      exact sout (fun h => by cases h) (sj (hj28 _) (entI ⟨rfl, rfl, trivial⟩ eqm0))
  · intro t27
    refine slpk ?_
    refine sx ?_
    refine pnm ?_
    refine sseq ?_
    refine sreg ?_
    refine s1 (mv rfl rfl) ?_
    refine s1 (asg rfl rfl) ?_
    refine snil ?_
    refine pnm ?_
    refine sret ?_
    exact ret [] [.tmp 8] [_] [_] .ret hγ (.inl rfl) rfl ⟨rfl, trivial⟩ rfl trivial trivial trivial (rns_cons (rn_id if_i64) (rns_nil)) rfl
theorem c_retrospectref17_Deep : ∀ {n : Nat} {x0 : (List M_retrospectref17_Node)} {x1 : Int}, ∀ r, m_retrospectref17_Deep n x0 x1 = some r → FnOk Tryd.prog 74 [sli 3 (List.map L_retrospectref17_Node x0), i64 x1] [] (.tup [i64 r.1, i64 r.2]) [] := by
  intro n
  induction n with
  | zero => intro x0 x1 r h; exact absurd h (by simp [m_retrospectref17_Deep])
  | succ n ih =>
    intro x0 x1
    unfold m_retrospectref17_Deep
    refine fn_of_sq (res := fun (r : Int × Int) => .tup [i64 r.1, i64 r.2]) (mo := fun (r : Int × Int) => []) Tryd.func74 rfl rfl (by kernel_rfl) rfl ?_
    intro w S0 γ hγ
    refine sseq ?_
    refine sreg ?_
    refine s1 (asg rfl (kI (x := 0) rfl)) ?_
    refine s1 (asg rfl (kI (x := 0) rfl)) ?_
    refine snil ?_
    refine pnm ?_
    refine sseq ?_
    refine sreg ?_
    refine s1 (asg rfl (kI (x := 0) rfl)) ?_
    refine snil ?_
    refine pnm ?_
    refine sseq ?_
    refine sreg ?_
    refine s1 (mv rfl rfl) ?_
    refine s1 (asg rfl rfl) ?_
    refine snil ?_
    refine pnm ?_
    refine sseq ?_
    refine sseq ?_
    refine sreg ?_
    refine s1 (mv rfl rfl) ?_
    refine s1 (mv rfl rfl) ?_
    refine bd fun y1 h2 => ?_
    refine s1 (ixR (f := L_retrospectref17_Node) Tryd.underlying54 ti_62 h2 rfl rfl rfl) ?_
    refine s1 (faR fd_62_0 (by exact rfl) rfl rfl) ?_
    refine s1 (ldR sh_3 (by exact rfl) (by exact rfl) rfl rfl) ?_
    refine bd fun r3 h4 => ?_
    refine s1 (call0 (c_retrospectref17_Arity _ h4) ⟨⟨_, rfl, rn_id if_i64⟩, trivial⟩ (if_i64) rfl) ?_
    refine s1 (asg rfl rfl) ?_
    refine snil ?_
    refine pnm ?_
    refine sblk ?_
    refine sloopE 0 (fun t => t) (fun (s13 : Int × Int × Int) => [(0, sli 3 (List.map L_retrospectref17_Node x0)), (4, i64 (0 : Int)), (5, i64 (0 : Int)), (6, i64 s13.1), (7, i64 s13.2.1), (8, i64 s13.2.2)]) (fun (s13 : Int × Int × Int) => []) (fun (t11 : Int × Int) => [(4, i64 (0 : Int)), (5, i64 (0 : Int)), (6, i64 t11.1), (7, i64 t11.2)]) (fun (t11 : Int × Int) => []) (entI ⟨rfl, rfl, rfl, rfl, rfl, rfl, trivial⟩ eqm0) ?_ ?_
    · intro hj12 s13
      refine sseq ?_
      refine sseq ?_
      refine sreg ?_
      refine s1 (mv rfl rfl) ?_
      refine s1 (gtI rfl rfl (kI (x := 0) rfl)) ?_
      refine snil ?_
      refine pnm ?_
      refine scond rfl ?_ ?_
      · refine sskip ?_
        refine pnm ?_
        refine sseq ?_
        refine sblk ?_
        refine sseq ?_
        refine sreg ?_
        refine s1 (mv rfl rfl) ?_
        refine s1 (mv rfl rfl) ?_
        refine s1 (subI rfl rfl (kI (x := 1) rfl)) ?_
        refine bd fun r14 h15 => ?_
        refine s1 (call0 (ih _ h15) ⟨⟨_, rfl, rn_id if_sli⟩, ⟨_, rfl, rn_id if_i64⟩, trivial⟩ (if_tup (ifs_cons if_i64 (ifs_cons if_i64 (ifs_nil)))) rfl) ?_
        refine s1 (mv rfl rfl) ?_
        refine s1 (ext (by exact rfl) rfl rfl) ?_
        refine s1 (ext (by exact rfl) rfl rfl) ?_
        refine s1 (asg rfl rfl) ?_
        refine s1 (asg rfl rfl) ?_
        refine snil ?_
        refine pnm ?_
        refine sseq ?_
        refine sreg ?_
        refine s1 (mv rfl rfl) ?_
        refine s1 (mv rfl rfl) ?_
        refine s1 (maxI rfl rfl rfl) ?_
        refine s1 (asg rfl rfl) ?_
        refine snil ?_
        refine pnm ?_
        refine sreg ?_
        refine s1 (mv rfl rfl) ?_
        refine s1 (asg rfl rfl) ?_
        refine snil ?_
        refine pbn ?_
        refine pnm ?_
        refine sreg ?_
        refine s1 (mv rfl rfl) ?_
        refine s1 (subI rfl rfl (kI (x := 1) rfl)) ?_
        refine s1 (asg rfl rfl) ?_
        refine snil ?_
        exact sgo (entI ⟨rfl, rfl, rfl, rfl, rfl, rfl, trivial⟩ eqm0)
      · refine sexit ?_
        refine ptx ?_
        exact sout (fun h => by cases h) (sj (hj12 _) (entI ⟨rfl, rfl, rfl, rfl, trivial⟩ eqm0))
    · intro t11
      refine sx ?_
      refine pnm ?_
      refine sseq ?_
      refine sreg ?_
      refine s1 (mv rfl rfl) ?_
      refine s1 (addI rfl rfl (kI (x := 1) rfl)) ?_
      refine s1 (mv rfl rfl) ?_
      refine s1 (asg rfl rfl) ?_
      refine s1 (asg rfl rfl) ?_
      refine snil ?_
      refine pnm ?_
      refine sret ?_
      exact ret [] [.tmp 4, .tmp 5] [_, _] [_, _] .ret hγ (.inl rfl) rfl ⟨rfl, rfl, trivial⟩ rfl trivial trivial trivial (rns_cons (rn_id if_i64) (rns_cons (rn_id if_i64) (rns_nil))) rfl
theorem c_retrospectref17_Depth {n : Nat} {x0 : (List M_retrospectref17_Node)} : ∀ r, m_retrospectref17_Depth n x0 = some r → FnOk Tryd.prog 53 [sli 3 (List.map L_retrospectref17_Node x0)] [] (i64 r) [] := by
  unfold m_retrospectref17_Depth
  refine fn_of_sq (res := fun (r : Int) => i64 r) (mo := fun (r : Int) => []) Tryd.func53 rfl rfl (by kernel_rfl) rfl ?_
  intro w S0 γ hγ
  refine sseq ?_
  refine sreg ?_
  refine s1 (asg rfl (kI (x := 0) rfl)) ?_
  refine snil ?_
  refine pnm ?_
  refine sseq ?_
  refine sseq ?_
  refine sreg ?_
  refine s1 (mv rfl rfl) ?_
  refine bd fun r1 h2 => ?_
  refine s1 (call0 (c_retrospectref17_Wrong _ h2) ⟨⟨_, rfl, rn_id if_sli⟩, trivial⟩ (if_i64) rfl) ?_
  refine s1 (geI rfl rfl (kI (x := 0) rfl)) ?_
  refine snil ?_
  refine pnm ?_
  refine scond rfl ?_ ?_
  · refine sseq ?_
    refine sreg ?_
    refine s1 (asg rfl (kI (x := 0) rfl)) ?_
    refine snil ?_
    refine pnm ?_
    refine sret ?_
    refine pth ?_
    exact ret [] [.tmp 2] [_] [_] .ret hγ (.inl rfl) rfl ⟨rfl, trivial⟩ rfl trivial trivial trivial (rns_cons (rn_id if_i64) (rns_nil)) rfl
  · refine sskip ?_
    refine pnm ?_
    refine sseq ?_
    refine sreg ?_
    refine s1 (mv rfl rfl) ?_
    refine s1 (mv rfl rfl) ?_
    refine s1 (lenL (f := L_retrospectref17_Node) Tryd.underlying54 rfl rfl) ?_
    refine s1 (subI rfl rfl (kI (x := 1) rfl)) ?_
    refine bd fun r3 h4 => ?_
    refine s1 (call0 (c_retrospectref17_Deep _ h4) ⟨⟨_, rfl, rn_id if_sli⟩, ⟨_, rfl, rn_id if_i64⟩, trivial⟩ (if_tup (ifs_cons if_i64 (ifs_cons if_i64 (ifs_nil)))) rfl) ?_
    refine s1 (mv rfl rfl) ?_
    refine s1 (ext (by exact rfl) rfl rfl) ?_
    refine s1 (ext (by exact rfl) rfl rfl) ?_
    refine s1 (asg rfl rfl) ?_
    refine s1 (asg rfl rfl) ?_
    refine snil ?_
    refine pnm ?_
    refine sseq ?_
    refine sreg ?_
    refine s1 (mv rfl rfl) ?_
    refine s1 (asg rfl rfl) ?_
    refine snil ?_
    refine pnm ?_
    refine sret ?_
    exact ret [] [.tmp 2] [_] [_] .ret hγ (.inl rfl) rfl ⟨rfl, trivial⟩ rfl trivial trivial trivial (rns_cons (rn_id if_i64) (rns_nil)) rfl
end Go.Proofs.YtgafinimmcfekaaDoor
