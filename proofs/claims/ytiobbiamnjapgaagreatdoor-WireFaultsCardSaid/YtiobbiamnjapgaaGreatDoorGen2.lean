import Derived.Test.YtiobbiamnjapgaaGreatDoorGen1
set_option maxRecDepth 100000
set_option maxHeartbeats 4000000
namespace Go.Proofs.YtiobbiamnjapgaaGreatDoor
open Go Go.RowKit
theorem c_retrospectref07_ten {n : Nat} {x0 : (List Nat)} : ∀ r, m_retrospectref07_ten n x0 = some r → FnOk Tryz.prog 60 [.own 0] [(0, .sl 107 1 (List.map u32 x0))] (u64 r.1) [(0, .sl 107 1 (List.map u32 r.2))] := by
  unfold m_retrospectref07_ten
  refine fn_of_sq (res := fun (r : Nat × (List Nat)) => u64 r.1) (mo := fun (r : Nat × (List Nat)) => [(0, .sl 107 1 (List.map u32 r.2))]) Tryz.func60 rfl rfl (by kernel_rfl) rfl ?_
  intro w S0 γ hγ
  refine sseq ?_
  refine sreg ?_
  refine s1 (asg rfl (k64 (x := 0) rfl)) ?_
  refine snil ?_
  refine pnm ?_
  refine sseq ?_
  refine sreg ?_
  refine s1 (asg rfl (k64 (x := 0) rfl)) ?_
  refine snil ?_
  refine pnm ?_
  refine sseq ?_
  refine sseq ?_
  refine sreg ?_
  refine s1 (mv rfl rfl) ?_
  refine s1 (lenO (f := u32) Tryz.underlying67 rfl rfl rfl) ?_
  refine s1 (subI rfl rfl (kI (x := 1) rfl)) ?_
  refine s1 (asg rfl rfl) ?_
  refine snil ?_
  refine pnm ?_
  refine sblk ?_
  refine sloopE 0 (fun t => t) (fun (s16 : (List Nat) × Nat × Int) => [(0, .own 0), (2, u64 0), (3, u64 s16.2.1), (4, i64 s16.2.2)]) (fun (s16 : (List Nat) × Nat × Int) => [(0, .sl 107 1 (List.map u32 s16.1))]) (fun (t14 : (List Nat) × Nat) => [(2, u64 0), (3, u64 t14.2)]) (fun (t14 : (List Nat) × Nat) => [(0, .sl 107 1 (List.map u32 t14.1))]) (entR [(0, 0)] rfl (keepS hγ ⟨rfl, trivial⟩) ⟨⟨_, rfl⟩, trivial⟩ ⟨⟨_, _, rfl, rfl, rci (rc_sl (ifs_map (f := u32) (fun _ => if_u32) x0))⟩, trivial⟩ ⟨⟨_, rfl, rn_own rfl⟩, ⟨_, rfl, rn_id if_u64⟩, ⟨_, rfl, rn_id if_u64⟩, ⟨_, rfl, rn_id if_i64⟩, trivial⟩) ?_ ?_
  · intro hj15 s16
    refine sseq ?_
    refine sseq ?_
    refine sreg ?_
    refine s1 (mv rfl rfl) ?_
    refine s1 (geI rfl rfl (kI (x := 0) rfl)) ?_
    refine snil ?_
    refine pnm ?_
    refine scond rfl ?_ ?_
    · refine sskip ?_
      refine pnm ?_
      refine sseq ?_
      refine sblk ?_
      refine sseq ?_
      refine sreg ?_
      refine s1 (mv rfl rfl) ?_
      refine s1 (mulU uk64 rfl rfl (k64 (x := 4294967296) rfl)) ?_
      refine s1 (mv rfl rfl) ?_
      refine s1 (mv rfl rfl) ?_
      refine bd fun y17 h18 => ?_
      refine s1 (ixO (f := u32) rfl Tryz.underlying67 ti_107 h18 rfl rfl rfl) ?_
      refine s1 (ldO (f := u32) [] rfl (getI_ix h18) (by exact rfl) (by exact rfl) sh_107 (by exact rfl) (by exact rfl) rfl rfl) ?_
      refine s1 (cvUw uk64 uk32 rfl Tryz.underlying107 Tryz.underlying106 rfl rfl) ?_
      refine s1 (addU uk64 rfl rfl rfl) ?_
      refine sbn (F := u64) 19 rfl fun z19 => ?_
      refine s1 (asg rfl rfl) ?_
      refine snil ?_
      refine pnm ?_
      refine sseq ?_
      refine sreg ?_
      refine s1 (mv rfl rfl) ?_
      refine s1 (mv rfl rfl) ?_
      refine s1 (mv rfl rfl) ?_
      refine s1 (quoU uk64 rfl rfl rfl (k64 (x := 10) rfl)) ?_
      refine s1 (cvU uk32 Tryz.underlying106 Tryz.underlying107 rfl rfl) ?_
      refine bd fun y20 h21 => ?_
      refine s1 (ixO (f := u32) rfl Tryz.underlying67 ti_107 h21 rfl rfl rfl) ?_
      refine so (stO (f := u32) ((z19 / 10) % 4294967296) [] rfl (getI_ix h21) (by exact rfl) (by exact rfl) (by exact rfl) (by exact rfl) sh_107 (by exact rfl) (by exact rfl) (by exact rfl) rfl rfl) ?_
      refine snil ?_
      refine pnm ?_
      refine sreg ?_
      refine s1 (mv rfl rfl) ?_
      refine s1 (remU uk64 rfl rfl rfl (k64 (x := 10) rfl)) ?_
      refine s1 (asg rfl rfl) ?_
      refine snil ?_
      refine pbn ?_
      refine pnm ?_
      refine sreg ?_
      refine s1 (mv rfl rfl) ?_
      refine s1 (subI rfl rfl (kI (x := 1) rfl)) ?_
      refine s1 (asg rfl rfl) ?_
      refine snil ?_
      exact sgo (entR [(0, 0)] rfl (keepS hγ ⟨rfl, trivial⟩) ⟨⟨_, rfl⟩, trivial⟩ ⟨⟨_, _, rfl, rfl, rci (rc_sl (ifs_map (f := u32) (fun _ => if_u32) (List.set s16.1 (Int.toNat s16.2.2) ((z19 / 10) % 4294967296))))⟩, trivial⟩ ⟨⟨_, rfl, rn_own rfl⟩, ⟨_, rfl, rn_id if_u64⟩, ⟨_, rfl, rn_id if_u64⟩, ⟨_, rfl, rn_id if_i64⟩, trivial⟩)
    · refine sexit ?_
      refine ptx ?_
      exact sout (fun h => by cases h) (sj (hj15 _) (entR [(0, 0)] rfl (keepS hγ ⟨rfl, trivial⟩) ⟨⟨_, rfl⟩, trivial⟩ ⟨⟨_, _, rfl, rfl, rci (rc_sl (ifs_map (f := u32) (fun _ => if_u32) s16.1))⟩, trivial⟩ ⟨⟨_, rfl, rn_id if_u64⟩, ⟨_, rfl, rn_id if_u64⟩, trivial⟩))
  · intro t14
    refine sx ?_
    refine pnm ?_
    refine sseq ?_
    refine sreg ?_
    refine s1 (mv rfl rfl) ?_
    refine s1 (asg rfl rfl) ?_
    refine snil ?_
    refine pnm ?_
    refine sret ?_
    exact ret [(0, 0)] [.tmp 2] [_] [_] .ret hγ (.inl rfl) rfl ⟨rfl, trivial⟩ rfl ⟨rfl, trivial⟩ ⟨⟨_, rfl⟩, trivial⟩ ⟨⟨_, _, rfl, rfl, rci (rc_sl (ifs_map (f := u32) (fun _ => if_u32) t14.1))⟩, trivial⟩ (rns_cons (rn_id if_u64) (rns_nil)) rfl
theorem c_retrospectref07_Text {n : Nat} {x0 : (List Nat)} : ∀ r, m_retrospectref07_Text n x0 = some r → FnOk Tryz.prog 41 [sli 1 (List.map u32 x0)] [] (str r) [] := by
  unfold m_retrospectref07_Text
  refine fn_of_sq (res := fun (r : (List UInt8)) => str r) (mo := fun (r : (List UInt8)) => []) Tryz.func41 rfl rfl (by kernel_rfl) rfl ?_
  intro w S0 γ hγ
  refine sseq ?_
  refine sreg ?_
  refine s1 (asg rfl (kS (s := []) rfl)) ?_
  refine snil ?_
  refine pnm ?_
  refine sseq ?_
  refine sreg ?_
  refine s1 (mv rfl rfl) ?_
  refine bd fun r1 h2 => ?_
  refine so (callG (em := [(100, .sl 107 1 (List.map u32 r1))]) (res' := .own 100) [] [(100, 50)] [(100, 50)] (c_retrospectref02_Norm _ h2) ⟨⟨_, rfl, rn_id if_sli⟩, trivial⟩ (MiF.get (mi := []) trivial) trivial rfl ⟨rfl, trivial⟩ ⟨.inl rfl, trivial⟩ rfl ⟨.inl ⟨_, _, rfl, rfl, rc_sl (ifs_map (f := u32) (fun _ => if_u32) r1)⟩, trivial⟩ trivial ⟨⟨_, rfl⟩, trivial⟩ (rn_own rfl) rfl) ?_
  refine s1 (asg rfl rfl) ?_
  refine snil ?_
  refine pnm ?_
  refine sseq ?_
  refine sreg ?_
  refine s1 (asg rfl (kS (s := []) rfl)) ?_
  refine snil ?_
  refine pnm ?_
  refine sseq ?_
  refine sblk ?_
  refine sloopE 0 (fun t => t) (fun (s29 : (List Nat) × (List UInt8)) => [(2, str ([] : List UInt8)), (3, .own 100), (4, str s29.2)]) (fun (s29 : (List Nat) × (List UInt8)) => [(100, .sl 107 1 (List.map u32 s29.1))]) (fun (t27 : (List UInt8)) => [(2, str ([] : List UInt8)), (4, str t27)]) (fun (t27 : (List UInt8)) => []) (entR [(100, 100)] rfl (keepS hγ trivial) ⟨⟨_, rfl⟩, trivial⟩ ⟨⟨_, _, rfl, rfl, rci (rc_sl (ifs_map (f := u32) (fun _ => if_u32) r1))⟩, trivial⟩ ⟨⟨_, rfl, rn_id if_str⟩, ⟨_, rfl, rn_own rfl⟩, ⟨_, rfl, rn_id if_str⟩, trivial⟩) ?_ ?_
  · intro hj28 s29
    refine sseq ?_
    refine sjq (fun (s32 : Bool) => [(2, str ([] : List UInt8)), (3, .own 100), (4, str s29.2), (14, bl s32)]) (fun (s32 : Bool) => [(100, .sl 107 1 (List.map u32 s29.1))]) ?_ ?_
    · intro j30 hj31
      refine sreg ?_
      refine s1 (mv rfl rfl) ?_
      refine s1 (lenO (f := u32) Tryz.underlying67 rfl rfl rfl) ?_
      refine s1 (gtI rfl rfl (kI (x := 0) rfl)) ?_
      refine s1 (mv rfl rfl) ?_
      refine sifd 11 rfl ?_ ?_
      · refine spB 11 rfl rfl rfl ?_
        refine spB 11 rfl rfl rfl ?_
        refine s1 (pickT rfl rfl kB) ?_
        refine snil ?_
        refine pnm ?_
        exact sj (hj31 _) (entR [(100, 100)] rfl (keepS hγ trivial) ⟨⟨_, rfl⟩, trivial⟩ ⟨⟨_, _, rfl, rfl, rci (rc_sl (ifs_map (f := u32) (fun _ => if_u32) s29.1))⟩, trivial⟩ ⟨⟨_, rfl, rn_id if_str⟩, ⟨_, rfl, rn_own rfl⟩, ⟨_, rfl, rn_id if_str⟩, ⟨_, rfl, rn_id if_bl⟩, trivial⟩)
      · refine sg 11 rfl rfl (mv rfl rfl) ?_
        refine sg 11 rfl rfl (eqS rfl rfl (kS (s := []) rfl)) ?_
        refine s1 (pickF rfl rfl rfl) ?_
        refine snil ?_
        refine pnm ?_
        exact sj (hj31 _) (entR [(100, 100)] rfl (keepS hγ trivial) ⟨⟨_, rfl⟩, trivial⟩ ⟨⟨_, _, rfl, rfl, rci (rc_sl (ifs_map (f := u32) (fun _ => if_u32) s29.1))⟩, trivial⟩ ⟨⟨_, rfl, rn_id if_str⟩, ⟨_, rfl, rn_own rfl⟩, ⟨_, rfl, rn_id if_str⟩, ⟨_, rfl, rn_id if_bl⟩, trivial⟩)
    · intro s32
      refine scond rfl ?_ ?_
      · refine sskip ?_
        refine pnm ?_
        refine sblk ?_
        refine sseq ?_
        refine sreg ?_
        refine s1 (mv rfl rfl) ?_
        refine bd fun r33 h34 => ?_
        refine so (callG (em := [(100, .sl 107 1 (List.map u32 r33.2))]) (res' := u64 r33.1) [(0, 100)] [] [(100, 0)] (c_retrospectref07_ten _ h34) ⟨⟨_, rfl, rn_own rfl⟩, trivial⟩ (MiF.get (mi := [(0, _)]) ⟨⟨_, _, rfl, rfl, rc_sl (ifs_map (f := u32) (fun _ => if_u32) s29.1)⟩, trivial⟩) ⟨⟨_, rfl⟩, trivial⟩ rfl trivial ⟨.inr rfl, trivial⟩ rfl ⟨.inl ⟨_, _, rfl, rfl, rc_sl (ifs_map (f := u32) (fun _ => if_u32) r33.2)⟩, trivial⟩ ⟨⟨_, rfl⟩, trivial⟩ trivial (rn_id if_u64) rfl) ?_
        refine s1 (asg rfl rfl) ?_
        refine snil ?_
        refine pnm ?_
        refine sseq ?_
        refine sreg ?_
        refine s1 (mv rfl rfl) ?_
        refine s1 (mv rfl rfl) ?_
        refine s1 (addU uk64 rfl rfl (k64 (x := 1) rfl)) ?_
        refine bd fun y35 h36 => ?_
        refine s1 (slS h36 Tryz.underlying9 rfl (kS (s := [48, 49, 50, 51, 52, 53, 54, 55, 56, 57]) rfl) (bnd rfl) (bnd rfl)) ?_
        refine s1 (mv rfl rfl) ?_
        refine bd fun y37 h38 => ?_
        refine s1 (catStr h38 rfl rfl rfl) ?_
        refine s1 (asg rfl rfl) ?_
        refine snil ?_
        refine pnm ?_
        refine sreg ?_
        refine s1 (mv rfl rfl) ?_
        refine bd fun r39 h40 => ?_
        refine so (callL (em := [(101, .sl 107 1 (List.map u32 r39))]) (res' := .own 101) [100] [] [(101, 50)] [(101, 50)] rfl (c_retrospectref02_Norm _ h40) ⟨pls_map (f := u32) (fun _ => pl_u32) _, trivial⟩ (pl_own) ⟨.inr ⟨100, rfl, .inl ⟨rfl, .inl ⟨_, _, _, rfl, ifs_map (f := u32) (fun _ => if_u32) r33.2, rfl⟩⟩⟩, trivial⟩ (MiF.get (mi := []) trivial) trivial rfl ⟨rfl, trivial⟩ ⟨.inl rfl, trivial⟩ rfl ⟨.inl ⟨_, _, rfl, rfl, rc_sl (ifs_map (f := u32) (fun _ => if_u32) r39)⟩, trivial⟩ trivial ⟨⟨_, rfl⟩, trivial⟩ (rn_own rfl) rfl) ?_
        refine s1 (asg rfl rfl) ?_
        refine snil ?_
        refine pbn ?_
        exact sgo (entR [(100, 101)] rfl (keepS hγ trivial) ⟨⟨_, rfl⟩, trivial⟩ ⟨⟨_, _, rfl, rfl, rci (rc_sl (ifs_map (f := u32) (fun _ => if_u32) r39))⟩, trivial⟩ ⟨⟨_, rfl, rn_id if_str⟩, ⟨_, rfl, rn_own rfl⟩, ⟨_, rfl, rn_id if_str⟩, trivial⟩)
      · refine sexit ?_
        refine ptx ?_
        exact sout (fun h => by cases h) (sj (hj28 _) (entR [] rfl (keepS hγ trivial) (by exact trivial) (by exact trivial) ⟨⟨_, rfl, rn_id if_str⟩, ⟨_, rfl, rn_id if_str⟩, trivial⟩))
  · intro t27
    refine sx ?_
    refine pnm ?_
    refine sseq ?_
    refine sreg ?_
    refine s1 (mv rfl rfl) ?_
    refine s1 (asg rfl rfl) ?_
    refine snil ?_
    refine pnm ?_
    refine sret ?_
    exact ret [] [.tmp 2] [_] [_] .ret hγ (.inl rfl) rfl ⟨rfl, trivial⟩ rfl trivial trivial trivial (rns_cons (rn_id if_str) (rns_nil)) rfl
theorem c_retrospectref08_Sign {n : Nat} {x0 : M_retrospectref08_Whole} : ∀ r, m_retrospectref08_Sign n x0 = some r → FnOk Tryz.prog 42 [L_retrospectref08_Whole x0] [] (i64 r) [] := by
  unfold m_retrospectref08_Sign
  refine fn_of_sq (res := fun (r : Int) => i64 r) (mo := fun (r : Int) => []) Tryz.func42 rfl rfl (by kernel_rfl) rfl ?_
  intro w S0 γ hγ
  refine sseq ?_
  refine sreg ?_
  refine so (box (y := 100) (by exact rfl) rfl rfl rfl) ?_
  refine s1 (asg rfl (kI (x := 0) rfl)) ?_
  refine snil ?_
  refine pnm ?_
  refine sseq ?_
  refine sreg ?_
  refine s1 (ldB [] rfl rfl sh_69 (by exact rfl) (by exact rfl) rfl rfl (.inr ⟨rfl, rfl, _, _, rfl⟩)) ?_
  refine bd fun r1 h2 => ?_
  refine s1 (call0 (c_retrospectref08_Norm _ h2) ⟨⟨_, rfl, rn_id if_L_retrospectref08_Whole⟩, trivial⟩ (if_L_retrospectref08_Whole) rfl) ?_
  refine so (al (y := 101) (ly := L_retrospectref08_Whole (⟨false, []⟩ : M_retrospectref08_Whole)) ti_69 zr_retrospectref08_Whole rfl rfl) ?_
  refine so (stB2 (ly2 := L_retrospectref08_Whole r1) [] (by exact rfl) rfl (by exact rfl) sh_69 (by exact rfl) (by exact rfl) (by exact rfl) rfl (.inr ⟨rfl, rfl, _, _, rfl⟩) rfl) ?_
  refine snil ?_
  refine pnm ?_
  refine sseq ?_
  refine sseq ?_
  refine sreg ?_
  refine s1 (faO rfl fd_69_1 rfl rfl) ?_
  refine s1 (ldB [1] rfl (by exact rfl) sh_67 (by exact rfl) (by exact rfl) rfl rfl (.inl rfl)) ?_
  refine s1 (lenL (f := u32) Tryz.underlying67 rfl rfl) ?_
  refine s1 (eqI rfl rfl (kI (x := 0) rfl)) ?_
  refine snil ?_
  refine pnm ?_
  refine scond rfl ?_ ?_
  · refine sseq ?_
    refine sreg ?_
    refine s1 (asg rfl (kI (x := 0) rfl)) ?_
    refine snil ?_
    refine pnm ?_
    refine sret ?_
    refine pth ?_
    exact ret [] [.tmp 2] [_] [_] .ret hγ (.inl rfl) rfl ⟨rfl, trivial⟩ rfl trivial trivial trivial (rns_cons (rn_id if_i64) (rns_nil)) rfl
  · refine sskip ?_
    refine pnm ?_
    refine sseq ?_
    refine sseq ?_
    refine sreg ?_
    refine s1 (faO rfl fd_69_0 rfl rfl) ?_
    refine s1 (ldB [0] rfl (by exact rfl) sh_4 (by exact rfl) (by exact rfl) rfl rfl (.inl rfl)) ?_
    refine snil ?_
    refine pnm ?_
    refine scond rfl ?_ ?_
    · refine sseq ?_
      refine sreg ?_
      refine s1 (asg rfl (kI (x := (-1)) rfl)) ?_
      refine snil ?_
      refine pnm ?_
      refine sret ?_
      refine pth ?_
      exact ret [] [.tmp 2] [_] [_] .ret hγ (.inl rfl) rfl ⟨rfl, trivial⟩ rfl trivial trivial trivial (rns_cons (rn_id if_i64) (rns_nil)) rfl
    · refine sskip ?_
      refine pnm ?_
      refine sseq ?_
      refine sreg ?_
      refine s1 (asg rfl (kI (x := 1) rfl)) ?_
      refine snil ?_
      refine pnm ?_
      refine sret ?_
      exact ret [] [.tmp 2] [_] [_] .ret hγ (.inl rfl) rfl ⟨rfl, trivial⟩ rfl trivial trivial trivial (rns_cons (rn_id if_i64) (rns_nil)) rfl
theorem c_retrospectref08_Text {n : Nat} {x0 : M_retrospectref08_Whole} : ∀ r, m_retrospectref08_Text n x0 = some r → FnOk Tryz.prog 28 [L_retrospectref08_Whole x0] [] (str r) [] := by
  unfold m_retrospectref08_Text
  refine fn_of_sq (res := fun (r : (List UInt8)) => str r) (mo := fun (r : (List UInt8)) => []) Tryz.func28 rfl rfl (by kernel_rfl) rfl ?_
  intro w S0 γ hγ
  refine sseq ?_
  refine sreg ?_
  refine so (box (y := 100) (by exact rfl) rfl rfl rfl) ?_
  refine s1 (asg rfl (kS (s := []) rfl)) ?_
  refine snil ?_
  refine pnm ?_
  refine sseq ?_
  refine sreg ?_
  refine s1 (faO rfl fd_69_1 rfl rfl) ?_
  refine s1 (ldB [1] rfl (by exact rfl) sh_67 (by exact rfl) (by exact rfl) rfl rfl (.inl rfl)) ?_
  refine bd fun r1 h2 => ?_
  refine s1 (call0 (c_retrospectref07_Text _ h2) ⟨⟨_, rfl, rn_id if_sli⟩, trivial⟩ (if_str) rfl) ?_
  refine s1 (asg rfl rfl) ?_
  refine snil ?_
  refine pnm ?_
  refine sjq (fun (s9 : (List UInt8)) => [(2, str ([] : List UInt8)), (3, str s9)]) (fun (s9 : (List UInt8)) => []) ?_ ?_
  · intro j7 hj8
    refine sseq ?_
    refine sreg ?_
    refine s1 (ldB [] rfl rfl sh_69 (by exact rfl) (by exact rfl) rfl rfl (.inr ⟨rfl, rfl, _, _, rfl⟩)) ?_
    refine bd fun r10 h11 => ?_
    refine s1 (call0 (c_retrospectref08_Sign _ h11) ⟨⟨_, rfl, rn_id if_L_retrospectref08_Whole⟩, trivial⟩ (if_i64) rfl) ?_
    refine s1 (ltI rfl rfl (kI (x := 0) rfl)) ?_
    refine snil ?_
    refine pnm ?_
    refine scond rfl ?_ ?_
    · refine sreg ?_
      refine s1 (mv rfl rfl) ?_
      refine bd fun y12 h13 => ?_
      refine s1 (catStr h13 rfl (kS (s := [45]) rfl) rfl) ?_
      refine s1 (asg rfl rfl) ?_
      refine snil ?_
      refine pnm ?_
      exact sj (hj8 _) (entR [] rfl (keepS hγ trivial) (by exact trivial) (by exact trivial) ⟨⟨_, rfl, rn_id if_str⟩, ⟨_, rfl, rn_id if_str⟩, trivial⟩)
    · refine sskip ?_
      refine pnm ?_
      exact sj (hj8 _) (entR [] rfl (keepS hγ trivial) (by exact trivial) (by exact trivial) ⟨⟨_, rfl, rn_id if_str⟩, ⟨_, rfl, rn_id if_str⟩, trivial⟩)
  · intro s9
    refine sseq ?_
    refine sreg ?_
    refine s1 (mv rfl rfl) ?_
    refine s1 (asg rfl rfl) ?_
    refine snil ?_
    refine pnm ?_
    refine sret ?_
    exact ret [] [.tmp 2] [_] [_] .ret hγ (.inl rfl) rfl ⟨rfl, trivial⟩ rfl trivial trivial trivial (rns_cons (rn_id if_str) (rns_nil)) rfl
theorem c_retrospectref48_Unfault {n : Nat} {x0 : (List UInt8)} : ∀ r, m_retrospectref48_Unfault n x0 = some r → FnOk Tryz.prog 13 [str x0] [] (.tup [L_A4_i64 r.1, bl r.2]) [] := by
  unfold m_retrospectref48_Unfault
  refine fn_of_sq (res := fun (r : M_A4_i64 × Bool) => .tup [L_A4_i64 r.1, bl r.2]) (mo := fun (r : M_A4_i64 × Bool) => []) Tryz.func13 rfl rfl (by kernel_rfl) rfl ?_
  intro w S0 γ hγ
  refine sseq ?_
  refine sreg ?_
  refine so (al (y := 100) (ly := L_A4_i64 (⟨0, 0, 0, 0⟩ : M_A4_i64)) ti_35 zr_A4_i64 rfl rfl) ?_
  refine s1 (asg rfl kB) ?_
  refine snil ?_
  refine pnm ?_
  refine sseq ?_
  refine sreg ?_
  refine s1 (bldA (l := [i64 0, i64 0, i64 0, i64 0]) Tryz.underlying35 ti_35 ti_3 zr_A4_i64 rfl rfl rfl) ?_
  refine so (al (y := 101) (ly := L_A4_i64 (⟨0, 0, 0, 0⟩ : M_A4_i64)) ti_35 zr_A4_i64 rfl rfl) ?_
  refine so (stB2 (ly2 := L_A4_i64 (⟨0, 0, 0, 0⟩ : M_A4_i64)) [] (by exact rfl) rfl (by exact rfl) sh_35 (by exact rfl) (by exact rfl) (by exact rfl) rfl (.inr ⟨rfl, rfl, _, _, rfl⟩) rfl) ?_
  refine snil ?_
  refine pnm ?_
  refine sseq ?_
  refine sreg ?_
  refine so (asgN (y := 102) (E := 3) (k := 1) rfl rfl) ?_
  refine snil ?_
  refine pnm ?_
  refine sseq ?_
  refine sseq ?_
  refine sreg ?_
  refine s1 (asg rfl (kI (x := 0) rfl)) ?_
  refine snil ?_
  refine pnm ?_
  refine sblk ?_
  refine sloopE 0 (fun t => t) (fun (s27 : (List Int) × Int) => [(0, str x0), (2, .own 100), (3, bl false), (4, .own 101), (5, .own 102), (6, i64 s27.2)]) (fun (s27 : (List Int) × Int) => [(100, .bx 35 (L_A4_i64 (⟨0, 0, 0, 0⟩ : M_A4_i64))), (101, .bx 35 (L_A4_i64 (⟨0, 0, 0, 0⟩ : M_A4_i64))), (102, .sl 3 1 (List.map i64 s27.1))]) (fun (t25 : (List Int)) => [(0, str x0), (2, .own 100), (3, bl false), (4, .own 101), (5, .own 102)]) (fun (t25 : (List Int)) => [(100, .bx 35 (L_A4_i64 (⟨0, 0, 0, 0⟩ : M_A4_i64))), (101, .bx 35 (L_A4_i64 (⟨0, 0, 0, 0⟩ : M_A4_i64))), (102, .sl 3 1 (List.map i64 t25))]) (entR [(100, 100), (101, 101), (102, 102)] rfl (keepS hγ trivial) ⟨⟨_, rfl⟩, ⟨_, rfl⟩, ⟨_, rfl⟩, trivial⟩ ⟨⟨_, _, rfl, rfl, rci (rc_bx (rn_id if_L_A4_i64))⟩, ⟨_, _, rfl, rfl, rci (rc_bx (rn_id if_L_A4_i64))⟩, ⟨_, _, rfl, rfl, rci (rc_sl (ifs_map (f := i64) (fun _ => if_i64) ([] : List Int)))⟩, trivial⟩ ⟨⟨_, rfl, rn_id if_str⟩, ⟨_, rfl, rn_own rfl⟩, ⟨_, rfl, rn_id if_bl⟩, ⟨_, rfl, rn_own rfl⟩, ⟨_, rfl, rn_own rfl⟩, ⟨_, rfl, rn_id if_i64⟩, trivial⟩) ?_ ?_
  · intro hj26 s27
    refine sseq ?_
    refine sseq ?_
    refine sreg ?_
    refine s1 (mv rfl rfl) ?_
    refine s1 (mv rfl rfl) ?_
    refine s1 (lenS Tryz.underlying9 rfl rfl) ?_
    refine s1 (ltI rfl rfl rfl) ?_
    refine snil ?_
    refine pnm ?_
    refine scond rfl ?_ ?_
    · refine sskip ?_
      refine pnm ?_
      refine sjq (fun (s34 : (List Int)) => [(0, str x0), (2, .own 100), (3, bl false), (4, .own 101), (5, .own 104), (6, i64 s27.2)]) (fun (s34 : (List Int)) => [(100, .bx 35 (L_A4_i64 (⟨0, 0, 0, 0⟩ : M_A4_i64))), (101, .bx 35 (L_A4_i64 (⟨0, 0, 0, 0⟩ : M_A4_i64))), (104, .sl 3 1 (List.map i64 s34))]) ?_ ?_
      · intro j32 hj33
        refine sblk ?_
        refine sseq ?_
        refine sreg ?_
        refine s1 (mv rfl rfl) ?_
        refine s1 (mv rfl rfl) ?_
        refine bd fun y35 h36 => ?_
        refine s1 (ixS Tryz.underlying9 h36 rfl rfl rfl) ?_
        refine s1 (eqU .u8 rfl rfl (k8 (x := 32) rfl)) ?_
        refine snil ?_
        refine pnm ?_
        refine scond rfl ?_ ?_
        · refine sreg ?_
          refine s1 (mv rfl rfl) ?_
          refine s1 (mv rfl rfl) ?_
          refine so (bsl (y := 103) (ls := List.map i64 ([s27.2] : List Int)) Tryz.underlying66 ti_3 rfl rfl rfl rfl rfl ⟨rfl, rfl, (by exact rfl), (by exact rfl), trivial⟩ rfl rfl) ?_
          refine bd fun y37 h38 => ?_
          refine so (app (y := 104) (f := i64) h38 rfl Tryz.underlying66 ti_3 rfl rfl rfl rfl (.inr ⟨_, _, rfl, rfl⟩) rfl rfl) ?_
          refine s1 (asg rfl rfl) ?_
          refine snil ?_
          refine pbn ?_
          refine pnm ?_
          exact sj (hj33 _) (entR [(100, 100), (101, 101), (104, 104)] rfl (keepS hγ trivial) ⟨⟨_, rfl⟩, ⟨_, rfl⟩, ⟨_, rfl⟩, trivial⟩ ⟨⟨_, _, rfl, rfl, rci (rc_bx (rn_id if_L_A4_i64))⟩, ⟨_, _, rfl, rfl, rci (rc_bx (rn_id if_L_A4_i64))⟩, ⟨_, _, rfl, rfl, rci (rc_sl (ifs_map (f := i64) (fun _ => if_i64) y37))⟩, trivial⟩ ⟨⟨_, rfl, rn_id if_str⟩, ⟨_, rfl, rn_own rfl⟩, ⟨_, rfl, rn_id if_bl⟩, ⟨_, rfl, rn_own rfl⟩, ⟨_, rfl, rn_own rfl⟩, ⟨_, rfl, rn_id if_i64⟩, trivial⟩)
        · refine sskip ?_
          refine pbn ?_
          refine pnm ?_
          exact sj (hj33 _) (entR [(100, 100), (101, 101), (104, 102)] rfl (keepS hγ trivial) ⟨⟨_, rfl⟩, ⟨_, rfl⟩, ⟨_, rfl⟩, trivial⟩ ⟨⟨_, _, rfl, rfl, rci (rc_bx (rn_id if_L_A4_i64))⟩, ⟨_, _, rfl, rfl, rci (rc_bx (rn_id if_L_A4_i64))⟩, ⟨_, _, rfl, rfl, rci (rc_sl (ifs_map (f := i64) (fun _ => if_i64) s27.1))⟩, trivial⟩ ⟨⟨_, rfl, rn_id if_str⟩, ⟨_, rfl, rn_own rfl⟩, ⟨_, rfl, rn_id if_bl⟩, ⟨_, rfl, rn_own rfl⟩, ⟨_, rfl, rn_own rfl⟩, ⟨_, rfl, rn_id if_i64⟩, trivial⟩)
      · intro s34
        refine sreg ?_
        refine s1 (mv rfl rfl) ?_
        refine s1 (addI rfl rfl (kI (x := 1) rfl)) ?_
        refine s1 (asg rfl rfl) ?_
        refine snil ?_
        exact sgo (entR [(100, 100), (101, 101), (102, 104)] rfl (keepS hγ trivial) ⟨⟨_, rfl⟩, ⟨_, rfl⟩, ⟨_, rfl⟩, trivial⟩ ⟨⟨_, _, rfl, rfl, rci (rc_bx (rn_id if_L_A4_i64))⟩, ⟨_, _, rfl, rfl, rci (rc_bx (rn_id if_L_A4_i64))⟩, ⟨_, _, rfl, rfl, rci (rc_sl (ifs_map (f := i64) (fun _ => if_i64) s34))⟩, trivial⟩ ⟨⟨_, rfl, rn_id if_str⟩, ⟨_, rfl, rn_own rfl⟩, ⟨_, rfl, rn_id if_bl⟩, ⟨_, rfl, rn_own rfl⟩, ⟨_, rfl, rn_own rfl⟩, ⟨_, rfl, rn_id if_i64⟩, trivial⟩)
    · refine sexit ?_
      refine ptx ?_
      exact sout (fun h => by cases h) (sj (hj26 _) (entR [(100, 100), (101, 101), (102, 102)] rfl (keepS hγ trivial) ⟨⟨_, rfl⟩, ⟨_, rfl⟩, ⟨_, rfl⟩, trivial⟩ ⟨⟨_, _, rfl, rfl, rci (rc_bx (rn_id if_L_A4_i64))⟩, ⟨_, _, rfl, rfl, rci (rc_bx (rn_id if_L_A4_i64))⟩, ⟨_, _, rfl, rfl, rci (rc_sl (ifs_map (f := i64) (fun _ => if_i64) s27.1))⟩, trivial⟩ ⟨⟨_, rfl, rn_id if_str⟩, ⟨_, rfl, rn_own rfl⟩, ⟨_, rfl, rn_id if_bl⟩, ⟨_, rfl, rn_own rfl⟩, ⟨_, rfl, rn_own rfl⟩, trivial⟩))
  · intro t25
    refine sx ?_
    refine pnm ?_
    refine sseq ?_
    refine sseq ?_
    refine sreg ?_
    refine s1 (mv rfl rfl) ?_
    refine s1 (lenO (f := i64) Tryz.underlying66 rfl rfl rfl) ?_
    refine s1 (neI rfl rfl (kI (x := 3) rfl)) ?_
    refine snil ?_
    refine pnm ?_
    refine scond rfl ?_ ?_
    · refine sseq ?_
      refine sreg ?_
      refine s1 (ldB [] rfl rfl sh_35 (by exact rfl) (by exact rfl) rfl rfl (.inr ⟨rfl, rfl, _, _, rfl⟩)) ?_
      refine so (stB2 (ly2 := L_A4_i64 (⟨0, 0, 0, 0⟩ : M_A4_i64)) [] (by exact rfl) rfl (by exact rfl) sh_35 (by exact rfl) (by exact rfl) (by exact rfl) rfl (.inr ⟨rfl, rfl, _, _, rfl⟩) rfl) ?_
      refine s1 (asg rfl kB) ?_
      refine snil ?_
      refine pnm ?_
      refine sret ?_
      refine pth ?_
      exact ret [] [.cell 2 35, .tmp 3] [_, _] [_, _] .ret hγ (.inl rfl) rfl ⟨⟨100, _, rfl, rfl, sh_35⟩, rfl, trivial⟩ rfl trivial trivial trivial (rns_cons (rn_id if_L_A4_i64) (rns_cons (rn_id if_bl) (rns_nil))) rfl
    · refine sskip ?_
      refine pnm ?_
      refine sseq ?_
      refine sreg ?_
      refine s1 (mv rfl rfl) ?_
      refine s1 (mv rfl rfl) ?_
      refine s1 (lenS Tryz.underlying9 rfl rfl) ?_
      refine so (bsl (y := 103) (ls := List.map i64 ([(x0.length : Int)] : List Int)) Tryz.underlying66 ti_3 rfl rfl rfl rfl rfl ⟨rfl, rfl, (by exact rfl), (by exact rfl), trivial⟩ rfl rfl) ?_
      refine bd fun y39 h40 => ?_
      refine so (app (y := 104) (f := i64) h40 rfl Tryz.underlying66 ti_3 rfl rfl rfl rfl (.inr ⟨_, _, rfl, rfl⟩) rfl rfl) ?_
      refine s1 (asg rfl rfl) ?_
      refine snil ?_
      refine pnm ?_
      refine sseq ?_
      refine sreg ?_
      refine s1 (bldA (l := [i64 (-1 : Int), i64 (0 : Int), i64 (0 : Int), i64 (0 : Int)]) Tryz.underlying35 ti_35 ti_3 zr_A4_i64 rfl ⟨_, _, _, (kI (x := (-1)) rfl), rfl, rfl, rfl, rfl, rfl, ⟨_, _, _, (kI (x := 0) rfl), rfl, rfl, rfl, rfl, rfl, ⟨_, _, _, (kI (x := 0) rfl), rfl, rfl, rfl, rfl, rfl, ⟨_, _, _, (kI (x := 0) rfl), rfl, rfl, rfl, rfl, rfl, rfl⟩⟩⟩⟩ rfl) ?_
      refine so (al (y := 105) (ly := L_A4_i64 (⟨0, 0, 0, 0⟩ : M_A4_i64)) ti_35 zr_A4_i64 rfl rfl) ?_
      refine so (stB2 (ly2 := L_A4_i64 (⟨(-1 : Int), (0 : Int), (0 : Int), (0 : Int)⟩ : M_A4_i64)) [] (by exact rfl) rfl (by exact rfl) sh_35 (by exact rfl) (by exact rfl) (by exact rfl) rfl (.inr ⟨rfl, rfl, _, _, rfl⟩) rfl) ?_
      refine snil ?_
      refine pnm ?_
      refine sseq ?_
      refine sseq ?_
      refine sreg ?_
      refine s1 (asg rfl (kI (x := 0) rfl)) ?_
      refine snil ?_
      refine pnm ?_
      refine sblk ?_
      refine sloopE 2 (fun t => t) (fun (s83 : M_A4_i64 × Int) => [(0, str x0), (2, .own 100), (3, bl false), (4, .own 101), (5, .own 104), (7, .own 105), (8, i64 s83.2)]) (fun (s83 : M_A4_i64 × Int) => [(100, .bx 35 (L_A4_i64 (⟨0, 0, 0, 0⟩ : M_A4_i64))), (101, .bx 35 (L_A4_i64 (⟨0, 0, 0, 0⟩ : M_A4_i64))), (104, .sl 3 1 (List.map i64 y39)), (105, .bx 35 (L_A4_i64 s83.1))]) (fun (t81 : M_A4_i64) => [(0, str x0), (2, .own 100), (3, bl false), (4, .own 101), (5, .own 104), (7, .own 105)]) (fun (t81 : M_A4_i64) => [(100, .bx 35 (L_A4_i64 (⟨0, 0, 0, 0⟩ : M_A4_i64))), (101, .bx 35 (L_A4_i64 (⟨0, 0, 0, 0⟩ : M_A4_i64))), (104, .sl 3 1 (List.map i64 y39)), (105, .bx 35 (L_A4_i64 t81))]) (entR [(100, 100), (101, 101), (104, 104), (105, 105)] rfl (keepS hγ trivial) ⟨⟨_, rfl⟩, ⟨_, rfl⟩, ⟨_, rfl⟩, ⟨_, rfl⟩, trivial⟩ ⟨⟨_, _, rfl, rfl, rci (rc_bx (rn_id if_L_A4_i64))⟩, ⟨_, _, rfl, rfl, rci (rc_bx (rn_id if_L_A4_i64))⟩, ⟨_, _, rfl, rfl, rci (rc_sl (ifs_map (f := i64) (fun _ => if_i64) y39))⟩, ⟨_, _, rfl, rfl, rci (rc_bx (rn_id if_L_A4_i64))⟩, trivial⟩ ⟨⟨_, rfl, rn_id if_str⟩, ⟨_, rfl, rn_own rfl⟩, ⟨_, rfl, rn_id if_bl⟩, ⟨_, rfl, rn_own rfl⟩, ⟨_, rfl, rn_own rfl⟩, ⟨_, rfl, rn_own rfl⟩, ⟨_, rfl, rn_id if_i64⟩, trivial⟩) ?_ ?_
      · intro hj82 s83
        refine sseq ?_
        refine sseq ?_
        refine sreg ?_
        refine s1 (mv rfl rfl) ?_
        refine s1 (ltI rfl rfl (kI (x := 9) rfl)) ?_
        refine snil ?_
        refine pnm ?_
        refine scond rfl ?_ ?_
        · refine sskip ?_
          refine pnm ?_
          refine sjq (fun (s94 : M_A4_i64) => [(0, str x0), (2, .own 100), (3, bl false), (4, .own 101), (5, .own 104), (7, .own 105), (8, i64 s83.2)]) (fun (s94 : M_A4_i64) => [(100, .bx 35 (L_A4_i64 (⟨0, 0, 0, 0⟩ : M_A4_i64))), (101, .bx 35 (L_A4_i64 (⟨0, 0, 0, 0⟩ : M_A4_i64))), (104, .sl 3 1 (List.map i64 y39)), (105, .bx 35 (L_A4_i64 s94))]) ?_ ?_
          · intro j92 hj93
            refine sblk ?_
            refine sseq ?_
            refine bd fun y95 h96 => ?_
            refine bd fun y97 h98 => ?_
            refine bd fun r99 h100 => ?_
            refine bd fun y101 h102 => ?_
            refine sdraw [⟨[0], [], [(44, str x0)], []⟩, ⟨[5], [], [(45, .own 104)], []⟩, ⟨[45], [104], [(46, .ptr 104 (Int.toNat (0 : Int) * 1))], []⟩, ⟨[46], [104], [(47, i64 y95)], []⟩, ⟨[44, 47], [], [(48, str y97)], []⟩, ⟨[], [], [(49, sli 1 (List.map str r99))], []⟩, ⟨[8], [], [(50, i64 s83.2)], []⟩, ⟨[49, 50], [], [(51, .ref (str y101))], []⟩, ⟨[51], [], [(52, str y101)], []⟩, ⟨[48, 52], [], [(53, bl (decide (y97 = y101)))], []⟩] fol (by kernel_rfl) ⟨fun st mm ⟨a0, _⟩ _ => og (mv rfl (a0.trans rfl)), fun st mm ⟨a5, _⟩ _ => og (mv rfl (a5.trans rfl)), fun st mm ⟨a45, _⟩ ⟨g104, _⟩ => og (ixO (f := i64) (g104.trans rfl) Tryz.underlying66 ti_3 h96 rfl (a45.trans rfl) (kI (x := 0) rfl)), fun st mm ⟨a46, _⟩ ⟨g104, _⟩ => og (ldO (f := i64) [] (g104.trans rfl) (getI_ix h96) (by exact rfl) (by exact rfl) sh_3 (by exact rfl) (by exact rfl) rfl (a46.trans rfl)), fun st mm ⟨a44, a47, _⟩ _ => og (slS h98 Tryz.underlying9 rfl (a44.trans rfl) bnd0 (bnd (a47.trans rfl))), fun st mm _ _ => og (call0 (c_retrospectref48_Kinds _ h100) trivial (if_sli) rfl), fun st mm ⟨a8, _⟩ _ => og (mv rfl (a8.trans rfl)), fun st mm ⟨a49, a50, _⟩ _ => og (ixR (f := str) Tryz.underlying60 ti_9 h102 rfl (a49.trans rfl) (a50.trans rfl)), fun st mm ⟨a51, _⟩ _ => og (ldR sh_9 (by exact rfl) (by exact rfl) rfl (a51.trans rfl)), fun st mm ⟨a48, a52, _⟩ _ => og (eqS rfl (a48.trans rfl) (a52.trans rfl)), trivial⟩ ?_
            refine pnm ?_
            refine scond rfl ?_ ?_
            · refine sreg ?_
              refine s1 (mv rfl rfl) ?_
              refine s1 (ixAO Tryz.underlying35 ti_3 rfl (.inr ⟨rfl, rfl, _, _, rfl⟩) rfl rfl (kI (x := 0) rfl)) ?_
              refine so (stB2 (ly2 := L_A4_i64 (⟨s83.2, s83.1.a1, s83.1.a2, s83.1.a3⟩ : M_A4_i64)) [0] (by exact rfl) rfl (by exact rfl) sh_3 (by exact rfl) (by exact rfl) (by exact rfl) rfl (.inl rfl) rfl) ?_
              refine snil ?_
              refine pbn ?_
              refine pnm ?_
              exact sj (hj93 _) (entR [(100, 100), (101, 101), (104, 104), (105, 105)] rfl (keepS hγ trivial) ⟨⟨_, rfl⟩, ⟨_, rfl⟩, ⟨_, rfl⟩, ⟨_, rfl⟩, trivial⟩ ⟨⟨_, _, rfl, rfl, rci (rc_bx (rn_id if_L_A4_i64))⟩, ⟨_, _, rfl, rfl, rci (rc_bx (rn_id if_L_A4_i64))⟩, ⟨_, _, rfl, rfl, rci (rc_sl (ifs_map (f := i64) (fun _ => if_i64) y39))⟩, ⟨_, _, rfl, rfl, rci (rc_bx (rn_id if_L_A4_i64))⟩, trivial⟩ ⟨⟨_, rfl, rn_id if_str⟩, ⟨_, rfl, rn_own rfl⟩, ⟨_, rfl, rn_id if_bl⟩, ⟨_, rfl, rn_own rfl⟩, ⟨_, rfl, rn_own rfl⟩, ⟨_, rfl, rn_own rfl⟩, ⟨_, rfl, rn_id if_i64⟩, trivial⟩)
            · refine sskip ?_
              refine pbn ?_
              refine pnm ?_
              exact sj (hj93 _) (entR [(100, 100), (101, 101), (104, 104), (105, 105)] rfl (keepS hγ trivial) ⟨⟨_, rfl⟩, ⟨_, rfl⟩, ⟨_, rfl⟩, ⟨_, rfl⟩, trivial⟩ ⟨⟨_, _, rfl, rfl, rci (rc_bx (rn_id if_L_A4_i64))⟩, ⟨_, _, rfl, rfl, rci (rc_bx (rn_id if_L_A4_i64))⟩, ⟨_, _, rfl, rfl, rci (rc_sl (ifs_map (f := i64) (fun _ => if_i64) y39))⟩, ⟨_, _, rfl, rfl, rci (rc_bx (rn_id if_L_A4_i64))⟩, trivial⟩ ⟨⟨_, rfl, rn_id if_str⟩, ⟨_, rfl, rn_own rfl⟩, ⟨_, rfl, rn_id if_bl⟩, ⟨_, rfl, rn_own rfl⟩, ⟨_, rfl, rn_own rfl⟩, ⟨_, rfl, rn_own rfl⟩, ⟨_, rfl, rn_id if_i64⟩, trivial⟩)
          · intro s94
            refine sreg ?_
            refine s1 (mv rfl rfl) ?_
            refine s1 (addI rfl rfl (kI (x := 1) rfl)) ?_
            refine s1 (asg rfl rfl) ?_
            refine snil ?_
            exact sgo (entR [(100, 100), (101, 101), (104, 104), (105, 105)] rfl (keepS hγ trivial) ⟨⟨_, rfl⟩, ⟨_, rfl⟩, ⟨_, rfl⟩, ⟨_, rfl⟩, trivial⟩ ⟨⟨_, _, rfl, rfl, rci (rc_bx (rn_id if_L_A4_i64))⟩, ⟨_, _, rfl, rfl, rci (rc_bx (rn_id if_L_A4_i64))⟩, ⟨_, _, rfl, rfl, rci (rc_sl (ifs_map (f := i64) (fun _ => if_i64) y39))⟩, ⟨_, _, rfl, rfl, rci (rc_bx (rn_id if_L_A4_i64))⟩, trivial⟩ ⟨⟨_, rfl, rn_id if_str⟩, ⟨_, rfl, rn_own rfl⟩, ⟨_, rfl, rn_id if_bl⟩, ⟨_, rfl, rn_own rfl⟩, ⟨_, rfl, rn_own rfl⟩, ⟨_, rfl, rn_own rfl⟩, ⟨_, rfl, rn_id if_i64⟩, trivial⟩)
        · refine sexit ?_
          refine ptx ?_
          exact sout (fun h => by cases h) (sj (hj82 _) (entR [(100, 100), (101, 101), (104, 104), (105, 105)] rfl (keepS hγ trivial) ⟨⟨_, rfl⟩, ⟨_, rfl⟩, ⟨_, rfl⟩, ⟨_, rfl⟩, trivial⟩ ⟨⟨_, _, rfl, rfl, rci (rc_bx (rn_id if_L_A4_i64))⟩, ⟨_, _, rfl, rfl, rci (rc_bx (rn_id if_L_A4_i64))⟩, ⟨_, _, rfl, rfl, rci (rc_sl (ifs_map (f := i64) (fun _ => if_i64) y39))⟩, ⟨_, _, rfl, rfl, rci (rc_bx (rn_id if_L_A4_i64))⟩, trivial⟩ ⟨⟨_, rfl, rn_id if_str⟩, ⟨_, rfl, rn_own rfl⟩, ⟨_, rfl, rn_id if_bl⟩, ⟨_, rfl, rn_own rfl⟩, ⟨_, rfl, rn_own rfl⟩, ⟨_, rfl, rn_own rfl⟩, trivial⟩))
      · intro t81
        refine sx ?_
        refine pnm ?_
        refine sseq ?_
        refine sseq ?_
        refine sreg ?_
        refine s1 (asg rfl (kI (x := 0) rfl)) ?_
        refine snil ?_
        refine pnm ?_
        refine sblk ?_
        refine sloopE 4 Lp.go (fun (s221 : M_A4_i64 × Int) => [(0, str x0), (2, .own 100), (3, bl false), (4, .own 101), (5, .own 104), (7, .own 105), (9, i64 s221.2)]) (fun (s221 : M_A4_i64 × Int) => [(100, .bx 35 (L_A4_i64 (⟨0, 0, 0, 0⟩ : M_A4_i64))), (101, .bx 35 (L_A4_i64 (⟨0, 0, 0, 0⟩ : M_A4_i64))), (104, .sl 3 1 (List.map i64 y39)), (105, .bx 35 (L_A4_i64 s221.1))]) (fun (t219 : M_A4_i64) => [(2, .own 100), (3, bl false), (4, .own 101), (7, .own 105)]) (fun (t219 : M_A4_i64) => [(100, .bx 35 (L_A4_i64 (⟨0, 0, 0, 0⟩ : M_A4_i64))), (101, .bx 35 (L_A4_i64 (⟨0, 0, 0, 0⟩ : M_A4_i64))), (105, .bx 35 (L_A4_i64 t219))]) (entR [(100, 100), (101, 101), (104, 104), (105, 105)] rfl (keepS hγ trivial) ⟨⟨_, rfl⟩, ⟨_, rfl⟩, ⟨_, rfl⟩, ⟨_, rfl⟩, trivial⟩ ⟨⟨_, _, rfl, rfl, rci (rc_bx (rn_id if_L_A4_i64))⟩, ⟨_, _, rfl, rfl, rci (rc_bx (rn_id if_L_A4_i64))⟩, ⟨_, _, rfl, rfl, rci (rc_sl (ifs_map (f := i64) (fun _ => if_i64) y39))⟩, ⟨_, _, rfl, rfl, rci (rc_bx (rn_id if_L_A4_i64))⟩, trivial⟩ ⟨⟨_, rfl, rn_id if_str⟩, ⟨_, rfl, rn_own rfl⟩, ⟨_, rfl, rn_id if_bl⟩, ⟨_, rfl, rn_own rfl⟩, ⟨_, rfl, rn_own rfl⟩, ⟨_, rfl, rn_own rfl⟩, ⟨_, rfl, rn_id if_i64⟩, trivial⟩) ?_ ?_
        · intro hj220 s221
          refine sseq ?_
          refine sseq ?_
          refine sreg ?_
          refine s1 (mv rfl rfl) ?_
          refine s1 (ltI rfl rfl (kI (x := 3) rfl)) ?_
          refine snil ?_
          refine pnm ?_
          refine scond rfl ?_ ?_
          · refine sskip ?_
            refine pnm ?_
            refine sseq ?_
            refine sblk ?_
            refine sseq ?_
            refine bd fun y222 h223 => ?_
            refine bd fun y224 h225 => ?_
            refine bd fun y226 h227 => ?_
            refine sdraw [⟨[0], [], [(60, str x0)], []⟩, ⟨[5], [], [(61, .own 104)], []⟩, ⟨[9], [], [(62, i64 s221.2)], []⟩, ⟨[61, 62], [104], [(63, .ptr 104 (Int.toNat s221.2 * 1))], []⟩, ⟨[63], [104], [(64, i64 y222)], []⟩, ⟨[64], [], [(65, i64 (wrap64 (y222 + (1 : Int))))], []⟩, ⟨[5], [], [(66, .own 104)], []⟩, ⟨[9], [], [(67, i64 s221.2)], []⟩, ⟨[67], [], [(68, i64 (wrap64 (s221.2 + (1 : Int))))], []⟩, ⟨[66, 68], [104], [(69, .ptr 104 (Int.toNat (wrap64 (s221.2 + (1 : Int))) * 1))], []⟩, ⟨[69], [104], [(70, i64 y224)], []⟩, ⟨[60, 65, 70], [], [(71, str y226)], []⟩, ⟨[71], [], [(10, str y226)], []⟩] fol (by kernel_rfl) ⟨fun st mm ⟨a0, _⟩ _ => og (mv rfl (a0.trans rfl)), fun st mm ⟨a5, _⟩ _ => og (mv rfl (a5.trans rfl)), fun st mm ⟨a9, _⟩ _ => og (mv rfl (a9.trans rfl)), fun st mm ⟨a61, a62, _⟩ ⟨g104, _⟩ => og (ixO (f := i64) (g104.trans rfl) Tryz.underlying66 ti_3 h223 rfl (a61.trans rfl) (a62.trans rfl)), fun st mm ⟨a63, _⟩ ⟨g104, _⟩ => og (ldO (f := i64) [] (g104.trans rfl) (getI_ix h223) (by exact rfl) (by exact rfl) sh_3 (by exact rfl) (by exact rfl) rfl (a63.trans rfl)), fun st mm ⟨a64, _⟩ _ => og (addI rfl (a64.trans rfl) (kI (x := 1) rfl)), fun st mm ⟨a5, _⟩ _ => og (mv rfl (a5.trans rfl)), fun st mm ⟨a9, _⟩ _ => og (mv rfl (a9.trans rfl)), fun st mm ⟨a67, _⟩ _ => og (addI rfl (a67.trans rfl) (kI (x := 1) rfl)), fun st mm ⟨a66, a68, _⟩ ⟨g104, _⟩ => og (ixO (f := i64) (g104.trans rfl) Tryz.underlying66 ti_3 h225 rfl (a66.trans rfl) (a68.trans rfl)), fun st mm ⟨a69, _⟩ ⟨g104, _⟩ => og (ldO (f := i64) [] (g104.trans rfl) (getI_ix h225) (by exact rfl) (by exact rfl) sh_3 (by exact rfl) (by exact rfl) rfl (a69.trans rfl)), fun st mm ⟨a60, a65, a70, _⟩ _ => og (slS h227 Tryz.underlying9 rfl (a60.trans rfl) (bnd (a65.trans rfl)) (bnd (a70.trans rfl))), fun st mm ⟨a71, _⟩ _ => og (asg rfl (a71.trans rfl)), trivial⟩ ?_
            refine pnm ?_
            refine sseq ?_
            refine sseq ?_
            refine sreg ?_
            refine s1 (mv rfl rfl) ?_
            refine s1 (lenS Tryz.underlying9 rfl rfl) ?_
            refine s1 (gtI rfl rfl (kI (x := 8) rfl)) ?_
            refine snil ?_
            refine pnm ?_
            refine scond rfl ?_ ?_
            · refine sseq ?_
              refine sreg ?_
              refine s1 (ldB [] rfl rfl sh_35 (by exact rfl) (by exact rfl) rfl rfl (.inr ⟨rfl, rfl, _, _, rfl⟩)) ?_
              refine so (stB2 (ly2 := L_A4_i64 (⟨0, 0, 0, 0⟩ : M_A4_i64)) [] (by exact rfl) rfl (by exact rfl) sh_35 (by exact rfl) (by exact rfl) (by exact rfl) rfl (.inr ⟨rfl, rfl, _, _, rfl⟩) rfl) ?_
              refine s1 (asg rfl kB) ?_
              refine snil ?_
              refine pnm ?_
              refine sret ?_
              refine pth ?_
              refine pbl ?_
              refine pth ?_
              refine sout (fun h => by cases h) ?_
              refine pbl ?_
              refine pth ?_
              exact ret [] [.cell 2 35, .tmp 3] [_, _] [_, _] .ret hγ (.inl rfl) rfl ⟨⟨100, _, rfl, rfl, sh_35⟩, rfl, trivial⟩ rfl trivial trivial trivial (rns_cons (rn_id if_L_A4_i64) (rns_cons (rn_id if_bl) (rns_nil))) rfl
            · refine sskip ?_
              refine pnm ?_
              refine sseq ?_
              refine sreg ?_
              refine s1 (mv rfl rfl) ?_
              refine bd fun r228 h229 => ?_
              refine s1 (call0 (c_retrospectref08_Read _ h229) ⟨⟨_, rfl, rn_id if_str⟩, trivial⟩ (if_tup (ifs_cons if_L_retrospectref08_Whole (ifs_cons if_i64 (ifs_nil)))) rfl) ?_
              refine s1 (mv rfl rfl) ?_
              refine s1 (ext (by exact rfl) rfl rfl) ?_
              refine s1 (ext (by exact rfl) rfl rfl) ?_
              refine so (al (y := 106) (ly := L_retrospectref08_Whole (⟨false, []⟩ : M_retrospectref08_Whole)) ti_69 zr_retrospectref08_Whole rfl rfl) ?_
              refine so (stB2 (ly2 := L_retrospectref08_Whole r228.1) [] (by exact rfl) rfl (by exact rfl) sh_69 (by exact rfl) (by exact rfl) (by exact rfl) rfl (.inr ⟨rfl, rfl, _, _, rfl⟩) rfl) ?_
              refine s1 (asg rfl rfl) ?_
              refine snil ?_
              refine pnm ?_
              refine sseq ?_
              refine sjq (fun (s234 : Bool) => [(0, str x0), (2, .own 100), (3, bl false), (4, .own 101), (5, .own 104), (7, .own 105), (9, i64 s221.2), (10, str y226), (11, .own 106), (88, bl s234)]) (fun (s234 : Bool) => [(100, .bx 35 (L_A4_i64 (⟨0, 0, 0, 0⟩ : M_A4_i64))), (101, .bx 35 (L_A4_i64 (⟨0, 0, 0, 0⟩ : M_A4_i64))), (104, .sl 3 1 (List.map i64 y39)), (105, .bx 35 (L_A4_i64 s221.1)), (106, .bx 69 (L_retrospectref08_Whole r228.1))]) ?_ ?_
              · intro j232 hj233
                refine sreg ?_
                refine s1 (mv rfl rfl) ?_
                refine s1 (geI rfl rfl (kI (x := 0) rfl)) ?_
                refine s1 (mv rfl rfl) ?_
                refine sifd 83 rfl ?_ ?_
                · refine spB 83 rfl rfl rfl ?_
                  refine spB 83 rfl rfl rfl ?_
                  refine spB 83 rfl rfl rfl ?_
                  refine spB 83 rfl rfl rfl ?_
                  refine s1 (pickT rfl rfl kB) ?_
                  refine snil ?_
                  refine pnm ?_
                  exact sj (hj233 _) (entR [(100, 100), (101, 101), (104, 104), (105, 105), (106, 106)] rfl (keepS hγ trivial) ⟨⟨_, rfl⟩, ⟨_, rfl⟩, ⟨_, rfl⟩, ⟨_, rfl⟩, ⟨_, rfl⟩, trivial⟩ ⟨⟨_, _, rfl, rfl, rci (rc_bx (rn_id if_L_A4_i64))⟩, ⟨_, _, rfl, rfl, rci (rc_bx (rn_id if_L_A4_i64))⟩, ⟨_, _, rfl, rfl, rci (rc_sl (ifs_map (f := i64) (fun _ => if_i64) y39))⟩, ⟨_, _, rfl, rfl, rci (rc_bx (rn_id if_L_A4_i64))⟩, ⟨_, _, rfl, rfl, rci (rc_bx (rn_id if_L_retrospectref08_Whole))⟩, trivial⟩ ⟨⟨_, rfl, rn_id if_str⟩, ⟨_, rfl, rn_own rfl⟩, ⟨_, rfl, rn_id if_bl⟩, ⟨_, rfl, rn_own rfl⟩, ⟨_, rfl, rn_own rfl⟩, ⟨_, rfl, rn_own rfl⟩, ⟨_, rfl, rn_id if_i64⟩, ⟨_, rfl, rn_id if_str⟩, ⟨_, rfl, rn_own rfl⟩, ⟨_, rfl, rn_id if_bl⟩, trivial⟩)
                · refine sg 83 rfl rfl (ldB [] rfl rfl sh_69 (by exact rfl) (by exact rfl) rfl rfl (.inr ⟨rfl, rfl, _, _, rfl⟩)) ?_
                  refine bd fun r235 h236 => ?_
                  refine sg 83 rfl rfl (call0 (c_retrospectref08_Text _ h236) ⟨⟨_, rfl, rn_id if_L_retrospectref08_Whole⟩, trivial⟩ (if_str) rfl) ?_
                  refine sg 83 rfl rfl (mv rfl rfl) ?_
                  refine sg 83 rfl rfl (neS rfl rfl rfl) ?_
                  refine s1 (pickF rfl rfl rfl) ?_
                  refine snil ?_
                  refine pnm ?_
                  exact sj (hj233 _) (entR [(100, 100), (101, 101), (104, 104), (105, 105), (106, 106)] rfl (keepS hγ trivial) ⟨⟨_, rfl⟩, ⟨_, rfl⟩, ⟨_, rfl⟩, ⟨_, rfl⟩, ⟨_, rfl⟩, trivial⟩ ⟨⟨_, _, rfl, rfl, rci (rc_bx (rn_id if_L_A4_i64))⟩, ⟨_, _, rfl, rfl, rci (rc_bx (rn_id if_L_A4_i64))⟩, ⟨_, _, rfl, rfl, rci (rc_sl (ifs_map (f := i64) (fun _ => if_i64) y39))⟩, ⟨_, _, rfl, rfl, rci (rc_bx (rn_id if_L_A4_i64))⟩, ⟨_, _, rfl, rfl, rci (rc_bx (rn_id if_L_retrospectref08_Whole))⟩, trivial⟩ ⟨⟨_, rfl, rn_id if_str⟩, ⟨_, rfl, rn_own rfl⟩, ⟨_, rfl, rn_id if_bl⟩, ⟨_, rfl, rn_own rfl⟩, ⟨_, rfl, rn_own rfl⟩, ⟨_, rfl, rn_own rfl⟩, ⟨_, rfl, rn_id if_i64⟩, ⟨_, rfl, rn_id if_str⟩, ⟨_, rfl, rn_own rfl⟩, ⟨_, rfl, rn_id if_bl⟩, trivial⟩)
              · intro s234
                refine scond rfl ?_ ?_
                · refine sseq ?_
                  refine sreg ?_
                  refine s1 (ldB [] rfl rfl sh_35 (by exact rfl) (by exact rfl) rfl rfl (.inr ⟨rfl, rfl, _, _, rfl⟩)) ?_
                  refine so (stB2 (ly2 := L_A4_i64 (⟨0, 0, 0, 0⟩ : M_A4_i64)) [] (by exact rfl) rfl (by exact rfl) sh_35 (by exact rfl) (by exact rfl) (by exact rfl) rfl (.inr ⟨rfl, rfl, _, _, rfl⟩) rfl) ?_
                  refine s1 (asg rfl kB) ?_
                  refine snil ?_
                  refine pnm ?_
                  refine sret ?_
                  refine pth ?_
                  refine pbl ?_
                  refine pth ?_
                  refine sout (fun h => by cases h) ?_
                  refine pbl ?_
                  refine pth ?_
                  exact ret [] [.cell 2 35, .tmp 3] [_, _] [_, _] .ret hγ (.inl rfl) rfl ⟨⟨100, _, rfl, rfl, sh_35⟩, rfl, trivial⟩ rfl trivial trivial trivial (rns_cons (rn_id if_L_A4_i64) (rns_cons (rn_id if_bl) (rns_nil))) rfl
                · refine sskip ?_
                  refine pnm ?_
                  refine sseq ?_
                  refine sreg ?_
                  refine s1 (asg rfl (kI (x := 0) rfl)) ?_
                  refine snil ?_
                  refine pnm ?_
                  refine sseq ?_
                  refine sseq ?_
                  refine sreg ?_
                  refine s1 (asg rfl (kI (x := 0) rfl)) ?_
                  refine snil ?_
                  refine pnm ?_
                  refine sblk ?_
                  refine sloopE 6 (fun t => t) (fun (s253 : Int × Int) => [(0, str x0), (2, .own 100), (3, bl false), (4, .own 101), (5, .own 104), (7, .own 105), (9, i64 s221.2), (10, str y226), (11, .own 106), (13, i64 s253.1), (14, i64 s253.2)]) (fun (s253 : Int × Int) => [(100, .bx 35 (L_A4_i64 (⟨0, 0, 0, 0⟩ : M_A4_i64))), (101, .bx 35 (L_A4_i64 (⟨0, 0, 0, 0⟩ : M_A4_i64))), (104, .sl 3 1 (List.map i64 y39)), (105, .bx 35 (L_A4_i64 s221.1)), (106, .bx 69 (L_retrospectref08_Whole r228.1))]) (fun (t251 : Int) => [(0, str x0), (2, .own 100), (3, bl false), (4, .own 101), (5, .own 104), (7, .own 105), (9, i64 s221.2), (11, .own 106), (13, i64 t251)]) (fun (t251 : Int) => [(100, .bx 35 (L_A4_i64 (⟨0, 0, 0, 0⟩ : M_A4_i64))), (101, .bx 35 (L_A4_i64 (⟨0, 0, 0, 0⟩ : M_A4_i64))), (104, .sl 3 1 (List.map i64 y39)), (105, .bx 35 (L_A4_i64 s221.1)), (106, .bx 69 (L_retrospectref08_Whole r228.1))]) (entR [(100, 100), (101, 101), (104, 104), (105, 105), (106, 106)] rfl (keepS hγ trivial) ⟨⟨_, rfl⟩, ⟨_, rfl⟩, ⟨_, rfl⟩, ⟨_, rfl⟩, ⟨_, rfl⟩, trivial⟩ ⟨⟨_, _, rfl, rfl, rci (rc_bx (rn_id if_L_A4_i64))⟩, ⟨_, _, rfl, rfl, rci (rc_bx (rn_id if_L_A4_i64))⟩, ⟨_, _, rfl, rfl, rci (rc_sl (ifs_map (f := i64) (fun _ => if_i64) y39))⟩, ⟨_, _, rfl, rfl, rci (rc_bx (rn_id if_L_A4_i64))⟩, ⟨_, _, rfl, rfl, rci (rc_bx (rn_id if_L_retrospectref08_Whole))⟩, trivial⟩ ⟨⟨_, rfl, rn_id if_str⟩, ⟨_, rfl, rn_own rfl⟩, ⟨_, rfl, rn_id if_bl⟩, ⟨_, rfl, rn_own rfl⟩, ⟨_, rfl, rn_own rfl⟩, ⟨_, rfl, rn_own rfl⟩, ⟨_, rfl, rn_id if_i64⟩, ⟨_, rfl, rn_id if_str⟩, ⟨_, rfl, rn_own rfl⟩, ⟨_, rfl, rn_id if_i64⟩, ⟨_, rfl, rn_id if_i64⟩, trivial⟩) ?_ ?_
                  · intro hj252 s253
                    refine sseq ?_
                    refine sseq ?_
                    refine sreg ?_
                    refine s1 (mv rfl rfl) ?_
                    refine s1 (mv rfl rfl) ?_
                    refine s1 (lenS Tryz.underlying9 rfl rfl) ?_
                    refine s1 (ltI rfl rfl rfl) ?_
                    refine snil ?_
                    refine pnm ?_
                    refine scond rfl ?_ ?_
                    · refine sskip ?_
                      refine pnm ?_
                      refine sjq (fun (s261 : Int) => [(0, str x0), (2, .own 100), (3, bl false), (4, .own 101), (5, .own 104), (7, .own 105), (9, i64 s221.2), (10, str y226), (11, .own 106), (13, i64 s261), (14, i64 s253.2)]) (fun (s261 : Int) => [(100, .bx 35 (L_A4_i64 (⟨0, 0, 0, 0⟩ : M_A4_i64))), (101, .bx 35 (L_A4_i64 (⟨0, 0, 0, 0⟩ : M_A4_i64))), (104, .sl 3 1 (List.map i64 y39)), (105, .bx 35 (L_A4_i64 s221.1)), (106, .bx 69 (L_retrospectref08_Whole r228.1))]) ?_ ?_
                      · intro j259 hj260
                        refine sblk ?_
                        refine sseq ?_
                        refine sreg ?_
                        refine s1 (mv rfl rfl) ?_
                        refine s1 (mv rfl rfl) ?_
                        refine bd fun y262 h263 => ?_
                        refine s1 (ixS Tryz.underlying9 h263 rfl rfl rfl) ?_
                        refine s1 (neU .u8 rfl rfl (k8 (x := 45) rfl)) ?_
                        refine snil ?_
                        refine pnm ?_
                        refine scond rfl ?_ ?_
                        · refine sreg ?_
                          refine s1 (mv rfl rfl) ?_
                          refine s1 (mulI rfl (kI (x := 10) rfl) rfl) ?_
                          refine s1 (mv rfl rfl) ?_
                          refine s1 (mv rfl rfl) ?_
                          refine bd fun y264 h265 => ?_
                          refine s1 (ixS Tryz.underlying9 h265 rfl rfl rfl) ?_
                          refine s1 (cvUIw uk8 rfl Tryz.underlying5 Tryz.underlying3 rfl rfl) ?_
                          refine s1 (addI rfl rfl rfl) ?_
                          refine s1 (subI rfl rfl (kI (x := 48) rfl)) ?_
                          refine sbn (F := i64) 107 rfl fun z266 => ?_
                          refine s1 (asg rfl rfl) ?_
                          refine snil ?_
                          refine pbn ?_
                          refine pnm ?_
                          exact sj (hj260 _) (entR [(100, 100), (101, 101), (104, 104), (105, 105), (106, 106)] rfl (keepS hγ trivial) ⟨⟨_, rfl⟩, ⟨_, rfl⟩, ⟨_, rfl⟩, ⟨_, rfl⟩, ⟨_, rfl⟩, trivial⟩ ⟨⟨_, _, rfl, rfl, rci (rc_bx (rn_id if_L_A4_i64))⟩, ⟨_, _, rfl, rfl, rci (rc_bx (rn_id if_L_A4_i64))⟩, ⟨_, _, rfl, rfl, rci (rc_sl (ifs_map (f := i64) (fun _ => if_i64) y39))⟩, ⟨_, _, rfl, rfl, rci (rc_bx (rn_id if_L_A4_i64))⟩, ⟨_, _, rfl, rfl, rci (rc_bx (rn_id if_L_retrospectref08_Whole))⟩, trivial⟩ ⟨⟨_, rfl, rn_id if_str⟩, ⟨_, rfl, rn_own rfl⟩, ⟨_, rfl, rn_id if_bl⟩, ⟨_, rfl, rn_own rfl⟩, ⟨_, rfl, rn_own rfl⟩, ⟨_, rfl, rn_own rfl⟩, ⟨_, rfl, rn_id if_i64⟩, ⟨_, rfl, rn_id if_str⟩, ⟨_, rfl, rn_own rfl⟩, ⟨_, rfl, rn_id if_i64⟩, ⟨_, rfl, rn_id if_i64⟩, trivial⟩)
                        · refine sskip ?_
                          refine pbn ?_
                          refine pnm ?_
                          exact sj (hj260 _) (entR [(100, 100), (101, 101), (104, 104), (105, 105), (106, 106)] rfl (keepS hγ trivial) ⟨⟨_, rfl⟩, ⟨_, rfl⟩, ⟨_, rfl⟩, ⟨_, rfl⟩, ⟨_, rfl⟩, trivial⟩ ⟨⟨_, _, rfl, rfl, rci (rc_bx (rn_id if_L_A4_i64))⟩, ⟨_, _, rfl, rfl, rci (rc_bx (rn_id if_L_A4_i64))⟩, ⟨_, _, rfl, rfl, rci (rc_sl (ifs_map (f := i64) (fun _ => if_i64) y39))⟩, ⟨_, _, rfl, rfl, rci (rc_bx (rn_id if_L_A4_i64))⟩, ⟨_, _, rfl, rfl, rci (rc_bx (rn_id if_L_retrospectref08_Whole))⟩, trivial⟩ ⟨⟨_, rfl, rn_id if_str⟩, ⟨_, rfl, rn_own rfl⟩, ⟨_, rfl, rn_id if_bl⟩, ⟨_, rfl, rn_own rfl⟩, ⟨_, rfl, rn_own rfl⟩, ⟨_, rfl, rn_own rfl⟩, ⟨_, rfl, rn_id if_i64⟩, ⟨_, rfl, rn_id if_str⟩, ⟨_, rfl, rn_own rfl⟩, ⟨_, rfl, rn_id if_i64⟩, ⟨_, rfl, rn_id if_i64⟩, trivial⟩)
                      · intro s261
                        refine sreg ?_
                        refine s1 (mv rfl rfl) ?_
                        refine s1 (addI rfl rfl (kI (x := 1) rfl)) ?_
                        refine s1 (asg rfl rfl) ?_
                        refine snil ?_
                        exact sgo (entR [(100, 100), (101, 101), (104, 104), (105, 105), (106, 106)] rfl (keepS hγ trivial) ⟨⟨_, rfl⟩, ⟨_, rfl⟩, ⟨_, rfl⟩, ⟨_, rfl⟩, ⟨_, rfl⟩, trivial⟩ ⟨⟨_, _, rfl, rfl, rci (rc_bx (rn_id if_L_A4_i64))⟩, ⟨_, _, rfl, rfl, rci (rc_bx (rn_id if_L_A4_i64))⟩, ⟨_, _, rfl, rfl, rci (rc_sl (ifs_map (f := i64) (fun _ => if_i64) y39))⟩, ⟨_, _, rfl, rfl, rci (rc_bx (rn_id if_L_A4_i64))⟩, ⟨_, _, rfl, rfl, rci (rc_bx (rn_id if_L_retrospectref08_Whole))⟩, trivial⟩ ⟨⟨_, rfl, rn_id if_str⟩, ⟨_, rfl, rn_own rfl⟩, ⟨_, rfl, rn_id if_bl⟩, ⟨_, rfl, rn_own rfl⟩, ⟨_, rfl, rn_own rfl⟩, ⟨_, rfl, rn_own rfl⟩, ⟨_, rfl, rn_id if_i64⟩, ⟨_, rfl, rn_id if_str⟩, ⟨_, rfl, rn_own rfl⟩, ⟨_, rfl, rn_id if_i64⟩, ⟨_, rfl, rn_id if_i64⟩, trivial⟩)
                    · refine sexit ?_
                      refine ptx ?_
                      exact sout (fun h => by cases h) (sj (hj252 _) (entR [(100, 100), (101, 101), (104, 104), (105, 105), (106, 106)] rfl (keepS hγ trivial) ⟨⟨_, rfl⟩, ⟨_, rfl⟩, ⟨_, rfl⟩, ⟨_, rfl⟩, ⟨_, rfl⟩, trivial⟩ ⟨⟨_, _, rfl, rfl, rci (rc_bx (rn_id if_L_A4_i64))⟩, ⟨_, _, rfl, rfl, rci (rc_bx (rn_id if_L_A4_i64))⟩, ⟨_, _, rfl, rfl, rci (rc_sl (ifs_map (f := i64) (fun _ => if_i64) y39))⟩, ⟨_, _, rfl, rfl, rci (rc_bx (rn_id if_L_A4_i64))⟩, ⟨_, _, rfl, rfl, rci (rc_bx (rn_id if_L_retrospectref08_Whole))⟩, trivial⟩ ⟨⟨_, rfl, rn_id if_str⟩, ⟨_, rfl, rn_own rfl⟩, ⟨_, rfl, rn_id if_bl⟩, ⟨_, rfl, rn_own rfl⟩, ⟨_, rfl, rn_own rfl⟩, ⟨_, rfl, rn_own rfl⟩, ⟨_, rfl, rn_id if_i64⟩, ⟨_, rfl, rn_own rfl⟩, ⟨_, rfl, rn_id if_i64⟩, trivial⟩))
                  · intro t251
                    refine sx ?_
                    refine pnm ?_
                    refine sseq ?_
                    refine sseq ?_
                    refine sreg ?_
                    refine s1 (mv rfl rfl) ?_
                    refine s1 (gtI rfl rfl (kI (x := 1000000) rfl)) ?_
                    refine snil ?_
                    refine pnm ?_
                    refine scond rfl ?_ ?_
                    · refine sseq ?_
                      refine sreg ?_
                      refine s1 (ldB [] rfl rfl sh_35 (by exact rfl) (by exact rfl) rfl rfl (.inr ⟨rfl, rfl, _, _, rfl⟩)) ?_
                      refine so (stB2 (ly2 := L_A4_i64 (⟨0, 0, 0, 0⟩ : M_A4_i64)) [] (by exact rfl) rfl (by exact rfl) sh_35 (by exact rfl) (by exact rfl) (by exact rfl) rfl (.inr ⟨rfl, rfl, _, _, rfl⟩) rfl) ?_
                      refine s1 (asg rfl kB) ?_
                      refine snil ?_
                      refine pnm ?_
                      refine sret ?_
                      refine pth ?_
                      refine pbl ?_
                      refine pth ?_
                      refine sout (fun h => by cases h) ?_
                      refine pbl ?_
                      refine pth ?_
                      exact ret [] [.cell 2 35, .tmp 3] [_, _] [_, _] .ret hγ (.inl rfl) rfl ⟨⟨100, _, rfl, rfl, sh_35⟩, rfl, trivial⟩ rfl trivial trivial trivial (rns_cons (rn_id if_L_A4_i64) (rns_cons (rn_id if_bl) (rns_nil))) rfl
                    · refine sskip ?_
                      refine pnm ?_
                      refine sjq (fun (s269 : Int) => [(0, str x0), (2, .own 100), (3, bl false), (4, .own 101), (5, .own 104), (7, .own 105), (9, i64 s221.2), (13, i64 s269)]) (fun (s269 : Int) => [(100, .bx 35 (L_A4_i64 (⟨0, 0, 0, 0⟩ : M_A4_i64))), (101, .bx 35 (L_A4_i64 (⟨0, 0, 0, 0⟩ : M_A4_i64))), (104, .sl 3 1 (List.map i64 y39)), (105, .bx 35 (L_A4_i64 s221.1))]) ?_ ?_
                      · intro j267 hj268
                        refine sseq ?_
                        refine sreg ?_
                        refine s1 (faO rfl fd_69_0 rfl rfl) ?_
                        refine s1 (ldB [0] rfl (by exact rfl) sh_4 (by exact rfl) (by exact rfl) rfl rfl (.inl rfl)) ?_
                        refine snil ?_
                        refine pnm ?_
                        refine scond rfl ?_ ?_
                        · refine sreg ?_
                          refine s1 (mv rfl rfl) ?_
                          refine s1 (negI rfl rfl) ?_
                          refine s1 (asg rfl rfl) ?_
                          refine snil ?_
                          refine pnm ?_
                          exact sj (hj268 _) (entR [(100, 100), (101, 101), (104, 104), (105, 105)] rfl (keepS hγ trivial) ⟨⟨_, rfl⟩, ⟨_, rfl⟩, ⟨_, rfl⟩, ⟨_, rfl⟩, trivial⟩ ⟨⟨_, _, rfl, rfl, rci (rc_bx (rn_id if_L_A4_i64))⟩, ⟨_, _, rfl, rfl, rci (rc_bx (rn_id if_L_A4_i64))⟩, ⟨_, _, rfl, rfl, rci (rc_sl (ifs_map (f := i64) (fun _ => if_i64) y39))⟩, ⟨_, _, rfl, rfl, rci (rc_bx (rn_id if_L_A4_i64))⟩, trivial⟩ ⟨⟨_, rfl, rn_id if_str⟩, ⟨_, rfl, rn_own rfl⟩, ⟨_, rfl, rn_id if_bl⟩, ⟨_, rfl, rn_own rfl⟩, ⟨_, rfl, rn_own rfl⟩, ⟨_, rfl, rn_own rfl⟩, ⟨_, rfl, rn_id if_i64⟩, ⟨_, rfl, rn_id if_i64⟩, trivial⟩)
                        · refine sskip ?_
                          refine pnm ?_
                          exact sj (hj268 _) (entR [(100, 100), (101, 101), (104, 104), (105, 105)] rfl (keepS hγ trivial) ⟨⟨_, rfl⟩, ⟨_, rfl⟩, ⟨_, rfl⟩, ⟨_, rfl⟩, trivial⟩ ⟨⟨_, _, rfl, rfl, rci (rc_bx (rn_id if_L_A4_i64))⟩, ⟨_, _, rfl, rfl, rci (rc_bx (rn_id if_L_A4_i64))⟩, ⟨_, _, rfl, rfl, rci (rc_sl (ifs_map (f := i64) (fun _ => if_i64) y39))⟩, ⟨_, _, rfl, rfl, rci (rc_bx (rn_id if_L_A4_i64))⟩, trivial⟩ ⟨⟨_, rfl, rn_id if_str⟩, ⟨_, rfl, rn_own rfl⟩, ⟨_, rfl, rn_id if_bl⟩, ⟨_, rfl, rn_own rfl⟩, ⟨_, rfl, rn_own rfl⟩, ⟨_, rfl, rn_own rfl⟩, ⟨_, rfl, rn_id if_i64⟩, ⟨_, rfl, rn_id if_i64⟩, trivial⟩)
                      · intro s269
                        refine sreg ?_
                        refine s1 (mv rfl rfl) ?_
                        refine s1 (addI rfl rfl (kI (x := 1) rfl)) ?_
                        refine s1 (mv rfl rfl) ?_
                        refine bd fun y270 h271 => ?_
                        refine s1 (ixAO Tryz.underlying35 ti_3 (getI_dec (n := 4) rfl h271) (.inr ⟨rfl, rfl, _, _, rfl⟩) rfl rfl rfl) ?_
                        refine so (stB2 (ly := .agg (List.map i64 ([s221.1.a0, s221.1.a1, s221.1.a2, s221.1.a3] : List Int))) (ly2 := L_A4_i64 (ofl_A4_i64 (List.set ([s221.1.a0, s221.1.a1, s221.1.a2, s221.1.a3] : List Int) (Int.toNat (wrap64 (s221.2 + (1 : Int)))) s269))) (ln := i64 s269) [Int.toNat (wrap64 (s221.2 + (1 : Int)))] (puA0 (f := i64) h271 (ofl_ok_A4_i64 _ (List.length_set.trans rfl))) rfl (goA0 (f := i64) (fun _ => rfl) h271) sh_3 (by exact rfl) (by exact rfl) (by exact rfl) rfl (.inl rfl) rfl) ?_
                        refine snil ?_
                        refine pbn ?_
                        refine pnm ?_
                        refine sreg ?_
                        refine s1 (mv rfl rfl) ?_
                        refine s1 (addI rfl rfl (kI (x := 1) rfl)) ?_
                        refine s1 (asg rfl rfl) ?_
                        refine snil ?_
                        exact sgo (entR [(100, 100), (101, 101), (104, 104), (105, 105)] rfl (keepS hγ trivial) ⟨⟨_, rfl⟩, ⟨_, rfl⟩, ⟨_, rfl⟩, ⟨_, rfl⟩, trivial⟩ ⟨⟨_, _, rfl, rfl, rci (rc_bx (rn_id if_L_A4_i64))⟩, ⟨_, _, rfl, rfl, rci (rc_bx (rn_id if_L_A4_i64))⟩, ⟨_, _, rfl, rfl, rci (rc_sl (ifs_map (f := i64) (fun _ => if_i64) y39))⟩, ⟨_, _, rfl, rfl, rci (rc_bx (rn_id if_L_A4_i64))⟩, trivial⟩ ⟨⟨_, rfl, rn_id if_str⟩, ⟨_, rfl, rn_own rfl⟩, ⟨_, rfl, rn_id if_bl⟩, ⟨_, rfl, rn_own rfl⟩, ⟨_, rfl, rn_own rfl⟩, ⟨_, rfl, rn_own rfl⟩, ⟨_, rfl, rn_id if_i64⟩, trivial⟩)
          · refine sexit ?_
            refine ptx ?_
            exact sout (fun h => by cases h) (sj (hj220 _) (entR [(100, 100), (101, 101), (105, 105)] rfl (keepS hγ trivial) ⟨⟨_, rfl⟩, ⟨_, rfl⟩, ⟨_, rfl⟩, trivial⟩ ⟨⟨_, _, rfl, rfl, rci (rc_bx (rn_id if_L_A4_i64))⟩, ⟨_, _, rfl, rfl, rci (rc_bx (rn_id if_L_A4_i64))⟩, ⟨_, _, rfl, rfl, rci (rc_bx (rn_id if_L_A4_i64))⟩, trivial⟩ ⟨⟨_, rfl, rn_own rfl⟩, ⟨_, rfl, rn_id if_bl⟩, ⟨_, rfl, rn_own rfl⟩, ⟨_, rfl, rn_own rfl⟩, trivial⟩))
        · intro t219
          refine slpk ?_
          refine sx ?_
          refine pnm ?_
          refine sseq ?_
          refine sseq ?_
          refine sreg ?_
          refine s1 (ixAO Tryz.underlying35 ti_3 rfl (.inr ⟨rfl, rfl, _, _, rfl⟩) rfl rfl (kI (x := 0) rfl)) ?_
          refine s1 (ldB [0] rfl (by exact rfl) sh_3 (by exact rfl) (by exact rfl) rfl rfl (.inl rfl)) ?_
          refine s1 (ltI rfl rfl (kI (x := 0) rfl)) ?_
          refine snil ?_
          refine pnm ?_
          refine scond rfl ?_ ?_
          · refine sseq ?_
            refine sreg ?_
            refine s1 (ldB [] rfl rfl sh_35 (by exact rfl) (by exact rfl) rfl rfl (.inr ⟨rfl, rfl, _, _, rfl⟩)) ?_
            refine so (stB2 (ly2 := L_A4_i64 (⟨0, 0, 0, 0⟩ : M_A4_i64)) [] (by exact rfl) rfl (by exact rfl) sh_35 (by exact rfl) (by exact rfl) (by exact rfl) rfl (.inr ⟨rfl, rfl, _, _, rfl⟩) rfl) ?_
            refine s1 (asg rfl kB) ?_
            refine snil ?_
            refine pnm ?_
            refine sret ?_
            refine pth ?_
            exact ret [] [.cell 2 35, .tmp 3] [_, _] [_, _] .ret hγ (.inl rfl) rfl ⟨⟨100, _, rfl, rfl, sh_35⟩, rfl, trivial⟩ rfl trivial trivial trivial (rns_cons (rn_id if_L_A4_i64) (rns_cons (rn_id if_bl) (rns_nil))) rfl
          · refine sskip ?_
            refine pnm ?_
            refine sseq ?_
            refine sreg ?_
            refine s1 (ldB [] rfl rfl sh_35 (by exact rfl) (by exact rfl) rfl rfl (.inr ⟨rfl, rfl, _, _, rfl⟩)) ?_
            refine so (stB2 (ly2 := L_A4_i64 t219) [] (by exact rfl) rfl (by exact rfl) sh_35 (by exact rfl) (by exact rfl) (by exact rfl) rfl (.inr ⟨rfl, rfl, _, _, rfl⟩) rfl) ?_
            refine s1 (asg rfl kB) ?_
            refine snil ?_
            refine pnm ?_
            refine sret ?_
            exact ret [] [.cell 2 35, .tmp 3] [_, _] [_, _] .ret hγ (.inl rfl) rfl ⟨⟨100, _, rfl, rfl, sh_35⟩, rfl, trivial⟩ rfl trivial trivial trivial (rns_cons (rn_id if_L_A4_i64) (rns_cons (rn_id if_bl) (rns_nil))) rfl
theorem c_retrospectref02_Of {n : Nat} {x0 : Nat} : ∀ r, m_retrospectref02_Of n x0 = some r → FnOk Tryz.prog 52 [u64 x0] [] (sli 1 (List.map u32 r)) [] := by
  unfold m_retrospectref02_Of
  refine fn_of_sq (res := fun (r : (List Nat)) => sli 1 (List.map u32 r)) (mo := fun (r : (List Nat)) => []) Tryz.func52 rfl rfl (by kernel_rfl) rfl ?_
  intro w S0 γ hγ
  refine sseq ?_
  refine sreg ?_
  refine s1 (asg rfl (kLm (k := 1) u32)) ?_
  refine snil ?_
  refine pnm ?_
  refine sseq ?_
  refine sreg ?_
  refine s1 (mv rfl rfl) ?_
  refine s1 (remU uk64 rfl rfl rfl (k64 (x := 4294967296) rfl)) ?_
  refine s1 (cvU uk32 Tryz.underlying106 Tryz.underlying107 rfl rfl) ?_
  refine s1 (mv rfl rfl) ?_
  refine s1 (quoU uk64 rfl rfl rfl (k64 (x := 4294967296) rfl)) ?_
  refine s1 (cvU uk32 Tryz.underlying106 Tryz.underlying107 rfl rfl) ?_
  refine so (bsl (y := 100) (ls := List.map u32 ([((x0 % 4294967296) % 4294967296), ((x0 / 4294967296) % 4294967296)] : List Nat)) Tryz.underlying67 ti_107 rfl rfl rfl rfl rfl ⟨rfl, rfl, (by exact rfl), (by exact rfl), rfl, rfl, (by exact rfl), (by exact rfl), trivial⟩ rfl rfl) ?_
  refine sbm (C := fun x => .sl 107 1 (List.map u32 x)) 100 rfl fun z1 => ?_
  refine bd fun r2 h3 => ?_
  refine so (callL (em := [(101, .sl 107 1 (List.map u32 r2))]) (res' := .own 101) [100] [] [(101, 50)] [(101, 50)] rfl (c_retrospectref02_Norm _ h3) ⟨pls_map (f := u32) (fun _ => pl_u32) _, trivial⟩ (pl_own) ⟨.inr ⟨100, rfl, .inl ⟨rfl, .inl ⟨_, _, _, rfl, ifs_map (f := u32) (fun _ => if_u32) z1, rfl⟩⟩⟩, trivial⟩ (MiF.get (mi := []) trivial) trivial rfl ⟨rfl, trivial⟩ ⟨.inl rfl, trivial⟩ rfl ⟨.inl ⟨_, _, rfl, rfl, rc_sl (ifs_map (f := u32) (fun _ => if_u32) r2)⟩, trivial⟩ trivial ⟨⟨_, rfl⟩, trivial⟩ (rn_own rfl) rfl) ?_
  refine s1 (asg rfl rfl) ?_
  refine snil ?_
  refine pnm ?_
  refine sret ?_
  refine frz (id := 101) [(2, sli 1 (List.map u32 r2)), (10, sli 1 (List.map u32 r2))] [] rfl (ifs_map (f := u32) (fun _ => if_u32) r2) ⟨⟨_, rfl, fz_own⟩, ⟨_, rfl, fz_own⟩, trivial⟩ trivial ?_
  exact ret [] [.tmp 2] [_] [_] .ret hγ (.inl rfl) rfl ⟨rfl, trivial⟩ rfl trivial trivial trivial (rns_cons (rn_id if_sli) (rns_nil)) rfl
theorem c_retrospectref06_One {x0 : (List Nat)} : ∀ r, m_retrospectref06_One x0 = some r → FnOk Tryz.prog 75 [sli 1 (List.map u32 x0)] [] (bl r) [] := by
  unfold m_retrospectref06_One
  refine fn_of_sq (res := fun (r : Bool) => bl r) (mo := fun (r : Bool) => []) Tryz.func75 rfl rfl (by kernel_rfl) rfl ?_
  intro w S0 γ hγ
  refine sseq ?_
  refine sreg ?_
  refine s1 (asg rfl kB) ?_
  refine snil ?_
  refine pnm ?_
  refine sjq (fun (s5 : Bool) => [(2, bl s5)]) (fun (s5 : Bool) => []) ?_ ?_
  · intro j3 hj4
    refine sreg ?_
    refine s1 (mv rfl rfl) ?_
    refine s1 (lenL (f := u32) Tryz.underlying67 rfl rfl) ?_
    refine s1 (eqI rfl rfl (kI (x := 1) rfl)) ?_
    refine s1 (mv rfl rfl) ?_
    refine sifd 6 rfl ?_ ?_
    · refine sg 6 rfl rfl (mv rfl rfl) ?_
      refine bd fun y6 h7 => ?_
      refine sg 6 rfl rfl (ixR (f := u32) Tryz.underlying67 ti_107 h7 rfl rfl (kI (x := 0) rfl)) ?_
      refine sg 6 rfl rfl (ldR sh_107 (by exact rfl) (by exact rfl) rfl rfl) ?_
      refine sg 6 rfl rfl (eqU .u32 rfl rfl (k32 (x := 1) rfl)) ?_
      refine s1 (pickT rfl rfl rfl) ?_
      refine s1 (asg rfl rfl) ?_
      refine snil ?_
      refine pnm ?_
      exact sj (hj4 _) (entI ⟨rfl, trivial⟩ eqm0)
    · refine spB 6 rfl rfl rfl ?_
      refine spB 6 rfl rfl rfl ?_
      refine spB 6 rfl rfl rfl ?_
      refine spB 6 rfl rfl rfl ?_
      refine s1 (pickF rfl rfl kB) ?_
      refine s1 (asg rfl rfl) ?_
      refine snil ?_
      refine pnm ?_
      exact sj (hj4 _) (entI ⟨rfl, trivial⟩ eqm0)
  · intro s5
    refine sret ?_
    exact ret [] [.tmp 2] [_] [_] .ret hγ (.inl rfl) rfl ⟨rfl, trivial⟩ rfl trivial trivial trivial (rns_cons (rn_id if_bl) (rns_nil)) rfl
theorem c_retrospectref01_Zeros {n : Nat} {x0 : Nat} : ∀ r, m_retrospectref01_Zeros n x0 = some r → FnOk Tryz.prog 128 [u32 x0] [] (i64 r) [] := by
  unfold m_retrospectref01_Zeros
  refine fn_of_sq (res := fun (r : Int) => i64 r) (mo := fun (r : Int) => []) Tryz.func128 rfl rfl (by kernel_rfl) rfl ?_
  intro w S0 γ hγ
  refine sseq ?_
  refine sreg ?_
  refine s1 (asg rfl (kI (x := 0) rfl)) ?_
  refine snil ?_
  refine pnm ?_
  refine sseq ?_
  refine sseq ?_
  refine sreg ?_
  refine s1 (mv rfl rfl) ?_
  refine s1 (eqU .u32 rfl rfl (k32 (x := 0) rfl)) ?_
  refine snil ?_
  refine pnm ?_
  refine scond rfl ?_ ?_
  · refine sseq ?_
    refine sreg ?_
    refine s1 (asg rfl (kI (x := 32) rfl)) ?_
    refine snil ?_
    refine pnm ?_
    refine sret ?_
    refine pth ?_
    exact ret [] [.tmp 2] [_] [_] .ret hγ (.inl rfl) rfl ⟨rfl, trivial⟩ rfl trivial trivial trivial (rns_cons (rn_id if_i64) (rns_nil)) rfl
  · refine sskip ?_
    refine pnm ?_
    refine sseq ?_
    refine sreg ?_
    refine s1 (asg rfl (kI (x := 0) rfl)) ?_
    refine snil ?_
    refine pnm ?_
    refine sseq ?_
    refine sblk ?_
    refine sloopE 0 (fun t => t) (fun (s5 : Nat × Int) => [(0, u32 s5.1), (2, i64 (0 : Int)), (3, i64 s5.2)]) (fun (s5 : Nat × Int) => []) (fun (t3 : Int) => [(2, i64 (0 : Int)), (3, i64 t3)]) (fun (t3 : Int) => []) (entI ⟨rfl, rfl, rfl, trivial⟩ eqm0) ?_ ?_
    · intro hj4 s5
      refine sseq ?_
      refine sseq ?_
      refine sreg ?_
      refine s1 (mv rfl rfl) ?_
      refine s1 (remU uk32 rfl rfl rfl (k32 (x := 2) rfl)) ?_
      refine s1 (eqU .u32 rfl rfl (k32 (x := 0) rfl)) ?_
      refine snil ?_
      refine pnm ?_
      refine scond rfl ?_ ?_
      · refine sskip ?_
        refine pnm ?_
        refine sblk ?_
        refine sseq ?_
        refine sreg ?_
        refine s1 (mv rfl rfl) ?_
        refine s1 (quoU uk32 rfl rfl rfl (k32 (x := 2) rfl)) ?_
        refine s1 (asg rfl rfl) ?_
        refine snil ?_
        refine pnm ?_
        refine sreg ?_
        refine s1 (mv rfl rfl) ?_
        refine s1 (addI rfl rfl (kI (x := 1) rfl)) ?_
        refine s1 (asg rfl rfl) ?_
        refine snil ?_
        refine pbn ?_
        exact sgo (entI ⟨rfl, rfl, rfl, trivial⟩ eqm0)
      · refine sexit ?_
        refine ptx ?_
        exact sout (fun h => by cases h) (sj (hj4 _) (entI ⟨rfl, rfl, trivial⟩ eqm0))
    · intro t3
      refine sx ?_
      refine pnm ?_
      refine sseq ?_
      refine sreg ?_
      refine s1 (mv rfl rfl) ?_
      refine s1 (asg rfl rfl) ?_
      refine snil ?_
      refine pnm ?_
      refine sret ?_
      exact ret [] [.tmp 2] [_] [_] .ret hγ (.inl rfl) rfl ⟨rfl, trivial⟩ rfl trivial trivial trivial (rns_cons (rn_id if_i64) (rns_nil)) rfl
theorem c_retrospectref06_down {n : Nat} {x0 : (List Nat)} {x0o : Nat} {x0l : Nat} {x1 : Int} : ∀ r, m_retrospectref06_down n x0 x0o x0l x1 = some r → FnOk Tryz.prog 129 [.win 0 x0o x0l, i64 x1] [(0, .sl 107 1 (List.map u32 x0))] (.win 0 r.1 r.2.1) [(0, .sl 107 1 (List.map u32 r.2.2))] := by
  unfold m_retrospectref06_down
  refine fn_of_sq (res := fun (r : Nat × Nat × (List Nat)) => .win 0 r.1 r.2.1) (mo := fun (r : Nat × Nat × (List Nat)) => [(0, .sl 107 1 (List.map u32 r.2.2))]) Tryz.func129 rfl rfl (by kernel_rfl) rfl ?_
  intro w S0 γ hγ
  refine sseq ?_
  refine sreg ?_
  refine s1 (asg rfl (kLm (k := 1) u32)) ?_
  refine snil ?_
  refine pnm ?_
  refine sseq ?_
  refine sseq ?_
  refine sreg ?_
  refine s1 (asg rfl (kI (x := 0) rfl)) ?_
  refine snil ?_
  refine pnm ?_
  refine sblk ?_
  refine sloopE 0 (fun t => t) (fun (s41 : (List Nat) × Int) => [(0, .win 0 x0o x0l), (1, i64 x1), (4, sli 1 (List.map u32 ([] : List Nat))), (5, i64 s41.2)]) (fun (s41 : (List Nat) × Int) => [(0, .sl 107 1 (List.map u32 s41.1))]) (fun (t39 : (List Nat)) => [(0, .win 0 x0o x0l), (4, sli 1 (List.map u32 ([] : List Nat)))]) (fun (t39 : (List Nat)) => [(0, .sl 107 1 (List.map u32 t39))]) (entR [(0, 0)] rfl (keepS hγ ⟨rfl, trivial⟩) ⟨⟨_, rfl⟩, trivial⟩ ⟨⟨_, _, rfl, rfl, rci (rc_sl (ifs_map (f := u32) (fun _ => if_u32) x0))⟩, trivial⟩ ⟨⟨_, rfl, rn_win rfl⟩, ⟨_, rfl, rn_id if_i64⟩, ⟨_, rfl, rn_id if_sli⟩, ⟨_, rfl, rn_id if_i64⟩, trivial⟩) ?_ ?_
  · intro hj40 s41
    refine sseq ?_
    refine sseq ?_
    refine sreg ?_
    refine s1 (mv rfl rfl) ?_
    refine s1 (mv rfl rfl) ?_
    refine s1 (lenW Tryz.underlying67 rfl rfl) ?_
    refine s1 (ltI rfl rfl rfl) ?_
    refine snil ?_
    refine pnm ?_
    refine scond rfl ?_ ?_
    · refine sskip ?_
      refine pnm ?_
      refine sseq ?_
      refine sblk ?_
      refine sseq ?_
      refine sreg ?_
      refine s1 (asg rfl (k64 (x := 0) rfl)) ?_
      refine snil ?_
      refine pnm ?_
      refine sjq (fun (s47 : Nat) => [(0, .win 0 x0o x0l), (1, i64 x1), (4, sli 1 (List.map u32 ([] : List Nat))), (5, i64 s41.2), (6, u64 s47)]) (fun (s47 : Nat) => [(0, .sl 107 1 (List.map u32 s41.1))]) ?_ ?_
      · intro j45 hj46
        refine sseq ?_
        refine sreg ?_
        refine s1 (mv rfl rfl) ?_
        refine s1 (addI rfl rfl (kI (x := 1) rfl)) ?_
        refine s1 (mv rfl rfl) ?_
        refine s1 (lenW Tryz.underlying67 rfl rfl) ?_
        refine s1 (ltI rfl rfl rfl) ?_
        refine snil ?_
        refine pnm ?_
        refine scond rfl ?_ ?_
        · refine sreg ?_
          refine s1 (mv rfl rfl) ?_
          refine s1 (mv rfl rfl) ?_
          refine s1 (addI rfl rfl (kI (x := 1) rfl)) ?_
          refine bd fun _ h50 => ?_
          refine bd fun y48 h49 => ?_
          refine s1 (ixW (f := u32) (grd_some h50) rfl Tryz.underlying67 ti_107 h49 rfl rfl rfl) ?_
          refine s1 (ldO (f := u32) [] rfl (getI_ix h49) (by exact rfl) (by exact rfl) sh_107 (by exact rfl) (by exact rfl) rfl rfl) ?_
          refine s1 (cvUw uk64 uk32 rfl Tryz.underlying107 Tryz.underlying106 rfl rfl) ?_
          refine s1 (asg rfl rfl) ?_
          refine snil ?_
          refine pnm ?_
          exact sj (hj46 _) (entR [(0, 0)] rfl (keepS hγ ⟨rfl, trivial⟩) ⟨⟨_, rfl⟩, trivial⟩ ⟨⟨_, _, rfl, rfl, rci (rc_sl (ifs_map (f := u32) (fun _ => if_u32) s41.1))⟩, trivial⟩ ⟨⟨_, rfl, rn_win rfl⟩, ⟨_, rfl, rn_id if_i64⟩, ⟨_, rfl, rn_id if_sli⟩, ⟨_, rfl, rn_id if_i64⟩, ⟨_, rfl, rn_id if_u64⟩, trivial⟩)
        · refine sskip ?_
          refine pnm ?_
          exact sj (hj46 _) (entR [(0, 0)] rfl (keepS hγ ⟨rfl, trivial⟩) ⟨⟨_, rfl⟩, trivial⟩ ⟨⟨_, _, rfl, rfl, rci (rc_sl (ifs_map (f := u32) (fun _ => if_u32) s41.1))⟩, trivial⟩ ⟨⟨_, rfl, rn_win rfl⟩, ⟨_, rfl, rn_id if_i64⟩, ⟨_, rfl, rn_id if_sli⟩, ⟨_, rfl, rn_id if_i64⟩, ⟨_, rfl, rn_id if_u64⟩, trivial⟩)
      · intro s47
        refine sreg ?_
        refine s1 (mv rfl rfl) ?_
        refine s1 (mv rfl rfl) ?_
        refine s1 (mv rfl rfl) ?_
        refine s1 (mulU uk64 rfl rfl (k64 (x := 4294967296) rfl)) ?_
        refine s1 (mv rfl rfl) ?_
        refine s1 (mv rfl rfl) ?_
        refine bd fun _ h53 => ?_
        refine bd fun y51 h52 => ?_
        refine s1 (ixW (f := u32) (grd_some h53) rfl Tryz.underlying67 ti_107 h52 rfl rfl rfl) ?_
        refine s1 (ldO (f := u32) [] rfl (getI_ix h52) (by exact rfl) (by exact rfl) sh_107 (by exact rfl) (by exact rfl) rfl rfl) ?_
        refine s1 (cvUw uk64 uk32 rfl Tryz.underlying107 Tryz.underlying106 rfl rfl) ?_
        refine s1 (addU uk64 rfl rfl rfl) ?_
        refine sbn (F := u64) 33 rfl fun z54 => ?_
        refine s1 (mv rfl rfl) ?_
        refine bd fun _ h55 => ?_
        refine s1 (shrU uk64 (ge0 h55) rfl rfl rfl) ?_
        refine s1 (cvU uk32 Tryz.underlying106 Tryz.underlying107 rfl rfl) ?_
        refine bd fun _ h58 => ?_
        refine bd fun y56 h57 => ?_
        refine s1 (ixW (f := u32) (grd_some h58) rfl Tryz.underlying67 ti_107 h57 rfl rfl rfl) ?_
        refine so (stO (f := u32) ((z54 / 2 ^ (min (Int.toNat x1) 64)) % 4294967296) [] rfl (getI_ix h57) (by exact rfl) (by exact rfl) (by exact rfl) (by exact rfl) sh_107 (by exact rfl) (by exact rfl) (by exact rfl) rfl rfl) ?_
        refine sbm (C := fun x => .sl 107 1 (List.map u32 x)) 0 rfl fun z59 => ?_
        refine snil ?_
        refine pbn ?_
        refine pnm ?_
        refine sreg ?_
        refine s1 (mv rfl rfl) ?_
        refine s1 (addI rfl rfl (kI (x := 1) rfl)) ?_
        refine s1 (asg rfl rfl) ?_
        refine snil ?_
        exact sgo (entR [(0, 0)] rfl (keepS hγ ⟨rfl, trivial⟩) ⟨⟨_, rfl⟩, trivial⟩ ⟨⟨_, _, rfl, rfl, rci (rc_sl (ifs_map (f := u32) (fun _ => if_u32) z59))⟩, trivial⟩ ⟨⟨_, rfl, rn_win rfl⟩, ⟨_, rfl, rn_id if_i64⟩, ⟨_, rfl, rn_id if_sli⟩, ⟨_, rfl, rn_id if_i64⟩, trivial⟩)
    · refine sexit ?_
      refine ptx ?_
      exact sout (fun h => by cases h) (sj (hj40 _) (entR [(0, 0)] rfl (keepS hγ ⟨rfl, trivial⟩) ⟨⟨_, rfl⟩, trivial⟩ ⟨⟨_, _, rfl, rfl, rci (rc_sl (ifs_map (f := u32) (fun _ => if_u32) s41.1))⟩, trivial⟩ ⟨⟨_, rfl, rn_win rfl⟩, ⟨_, rfl, rn_id if_sli⟩, trivial⟩))
  · intro t39
    refine sx ?_
    refine pnm ?_
    refine sseq ?_
    refine sblk ?_
    refine sloopE 2 (fun t => t) (fun (s84 : Nat × Nat) => [(0, .win 0 s84.1 s84.2), (4, sli 1 (List.map u32 ([] : List Nat)))]) (fun (s84 : Nat × Nat) => [(0, .sl 107 1 (List.map u32 t39))]) (fun (t82 : Nat × Nat) => [(0, .win 0 t82.1 t82.2), (4, sli 1 (List.map u32 ([] : List Nat)))]) (fun (t82 : Nat × Nat) => [(0, .sl 107 1 (List.map u32 t39))]) (entR [(0, 0)] rfl (keepS hγ ⟨rfl, trivial⟩) ⟨⟨_, rfl⟩, trivial⟩ ⟨⟨_, _, rfl, rfl, rci (rc_sl (ifs_map (f := u32) (fun _ => if_u32) t39))⟩, trivial⟩ ⟨⟨_, rfl, rn_win rfl⟩, ⟨_, rfl, rn_id if_sli⟩, trivial⟩) ?_ ?_
    · intro hj83 s84
      refine sseq ?_
      refine sjq (fun (s90 : Bool) => [(0, .win 0 s84.1 s84.2), (4, sli 1 (List.map u32 ([] : List Nat))), (49, bl s90)]) (fun (s90 : Bool) => [(0, .sl 107 1 (List.map u32 t39))]) ?_ ?_
      · intro j88 hj89
        refine sreg ?_
        refine s1 (mv rfl rfl) ?_
        refine s1 (lenW Tryz.underlying67 rfl rfl) ?_
        refine s1 (gtI rfl rfl (kI (x := 0) rfl)) ?_
        refine s1 (mv rfl rfl) ?_
        refine sifd 41 rfl ?_ ?_
        · refine sg 41 rfl rfl (mv rfl rfl) ?_
          refine sg 41 rfl rfl (mv rfl rfl) ?_
          refine sg 41 rfl rfl (lenW Tryz.underlying67 rfl rfl) ?_
          refine sg 41 rfl rfl (subI rfl rfl (kI (x := 1) rfl)) ?_
          refine bd fun _ h93 => ?_
          refine bd fun y91 h92 => ?_
          refine sg 41 rfl rfl (ixW (f := u32) (grd_some h93) rfl Tryz.underlying67 ti_107 h92 rfl rfl rfl) ?_
          refine sg 41 rfl rfl (ldO (f := u32) [] rfl (getI_ix h92) (by exact rfl) (by exact rfl) sh_107 (by exact rfl) (by exact rfl) rfl rfl) ?_
          refine sg 41 rfl rfl (eqU .u32 rfl rfl (k32 (x := 0) rfl)) ?_
          refine s1 (pickT rfl rfl rfl) ?_
          refine snil ?_
          refine pnm ?_
          exact sj (hj89 _) (entR [(0, 0)] rfl (keepS hγ ⟨rfl, trivial⟩) ⟨⟨_, rfl⟩, trivial⟩ ⟨⟨_, _, rfl, rfl, rci (rc_sl (ifs_map (f := u32) (fun _ => if_u32) t39))⟩, trivial⟩ ⟨⟨_, rfl, rn_win rfl⟩, ⟨_, rfl, rn_id if_sli⟩, ⟨_, rfl, rn_id if_bl⟩, trivial⟩)
        · refine spB 41 rfl rfl rfl ?_
          refine spB 41 rfl rfl rfl ?_
          refine spB 41 rfl rfl rfl ?_
          refine spB 41 rfl rfl rfl ?_
          refine spB 41 rfl rfl rfl ?_
          refine spB 41 rfl rfl rfl ?_
          refine spB 41 rfl rfl rfl ?_
          refine s1 (pickF rfl rfl kB) ?_
          refine snil ?_
          refine pnm ?_
          exact sj (hj89 _) (entR [(0, 0)] rfl (keepS hγ ⟨rfl, trivial⟩) ⟨⟨_, rfl⟩, trivial⟩ ⟨⟨_, _, rfl, rfl, rci (rc_sl (ifs_map (f := u32) (fun _ => if_u32) t39))⟩, trivial⟩ ⟨⟨_, rfl, rn_win rfl⟩, ⟨_, rfl, rn_id if_sli⟩, ⟨_, rfl, rn_id if_bl⟩, trivial⟩)
      · intro s90
        refine scond rfl ?_ ?_
        · refine sskip ?_
          refine pnm ?_
          refine sblk ?_
          refine sreg ?_
          refine s1 (mv rfl rfl) ?_
          refine s1 (mv rfl rfl) ?_
          refine s1 (lenW Tryz.underlying67 rfl rfl) ?_
          refine s1 (subI rfl rfl (kI (x := 1) rfl)) ?_
          refine bd fun _ h94 => ?_
          refine s1 (slW (grd_some h94) rfl Tryz.underlying67 ti_107 rfl rfl bnd0 (bnd rfl)) ?_
          refine s1 (asg rfl rfl) ?_
          refine snil ?_
          refine pbn ?_
          exact sgo (entR [(0, 0)] rfl (keepS hγ ⟨rfl, trivial⟩) ⟨⟨_, rfl⟩, trivial⟩ ⟨⟨_, _, rfl, rfl, rci (rc_sl (ifs_map (f := u32) (fun _ => if_u32) t39))⟩, trivial⟩ ⟨⟨_, rfl, rn_win rfl⟩, ⟨_, rfl, rn_id if_sli⟩, trivial⟩)
        · refine sexit ?_
          refine ptx ?_
          exact sout (fun h => by cases h) (sj (hj83 _) (entR [(0, 0)] rfl (keepS hγ ⟨rfl, trivial⟩) ⟨⟨_, rfl⟩, trivial⟩ ⟨⟨_, _, rfl, rfl, rci (rc_sl (ifs_map (f := u32) (fun _ => if_u32) t39))⟩, trivial⟩ ⟨⟨_, rfl, rn_win rfl⟩, ⟨_, rfl, rn_id if_sli⟩, trivial⟩))
    · intro t82
      refine sx ?_
      refine pnm ?_
      refine sseq ?_
      refine sreg ?_
      refine s1 (mv rfl rfl) ?_
      refine s1 (asg rfl rfl) ?_
      refine snil ?_
      refine pnm ?_
      refine sret ?_
      exact ret [(0, 0)] [.tmp 4] [_] [.win 0 _ _] .ret hγ (.inl rfl) rfl ⟨rfl, trivial⟩ rfl ⟨rfl, trivial⟩ ⟨⟨_, rfl⟩, trivial⟩ ⟨⟨_, _, rfl, rfl, rci (rc_sl (ifs_map (f := u32) (fun _ => if_u32) t39))⟩, trivial⟩ (rns_cons (rn_win rfl) (rns_nil)) rfl
theorem c_retrospectref06_odd {n : Nat} {x0 : (List Nat)} {x0o : Nat} {x0l : Nat} : ∀ r, m_retrospectref06_odd n x0 x0o x0l = some r → FnOk Tryz.prog 106 [.win 0 x0o x0l] [(0, .sl 107 1 (List.map u32 x0))] (.tup [.win 0 r.1 r.2.1, i64 r.2.2.1]) [(0, .sl 107 1 (List.map u32 r.2.2.2))] := by
  unfold m_retrospectref06_odd
  refine fn_of_sq (res := fun (r : Nat × Nat × Int × (List Nat)) => .tup [.win 0 r.1 r.2.1, i64 r.2.2.1]) (mo := fun (r : Nat × Nat × Int × (List Nat)) => [(0, .sl 107 1 (List.map u32 r.2.2.2))]) Tryz.func106 rfl rfl (by kernel_rfl) rfl ?_
  intro w S0 γ hγ
  refine sseq ?_
  refine sreg ?_
  refine s1 (asg rfl (kLm (k := 1) u32)) ?_
  refine s1 (asg rfl (kI (x := 0) rfl)) ?_
  refine snil ?_
  refine pnm ?_
  refine sseq ?_
  refine sreg ?_
  refine s1 (asg rfl (kI (x := 0) rfl)) ?_
  refine snil ?_
  refine pnm ?_
  refine sseq ?_
  refine sblk ?_
  refine sloopE 0 (fun t => t) (fun (s13 : Nat × Nat × Int) => [(0, .win 0 s13.1 s13.2.1), (2, sli 1 (List.map u32 ([] : List Nat))), (3, i64 (0 : Int)), (4, i64 s13.2.2)]) (fun (s13 : Nat × Nat × Int) => [(0, .sl 107 1 (List.map u32 x0))]) (fun (t11 : Nat × Nat × Int) => [(0, .win 0 t11.1 t11.2.1), (2, sli 1 (List.map u32 ([] : List Nat))), (3, i64 (0 : Int)), (4, i64 t11.2.2)]) (fun (t11 : Nat × Nat × Int) => [(0, .sl 107 1 (List.map u32 x0))]) (entR [(0, 0)] rfl (keepS hγ ⟨rfl, trivial⟩) ⟨⟨_, rfl⟩, trivial⟩ ⟨⟨_, _, rfl, rfl, rci (rc_sl (ifs_map (f := u32) (fun _ => if_u32) x0))⟩, trivial⟩ ⟨⟨_, rfl, rn_win rfl⟩, ⟨_, rfl, rn_id if_sli⟩, ⟨_, rfl, rn_id if_i64⟩, ⟨_, rfl, rn_id if_i64⟩, trivial⟩) ?_ ?_
  · intro hj12 s13
    refine sseq ?_
    refine sseq ?_
    refine sreg ?_
    refine s1 (mv rfl rfl) ?_
    refine bd fun _ h16 => ?_
    refine bd fun y14 h15 => ?_
    refine s1 (ixW (f := u32) (grd_some h16) rfl Tryz.underlying67 ti_107 h15 rfl rfl (kI (x := 0) rfl)) ?_
    refine s1 (ldO (f := u32) [] rfl (getI_ix h15) (by exact rfl) (by exact rfl) sh_107 (by exact rfl) (by exact rfl) rfl rfl) ?_
    refine s1 (eqU .u32 rfl rfl (k32 (x := 0) rfl)) ?_
    refine snil ?_
    refine pnm ?_
    refine scond rfl ?_ ?_
    · refine sskip ?_
      refine pnm ?_
      refine sblk ?_
      refine sseq ?_
      refine sreg ?_
      refine s1 (mv rfl rfl) ?_
      refine bd fun _ h17 => ?_
      refine s1 (slW (grd_some h17) rfl Tryz.underlying67 ti_107 rfl rfl (bnd (kI (x := 1) rfl)) bnd0) ?_
      refine s1 (asg rfl rfl) ?_
      refine snil ?_
      refine pnm ?_
      refine sreg ?_
      refine s1 (mv rfl rfl) ?_
      refine s1 (addI rfl rfl (kI (x := 32) rfl)) ?_
      refine s1 (asg rfl rfl) ?_
      refine snil ?_
      refine pbn ?_
      exact sgo (entR [(0, 0)] rfl (keepS hγ ⟨rfl, trivial⟩) ⟨⟨_, rfl⟩, trivial⟩ ⟨⟨_, _, rfl, rfl, rci (rc_sl (ifs_map (f := u32) (fun _ => if_u32) x0))⟩, trivial⟩ ⟨⟨_, rfl, rn_win rfl⟩, ⟨_, rfl, rn_id if_sli⟩, ⟨_, rfl, rn_id if_i64⟩, ⟨_, rfl, rn_id if_i64⟩, trivial⟩)
    · refine sexit ?_
      refine ptx ?_
      exact sout (fun h => by cases h) (sj (hj12 _) (entR [(0, 0)] rfl (keepS hγ ⟨rfl, trivial⟩) ⟨⟨_, rfl⟩, trivial⟩ ⟨⟨_, _, rfl, rfl, rci (rc_sl (ifs_map (f := u32) (fun _ => if_u32) x0))⟩, trivial⟩ ⟨⟨_, rfl, rn_win rfl⟩, ⟨_, rfl, rn_id if_sli⟩, ⟨_, rfl, rn_id if_i64⟩, ⟨_, rfl, rn_id if_i64⟩, trivial⟩))
  · intro t11
    refine sx ?_
    refine pnm ?_
    refine sseq ?_
    refine sreg ?_
    refine s1 (mv rfl rfl) ?_
    refine bd fun _ h20 => ?_
    refine bd fun y18 h19 => ?_
    refine s1 (ixW (f := u32) (grd_some h20) rfl Tryz.underlying67 ti_107 h19 rfl rfl (kI (x := 0) rfl)) ?_
    refine s1 (ldO (f := u32) [] rfl (getI_ix h19) (by exact rfl) (by exact rfl) sh_107 (by exact rfl) (by exact rfl) rfl rfl) ?_
    refine bd fun r21 h22 => ?_
    refine s1 (call0 (c_retrospectref01_Zeros _ h22) ⟨⟨_, rfl, rn_id if_u32⟩, trivial⟩ (if_i64) rfl) ?_
    refine s1 (asg rfl rfl) ?_
    refine snil ?_
    refine pnm ?_
    refine sseq ?_
    refine sreg ?_
    refine s1 (mv rfl rfl) ?_
    refine s1 (mv rfl rfl) ?_
    refine bd fun r23 h24 => ?_
    refine so (callG (em := [(0, .sl 107 1 (List.map u32 r23.2.2))]) (res' := .win 0 r23.1 r23.2.1) [(0, 0)] [] [(0, 0)] (c_retrospectref06_down _ h24) ⟨⟨_, rfl, rn_win rfl⟩, ⟨_, rfl, rn_id if_i64⟩, trivial⟩ (MiF.get (mi := [(0, _)]) ⟨⟨_, _, rfl, rfl, rc_sl (ifs_map (f := u32) (fun _ => if_u32) x0)⟩, trivial⟩) ⟨⟨_, rfl⟩, trivial⟩ rfl trivial ⟨.inr rfl, trivial⟩ rfl ⟨.inl ⟨_, _, rfl, rfl, rc_sl (ifs_map (f := u32) (fun _ => if_u32) r23.2.2)⟩, trivial⟩ ⟨⟨_, rfl⟩, trivial⟩ trivial (rn_win rfl) rfl) ?_
    refine s1 (mv rfl rfl) ?_
    refine s1 (mv rfl rfl) ?_
    refine s1 (addI rfl rfl rfl) ?_
    refine s1 (asg rfl rfl) ?_
    refine s1 (asg rfl rfl) ?_
    refine snil ?_
    refine pnm ?_
    refine sret ?_
    exact ret [(0, 0)] [.tmp 2, .tmp 3] [_, _] [.win 0 _ _, _] .ret hγ (.inl rfl) rfl ⟨rfl, rfl, trivial⟩ rfl ⟨rfl, trivial⟩ ⟨⟨_, rfl⟩, trivial⟩ ⟨⟨_, _, rfl, rfl, rci (rc_sl (ifs_map (f := u32) (fun _ => if_u32) r23.2.2))⟩, trivial⟩ (rns_cons (rn_win rfl) (rns_cons (rn_id if_i64) (rns_nil))) rfl
theorem c_retrospectref02_Cmp {n : Nat} {x0 : (List Nat)} {x1 : (List Nat)} : ∀ r, m_retrospectref02_Cmp n x0 x1 = some r → FnOk Tryz.prog 107 [sli 1 (List.map u32 x0), sli 1 (List.map u32 x1)] [] (i64 r) [] := by
  unfold m_retrospectref02_Cmp
  refine fn_of_sq (res := fun (r : Int) => i64 r) (mo := fun (r : Int) => []) Tryz.func107 rfl rfl (by kernel_rfl) rfl ?_
  intro w S0 γ hγ
  refine sseq ?_
  refine sreg ?_
  refine s1 (asg rfl (kI (x := 0) rfl)) ?_
  refine snil ?_
  refine pnm ?_
  refine sseq ?_
  refine sseq ?_
  refine sreg ?_
  refine s1 (mv rfl rfl) ?_
  refine s1 (lenL (f := u32) Tryz.underlying67 rfl rfl) ?_
  refine s1 (mv rfl rfl) ?_
  refine s1 (lenL (f := u32) Tryz.underlying67 rfl rfl) ?_
  refine s1 (maxI rfl rfl rfl) ?_
  refine s1 (subI rfl rfl (kI (x := 1) rfl)) ?_
  refine s1 (asg rfl rfl) ?_
  refine snil ?_
  refine pnm ?_
  refine sblk ?_
  refine sloopE 0 Lp.go (fun (s15 : Int) => [(0, sli 1 (List.map u32 x0)), (1, sli 1 (List.map u32 x1)), (4, i64 (0 : Int)), (5, i64 s15)]) (fun (s15 : Int) => []) (fun (t13 : Unit) => [(4, i64 (0 : Int))]) (fun (t13 : Unit) => []) (entI ⟨rfl, rfl, rfl, rfl, trivial⟩ eqm0) ?_ ?_
  · intro hj14 s15
    refine sseq ?_
    refine sseq ?_
    refine sreg ?_
    refine s1 (mv rfl rfl) ?_
    refine s1 (geI rfl rfl (kI (x := 0) rfl)) ?_
    refine snil ?_
    refine pnm ?_
    refine scond rfl ?_ ?_
    · refine sskip ?_
      refine pnm ?_
      refine sseq ?_
      refine sblk ?_
      refine sseq ?_
      refine sreg ?_
      refine s1 (mv rfl rfl) ?_
      refine s1 (mv rfl rfl) ?_
      refine bd fun r16 h17 => ?_
      refine s1 (call0 (c_retrospectref02_At _ h17) ⟨⟨_, rfl, rn_id if_sli⟩, ⟨_, rfl, rn_id if_i64⟩, trivial⟩ (if_u32) rfl) ?_
      refine s1 (asg rfl rfl) ?_
      refine snil ?_
      refine pnm ?_
      refine sseq ?_
      refine sreg ?_
      refine s1 (mv rfl rfl) ?_
      refine s1 (mv rfl rfl) ?_
      refine bd fun r18 h19 => ?_
      refine s1 (call0 (c_retrospectref02_At _ h19) ⟨⟨_, rfl, rn_id if_sli⟩, ⟨_, rfl, rn_id if_i64⟩, trivial⟩ (if_u32) rfl) ?_
      refine s1 (asg rfl rfl) ?_
      refine snil ?_
      refine pnm ?_
      refine sseq ?_
      refine sseq ?_
      refine sreg ?_
      refine s1 (mv rfl rfl) ?_
      refine s1 (mv rfl rfl) ?_
      refine s1 (ltU .u32 rfl rfl rfl) ?_
      refine snil ?_
      refine pnm ?_
      refine scond rfl ?_ ?_
      · refine sseq ?_
        refine sreg ?_
        refine s1 (asg rfl (kI (x := (-1)) rfl)) ?_
        refine snil ?_
        refine pnm ?_
        refine sret ?_
        refine pth ?_
        refine pbl ?_
        refine pth ?_
        refine sout (fun h => by cases h) ?_
        refine pbl ?_
        refine pth ?_
        exact ret [] [.tmp 4] [_] [_] .ret hγ (.inl rfl) rfl ⟨rfl, trivial⟩ rfl trivial trivial trivial (rns_cons (rn_id if_i64) (rns_nil)) rfl
      · refine sskip ?_
        refine pnm ?_
        refine sseq ?_
        refine sreg ?_
        refine s1 (mv rfl rfl) ?_
        refine s1 (mv rfl rfl) ?_
        refine s1 (gtU .u32 rfl rfl rfl) ?_
        refine snil ?_
        refine pnm ?_
        refine scond rfl ?_ ?_
        · refine sseq ?_
          refine sreg ?_
          refine s1 (asg rfl (kI (x := 1) rfl)) ?_
          refine snil ?_
          refine pnm ?_
          refine sret ?_
          refine pbl ?_
          refine pth ?_
          refine sout (fun h => by cases h) ?_
          refine pbl ?_
          refine pth ?_
          exact ret [] [.tmp 4] [_] [_] .ret hγ (.inl rfl) rfl ⟨rfl, trivial⟩ rfl trivial trivial trivial (rns_cons (rn_id if_i64) (rns_nil)) rfl
        · refine sskip ?_
          refine pbn ?_
          refine pnm ?_
          refine sreg ?_
          refine s1 (mv rfl rfl) ?_
          refine s1 (subI rfl rfl (kI (x := 1) rfl)) ?_
          refine s1 (asg rfl rfl) ?_
          refine snil ?_
          exact sgo (entI ⟨rfl, rfl, rfl, rfl, trivial⟩ eqm0)
    · refine sexit ?_
      refine ptx ?_
      exact sout (fun h => by cases h) (sj (hj14 _) (entI ⟨rfl, trivial⟩ eqm0))
  · intro t13
    refine slpk ?_
    refine sx ?_
    refine pnm ?_
    refine sseq ?_
    refine sreg ?_
    refine s1 (asg rfl (kI (x := 0) rfl)) ?_
    refine snil ?_
    refine pnm ?_
    refine sret ?_
    exact ret [] [.tmp 4] [_] [_] .ret hγ (.inl rfl) rfl ⟨rfl, trivial⟩ rfl trivial trivial trivial (rns_cons (rn_id if_i64) (rns_nil)) rfl
theorem c_retrospectref05_Less {n : Nat} {x0 : (List Nat)} {x0o : Nat} {x0l : Nat} {x1 : (List Nat)} : ∀ r, m_retrospectref05_Less n x0 x0o x0l x1 = some r → FnOk Tryz.prog 108 [.win 0 x0o x0l, sli 1 (List.map u32 x1)] [(0, .sl 107 1 (List.map u32 x0))] (.tup []) [(0, .sl 107 1 (List.map u32 r))] := by
  unfold m_retrospectref05_Less
  refine fn_of_sq (res := fun (r : (List Nat)) => .tup []) (mo := fun (r : (List Nat)) => [(0, .sl 107 1 (List.map u32 r))]) Tryz.func108 rfl rfl (by kernel_rfl) rfl ?_
  intro w S0 γ hγ
  refine sseq ?_
  refine sreg ?_
  refine s1 (asg rfl (k64 (x := 0) rfl)) ?_
  refine snil ?_
  refine pnm ?_
  refine sseq ?_
  refine sreg ?_
  refine s1 (asg rfl (kI (x := 0) rfl)) ?_
  refine snil ?_
  refine pnm ?_
  refine sblk ?_
  refine sloopE 0 (fun t => t) (fun (s30 : (List Nat) × Nat × Int) => [(0, .win 0 x0o x0l), (1, sli 1 (List.map u32 x1)), (4, u64 s30.2.1), (5, i64 s30.2.2)]) (fun (s30 : (List Nat) × Nat × Int) => [(0, .sl 107 1 (List.map u32 s30.1))]) (fun (t28 : (List Nat)) => []) (fun (t28 : (List Nat)) => [(0, .sl 107 1 (List.map u32 t28))]) (entR [(0, 0)] rfl (keepS hγ ⟨rfl, trivial⟩) ⟨⟨_, rfl⟩, trivial⟩ ⟨⟨_, _, rfl, rfl, rci (rc_sl (ifs_map (f := u32) (fun _ => if_u32) x0))⟩, trivial⟩ ⟨⟨_, rfl, rn_win rfl⟩, ⟨_, rfl, rn_id if_sli⟩, ⟨_, rfl, rn_id if_u64⟩, ⟨_, rfl, rn_id if_i64⟩, trivial⟩) ?_ ?_
  · intro hj29 s30
    refine sseq ?_
    refine sseq ?_
    refine sreg ?_
    refine s1 (mv rfl rfl) ?_
    refine s1 (mv rfl rfl) ?_
    refine s1 (lenW Tryz.underlying67 rfl rfl) ?_
    refine s1 (ltI rfl rfl rfl) ?_
    refine snil ?_
    refine pnm ?_
    refine scond rfl ?_ ?_
    · refine sskip ?_
      refine pnm ?_
      refine sseq ?_
      refine sblk ?_
      refine sseq ?_
      refine sreg ?_
      refine s1 (mv rfl rfl) ?_
      refine s1 (mv rfl rfl) ?_
      refine bd fun _ h33 => ?_
      refine bd fun y31 h32 => ?_
      refine s1 (ixW (f := u32) (grd_some h33) rfl Tryz.underlying67 ti_107 h32 rfl rfl rfl) ?_
      refine s1 (ldO (f := u32) [] rfl (getI_ix h32) (by exact rfl) (by exact rfl) sh_107 (by exact rfl) (by exact rfl) rfl rfl) ?_
      refine s1 (cvUw uk64 uk32 rfl Tryz.underlying107 Tryz.underlying106 rfl rfl) ?_
      refine s1 (asg rfl rfl) ?_
      refine snil ?_
      refine pnm ?_
      refine sseq ?_
      refine sreg ?_
      refine s1 (mv rfl rfl) ?_
      refine s1 (mv rfl rfl) ?_
      refine bd fun r34 h35 => ?_
      refine s1 (call0 (c_retrospectref02_At _ h35) ⟨⟨_, rfl, rn_id if_sli⟩, ⟨_, rfl, rn_id if_i64⟩, trivial⟩ (if_u32) rfl) ?_
      refine s1 (cvUw uk64 uk32 rfl Tryz.underlying107 Tryz.underlying106 rfl rfl) ?_
      refine s1 (mv rfl rfl) ?_
      refine s1 (addU uk64 rfl rfl rfl) ?_
      refine s1 (asg rfl rfl) ?_
      refine snil ?_
      refine pnm ?_
      refine sseq ?_
      refine sreg ?_
      refine s1 (asg rfl (k64 (x := 0) rfl)) ?_
      refine snil ?_
      refine pnm ?_
      refine sjq (fun (s38 : Nat × Nat) => [(0, .win 0 x0o x0l), (1, sli 1 (List.map u32 x1)), (4, u64 s38.1), (5, i64 s30.2.2), (6, u64 s38.2), (7, u64 ((r34 + s30.2.1) % 18446744073709551616))]) (fun (s38 : Nat × Nat) => [(0, .sl 107 1 (List.map u32 s30.1))]) ?_ ?_
      · intro j36 hj37
        refine sseq ?_
        refine sreg ?_
        refine s1 (mv rfl rfl) ?_
        refine s1 (mv rfl rfl) ?_
        refine s1 (ltU .u64 rfl rfl rfl) ?_
        refine snil ?_
        refine pnm ?_
        refine scond rfl ?_ ?_
        · refine sseq ?_
          refine sreg ?_
          refine s1 (mv rfl rfl) ?_
          refine s1 (addU uk64 rfl rfl (k64 (x := 4294967296) rfl)) ?_
          refine s1 (asg rfl rfl) ?_
          refine snil ?_
          refine pnm ?_
          refine sreg ?_
          refine s1 (asg rfl (k64 (x := 1) rfl)) ?_
          refine snil ?_
          refine pnm ?_
          exact sj (hj37 _) (entR [(0, 0)] rfl (keepS hγ ⟨rfl, trivial⟩) ⟨⟨_, rfl⟩, trivial⟩ ⟨⟨_, _, rfl, rfl, rci (rc_sl (ifs_map (f := u32) (fun _ => if_u32) s30.1))⟩, trivial⟩ ⟨⟨_, rfl, rn_win rfl⟩, ⟨_, rfl, rn_id if_sli⟩, ⟨_, rfl, rn_id if_u64⟩, ⟨_, rfl, rn_id if_i64⟩, ⟨_, rfl, rn_id if_u64⟩, ⟨_, rfl, rn_id if_u64⟩, trivial⟩)
        · refine sskip ?_
          refine pnm ?_
          exact sj (hj37 _) (entR [(0, 0)] rfl (keepS hγ ⟨rfl, trivial⟩) ⟨⟨_, rfl⟩, trivial⟩ ⟨⟨_, _, rfl, rfl, rci (rc_sl (ifs_map (f := u32) (fun _ => if_u32) s30.1))⟩, trivial⟩ ⟨⟨_, rfl, rn_win rfl⟩, ⟨_, rfl, rn_id if_sli⟩, ⟨_, rfl, rn_id if_u64⟩, ⟨_, rfl, rn_id if_i64⟩, ⟨_, rfl, rn_id if_u64⟩, ⟨_, rfl, rn_id if_u64⟩, trivial⟩)
      · intro s38
        refine sreg ?_
        refine s1 (mv rfl rfl) ?_
        refine s1 (mv rfl rfl) ?_
        refine s1 (mv rfl rfl) ?_
        refine s1 (mv rfl rfl) ?_
        refine s1 (subU uk64 rfl rfl rfl) ?_
        refine sbn (F := u64) 34 rfl fun z39 => ?_
        refine s1 (cvU uk32 Tryz.underlying106 Tryz.underlying107 rfl rfl) ?_
        refine bd fun _ h42 => ?_
        refine bd fun y40 h41 => ?_
        refine s1 (ixW (f := u32) (grd_some h42) rfl Tryz.underlying67 ti_107 h41 rfl rfl rfl) ?_
        refine so (stO (f := u32) (z39 % 4294967296) [] rfl (getI_ix h41) (by exact rfl) (by exact rfl) (by exact rfl) (by exact rfl) sh_107 (by exact rfl) (by exact rfl) (by exact rfl) rfl rfl) ?_
        refine sbm (C := fun x => .sl 107 1 (List.map u32 x)) 0 rfl fun z43 => ?_
        refine snil ?_
        refine pbn ?_
        refine pnm ?_
        refine sreg ?_
        refine s1 (mv rfl rfl) ?_
        refine s1 (addI rfl rfl (kI (x := 1) rfl)) ?_
        refine s1 (asg rfl rfl) ?_
        refine snil ?_
        exact sgo (entR [(0, 0)] rfl (keepS hγ ⟨rfl, trivial⟩) ⟨⟨_, rfl⟩, trivial⟩ ⟨⟨_, _, rfl, rfl, rci (rc_sl (ifs_map (f := u32) (fun _ => if_u32) z43))⟩, trivial⟩ ⟨⟨_, rfl, rn_win rfl⟩, ⟨_, rfl, rn_id if_sli⟩, ⟨_, rfl, rn_id if_u64⟩, ⟨_, rfl, rn_id if_i64⟩, trivial⟩)
    · refine sexit ?_
      refine ptx ?_
      exact sout (fun h => by cases h) (sj (hj29 _) (entR [(0, 0)] rfl (keepS hγ ⟨rfl, trivial⟩) ⟨⟨_, rfl⟩, trivial⟩ ⟨⟨_, _, rfl, rfl, rci (rc_sl (ifs_map (f := u32) (fun _ => if_u32) s30.1))⟩, trivial⟩ trivial))
  · intro t28
    refine sx ?_
    exact ret [(0, 0)] [] [] [] .normal hγ (.inr rfl) rfl trivial rfl ⟨rfl, trivial⟩ ⟨⟨_, rfl⟩, trivial⟩ ⟨⟨_, _, rfl, rfl, rci (rc_sl (ifs_map (f := u32) (fun _ => if_u32) t28))⟩, trivial⟩ (rns_nil) rfl
theorem c_retrospectref06_double {n : Nat} {x0 : (List Nat)} {x1 : Int} : ∀ r, m_retrospectref06_double n x0 x1 = some r → FnOk Tryz.prog 109 [sli 1 (List.map u32 x0), i64 x1] [] (sli 1 (List.map u32 r)) [] := by
  unfold m_retrospectref06_double
  refine fn_of_sq (res := fun (r : (List Nat)) => sli 1 (List.map u32 r)) (mo := fun (r : (List Nat)) => []) Tryz.func109 rfl rfl (by kernel_rfl) rfl ?_
  intro w S0 γ hγ
  refine sseq ?_
  refine sreg ?_
  refine s1 (asg rfl (kLm (k := 1) u32)) ?_
  refine snil ?_
  refine pnm ?_
  refine sseq ?_
  refine sreg ?_
  refine s1 (mv rfl rfl) ?_
  refine s1 (quoI rfl rfl rfl (kI (x := 32) rfl)) ?_
  refine bd fun y1 h2 => ?_
  refine so (mks (y := 100) (f := u32) h2 Tryz.underlying67 ti_107 zr_u32 rfl rfl rfl rfl rfl rfl) ?_
  refine s1 (mv rfl rfl) ?_
  refine bd fun y3 h4 => ?_
  refine so (app (y := 101) (f := u32) h4 rfl Tryz.underlying67 ti_107 rfl rfl rfl rfl (.inl rfl) rfl rfl) ?_
  refine s1 (asg rfl rfl) ?_
  refine snil ?_
  refine pnm ?_
  refine sseq ?_
  refine sreg ?_
  refine s1 (mv rfl rfl) ?_
  refine s1 (mv rfl rfl) ?_
  refine s1 (remI rfl rfl rfl (kI (x := 32) rfl)) ?_
  refine bd fun _ h5 => ?_
  refine s1 (shlU uk32 (ge0 h5) rfl (k32 (x := 1) rfl) rfl) ?_
  refine so (bsl (y := 102) (ls := List.map u32 ([((1 * 2 ^ (min (Int.toNat (Int.tmod x1 (32 : Int))) 32)) % 4294967296)] : List Nat)) Tryz.underlying67 ti_107 rfl rfl rfl rfl rfl ⟨rfl, rfl, (by exact rfl), (by exact rfl), trivial⟩ rfl rfl) ?_
  refine sbm (C := fun x => .sl 107 1 (List.map u32 x)) 102 rfl fun z6 => ?_
  refine frz (id := 101) [(5, sli 1 (List.map u32 y3)), (10, sli 1 (List.map u32 y3)), (11, sli 1 (List.map u32 y3))] [] rfl (ifs_map (f := u32) (fun _ => if_u32) y3) ⟨⟨_, rfl, fz_own⟩, ⟨_, rfl, fz_own⟩, ⟨_, rfl, fz_own⟩, trivial⟩ trivial ?_
  refine frz (id := 102) [(15, sli 1 (List.map u32 z6))] [] rfl (ifs_map (f := u32) (fun _ => if_u32) z6) ⟨⟨_, rfl, fz_own⟩, trivial⟩ trivial ?_
  refine bd fun r7 h8 => ?_
  refine s1 (call0 (c_retrospectref04_Mul _ h8) ⟨⟨_, rfl, rn_id if_sli⟩, ⟨_, rfl, rn_id if_sli⟩, trivial⟩ (if_sli) rfl) ?_
  refine s1 (asg rfl rfl) ?_
  refine snil ?_
  refine pnm ?_
  refine sret ?_
  exact ret [] [.tmp 4] [_] [_] .ret hγ (.inl rfl) rfl ⟨rfl, trivial⟩ rfl trivial trivial trivial (rns_cons (rn_id if_sli) (rns_nil)) rfl
theorem c_retrospectref06_Gcd {n : Nat} {x0 : (List Nat)} {x1 : (List Nat)} : ∀ r, m_retrospectref06_Gcd n x0 x1 = some r → FnOk Tryz.prog 76 [sli 1 (List.map u32 x0), sli 1 (List.map u32 x1)] [] (sli 1 (List.map u32 r)) [] := by
  unfold m_retrospectref06_Gcd
  refine fn_of_sq (res := fun (r : (List Nat)) => sli 1 (List.map u32 r)) (mo := fun (r : (List Nat)) => []) Tryz.func76 rfl rfl (by kernel_rfl) rfl ?_
  intro w S0 γ hγ
  refine sseq ?_
  refine sreg ?_
  refine s1 (asg rfl (kLm (k := 1) u32)) ?_
  refine snil ?_
  refine pnm ?_
  refine sseq ?_
  refine sreg ?_
  refine s1 (mv rfl rfl) ?_
  refine bd fun r1 h2 => ?_
  refine so (callG (em := [(100, .sl 107 1 (List.map u32 r1))]) (res' := .own 100) [] [(100, 50)] [(100, 50)] (c_retrospectref02_Norm _ h2) ⟨⟨_, rfl, rn_id if_sli⟩, trivial⟩ (MiF.get (mi := []) trivial) trivial rfl ⟨rfl, trivial⟩ ⟨.inl rfl, trivial⟩ rfl ⟨.inl ⟨_, _, rfl, rfl, rc_sl (ifs_map (f := u32) (fun _ => if_u32) r1)⟩, trivial⟩ trivial ⟨⟨_, rfl⟩, trivial⟩ (rn_own rfl) rfl) ?_
  refine s1 (asg rfl rfl) ?_
  refine snil ?_
  refine pnm ?_
  refine sseq ?_
  refine sreg ?_
  refine s1 (mv rfl rfl) ?_
  refine bd fun r3 h4 => ?_
  refine so (callG (em := [(101, .sl 107 1 (List.map u32 r3))]) (res' := .own 101) [] [(101, 50)] [(101, 50)] (c_retrospectref02_Norm _ h4) ⟨⟨_, rfl, rn_id if_sli⟩, trivial⟩ (MiF.get (mi := []) trivial) trivial rfl ⟨rfl, trivial⟩ ⟨.inl rfl, trivial⟩ rfl ⟨.inl ⟨_, _, rfl, rfl, rc_sl (ifs_map (f := u32) (fun _ => if_u32) r3)⟩, trivial⟩ trivial ⟨⟨_, rfl⟩, trivial⟩ (rn_own rfl) rfl) ?_
  refine s1 (asg rfl rfl) ?_
  refine snil ?_
  refine pnm ?_
  refine sseq ?_
  refine sseq ?_
  refine sreg ?_
  refine s1 (mv rfl rfl) ?_
  refine s1 (lenO (f := u32) Tryz.underlying67 rfl rfl rfl) ?_
  refine s1 (eqI rfl rfl (kI (x := 0) rfl)) ?_
  refine snil ?_
  refine pnm ?_
  refine scond rfl ?_ ?_
  · refine sseq ?_
    refine sreg ?_
    refine s1 (mv rfl rfl) ?_
    refine s1 (asg rfl rfl) ?_
    refine snil ?_
    refine pnm ?_
    refine sret ?_
    refine pth ?_
    refine frz (id := 101) [(4, sli 1 (List.map u32 r3)), (6, sli 1 (List.map u32 r3)), (14, sli 1 (List.map u32 r3)), (18, sli 1 (List.map u32 r3))] [] rfl (ifs_map (f := u32) (fun _ => if_u32) r3) ⟨⟨_, rfl, fz_own⟩, ⟨_, rfl, fz_own⟩, ⟨_, rfl, fz_own⟩, ⟨_, rfl, fz_own⟩, trivial⟩ trivial ?_
    exact ret [] [.tmp 4] [_] [_] .ret hγ (.inl rfl) rfl ⟨rfl, trivial⟩ rfl trivial trivial trivial (rns_cons (rn_id if_sli) (rns_nil)) rfl
  · refine sskip ?_
    refine pnm ?_
    refine sseq ?_
    refine sseq ?_
    refine sreg ?_
    refine s1 (mv rfl rfl) ?_
    refine s1 (lenO (f := u32) Tryz.underlying67 rfl rfl rfl) ?_
    refine s1 (eqI rfl rfl (kI (x := 0) rfl)) ?_
    refine snil ?_
    refine pnm ?_
    refine scond rfl ?_ ?_
    · refine sseq ?_
      refine sreg ?_
      refine s1 (mv rfl rfl) ?_
      refine s1 (asg rfl rfl) ?_
      refine snil ?_
      refine pnm ?_
      refine sret ?_
      refine pth ?_
      refine frz (id := 100) [(4, sli 1 (List.map u32 r1)), (5, sli 1 (List.map u32 r1)), (12, sli 1 (List.map u32 r1)), (15, sli 1 (List.map u32 r1)), (22, sli 1 (List.map u32 r1))] [] rfl (ifs_map (f := u32) (fun _ => if_u32) r1) ⟨⟨_, rfl, fz_own⟩, ⟨_, rfl, fz_own⟩, ⟨_, rfl, fz_own⟩, ⟨_, rfl, fz_own⟩, ⟨_, rfl, fz_own⟩, trivial⟩ trivial ?_
      exact ret [] [.tmp 4] [_] [_] .ret hγ (.inl rfl) rfl ⟨rfl, trivial⟩ rfl trivial trivial trivial (rns_cons (rn_id if_sli) (rns_nil)) rfl
    · refine sskip ?_
      refine pnm ?_
      refine sseq ?_
      refine sreg ?_
      refine s1 (mv rfl rfl) ?_
      refine owW 24 (n := r1.length) rfl rfl (List.length_map _).symm ?_
      refine bd fun r5 h6 => ?_
      refine so (callG (em := [(100, .sl 107 1 (List.map u32 r5.2.2.2))]) (res' := .tup [.win 100 r5.1 r5.2.1, i64 r5.2.2.1]) [(0, 100)] [] [(100, 0)] (c_retrospectref06_odd _ h6) ⟨⟨_, rfl, rn_win rfl⟩, trivial⟩ (MiF.get (mi := [(0, _)]) ⟨⟨_, _, rfl, rfl, rc_sl (ifs_map (f := u32) (fun _ => if_u32) r1)⟩, trivial⟩) ⟨⟨_, rfl⟩, trivial⟩ rfl trivial ⟨.inr rfl, trivial⟩ rfl ⟨.inl ⟨_, _, rfl, rfl, rc_sl (ifs_map (f := u32) (fun _ => if_u32) r5.2.2.2)⟩, trivial⟩ ⟨⟨_, rfl⟩, trivial⟩ trivial (rn_tup (rns_cons (rn_win rfl) (rns_cons (rn_id if_i64) (rns_nil)))) rfl) ?_
      refine s1 (mv rfl rfl) ?_
      refine s1 (ext (by exact rfl) rfl rfl) ?_
      refine s1 (ext (by exact rfl) rfl rfl) ?_
      refine s1 (asg rfl rfl) ?_
      refine s1 (asg rfl rfl) ?_
      refine snil ?_
      refine pnm ?_
      refine sseq ?_
      refine sreg ?_
      refine s1 (mv rfl rfl) ?_
      refine owW 29 (n := r3.length) rfl rfl (List.length_map _).symm ?_
      refine bd fun r7 h8 => ?_
      refine so (callG (em := [(101, .sl 107 1 (List.map u32 r7.2.2.2))]) (res' := .tup [.win 101 r7.1 r7.2.1, i64 r7.2.2.1]) [(0, 101)] [] [(101, 0)] (c_retrospectref06_odd _ h8) ⟨⟨_, rfl, rn_win rfl⟩, trivial⟩ (MiF.get (mi := [(0, _)]) ⟨⟨_, _, rfl, rfl, rc_sl (ifs_map (f := u32) (fun _ => if_u32) r3)⟩, trivial⟩) ⟨⟨_, rfl⟩, trivial⟩ rfl trivial ⟨.inr rfl, trivial⟩ rfl ⟨.inl ⟨_, _, rfl, rfl, rc_sl (ifs_map (f := u32) (fun _ => if_u32) r7.2.2.2)⟩, trivial⟩ ⟨⟨_, rfl⟩, trivial⟩ trivial (rn_tup (rns_cons (rn_win rfl) (rns_cons (rn_id if_i64) (rns_nil)))) rfl) ?_
      refine s1 (mv rfl rfl) ?_
      refine s1 (ext (by exact rfl) rfl rfl) ?_
      refine s1 (ext (by exact rfl) rfl rfl) ?_
      refine s1 (asg rfl rfl) ?_
      refine s1 (asg rfl rfl) ?_
      refine snil ?_
      refine pnm ?_
      refine sseq ?_
      refine sblk ?_
      refine sloopE 0 (fun t => t) (fun (s43 : (List Nat) × Nat × Nat × (List Nat) × Nat × Nat) => [(4, sli 1 (List.map u32 ([] : List Nat))), (5, .win 100 s43.2.1 s43.2.2.1), (6, .win 101 s43.2.2.2.2.1 s43.2.2.2.2.2), (7, i64 r5.2.2.1), (8, i64 r7.2.2.1)]) (fun (s43 : (List Nat) × Nat × Nat × (List Nat) × Nat × Nat) => [(100, .sl 107 1 (List.map u32 s43.1)), (101, .sl 107 1 (List.map u32 s43.2.2.2.1))]) (fun (t41 : (List Nat) × Nat × Nat) => [(4, sli 1 (List.map u32 ([] : List Nat))), (5, .win 100 t41.2.1 t41.2.2), (7, i64 r5.2.2.1), (8, i64 r7.2.2.1)]) (fun (t41 : (List Nat) × Nat × Nat) => [(100, .sl 107 1 (List.map u32 t41.1))]) (entR [(100, 100), (101, 101)] rfl (keepS hγ trivial) ⟨⟨_, rfl⟩, ⟨_, rfl⟩, trivial⟩ ⟨⟨_, _, rfl, rfl, rci (rc_sl (ifs_map (f := u32) (fun _ => if_u32) r5.2.2.2))⟩, ⟨_, _, rfl, rfl, rci (rc_sl (ifs_map (f := u32) (fun _ => if_u32) r7.2.2.2))⟩, trivial⟩ ⟨⟨_, rfl, rn_id if_sli⟩, ⟨_, rfl, rn_win rfl⟩, ⟨_, rfl, rn_win rfl⟩, ⟨_, rfl, rn_id if_i64⟩, ⟨_, rfl, rn_id if_i64⟩, trivial⟩) ?_ ?_
      · intro hj42 s43
        refine sblk ?_
        refine sseq ?_
        refine sreg ?_
        refine s1 (mv rfl rfl) ?_
        refine s1 (mv rfl rfl) ?_
        refine bd fun y44 h45 => ?_
        refine bd fun y46 h47 => ?_
        refine bd fun r48 h49 => ?_
        refine s1 (callL (em := []) [100, 101] [] [] [] rfl (c_retrospectref02_Cmp _ h49) trivial (pl_i64) ⟨.inr ⟨100, rfl, .inr ⟨_, _, _, _, rfl, rfl, ifs_map (f := u32) (fun _ => if_u32) s43.1, subW_leM h45, subW_map h45⟩⟩, .inr ⟨101, rfl, .inr ⟨_, _, _, _, rfl, rfl, ifs_map (f := u32) (fun _ => if_u32) s43.2.2.2.1, subW_leM h47, subW_map h47⟩⟩, trivial⟩ (fun _ _ h => by cases h) trivial rfl trivial trivial rfl trivial trivial trivial (rn_id (if_i64)) rfl) ?_
        refine s1 (asg rfl rfl) ?_
        refine snil ?_
        refine pnm ?_
        refine sseq ?_
        refine sseq ?_
        refine sreg ?_
        refine s1 (mv rfl rfl) ?_
        refine s1 (eqI rfl rfl (kI (x := 0) rfl)) ?_
        refine snil ?_
        refine pnm ?_
        refine scond rfl ?_ ?_
        · refine sexit ?_
          refine ptx ?_
          refine sxo rfl ?_
          exact sout (fun h => by cases h) (sj (hj42 _) (entR [(100, 100)] rfl (keepS hγ trivial) ⟨⟨_, rfl⟩, trivial⟩ ⟨⟨_, _, rfl, rfl, rci (rc_sl (ifs_map (f := u32) (fun _ => if_u32) s43.1))⟩, trivial⟩ ⟨⟨_, rfl, rn_id if_sli⟩, ⟨_, rfl, rn_win rfl⟩, ⟨_, rfl, rn_id if_i64⟩, ⟨_, rfl, rn_id if_i64⟩, trivial⟩))
        · refine sskip ?_
          refine pnm ?_
          refine sjq (fun (s52 : (List Nat) × Nat × Nat × (List Nat) × Nat × Nat) => [(4, sli 1 (List.map u32 ([] : List Nat))), (5, .win 101 s52.2.1 s52.2.2.1), (6, .win 100 s52.2.2.2.2.1 s52.2.2.2.2.2), (7, i64 r5.2.2.1), (8, i64 r7.2.2.1)]) (fun (s52 : (List Nat) × Nat × Nat × (List Nat) × Nat × Nat) => [(101, .sl 107 1 (List.map u32 s52.1)), (100, .sl 107 1 (List.map u32 s52.2.2.2.1))]) ?_ ?_
          · intro j50 hj51
            refine sseq ?_
            refine sreg ?_
            refine s1 (mv rfl rfl) ?_
            refine s1 (ltI rfl rfl (kI (x := 0) rfl)) ?_
            refine snil ?_
            refine pnm ?_
            refine scond rfl ?_ ?_
            · refine sseq ?_
              refine sreg ?_
              refine s1 (mv rfl rfl) ?_
              refine s1 (asg rfl rfl) ?_
              refine snil ?_
              refine pnm ?_
              refine sseq ?_
              refine sreg ?_
              refine s1 (mv rfl rfl) ?_
              refine s1 (asg rfl rfl) ?_
              refine snil ?_
              refine pnm ?_
              refine sreg ?_
              refine s1 (mv rfl rfl) ?_
              refine s1 (asg rfl rfl) ?_
              refine snil ?_
              refine pnm ?_
              exact sj (hj51 _) (entR [(101, 101), (100, 100)] rfl (keepS hγ trivial) ⟨⟨_, rfl⟩, ⟨_, rfl⟩, trivial⟩ ⟨⟨_, _, rfl, rfl, rci (rc_sl (ifs_map (f := u32) (fun _ => if_u32) s43.2.2.2.1))⟩, ⟨_, _, rfl, rfl, rci (rc_sl (ifs_map (f := u32) (fun _ => if_u32) s43.1))⟩, trivial⟩ ⟨⟨_, rfl, rn_id if_sli⟩, ⟨_, rfl, rn_win rfl⟩, ⟨_, rfl, rn_win rfl⟩, ⟨_, rfl, rn_id if_i64⟩, ⟨_, rfl, rn_id if_i64⟩, trivial⟩)
            · refine sskip ?_
              refine pnm ?_
              exact sj (hj51 _) (entR [(101, 100), (100, 101)] rfl (keepS hγ trivial) ⟨⟨_, rfl⟩, ⟨_, rfl⟩, trivial⟩ ⟨⟨_, _, rfl, rfl, rci (rc_sl (ifs_map (f := u32) (fun _ => if_u32) s43.1))⟩, ⟨_, _, rfl, rfl, rci (rc_sl (ifs_map (f := u32) (fun _ => if_u32) s43.2.2.2.1))⟩, trivial⟩ ⟨⟨_, rfl, rn_id if_sli⟩, ⟨_, rfl, rn_win rfl⟩, ⟨_, rfl, rn_win rfl⟩, ⟨_, rfl, rn_id if_i64⟩, ⟨_, rfl, rn_id if_i64⟩, trivial⟩)
          · intro s52
            refine sseq ?_
            refine sreg ?_
            refine s1 (mv rfl rfl) ?_
            refine s1 (mv rfl rfl) ?_
            refine bd fun y53 h54 => ?_
            refine bd fun r55 h56 => ?_
            refine so (callL (em := [(101, .sl 107 1 (List.map u32 r55))]) (res' := .tup []) [100] [(0, 101)] [] [(101, 0)] rfl (c_retrospectref05_Less _ h56) ⟨pls_map (f := u32) (fun _ => pl_u32) _, trivial⟩ (pl_tup (pls_nil)) ⟨.inl ⟨_, rfl, rn_win rfl⟩, .inr ⟨100, rfl, .inr ⟨_, _, _, _, rfl, rfl, ifs_map (f := u32) (fun _ => if_u32) s52.2.2.2.1, subW_leM h54, subW_map h54⟩⟩, trivial⟩ (MiF.get (mi := [(0, _)]) ⟨⟨_, _, rfl, rfl, rc_sl (ifs_map (f := u32) (fun _ => if_u32) s52.1)⟩, trivial⟩) ⟨⟨_, rfl⟩, trivial⟩ rfl trivial ⟨.inr rfl, trivial⟩ rfl ⟨.inl ⟨_, _, rfl, rfl, rc_sl (ifs_map (f := u32) (fun _ => if_u32) r55)⟩, trivial⟩ ⟨⟨_, rfl⟩, trivial⟩ trivial (rn_tup (rns_nil)) rfl) ?_
            refine snil ?_
            refine pnm ?_
            refine sreg ?_
            refine s1 (mv rfl rfl) ?_
            refine bd fun r57 h58 => ?_
            refine so (callG (em := [(101, .sl 107 1 (List.map u32 r57.2.2.2))]) (res' := .tup [.win 101 r57.1 r57.2.1, i64 r57.2.2.1]) [(0, 101)] [] [(101, 0)] (c_retrospectref06_odd _ h58) ⟨⟨_, rfl, rn_win rfl⟩, trivial⟩ (MiF.get (mi := [(0, _)]) ⟨⟨_, _, rfl, rfl, rc_sl (ifs_map (f := u32) (fun _ => if_u32) r55)⟩, trivial⟩) ⟨⟨_, rfl⟩, trivial⟩ rfl trivial ⟨.inr rfl, trivial⟩ rfl ⟨.inl ⟨_, _, rfl, rfl, rc_sl (ifs_map (f := u32) (fun _ => if_u32) r57.2.2.2)⟩, trivial⟩ ⟨⟨_, rfl⟩, trivial⟩ trivial (rn_tup (rns_cons (rn_win rfl) (rns_cons (rn_id if_i64) (rns_nil)))) rfl) ?_
            refine s1 (mv rfl rfl) ?_
            refine s1 (ext (by exact rfl) rfl rfl) ?_
            refine s1 (ext (by exact rfl) rfl rfl) ?_
            refine s1 (asg rfl rfl) ?_
            refine snil ?_
            refine pbn ?_
            exact sgo (entR [(100, 101), (101, 100)] rfl (keepS hγ trivial) ⟨⟨_, rfl⟩, ⟨_, rfl⟩, trivial⟩ ⟨⟨_, _, rfl, rfl, rci (rc_sl (ifs_map (f := u32) (fun _ => if_u32) r57.2.2.2))⟩, ⟨_, _, rfl, rfl, rci (rc_sl (ifs_map (f := u32) (fun _ => if_u32) s52.2.2.2.1))⟩, trivial⟩ ⟨⟨_, rfl, rn_id if_sli⟩, ⟨_, rfl, rn_win rfl⟩, ⟨_, rfl, rn_win rfl⟩, ⟨_, rfl, rn_id if_i64⟩, ⟨_, rfl, rn_id if_i64⟩, trivial⟩)
      · intro t41
        refine sx ?_
        refine pnm ?_
        refine sseq ?_
        refine sreg ?_
        refine s1 (mv rfl rfl) ?_
        refine s1 (mv rfl rfl) ?_
        refine s1 (mv rfl rfl) ?_
        refine s1 (minI rfl rfl rfl) ?_
        refine bd fun y59 h60 => ?_
        refine frzW 51 (f := u32) h60 rfl rfl (ifs_map (f := u32) (fun _ => if_u32) t41.1) ?_
        refine bd fun r61 h62 => ?_
        refine s1 (call0 (c_retrospectref06_double _ h62) ⟨⟨_, rfl, rn_id if_sli⟩, ⟨_, rfl, rn_id if_i64⟩, trivial⟩ (if_sli) rfl) ?_
        refine s1 (asg rfl rfl) ?_
        refine snil ?_
        refine pnm ?_
        refine sret ?_
        exact ret [] [.tmp 4] [_] [_] .ret hγ (.inl rfl) rfl ⟨rfl, trivial⟩ rfl trivial trivial trivial (rns_cons (rn_id if_sli) (rns_nil)) rfl
theorem c_retrospectref03_Has {n : Nat} {x0 : (List Nat)} {x1 : Int} : ∀ r, m_retrospectref03_Has n x0 x1 = some r → FnOk Tryz.prog 140 [sli 1 (List.map u32 x0), i64 x1] [] (bl r) [] := by
  unfold m_retrospectref03_Has
  refine fn_of_sq (res := fun (r : Bool) => bl r) (mo := fun (r : Bool) => []) Tryz.func140 rfl rfl (by kernel_rfl) rfl ?_
  intro w S0 γ hγ
  refine sseq ?_
  refine sreg ?_
  refine s1 (asg rfl kB) ?_
  refine snil ?_
  refine pnm ?_
  refine sseq ?_
  refine sjq (fun (s3 : Bool) => [(0, sli 1 (List.map u32 x0)), (1, i64 x1), (4, bl false), (15, bl s3)]) (fun (s3 : Bool) => []) ?_ ?_
  · intro j1 hj2
    refine sreg ?_
    refine s1 (mv rfl rfl) ?_
    refine s1 (ltI rfl rfl (kI (x := 0) rfl)) ?_
    refine s1 (mv rfl rfl) ?_
    refine sifd 9 rfl ?_ ?_
    · refine spB 9 rfl rfl rfl ?_
      refine spB 9 rfl rfl rfl ?_
      refine spB 9 rfl rfl rfl ?_
      refine spB 9 rfl rfl rfl ?_
      refine spB 9 rfl rfl rfl ?_
      refine s1 (pickT rfl rfl kB) ?_
      refine snil ?_
      refine pnm ?_
      exact sj (hj2 _) (entI ⟨rfl, rfl, rfl, rfl, trivial⟩ eqm0)
    · refine sg 9 rfl rfl (mv rfl rfl) ?_
      refine sg 9 rfl rfl (quoI rfl rfl rfl (kI (x := 32) rfl)) ?_
      refine sg 9 rfl rfl (mv rfl rfl) ?_
      refine sg 9 rfl rfl (lenL (f := u32) Tryz.underlying67 rfl rfl) ?_
      refine sg 9 rfl rfl (geI rfl rfl rfl) ?_
      refine s1 (pickF rfl rfl rfl) ?_
      refine snil ?_
      refine pnm ?_
      exact sj (hj2 _) (entI ⟨rfl, rfl, rfl, rfl, trivial⟩ eqm0)
  · intro s3
    refine scond rfl ?_ ?_
    · refine sseq ?_
      refine sreg ?_
      refine s1 (asg rfl kB) ?_
      refine snil ?_
      refine pnm ?_
      refine sret ?_
      refine pth ?_
      exact ret [] [.tmp 4] [_] [_] .ret hγ (.inl rfl) rfl ⟨rfl, trivial⟩ rfl trivial trivial trivial (rns_cons (rn_id if_bl) (rns_nil)) rfl
    · refine sskip ?_
      refine pnm ?_
      refine sseq ?_
      refine sreg ?_
      refine s1 (mv rfl rfl) ?_
      refine s1 (mv rfl rfl) ?_
      refine s1 (quoI rfl rfl rfl (kI (x := 32) rfl)) ?_
      refine bd fun y4 h5 => ?_
      refine s1 (ixR (f := u32) Tryz.underlying67 ti_107 h5 rfl rfl rfl) ?_
      refine s1 (ldR sh_107 (by exact rfl) (by exact rfl) rfl rfl) ?_
      refine s1 (asg rfl rfl) ?_
      refine snil ?_
      refine pnm ?_
      refine sseq ?_
      refine sseq ?_
      refine sreg ?_
      refine s1 (asg rfl (kI (x := 0) rfl)) ?_
      refine snil ?_
      refine pnm ?_
      refine sblk ?_
      refine sloopE 0 (fun t => t) (fun (s10 : Nat × Int) => [(1, i64 x1), (4, bl false), (5, u32 s10.1), (6, i64 s10.2)]) (fun (s10 : Nat × Int) => []) (fun (t8 : Nat) => [(4, bl false), (5, u32 t8)]) (fun (t8 : Nat) => []) (entI ⟨rfl, rfl, rfl, rfl, trivial⟩ eqm0) ?_ ?_
      · intro hj9 s10
        refine sseq ?_
        refine sseq ?_
        refine sreg ?_
        refine s1 (mv rfl rfl) ?_
        refine s1 (mv rfl rfl) ?_
        refine s1 (remI rfl rfl rfl (kI (x := 32) rfl)) ?_
        refine s1 (ltI rfl rfl rfl) ?_
        refine snil ?_
        refine pnm ?_
        refine scond rfl ?_ ?_
        · refine sskip ?_
          refine pnm ?_
          refine sseq ?_
          refine sblk ?_
          refine sreg ?_
          refine s1 (mv rfl rfl) ?_
          refine s1 (quoU uk32 rfl rfl rfl (k32 (x := 2) rfl)) ?_
          refine s1 (asg rfl rfl) ?_
          refine snil ?_
          refine pbn ?_
          refine pnm ?_
          refine sreg ?_
          refine s1 (mv rfl rfl) ?_
          refine s1 (addI rfl rfl (kI (x := 1) rfl)) ?_
          refine s1 (asg rfl rfl) ?_
          refine snil ?_
          exact sgo (entI ⟨rfl, rfl, rfl, rfl, trivial⟩ eqm0)
        · refine sexit ?_
          refine ptx ?_
          exact sout (fun h => by cases h) (sj (hj9 _) (entI ⟨rfl, rfl, trivial⟩ eqm0))
      · intro t8
        refine sx ?_
        refine pnm ?_
        refine sseq ?_
        refine sreg ?_
        refine s1 (mv rfl rfl) ?_
        refine s1 (remU uk32 rfl rfl rfl (k32 (x := 2) rfl)) ?_
        refine s1 (eqU .u32 rfl rfl (k32 (x := 1) rfl)) ?_
        refine s1 (asg rfl rfl) ?_
        refine snil ?_
        refine pnm ?_
        refine sret ?_
        exact ret [] [.tmp 4] [_] [_] .ret hγ (.inl rfl) rfl ⟨rfl, trivial⟩ rfl trivial trivial trivial (rns_cons (rn_id if_bl) (rns_nil)) rfl
theorem c_retrospectref03_Len {n : Nat} {x0 : (List Nat)} : ∀ r, m_retrospectref03_Len n x0 = some r → FnOk Tryz.prog 130 [sli 1 (List.map u32 x0)] [] (i64 r) [] := by
  unfold m_retrospectref03_Len
  refine fn_of_sq (res := fun (r : Int) => i64 r) (mo := fun (r : Int) => []) Tryz.func130 rfl rfl (by kernel_rfl) rfl ?_
  intro w S0 γ hγ
  refine sseq ?_
  refine sreg ?_
  refine s1 (asg rfl (kI (x := 0) rfl)) ?_
  refine snil ?_
  refine pnm ?_
  refine sseq ?_
  refine sreg ?_
  refine s1 (mv rfl rfl) ?_
  refine s1 (lenL (f := u32) Tryz.underlying67 rfl rfl) ?_
  refine s1 (mulI rfl (kI (x := 32) rfl) rfl) ?_
  refine s1 (asg rfl rfl) ?_
  refine snil ?_
  refine pnm ?_
  refine sseq ?_
  refine sblk ?_
  refine sloopE 0 (fun t => t) (fun (s19 : Int) => [(0, sli 1 (List.map u32 x0)), (2, i64 (0 : Int)), (3, i64 s19)]) (fun (s19 : Int) => []) (fun (t17 : Int) => [(2, i64 (0 : Int)), (3, i64 t17)]) (fun (t17 : Int) => []) (entI ⟨rfl, rfl, rfl, trivial⟩ eqm0) ?_ ?_
  · intro hj18 s19
    refine sseq ?_
    refine sjq (fun (s24 : Bool) => [(0, sli 1 (List.map u32 x0)), (2, i64 (0 : Int)), (3, i64 s19), (15, bl s24)]) (fun (s24 : Bool) => []) ?_ ?_
    · intro j22 hj23
      refine sreg ?_
      refine s1 (mv rfl rfl) ?_
      refine s1 (gtI rfl rfl (kI (x := 0) rfl)) ?_
      refine s1 (mv rfl rfl) ?_
      refine sifd 9 rfl ?_ ?_
      · refine sg 9 rfl rfl (mv rfl rfl) ?_
        refine sg 9 rfl rfl (mv rfl rfl) ?_
        refine sg 9 rfl rfl (subI rfl rfl (kI (x := 1) rfl)) ?_
        refine bd fun r25 h26 => ?_
        refine sg 9 rfl rfl (call0 (c_retrospectref03_Has _ h26) ⟨⟨_, rfl, rn_id if_sli⟩, ⟨_, rfl, rn_id if_i64⟩, trivial⟩ (if_bl) rfl) ?_
        refine sg 9 rfl rfl (notB rfl rfl) ?_
        refine s1 (pickT rfl rfl rfl) ?_
        refine snil ?_
        refine pnm ?_
        exact sj (hj23 _) (entI ⟨rfl, rfl, rfl, rfl, trivial⟩ eqm0)
      · refine spB 9 rfl rfl rfl ?_
        refine spB 9 rfl rfl rfl ?_
        refine spB 9 rfl rfl rfl ?_
        refine spB 9 rfl rfl rfl ?_
        refine spB 9 rfl rfl rfl ?_
        refine s1 (pickF rfl rfl kB) ?_
        refine snil ?_
        refine pnm ?_
        exact sj (hj23 _) (entI ⟨rfl, rfl, rfl, rfl, trivial⟩ eqm0)
    · intro s24
      refine scond rfl ?_ ?_
      · refine sskip ?_
        refine pnm ?_
        refine sblk ?_
        refine sreg ?_
        refine s1 (mv rfl rfl) ?_
        refine s1 (subI rfl rfl (kI (x := 1) rfl)) ?_
        refine s1 (asg rfl rfl) ?_
        refine snil ?_
        refine pbn ?_
        exact sgo (entI ⟨rfl, rfl, rfl, trivial⟩ eqm0)
      · refine sexit ?_
        refine ptx ?_
        exact sout (fun h => by cases h) (sj (hj18 _) (entI ⟨rfl, rfl, trivial⟩ eqm0))
  · intro t17
    refine sx ?_
    refine pnm ?_
    refine sseq ?_
    refine sreg ?_
    refine s1 (mv rfl rfl) ?_
    refine s1 (asg rfl rfl) ?_
    refine snil ?_
    refine pnm ?_
    refine sret ?_
    exact ret [] [.tmp 2] [_] [_] .ret hγ (.inl rfl) rfl ⟨rfl, trivial⟩ rfl trivial trivial trivial (rns_cons (rn_id if_i64) (rns_nil)) rfl
theorem c_retrospectref05_Double {n : Nat} {x0 : (List Nat)} {x1 : Bool} : ∀ r, m_retrospectref05_Double n x0 x1 = some r → FnOk Tryz.prog 131 [.own 0, bl x1] [(0, .sl 107 1 (List.map u32 x0))] (.tup []) [(0, .sl 107 1 (List.map u32 r))] := by
  unfold m_retrospectref05_Double
  refine fn_of_sq (res := fun (r : (List Nat)) => .tup []) (mo := fun (r : (List Nat)) => [(0, .sl 107 1 (List.map u32 r))]) Tryz.func131 rfl rfl (by kernel_rfl) rfl ?_
  intro w S0 γ hγ
  refine sseq ?_
  refine sreg ?_
  refine s1 (asg rfl (k32 (x := 0) rfl)) ?_
  refine snil ?_
  refine pnm ?_
  refine sjq (fun (s3 : Nat) => [(0, .own 0), (4, u32 s3)]) (fun (s3 : Nat) => [(0, .sl 107 1 (List.map u32 x0))]) ?_ ?_
  · intro j1 hj2
    refine sseq ?_
    refine sreg ?_
    refine s1 (mv rfl rfl) ?_
    refine snil ?_
    refine pnm ?_
    refine scond rfl ?_ ?_
    · refine sreg ?_
      refine s1 (asg rfl (k32 (x := 1) rfl)) ?_
      refine snil ?_
      refine pnm ?_
      exact sj (hj2 _) (entR [(0, 0)] rfl (keepS hγ ⟨rfl, trivial⟩) ⟨⟨_, rfl⟩, trivial⟩ ⟨⟨_, _, rfl, rfl, rci (rc_sl (ifs_map (f := u32) (fun _ => if_u32) x0))⟩, trivial⟩ ⟨⟨_, rfl, rn_own rfl⟩, ⟨_, rfl, rn_id if_u32⟩, trivial⟩)
    · refine sskip ?_
      refine pnm ?_
      exact sj (hj2 _) (entR [(0, 0)] rfl (keepS hγ ⟨rfl, trivial⟩) ⟨⟨_, rfl⟩, trivial⟩ ⟨⟨_, _, rfl, rfl, rci (rc_sl (ifs_map (f := u32) (fun _ => if_u32) x0))⟩, trivial⟩ ⟨⟨_, rfl, rn_own rfl⟩, ⟨_, rfl, rn_id if_u32⟩, trivial⟩)
  · intro s3
    refine sseq ?_
    refine sreg ?_
    refine s1 (asg rfl (kI (x := 0) rfl)) ?_
    refine snil ?_
    refine pnm ?_
    refine sblk ?_
    refine sloopE 0 (fun t => t) (fun (s22 : (List Nat) × Nat × Int) => [(0, .own 0), (4, u32 s22.2.1), (5, i64 s22.2.2)]) (fun (s22 : (List Nat) × Nat × Int) => [(0, .sl 107 1 (List.map u32 s22.1))]) (fun (t20 : (List Nat)) => []) (fun (t20 : (List Nat)) => [(0, .sl 107 1 (List.map u32 t20))]) (entR [(0, 0)] rfl (keepS hγ ⟨rfl, trivial⟩) ⟨⟨_, rfl⟩, trivial⟩ ⟨⟨_, _, rfl, rfl, rci (rc_sl (ifs_map (f := u32) (fun _ => if_u32) x0))⟩, trivial⟩ ⟨⟨_, rfl, rn_own rfl⟩, ⟨_, rfl, rn_id if_u32⟩, ⟨_, rfl, rn_id if_i64⟩, trivial⟩) ?_ ?_
    · intro hj21 s22
      refine sseq ?_
      refine sseq ?_
      refine sreg ?_
      refine s1 (mv rfl rfl) ?_
      refine s1 (mv rfl rfl) ?_
      refine s1 (lenO (f := u32) Tryz.underlying67 rfl rfl rfl) ?_
      refine s1 (ltI rfl rfl rfl) ?_
      refine snil ?_
      refine pnm ?_
      refine scond rfl ?_ ?_
      · refine sskip ?_
        refine pnm ?_
        refine sseq ?_
        refine sblk ?_
        refine sseq ?_
        refine sreg ?_
        refine s1 (mv rfl rfl) ?_
        refine s1 (mv rfl rfl) ?_
        refine bd fun y23 h24 => ?_
        refine s1 (ixO (f := u32) rfl Tryz.underlying67 ti_107 h24 rfl rfl rfl) ?_
        refine s1 (ldO (f := u32) [] rfl (getI_ix h24) (by exact rfl) (by exact rfl) sh_107 (by exact rfl) (by exact rfl) rfl rfl) ?_
        refine s1 (quoU uk32 rfl rfl rfl (k32 (x := 2147483648) rfl)) ?_
        refine s1 (asg rfl rfl) ?_
        refine snil ?_
        refine pnm ?_
        refine sseq ?_
        refine sreg ?_
        refine s1 (mv rfl rfl) ?_
        refine s1 (mv rfl rfl) ?_
        refine s1 (mv rfl rfl) ?_
        refine s1 (mv rfl rfl) ?_
        refine bd fun y25 h26 => ?_
        refine s1 (ixO (f := u32) rfl Tryz.underlying67 ti_107 h26 rfl rfl rfl) ?_
        refine s1 (ldO (f := u32) [] rfl (getI_ix h26) (by exact rfl) (by exact rfl) sh_107 (by exact rfl) (by exact rfl) rfl rfl) ?_
        refine s1 (mulU uk32 rfl rfl (k32 (x := 2) rfl)) ?_
        refine s1 (mv rfl rfl) ?_
        refine s1 (addU uk32 rfl rfl rfl) ?_
        refine bd fun y27 h28 => ?_
        refine s1 (ixO (f := u32) rfl Tryz.underlying67 ti_107 h28 rfl rfl rfl) ?_
        refine so (stO (f := u32) ((((y25 * 2) % 4294967296) + s22.2.1) % 4294967296) [] rfl (getI_ix h28) (by exact rfl) (by exact rfl) (by exact rfl) (by exact rfl) sh_107 (by exact rfl) (by exact rfl) (by exact rfl) rfl rfl) ?_
        refine sbm (C := fun x => .sl 107 1 (List.map u32 x)) 0 rfl fun z29 => ?_
        refine snil ?_
        refine pnm ?_
        refine sreg ?_
        refine s1 (mv rfl rfl) ?_
        refine s1 (asg rfl rfl) ?_
        refine snil ?_
        refine pbn ?_
        refine pnm ?_
        refine sreg ?_
        refine s1 (mv rfl rfl) ?_
        refine s1 (addI rfl rfl (kI (x := 1) rfl)) ?_
        refine s1 (asg rfl rfl) ?_
        refine snil ?_
        exact sgo (entR [(0, 0)] rfl (keepS hγ ⟨rfl, trivial⟩) ⟨⟨_, rfl⟩, trivial⟩ ⟨⟨_, _, rfl, rfl, rci (rc_sl (ifs_map (f := u32) (fun _ => if_u32) z29))⟩, trivial⟩ ⟨⟨_, rfl, rn_own rfl⟩, ⟨_, rfl, rn_id if_u32⟩, ⟨_, rfl, rn_id if_i64⟩, trivial⟩)
      · refine sexit ?_
        refine ptx ?_
        exact sout (fun h => by cases h) (sj (hj21 _) (entR [(0, 0)] rfl (keepS hγ ⟨rfl, trivial⟩) ⟨⟨_, rfl⟩, trivial⟩ ⟨⟨_, _, rfl, rfl, rci (rc_sl (ifs_map (f := u32) (fun _ => if_u32) s22.1))⟩, trivial⟩ trivial))
    · intro t20
      refine sx ?_
      exact ret [(0, 0)] [] [] [] .normal hγ (.inr rfl) rfl trivial rfl ⟨rfl, trivial⟩ ⟨⟨_, rfl⟩, trivial⟩ ⟨⟨_, _, rfl, rfl, rci (rc_sl (ifs_map (f := u32) (fun _ => if_u32) t20))⟩, trivial⟩ (rns_nil) rfl
theorem c_retrospectref05_Div {n : Nat} {x0 : (List Nat)} {x1 : (List Nat)} : ∀ r, m_retrospectref05_Div n x0 x1 = some r → FnOk Tryz.prog 110 [sli 1 (List.map u32 x0), sli 1 (List.map u32 x1)] [] (.tup [sli 1 (List.map u32 r.1), sli 1 (List.map u32 r.2)]) [] := by
  unfold m_retrospectref05_Div
  refine fn_of_sq (res := fun (r : (List Nat) × (List Nat)) => .tup [sli 1 (List.map u32 r.1), sli 1 (List.map u32 r.2)]) (mo := fun (r : (List Nat) × (List Nat)) => []) Tryz.func110 rfl rfl (by kernel_rfl) rfl ?_
  intro w S0 γ hγ
  refine sseq ?_
  refine sreg ?_
  refine s1 (asg rfl (kLm (k := 1) u32)) ?_
  refine s1 (asg rfl (kLm (k := 1) u32)) ?_
  refine snil ?_
  refine pnm ?_
  refine sseq ?_
  refine sreg ?_
  refine s1 (mv rfl rfl) ?_
  refine s1 (lenL (f := u32) Tryz.underlying67 rfl rfl) ?_
  refine bd fun y1 h2 => ?_
  refine so (mks (y := 100) (f := u32) h2 Tryz.underlying67 ti_107 zr_u32 rfl rfl rfl rfl rfl rfl) ?_
  refine s1 (asg rfl rfl) ?_
  refine snil ?_
  refine pnm ?_
  refine sseq ?_
  refine sreg ?_
  refine s1 (mv rfl rfl) ?_
  refine s1 (lenL (f := u32) Tryz.underlying67 rfl rfl) ?_
  refine s1 (addI rfl rfl (kI (x := 1) rfl)) ?_
  refine bd fun y3 h4 => ?_
  refine so (mks (y := 101) (f := u32) h4 Tryz.underlying67 ti_107 zr_u32 rfl rfl rfl rfl rfl rfl) ?_
  refine s1 (asg rfl rfl) ?_
  refine snil ?_
  refine pnm ?_
  refine sseq ?_
  refine sseq ?_
  refine sreg ?_
  refine s1 (mv rfl rfl) ?_
  refine bd fun r5 h6 => ?_
  refine s1 (call0 (c_retrospectref03_Len _ h6) ⟨⟨_, rfl, rn_id if_sli⟩, trivial⟩ (if_i64) rfl) ?_
  refine s1 (subI rfl rfl (kI (x := 1) rfl)) ?_
  refine s1 (asg rfl rfl) ?_
  refine snil ?_
  refine pnm ?_
  refine sblk ?_
  refine sloopE 0 (fun t => t) (fun (s97 : (List Nat) × (List Nat) × Int) => [(0, sli 1 (List.map u32 x0)), (1, sli 1 (List.map u32 x1)), (4, sli 1 (List.map u32 ([] : List Nat))), (5, sli 1 (List.map u32 ([] : List Nat))), (6, .own 100), (7, .own 101), (8, i64 s97.2.2)]) (fun (s97 : (List Nat) × (List Nat) × Int) => [(100, .sl 107 1 (List.map u32 s97.1)), (101, .sl 107 1 (List.map u32 s97.2.1))]) (fun (t95 : (List Nat) × (List Nat)) => [(4, sli 1 (List.map u32 ([] : List Nat))), (5, sli 1 (List.map u32 ([] : List Nat))), (6, .own 100), (7, .own 101)]) (fun (t95 : (List Nat) × (List Nat)) => [(100, .sl 107 1 (List.map u32 t95.1)), (101, .sl 107 1 (List.map u32 t95.2))]) (entR [(100, 100), (101, 101)] rfl (keepS hγ trivial) ⟨⟨_, rfl⟩, ⟨_, rfl⟩, trivial⟩ ⟨⟨_, _, rfl, rfl, rci (rc_sl (ifs_map (f := u32) (fun _ => if_u32) y1))⟩, ⟨_, _, rfl, rfl, rci (rc_sl (ifs_map (f := u32) (fun _ => if_u32) y3))⟩, trivial⟩ ⟨⟨_, rfl, rn_id if_sli⟩, ⟨_, rfl, rn_id if_sli⟩, ⟨_, rfl, rn_id if_sli⟩, ⟨_, rfl, rn_id if_sli⟩, ⟨_, rfl, rn_own rfl⟩, ⟨_, rfl, rn_own rfl⟩, ⟨_, rfl, rn_id if_i64⟩, trivial⟩) ?_ ?_
  · intro hj96 s97
    refine sseq ?_
    refine sseq ?_
    refine sreg ?_
    refine s1 (mv rfl rfl) ?_
    refine s1 (geI rfl rfl (kI (x := 0) rfl)) ?_
    refine snil ?_
    refine pnm ?_
    refine scond rfl ?_ ?_
    · refine sskip ?_
      refine pnm ?_
      refine sjq (fun (s120 : (List Nat) × (List Nat)) => [(0, sli 1 (List.map u32 x0)), (1, sli 1 (List.map u32 x1)), (4, sli 1 (List.map u32 ([] : List Nat))), (5, sli 1 (List.map u32 ([] : List Nat))), (6, .own 100), (7, .own 101), (8, i64 s97.2.2)]) (fun (s120 : (List Nat) × (List Nat)) => [(100, .sl 107 1 (List.map u32 s120.1)), (101, .sl 107 1 (List.map u32 s120.2))]) ?_ ?_
      · intro j118 hj119
        refine sblk ?_
        refine sseq ?_
        refine bd fun y121 h122 => ?_
        refine bd fun _ h123 => ?_
        refine bd fun _ h124 => ?_
        refine bd fun r125 h126 => ?_
        refine sdraw [⟨[7], [], [(23, .own 101)], []⟩, ⟨[0], [], [(24, sli 1 (List.map u32 x0))], []⟩, ⟨[8], [], [(25, i64 s97.2.2)], []⟩, ⟨[25], [], [(26, i64 (wrap64 (Int.tdiv s97.2.2 (32 : Int))))], []⟩, ⟨[24, 26], [], [(27, .ref (u32 y121))], []⟩, ⟨[27], [], [(28, u32 y121)], []⟩, ⟨[8], [], [(29, i64 s97.2.2)], []⟩, ⟨[29], [], [(30, i64 (Int.tmod s97.2.2 (32 : Int)))], []⟩, ⟨[30], [], [(31, u32 ((1 * 2 ^ (min (Int.toNat (Int.tmod s97.2.2 (32 : Int))) 32)) % 4294967296))], []⟩, ⟨[28, 31], [], [(32, u32 (y121 / ((1 * 2 ^ (min (Int.toNat (Int.tmod s97.2.2 (32 : Int))) 32)) % 4294967296)))], []⟩, ⟨[32], [], [(33, u32 ((y121 / ((1 * 2 ^ (min (Int.toNat (Int.tmod s97.2.2 (32 : Int))) 32)) % 4294967296)) % 2))], []⟩, ⟨[33], [], [(34, bl (decide (((y121 / ((1 * 2 ^ (min (Int.toNat (Int.tmod s97.2.2 (32 : Int))) 32)) % 4294967296)) % 2) = 1)))], []⟩, ⟨[23, 34], [101], [(35, .tup [])], [(101, .sl 107 1 (List.map u32 r125))]⟩] fol (by kernel_rfl) ⟨fun st mm ⟨a7, _⟩ _ => og (mv rfl (a7.trans rfl)), fun st mm ⟨a0, _⟩ _ => og (mv rfl (a0.trans rfl)), fun st mm ⟨a8, _⟩ _ => og (mv rfl (a8.trans rfl)), fun st mm ⟨a25, _⟩ _ => og (quoI rfl rfl (a25.trans rfl) (kI (x := 32) rfl)), fun st mm ⟨a24, a26, _⟩ _ => og (ixR (f := u32) Tryz.underlying67 ti_107 h122 rfl (a24.trans rfl) (a26.trans rfl)), fun st mm ⟨a27, _⟩ _ => og (ldR sh_107 (by exact rfl) (by exact rfl) rfl (a27.trans rfl)), fun st mm ⟨a8, _⟩ _ => og (mv rfl (a8.trans rfl)), fun st mm ⟨a29, _⟩ _ => og (remI rfl rfl (a29.trans rfl) (kI (x := 32) rfl)), fun st mm ⟨a30, _⟩ _ => og (shlU uk32 (ge0 h123) rfl (k32 (x := 1) rfl) (a30.trans rfl)), fun st mm ⟨a28, a31, _⟩ _ => og (quoU uk32 (nzU h124) rfl (a28.trans rfl) (a31.trans rfl)), fun st mm ⟨a32, _⟩ _ => og (remU uk32 rfl rfl (a32.trans rfl) (k32 (x := 2) rfl)), fun st mm ⟨a33, _⟩ _ => og (eqU .u32 rfl (a33.trans rfl) (k32 (x := 1) rfl)), fun st mm ⟨a23, a34, _⟩ ⟨g101, _⟩ => og (callG (em := [(101, .sl 107 1 (List.map u32 r125))]) (res' := .tup []) [(0, 101)] [] [(101, 0)] (c_retrospectref05_Double _ h126) ⟨⟨_, (a23.trans rfl), rn_own rfl⟩, ⟨_, (a34.trans rfl), rn_id if_bl⟩, trivial⟩ (MiF.get (mi := [(0, _)]) ⟨⟨_, _, rfl, (g101.trans rfl), rc_sl (ifs_map (f := u32) (fun _ => if_u32) s97.2.1)⟩, trivial⟩) ⟨⟨_, rfl⟩, trivial⟩ rfl trivial ⟨.inr rfl, trivial⟩ rfl ⟨.inl ⟨_, _, rfl, rfl, rc_sl (ifs_map (f := u32) (fun _ => if_u32) r125)⟩, trivial⟩ ⟨⟨_, rfl⟩, trivial⟩ trivial (rn_tup (rns_nil)) rfl), trivial⟩ ?_
        refine sbn (F := u32) 31 rfl fun z127 => ?_
        refine sbn (F := u32) 32 rfl fun z128 => ?_
        refine sbn (F := u32) 33 rfl fun z129 => ?_
        refine sbn (F := bl) 34 rfl fun z130 => ?_
        refine pnm ?_
        refine sseq ?_
        refine sreg ?_
        refine s1 (mv rfl rfl) ?_
        refine bd fun r131 h132 => ?_
        refine so (callG (em := [(100, .sl 107 1 (List.map u32 r131))]) (res' := .tup []) [(0, 100)] [] [(100, 0)] (c_retrospectref05_Double _ h132) ⟨⟨_, rfl, rn_own rfl⟩, ⟨_, kB, rn_id if_bl⟩, trivial⟩ (MiF.get (mi := [(0, _)]) ⟨⟨_, _, rfl, rfl, rc_sl (ifs_map (f := u32) (fun _ => if_u32) s97.1)⟩, trivial⟩) ⟨⟨_, rfl⟩, trivial⟩ rfl trivial ⟨.inr rfl, trivial⟩ rfl ⟨.inl ⟨_, _, rfl, rfl, rc_sl (ifs_map (f := u32) (fun _ => if_u32) r131)⟩, trivial⟩ ⟨⟨_, rfl⟩, trivial⟩ trivial (rn_tup (rns_nil)) rfl) ?_
        refine snil ?_
        refine pnm ?_
        refine sseq ?_
        refine sreg ?_
        refine s1 (mv rfl rfl) ?_
        refine s1 (mv rfl rfl) ?_
        refine bd fun r133 h134 => ?_
        refine s1 (callL (em := []) [101] [] [] [] rfl (c_retrospectref02_Cmp _ h134) trivial (pl_i64) ⟨.inr ⟨101, rfl, .inl ⟨rfl, .inl ⟨_, _, _, rfl, ifs_map (f := u32) (fun _ => if_u32) r125, rfl⟩⟩⟩, .inl ⟨_, rfl, rn_id if_sli⟩, trivial⟩ (fun _ _ h => by cases h) trivial rfl trivial trivial rfl trivial trivial trivial (rn_id (if_i64)) rfl) ?_
        refine s1 (geI rfl rfl (kI (x := 0) rfl)) ?_
        refine snil ?_
        refine pnm ?_
        refine scond rfl ?_ ?_
        · refine sseq ?_
          refine sreg ?_
          refine s1 (mv rfl rfl) ?_
          refine s1 (mv rfl rfl) ?_
          refine owW 42 (n := r125.length) rfl rfl (List.length_map _).symm ?_
          refine bd fun r135 h136 => ?_
          refine so (callG (em := [(101, .sl 107 1 (List.map u32 r135))]) (res' := .tup []) [(0, 101)] [] [(101, 0)] (c_retrospectref05_Less _ h136) ⟨⟨_, rfl, rn_win rfl⟩, ⟨_, rfl, rn_id if_sli⟩, trivial⟩ (MiF.get (mi := [(0, _)]) ⟨⟨_, _, rfl, rfl, rc_sl (ifs_map (f := u32) (fun _ => if_u32) r125)⟩, trivial⟩) ⟨⟨_, rfl⟩, trivial⟩ rfl trivial ⟨.inr rfl, trivial⟩ rfl ⟨.inl ⟨_, _, rfl, rfl, rc_sl (ifs_map (f := u32) (fun _ => if_u32) r135)⟩, trivial⟩ ⟨⟨_, rfl⟩, trivial⟩ trivial (rn_tup (rns_nil)) rfl) ?_
          refine snil ?_
          refine pnm ?_
          refine sreg ?_
          refine s1 (mv rfl rfl) ?_
          refine bd fun y137 h138 => ?_
          refine s1 (ixO (f := u32) rfl Tryz.underlying67 ti_107 h138 rfl rfl (kI (x := 0) rfl)) ?_
          refine s1 (ldO (f := u32) [] rfl (getI_ix h138) (by exact rfl) (by exact rfl) sh_107 (by exact rfl) (by exact rfl) rfl rfl) ?_
          refine s1 (addU uk32 rfl rfl (k32 (x := 1) rfl)) ?_
          refine bd fun y139 h140 => ?_
          refine s1 (ixO (f := u32) rfl Tryz.underlying67 ti_107 h140 rfl rfl (kI (x := 0) rfl)) ?_
          refine so (stO (f := u32) ((y137 + 1) % 4294967296) [] rfl (getI_ix h140) (by exact rfl) (by exact rfl) (by exact rfl) (by exact rfl) sh_107 (by exact rfl) (by exact rfl) (by exact rfl) rfl rfl) ?_
          refine snil ?_
          refine pbn ?_
          refine pnm ?_
          exact sj (hj119 _) (entR [(100, 100), (101, 101)] rfl (keepS hγ trivial) ⟨⟨_, rfl⟩, ⟨_, rfl⟩, trivial⟩ ⟨⟨_, _, rfl, rfl, rci (rc_sl (ifs_map (f := u32) (fun _ => if_u32) (List.set r131 (Int.toNat (0 : Int)) ((y137 + 1) % 4294967296))))⟩, ⟨_, _, rfl, rfl, rci (rc_sl (ifs_map (f := u32) (fun _ => if_u32) r135))⟩, trivial⟩ ⟨⟨_, rfl, rn_id if_sli⟩, ⟨_, rfl, rn_id if_sli⟩, ⟨_, rfl, rn_id if_sli⟩, ⟨_, rfl, rn_id if_sli⟩, ⟨_, rfl, rn_own rfl⟩, ⟨_, rfl, rn_own rfl⟩, ⟨_, rfl, rn_id if_i64⟩, trivial⟩)
        · refine sskip ?_
          refine pbn ?_
          refine pnm ?_
          exact sj (hj119 _) (entR [(100, 100), (101, 101)] rfl (keepS hγ trivial) ⟨⟨_, rfl⟩, ⟨_, rfl⟩, trivial⟩ ⟨⟨_, _, rfl, rfl, rci (rc_sl (ifs_map (f := u32) (fun _ => if_u32) r131))⟩, ⟨_, _, rfl, rfl, rci (rc_sl (ifs_map (f := u32) (fun _ => if_u32) r125))⟩, trivial⟩ ⟨⟨_, rfl, rn_id if_sli⟩, ⟨_, rfl, rn_id if_sli⟩, ⟨_, rfl, rn_id if_sli⟩, ⟨_, rfl, rn_id if_sli⟩, ⟨_, rfl, rn_own rfl⟩, ⟨_, rfl, rn_own rfl⟩, ⟨_, rfl, rn_id if_i64⟩, trivial⟩)
      · intro s120
        refine sreg ?_
        refine s1 (mv rfl rfl) ?_
        refine s1 (subI rfl rfl (kI (x := 1) rfl)) ?_
        refine s1 (asg rfl rfl) ?_
        refine snil ?_
        exact sgo (entR [(100, 100), (101, 101)] rfl (keepS hγ trivial) ⟨⟨_, rfl⟩, ⟨_, rfl⟩, trivial⟩ ⟨⟨_, _, rfl, rfl, rci (rc_sl (ifs_map (f := u32) (fun _ => if_u32) s120.1))⟩, ⟨_, _, rfl, rfl, rci (rc_sl (ifs_map (f := u32) (fun _ => if_u32) s120.2))⟩, trivial⟩ ⟨⟨_, rfl, rn_id if_sli⟩, ⟨_, rfl, rn_id if_sli⟩, ⟨_, rfl, rn_id if_sli⟩, ⟨_, rfl, rn_id if_sli⟩, ⟨_, rfl, rn_own rfl⟩, ⟨_, rfl, rn_own rfl⟩, ⟨_, rfl, rn_id if_i64⟩, trivial⟩)
    · refine sexit ?_
      refine ptx ?_
      exact sout (fun h => by cases h) (sj (hj96 _) (entR [(100, 100), (101, 101)] rfl (keepS hγ trivial) ⟨⟨_, rfl⟩, ⟨_, rfl⟩, trivial⟩ ⟨⟨_, _, rfl, rfl, rci (rc_sl (ifs_map (f := u32) (fun _ => if_u32) s97.1))⟩, ⟨_, _, rfl, rfl, rci (rc_sl (ifs_map (f := u32) (fun _ => if_u32) s97.2.1))⟩, trivial⟩ ⟨⟨_, rfl, rn_id if_sli⟩, ⟨_, rfl, rn_id if_sli⟩, ⟨_, rfl, rn_own rfl⟩, ⟨_, rfl, rn_own rfl⟩, trivial⟩))
  · intro t95
    refine sx ?_
    refine pnm ?_
    refine sseq ?_
    refine sreg ?_
    refine s1 (mv rfl rfl) ?_
    refine bd fun r141 h142 => ?_
    refine so (callL (em := [(102, .sl 107 1 (List.map u32 r141))]) (res' := .own 102) [100] [] [(102, 50)] [(102, 50)] rfl (c_retrospectref02_Norm _ h142) ⟨pls_map (f := u32) (fun _ => pl_u32) _, trivial⟩ (pl_own) ⟨.inr ⟨100, rfl, .inl ⟨rfl, .inl ⟨_, _, _, rfl, ifs_map (f := u32) (fun _ => if_u32) t95.1, rfl⟩⟩⟩, trivial⟩ (MiF.get (mi := []) trivial) trivial rfl ⟨rfl, trivial⟩ ⟨.inl rfl, trivial⟩ rfl ⟨.inl ⟨_, _, rfl, rfl, rc_sl (ifs_map (f := u32) (fun _ => if_u32) r141)⟩, trivial⟩ trivial ⟨⟨_, rfl⟩, trivial⟩ (rn_own rfl) rfl) ?_
    refine s1 (mv rfl rfl) ?_
    refine bd fun r143 h144 => ?_
    refine so (callL (em := [(103, .sl 107 1 (List.map u32 r143))]) (res' := .own 103) [101] [] [(103, 50)] [(103, 50)] rfl (c_retrospectref02_Norm _ h144) ⟨pls_map (f := u32) (fun _ => pl_u32) _, trivial⟩ (pl_own) ⟨.inr ⟨101, rfl, .inl ⟨rfl, .inl ⟨_, _, _, rfl, ifs_map (f := u32) (fun _ => if_u32) t95.2, rfl⟩⟩⟩, trivial⟩ (MiF.get (mi := []) trivial) trivial rfl ⟨rfl, trivial⟩ ⟨.inl rfl, trivial⟩ rfl ⟨.inl ⟨_, _, rfl, rfl, rc_sl (ifs_map (f := u32) (fun _ => if_u32) r143)⟩, trivial⟩ trivial ⟨⟨_, rfl⟩, trivial⟩ (rn_own rfl) rfl) ?_
    refine s1 (asg rfl rfl) ?_
    refine s1 (asg rfl rfl) ?_
    refine snil ?_
    refine pnm ?_
    refine sret ?_
    refine frz (id := 102) [(4, sli 1 (List.map u32 r141)), (51, sli 1 (List.map u32 r141))] [] rfl (ifs_map (f := u32) (fun _ => if_u32) r141) ⟨⟨_, rfl, fz_own⟩, ⟨_, rfl, fz_own⟩, trivial⟩ trivial ?_
    refine frz (id := 103) [(5, sli 1 (List.map u32 r143)), (53, sli 1 (List.map u32 r143))] [] rfl (ifs_map (f := u32) (fun _ => if_u32) r143) ⟨⟨_, rfl, fz_own⟩, ⟨_, rfl, fz_own⟩, trivial⟩ trivial ?_
    exact ret [] [.tmp 4, .tmp 5] [_, _] [_, _] .ret hγ (.inl rfl) rfl ⟨rfl, rfl, trivial⟩ rfl trivial trivial trivial (rns_cons (rn_id if_sli) (rns_cons (rn_id if_sli) (rns_nil))) rfl
theorem c_retrospectref06_Over {n : Nat} {x0 : (List Nat)} {x1 : (List Nat)} : ∀ r, m_retrospectref06_Over n x0 x1 = some r → FnOk Tryz.prog 77 [sli 1 (List.map u32 x0), sli 1 (List.map u32 x1)] [] (sli 1 (List.map u32 r)) [] := by
  unfold m_retrospectref06_Over
  refine fn_of_sq (res := fun (r : (List Nat)) => sli 1 (List.map u32 r)) (mo := fun (r : (List Nat)) => []) Tryz.func77 rfl rfl (by kernel_rfl) rfl ?_
  intro w S0 γ hγ
  refine sseq ?_
  refine sreg ?_
  refine s1 (asg rfl (kLm (k := 1) u32)) ?_
  refine snil ?_
  refine pnm ?_
  refine sseq ?_
  refine sseq ?_
  refine sreg ?_
  refine s1 (mv rfl rfl) ?_
  refine bd fun r1 h2 => ?_
  refine s1 (call0 (c_retrospectref06_One _ h2) ⟨⟨_, rfl, rn_id if_sli⟩, trivial⟩ (if_bl) rfl) ?_
  refine snil ?_
  refine pnm ?_
  refine scond rfl ?_ ?_
  · refine sseq ?_
    refine sreg ?_
    refine s1 (mv rfl rfl) ?_
    refine bd fun r3 h4 => ?_
    refine so (callG (em := [(100, .sl 107 1 (List.map u32 r3))]) (res' := .own 100) [] [(100, 50)] [(100, 50)] (c_retrospectref02_Norm _ h4) ⟨⟨_, rfl, rn_id if_sli⟩, trivial⟩ (MiF.get (mi := []) trivial) trivial rfl ⟨rfl, trivial⟩ ⟨.inl rfl, trivial⟩ rfl ⟨.inl ⟨_, _, rfl, rfl, rc_sl (ifs_map (f := u32) (fun _ => if_u32) r3)⟩, trivial⟩ trivial ⟨⟨_, rfl⟩, trivial⟩ (rn_own rfl) rfl) ?_
    refine s1 (asg rfl rfl) ?_
    refine snil ?_
    refine pnm ?_
    refine sret ?_
    refine pth ?_
    refine frz (id := 100) [(4, sli 1 (List.map u32 r3)), (10, sli 1 (List.map u32 r3))] [] rfl (ifs_map (f := u32) (fun _ => if_u32) r3) ⟨⟨_, rfl, fz_own⟩, ⟨_, rfl, fz_own⟩, trivial⟩ trivial ?_
    exact ret [] [.tmp 4] [_] [_] .ret hγ (.inl rfl) rfl ⟨rfl, trivial⟩ rfl trivial trivial trivial (rns_cons (rn_id if_sli) (rns_nil)) rfl
  · refine sskip ?_
    refine pnm ?_
    refine sseq ?_
    refine sreg ?_
    refine s1 (mv rfl rfl) ?_
    refine s1 (mv rfl rfl) ?_
    refine bd fun r5 h6 => ?_
    refine s1 (call0 (c_retrospectref05_Div _ h6) ⟨⟨_, rfl, rn_id if_sli⟩, ⟨_, rfl, rn_id if_sli⟩, trivial⟩ (if_tup (ifs_cons if_sli (ifs_cons if_sli (ifs_nil)))) rfl) ?_
    refine s1 (mv rfl rfl) ?_
    refine s1 (ext (by exact rfl) rfl rfl) ?_
    refine s1 (ext (by exact rfl) rfl rfl) ?_
    refine s1 (asg rfl rfl) ?_
    refine s1 (asg rfl rfl) ?_
    refine snil ?_
    refine pnm ?_
    refine sseq ?_
    refine sreg ?_
    refine s1 (mv rfl rfl) ?_
    refine s1 (asg rfl rfl) ?_
    refine snil ?_
    refine pnm ?_
    refine sret ?_
    exact ret [] [.tmp 4] [_] [_] .ret hγ (.inl rfl) rfl ⟨rfl, trivial⟩ rfl trivial trivial trivial (rns_cons (rn_id if_sli) (rns_nil)) rfl
theorem c_retrospectref09_Norm {n : Nat} {x0 : M_retrospectref09_Frac} : ∀ r, m_retrospectref09_Norm n x0 = some r → FnOk Tryz.prog 50 [L_retrospectref09_Frac x0] [] (L_retrospectref09_Frac r) [] := by
  unfold m_retrospectref09_Norm
  refine fn_of_sq (res := fun (r : M_retrospectref09_Frac) => L_retrospectref09_Frac r) (mo := fun (r : M_retrospectref09_Frac) => []) Tryz.func50 rfl rfl (by kernel_rfl) rfl ?_
  intro w S0 γ hγ
  refine sseq ?_
  refine sreg ?_
  refine so (box (y := 100) (by exact rfl) rfl rfl rfl) ?_
  refine so (al (y := 101) (ly := L_retrospectref09_Frac (⟨false, [], []⟩ : M_retrospectref09_Frac)) ti_84 zr_retrospectref09_Frac rfl rfl) ?_
  refine snil ?_
  refine pnm ?_
  refine sseq ?_
  refine sreg ?_
  refine s1 (faO rfl fd_84_2 rfl rfl) ?_
  refine s1 (ldB [2] rfl (by exact rfl) sh_67 (by exact rfl) (by exact rfl) rfl rfl (.inl rfl)) ?_
  refine bd fun r1 h2 => ?_
  refine so (callG (em := [(102, .sl 107 1 (List.map u32 r1))]) (res' := .own 102) [] [(102, 50)] [(102, 50)] (c_retrospectref02_Norm _ h2) ⟨⟨_, rfl, rn_id if_sli⟩, trivial⟩ (MiF.get (mi := []) trivial) trivial rfl ⟨rfl, trivial⟩ ⟨.inl rfl, trivial⟩ rfl ⟨.inl ⟨_, _, rfl, rfl, rc_sl (ifs_map (f := u32) (fun _ => if_u32) r1)⟩, trivial⟩ trivial ⟨⟨_, rfl⟩, trivial⟩ (rn_own rfl) rfl) ?_
  refine s1 (asg rfl rfl) ?_
  refine snil ?_
  refine pnm ?_
  refine sseq ?_
  refine sreg ?_
  refine s1 (faO rfl fd_84_1 rfl rfl) ?_
  refine s1 (ldB [1] rfl (by exact rfl) sh_67 (by exact rfl) (by exact rfl) rfl rfl (.inl rfl)) ?_
  refine bd fun r3 h4 => ?_
  refine so (callG (em := [(103, .sl 107 1 (List.map u32 r3))]) (res' := .own 103) [] [(103, 50)] [(103, 50)] (c_retrospectref02_Norm _ h4) ⟨⟨_, rfl, rn_id if_sli⟩, trivial⟩ (MiF.get (mi := []) trivial) trivial rfl ⟨rfl, trivial⟩ ⟨.inl rfl, trivial⟩ rfl ⟨.inl ⟨_, _, rfl, rfl, rc_sl (ifs_map (f := u32) (fun _ => if_u32) r3)⟩, trivial⟩ trivial ⟨⟨_, rfl⟩, trivial⟩ (rn_own rfl) rfl) ?_
  refine s1 (asg rfl rfl) ?_
  refine snil ?_
  refine pnm ?_
  refine sseq ?_
  refine sjq (fun (s7 : Bool) => [(1, .own 100), (2, .own 101), (3, .own 102), (4, .own 103), (19, bl s7)]) (fun (s7 : Bool) => [(100, .bx 84 (L_retrospectref09_Frac x0)), (101, .bx 84 (L_retrospectref09_Frac (⟨false, [], []⟩ : M_retrospectref09_Frac))), (102, .sl 107 1 (List.map u32 r1)), (103, .sl 107 1 (List.map u32 r3))]) ?_ ?_
  · intro j5 hj6
    refine sreg ?_
    refine s1 (mv rfl rfl) ?_
    refine s1 (lenO (f := u32) Tryz.underlying67 rfl rfl rfl) ?_
    refine s1 (eqI rfl rfl (kI (x := 0) rfl)) ?_
    refine s1 (mv rfl rfl) ?_
    refine sifd 15 rfl ?_ ?_
    · refine spB 15 rfl rfl rfl ?_
      refine spB 15 rfl rfl rfl ?_
      refine spB 15 rfl rfl rfl ?_
      refine s1 (pickT rfl rfl kB) ?_
      refine snil ?_
      refine pnm ?_
      exact sj (hj6 _) (entR [(100, 100), (101, 101), (102, 102), (103, 103)] rfl (keepS hγ trivial) ⟨⟨_, rfl⟩, ⟨_, rfl⟩, ⟨_, rfl⟩, ⟨_, rfl⟩, trivial⟩ ⟨⟨_, _, rfl, rfl, rci (rc_bx (rn_id if_L_retrospectref09_Frac))⟩, ⟨_, _, rfl, rfl, rci (rc_bx (rn_id if_L_retrospectref09_Frac))⟩, ⟨_, _, rfl, rfl, rci (rc_sl (ifs_map (f := u32) (fun _ => if_u32) r1))⟩, ⟨_, _, rfl, rfl, rci (rc_sl (ifs_map (f := u32) (fun _ => if_u32) r3))⟩, trivial⟩ ⟨⟨_, rfl, rn_own rfl⟩, ⟨_, rfl, rn_own rfl⟩, ⟨_, rfl, rn_own rfl⟩, ⟨_, rfl, rn_own rfl⟩, ⟨_, rfl, rn_id if_bl⟩, trivial⟩)
    · refine sg 15 rfl rfl (mv rfl rfl) ?_
      refine sg 15 rfl rfl (lenO (f := u32) Tryz.underlying67 rfl rfl rfl) ?_
      refine sg 15 rfl rfl (eqI rfl rfl (kI (x := 0) rfl)) ?_
      refine s1 (pickF rfl rfl rfl) ?_
      refine snil ?_
      refine pnm ?_
      exact sj (hj6 _) (entR [(100, 100), (101, 101), (102, 102), (103, 103)] rfl (keepS hγ trivial) ⟨⟨_, rfl⟩, ⟨_, rfl⟩, ⟨_, rfl⟩, ⟨_, rfl⟩, trivial⟩ ⟨⟨_, _, rfl, rfl, rci (rc_bx (rn_id if_L_retrospectref09_Frac))⟩, ⟨_, _, rfl, rfl, rci (rc_bx (rn_id if_L_retrospectref09_Frac))⟩, ⟨_, _, rfl, rfl, rci (rc_sl (ifs_map (f := u32) (fun _ => if_u32) r1))⟩, ⟨_, _, rfl, rfl, rci (rc_sl (ifs_map (f := u32) (fun _ => if_u32) r3))⟩, trivial⟩ ⟨⟨_, rfl, rn_own rfl⟩, ⟨_, rfl, rn_own rfl⟩, ⟨_, rfl, rn_own rfl⟩, ⟨_, rfl, rn_own rfl⟩, ⟨_, rfl, rn_id if_bl⟩, trivial⟩)
  · intro s7
    refine scond rfl ?_ ?_
    · refine sseq ?_
      refine sreg ?_
      refine so (bsl (y := 104) (ls := List.map u32 ([] : List Nat)) Tryz.underlying67 ti_107 rfl rfl rfl rfl rfl trivial rfl rfl) ?_
      refine so (bsl (y := 105) (ls := List.map u32 ([1] : List Nat)) Tryz.underlying67 ti_107 rfl rfl rfl rfl rfl ⟨rfl, (k32 (x := 1) rfl), (by exact rfl), (by exact rfl), trivial⟩ rfl rfl) ?_
      refine frz (id := 104) [(20, sli 1 (List.map u32 ([] : List Nat)))] [] rfl (ifs_map (f := u32) (fun _ => if_u32) ([] : List Nat)) ⟨⟨_, rfl, fz_own⟩, trivial⟩ trivial ?_
      refine frz (id := 105) [(21, sli 1 (List.map u32 ([1] : List Nat)))] [] rfl (ifs_map (f := u32) (fun _ => if_u32) ([1] : List Nat)) ⟨⟨_, rfl, fz_own⟩, trivial⟩ trivial ?_
      refine s1 (bld (l := [bl false, sli 1 (List.map u32 ([] : List Nat)), sli 1 (List.map u32 ([1] : List Nat))]) pl_84 ti_84 zr_retrospectref09_Frac ⟨_, _, _, rfl, rfl, rfl, rfl, (szk (k := 1) rfl rfl), ⟨_, _, _, rfl, rfl, rfl, rfl, (szk (k := 1) rfl rfl), rfl⟩⟩ rfl) ?_
      refine so (stB2 (ly2 := L_retrospectref09_Frac (⟨false, ([] : List Nat), ([1] : List Nat)⟩ : M_retrospectref09_Frac)) [] (by exact rfl) rfl (by exact rfl) sh_84 (by exact rfl) (by exact rfl) (by exact rfl) rfl (.inr ⟨rfl, rfl, _, _, rfl⟩) rfl) ?_
      refine snil ?_
      refine pnm ?_
      refine sret ?_
      refine pth ?_
      exact ret [] [.cell 2 84] [_] [_] .ret hγ (.inl rfl) rfl ⟨⟨101, _, rfl, rfl, sh_84⟩, trivial⟩ rfl trivial trivial trivial (rns_cons (rn_id if_L_retrospectref09_Frac) (rns_nil)) rfl
    · refine sskip ?_
      refine pnm ?_
      refine sjq (fun (s34 : (List Nat) × (List Nat)) => [(1, .own 100), (2, .own 101), (3, sli 1 (List.map u32 s34.1)), (4, sli 1 (List.map u32 s34.2))]) (fun (s34 : (List Nat) × (List Nat)) => [(100, .bx 84 (L_retrospectref09_Frac x0)), (101, .bx 84 (L_retrospectref09_Frac (⟨false, [], []⟩ : M_retrospectref09_Frac)))]) ?_ ?_
      · intro j32 hj33
        refine sseq ?_
        refine sreg ?_
        refine s1 (mv rfl rfl) ?_
        refine bd fun r35 h36 => ?_
        refine s1 (callL (em := []) [102] [] [] [] rfl (c_retrospectref06_One _ h36) trivial (pl_bl) ⟨.inr ⟨102, rfl, .inl ⟨rfl, .inl ⟨_, _, _, rfl, ifs_map (f := u32) (fun _ => if_u32) r1, rfl⟩⟩⟩, trivial⟩ (fun _ _ h => by cases h) trivial rfl trivial trivial rfl trivial trivial trivial (rn_id (if_bl)) rfl) ?_
        refine s1 (notB rfl rfl) ?_
        refine snil ?_
        refine pnm ?_
        refine scond rfl ?_ ?_
        · refine sseq ?_
          refine sreg ?_
          refine s1 (mv rfl rfl) ?_
          refine s1 (mv rfl rfl) ?_
          refine frz (id := 103) [(4, sli 1 (List.map u32 r3)), (26, sli 1 (List.map u32 r3))] [] rfl (ifs_map (f := u32) (fun _ => if_u32) r3) ⟨⟨_, rfl, fz_own⟩, ⟨_, rfl, fz_own⟩, trivial⟩ trivial ?_
          refine frz (id := 102) [(3, sli 1 (List.map u32 r1)), (23, sli 1 (List.map u32 r1)), (27, sli 1 (List.map u32 r1))] [] rfl (ifs_map (f := u32) (fun _ => if_u32) r1) ⟨⟨_, rfl, fz_own⟩, ⟨_, rfl, fz_own⟩, ⟨_, rfl, fz_own⟩, trivial⟩ trivial ?_
          refine bd fun r37 h38 => ?_
          refine s1 (call0 (c_retrospectref06_Gcd _ h38) ⟨⟨_, rfl, rn_id if_sli⟩, ⟨_, rfl, rn_id if_sli⟩, trivial⟩ (if_sli) rfl) ?_
          refine s1 (asg rfl rfl) ?_
          refine snil ?_
          refine pnm ?_
          refine sseq ?_
          refine sreg ?_
          refine s1 (mv rfl rfl) ?_
          refine s1 (mv rfl rfl) ?_
          refine bd fun r39 h40 => ?_
          refine s1 (call0 (c_retrospectref06_Over _ h40) ⟨⟨_, rfl, rn_id if_sli⟩, ⟨_, rfl, rn_id if_sli⟩, trivial⟩ (if_sli) rfl) ?_
          refine s1 (asg rfl rfl) ?_
          refine snil ?_
          refine pnm ?_
          refine sreg ?_
          refine s1 (mv rfl rfl) ?_
          refine s1 (mv rfl rfl) ?_
          refine bd fun r41 h42 => ?_
          refine s1 (call0 (c_retrospectref06_Over _ h42) ⟨⟨_, rfl, rn_id if_sli⟩, ⟨_, rfl, rn_id if_sli⟩, trivial⟩ (if_sli) rfl) ?_
          refine s1 (asg rfl rfl) ?_
          refine snil ?_
          refine pnm ?_
          exact sj (hj33 _) (entR [(100, 100), (101, 101)] rfl (keepS hγ trivial) ⟨⟨_, rfl⟩, ⟨_, rfl⟩, trivial⟩ ⟨⟨_, _, rfl, rfl, rci (rc_bx (rn_id if_L_retrospectref09_Frac))⟩, ⟨_, _, rfl, rfl, rci (rc_bx (rn_id if_L_retrospectref09_Frac))⟩, trivial⟩ ⟨⟨_, rfl, rn_own rfl⟩, ⟨_, rfl, rn_own rfl⟩, ⟨_, rfl, rn_id if_sli⟩, ⟨_, rfl, rn_id if_sli⟩, trivial⟩)
        · refine sskip ?_
          refine frz (id := 102) [(3, sli 1 (List.map u32 r1)), (23, sli 1 (List.map u32 r1))] [] rfl (ifs_map (f := u32) (fun _ => if_u32) r1) ⟨⟨_, rfl, fz_own⟩, ⟨_, rfl, fz_own⟩, trivial⟩ trivial ?_
          refine frz (id := 103) [(4, sli 1 (List.map u32 r3))] [] rfl (ifs_map (f := u32) (fun _ => if_u32) r3) ⟨⟨_, rfl, fz_own⟩, trivial⟩ trivial ?_
          refine pnm ?_
          exact sj (hj33 _) (entR [(100, 100), (101, 101)] rfl (keepS hγ trivial) ⟨⟨_, rfl⟩, ⟨_, rfl⟩, trivial⟩ ⟨⟨_, _, rfl, rfl, rci (rc_bx (rn_id if_L_retrospectref09_Frac))⟩, ⟨_, _, rfl, rfl, rci (rc_bx (rn_id if_L_retrospectref09_Frac))⟩, trivial⟩ ⟨⟨_, rfl, rn_own rfl⟩, ⟨_, rfl, rn_own rfl⟩, ⟨_, rfl, rn_id if_sli⟩, ⟨_, rfl, rn_id if_sli⟩, trivial⟩)
      · intro s34
        refine sseq ?_
        refine sreg ?_
        refine s1 (faO rfl fd_84_0 rfl rfl) ?_
        refine s1 (ldB [0] rfl (by exact rfl) sh_4 (by exact rfl) (by exact rfl) rfl rfl (.inl rfl)) ?_
        refine s1 (mv rfl rfl) ?_
        refine s1 (mv rfl rfl) ?_
        refine s1 (bld (l := [bl x0.Neg, sli 1 (List.map u32 s34.2), sli 1 (List.map u32 s34.1)]) pl_84 ti_84 zr_retrospectref09_Frac ⟨_, _, _, rfl, rfl, rfl, rfl, (szk (k := 1) rfl rfl), ⟨_, _, _, rfl, rfl, rfl, rfl, (szk (k := 1) rfl rfl), ⟨_, _, _, rfl, rfl, rfl, rfl, (szk (k := 1) rfl rfl), rfl⟩⟩⟩ rfl) ?_
        refine so (stB2 (ly2 := L_retrospectref09_Frac (⟨x0.Neg, s34.2, s34.1⟩ : M_retrospectref09_Frac)) [] (by exact rfl) rfl (by exact rfl) sh_84 (by exact rfl) (by exact rfl) (by exact rfl) rfl (.inr ⟨rfl, rfl, _, _, rfl⟩) rfl) ?_
        refine snil ?_
        refine pnm ?_
        refine sret ?_
        exact ret [] [.cell 2 84] [_] [_] .ret hγ (.inl rfl) rfl ⟨⟨101, _, rfl, rfl, sh_84⟩, trivial⟩ rfl trivial trivial trivial (rns_cons (rn_id if_L_retrospectref09_Frac) (rns_nil)) rfl
theorem c_retrospectref09_Int {n : Nat} {x0 : Int} : ∀ r, m_retrospectref09_Int n x0 = some r → FnOk Tryz.prog 35 [i64 x0] [] (L_retrospectref09_Frac r) [] := by
  unfold m_retrospectref09_Int
  refine fn_of_sq (res := fun (r : M_retrospectref09_Frac) => L_retrospectref09_Frac r) (mo := fun (r : M_retrospectref09_Frac) => []) Tryz.func35 rfl rfl (by kernel_rfl) rfl ?_
  intro w S0 γ hγ
  refine sseq ?_
  refine sreg ?_
  refine so (al (y := 100) (ly := L_retrospectref09_Frac (⟨false, [], []⟩ : M_retrospectref09_Frac)) ti_84 zr_retrospectref09_Frac rfl rfl) ?_
  refine snil ?_
  refine pnm ?_
  refine sseq ?_
  refine sseq ?_
  refine sreg ?_
  refine s1 (mv rfl rfl) ?_
  refine s1 (ltI rfl rfl (kI (x := 0) rfl)) ?_
  refine snil ?_
  refine pnm ?_
  refine scond rfl ?_ ?_
  · refine sseq ?_
    refine sreg ?_
    refine s1 (mv rfl rfl) ?_
    refine s1 (addI rfl rfl (kI (x := 1) rfl)) ?_
    refine s1 (negI rfl rfl) ?_
    refine s1 (cvIU uk64 Tryz.underlying3 Tryz.underlying106 rfl rfl) ?_
    refine sbn (F := u64) 8 rfl fun z1 => ?_
    refine bd fun r2 h3 => ?_
    refine s1 (call0 (c_retrospectref02_Of _ h3) ⟨⟨_, rfl, rn_id if_u64⟩, trivial⟩ (if_sli) rfl) ?_
    refine so (bsl (y := 101) (ls := List.map u32 ([1] : List Nat)) Tryz.underlying67 ti_107 rfl rfl rfl rfl rfl ⟨rfl, (k32 (x := 1) rfl), (by exact rfl), (by exact rfl), trivial⟩ rfl rfl) ?_
    refine frz (id := 101) [(10, sli 1 (List.map u32 ([1] : List Nat)))] [] rfl (ifs_map (f := u32) (fun _ => if_u32) ([1] : List Nat)) ⟨⟨_, rfl, fz_own⟩, trivial⟩ trivial ?_
    refine bd fun r4 h5 => ?_
    refine s1 (call0 (c_retrospectref02_Add _ h5) ⟨⟨_, rfl, rn_id if_sli⟩, ⟨_, rfl, rn_id if_sli⟩, trivial⟩ (if_sli) rfl) ?_
    refine so (bsl (y := 102) (ls := List.map u32 ([1] : List Nat)) Tryz.underlying67 ti_107 rfl rfl rfl rfl rfl ⟨rfl, (k32 (x := 1) rfl), (by exact rfl), (by exact rfl), trivial⟩ rfl rfl) ?_
    refine frz (id := 102) [(12, sli 1 (List.map u32 ([1] : List Nat)))] [] rfl (ifs_map (f := u32) (fun _ => if_u32) ([1] : List Nat)) ⟨⟨_, rfl, fz_own⟩, trivial⟩ trivial ?_
    refine s1 (bld (l := [bl true, sli 1 (List.map u32 r4), sli 1 (List.map u32 ([1] : List Nat))]) pl_84 ti_84 zr_retrospectref09_Frac ⟨_, _, _, kB, rfl, rfl, rfl, (szk (k := 1) rfl rfl), ⟨_, _, _, rfl, rfl, rfl, rfl, (szk (k := 1) rfl rfl), ⟨_, _, _, rfl, rfl, rfl, rfl, (szk (k := 1) rfl rfl), rfl⟩⟩⟩ rfl) ?_
    refine bd fun r6 h7 => ?_
    refine s1 (call0 (c_retrospectref09_Norm _ h7) ⟨⟨_, rfl, rn_id if_L_retrospectref09_Frac⟩, trivial⟩ (if_L_retrospectref09_Frac) rfl) ?_
    refine so (stB2 (ly2 := L_retrospectref09_Frac r6) [] (by exact rfl) rfl (by exact rfl) sh_84 (by exact rfl) (by exact rfl) (by exact rfl) rfl (.inr ⟨rfl, rfl, _, _, rfl⟩) rfl) ?_
    refine snil ?_
    refine pnm ?_
    refine sret ?_
    refine pth ?_
    exact ret [] [.cell 2 84] [_] [_] .ret hγ (.inl rfl) rfl ⟨⟨100, _, rfl, rfl, sh_84⟩, trivial⟩ rfl trivial trivial trivial (rns_cons (rn_id if_L_retrospectref09_Frac) (rns_nil)) rfl
  · refine sskip ?_
    refine pnm ?_
    refine sseq ?_
    refine sreg ?_
    refine s1 (mv rfl rfl) ?_
    refine s1 (cvIU uk64 Tryz.underlying3 Tryz.underlying106 rfl rfl) ?_
    refine bd fun r8 h9 => ?_
    refine s1 (call0 (c_retrospectref02_Of _ h9) ⟨⟨_, rfl, rn_id if_u64⟩, trivial⟩ (if_sli) rfl) ?_
    refine so (bsl (y := 101) (ls := List.map u32 ([1] : List Nat)) Tryz.underlying67 ti_107 rfl rfl rfl rfl rfl ⟨rfl, (k32 (x := 1) rfl), (by exact rfl), (by exact rfl), trivial⟩ rfl rfl) ?_
    refine frz (id := 101) [(18, sli 1 (List.map u32 ([1] : List Nat)))] [] rfl (ifs_map (f := u32) (fun _ => if_u32) ([1] : List Nat)) ⟨⟨_, rfl, fz_own⟩, trivial⟩ trivial ?_
    refine s1 (bld (l := [bl false, sli 1 (List.map u32 r8), sli 1 (List.map u32 ([1] : List Nat))]) pl_84 ti_84 zr_retrospectref09_Frac ⟨_, _, _, rfl, rfl, rfl, rfl, (szk (k := 1) rfl rfl), ⟨_, _, _, rfl, rfl, rfl, rfl, (szk (k := 1) rfl rfl), rfl⟩⟩ rfl) ?_
    refine bd fun r10 h11 => ?_
    refine s1 (call0 (c_retrospectref09_Norm _ h11) ⟨⟨_, rfl, rn_id if_L_retrospectref09_Frac⟩, trivial⟩ (if_L_retrospectref09_Frac) rfl) ?_
    refine so (stB2 (ly2 := L_retrospectref09_Frac r10) [] (by exact rfl) rfl (by exact rfl) sh_84 (by exact rfl) (by exact rfl) (by exact rfl) rfl (.inr ⟨rfl, rfl, _, _, rfl⟩) rfl) ?_
    refine snil ?_
    refine pnm ?_
    refine sret ?_
    exact ret [] [.cell 2 84] [_] [_] .ret hγ (.inl rfl) rfl ⟨⟨100, _, rfl, rfl, sh_84⟩, trivial⟩ rfl trivial trivial trivial (rns_cons (rn_id if_L_retrospectref09_Frac) (rns_nil)) rfl
theorem c_retrospectref09_Up {x0 : M_retrospectref09_Frac} : ∀ r, m_retrospectref09_Up x0 = some r → FnOk Tryz.prog 34 [L_retrospectref09_Frac x0] [] (L_retrospectref08_Whole r) [] := by
  unfold m_retrospectref09_Up
  refine fn_of_sq (res := fun (r : M_retrospectref08_Whole) => L_retrospectref08_Whole r) (mo := fun (r : M_retrospectref08_Whole) => []) Tryz.func34 rfl rfl (by kernel_rfl) rfl ?_
  intro w S0 γ hγ
  refine sseq ?_
  refine sreg ?_
  refine so (box (y := 100) (by exact rfl) rfl rfl rfl) ?_
  refine so (al (y := 101) (ly := L_retrospectref08_Whole (⟨false, []⟩ : M_retrospectref08_Whole)) ti_69 zr_retrospectref08_Whole rfl rfl) ?_
  refine snil ?_
  refine pnm ?_
  refine sseq ?_
  refine sreg ?_
  refine s1 (faO rfl fd_84_0 rfl rfl) ?_
  refine s1 (ldB [0] rfl (by exact rfl) sh_4 (by exact rfl) (by exact rfl) rfl rfl (.inl rfl)) ?_
  refine s1 (faO rfl fd_84_1 rfl rfl) ?_
  refine s1 (ldB [1] rfl (by exact rfl) sh_67 (by exact rfl) (by exact rfl) rfl rfl (.inl rfl)) ?_
  refine s1 (bld (l := [bl x0.Neg, sli 1 (List.map u32 x0.N)]) pl_69 ti_69 zr_retrospectref08_Whole ⟨_, _, _, rfl, rfl, rfl, rfl, (szk (k := 1) rfl rfl), ⟨_, _, _, rfl, rfl, rfl, rfl, (szk (k := 1) rfl rfl), rfl⟩⟩ rfl) ?_
  refine so (stB2 (ly2 := L_retrospectref08_Whole (⟨x0.Neg, x0.N⟩ : M_retrospectref08_Whole)) [] (by exact rfl) rfl (by exact rfl) sh_69 (by exact rfl) (by exact rfl) (by exact rfl) rfl (.inr ⟨rfl, rfl, _, _, rfl⟩) rfl) ?_
  refine snil ?_
  refine pnm ?_
  refine sret ?_
  exact ret [] [.cell 2 69] [_] [_] .ret hγ (.inl rfl) rfl ⟨⟨101, _, rfl, rfl, sh_69⟩, trivial⟩ rfl trivial trivial trivial (rns_cons (rn_id if_L_retrospectref08_Whole) (rns_nil)) rfl
theorem c_retrospectref20_Int {n : Nat} {x0 : Int} : ∀ r, m_retrospectref20_Int n x0 = some r → FnOk Tryz.prog 22 [i64 x0] [] (str r) [] := by
  unfold m_retrospectref20_Int
  refine fn_of_sq (res := fun (r : (List UInt8)) => str r) (mo := fun (r : (List UInt8)) => []) Tryz.func22 rfl rfl (by kernel_rfl) rfl ?_
  intro w S0 γ hγ
  refine sseq ?_
  refine sreg ?_
  refine s1 (asg rfl (kS (s := []) rfl)) ?_
  refine snil ?_
  refine pnm ?_
  refine sseq ?_
  refine sreg ?_
  refine s1 (mv rfl rfl) ?_
  refine bd fun r1 h2 => ?_
  refine s1 (call0 (c_retrospectref09_Int _ h2) ⟨⟨_, rfl, rn_id if_i64⟩, trivial⟩ (if_L_retrospectref09_Frac) rfl) ?_
  refine bd fun r3 h4 => ?_
  refine s1 (call0 (c_retrospectref09_Up _ h4) ⟨⟨_, rfl, rn_id if_L_retrospectref09_Frac⟩, trivial⟩ (if_L_retrospectref08_Whole) rfl) ?_
  refine bd fun r5 h6 => ?_
  refine s1 (call0 (c_retrospectref08_Text _ h6) ⟨⟨_, rfl, rn_id if_L_retrospectref08_Whole⟩, trivial⟩ (if_str) rfl) ?_
  refine s1 (asg rfl rfl) ?_
  refine snil ?_
  refine pnm ?_
  refine sret ?_
  exact ret [] [.tmp 2] [_] [_] .ret hγ (.inl rfl) rfl ⟨rfl, trivial⟩ rfl trivial trivial trivial (rns_cons (rn_id if_str) (rns_nil)) rfl
theorem c_retrospectref48_Fault {n : Nat} {x0 : M_A4_i64} : ∀ r, m_retrospectref48_Fault n x0 = some r → FnOk Tryz.prog 15 [L_A4_i64 x0] [] (str r) [] := by
  unfold m_retrospectref48_Fault
  refine fn_of_sq (res := fun (r : (List UInt8)) => str r) (mo := fun (r : (List UInt8)) => []) Tryz.func15 rfl rfl (by kernel_rfl) rfl ?_
  intro w S0 γ hγ
  refine sseq ?_
  refine sreg ?_
  refine so (box (y := 100) (by exact rfl) rfl rfl rfl) ?_
  refine s1 (asg rfl (kS (s := []) rfl)) ?_
  refine snil ?_
  refine pnm ?_
  refine sseq ?_
  refine sreg ?_
  refine s1 (asg rfl (kI (x := 0) rfl)) ?_
  refine snil ?_
  refine pnm ?_
  refine sjq (fun (s6 : Int) => [(1, .own 100), (2, str ([] : List UInt8)), (3, i64 s6)]) (fun (s6 : Int) => [(100, .bx 35 (L_A4_i64 x0))]) ?_ ?_
  · intro j4 hj5
    refine sjq (fun (s9 : Bool) => [(1, .own 100), (2, str ([] : List UInt8)), (3, i64 (0 : Int)), (11, bl s9)]) (fun (s9 : Bool) => [(100, .bx 35 (L_A4_i64 x0))]) ?_ ?_
    · intro j7 hj8
      refine sreg ?_
      refine s1 (ixAO Tryz.underlying35 ti_3 rfl (.inr ⟨rfl, rfl, _, _, rfl⟩) rfl rfl (kI (x := 0) rfl)) ?_
      refine s1 (ldB [0] rfl (by exact rfl) sh_3 (by exact rfl) (by exact rfl) rfl rfl (.inl rfl)) ?_
      refine s1 (gtI rfl rfl (kI (x := 0) rfl)) ?_
      refine s1 (mv rfl rfl) ?_
      refine sifd 7 rfl ?_ ?_
      · refine sg 7 rfl rfl (ixAO Tryz.underlying35 ti_3 rfl (.inr ⟨rfl, rfl, _, _, rfl⟩) rfl rfl (kI (x := 0) rfl)) ?_
        refine sg 7 rfl rfl (ldB [0] rfl (by exact rfl) sh_3 (by exact rfl) (by exact rfl) rfl rfl (.inl rfl)) ?_
        refine sg 7 rfl rfl (leI rfl rfl (kI (x := 8) rfl)) ?_
        refine s1 (pickT rfl rfl rfl) ?_
        refine snil ?_
        refine pnm ?_
        exact sj (hj8 _) (entR [(100, 100)] rfl (keepS hγ trivial) ⟨⟨_, rfl⟩, trivial⟩ ⟨⟨_, _, rfl, rfl, rci (rc_bx (rn_id if_L_A4_i64))⟩, trivial⟩ ⟨⟨_, rfl, rn_own rfl⟩, ⟨_, rfl, rn_id if_str⟩, ⟨_, rfl, rn_id if_i64⟩, ⟨_, rfl, rn_id if_bl⟩, trivial⟩)
      · refine spB 7 rfl rfl rfl ?_
        refine spB 7 rfl rfl rfl ?_
        refine spB 7 rfl rfl rfl ?_
        refine s1 (pickF rfl rfl kB) ?_
        refine snil ?_
        refine pnm ?_
        exact sj (hj8 _) (entR [(100, 100)] rfl (keepS hγ trivial) ⟨⟨_, rfl⟩, trivial⟩ ⟨⟨_, _, rfl, rfl, rci (rc_bx (rn_id if_L_A4_i64))⟩, trivial⟩ ⟨⟨_, rfl, rn_own rfl⟩, ⟨_, rfl, rn_id if_str⟩, ⟨_, rfl, rn_id if_i64⟩, ⟨_, rfl, rn_id if_bl⟩, trivial⟩)
    · intro s9
      refine scond rfl ?_ ?_
      · refine sreg ?_
        refine s1 (ixAO Tryz.underlying35 ti_3 rfl (.inr ⟨rfl, rfl, _, _, rfl⟩) rfl rfl (kI (x := 0) rfl)) ?_
        refine s1 (ldB [0] rfl (by exact rfl) sh_3 (by exact rfl) (by exact rfl) rfl rfl (.inl rfl)) ?_
        refine s1 (asg rfl rfl) ?_
        refine snil ?_
        refine pnm ?_
        exact sj (hj5 _) (entR [(100, 100)] rfl (keepS hγ trivial) ⟨⟨_, rfl⟩, trivial⟩ ⟨⟨_, _, rfl, rfl, rci (rc_bx (rn_id if_L_A4_i64))⟩, trivial⟩ ⟨⟨_, rfl, rn_own rfl⟩, ⟨_, rfl, rn_id if_str⟩, ⟨_, rfl, rn_id if_i64⟩, trivial⟩)
      · refine sskip ?_
        refine pnm ?_
        exact sj (hj5 _) (entR [(100, 100)] rfl (keepS hγ trivial) ⟨⟨_, rfl⟩, trivial⟩ ⟨⟨_, _, rfl, rfl, rci (rc_bx (rn_id if_L_A4_i64))⟩, trivial⟩ ⟨⟨_, rfl, rn_own rfl⟩, ⟨_, rfl, rn_id if_str⟩, ⟨_, rfl, rn_id if_i64⟩, trivial⟩)
  · intro s6
    refine sseq ?_
    refine bd fun r10 h11 => ?_
    refine bd fun y12 h13 => ?_
    refine bd fun y14 h15 => ?_
    refine bd fun r16 h17 => ?_
    refine bd fun y18 h19 => ?_
    refine bd fun y20 h21 => ?_
    refine bd fun r22 h23 => ?_
    refine bd fun y24 h25 => ?_
    refine bd fun y26 h27 => ?_
    refine bd fun r28 h29 => ?_
    refine bd fun y30 h31 => ?_
    refine sdraw [⟨[], [], [(14, sli 1 (List.map str r10))], []⟩, ⟨[3], [], [(15, i64 s6)], []⟩, ⟨[14, 15], [], [(16, .ref (str y12))], []⟩, ⟨[16], [], [(17, str y12)], []⟩, ⟨[17], [], [(18, str y14)], []⟩, ⟨[1], [100], [(19, .ptr 100 1)], []⟩, ⟨[19], [100], [(20, i64 x0.a1)], []⟩, ⟨[20], [], [(21, str r16)], []⟩, ⟨[18, 21], [], [(22, str y18)], []⟩, ⟨[22], [], [(23, str y20)], []⟩, ⟨[1], [100], [(24, .ptr 100 2)], []⟩, ⟨[24], [100], [(25, i64 x0.a2)], []⟩, ⟨[25], [], [(26, str r22)], []⟩, ⟨[23, 26], [], [(27, str y24)], []⟩, ⟨[27], [], [(28, str y26)], []⟩, ⟨[1], [100], [(29, .ptr 100 3)], []⟩, ⟨[29], [100], [(30, i64 x0.a3)], []⟩, ⟨[30], [], [(31, str r28)], []⟩, ⟨[28, 31], [], [(32, str y30)], []⟩, ⟨[32], [], [(2, str y30)], []⟩] fol (by kernel_rfl) ⟨fun st mm _ _ => og (call0 (c_retrospectref48_Kinds _ h11) trivial (if_sli) rfl), fun st mm ⟨a3, _⟩ _ => og (mv rfl (a3.trans rfl)), fun st mm ⟨a14, a15, _⟩ _ => og (ixR (f := str) Tryz.underlying60 ti_9 h13 rfl (a14.trans rfl) (a15.trans rfl)), fun st mm ⟨a16, _⟩ _ => og (ldR sh_9 (by exact rfl) (by exact rfl) rfl (a16.trans rfl)), fun st mm ⟨a17, _⟩ _ => og (catStr h15 rfl (a17.trans rfl) (kS (s := [32]) rfl)), fun st mm ⟨a1, _⟩ ⟨g100, _⟩ => og (ixAO (id := 100) (k := 1) (off := 0) (p := 1) Tryz.underlying35 ti_3 rfl (.inr ⟨rfl, rfl, _, _, (g100.trans rfl)⟩) rfl (a1.trans rfl) (kI (x := 1) rfl)), fun st mm ⟨a19, _⟩ ⟨g100, _⟩ => og (ldB [1] (g100.trans rfl) (by exact rfl) sh_3 (by exact rfl) (by exact rfl) rfl (a19.trans rfl) (.inl rfl)), fun st mm ⟨a20, _⟩ _ => og (call0 (c_retrospectref20_Int _ h17) ⟨⟨_, (a20.trans rfl), rn_id if_i64⟩, trivial⟩ (if_str) rfl), fun st mm ⟨a18, a21, _⟩ _ => og (catStr h19 rfl (a18.trans rfl) (a21.trans rfl)), fun st mm ⟨a22, _⟩ _ => og (catStr h21 rfl (a22.trans rfl) (kS (s := [32]) rfl)), fun st mm ⟨a1, _⟩ ⟨g100, _⟩ => og (ixAO (id := 100) (k := 1) (off := 0) (p := 2) Tryz.underlying35 ti_3 rfl (.inr ⟨rfl, rfl, _, _, (g100.trans rfl)⟩) rfl (a1.trans rfl) (kI (x := 2) rfl)), fun st mm ⟨a24, _⟩ ⟨g100, _⟩ => og (ldB [2] (g100.trans rfl) (by exact rfl) sh_3 (by exact rfl) (by exact rfl) rfl (a24.trans rfl) (.inl rfl)), fun st mm ⟨a25, _⟩ _ => og (call0 (c_retrospectref20_Int _ h23) ⟨⟨_, (a25.trans rfl), rn_id if_i64⟩, trivial⟩ (if_str) rfl), fun st mm ⟨a23, a26, _⟩ _ => og (catStr h25 rfl (a23.trans rfl) (a26.trans rfl)), fun st mm ⟨a27, _⟩ _ => og (catStr h27 rfl (a27.trans rfl) (kS (s := [32]) rfl)), fun st mm ⟨a1, _⟩ ⟨g100, _⟩ => og (ixAO (id := 100) (k := 1) (off := 0) (p := 3) Tryz.underlying35 ti_3 rfl (.inr ⟨rfl, rfl, _, _, (g100.trans rfl)⟩) rfl (a1.trans rfl) (kI (x := 3) rfl)), fun st mm ⟨a29, _⟩ ⟨g100, _⟩ => og (ldB [3] (g100.trans rfl) (by exact rfl) sh_3 (by exact rfl) (by exact rfl) rfl (a29.trans rfl) (.inl rfl)), fun st mm ⟨a30, _⟩ _ => og (call0 (c_retrospectref20_Int _ h29) ⟨⟨_, (a30.trans rfl), rn_id if_i64⟩, trivial⟩ (if_str) rfl), fun st mm ⟨a28, a31, _⟩ _ => og (catStr h31 rfl (a28.trans rfl) (a31.trans rfl)), fun st mm ⟨a32, _⟩ _ => og (asg rfl (a32.trans rfl)), trivial⟩ ?_
    refine pnm ?_
    refine sret ?_
    exact ret [] [.tmp 2] [_] [_] .ret hγ (.inl rfl) rfl ⟨rfl, trivial⟩ rfl trivial trivial trivial (rns_cons (rn_id if_str) (rns_nil)) rfl
theorem c_retrospectlaw48_WireFaults {n : Nat} {x0 : M_A4_i64} {x1 : (List UInt8)} : ∀ r, m_retrospectlaw48_WireFaults n x0 x1 = some r → FnOk Tryz.prog 4 [L_A4_i64 x0, str x1] [] (bl r) [] := by
  unfold m_retrospectlaw48_WireFaults
  refine fn_of_sq (res := fun (r : Bool) => bl r) (mo := fun (r : Bool) => []) Tryz.func4 rfl rfl (by kernel_rfl) rfl ?_
  intro w S0 γ hγ
  refine sseq ?_
  refine sreg ?_
  refine so (box (y := 100) (by exact rfl) rfl rfl rfl) ?_
  refine s1 (asg rfl kB) ?_
  refine snil ?_
  refine pnm ?_
  refine sseq ?_
  refine sseq ?_
  refine sreg ?_
  refine s1 (mv rfl rfl) ?_
  refine s1 (lenS Tryz.underlying9 rfl rfl) ?_
  refine s1 (gtI rfl rfl (kI (x := 200) rfl)) ?_
  refine snil ?_
  refine pnm ?_
  refine scond rfl ?_ ?_
  · refine sseq ?_
    refine sreg ?_
    refine bd fun r1 h2 => ?_
    refine s1 (call0 (c_retrospectlaw48_works _ h2) trivial (if_bl) rfl) ?_
    refine s1 (asg rfl rfl) ?_
    refine snil ?_
    refine pnm ?_
    refine sret ?_
    refine pth ?_
    exact ret [] [.tmp 4] [_] [_] .ret hγ (.inl rfl) rfl ⟨rfl, trivial⟩ rfl trivial trivial trivial (rns_cons (rn_id if_bl) (rns_nil)) rfl
  · refine sskip ?_
    refine pnm ?_
    refine sseq ?_
    refine sreg ?_
    refine s1 (mv rfl rfl) ?_
    refine bd fun r3 h4 => ?_
    refine s1 (call0 (c_wire_Unfault _ h4) ⟨⟨_, rfl, rn_id if_str⟩, trivial⟩ (if_tup (ifs_cons if_L_api_Fault (ifs_cons if_bl (ifs_nil)))) rfl) ?_
    refine s1 (mv rfl rfl) ?_
    refine s1 (ext (by exact rfl) rfl rfl) ?_
    refine s1 (ext (by exact rfl) rfl rfl) ?_
    refine so (al (y := 101) (ly := L_api_Fault (⟨0, 0, 0, 0⟩ : M_api_Fault)) ti_37 zr_api_Fault rfl rfl) ?_
    refine so (stB2 (ly2 := L_api_Fault r3.1) [] (by exact rfl) rfl (by exact rfl) sh_37 (by exact rfl) (by exact rfl) (by exact rfl) rfl (.inr ⟨rfl, rfl, _, _, rfl⟩) rfl) ?_
    refine s1 (asg rfl rfl) ?_
    refine snil ?_
    refine pnm ?_
    refine sseq ?_
    refine sreg ?_
    refine s1 (mv rfl rfl) ?_
    refine bd fun r5 h6 => ?_
    refine s1 (call0 (c_retrospectref48_Unfault _ h6) ⟨⟨_, rfl, rn_id if_str⟩, trivial⟩ (if_tup (ifs_cons if_L_A4_i64 (ifs_cons if_bl (ifs_nil)))) rfl) ?_
    refine s1 (mv rfl rfl) ?_
    refine s1 (ext (by exact rfl) rfl rfl) ?_
    refine s1 (ext (by exact rfl) rfl rfl) ?_
    refine so (al (y := 102) (ly := L_A4_i64 (⟨0, 0, 0, 0⟩ : M_A4_i64)) ti_35 zr_A4_i64 rfl rfl) ?_
    refine so (stB2 (ly2 := L_A4_i64 r5.1) [] (by exact rfl) rfl (by exact rfl) sh_35 (by exact rfl) (by exact rfl) (by exact rfl) rfl (.inr ⟨rfl, rfl, _, _, rfl⟩) rfl) ?_
    refine s1 (asg rfl rfl) ?_
    refine snil ?_
    refine pnm ?_
    refine sjq (fun (s24 : Bool) => [(4, bl s24)]) (fun (s24 : Bool) => []) ?_ ?_
    · intro j22 hj23
      refine bd fun r25 h26 => ?_
      refine bd fun r27 h28 => ?_
      refine sif (fun hb29 => ?_) (fun hb29 => ?_)
      · refine sif (fun hb30 => ?_) (fun hb30 => ?_)
        · refine sif (fun hb31 => ?_) (fun hb31 => ?_)
          · refine bd fun r32 h33 => ?_
            refine sdraw [⟨[2], [100], [(23, .ptr 100 0)], []⟩, ⟨[23], [100], [(24, i64 x0.a0)], []⟩, ⟨[2], [100], [(25, .ptr 100 1)], []⟩, ⟨[25], [100], [(26, i64 x0.a1)], []⟩, ⟨[2], [100], [(27, .ptr 100 2)], []⟩, ⟨[27], [100], [(28, i64 x0.a2)], []⟩, ⟨[2], [100], [(29, .ptr 100 3)], []⟩, ⟨[29], [100], [(30, i64 x0.a3)], []⟩, ⟨[24, 26, 28, 30], [], [(31, L_api_Fault (⟨x0.a0, x0.a1, x0.a2, x0.a3⟩ : M_api_Fault))], []⟩, ⟨[31], [], [(32, str r25)], []⟩, ⟨[2], [100], [(33, L_A4_i64 x0)], []⟩, ⟨[33], [], [(34, str r27)], []⟩, ⟨[32, 34], [], [(35, bl (decide (r25 = r27)))], []⟩, ⟨[35], [], [(36, bl true)], []⟩, ⟨[36, 5], [101], [(37, L_api_Fault r3.1)], []⟩, ⟨[36, 7], [102], [(38, .ptr 102 0)], []⟩, ⟨[36, 38], [102], [(39, i64 r5.1.a0)], []⟩, ⟨[36, 7], [102], [(40, .ptr 102 1)], []⟩, ⟨[36, 40], [102], [(41, i64 r5.1.a1)], []⟩, ⟨[36, 7], [102], [(42, .ptr 102 2)], []⟩, ⟨[36, 42], [102], [(43, i64 r5.1.a2)], []⟩, ⟨[36, 7], [102], [(44, .ptr 102 3)], []⟩, ⟨[36, 44], [102], [(45, i64 r5.1.a3)], []⟩, ⟨[36, 39, 41, 43, 45], [], [(46, L_api_Fault (⟨r5.1.a0, r5.1.a1, r5.1.a2, r5.1.a3⟩ : M_api_Fault))], []⟩, ⟨[36, 37, 46], [], [(47, bl (eqb_api_Fault r3.1 (⟨r5.1.a0, r5.1.a1, r5.1.a2, r5.1.a3⟩ : M_api_Fault)))], []⟩, ⟨[36, 47], [], [(48, bl (eqb_api_Fault r3.1 (⟨r5.1.a0, r5.1.a1, r5.1.a2, r5.1.a3⟩ : M_api_Fault)))], []⟩, ⟨[48], [], [(49, bl true)], []⟩, ⟨[49, 6], [], [(50, bl r3.2)], []⟩, ⟨[49, 8], [], [(51, bl r5.2)], []⟩, ⟨[49, 50, 51], [], [(52, bl (r3.2 == r5.2))], []⟩, ⟨[49, 52], [], [(53, bl (r3.2 == r5.2))], []⟩, ⟨[53], [], [(54, bl true)], []⟩, ⟨[54], [], [(55, bl r32)], []⟩, ⟨[54, 55], [], [(56, bl r32)], []⟩, ⟨[56], [], [(4, bl r32)], []⟩] fol (by kernel_rfl) ⟨fun st mm ⟨a2, _⟩ ⟨g100, _⟩ => og (ixAO (id := 100) (k := 1) (off := 0) (p := 0) Tryz.underlying35 ti_3 rfl (.inr ⟨rfl, rfl, _, _, (g100.trans rfl)⟩) rfl (a2.trans rfl) (kI (x := 0) rfl)), fun st mm ⟨a23, _⟩ ⟨g100, _⟩ => og (ldB [0] (g100.trans rfl) (by exact rfl) sh_3 (by exact rfl) (by exact rfl) rfl (a23.trans rfl) (.inl rfl)), fun st mm ⟨a2, _⟩ ⟨g100, _⟩ => og (ixAO (id := 100) (k := 1) (off := 0) (p := 1) Tryz.underlying35 ti_3 rfl (.inr ⟨rfl, rfl, _, _, (g100.trans rfl)⟩) rfl (a2.trans rfl) (kI (x := 1) rfl)), fun st mm ⟨a25, _⟩ ⟨g100, _⟩ => og (ldB [1] (g100.trans rfl) (by exact rfl) sh_3 (by exact rfl) (by exact rfl) rfl (a25.trans rfl) (.inl rfl)), fun st mm ⟨a2, _⟩ ⟨g100, _⟩ => og (ixAO (id := 100) (k := 1) (off := 0) (p := 2) Tryz.underlying35 ti_3 rfl (.inr ⟨rfl, rfl, _, _, (g100.trans rfl)⟩) rfl (a2.trans rfl) (kI (x := 2) rfl)), fun st mm ⟨a27, _⟩ ⟨g100, _⟩ => og (ldB [2] (g100.trans rfl) (by exact rfl) sh_3 (by exact rfl) (by exact rfl) rfl (a27.trans rfl) (.inl rfl)), fun st mm ⟨a2, _⟩ ⟨g100, _⟩ => og (ixAO (id := 100) (k := 1) (off := 0) (p := 3) Tryz.underlying35 ti_3 rfl (.inr ⟨rfl, rfl, _, _, (g100.trans rfl)⟩) rfl (a2.trans rfl) (kI (x := 3) rfl)), fun st mm ⟨a29, _⟩ ⟨g100, _⟩ => og (ldB [3] (g100.trans rfl) (by exact rfl) sh_3 (by exact rfl) (by exact rfl) rfl (a29.trans rfl) (.inl rfl)), fun st mm ⟨a24, a26, a28, a30, _⟩ _ => og (bld (l := [i64 x0.a0, i64 x0.a1, i64 x0.a2, i64 x0.a3]) pl_37 ti_37 zr_api_Fault ⟨_, _, _, (a24.trans rfl), rfl, rfl, rfl, (szk (k := 1) rfl rfl), ⟨_, _, _, (a26.trans rfl), rfl, rfl, rfl, (szk (k := 1) rfl rfl), ⟨_, _, _, (a28.trans rfl), rfl, rfl, rfl, (szk (k := 1) rfl rfl), ⟨_, _, _, (a30.trans rfl), rfl, rfl, rfl, (szk (k := 1) rfl rfl), rfl⟩⟩⟩⟩ rfl), fun st mm ⟨a31, _⟩ _ => og (call0 (c_wire_Fault _ h26) ⟨⟨_, (a31.trans rfl), rn_id if_L_api_Fault⟩, trivial⟩ (if_str) rfl), fun st mm ⟨a2, _⟩ ⟨g100, _⟩ => og (ldB [] (g100.trans rfl) rfl sh_35 (by exact rfl) (by exact rfl) rfl (a2.trans rfl) (.inr ⟨rfl, rfl, _, _, (g100.trans rfl)⟩)), fun st mm ⟨a33, _⟩ _ => og (call0 (c_retrospectref48_Fault _ h28) ⟨⟨_, (a33.trans rfl), rn_id if_L_A4_i64⟩, trivial⟩ (if_str) rfl), fun st mm ⟨a32, a34, _⟩ _ => og (eqS rfl (a32.trans rfl) (a34.trans rfl)), fun st mm ⟨a35, _⟩ _ => og (okb hb29 (mv rfl (a35.trans rfl))), fun st mm ⟨a36, a5, _⟩ ⟨g101, _⟩ => ogG 36 rfl (a36.trans rfl) (ldB [] (g101.trans rfl) rfl sh_37 (by exact rfl) (by exact rfl) rfl (a5.trans rfl) (.inr ⟨rfl, rfl, _, _, (g101.trans rfl)⟩)), fun st mm ⟨a36, a7, _⟩ ⟨g102, _⟩ => ogG 36 rfl (a36.trans rfl) (ixAO (id := 102) (k := 1) (off := 0) (p := 0) Tryz.underlying35 ti_3 rfl (.inr ⟨rfl, rfl, _, _, (g102.trans rfl)⟩) rfl (a7.trans rfl) (kI (x := 0) rfl)), fun st mm ⟨a36, a38, _⟩ ⟨g102, _⟩ => ogG 36 rfl (a36.trans rfl) (ldB [0] (g102.trans rfl) (by exact rfl) sh_3 (by exact rfl) (by exact rfl) rfl (a38.trans rfl) (.inl rfl)), fun st mm ⟨a36, a7, _⟩ ⟨g102, _⟩ => ogG 36 rfl (a36.trans rfl) (ixAO (id := 102) (k := 1) (off := 0) (p := 1) Tryz.underlying35 ti_3 rfl (.inr ⟨rfl, rfl, _, _, (g102.trans rfl)⟩) rfl (a7.trans rfl) (kI (x := 1) rfl)), fun st mm ⟨a36, a40, _⟩ ⟨g102, _⟩ => ogG 36 rfl (a36.trans rfl) (ldB [1] (g102.trans rfl) (by exact rfl) sh_3 (by exact rfl) (by exact rfl) rfl (a40.trans rfl) (.inl rfl)), fun st mm ⟨a36, a7, _⟩ ⟨g102, _⟩ => ogG 36 rfl (a36.trans rfl) (ixAO (id := 102) (k := 1) (off := 0) (p := 2) Tryz.underlying35 ti_3 rfl (.inr ⟨rfl, rfl, _, _, (g102.trans rfl)⟩) rfl (a7.trans rfl) (kI (x := 2) rfl)), fun st mm ⟨a36, a42, _⟩ ⟨g102, _⟩ => ogG 36 rfl (a36.trans rfl) (ldB [2] (g102.trans rfl) (by exact rfl) sh_3 (by exact rfl) (by exact rfl) rfl (a42.trans rfl) (.inl rfl)), fun st mm ⟨a36, a7, _⟩ ⟨g102, _⟩ => ogG 36 rfl (a36.trans rfl) (ixAO (id := 102) (k := 1) (off := 0) (p := 3) Tryz.underlying35 ti_3 rfl (.inr ⟨rfl, rfl, _, _, (g102.trans rfl)⟩) rfl (a7.trans rfl) (kI (x := 3) rfl)), fun st mm ⟨a36, a44, _⟩ ⟨g102, _⟩ => ogG 36 rfl (a36.trans rfl) (ldB [3] (g102.trans rfl) (by exact rfl) sh_3 (by exact rfl) (by exact rfl) rfl (a44.trans rfl) (.inl rfl)), fun st mm ⟨a36, a39, a41, a43, a45, _⟩ _ => ogG 36 rfl (a36.trans rfl) (bld (l := [i64 r5.1.a0, i64 r5.1.a1, i64 r5.1.a2, i64 r5.1.a3]) pl_37 ti_37 zr_api_Fault ⟨_, _, _, (a39.trans rfl), rfl, rfl, rfl, (szk (k := 1) rfl rfl), ⟨_, _, _, (a41.trans rfl), rfl, rfl, rfl, (szk (k := 1) rfl rfl), ⟨_, _, _, (a43.trans rfl), rfl, rfl, rfl, (szk (k := 1) rfl rfl), ⟨_, _, _, (a45.trans rfl), rfl, rfl, rfl, (szk (k := 1) rfl rfl), rfl⟩⟩⟩⟩ rfl), fun st mm ⟨a36, a37, a46, _⟩ _ => ogG 36 rfl (a36.trans rfl) (eqA (p := (r3.1 : M_api_Fault)) (q := ((⟨r5.1.a0, r5.1.a1, r5.1.a2, r5.1.a3⟩ : M_api_Fault) : M_api_Fault)) eq_37_2 rfl eg_37 rfl (a37.trans rfl) (a46.trans rfl)), fun st mm ⟨a36, a47, _⟩ _ => og (pickT rfl (a36.trans rfl) (a47.trans rfl)), fun st mm ⟨a48, _⟩ _ => og (okb hb30 (mv rfl (a48.trans rfl))), fun st mm ⟨a49, a6, _⟩ _ => ogG 49 rfl (a49.trans rfl) (mv rfl (a6.trans rfl)), fun st mm ⟨a49, a8, _⟩ _ => ogG 49 rfl (a49.trans rfl) (mv rfl (a8.trans rfl)), fun st mm ⟨a49, a50, a51, _⟩ _ => ogG 49 rfl (a49.trans rfl) (eqB Tryz.underlying4 rfl (a50.trans rfl) (a51.trans rfl)), fun st mm ⟨a49, a52, _⟩ _ => og (pickT rfl (a49.trans rfl) (a52.trans rfl)), fun st mm ⟨a53, _⟩ _ => og (okb hb31 (mv rfl (a53.trans rfl))), fun st mm ⟨a54, _⟩ _ => ogG 54 rfl (a54.trans rfl) (call0 (c_retrospectlaw48_works _ h33) trivial (if_bl) rfl), fun st mm ⟨a54, a55, _⟩ _ => og (pickT rfl (a54.trans rfl) (a55.trans rfl)), fun st mm ⟨a56, _⟩ _ => og (asg rfl (a56.trans rfl)), trivial⟩ ?_
            refine sbn (F := bl) 47 rfl fun z34 => ?_
            refine sbn (F := bl) 48 rfl fun z35 => ?_
            refine pnm ?_
            exact sj (hj23 _) (entR [] rfl (keepS hγ trivial) (by exact trivial) (by exact trivial) ⟨⟨_, rfl, rn_id if_bl⟩, trivial⟩)
          · refine sdraw [⟨[2], [100], [(23, .ptr 100 0)], []⟩, ⟨[23], [100], [(24, i64 x0.a0)], []⟩, ⟨[2], [100], [(25, .ptr 100 1)], []⟩, ⟨[25], [100], [(26, i64 x0.a1)], []⟩, ⟨[2], [100], [(27, .ptr 100 2)], []⟩, ⟨[27], [100], [(28, i64 x0.a2)], []⟩, ⟨[2], [100], [(29, .ptr 100 3)], []⟩, ⟨[29], [100], [(30, i64 x0.a3)], []⟩, ⟨[24, 26, 28, 30], [], [(31, L_api_Fault (⟨x0.a0, x0.a1, x0.a2, x0.a3⟩ : M_api_Fault))], []⟩, ⟨[31], [], [(32, str r25)], []⟩, ⟨[2], [100], [(33, L_A4_i64 x0)], []⟩, ⟨[33], [], [(34, str r27)], []⟩, ⟨[32, 34], [], [(35, bl (decide (r25 = r27)))], []⟩, ⟨[35], [], [(36, bl true)], []⟩, ⟨[36, 5], [101], [(37, L_api_Fault r3.1)], []⟩, ⟨[36, 7], [102], [(38, .ptr 102 0)], []⟩, ⟨[36, 38], [102], [(39, i64 r5.1.a0)], []⟩, ⟨[36, 7], [102], [(40, .ptr 102 1)], []⟩, ⟨[36, 40], [102], [(41, i64 r5.1.a1)], []⟩, ⟨[36, 7], [102], [(42, .ptr 102 2)], []⟩, ⟨[36, 42], [102], [(43, i64 r5.1.a2)], []⟩, ⟨[36, 7], [102], [(44, .ptr 102 3)], []⟩, ⟨[36, 44], [102], [(45, i64 r5.1.a3)], []⟩, ⟨[36, 39, 41, 43, 45], [], [(46, L_api_Fault (⟨r5.1.a0, r5.1.a1, r5.1.a2, r5.1.a3⟩ : M_api_Fault))], []⟩, ⟨[36, 37, 46], [], [(47, bl (eqb_api_Fault r3.1 (⟨r5.1.a0, r5.1.a1, r5.1.a2, r5.1.a3⟩ : M_api_Fault)))], []⟩, ⟨[36, 47], [], [(48, bl (eqb_api_Fault r3.1 (⟨r5.1.a0, r5.1.a1, r5.1.a2, r5.1.a3⟩ : M_api_Fault)))], []⟩, ⟨[48], [], [(49, bl true)], []⟩, ⟨[49, 6], [], [(50, bl r3.2)], []⟩, ⟨[49, 8], [], [(51, bl r5.2)], []⟩, ⟨[49, 50, 51], [], [(52, bl (r3.2 == r5.2))], []⟩, ⟨[49, 52], [], [(53, bl (r3.2 == r5.2))], []⟩, ⟨[53], [], [(54, bl false)], []⟩, ⟨[54], [], [(55, .tup [])], []⟩, ⟨[54], [], [(56, bl false)], []⟩, ⟨[56], [], [(4, bl false)], []⟩] fol (by kernel_rfl) ⟨fun st mm ⟨a2, _⟩ ⟨g100, _⟩ => og (ixAO (id := 100) (k := 1) (off := 0) (p := 0) Tryz.underlying35 ti_3 rfl (.inr ⟨rfl, rfl, _, _, (g100.trans rfl)⟩) rfl (a2.trans rfl) (kI (x := 0) rfl)), fun st mm ⟨a23, _⟩ ⟨g100, _⟩ => og (ldB [0] (g100.trans rfl) (by exact rfl) sh_3 (by exact rfl) (by exact rfl) rfl (a23.trans rfl) (.inl rfl)), fun st mm ⟨a2, _⟩ ⟨g100, _⟩ => og (ixAO (id := 100) (k := 1) (off := 0) (p := 1) Tryz.underlying35 ti_3 rfl (.inr ⟨rfl, rfl, _, _, (g100.trans rfl)⟩) rfl (a2.trans rfl) (kI (x := 1) rfl)), fun st mm ⟨a25, _⟩ ⟨g100, _⟩ => og (ldB [1] (g100.trans rfl) (by exact rfl) sh_3 (by exact rfl) (by exact rfl) rfl (a25.trans rfl) (.inl rfl)), fun st mm ⟨a2, _⟩ ⟨g100, _⟩ => og (ixAO (id := 100) (k := 1) (off := 0) (p := 2) Tryz.underlying35 ti_3 rfl (.inr ⟨rfl, rfl, _, _, (g100.trans rfl)⟩) rfl (a2.trans rfl) (kI (x := 2) rfl)), fun st mm ⟨a27, _⟩ ⟨g100, _⟩ => og (ldB [2] (g100.trans rfl) (by exact rfl) sh_3 (by exact rfl) (by exact rfl) rfl (a27.trans rfl) (.inl rfl)), fun st mm ⟨a2, _⟩ ⟨g100, _⟩ => og (ixAO (id := 100) (k := 1) (off := 0) (p := 3) Tryz.underlying35 ti_3 rfl (.inr ⟨rfl, rfl, _, _, (g100.trans rfl)⟩) rfl (a2.trans rfl) (kI (x := 3) rfl)), fun st mm ⟨a29, _⟩ ⟨g100, _⟩ => og (ldB [3] (g100.trans rfl) (by exact rfl) sh_3 (by exact rfl) (by exact rfl) rfl (a29.trans rfl) (.inl rfl)), fun st mm ⟨a24, a26, a28, a30, _⟩ _ => og (bld (l := [i64 x0.a0, i64 x0.a1, i64 x0.a2, i64 x0.a3]) pl_37 ti_37 zr_api_Fault ⟨_, _, _, (a24.trans rfl), rfl, rfl, rfl, (szk (k := 1) rfl rfl), ⟨_, _, _, (a26.trans rfl), rfl, rfl, rfl, (szk (k := 1) rfl rfl), ⟨_, _, _, (a28.trans rfl), rfl, rfl, rfl, (szk (k := 1) rfl rfl), ⟨_, _, _, (a30.trans rfl), rfl, rfl, rfl, (szk (k := 1) rfl rfl), rfl⟩⟩⟩⟩ rfl), fun st mm ⟨a31, _⟩ _ => og (call0 (c_wire_Fault _ h26) ⟨⟨_, (a31.trans rfl), rn_id if_L_api_Fault⟩, trivial⟩ (if_str) rfl), fun st mm ⟨a2, _⟩ ⟨g100, _⟩ => og (ldB [] (g100.trans rfl) rfl sh_35 (by exact rfl) (by exact rfl) rfl (a2.trans rfl) (.inr ⟨rfl, rfl, _, _, (g100.trans rfl)⟩)), fun st mm ⟨a33, _⟩ _ => og (call0 (c_retrospectref48_Fault _ h28) ⟨⟨_, (a33.trans rfl), rn_id if_L_A4_i64⟩, trivial⟩ (if_str) rfl), fun st mm ⟨a32, a34, _⟩ _ => og (eqS rfl (a32.trans rfl) (a34.trans rfl)), fun st mm ⟨a35, _⟩ _ => og (okb hb29 (mv rfl (a35.trans rfl))), fun st mm ⟨a36, a5, _⟩ ⟨g101, _⟩ => ogG 36 rfl (a36.trans rfl) (ldB [] (g101.trans rfl) rfl sh_37 (by exact rfl) (by exact rfl) rfl (a5.trans rfl) (.inr ⟨rfl, rfl, _, _, (g101.trans rfl)⟩)), fun st mm ⟨a36, a7, _⟩ ⟨g102, _⟩ => ogG 36 rfl (a36.trans rfl) (ixAO (id := 102) (k := 1) (off := 0) (p := 0) Tryz.underlying35 ti_3 rfl (.inr ⟨rfl, rfl, _, _, (g102.trans rfl)⟩) rfl (a7.trans rfl) (kI (x := 0) rfl)), fun st mm ⟨a36, a38, _⟩ ⟨g102, _⟩ => ogG 36 rfl (a36.trans rfl) (ldB [0] (g102.trans rfl) (by exact rfl) sh_3 (by exact rfl) (by exact rfl) rfl (a38.trans rfl) (.inl rfl)), fun st mm ⟨a36, a7, _⟩ ⟨g102, _⟩ => ogG 36 rfl (a36.trans rfl) (ixAO (id := 102) (k := 1) (off := 0) (p := 1) Tryz.underlying35 ti_3 rfl (.inr ⟨rfl, rfl, _, _, (g102.trans rfl)⟩) rfl (a7.trans rfl) (kI (x := 1) rfl)), fun st mm ⟨a36, a40, _⟩ ⟨g102, _⟩ => ogG 36 rfl (a36.trans rfl) (ldB [1] (g102.trans rfl) (by exact rfl) sh_3 (by exact rfl) (by exact rfl) rfl (a40.trans rfl) (.inl rfl)), fun st mm ⟨a36, a7, _⟩ ⟨g102, _⟩ => ogG 36 rfl (a36.trans rfl) (ixAO (id := 102) (k := 1) (off := 0) (p := 2) Tryz.underlying35 ti_3 rfl (.inr ⟨rfl, rfl, _, _, (g102.trans rfl)⟩) rfl (a7.trans rfl) (kI (x := 2) rfl)), fun st mm ⟨a36, a42, _⟩ ⟨g102, _⟩ => ogG 36 rfl (a36.trans rfl) (ldB [2] (g102.trans rfl) (by exact rfl) sh_3 (by exact rfl) (by exact rfl) rfl (a42.trans rfl) (.inl rfl)), fun st mm ⟨a36, a7, _⟩ ⟨g102, _⟩ => ogG 36 rfl (a36.trans rfl) (ixAO (id := 102) (k := 1) (off := 0) (p := 3) Tryz.underlying35 ti_3 rfl (.inr ⟨rfl, rfl, _, _, (g102.trans rfl)⟩) rfl (a7.trans rfl) (kI (x := 3) rfl)), fun st mm ⟨a36, a44, _⟩ ⟨g102, _⟩ => ogG 36 rfl (a36.trans rfl) (ldB [3] (g102.trans rfl) (by exact rfl) sh_3 (by exact rfl) (by exact rfl) rfl (a44.trans rfl) (.inl rfl)), fun st mm ⟨a36, a39, a41, a43, a45, _⟩ _ => ogG 36 rfl (a36.trans rfl) (bld (l := [i64 r5.1.a0, i64 r5.1.a1, i64 r5.1.a2, i64 r5.1.a3]) pl_37 ti_37 zr_api_Fault ⟨_, _, _, (a39.trans rfl), rfl, rfl, rfl, (szk (k := 1) rfl rfl), ⟨_, _, _, (a41.trans rfl), rfl, rfl, rfl, (szk (k := 1) rfl rfl), ⟨_, _, _, (a43.trans rfl), rfl, rfl, rfl, (szk (k := 1) rfl rfl), ⟨_, _, _, (a45.trans rfl), rfl, rfl, rfl, (szk (k := 1) rfl rfl), rfl⟩⟩⟩⟩ rfl), fun st mm ⟨a36, a37, a46, _⟩ _ => ogG 36 rfl (a36.trans rfl) (eqA (p := (r3.1 : M_api_Fault)) (q := ((⟨r5.1.a0, r5.1.a1, r5.1.a2, r5.1.a3⟩ : M_api_Fault) : M_api_Fault)) eq_37_2 rfl eg_37 rfl (a37.trans rfl) (a46.trans rfl)), fun st mm ⟨a36, a47, _⟩ _ => og (pickT rfl (a36.trans rfl) (a47.trans rfl)), fun st mm ⟨a48, _⟩ _ => og (okb hb30 (mv rfl (a48.trans rfl))), fun st mm ⟨a49, a6, _⟩ _ => ogG 49 rfl (a49.trans rfl) (mv rfl (a6.trans rfl)), fun st mm ⟨a49, a8, _⟩ _ => ogG 49 rfl (a49.trans rfl) (mv rfl (a8.trans rfl)), fun st mm ⟨a49, a50, a51, _⟩ _ => ogG 49 rfl (a49.trans rfl) (eqB Tryz.underlying4 rfl (a50.trans rfl) (a51.trans rfl)), fun st mm ⟨a49, a52, _⟩ _ => og (pickT rfl (a49.trans rfl) (a52.trans rfl)), fun st mm ⟨a53, _⟩ _ => og (okb hb31 (mv rfl (a53.trans rfl))), fun st mm ⟨a54, _⟩ _ => ogB 54 rfl (a54.trans rfl) rfl, fun st mm ⟨a54, _⟩ _ => og (pickF rfl (a54.trans rfl) kB), fun st mm ⟨a56, _⟩ _ => og (asg rfl (a56.trans rfl)), trivial⟩ ?_
            refine sbn (F := bl) 47 rfl fun z36 => ?_
            refine sbn (F := bl) 48 rfl fun z37 => ?_
            refine pnm ?_
            exact sj (hj23 _) (entR [] rfl (keepS hγ trivial) (by exact trivial) (by exact trivial) ⟨⟨_, rfl, rn_id if_bl⟩, trivial⟩)
        · refine sdraw [⟨[2], [100], [(23, .ptr 100 0)], []⟩, ⟨[23], [100], [(24, i64 x0.a0)], []⟩, ⟨[2], [100], [(25, .ptr 100 1)], []⟩, ⟨[25], [100], [(26, i64 x0.a1)], []⟩, ⟨[2], [100], [(27, .ptr 100 2)], []⟩, ⟨[27], [100], [(28, i64 x0.a2)], []⟩, ⟨[2], [100], [(29, .ptr 100 3)], []⟩, ⟨[29], [100], [(30, i64 x0.a3)], []⟩, ⟨[24, 26, 28, 30], [], [(31, L_api_Fault (⟨x0.a0, x0.a1, x0.a2, x0.a3⟩ : M_api_Fault))], []⟩, ⟨[31], [], [(32, str r25)], []⟩, ⟨[2], [100], [(33, L_A4_i64 x0)], []⟩, ⟨[33], [], [(34, str r27)], []⟩, ⟨[32, 34], [], [(35, bl (decide (r25 = r27)))], []⟩, ⟨[35], [], [(36, bl true)], []⟩, ⟨[36, 5], [101], [(37, L_api_Fault r3.1)], []⟩, ⟨[36, 7], [102], [(38, .ptr 102 0)], []⟩, ⟨[36, 38], [102], [(39, i64 r5.1.a0)], []⟩, ⟨[36, 7], [102], [(40, .ptr 102 1)], []⟩, ⟨[36, 40], [102], [(41, i64 r5.1.a1)], []⟩, ⟨[36, 7], [102], [(42, .ptr 102 2)], []⟩, ⟨[36, 42], [102], [(43, i64 r5.1.a2)], []⟩, ⟨[36, 7], [102], [(44, .ptr 102 3)], []⟩, ⟨[36, 44], [102], [(45, i64 r5.1.a3)], []⟩, ⟨[36, 39, 41, 43, 45], [], [(46, L_api_Fault (⟨r5.1.a0, r5.1.a1, r5.1.a2, r5.1.a3⟩ : M_api_Fault))], []⟩, ⟨[36, 37, 46], [], [(47, bl (eqb_api_Fault r3.1 (⟨r5.1.a0, r5.1.a1, r5.1.a2, r5.1.a3⟩ : M_api_Fault)))], []⟩, ⟨[36, 47], [], [(48, bl (eqb_api_Fault r3.1 (⟨r5.1.a0, r5.1.a1, r5.1.a2, r5.1.a3⟩ : M_api_Fault)))], []⟩, ⟨[48], [], [(49, bl false)], []⟩, ⟨[49], [], [(50, .tup [])], []⟩, ⟨[49], [], [(51, .tup [])], []⟩, ⟨[49], [], [(52, .tup [])], []⟩, ⟨[49], [], [(53, bl false)], []⟩, ⟨[53], [], [(54, bl false)], []⟩, ⟨[54], [], [(55, .tup [])], []⟩, ⟨[54], [], [(56, bl false)], []⟩, ⟨[56], [], [(4, bl false)], []⟩] fol (by kernel_rfl) ⟨fun st mm ⟨a2, _⟩ ⟨g100, _⟩ => og (ixAO (id := 100) (k := 1) (off := 0) (p := 0) Tryz.underlying35 ti_3 rfl (.inr ⟨rfl, rfl, _, _, (g100.trans rfl)⟩) rfl (a2.trans rfl) (kI (x := 0) rfl)), fun st mm ⟨a23, _⟩ ⟨g100, _⟩ => og (ldB [0] (g100.trans rfl) (by exact rfl) sh_3 (by exact rfl) (by exact rfl) rfl (a23.trans rfl) (.inl rfl)), fun st mm ⟨a2, _⟩ ⟨g100, _⟩ => og (ixAO (id := 100) (k := 1) (off := 0) (p := 1) Tryz.underlying35 ti_3 rfl (.inr ⟨rfl, rfl, _, _, (g100.trans rfl)⟩) rfl (a2.trans rfl) (kI (x := 1) rfl)), fun st mm ⟨a25, _⟩ ⟨g100, _⟩ => og (ldB [1] (g100.trans rfl) (by exact rfl) sh_3 (by exact rfl) (by exact rfl) rfl (a25.trans rfl) (.inl rfl)), fun st mm ⟨a2, _⟩ ⟨g100, _⟩ => og (ixAO (id := 100) (k := 1) (off := 0) (p := 2) Tryz.underlying35 ti_3 rfl (.inr ⟨rfl, rfl, _, _, (g100.trans rfl)⟩) rfl (a2.trans rfl) (kI (x := 2) rfl)), fun st mm ⟨a27, _⟩ ⟨g100, _⟩ => og (ldB [2] (g100.trans rfl) (by exact rfl) sh_3 (by exact rfl) (by exact rfl) rfl (a27.trans rfl) (.inl rfl)), fun st mm ⟨a2, _⟩ ⟨g100, _⟩ => og (ixAO (id := 100) (k := 1) (off := 0) (p := 3) Tryz.underlying35 ti_3 rfl (.inr ⟨rfl, rfl, _, _, (g100.trans rfl)⟩) rfl (a2.trans rfl) (kI (x := 3) rfl)), fun st mm ⟨a29, _⟩ ⟨g100, _⟩ => og (ldB [3] (g100.trans rfl) (by exact rfl) sh_3 (by exact rfl) (by exact rfl) rfl (a29.trans rfl) (.inl rfl)), fun st mm ⟨a24, a26, a28, a30, _⟩ _ => og (bld (l := [i64 x0.a0, i64 x0.a1, i64 x0.a2, i64 x0.a3]) pl_37 ti_37 zr_api_Fault ⟨_, _, _, (a24.trans rfl), rfl, rfl, rfl, (szk (k := 1) rfl rfl), ⟨_, _, _, (a26.trans rfl), rfl, rfl, rfl, (szk (k := 1) rfl rfl), ⟨_, _, _, (a28.trans rfl), rfl, rfl, rfl, (szk (k := 1) rfl rfl), ⟨_, _, _, (a30.trans rfl), rfl, rfl, rfl, (szk (k := 1) rfl rfl), rfl⟩⟩⟩⟩ rfl), fun st mm ⟨a31, _⟩ _ => og (call0 (c_wire_Fault _ h26) ⟨⟨_, (a31.trans rfl), rn_id if_L_api_Fault⟩, trivial⟩ (if_str) rfl), fun st mm ⟨a2, _⟩ ⟨g100, _⟩ => og (ldB [] (g100.trans rfl) rfl sh_35 (by exact rfl) (by exact rfl) rfl (a2.trans rfl) (.inr ⟨rfl, rfl, _, _, (g100.trans rfl)⟩)), fun st mm ⟨a33, _⟩ _ => og (call0 (c_retrospectref48_Fault _ h28) ⟨⟨_, (a33.trans rfl), rn_id if_L_A4_i64⟩, trivial⟩ (if_str) rfl), fun st mm ⟨a32, a34, _⟩ _ => og (eqS rfl (a32.trans rfl) (a34.trans rfl)), fun st mm ⟨a35, _⟩ _ => og (okb hb29 (mv rfl (a35.trans rfl))), fun st mm ⟨a36, a5, _⟩ ⟨g101, _⟩ => ogG 36 rfl (a36.trans rfl) (ldB [] (g101.trans rfl) rfl sh_37 (by exact rfl) (by exact rfl) rfl (a5.trans rfl) (.inr ⟨rfl, rfl, _, _, (g101.trans rfl)⟩)), fun st mm ⟨a36, a7, _⟩ ⟨g102, _⟩ => ogG 36 rfl (a36.trans rfl) (ixAO (id := 102) (k := 1) (off := 0) (p := 0) Tryz.underlying35 ti_3 rfl (.inr ⟨rfl, rfl, _, _, (g102.trans rfl)⟩) rfl (a7.trans rfl) (kI (x := 0) rfl)), fun st mm ⟨a36, a38, _⟩ ⟨g102, _⟩ => ogG 36 rfl (a36.trans rfl) (ldB [0] (g102.trans rfl) (by exact rfl) sh_3 (by exact rfl) (by exact rfl) rfl (a38.trans rfl) (.inl rfl)), fun st mm ⟨a36, a7, _⟩ ⟨g102, _⟩ => ogG 36 rfl (a36.trans rfl) (ixAO (id := 102) (k := 1) (off := 0) (p := 1) Tryz.underlying35 ti_3 rfl (.inr ⟨rfl, rfl, _, _, (g102.trans rfl)⟩) rfl (a7.trans rfl) (kI (x := 1) rfl)), fun st mm ⟨a36, a40, _⟩ ⟨g102, _⟩ => ogG 36 rfl (a36.trans rfl) (ldB [1] (g102.trans rfl) (by exact rfl) sh_3 (by exact rfl) (by exact rfl) rfl (a40.trans rfl) (.inl rfl)), fun st mm ⟨a36, a7, _⟩ ⟨g102, _⟩ => ogG 36 rfl (a36.trans rfl) (ixAO (id := 102) (k := 1) (off := 0) (p := 2) Tryz.underlying35 ti_3 rfl (.inr ⟨rfl, rfl, _, _, (g102.trans rfl)⟩) rfl (a7.trans rfl) (kI (x := 2) rfl)), fun st mm ⟨a36, a42, _⟩ ⟨g102, _⟩ => ogG 36 rfl (a36.trans rfl) (ldB [2] (g102.trans rfl) (by exact rfl) sh_3 (by exact rfl) (by exact rfl) rfl (a42.trans rfl) (.inl rfl)), fun st mm ⟨a36, a7, _⟩ ⟨g102, _⟩ => ogG 36 rfl (a36.trans rfl) (ixAO (id := 102) (k := 1) (off := 0) (p := 3) Tryz.underlying35 ti_3 rfl (.inr ⟨rfl, rfl, _, _, (g102.trans rfl)⟩) rfl (a7.trans rfl) (kI (x := 3) rfl)), fun st mm ⟨a36, a44, _⟩ ⟨g102, _⟩ => ogG 36 rfl (a36.trans rfl) (ldB [3] (g102.trans rfl) (by exact rfl) sh_3 (by exact rfl) (by exact rfl) rfl (a44.trans rfl) (.inl rfl)), fun st mm ⟨a36, a39, a41, a43, a45, _⟩ _ => ogG 36 rfl (a36.trans rfl) (bld (l := [i64 r5.1.a0, i64 r5.1.a1, i64 r5.1.a2, i64 r5.1.a3]) pl_37 ti_37 zr_api_Fault ⟨_, _, _, (a39.trans rfl), rfl, rfl, rfl, (szk (k := 1) rfl rfl), ⟨_, _, _, (a41.trans rfl), rfl, rfl, rfl, (szk (k := 1) rfl rfl), ⟨_, _, _, (a43.trans rfl), rfl, rfl, rfl, (szk (k := 1) rfl rfl), ⟨_, _, _, (a45.trans rfl), rfl, rfl, rfl, (szk (k := 1) rfl rfl), rfl⟩⟩⟩⟩ rfl), fun st mm ⟨a36, a37, a46, _⟩ _ => ogG 36 rfl (a36.trans rfl) (eqA (p := (r3.1 : M_api_Fault)) (q := ((⟨r5.1.a0, r5.1.a1, r5.1.a2, r5.1.a3⟩ : M_api_Fault) : M_api_Fault)) eq_37_2 rfl eg_37 rfl (a37.trans rfl) (a46.trans rfl)), fun st mm ⟨a36, a47, _⟩ _ => og (pickT rfl (a36.trans rfl) (a47.trans rfl)), fun st mm ⟨a48, _⟩ _ => og (okb hb30 (mv rfl (a48.trans rfl))), fun st mm ⟨a49, _⟩ _ => ogB 49 rfl (a49.trans rfl) rfl, fun st mm ⟨a49, _⟩ _ => ogB 49 rfl (a49.trans rfl) rfl, fun st mm ⟨a49, _⟩ _ => ogB 49 rfl (a49.trans rfl) rfl, fun st mm ⟨a49, _⟩ _ => og (pickF rfl (a49.trans rfl) kB), fun st mm ⟨a53, _⟩ _ => og (mv rfl (a53.trans rfl)), fun st mm ⟨a54, _⟩ _ => ogB 54 rfl (a54.trans rfl) rfl, fun st mm ⟨a54, _⟩ _ => og (pickF rfl (a54.trans rfl) kB), fun st mm ⟨a56, _⟩ _ => og (asg rfl (a56.trans rfl)), trivial⟩ ?_
          refine sbn (F := bl) 47 rfl fun z38 => ?_
          refine sbn (F := bl) 48 rfl fun z39 => ?_
          refine pnm ?_
          exact sj (hj23 _) (entR [] rfl (keepS hγ trivial) (by exact trivial) (by exact trivial) ⟨⟨_, rfl, rn_id if_bl⟩, trivial⟩)
      · refine sdraw [⟨[2], [100], [(23, .ptr 100 0)], []⟩, ⟨[23], [100], [(24, i64 x0.a0)], []⟩, ⟨[2], [100], [(25, .ptr 100 1)], []⟩, ⟨[25], [100], [(26, i64 x0.a1)], []⟩, ⟨[2], [100], [(27, .ptr 100 2)], []⟩, ⟨[27], [100], [(28, i64 x0.a2)], []⟩, ⟨[2], [100], [(29, .ptr 100 3)], []⟩, ⟨[29], [100], [(30, i64 x0.a3)], []⟩, ⟨[24, 26, 28, 30], [], [(31, L_api_Fault (⟨x0.a0, x0.a1, x0.a2, x0.a3⟩ : M_api_Fault))], []⟩, ⟨[31], [], [(32, str r25)], []⟩, ⟨[2], [100], [(33, L_A4_i64 x0)], []⟩, ⟨[33], [], [(34, str r27)], []⟩, ⟨[32, 34], [], [(35, bl (decide (r25 = r27)))], []⟩, ⟨[35], [], [(36, bl false)], []⟩, ⟨[36], [], [(37, .tup [])], []⟩, ⟨[36], [], [(38, .tup [])], []⟩, ⟨[36], [], [(39, .tup [])], []⟩, ⟨[36], [], [(40, .tup [])], []⟩, ⟨[36], [], [(41, .tup [])], []⟩, ⟨[36], [], [(42, .tup [])], []⟩, ⟨[36], [], [(43, .tup [])], []⟩, ⟨[36], [], [(44, .tup [])], []⟩, ⟨[36], [], [(45, .tup [])], []⟩, ⟨[36], [], [(46, .tup [])], []⟩, ⟨[36], [], [(47, .tup [])], []⟩, ⟨[36], [], [(48, bl false)], []⟩, ⟨[48], [], [(49, bl false)], []⟩, ⟨[49], [], [(50, .tup [])], []⟩, ⟨[49], [], [(51, .tup [])], []⟩, ⟨[49], [], [(52, .tup [])], []⟩, ⟨[49], [], [(53, bl false)], []⟩, ⟨[53], [], [(54, bl false)], []⟩, ⟨[54], [], [(55, .tup [])], []⟩, ⟨[54], [], [(56, bl false)], []⟩, ⟨[56], [], [(4, bl false)], []⟩] fol (by kernel_rfl) ⟨fun st mm ⟨a2, _⟩ ⟨g100, _⟩ => og (ixAO (id := 100) (k := 1) (off := 0) (p := 0) Tryz.underlying35 ti_3 rfl (.inr ⟨rfl, rfl, _, _, (g100.trans rfl)⟩) rfl (a2.trans rfl) (kI (x := 0) rfl)), fun st mm ⟨a23, _⟩ ⟨g100, _⟩ => og (ldB [0] (g100.trans rfl) (by exact rfl) sh_3 (by exact rfl) (by exact rfl) rfl (a23.trans rfl) (.inl rfl)), fun st mm ⟨a2, _⟩ ⟨g100, _⟩ => og (ixAO (id := 100) (k := 1) (off := 0) (p := 1) Tryz.underlying35 ti_3 rfl (.inr ⟨rfl, rfl, _, _, (g100.trans rfl)⟩) rfl (a2.trans rfl) (kI (x := 1) rfl)), fun st mm ⟨a25, _⟩ ⟨g100, _⟩ => og (ldB [1] (g100.trans rfl) (by exact rfl) sh_3 (by exact rfl) (by exact rfl) rfl (a25.trans rfl) (.inl rfl)), fun st mm ⟨a2, _⟩ ⟨g100, _⟩ => og (ixAO (id := 100) (k := 1) (off := 0) (p := 2) Tryz.underlying35 ti_3 rfl (.inr ⟨rfl, rfl, _, _, (g100.trans rfl)⟩) rfl (a2.trans rfl) (kI (x := 2) rfl)), fun st mm ⟨a27, _⟩ ⟨g100, _⟩ => og (ldB [2] (g100.trans rfl) (by exact rfl) sh_3 (by exact rfl) (by exact rfl) rfl (a27.trans rfl) (.inl rfl)), fun st mm ⟨a2, _⟩ ⟨g100, _⟩ => og (ixAO (id := 100) (k := 1) (off := 0) (p := 3) Tryz.underlying35 ti_3 rfl (.inr ⟨rfl, rfl, _, _, (g100.trans rfl)⟩) rfl (a2.trans rfl) (kI (x := 3) rfl)), fun st mm ⟨a29, _⟩ ⟨g100, _⟩ => og (ldB [3] (g100.trans rfl) (by exact rfl) sh_3 (by exact rfl) (by exact rfl) rfl (a29.trans rfl) (.inl rfl)), fun st mm ⟨a24, a26, a28, a30, _⟩ _ => og (bld (l := [i64 x0.a0, i64 x0.a1, i64 x0.a2, i64 x0.a3]) pl_37 ti_37 zr_api_Fault ⟨_, _, _, (a24.trans rfl), rfl, rfl, rfl, (szk (k := 1) rfl rfl), ⟨_, _, _, (a26.trans rfl), rfl, rfl, rfl, (szk (k := 1) rfl rfl), ⟨_, _, _, (a28.trans rfl), rfl, rfl, rfl, (szk (k := 1) rfl rfl), ⟨_, _, _, (a30.trans rfl), rfl, rfl, rfl, (szk (k := 1) rfl rfl), rfl⟩⟩⟩⟩ rfl), fun st mm ⟨a31, _⟩ _ => og (call0 (c_wire_Fault _ h26) ⟨⟨_, (a31.trans rfl), rn_id if_L_api_Fault⟩, trivial⟩ (if_str) rfl), fun st mm ⟨a2, _⟩ ⟨g100, _⟩ => og (ldB [] (g100.trans rfl) rfl sh_35 (by exact rfl) (by exact rfl) rfl (a2.trans rfl) (.inr ⟨rfl, rfl, _, _, (g100.trans rfl)⟩)), fun st mm ⟨a33, _⟩ _ => og (call0 (c_retrospectref48_Fault _ h28) ⟨⟨_, (a33.trans rfl), rn_id if_L_A4_i64⟩, trivial⟩ (if_str) rfl), fun st mm ⟨a32, a34, _⟩ _ => og (eqS rfl (a32.trans rfl) (a34.trans rfl)), fun st mm ⟨a35, _⟩ _ => og (okb hb29 (mv rfl (a35.trans rfl))), fun st mm ⟨a36, _⟩ _ => ogB 36 rfl (a36.trans rfl) rfl, fun st mm ⟨a36, _⟩ _ => ogB 36 rfl (a36.trans rfl) rfl, fun st mm ⟨a36, _⟩ _ => ogB 36 rfl (a36.trans rfl) rfl, fun st mm ⟨a36, _⟩ _ => ogB 36 rfl (a36.trans rfl) rfl, fun st mm ⟨a36, _⟩ _ => ogB 36 rfl (a36.trans rfl) rfl, fun st mm ⟨a36, _⟩ _ => ogB 36 rfl (a36.trans rfl) rfl, fun st mm ⟨a36, _⟩ _ => ogB 36 rfl (a36.trans rfl) rfl, fun st mm ⟨a36, _⟩ _ => ogB 36 rfl (a36.trans rfl) rfl, fun st mm ⟨a36, _⟩ _ => ogB 36 rfl (a36.trans rfl) rfl, fun st mm ⟨a36, _⟩ _ => ogB 36 rfl (a36.trans rfl) rfl, fun st mm ⟨a36, _⟩ _ => ogB 36 rfl (a36.trans rfl) rfl, fun st mm ⟨a36, _⟩ _ => og (pickF rfl (a36.trans rfl) kB), fun st mm ⟨a48, _⟩ _ => og (mv rfl (a48.trans rfl)), fun st mm ⟨a49, _⟩ _ => ogB 49 rfl (a49.trans rfl) rfl, fun st mm ⟨a49, _⟩ _ => ogB 49 rfl (a49.trans rfl) rfl, fun st mm ⟨a49, _⟩ _ => ogB 49 rfl (a49.trans rfl) rfl, fun st mm ⟨a49, _⟩ _ => og (pickF rfl (a49.trans rfl) kB), fun st mm ⟨a53, _⟩ _ => og (mv rfl (a53.trans rfl)), fun st mm ⟨a54, _⟩ _ => ogB 54 rfl (a54.trans rfl) rfl, fun st mm ⟨a54, _⟩ _ => og (pickF rfl (a54.trans rfl) kB), fun st mm ⟨a56, _⟩ _ => og (asg rfl (a56.trans rfl)), trivial⟩ ?_
        refine pnm ?_
        exact sj (hj23 _) (entR [] rfl (keepS hγ trivial) (by exact trivial) (by exact trivial) ⟨⟨_, rfl, rn_id if_bl⟩, trivial⟩)
    · intro s24
      refine sret ?_
      exact ret [] [.tmp 4] [_] [_] .ret hγ (.inl rfl) rfl ⟨rfl, trivial⟩ rfl trivial trivial trivial (rns_cons (rn_id if_bl) (rns_nil)) rfl
end Go.Proofs.YtiobbiamnjapgaaGreatDoor
