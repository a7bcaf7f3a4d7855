import Derived.Test.YtpomhkkhdojpiaaGreatDoorGen4
set_option maxRecDepth 100000
set_option maxHeartbeats 4000000
namespace Go.Proofs.YtpomhkkhdojpiaaGreatDoor
open Go Go.RowKit
theorem c_retrospectref09_Norm {n : Nat} {x0} : ∀ r, m_retrospectref09_Norm n x0 = some r → FnOk Tryz.prog 119 [L_retrospectref09_Frac x0] [] (L_retrospectref09_Frac r) [] := by
 unfold m_retrospectref09_Norm
 refine fs Tryz.func119 fun w S0 γ hγ => ?_
 apply z [2]
 refine o (bx' 100) ?_
 refine o (al' 101) ?_
 apply z [1, 2, 33, 36]
 refine b fun r1 h2 => ?_
 refine o (cG (c_retrospectref02_Norm _ h2) [] [(102, 50)] []) ?_
 apply z [31, 1, 2, 33, 36]
 refine b fun r3 h4 => ?_
 refine o (cG (c_retrospectref02_Norm _ h4) [] [(103, 50)] []) ?_
 apply z [31, 1, 5]
 refine sjq (fun s7 => [(1, .own 100), (2, .own 101), (3, .own 102), (4, .own 103), (19, bl s7)]) (fun s7 => [(100, .bx 145 (L_retrospectref09_Frac x0)), (101, .bx 145 (L_retrospectref09_Frac (⟨false, [], []⟩ : M_retrospectref09_Frac))), (102, .sl 127 1 (List.map u32 r1)), (103, .sl 127 1 (List.map u32 r3))]) ?_ ?_
 · intro j5 hj6
   apply z [6, 30, 55, 41, 30]
   refine sifd 15 rfl ?_ ?_
   · apply z [23, 23, 23, 38, 1]
     exact sj (hj6 _) (eR [(100, 100), (101, 101), (102, 102), (103, 103)])
   apply z [22, 22, 22, 37, 1]
   exact sj (hj6 _) (eR [(100, 100), (101, 101), (102, 102), (103, 103)])
 intro s7
 refine c ?_ ?_
 · apply z [2]
   refine so (bsl (y := 104) (ls := List.map u32 ([] : List Nat)) Tryz.underlying67 ti_127.h rfl rfl rfl rfl rfl trivial rfl rfl) ?_
   refine so (bsl (y := 105) (ls := List.map u32 ([1] : List Nat)) Tryz.underlying67 ti_127.h rfl rfl rfl rfl rfl ⟨rfl, (k32 (x := 1) rfl), (by exact rfl), (by exact rfl), trivial⟩ rfl rfl) ?_
   refine fz 104 [20] [] ?_
   refine fz 105 [21] [] ?_
   refine s1 (bld (l := [bl false, sli 1 (List.map u32 ([] : List Nat)), sli 1 (List.map u32 ([1] : List Nat))]) pl_145.h ti_145.h zr_retrospectref09_Frac ⟨_, _, _, rfl, rfl, rfl, rfl, (szk (k := 1) rfl rfl), ⟨_, _, _, rfl, rfl, rfl, rfl, (szk (k := 1) rfl rfl), rfl⟩⟩ rfl) ?_
   apply z [34, 1, 8, 10]
   exact rt []
 apply z [9, 4]
 refine sjq (fun s34 => [(1, .own 100), (2, .own 101), (3, sli 1 (List.map u32 s34.1)), (4, sli 1 (List.map u32 s34.2))]) (fun s34 => [(100, .bx 145 (L_retrospectref09_Frac x0)), (101, .bx 145 (L_retrospectref09_Frac (⟨false, [], []⟩ : M_retrospectref09_Frac)))]) ?_ ?_
 · intro j32 hj33
   apply z [2, 30]
   refine b fun r35 h36 => ?_
   refine s1 (callL (em := []) [102] [] [] [] rfl (c_retrospectref06_One _ h36) trivial (pl_bl) ⟨.inr ⟨102, rfl, .inl ⟨rfl, .inl ⟨_, _, _, rfl, ifs_map (f := u32) (fun _ => if_u32) r1, rfl⟩⟩⟩, trivial⟩ (fun _ _ h => by cases h) trivial rfl trivial trivial rfl trivial trivial trivial (rn_id (if_bl)) rfl) ?_
   apply z [44, 1]
   refine c ?_ ?_
   · apply z [2, 30, 30]
     refine fz 103 [4, 26] [] ?_
     refine fz 102 [3, 23, 27] [] ?_
     refine cb (ca c_retrospectref06_Gcd) fun r37 => ?_
     apply z [31, 1, 2, 30, 30]
     refine cb (ca c_retrospectref06_Over) fun r39 => ?_
     apply z [31, 1, 6, 30, 30]
     refine cb (ca c_retrospectref06_Over) fun r41 => ?_
     apply z [31, 1]
     exact sj (hj33 _) (eR [(100, 100), (101, 101)])
   apply z [9]
   refine fz 102 [3, 23] [] ?_
   refine fz 103 [4] [] ?_
   apply z [4]
   exact sj (hj33 _) (eR [(100, 100), (101, 101)])
 intro s34
 apply z [2, 33, 36, 30, 30]
 refine s1 (bld (l := [bl x0.Neg, sli 1 (List.map u32 s34.2), sli 1 (List.map u32 s34.1)]) pl_145.h ti_145.h zr_retrospectref09_Frac ⟨_, _, _, rfl, rfl, rfl, rfl, (szk (k := 1) rfl rfl), ⟨_, _, _, rfl, rfl, rfl, rfl, (szk (k := 1) rfl rfl), ⟨_, _, _, rfl, rfl, rfl, rfl, (szk (k := 1) rfl rfl), rfl⟩⟩⟩ rfl) ?_
 apply z [34, 1, 8]
 exact rt []
theorem c_retrospectref09_Int {n : Nat} {x0} : ∀ r, m_retrospectref09_Int n x0 = some r → FnOk Tryz.prog 94 [i64 x0] [] (L_retrospectref09_Frac r) [] := by
 unfold m_retrospectref09_Int
 refine fs Tryz.func94 fun w S0 γ hγ => ?_
 apply z [2]
 refine o (al' 100) ?_
 apply z [1, 5, 2, 30, 46, 1]
 refine c ?_ ?_
 · apply z [2, 30, 40, 82, 83]
   refine sbn (F := u64) 8 rfl fun z1 => ?_
   refine cb (ca c_retrospectref02_Of) fun r2 => ?_
   refine so (bsl (y := 101) (ls := List.map u32 ([1] : List Nat)) Tryz.underlying67 ti_127.h rfl rfl rfl rfl rfl ⟨rfl, (k32 (x := 1) rfl), (by exact rfl), (by exact rfl), trivial⟩ rfl rfl) ?_
   refine fz 101 [10] [] ?_
   refine cb (ca c_retrospectref02_Add) fun r4 => ?_
   refine so (bsl (y := 102) (ls := List.map u32 ([1] : List Nat)) Tryz.underlying67 ti_127.h rfl rfl rfl rfl rfl ⟨rfl, (k32 (x := 1) rfl), (by exact rfl), (by exact rfl), trivial⟩ rfl rfl) ?_
   refine fz 102 [12] [] ?_
   refine s1 (bld (l := [bl true, sli 1 (List.map u32 r4), sli 1 (List.map u32 ([1] : List Nat))]) pl_145.h ti_145.h zr_retrospectref09_Frac ⟨_, _, _, kB, rfl, rfl, rfl, (szk (k := 1) rfl rfl), ⟨_, _, _, rfl, rfl, rfl, rfl, (szk (k := 1) rfl rfl), ⟨_, _, _, rfl, rfl, rfl, rfl, (szk (k := 1) rfl rfl), rfl⟩⟩⟩ rfl) ?_
   refine cb (ca c_retrospectref09_Norm) fun r6 => ?_
   apply z [34, 1, 8, 10]
   exact rt []
 apply z [9, 4, 2, 30, 83]
 refine cb (ca c_retrospectref02_Of) fun r8 => ?_
 refine so (bsl (y := 101) (ls := List.map u32 ([1] : List Nat)) Tryz.underlying67 ti_127.h rfl rfl rfl rfl rfl ⟨rfl, (k32 (x := 1) rfl), (by exact rfl), (by exact rfl), trivial⟩ rfl rfl) ?_
 refine fz 101 [18] [] ?_
 refine s1 (bld (l := [bl false, sli 1 (List.map u32 r8), sli 1 (List.map u32 ([1] : List Nat))]) pl_145.h ti_145.h zr_retrospectref09_Frac ⟨_, _, _, rfl, rfl, rfl, rfl, (szk (k := 1) rfl rfl), ⟨_, _, _, rfl, rfl, rfl, rfl, (szk (k := 1) rfl rfl), rfl⟩⟩ rfl) ?_
 refine cb (ca c_retrospectref09_Norm) fun r10 => ?_
 apply z [34, 1, 8]
 exact rt []
theorem c_retrospectref09_Up {x0} : ∀ r, m_retrospectref09_Up x0 = some r → FnOk Tryz.prog 93 [L_retrospectref09_Frac x0] [] (L_retrospectref08_Whole r) [] := by
 unfold m_retrospectref09_Up
 refine fs Tryz.func93 fun w S0 γ hγ => ?_
 apply z [2]
 refine o (bx' 100) ?_
 refine o (al' 101) ?_
 apply z [1, 2, 33, 36, 33, 36]
 refine s1 (bld (l := [bl x0.Neg, sli 1 (List.map u32 x0.N)]) pl_142.h ti_142.h zr_retrospectref08_Whole ⟨_, _, _, rfl, rfl, rfl, rfl, (szk (k := 1) rfl rfl), ⟨_, _, _, rfl, rfl, rfl, rfl, (szk (k := 1) rfl rfl), rfl⟩⟩ rfl) ?_
 apply z [34, 1, 8]
 exact rt []
theorem c_retrospectref08_Norm {n : Nat} {x0} : ∀ r, m_retrospectref08_Norm n x0 = some r → FnOk Tryz.prog 148 [L_retrospectref08_Whole x0] [] (L_retrospectref08_Whole r) [] := by
 unfold m_retrospectref08_Norm
 refine fs Tryz.func148 fun w S0 γ hγ => ?_
 apply z [2]
 refine o (bx' 100) ?_
 refine o (al' 101) ?_
 apply z [1, 2, 33, 36]
 refine b fun r1 h2 => ?_
 refine o (cG (c_retrospectref02_Norm _ h2) [] [(102, 50)] []) ?_
 apply z [31, 1]
 refine sjq (fun s5 => [(2, .own 101)]) (fun s5 => [(101, .bx 142 (L_retrospectref08_Whole s5))]) ?_ ?_
 · intro j3 hj4
   apply z [6, 33, 36, 30]
   refine sifd 9 rfl ?_ ?_
   · apply z [22, 22, 22, 38, 30]
     refine fz 102 [3, 6, 10, 14] [] ?_
     refine s1 (bld (l := [bl (decide ((0 : Int) < (r1.length : Int))), sli 1 (List.map u32 r1)]) pl_142.h ti_142.h zr_retrospectref08_Whole ⟨_, _, _, rfl, rfl, rfl, rfl, (szk (k := 1) rfl rfl), ⟨_, _, _, rfl, rfl, rfl, rfl, (szk (k := 1) rfl rfl), rfl⟩⟩ rfl) ?_
     apply z [34, 1]
     exact sj (hj4 _) (eR [(101, 101)])
   apply z [23, 23, 23, 37, 30]
   refine fz 102 [3, 6, 14] [] ?_
   refine s1 (bld (l := [bl false, sli 1 (List.map u32 r1)]) pl_142.h ti_142.h zr_retrospectref08_Whole ⟨_, _, _, rfl, rfl, rfl, rfl, (szk (k := 1) rfl rfl), ⟨_, _, _, rfl, rfl, rfl, rfl, (szk (k := 1) rfl rfl), rfl⟩⟩ rfl) ?_
   apply z [34, 1]
   exact sj (hj4 _) (eR [(101, 101)])
 intro s5
 apply z [8]
 exact rt []
theorem c_retrospectref08_Sign {n : Nat} {x0} : ∀ r, m_retrospectref08_Sign n x0 = some r → FnOk Tryz.prog 118 [L_retrospectref08_Whole x0] [] (i64 r) [] := by
 unfold m_retrospectref08_Sign
 refine fs Tryz.func118 fun w S0 γ hγ => ?_
 apply z [2]
 refine o (bx' 100) ?_
 apply z [31, 1, 2, 32]
 refine cb (ca c_retrospectref08_Norm) fun r1 => ?_
 refine o (al' 101) ?_
 apply z [34, 1, 5, 2, 33, 36, 39, 41, 1]
 refine c ?_ ?_
 · apply z [2, 31, 1, 8, 10]
   exact rt []
 apply z [9, 4, 5, 2, 33, 36, 1]
 refine c ?_ ?_
 · apply z [2, 31, 1, 8, 10]
   exact rt []
 apply z [9, 4, 2, 31, 1, 8]
 exact rt []
theorem c_retrospectref08_Text {n : Nat} {x0} : ∀ r, m_retrospectref08_Text n x0 = some r → FnOk Tryz.prog 92 [L_retrospectref08_Whole x0] [] (str r) [] := by
 unfold m_retrospectref08_Text
 refine fs Tryz.func92 fun w S0 γ hγ => ?_
 apply z [2]
 refine o (bx' 100) ?_
 apply z [31, 1, 2, 33, 36]
 refine cb (ca c_retrospectref07_Text) fun r1 => ?_
 apply z [31, 1]
 refine sjq (fun s9 => [(2, str ([] : List UInt8)), (3, str s9)]) (fun s9 => []) ?_ ?_
 · intro j7 hj8
   apply z [2, 32]
   refine cb (ca c_retrospectref08_Sign) fun r10 => ?_
   apply z [46, 1]
   refine c ?_ ?_
   · apply z [6, 30]
     refine b fun y12 h13 => ?_
     apply z [91, 31, 1]
     exact sj (hj8 _) (eR [])
   apply z [9, 4]
   exact sj (hj8 _) (eR [])
 intro s9
 apply z [2, 30, 31, 1, 8]
 exact rt []
theorem c_retrospectref20_Int {n : Nat} {x0} : ∀ r, m_retrospectref20_Int n x0 = some r → FnOk Tryz.prog 55 [i64 x0] [] (str r) [] := by
 unfold m_retrospectref20_Int
 refine fs Tryz.func55 fun w S0 γ hγ => ?_
 apply z [2, 31, 1, 2, 30]
 refine cb (ca c_retrospectref09_Int) fun r1 => ?_
 refine cb (ca c_retrospectref09_Up) fun r3 => ?_
 refine cb (ca c_retrospectref08_Text) fun r5 => ?_
 apply z [31, 1, 8]
 exact rt []
theorem c_retrospectref20_within {me_retrospectref20_Write : (List M_retrospectref17_Node) → (List (List UInt8)) → Option ((List UInt8))} (he_retrospectref20_Write : ∀ {x0 : (List M_retrospectref17_Node)} {x1 : (List (List UInt8))}, ∀ r, me_retrospectref20_Write x0 x1 = some r → FnOk Tryz.prog 26 [sli 3 (List.map L_retrospectref17_Node x0), sli 1 (List.map str x1)] [] (str r) []) {n : Nat} {x0} {x1} {x2} : ∀ r, m_retrospectref20_within me_retrospectref20_Write n x0 x1 x2 = some r → FnOk Tryz.prog 56 [sli 3 (List.map L_retrospectref17_Node x0), sli 1 (List.map str x1), i64 x2] [] (str r) [] := by
 unfold m_retrospectref20_within
 refine fs Tryz.func56 fun w S0 γ hγ => ?_
 apply z [2, 31, 1, 2, 30, 30]
 refine cb (ca he_retrospectref20_Write) fun r1 => ?_
 apply z [31, 1, 5, 2, 30]
 refine cb (ca c_retrospectref20_Rank) fun r3 => ?_
 apply z [30, 46, 1]
 refine c ?_ ?_
 · apply z [2, 30]
   refine b fun y5 h6 => ?_
   apply z [91]
   refine b fun y7 h8 => ?_
   apply z [91, 31, 1, 8, 10]
   exact rt []
 apply z [9, 4, 2, 30, 31, 1, 8]
 exact rt []
theorem c_retrospectref20_Write : ∀ {n : Nat} {x0} {x1}, ∀ r, m_retrospectref20_Write n x0 x1 = some r → FnOk Tryz.prog 26 [sli 3 (List.map L_retrospectref17_Node x0), sli 1 (List.map str x1)] [] (str r) [] := by
  intro n
  induction n with
  | zero => intro x0 x1 r h; exact absurd h (by simp [m_retrospectref20_Write])
  | succ n ih =>
    intro x0 x1
    unfold m_retrospectref20_Write
    refine fs Tryz.func26 fun w S0 γ hγ => ?_
    apply z [2, 31, 1, 2, 30, 30, 39, 49]
    refine b fun y1 h2 => ?_
    apply z [43, 42]
    refine o (al' 100) ?_
    apply z [34, 1, 2, 30]
    refine cb (ca c_retrospectref17_Parts) fun r3 => ?_
    apply z [31, 1, 5, 2, 33, 36, 41, 1]
    refine c ?_ ?_
    · apply z [2, 33, 36]
      refine cb (ca c_retrospectref07_Text) fun r5 => ?_
      apply z [31, 1, 8, 10]
      exact rt []
    apply z [9, 4, 5, 2, 33, 36, 41, 1]
    refine c ?_ ?_
    · apply z [2, 31, 1, 8, 10]
      exact rt []
    apply z [9, 4, 5, 2, 33, 36, 41, 1]
    refine c ?_ ?_
    · apply z [2, 33, 36]
      refine cb (ca c_retrospectref20_Int) fun r7 => ?_
      refine b fun y9 h10 => ?_
      apply z [91]
      refine b fun y11 h12 => ?_
      apply z [91, 31, 1, 8, 10]
      exact rt []
    apply z [9, 4, 5, 2, 33, 36, 41, 1]
    refine c ?_ ?_
    · apply z [2, 33, 36]
      refine cb (ca c_retrospectref20_Int) fun r13 => ?_
      refine b fun y15 h16 => ?_
      apply z [91]
      refine b fun y17 h18 => ?_
      apply z [91, 31, 1, 8, 10]
      exact rt []
    apply z [9, 4, 5, 2, 33, 36, 41, 1]
    refine c ?_ ?_
    · apply z [2, 30, 33, 36]
      refine b fun y19 h20 => ?_
      apply z [43, 42, 31, 1, 8, 10]
      exact rt []
    apply z [9, 4, 5, 2, 33, 36, 41, 1]
    refine c ?_ ?_
    · apply z [2, 30]
      refine b fun y21 h22 => ?_
      apply z [43, 42, 30]
      refine b fun r23 h24 => ?_
      refine o (c0 (c_retrospectref20_within @ih _ h24)) ?_
      refine b fun y25 h26 => ?_
      apply z [91, 31, 1, 8, 10]
      exact rt []
    apply z [9, 4, 5, 2, 33, 36, 41, 1]
    refine c ?_ ?_
    · apply z [5]
      refine b fun y27 h28 => ?_
      refine b fun r29 h30 => ?_
      refine b fun y31 h32 => ?_
      refine b fun r33 h34 => ?_
      refine b fun y35 h36 => ?_
      refine sd ?_
      apply zd [[], [], [], []]
      refine dd [] (fun _ _ _ _ => c0 (c_retrospectref20_within @ih _ h30)) ?_
      apply zd [[], [100], [100]]
      refine dd [] (fun _ _ _ _ => c0 (c_retrospectref20_Int _ h34)) ?_
      apply zd [[], []]
      refine de fol ?_
      apply z [4, 8, 10]
      exact rt []
    apply z [9, 4, 2, 30]
    refine cb (ca c_retrospectref20_Rank) fun r37 => ?_
    apply z [31, 1, 2, 31, 1, 5]
    refine b fun y39 h40 => ?_
    refine b fun r41 h42 => ?_
    refine b fun y43 h44 => ?_
    refine b fun y45 h46 => ?_
    refine b fun y47 h48 => ?_
    refine b fun y49 h50 => ?_
    refine b fun y51 h52 => ?_
    refine b fun r53 h54 => ?_
    refine b fun y55 h56 => ?_
    refine sd ?_
    apply zd [[], [], [], [], []]
    refine dd [] (fun _ _ _ _ => c0 (c_retrospectref20_within @ih _ h42)) ?_
    apply zd [[], [], [100], [100], [], [100], [100], []]
    refine dx [81, 84, 87] [] (fun st mm ⟨a81, a84, a87, _⟩ _ => og (slS h46 Tryz.underlying9 rfl (a81.trans rfl) (bnd (a84.trans rfl)) (bnd (a87.trans rfl)))) ?_
    apply zd [[], [], [], [], [], [], [], []]
    refine dd [] (fun _ _ _ _ => c0 (c_retrospectref20_within @ih _ h54)) ?_
    apply zd [[], []]
    refine de fol ?_
    apply z [4, 8]
    exact rt []
theorem c_retrospectlaw20_ShowExprs {n : Nat} {x0} {x1} : ∀ r, m_retrospectlaw20_ShowExprs n x0 x1 = some r → FnOk Tryz.prog 5 [sli 3 (List.map L_retrospectref17_Node x0), sli 1 (List.map str x1)] [] (bl r) [] := by
 unfold m_retrospectlaw20_ShowExprs
 refine fs Tryz.func5 fun w S0 γ hγ => ?_
 apply z [2, 31, 1, 5]
 refine sjq (fun s5 => [(0, sli 3 (List.map L_retrospectref17_Node x0)), (1, sli 1 (List.map str x1)), (4, bl false), (16, bl s5)]) (fun s5 => []) ?_ ?_
 · intro j3 hj4
   apply z [6, 30]
   refine cb (ca c_retrospectref17_Long) fun r6 => ?_
   apply z [30]
   refine sifd 12 rfl ?_ ?_
   · apply z [23, 23, 23, 38, 1]
     exact sj (hj4 _) eI
   apply z [22, 22, 22, 37, 1]
   exact sj (hj4 _) eI
 intro s5
 refine c ?_ ?_
 · apply z [2]
   refine cb (ca c_retrospectlaw20_works) fun r8 => ?_
   apply z [31, 1, 8, 10]
   exact rt []
 apply z [9, 4, 5, 2, 31, 1, 7]
 refine sloopE 0 Lp.go (fun s22 => [(0, sli 3 (List.map L_retrospectref17_Node x0)), (1, sli 1 (List.map str x1)), (4, bl false), (5, i64 s22)]) (fun s22 => []) (fun t20 => [(0, sli 3 (List.map L_retrospectref17_Node x0)), (1, sli 1 (List.map str x1)), (4, bl false)]) (fun t20 => []) eI ?_ ?_
 · intro hj21 s22
   apply z [5, 2, 30, 30, 39, 46, 1]
   refine c ?_ ?_
   · apply z [9, 4, 5, 7, 2, 30, 30]
     refine b fun y23 h24 => ?_
     apply z [43, 42, 54, 47, 1]
     refine c ?_ ?_
     · apply z [2]
       refine cb (ca c_retrospectlaw20_works) fun r25 => ?_
       apply z [31, 1, 8, 12, 10]
       refine sU ?_
       apply z [12, 10]
       exact rt []
     apply z [9, 11, 4, 6, 30, 40, 31, 3]
     exact sgo eI
   apply z [14, 15]
   exact su (sj (hj21 _) eI)
 intro t20
 refine slpk ?_
 apply z [13, 4, 2, 30]
 refine cb (ca c_retrospectlaw17_To) fun r27 => ?_
 apply z [31, 1, 2, 30, 30]
 refine cb (ca c_show_Expr) fun r29 => ?_
 apply z [30, 35, 35, 31, 31, 1, 2, 30, 30, 39]
 refine cb (ca c_retrospectref19_Place) fun r31 => ?_
 apply z [46, 31, 1, 5]
 refine sjq (fun s39 => [(0, sli 3 (List.map L_retrospectref17_Node x0)), (1, sli 1 (List.map str x1)), (4, bl false), (7, str r29.1), (9, bl (decide (r31 < (0 : Int)))), (53, bl s39)]) (fun s39 => []) ?_ ?_
 · intro j37 hj38
   apply z [6, 30]
   refine cb (ca c_show_Rank) fun r40 => ?_
   apply z [30]
   refine cb (ca c_retrospectref20_Rank) fun r42 => ?_
   apply z [56, 30]
   refine sifd 49 rfl ?_ ?_
   · apply z [23, 23, 23, 38, 1]
     exact sj (hj38 _) eI
   apply z [22, 22, 22, 37, 1]
   exact sj (hj38 _) eI
 intro s39
 refine c ?_ ?_
 · apply z [2, 31, 1, 8, 10]
   exact rt []
 apply z [9, 4, 5, 2, 30, 44, 1]
 refine c ?_ ?_
 · refine sjq (fun s48 => [(0, sli 3 (List.map L_retrospectref17_Node x0)), (1, sli 1 (List.map str x1)), (4, bl s48), (7, str r29.1)]) (fun s48 => []) ?_ ?_
   · intro j46 hj47
     apply z [6, 30, 72, 30]
     refine sifd 58 rfl ?_ ?_
     · refine b fun r49 h50 => ?_
       refine og' (c0 (c_retrospectlaw20_works _ h50)) ?_
       apply z [38, 31, 1]
       exact sj (hj47 _) eI
     apply z [23, 37, 31, 1]
     exact sj (hj47 _) eI
   intro s48
   apply z [8, 10]
   exact rt []
 apply z [9, 4]
 refine sjq (fun s57 => [(4, bl s57)]) (fun s57 => []) ?_ ?_
 · intro j55 hj56
   apply z [6, 30, 30, 30]
   refine cb (ca c_retrospectref20_Write) fun r58 => ?_
   apply z [72, 30]
   refine sifd 66 rfl ?_ ?_
   · refine b fun r60 h61 => ?_
     refine og' (c0 (c_retrospectlaw20_works _ h61)) ?_
     apply z [38, 31, 1]
     exact sj (hj56 _) eI
   apply z [23, 37, 31, 1]
   exact sj (hj56 _) eI
 intro s57
 apply z [8]
 exact rt []
theorem c_retrospectref17_LongField {n : Nat} {x0} {x1} {x2} {x3} : ∀ r, m_retrospectref17_LongField n x0 x1 x2 x3 = some r → FnOk Tryz.prog 27 [L_retrospectref17_Field x0, i64 x1, i64 x2, i64 x3] [] (bl r) [] := by
 unfold m_retrospectref17_LongField
 refine fs Tryz.func27 fun w S0 γ hγ => ?_
 apply z [2]
 refine o (bx' 100) ?_
 apply z [31, 1, 5]
 refine sjq (fun s3 => [(2, i64 x2), (3, i64 x3), (4, .own 100), (8, bl false), (22, bl s3)]) (fun s3 => [(100, .bx 34 (L_retrospectref17_Field x0))]) ?_ ?_
 · intro j1 hj2
   apply z [6, 33, 36, 39, 30, 47, 30]
   refine sifd 16 rfl ?_ ?_
   · apply z [23, 23, 23, 23, 23, 38, 1]
     exact sj (hj2 _) (eR [(100, 100)])
   apply z [22, 22, 22, 22, 22, 37, 1]
   exact sj (hj2 _) (eR [(100, 100)])
 intro s3
 refine c ?_ ?_
 · apply z [2, 31, 1, 8, 10]
   exact rt []
 apply z [9, 4, 5, 2, 31, 1, 7]
 refine sloopE 0 Lp.go (fun s38 => [(2, i64 x2), (3, i64 x3), (4, .own 100), (8, bl false), (9, i64 s38)]) (fun s38 => [(100, .bx 34 (L_retrospectref17_Field x0))]) (fun t36 => [(2, i64 x2), (3, i64 x3), (4, .own 100), (8, bl false)]) (fun t36 => [(100, .bx 34 (L_retrospectref17_Field x0))]) (eR [(100, 100)]) ?_ ?_
 · intro hj37 s38
   apply z [5, 2, 30, 33, 36, 39, 46, 1]
   refine c ?_ ?_
   · apply z [9, 4, 5, 7]
     refine sjq (fun s47 => [(2, i64 x2), (3, i64 x3), (4, .own 100), (8, bl false), (9, i64 s38), (48, bl s47)]) (fun s47 => [(100, .bx 34 (L_retrospectref17_Field x0))]) ?_ ?_
     · intro j45 hj46
       apply z [6, 33, 36, 30]
       refine b fun y48 h49 => ?_
       apply z [43, 92, 42, 54, 47, 30]
       refine sifd 38 rfl ?_ ?_
       · apply z [23, 23, 23, 23, 23, 23, 23, 23, 23, 38, 1]
         exact sj (hj46 _) (eR [(100, 100)])
       apply z [22, 22, 22]
       refine b fun y50 h51 => ?_
       apply z [22, 22, 22, 22, 22]
       refine b fun r52 h53 => ?_
       refine og' (c0 (c_retrospectref17_Long _ h53)) ?_
       apply z [37, 1]
       exact sj (hj46 _) (eR [(100, 100)])
     intro s47
     refine c ?_ ?_
     · apply z [2, 31, 1, 8, 12, 10]
       refine sU ?_
       apply z [12, 10]
       exact rt []
     apply z [9, 11, 4, 6, 30, 40, 31, 3]
     exact sgo (eR [(100, 100)])
   apply z [14, 15]
   exact su (sj (hj37 _) (eR [(100, 100)]))
 intro t36
 refine slpk ?_
 apply z [13, 4, 5, 2, 31, 1, 7]
 refine sloopE 2 Lp.go (fun s66 => [(2, i64 x2), (3, i64 x3), (4, .own 100), (8, bl false), (10, i64 s66)]) (fun s66 => [(100, .bx 34 (L_retrospectref17_Field x0))]) (fun t64 => [(8, bl false)]) (fun t64 => []) (eR [(100, 100)]) ?_ ?_
 · intro hj65 s66
   apply z [5, 2, 30, 33, 36, 39, 46, 1]
   refine c ?_ ?_
   · apply z [9, 4, 5, 7, 2, 33, 36, 30]
     refine b fun y67 h68 => ?_
     apply z [43, 42, 30, 30]
     refine cb (ca c_retrospectref17_Long) fun r69 => ?_
     apply z [1]
     refine c ?_ ?_
     · apply z [2, 31, 1, 8, 12, 10]
       refine sU ?_
       apply z [12, 10]
       exact rt []
     apply z [9, 11, 4, 6, 30, 40, 31, 3]
     exact sgo (eR [(100, 100)])
   apply z [14, 15]
   exact su (sj (hj65 _) (eR []))
 intro t64
 refine slpk ?_
 apply z [13, 4, 2, 31, 1, 8]
 exact rt []
theorem c_retrospectlaw17_ToField {n : Nat} {x0} : ∀ r, m_retrospectlaw17_ToField n x0 = some r → FnOk Tryz.prog 29 [L_retrospectref17_Field x0] [] (L_tree_Field r) [] := by
 unfold m_retrospectlaw17_ToField
 refine fs Tryz.func29 fun w S0 γ hγ => ?_
 apply z [2]
 refine o (bx' 100) ?_
 refine o (al' 101) ?_
 apply z [1, 2]
 refine so (alOw (y := 102) (ly := .agg [.own 103, .own 104]) [(103, 85, 2), (104, 42, 1)] ti_26.h (zo_agg (zos_cons (c1 := [.slice none 0 0]) (zo_own rfl) (zos_cons (c1 := [.slice none 0 0]) (zo_own rfl) (zos_nil)))) ⟨rfl, rfl, trivial⟩ rfl rfl rfl) ?_
 apply z [1, 5, 2, 31, 1, 7]
 refine sloopE 0 (fun t => t) (fun s12 => [(1, .own 100), (2, .own 101), (3, .own 102), (4, i64 s12.2)]) (fun s12 => [(100, .bx 34 (L_retrospectref17_Field x0)), (101, .bx 26 (L_tree_Field (⟨[], []⟩ : M_tree_Field))), (102, .bx 26 (.agg [.own 103, .own 104])), (103, .sl 85 2 (List.map L_tree_Let s12.1)), (104, .sl 42 1 (List.map L_S_tree_Node ([] : List (List M_tree_Node))))]) (fun t10 => [(1, .own 100), (2, .own 101), (3, .own 102)]) (fun t10 => [(100, .bx 34 (L_retrospectref17_Field x0)), (101, .bx 26 (L_tree_Field (⟨[], []⟩ : M_tree_Field))), (102, .bx 26 (.agg [.own 103, .own 104])), (103, .sl 85 2 (List.map L_tree_Let t10)), (104, .sl 42 1 (List.map L_S_tree_Node ([] : List (List M_tree_Node))))]) (eR [(100, 100), (101, 101), (102, 102), (103, 103), (104, 104)]) ?_ ?_
 · intro hj11 s12
   apply z [5, 2, 30, 33, 36, 39, 46, 1]
   refine c ?_ ?_
   · apply z [9, 4, 5, 7]
     refine b fun y13 h14 => ?_
     refine b fun y15 h16 => ?_
     refine b fun r17 h18 => ?_
     refine b fun y19 h20 => ?_
     refine sd ?_
     apply zd [[102], [102], [100], [100], []]
     refine dx [16, 17] [] (fun st mm ⟨a16, a17, _⟩ _ => og (ixR (f := L_retrospectref17_Let) Tryz.underlying31 ti_82.h h14 rfl (a16.trans rfl) (a17.trans rfl))) ?_
     apply zd [[], [], [100], [100], []]
     refine dx [22, 23] [] (fun st mm ⟨a22, a23, _⟩ _ => og (ixR (f := L_retrospectref17_Let) Tryz.underlying31 ti_82.h h16 rfl (a22.trans rfl) (a23.trans rfl))) ?_
     apply zd [[], []]
     refine dd [] (fun _ _ _ _ => c0 (c_retrospectlaw17_To _ h18)) ?_
     refine dx [20, 27] [] (fun st mm ⟨a20, a27, _⟩ _ => og (bld (l := [str y13.Name, sli 3 (List.map L_tree_Node r17)]) pl_85.h ti_85.h zr_tree_Let ⟨_, _, _, (a20.trans rfl), rfl, rfl, rfl, (szk (k := 1) rfl rfl), ⟨_, _, _, (a27.trans rfl), rfl, rfl, rfl, (szk (k := 1) rfl rfl), rfl⟩⟩ rfl)) ?_
     refine dx [28] [105] (fun st mm ⟨a28, _⟩ ⟨g105, _⟩ => og (bsl (y := 105) (ls := List.map L_tree_Let ([(⟨y13.Name, r17⟩ : M_tree_Let)] : List M_tree_Let)) Tryz.underlying23 ti_85.h rfl rfl rfl rfl rfl ⟨rfl, (a28.trans rfl), (by exact rfl), (by exact rfl), trivial⟩ (g105.trans rfl) rfl)) ?_
     refine dd [103, 105, 106] (fun _ _ _ _ => app' 106) ?_
     apply zd [[102]]
     refine dd [102] (fun _ _ _ _ => stP (.agg [.own 106, .own 104]) [0]) ?_
     refine de fol ?_
     apply z [11, 4, 6, 30, 40, 31, 3]
     exact sgo (eR [(100, 100), (101, 101), (102, 102), (103, 106), (104, 104)])
   apply z [14, 15]
   exact su (sj (hj11 _) (eR [(100, 100), (101, 101), (102, 102), (103, 103), (104, 104)]))
 intro t10
 apply z [13, 4, 5, 2, 31, 1, 7]
 refine sloopE 2 (fun t => t) (fun s37 => [(1, .own 100), (2, .own 101), (3, .own 102), (5, i64 s37.2)]) (fun s37 => [(100, .bx 34 (L_retrospectref17_Field x0)), (101, .bx 26 (L_tree_Field (⟨[], []⟩ : M_tree_Field))), (102, .bx 26 (.agg [.own 103, .own 104])), (103, .sl 85 2 (List.map L_tree_Let t10)), (104, .sl 42 1 (List.map L_S_tree_Node s37.1))]) (fun t35 => [(2, .own 101), (3, .own 102)]) (fun t35 => [(101, .bx 26 (L_tree_Field (⟨[], []⟩ : M_tree_Field))), (102, .bx 26 (.agg [.own 103, .own 104])), (103, .sl 85 2 (List.map L_tree_Let t10)), (104, .sl 42 1 (List.map L_S_tree_Node t35))]) (eR [(100, 100), (101, 101), (102, 102), (103, 103), (104, 104)]) ?_ ?_
 · intro hj36 s37
   apply z [5, 2, 30, 33, 36, 39, 46, 1]
   refine c ?_ ?_
   · apply z [9, 4, 5, 7]
     refine b fun y38 h39 => ?_
     refine b fun r40 h41 => ?_
     refine b fun y42 h43 => ?_
     refine sd ?_
     apply zd [[102], [102], [100], [100], [], [], []]
     refine dd [] (fun _ _ _ _ => c0 (c_retrospectlaw17_To _ h41)) ?_
     refine dx [46] [105] (fun st mm ⟨a46, _⟩ ⟨g105, _⟩ => og (bsl (y := 105) (ls := List.map L_S_tree_Node ([r40] : List (List M_tree_Node))) Tryz.underlying24 ti_42.h rfl rfl rfl rfl rfl ⟨rfl, (a46.trans rfl), (by exact rfl), (by exact rfl), trivial⟩ (g105.trans rfl) rfl)) ?_
     refine dd [104, 105, 106] (fun _ _ _ _ => app' 106) ?_
     apply zd [[102]]
     refine dd [102] (fun _ _ _ _ => stP (.agg [.own 103, .own 106]) [1]) ?_
     refine de fol ?_
     apply z [11, 4, 6, 30, 40, 31, 3]
     exact sgo (eR [(100, 100), (101, 101), (102, 102), (103, 103), (104, 106)])
   apply z [14, 15]
   exact su (sj (hj36 _) (eR [(101, 101), (102, 102), (103, 103), (104, 104)]))
 intro t35
 apply z [13, 4, 2, 32, 34, 1, 8]
 refine fz 103 [50] [101, 102] ?_
 refine fz 104 [50] [101, 102] ?_
 exact rt []
theorem c_tree_copied {x0} : ∀ r, m_tree_copied x0 = some r → FnOk Tryz.prog 154 [sli 3 (List.map L_tree_Node x0)] [] (sli 3 (List.map L_tree_Node r)) [] := by
 unfold m_tree_copied
 refine fs Tryz.func154 fun w S0 γ hγ => ?_
 apply z [2]
 refine s1 (asg rfl (kLm (k := 3) L_tree_Node)) ?_
 apply z [1, 2]
 refine so (asgN (y := 100) (E := 69) (k := 3) rfl rfl) ?_
 apply z [1, 5, 2, 30, 39, 30, 1, 7]
 refine srN (fun s18 => [(2, sli 3 (List.map L_tree_Node ([] : List M_tree_Node))), (3, .own 100), (6, sli 3 (List.map L_tree_Node x0))]) (fun s18 => [(100, .sl 69 3 (List.map L_tree_Node s18))]) (rE (eR [(100, 100)])) ?_ ?_
 · intro i19 x20 s18 hx21
   apply z [7, 2, 43, 42]
   refine o (al' 101) ?_
   apply z [34, 1]
   refine b fun y22 h23 => ?_
   refine b fun y24 h25 => ?_
   refine sd ?_
   apply zd [[], [101], [101], [101], [101], [101], [101]]
   refine dx [18] [102] (fun st mm ⟨a18, _⟩ ⟨g102, _⟩ => og (toV (appN (y := 102) (f := u32) h23 Tryz.underlying67 ti_127.h rfl rfl (a18.trans rfl) (.inl rfl) (g102.trans rfl) rfl) (ifs_map (f := u32) (fun _ => if_u32) y22))) ?_
   refine dx [14, 16, 19] [] (fun st mm ⟨a14, a16, a19, _⟩ _ => og (bld (l := [i64 x20.Op, i64 x20.I, sli 1 (List.map u32 y22)]) pl_69.h ti_69.h zr_tree_Node ⟨_, _, _, (a14.trans rfl), rfl, rfl, rfl, (szk (k := 1) rfl rfl), ⟨_, _, _, (a16.trans rfl), rfl, rfl, rfl, (szk (k := 1) rfl rfl), ⟨_, _, _, (a19.trans rfl), rfl, rfl, rfl, (szk (k := 1) rfl rfl), rfl⟩⟩⟩ rfl)) ?_
   refine dx [20] [103] (fun st mm ⟨a20, _⟩ ⟨g103, _⟩ => og (bsl (y := 103) (ls := List.map L_tree_Node ([(⟨x20.Op, x20.I, y22⟩ : M_tree_Node)] : List M_tree_Node)) Tryz.underlying42 ti_69.h rfl rfl rfl rfl rfl ⟨rfl, (a20.trans rfl), (by exact rfl), (by exact rfl), trivial⟩ (g103.trans rfl) rfl)) ?_
   refine dd [100, 103, 104] (fun _ _ _ _ => app' 104) ?_
   apply zd [[]]
   refine de fol ?_
   apply z [11]
   exact sgo (eR [(100, 104)])
 intro s26
 apply z [13, 4, 2, 30, 31, 1, 8]
 refine fz 100 [2, 3, 24] [] ?_
 exact rt []
theorem c_tree_Codes {x0} : ∀ r, m_tree_Codes x0 = some r → FnOk Tryz.prog 128 [L_tree_Field x0] [] (sli 1 (List.map L_S_tree_Node r)) [] := by
 unfold m_tree_Codes
 refine fs Tryz.func128 fun w S0 γ hγ => ?_
 apply z [2]
 refine o (bx' 100) ?_
 refine s1 (asg rfl (kLm (k := 1) L_S_tree_Node)) ?_
 apply z [1, 2]
 refine so (asgN (y := 101) (E := 42) (k := 1) rfl rfl) ?_
 apply z [1, 5, 2, 33, 36, 39, 30, 1, 7]
 refine srN (fun s18 => [(1, .own 100), (2, sli 1 (List.map L_S_tree_Node ([] : List (List M_tree_Node)))), (3, .own 101), (9, sli 2 (List.map L_tree_Let x0.Lets))]) (fun s18 => [(100, .bx 26 (L_tree_Field x0)), (101, .sl 42 1 (List.map L_S_tree_Node s18))]) (rE (eR [(100, 100), (101, 101)])) ?_ ?_
 · intro i19 x20 s18 hx21
   apply z [7, 2, 43, 42]
   refine o (al' 102) ?_
   apply z [34, 1, 6, 30, 33, 36]
   refine cb (ca c_tree_copied) fun r22 => ?_
   refine so (bsl (y := 103) (ls := List.map L_S_tree_Node ([r22] : List (List M_tree_Node))) Tryz.underlying24 ti_42.h rfl rfl rfl rfl rfl ⟨rfl, rfl, (by exact rfl), (by exact rfl), trivial⟩ rfl rfl) ?_
   refine b fun y24 h25 => ?_
   refine o (app' 104) ?_
   apply z [31, 3, 11]
   exact sgo (eR [(100, 100), (101, 104)])
 intro s26
 apply z [13, 4, 5, 2, 33, 36, 39, 30, 1, 7]
 refine srN (fun s44 => [(2, sli 1 (List.map L_S_tree_Node ([] : List (List M_tree_Node)))), (3, .own 101), (23, sli 1 (List.map L_S_tree_Node x0.Outs))]) (fun s44 => [(101, .sl 42 1 (List.map L_S_tree_Node s44))]) (rE (eR [(101, 101)])) ?_ ?_
 · intro i45 x46 s44 hx47
   apply z [7, 2, 43, 42, 31, 1, 6, 30, 30]
   refine cb (ca c_tree_copied) fun r48 => ?_
   refine so (bsl (y := 102) (ls := List.map L_S_tree_Node ([r48] : List (List M_tree_Node))) Tryz.underlying24 ti_42.h rfl rfl rfl rfl rfl ⟨rfl, rfl, (by exact rfl), (by exact rfl), trivial⟩ rfl rfl) ?_
   refine b fun y50 h51 => ?_
   refine o (app' 103) ?_
   apply z [31, 3, 11]
   exact sgo (eR [(101, 103)])
 intro s52
 apply z [13, 4, 2, 30, 31, 1, 8]
 refine fz 101 [2, 3, 35] [] ?_
 exact rt []
theorem c_tree_Size {x0} : ∀ r, m_tree_Size x0 = some r → FnOk Tryz.prog 99 [L_tree_Field x0] [] (i64 r) [] := by
 unfold m_tree_Size
 refine fs Tryz.func99 fun w S0 γ hγ => ?_
 apply z [2]
 refine o (bx' 100) ?_
 apply z [31, 1, 2, 31, 1, 5, 2, 32]
 refine cb (ca c_tree_Codes) fun r1 => ?_
 apply z [39, 30, 1, 7]
 refine srN (fun s12 => [(2, i64 (0 : Int)), (3, i64 s12), (7, sli 1 (List.map L_S_tree_Node r1))]) (fun s12 => []) (rE (eR [])) ?_ ?_
 · intro i13 x14 s12 hx15
   apply z [7, 2, 43, 42, 31, 1, 6, 30, 30, 39, 40, 31, 3, 11]
   exact sgo eI
 intro s16
 apply z [13, 4, 2, 30, 31, 1, 8]
 exact rt []
theorem c_check_whole {x0} {x1} {x2} : ∀ r, m_check_whole x0 x1 x2 = some r → FnOk Tryz.prog 62 [L_tree_Field x0, i64 x1, i64 x2] [] (bl r) [] := by
 unfold m_check_whole
 refine fs Tryz.func62 fun w S0 γ hγ => ?_
 apply z [2]
 refine o (bx' 100) ?_
 apply z [31, 1]
 refine sjq (fun s5 => [(6, bl s5)]) (fun s5 => []) ?_ ?_
 · intro j3 hj4
   apply z [6, 30, 57, 30]
   refine sifd 9 rfl ?_ ?_
   · apply z [22, 22, 38, 30]
     refine sifd 13 rfl ?_ ?_
     · apply z [22, 22, 38, 30]
       refine sifd 17 rfl ?_ ?_
       · apply z [22, 22, 38, 30]
         refine sifd 21 rfl ?_ ?_
         · apply z [22, 22, 22, 22, 22, 38, 30]
           refine sifd 28 rfl ?_ ?_
           · apply z [22, 22, 22, 22, 38, 30]
             refine sifd 34 rfl ?_ ?_
             · apply z [22]
               refine b fun r6 h7 => ?_
               refine og' (c0 (c_tree_Size _ h7)) ?_
               apply z [22, 38, 31, 1]
               exact sj (hj4 _) (eR [])
             apply z [23, 23, 23, 37, 31, 1]
             exact sj (hj4 _) (eR [])
           apply z [23, 23, 23, 23, 37, 30, 23, 23, 23, 37, 31, 1]
           exact sj (hj4 _) (eR [])
         apply z [23, 23, 23, 23, 23, 37, 30, 23, 23, 23, 23, 37, 30, 23, 23, 23, 37, 31, 1]
         exact sj (hj4 _) (eR [])
       apply z [23, 23, 37, 30, 23, 23, 23, 23, 23, 37, 30, 23, 23, 23, 23, 37, 30, 23, 23, 23, 37, 31, 1]
       exact sj (hj4 _) (eR [])
     apply z [23, 23, 37, 30, 23, 23, 37, 30, 23, 23, 23, 23, 23, 37, 30, 23, 23, 23, 23, 37, 30, 23, 23, 23, 37, 31, 1]
     exact sj (hj4 _) (eR [])
   apply z [23, 23, 37, 30, 23, 23, 37, 30, 23, 23, 37, 30, 23, 23, 23, 23, 23, 37, 30, 23, 23, 23, 23, 37, 30, 23, 23, 23, 37, 31, 1]
   exact sj (hj4 _) (eR [])
 intro s5
 apply z [8]
 exact rt []
theorem c_lex_Right {n : Nat} {x0} : ∀ r, m_lex_Right n x0 = some r → FnOk Tryz.prog 100 [L_lex_Word x0] [] (bl r) [] := by
 unfold m_lex_Right
 refine fs Tryz.func100 fun w S0 γ hγ => ?_
 apply z [2]
 refine o (bx' 100) ?_
 apply z [31, 1, 5]
 refine sjq (fun s9 => [(1, .own 100), (2, bl false), (19, bl s9)]) (fun s9 => [(100, .bx 156 (L_lex_Word x0))]) ?_ ?_
 · intro j7 hj8
   refine sif (fun hb10 => ?_) (fun hb10 => ?_)
   · refine sd ?_
     apply zd [[100], [100], []]
     refine dd [] (fun _ _ _ _ => obk hb10 ops) ?_
     apply zd [[], [], [], [], [], [], [], [], [], [], [], [], []]
     refine de fol ?_
     apply z [4]
     exact sj (hj8 _) (eR [(100, 100)])
   refine sif (fun hb11 => ?_) (fun hb11 => ?_)
   · refine sd ?_
     apply zd [[100], [100], []]
     refine dd [] (fun _ _ _ _ => obk hb10 ops) ?_
     apply zd [[100], [100], [], []]
     refine dd [] (fun _ _ _ _ => obk hb11 ops) ?_
     apply zd [[], [], [], [], [], [], [], []]
     refine de fol ?_
     apply z [4]
     exact sj (hj8 _) (eR [(100, 100)])
   refine b fun y12 h13 => ?_
   refine b fun r14 h15 => ?_
   refine sd ?_
   apply zd [[100], [100], []]
   refine dd [] (fun _ _ _ _ => obk hb10 ops) ?_
   apply zd [[100], [100], [], []]
   refine dd [] (fun _ _ _ _ => obk hb11 ops) ?_
   apply zd [[100], [100], []]
   refine dG [] (fun _ _ _ _ => c0 (c_lex_kind _ h15)) ?_
   apply zd [[100], [100], [], []]
   refine de fol ?_
   apply z [4]
   exact sj (hj8 _) (eR [(100, 100)])
 intro s9
 refine c ?_ ?_
 · apply z [2, 31, 1, 8, 10]
   exact rt []
 apply z [9, 4]
 refine sjq (fun s23 => [(2, bl s23)]) (fun s23 => []) ?_ ?_
 · intro j21 hj22
   refine b fun r24 h25 => ?_
   refine sif (fun hb26 => ?_) (fun hb26 => ?_)
   · refine b fun r27 h28 => ?_
     refine sd ?_
     apply zd [[100], [100], [100], [100]]
     refine dd [] (fun _ _ _ _ => c0 (c_lex_first _ h25)) ?_
     apply zd [[100], [100], [], []]
     refine dd [] (fun _ _ _ _ => obk hb26 ops) ?_
     apply zd [[100], [100], [], [100], [100]]
     refine dG [] (fun _ _ _ _ => c0 (c_lex_most _ h28)) ?_
     apply zd [[], [], []]
     refine de fol ?_
     apply z [4]
     exact sj (hj22 _) (eR [])
   refine sd ?_
   apply zd [[100], [100], [100], [100]]
   refine dd [] (fun _ _ _ _ => c0 (c_lex_first _ h25)) ?_
   apply zd [[100], [100], [], []]
   refine dd [] (fun _ _ _ _ => obk hb26 ops) ?_
   apply zd [[], [], [], [], [], [], [], [], []]
   refine de fol ?_
   apply z [4]
   exact sj (hj22 _) (eR [])
 intro s23
 apply z [8]
 exact rt []
theorem c_check_Name {n : Nat} {x0} : ∀ r, m_check_Name n x0 = some r → FnOk Tryz.prog 63 [str x0] [] (bl r) [] := by
 unfold m_check_Name
 refine fs Tryz.func63 fun w S0 γ hγ => ?_
 apply z [2, 31, 1, 5, 2, 30, 1, 7]
 refine sjq (fun s3 => [(0, str x0), (2, bl false), (4, bl s3)]) (fun s3 => []) ?_ ?_
 · intro j1 hj2
   apply z [2, 72, 31, 1]
   refine c ?_ ?_
   · apply z [9, 4]
     exact sj (hj2 _) eI
   apply z [2, 72, 31, 1]
   refine c ?_ ?_
   · apply z [9, 4]
     exact sj (hj2 _) eI
   apply z [2, 72, 31, 1]
   refine c ?_ ?_
   · apply z [9, 4]
     exact sj (hj2 _) eI
   apply z [6, 72, 31, 1]
   exact sj (hj2 _) eI
 intro s3
 refine c ?_ ?_
 · apply z [2, 31, 1, 8, 12, 10]
   exact rt []
 apply z [9, 11, 4, 2, 30]
 refine s1 (bld (l := [i64 (2 : Int), str x0, i64 0]) pl_156.h ti_156.h zr_lex_Word ⟨_, _, _, (kI (x := 2) rfl), rfl, rfl, rfl, (szk (k := 1) rfl rfl), ⟨_, _, _, rfl, rfl, rfl, rfl, (szk (k := 1) rfl rfl), rfl⟩⟩ rfl) ?_
 refine cb (ca c_lex_Right) fun r4 => ?_
 apply z [31, 1, 8]
 exact rt []
theorem c_check_twice {n : Nat} {x0} {x1} : ∀ r, m_check_twice n x0 x1 = some r → FnOk Tryz.prog 64 [sli 2 (List.map L_tree_Let x0), i64 x1] [] (bl r) [] := by
 unfold m_check_twice
 refine fs Tryz.func64 fun w S0 γ hγ => ?_
 apply z [2, 31, 1, 5, 2, 30, 30, 1, 7]
 refine sloopE 0 Lp.go (fun s13 => [(0, sli 2 (List.map L_tree_Let x0)), (1, i64 x1), (4, bl false), (6, i64 x1), (7, i64 s13)]) (fun s13 => []) (fun t11 => [(4, bl false)]) (fun t11 => []) eI ?_ ?_
 · intro hj12 s13
   apply z [2, 46, 1, 5]
   refine c ?_ ?_
   · apply z [9, 4, 5, 7, 2, 30, 31, 1, 5]
     refine b fun y14 h15 => ?_
     refine b fun y16 h17 => ?_
     refine sd ?_
     apply zd [[], [], [], [], [], [], [], [], [], [], []]
     refine de fol ?_
     apply z [4]
     refine c ?_ ?_
     · apply z [2, 31, 1, 8, 12, 10]
       refine sU ?_
       apply z [12, 10]
       exact rt []
     apply z [9, 11, 4, 6, 40, 30, 3]
     exact sgo eI
   apply z [14, 15]
   exact su (sj (hj12 _) eI)
 intro t11
 refine slpk ?_
 apply z [13, 4, 2, 31, 1, 8]
 exact rt []
theorem c_tree_Depth {n : Nat} {x0} : ∀ r, m_tree_Depth n x0 = some r → FnOk Tryz.prog 101 [sli 3 (List.map L_tree_Node x0)] [] (i64 r) [] := by
 unfold m_tree_Depth
 refine fs Tryz.func101 fun w S0 γ hγ => ?_
 apply z [2, 31, 1, 5, 2, 30]
 refine cb (ca c_tree_Right) fun r1 => ?_
 apply z [44, 1]
 refine c ?_ ?_
 · apply z [2, 31, 1, 8, 10]
   exact rt []
 apply z [9, 4, 2]
 refine so (asgN (y := 100) (E := 3) (k := 1) rfl rfl) ?_
 apply z [1, 5, 2, 30, 39, 30, 1, 7]
 refine srN (fun s49 => [(2, i64 (0 : Int)), (3, .own 100), (10, sli 3 (List.map L_tree_Node x0))]) (fun s49 => [(100, .sl 3 1 (List.map i64 s49))]) (rE (eR [(100, 100)])) ?_ ?_
 · intro i50 x51 s49 hx52
   apply z [7, 2, 43, 42]
   refine o (al' 101) ?_
   apply z [34, 1, 2, 31, 1, 5, 2, 33, 36]
   refine cb (ca c_tree_Arity) fun r53 => ?_
   apply z [30, 1, 7]
   refine sloopE 2 (fun t => t) (fun s62 => [(2, i64 (0 : Int)), (3, .own 100), (6, i64 s62.2.1), (10, sli 3 (List.map L_tree_Node x0)), (11, i64 (x0.length : Int)), (12, i64 (i50 : Int)), (18, i64 r53), (19, i64 s62.2.2)]) (fun s62 => [(100, .sl 3 1 (List.map i64 s62.1))]) (fun t60 => [(2, i64 (0 : Int)), (3, .own 100), (6, i64 t60.2), (10, sli 3 (List.map L_tree_Node x0)), (11, i64 (x0.length : Int)), (12, i64 (i50 : Int))]) (fun t60 => [(100, .sl 3 1 (List.map i64 t60.1))]) (eR [(100, 100)]) ?_ ?_
   · intro hj61 s62
     apply z [2, 46, 1, 5]
     refine c ?_ ?_
     · apply z [9, 4, 5, 7, 2, 30, 30, 30, 55, 49]
       refine b fun y63 h64 => ?_
       apply z [50, 51, 88, 31, 1, 6, 30, 30, 55, 49]
       refine b fun y65 h66 => ?_
       refine so (slO (y := 102) (f := i64) h66 rfl Tryz.underlying172 ti_3.h rfl rfl (bnd rfl) rfl) ?_
       apply z [31, 3, 11, 4, 6, 40, 30, 3]
       exact sgo (eR [(100, 102)])
     apply z [14, 15]
     exact su (sj (hj61 _) (eR [(100, 100)]))
   intro t60
   apply z [13, 4, 6, 30, 30, 40]
   refine so (bsl (y := 102) (ls := List.map i64 ([wrap64 (t60.2 + (1 : Int))] : List Int)) Tryz.underlying172 ti_3.h rfl rfl rfl rfl rfl ⟨rfl, rfl, (by exact rfl), (by exact rfl), trivial⟩ rfl rfl) ?_
   refine b fun y67 h68 => ?_
   refine o (app' 103) ?_
   apply z [31, 3, 11]
   exact sgo (eR [(100, 103)])
 intro s69
 apply z [13, 4, 2, 30]
 refine b fun y70 h71 => ?_
 apply z [50, 51, 31, 1, 8]
 exact rt []
theorem c_check_part {n : Nat} {x0} {x1} {x2} {x3} {x4} : ∀ r, m_check_part n x0 x1 x2 x3 x4 = some r → FnOk Tryz.prog 65 [sli 3 (List.map L_tree_Node x0), i64 x1, i64 x2, i64 x3, i64 x4] [] (L_api_Fault r) [] := by
 unfold m_check_part
 refine fs Tryz.func65 fun w S0 γ hγ => ?_
 apply z [2]
 refine o (al' 100) ?_
 apply z [1, 2, 30, 30, 30, 30]
 refine cb (ca c_check_Place) fun r1 => ?_
 apply z [31, 1]
 refine sjq (fun s12 => [(1, i64 x1), (10, .own 100), (11, i64 s12)]) (fun s12 => [(100, .bx 28 (L_api_Fault (⟨0, 0, 0, 0⟩ : M_api_Fault)))]) ?_ ?_
 · intro j10 hj11
   refine sjq (fun s17 => [(0, sli 3 (List.map L_tree_Node x0)), (1, i64 x1), (10, .own 100), (11, i64 r1), (23, bl s17)]) (fun s17 => [(100, .bx 28 (L_api_Fault (⟨0, 0, 0, 0⟩ : M_api_Fault)))]) ?_ ?_
   · intro j15 hj16
     apply z [6, 30, 46, 30]
     refine sifd 19 rfl ?_ ?_
     · apply z [22]
       refine b fun r18 h19 => ?_
       refine og' (c0 (c_tree_Depth _ h19)) ?_
       apply z [22, 38, 1]
       exact sj (hj16 _) (eR [(100, 100)])
     apply z [23, 23, 23, 37, 1]
     exact sj (hj16 _) (eR [(100, 100)])
   intro s17
   refine c ?_ ?_
   · apply z [6, 30, 39, 31, 1]
     exact sj (hj11 _) (eR [(100, 100)])
   apply z [9, 4]
   exact sj (hj11 _) (eR [(100, 100)])
 intro s12
 apply z [5, 2, 30, 46, 1]
 refine c ?_ ?_
 · apply z [2]
   refine s1 (bld (l := [i64 0, i64 0, i64 0, i64 0]) pl_28.h ti_28.h zr_api_Fault rfl rfl) ?_
   apply z [34, 1, 8, 10]
   exact rt []
 apply z [9, 4, 2, 30, 30]
 refine s1 (bld (l := [i64 (2 : Int), i64 x1, i64 0, i64 s12]) pl_28.h ti_28.h zr_api_Fault ⟨_, _, _, (kI (x := 2) rfl), rfl, rfl, rfl, (szk (k := 1) rfl rfl), ⟨_, _, _, rfl, rfl, rfl, rfl, (szk (k := 1) rfl rfl), ⟨_, _, _, rfl, rfl, rfl, rfl, (szk (k := 1) rfl rfl), rfl⟩⟩⟩ rfl) ?_
 apply z [34, 1, 8]
 exact rt []
theorem c_check_Check {n : Nat} {x0} {x1} {x2} : ∀ r, m_check_Check n x0 x1 x2 = some r → FnOk Tryz.prog 33 [L_tree_Field x0, i64 x1, i64 x2] [] (L_api_Fault r) [] := by
 unfold m_check_Check
 refine fs Tryz.func33 fun w S0 γ hγ => ?_
 apply z [2]
 refine o (bx' 100) ?_
 refine o (al' 101) ?_
 apply z [1, 5, 2, 32, 30, 30]
 refine cb (ca c_check_whole) fun r1 => ?_
 apply z [44, 1]
 refine c ?_ ?_
 · apply z [2]
   refine s1 (bld (l := [i64 (2 : Int), i64 0, i64 0, i64 0]) pl_28.h ti_28.h zr_api_Fault ⟨_, _, _, (kI (x := 2) rfl), rfl, rfl, rfl, (szk (k := 1) rfl rfl), rfl⟩ rfl) ?_
   apply z [34, 1, 8, 10]
   exact rt []
 apply z [9, 4, 5, 2, 33, 36, 39, 30, 1, 7]
 refine srN (fun s21 => [(1, i64 x1), (2, i64 x2), (3, .own 100), (6, .own 101), (20, sli 2 (List.map L_tree_Let x0.Lets))]) (fun s21 => [(100, .bx 26 (L_tree_Field x0)), (101, .bx 28 (L_api_Fault (⟨0, 0, 0, 0⟩ : M_api_Fault)))]) (rE (eR [(100, 100), (101, 101)])) ?_ ?_
 · intro i22 x23 s21 hx24
   apply z [7, 2, 30, 43, 42]
   refine o (al' 102) ?_
   apply z [31, 34, 1, 5]
   refine sjq (fun s31 => [(1, i64 x1), (2, i64 x2), (3, .own 100), (6, .own 101), (7, i64 (i22 : Int)), (8, .own 102), (20, sli 2 (List.map L_tree_Let x0.Lets)), (21, i64 (x0.Lets.length : Int)), (22, i64 (i22 : Int)), (36, bl s31)]) (fun s31 => [(100, .bx 26 (L_tree_Field x0)), (101, .bx 28 (L_api_Fault (⟨0, 0, 0, 0⟩ : M_api_Fault))), (102, .bx 85 (L_tree_Let x23))]) ?_ ?_
   · intro j29 hj30
     apply z [6, 33, 36]
     refine cb (ca c_check_Name) fun r32 => ?_
     apply z [44, 30]
     refine sifd 31 rfl ?_ ?_
     · apply z [23, 23, 23, 23, 38, 1]
       exact sj (hj30 _) (eR [(100, 100), (101, 101), (102, 102)])
     apply z [22, 22, 22]
     refine b fun r34 h35 => ?_
     refine og' (c0 (c_check_twice _ h35)) ?_
     apply z [37, 1]
     exact sj (hj30 _) (eR [(100, 100), (101, 101), (102, 102)])
   intro s31
   refine c ?_ ?_
   · apply z [2, 30, 40]
     refine s1 (bld (l := [i64 (2 : Int), i64 (wrap64 ((i22 : Int) + (1 : Int))), i64 (1 : Int), i64 0]) pl_28.h ti_28.h zr_api_Fault ⟨_, _, _, (kI (x := 2) rfl), rfl, rfl, rfl, (szk (k := 1) rfl rfl), ⟨_, _, _, rfl, rfl, rfl, rfl, (szk (k := 1) rfl rfl), ⟨_, _, _, (kI (x := 1) rfl), rfl, rfl, rfl, (szk (k := 1) rfl rfl), rfl⟩⟩⟩ rfl) ?_
     apply z [34, 1, 8, 10, 12]
     refine sU ?_
     apply z [12, 10]
     exact rt []
   apply z [9, 4, 2, 33, 36, 30, 40, 30, 30, 30]
   refine cb (ca c_check_part) fun r36 => ?_
   refine o (al' 103) ?_
   apply z [34, 1, 2, 32]
   refine s1 (bld (l := [i64 0, i64 0, i64 0, i64 0]) pl_28.h ti_28.h zr_api_Fault rfl rfl) ?_
   refine s1 (neA (p := (r36 : M_api_Fault)) (q := ((⟨0, 0, 0, 0⟩ : M_api_Fault) : M_api_Fault)) eq_28_2 rfl eg_28 rfl rfl rfl) ?_
   apply z [1]
   refine c ?_ ?_
   · apply z [2, 32, 34, 1, 8, 12]
     refine sU ?_
     apply z [12, 10]
     exact rt []
   apply z [9, 11]
   exact sgo (eR [(100, 100), (101, 101)])
 intro s38
 apply z [13, 4, 5, 2, 33, 36, 39, 30, 1, 7]
 refine srN (fun s46 => [(1, i64 x1), (2, i64 x2), (3, .own 100), (6, .own 101), (54, sli 1 (List.map L_S_tree_Node x0.Outs))]) (fun s46 => [(100, .bx 26 (L_tree_Field x0)), (101, .bx 28 (L_api_Fault (⟨0, 0, 0, 0⟩ : M_api_Fault)))]) (rE (eR [(100, 100), (101, 101)])) ?_ ?_
 · intro i47 x48 s46 hx49
   apply z [7, 2, 30, 43, 42, 31, 31, 1, 2, 30, 33, 36, 39, 30, 40, 40, 30, 30, 33, 36, 39]
   refine cb (ca c_check_part) fun r50 => ?_
   refine o (al' 102) ?_
   apply z [34, 1, 2, 32]
   refine s1 (bld (l := [i64 0, i64 0, i64 0, i64 0]) pl_28.h ti_28.h zr_api_Fault rfl rfl) ?_
   refine s1 (neA (p := (r50 : M_api_Fault)) (q := ((⟨0, 0, 0, 0⟩ : M_api_Fault) : M_api_Fault)) eq_28_2 rfl eg_28 rfl rfl rfl) ?_
   apply z [1]
   refine c ?_ ?_
   · apply z [2, 32, 34, 1, 8, 12]
     refine sU ?_
     apply z [12, 10]
     exact rt []
   apply z [9, 11]
   exact sgo (eR [(100, 100), (101, 101)])
 intro s52
 apply z [13, 4, 2]
 refine s1 (bld (l := [i64 0, i64 0, i64 0, i64 0]) pl_28.h ti_28.h zr_api_Fault rfl rfl) ?_
 apply z [34, 1, 8]
 exact rt []
end Go.Proofs.YtpomhkkhdojpiaaGreatDoor
