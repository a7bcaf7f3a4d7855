import Derived.Test.YtpomhkkhdojpiaaGreatDoorGen3
set_option maxRecDepth 100000
set_option maxHeartbeats 4000000
namespace Go.Proofs.YtpomhkkhdojpiaaGreatDoor
open Go Go.RowKit
theorem c_retrospectref19_Node {n : Nat} {x0} {x1} {x2} {x3} : ∀ r, m_retrospectref19_Node n x0 x1 x2 x3 = some r → FnOk Tryz.prog 50 [L_retrospectref17_Node x0, i64 x1, i64 x2, i64 x3] [] (bl r) [] := by
 unfold m_retrospectref19_Node
 refine fs Tryz.func50 fun w S0 γ hγ => ?_
 apply z [2]
 refine o (bx' 100) ?_
 apply z [31, 1, 5, 2, 33, 36, 41, 1]
 refine c ?_ ?_
 · refine sjq (fun s11 => [(1, i64 x1), (2, i64 x2), (3, i64 x3), (4, .own 100), (8, bl s11)]) (fun s11 => [(100, .bx 88 (L_retrospectref17_Node x0))]) ?_ ?_
   · intro j9 hj10
     refine sif (fun hb12 => ?_) (fun hb12 => ?_)
     · refine b fun r13 h14 => ?_
       refine b fun r15 h16 => ?_
       refine sif (fun hb17 => ?_) (fun hb17 => ?_)
       · refine b fun r18 h19 => ?_
         refine sd ?_
         apply zd [[100], [100], []]
         refine dd [] (fun _ _ _ _ => obk hb12 ops) ?_
         apply zd [[100], [100]]
         refine dG [101] (fun _ _ _ _ => cG (c_retrospectref02_Norm _ h14) [] [(101, 50)] []) ?_
         apply zd [[100], [100]]
         refine dx [15, 18, 20] [101] (fun st mm ⟨a15, a18, a20, _⟩ ⟨g101, _⟩ => ogG 15 rfl (a15.trans rfl) (callL (em := []) [101] [] [] [] rfl (c_retrospectref02_Same _ h16) trivial (pl_bl) ⟨.inr ⟨101, rfl, .inl ⟨(a18.trans rfl), .inl ⟨_, _, _, (g101.trans rfl), ifs_map (f := u32) (fun _ => if_u32) r13, rfl⟩⟩⟩, .inl ⟨_, (a20.trans rfl), rn_id if_sli⟩, trivial⟩ (fun _ _ h => by cases h) trivial rfl trivial trivial rfl trivial trivial trivial (rn_id (if_bl)) rfl)) ?_
         apply zd [[]]
         refine dd [] (fun _ _ _ _ => obk hb17 ops) ?_
         apply zd [[100], [100]]
         refine dG [] (fun _ _ _ _ => c0 (c_retrospectref07_Text _ h19)) ?_
         apply zd [[], [], [], []]
         refine de fol ?_
         apply z [4]
         exact sj (hj10 _) (eR [(100, 100)])
       refine sd ?_
       apply zd [[100], [100], []]
       refine dd [] (fun _ _ _ _ => obk hb12 ops) ?_
       apply zd [[100], [100]]
       refine dG [101] (fun _ _ _ _ => cG (c_retrospectref02_Norm _ h14) [] [(101, 50)] []) ?_
       apply zd [[100], [100]]
       refine dx [15, 18, 20] [101] (fun st mm ⟨a15, a18, a20, _⟩ ⟨g101, _⟩ => ogG 15 rfl (a15.trans rfl) (callL (em := []) [101] [] [] [] rfl (c_retrospectref02_Same _ h16) trivial (pl_bl) ⟨.inr ⟨101, rfl, .inl ⟨(a18.trans rfl), .inl ⟨_, _, _, (g101.trans rfl), ifs_map (f := u32) (fun _ => if_u32) r13, rfl⟩⟩⟩, .inl ⟨_, (a20.trans rfl), rn_id if_sli⟩, trivial⟩ (fun _ _ h => by cases h) trivial rfl trivial trivial rfl trivial trivial trivial (rn_id (if_bl)) rfl)) ?_
       apply zd [[]]
       refine dd [] (fun _ _ _ _ => obk hb17 ops) ?_
       apply zd [[], [], [], [], [], [], []]
       refine de fol ?_
       apply z [4]
       exact sj (hj10 _) (eR [(100, 100)])
     refine sd ?_
     apply zd [[100], [100], []]
     refine dd [] (fun _ _ _ _ => obk hb12 ops) ?_
     apply zd [[], [], [], [], [], [], [], [], [], [], [], [], [], [], []]
     refine de fol ?_
     apply z [4]
     exact sj (hj10 _) (eR [(100, 100)])
   intro s11
   apply z [8, 10]
   exact rt []
 apply z [9, 4, 5]
 refine sjq (fun s22 => [(1, i64 x1), (2, i64 x2), (3, i64 x3), (4, .own 100), (8, bl false), (43, bl s22)]) (fun s22 => [(100, .bx 88 (L_retrospectref17_Node x0))]) ?_ ?_
 · intro j20 hj21
   apply z [6, 33, 36, 39, 47, 30]
   refine sifd 34 rfl ?_ ?_
   · apply z [23, 23, 23, 38, 30, 23, 23, 23, 38, 1]
     exact sj (hj21 _) (eR [(100, 100)])
   apply z [22, 22, 22, 37, 30]
   refine sifd 39 rfl ?_ ?_
   · apply z [23, 23, 23, 38, 1]
     exact sj (hj21 _) (eR [(100, 100)])
   apply z [22, 22, 22, 37, 1]
   exact sj (hj21 _) (eR [(100, 100)])
 intro s22
 refine c ?_ ?_
 · apply z [2, 31, 1, 8, 10]
   exact rt []
 apply z [9, 4, 5, 2, 33, 36, 41, 1]
 refine c ?_ ?_
 · refine sjq (fun s25 => [(2, i64 x2), (3, i64 x3), (4, .own 100), (8, bl s25)]) (fun s25 => [(100, .bx 88 (L_retrospectref17_Node x0))]) ?_ ?_
   · intro j23 hj24
     apply z [6, 33, 36, 57, 30]
     refine sifd 50 rfl ?_ ?_
     · apply z [22, 22, 22, 22, 38, 31, 1]
       exact sj (hj24 _) (eR [(100, 100)])
     apply z [23, 23, 23, 23, 37, 31, 1]
     exact sj (hj24 _) (eR [(100, 100)])
   intro s25
   apply z [8, 10]
   exact rt []
 apply z [9, 4, 5, 2, 33, 36, 41, 1]
 refine c ?_ ?_
 · refine sjq (fun s28 => [(3, i64 x3), (4, .own 100), (8, bl s28)]) (fun s28 => [(100, .bx 88 (L_retrospectref17_Node x0))]) ?_ ?_
   · intro j26 hj27
     apply z [6, 33, 36, 57, 30]
     refine sifd 62 rfl ?_ ?_
     · apply z [22, 22, 22, 22, 38, 31, 1]
       exact sj (hj27 _) (eR [(100, 100)])
     apply z [23, 23, 23, 23, 37, 31, 1]
     exact sj (hj27 _) (eR [(100, 100)])
   intro s28
   apply z [8, 10]
   exact rt []
 apply z [9, 4, 5, 2, 33, 36, 41, 1]
 refine c ?_ ?_
 · refine sjq (fun s31 => [(4, .own 100), (8, bl s31)]) (fun s31 => [(100, .bx 88 (L_retrospectref17_Node x0))]) ?_ ?_
   · intro j29 hj30
     apply z [6, 33, 36, 57, 30]
     refine sifd 74 rfl ?_ ?_
     · apply z [22, 22, 22, 22, 38, 31, 1]
       exact sj (hj30 _) (eR [(100, 100)])
     apply z [23, 23, 23, 23, 37, 31, 1]
     exact sj (hj30 _) (eR [(100, 100)])
   intro s31
   apply z [8, 10]
   exact rt []
 apply z [9, 4, 5, 2, 33, 36, 41, 1]
 refine c ?_ ?_
 · refine sjq (fun s34 => [(4, .own 100), (8, bl s34)]) (fun s34 => [(100, .bx 88 (L_retrospectref17_Node x0))]) ?_ ?_
   · intro j32 hj33
     apply z [6, 33, 36, 57, 30]
     refine sifd 86 rfl ?_ ?_
     · apply z [22, 22, 22, 38, 31, 1]
       exact sj (hj33 _) (eR [(100, 100)])
     apply z [23, 23, 23, 37, 31, 1]
     exact sj (hj33 _) (eR [(100, 100)])
   intro s34
   apply z [8, 10]
   exact rt []
 apply z [9, 4, 2, 33, 36, 41, 31, 1, 8]
 exact rt []
theorem c_retrospectref19_Place {n : Nat} {x0} {x1} {x2} {x3} : ∀ r, m_retrospectref19_Place n x0 x1 x2 x3 = some r → FnOk Tryz.prog 23 [sli 3 (List.map L_retrospectref17_Node x0), i64 x1, i64 x2, i64 x3] [] (i64 r) [] := by
 unfold m_retrospectref19_Place
 refine fs Tryz.func23 fun w S0 γ hγ => ?_
 apply z [2, 31, 1, 2, 30]
 refine cb (ca c_retrospectref17_Wrong) fun r1 => ?_
 apply z [31, 1, 5, 2, 31, 1, 7]
 refine sloopE 0 Lp.go (fun s29 => [(0, sli 3 (List.map L_retrospectref17_Node x0)), (1, i64 x1), (2, i64 x2), (3, i64 x3), (8, i64 (0 : Int)), (9, i64 r1), (10, i64 s29)]) (fun s29 => []) (fun t27 => [(8, i64 (0 : Int)), (9, i64 r1)]) (fun t27 => []) eI ?_ ?_
 · intro hj28 s29
   apply z [5, 2, 30, 30, 39, 46, 1]
   refine c ?_ ?_
   · apply z [9, 4, 5, 7]
     refine sjq (fun s36 => [(0, sli 3 (List.map L_retrospectref17_Node x0)), (1, i64 x1), (2, i64 x2), (3, i64 x3), (8, i64 (0 : Int)), (9, i64 r1), (10, i64 s29), (32, bl s36)]) (fun s36 => []) ?_ ?_
     · intro j34 hj35
       apply z [6, 30, 30, 41, 30]
       refine sifd 22 rfl ?_ ?_
       · apply z [23, 23, 23, 23, 23, 23, 23, 23, 23, 38, 1]
         exact sj (hj35 _) eI
       apply z [22, 22]
       refine b fun y37 h38 => ?_
       apply z [22, 22, 22, 22, 22]
       refine b fun r39 h40 => ?_
       refine og' (c0 (c_retrospectref19_Node _ h40)) ?_
       apply z [22, 37, 1]
       exact sj (hj35 _) eI
     intro s36
     refine c ?_ ?_
     · apply z [2, 30, 31, 1, 8, 12, 10]
       refine sU ?_
       apply z [12, 10]
       exact rt []
     apply z [9, 11, 4, 6, 30, 40, 31, 3]
     exact sgo eI
   apply z [14, 15]
   exact su (sj (hj28 _) eI)
 intro t27
 refine slpk ?_
 apply z [13, 4, 2, 30, 31, 1, 8]
 exact rt []
theorem c_tree_Right {x0} : ∀ r, m_tree_Right x0 = some r → FnOk Tryz.prog 51 [sli 3 (List.map L_tree_Node x0)] [] (bl r) [] := by
 unfold m_tree_Right
 refine fs Tryz.func51 fun w S0 γ hγ => ?_
 apply z [2, 31, 1, 2, 30]
 refine cb (ca c_tree_Wrong) fun r1 => ?_
 apply z [46, 31, 1, 8]
 exact rt []
theorem c_show_Rank {x0} : ∀ r, m_show_Rank x0 = some r → FnOk Tryz.prog 24 [sli 3 (List.map L_tree_Node x0)] [] (i64 r) [] := by
 unfold m_show_Rank
 refine fs Tryz.func24 fun w S0 γ hγ => ?_
 apply z [2, 31, 1, 5, 2, 30]
 refine cb (ca c_tree_Right) fun r1 => ?_
 apply z [44, 1]
 refine c ?_ ?_
 · apply z [2, 31, 1, 8, 10]
   exact rt []
 apply z [9, 4, 2, 30, 30, 39, 49]
 refine b fun y3 h4 => ?_
 apply z [43, 92, 42]
 refine cb (ca c_show_rank) fun r5 => ?_
 apply z [31, 1, 8]
 exact rt []
theorem c_retrospectref20_Rank {n : Nat} {x0} : ∀ r, m_retrospectref20_Rank n x0 = some r → FnOk Tryz.prog 25 [sli 3 (List.map L_retrospectref17_Node x0)] [] (i64 r) [] := by
 unfold m_retrospectref20_Rank
 refine fs Tryz.func25 fun w S0 γ hγ => ?_
 apply z [2, 31, 1, 5, 2, 30]
 refine cb (ca c_retrospectref17_Wrong) fun r1 => ?_
 apply z [57, 1]
 refine c ?_ ?_
 · apply z [2, 31, 1, 8, 10]
   exact rt []
 apply z [9, 4, 2, 30, 30, 39, 49]
 refine b fun y3 h4 => ?_
 apply z [43, 92, 42, 31, 1, 5]
 refine sjq (fun s7 => [(2, i64 (0 : Int)), (3, i64 y3.Op), (19, bl s7)]) (fun s7 => []) ?_ ?_
 · intro j5 hj6
   apply z [6, 30, 41, 30]
   refine sifd 16 rfl ?_ ?_
   · apply z [23, 23, 38, 1]
     exact sj (hj6 _) eI
   apply z [22, 22, 37, 1]
   exact sj (hj6 _) eI
 intro s7
 refine c ?_ ?_
 · apply z [2, 31, 1, 8, 10]
   exact rt []
 apply z [9, 4, 5]
 refine sjq (fun s10 => [(2, i64 (0 : Int)), (3, i64 y3.Op), (25, bl s10)]) (fun s10 => []) ?_ ?_
 · intro j8 hj9
   apply z [6, 30, 41, 30]
   refine sifd 22 rfl ?_ ?_
   · apply z [23, 23, 38, 1]
     exact sj (hj9 _) eI
   apply z [22, 22, 37, 1]
   exact sj (hj9 _) eI
 intro s10
 refine c ?_ ?_
 · apply z [2, 31, 1, 8, 10]
   exact rt []
 apply z [9, 4, 5, 2, 30, 41, 1]
 refine c ?_ ?_
 · apply z [2, 31, 1, 8, 10]
   exact rt []
 apply z [9, 4, 5, 2, 30, 41, 1]
 refine c ?_ ?_
 · apply z [2, 31, 1, 8, 10]
   exact rt []
 apply z [9, 4, 2, 31, 1, 8]
 exact rt []
theorem c_retrospectref17_Deep : ∀ {n : Nat} {x0} {x1}, ∀ r, m_retrospectref17_Deep n x0 x1 = some r → FnOk Tryz.prog 90 [sli 3 (List.map L_retrospectref17_Node x0), i64 x1] [] (.tup [i64 r.1, i64 r.2]) [] := by
  intro n
  induction n with
  | zero => intro x0 x1 r h; exact absurd h (by simp [m_retrospectref17_Deep])
  | succ n ih =>
    intro x0 x1
    unfold m_retrospectref17_Deep
    refine fs Tryz.func90 fun w S0 γ hγ => ?_
    apply z [2, 31, 31, 1, 2, 31, 1, 2, 30, 31, 1, 5, 2, 30, 30]
    refine b fun y1 h2 => ?_
    apply z [43, 92, 42]
    refine cb (ca c_retrospectref17_Arity) fun r3 => ?_
    apply z [31, 1, 7]
    refine sloopE 0 (fun t => t) (fun s13 => [(0, sli 3 (List.map L_retrospectref17_Node x0)), (4, i64 (0 : Int)), (5, i64 (0 : Int)), (6, i64 s13.1), (7, i64 s13.2.1), (8, i64 s13.2.2)]) (fun s13 => []) (fun t11 => [(4, i64 (0 : Int)), (5, i64 (0 : Int)), (6, i64 t11.1), (7, i64 t11.2)]) (fun t11 => []) eI ?_ ?_
    · intro hj12 s13
      apply z [5, 2, 30, 47, 1]
      refine c ?_ ?_
      · apply z [9, 4, 5, 7, 2, 30, 30, 49]
        refine b fun r14 h15 => ?_
        refine o (c0 (ih _ h15)) ?_
        apply z [30, 35, 35, 31, 31, 1, 2, 30, 30, 88, 31, 1, 6, 30, 31, 3, 11, 4, 6, 30, 49, 31, 3]
        exact sgo eI
      apply z [14, 15]
      exact su (sj (hj12 _) eI)
    intro t11
    apply z [13, 4, 2, 30, 40, 30, 31, 31, 1, 8]
    exact rt []
theorem c_retrospectref17_Parts {n : Nat} {x0} : ∀ r, m_retrospectref17_Parts n x0 = some r → FnOk Tryz.prog 53 [sli 3 (List.map L_retrospectref17_Node x0)] [] (sli 1 (List.map L_S_retrospectref17_Node r)) [] := by
 unfold m_retrospectref17_Parts
 refine fs Tryz.func53 fun w S0 γ hγ => ?_
 apply z [2]
 refine s1 (asg rfl (kLm (k := 1) L_S_retrospectref17_Node)) ?_
 apply z [1, 2, 30, 39, 49, 31, 1, 2, 30, 30]
 refine b fun y1 h2 => ?_
 apply z [43, 92, 42]
 refine cb (ca c_retrospectref17_Arity) fun r3 => ?_
 apply z [31, 1, 5, 2, 30, 41, 1]
 refine c ?_ ?_
 · apply z [2]
   refine so (bsl (y := 100) (ls := List.map L_S_retrospectref17_Node ([] : List (List M_retrospectref17_Node))) Tryz.underlying32 ti_45.h rfl rfl rfl rfl rfl trivial rfl rfl) ?_
   apply z [31, 1, 8, 10]
   refine fz 100 [2, 18] [] ?_
   exact rt []
 apply z [9, 4, 2, 30, 30, 49]
 refine cb (ca c_retrospectref17_Deep) fun r5 => ?_
 apply z [30, 35, 35, 31, 31, 1, 5, 2, 30, 41, 1]
 refine c ?_ ?_
 · apply z [2, 30, 30]
   refine b fun y7 h8 => ?_
   refine s1 (slR (f := L_retrospectref17_Node) h8 Tryz.underlying45 ti_88.h rfl rfl bnd0 (bnd rfl)) ?_
   refine so (bsl (y := 100) (ls := List.map L_S_retrospectref17_Node ([y7] : List (List M_retrospectref17_Node))) Tryz.underlying32 ti_45.h rfl rfl rfl rfl rfl ⟨rfl, rfl, (by exact rfl), (by exact rfl), trivial⟩ rfl rfl) ?_
   apply z [31, 1, 8, 10]
   refine fz 100 [2, 31] [] ?_
   exact rt []
 apply z [9, 4, 5]
 refine b fun y9 h10 => ?_
 refine b fun y11 h12 => ?_
 refine sd ?_
 apply zd [[], []]
 refine dx [32, 33] [] (fun st mm ⟨a32, a33, _⟩ _ => og (slR (f := L_retrospectref17_Node) h10 Tryz.underlying45 ti_88.h rfl (a32.trans rfl) bnd0 (bnd (a33.trans rfl)))) ?_
 apply zd [[], [], []]
 refine dx [35, 36, 37] [] (fun st mm ⟨a35, a36, a37, _⟩ _ => og (slR (f := L_retrospectref17_Node) h12 Tryz.underlying45 ti_88.h rfl (a35.trans rfl) (bnd (a36.trans rfl)) (bnd (a37.trans rfl)))) ?_
 refine dx [34, 38] [100] (fun st mm ⟨a34, a38, _⟩ ⟨g100, _⟩ => og (bsl (y := 100) (ls := List.map L_S_retrospectref17_Node ([y9, y11] : List (List M_retrospectref17_Node))) Tryz.underlying32 ti_45.h rfl rfl rfl rfl rfl ⟨rfl, (a34.trans rfl), (by exact rfl), (by exact rfl), rfl, (a38.trans rfl), (by exact rfl), (by exact rfl), trivial⟩ (g100.trans rfl) rfl)) ?_
 apply zd [[]]
 refine de fol ?_
 apply z [4, 8]
 refine fz 100 [2, 39] [] ?_
 exact rt []
theorem c_retrospectref02_Of {n : Nat} {x0} : ∀ r, m_retrospectref02_Of n x0 = some r → FnOk Tryz.prog 121 [u64 x0] [] (sli 1 (List.map u32 r)) [] := by
 unfold m_retrospectref02_Of
 refine fs Tryz.func121 fun w S0 γ hγ => ?_
 apply z [2]
 refine s1 (asg rfl (kLm (k := 1) u32)) ?_
 apply z [1, 2, 30, 81, 60, 30, 80, 60]
 refine so (bsl (y := 100) (ls := List.map u32 ([((x0 % 4294967296) % 4294967296), ((x0 / 4294967296) % 4294967296)] : List Nat)) Tryz.underlying67 ti_127.h rfl rfl rfl rfl rfl ⟨rfl, rfl, (by exact rfl), (by exact rfl), rfl, rfl, (by exact rfl), (by exact rfl), trivial⟩ rfl rfl) ?_
 refine sbm (C := fun x => .sl 127 1 (List.map u32 x)) 100 rfl fun z1 => ?_
 refine b fun r2 h3 => ?_
 refine so (callL (em := [(101, .sl 127 1 (List.map u32 r2))]) (res' := .own 101) [100] [] [(101, 50)] [(101, 50)] rfl (c_retrospectref02_Norm _ h3) ⟨pls_map (f := u32) (fun _ => pl_u32) _, trivial⟩ (pl_own) ⟨.inr ⟨100, rfl, .inl ⟨rfl, .inl ⟨_, _, _, rfl, ifs_map (f := u32) (fun _ => if_u32) z1, rfl⟩⟩⟩, trivial⟩ (MiF.get (mi := []) trivial) trivial rfl ⟨rfl, trivial⟩ ⟨.inl rfl, trivial⟩ rfl ⟨.inl ⟨_, _, rfl, rfl, rc_sl (ifs_map (f := u32) (fun _ => if_u32) r2)⟩, trivial⟩ trivial ⟨⟨_, rfl⟩, trivial⟩ (rn_own rfl) rfl) ?_
 apply z [31, 1, 8]
 refine fz 101 [2, 10] [] ?_
 exact rt []
theorem c_retrospectref02_At {x0} {x1} : ∀ r, m_retrospectref02_At x0 x1 = some r → FnOk Tryz.prog 79 [sli 1 (List.map u32 x0), i64 x1] [] (u32 r) [] := by
 unfold m_retrospectref02_At
 refine fs Tryz.func79 fun w S0 γ hγ => ?_
 apply z [2, 31, 1, 5, 2, 30, 30, 39, 46, 1]
 refine c ?_ ?_
 · apply z [2, 30, 30]
   refine b fun y1 h2 => ?_
   apply z [43, 42, 31, 1, 8, 10]
   exact rt []
 apply z [9, 4, 2, 31, 1, 8]
 exact rt []
theorem c_retrospectref02_Add {n : Nat} {x0} {x1} : ∀ r, m_retrospectref02_Add n x0 x1 = some r → FnOk Tryz.prog 120 [sli 1 (List.map u32 x0), sli 1 (List.map u32 x1)] [] (sli 1 (List.map u32 r)) [] := by
 unfold m_retrospectref02_Add
 refine fs Tryz.func120 fun w S0 γ hγ => ?_
 apply z [2]
 refine s1 (asg rfl (kLm (k := 1) u32)) ?_
 apply z [1, 2, 30, 39, 30, 39, 88, 40, 31, 1, 2, 30]
 refine b fun y1 h2 => ?_
 refine so (mks (y := 100) (f := u32) h2 Tryz.underlying67 ti_127.h zr_u32 rfl rfl rfl rfl rfl rfl) ?_
 apply z [31, 1, 2, 31, 1, 5, 2, 31, 1, 7]
 refine sloopE 0 (fun t => t) (fun s24 => [(0, sli 1 (List.map u32 x0)), (1, sli 1 (List.map u32 x1)), (4, sli 1 (List.map u32 ([] : List Nat))), (5, i64 (wrap64 ((max (x0.length : Int) (x1.length : Int)) + (1 : Int)))), (6, .own 100), (7, u64 s24.2.1), (8, i64 s24.2.2)]) (fun s24 => [(100, .sl 127 1 (List.map u32 s24.1))]) (fun t22 => [(4, sli 1 (List.map u32 ([] : List Nat))), (6, .own 100)]) (fun t22 => [(100, .sl 127 1 (List.map u32 t22))]) (eR [(100, 100)]) ?_ ?_
 · intro hj23 s24
   apply z [5, 2, 30, 30, 46]
   refine sbn (F := bl) 19 rfl fun z25 => ?_
   apply z [1]
   refine c ?_ ?_
   · apply z [9, 4, 5, 7, 2, 30, 30, 30]
     refine cb (ca c_retrospectref02_At) fun r26 => ?_
     apply z [59, 30, 30]
     refine cb (ca c_retrospectref02_At) fun r28 => ?_
     apply z [59, 61, 61]
     refine sbn (F := u64) 32 rfl fun z30 => ?_
     apply z [31, 1, 2, 30, 30, 30, 81, 60]
     refine b fun y31 h32 => ?_
     apply z [50, 53, 1, 6, 30, 80, 31, 3, 11, 4, 6, 30, 40, 31, 3]
     exact sgo (eR [(100, 100)])
   apply z [14, 15]
   exact su (sj (hj23 _) (eR [(100, 100)]))
 intro t22
 apply z [13, 4, 2, 30]
 refine b fun r33 h34 => ?_
 refine so (callL (em := [(101, .sl 127 1 (List.map u32 r33))]) (res' := .own 101) [100] [] [(101, 50)] [(101, 50)] rfl (c_retrospectref02_Norm _ h34) ⟨pls_map (f := u32) (fun _ => pl_u32) _, trivial⟩ (pl_own) ⟨.inr ⟨100, rfl, .inl ⟨rfl, .inl ⟨_, _, _, rfl, ifs_map (f := u32) (fun _ => if_u32) t22, rfl⟩⟩⟩, trivial⟩ (MiF.get (mi := []) trivial) trivial rfl ⟨rfl, trivial⟩ ⟨.inl rfl, trivial⟩ rfl ⟨.inl ⟨_, _, rfl, rfl, rc_sl (ifs_map (f := u32) (fun _ => if_u32) r33)⟩, trivial⟩ trivial ⟨⟨_, rfl⟩, trivial⟩ (rn_own rfl) rfl) ?_
 apply z [31, 1, 8]
 refine fz 101 [4, 42] [] ?_
 exact rt []
theorem c_retrospectref06_One {x0} : ∀ r, m_retrospectref06_One x0 = some r → FnOk Tryz.prog 149 [sli 1 (List.map u32 x0)] [] (bl r) [] := by
 unfold m_retrospectref06_One
 refine fs Tryz.func149 fun w S0 γ hγ => ?_
 apply z [2, 31, 1]
 refine sjq (fun s5 => [(2, bl s5)]) (fun s5 => []) ?_ ?_
 · intro j3 hj4
   apply z [6, 30, 39, 41, 30]
   refine sifd 6 rfl ?_ ?_
   · apply z [22]
     refine b fun y6 h7 => ?_
     apply z [22, 22, 22, 38, 31, 1]
     exact sj (hj4 _) eI
   apply z [23, 23, 23, 23, 37, 31, 1]
   exact sj (hj4 _) eI
 intro s5
 apply z [8]
 exact rt []
theorem c_retrospectref01_Zeros {n : Nat} {x0} : ∀ r, m_retrospectref01_Zeros n x0 = some r → FnOk Tryz.prog 188 [u32 x0] [] (i64 r) [] := by
 unfold m_retrospectref01_Zeros
 refine fs Tryz.func188 fun w S0 γ hγ => ?_
 apply z [2, 31, 1, 5, 2, 30, 66, 1]
 refine c ?_ ?_
 · apply z [2, 31, 1, 8, 10]
   exact rt []
 apply z [9, 4, 2, 31, 1, 5, 7]
 refine sloopE 0 (fun t => t) (fun s5 => [(0, u32 s5.1), (2, i64 (0 : Int)), (3, i64 s5.2)]) (fun s5 => []) (fun t3 => [(2, i64 (0 : Int)), (3, i64 t3)]) (fun t3 => []) eI ?_ ?_
 · intro hj4 s5
   apply z [5, 2, 30, 81, 66, 1]
   refine c ?_ ?_
   · apply z [9, 4, 7, 2, 30, 80, 31, 1, 6, 30, 40, 31, 3, 11]
     exact sgo eI
   apply z [14, 15]
   exact su (sj (hj4 _) eI)
 intro t3
 apply z [13, 4, 2, 30, 31, 1, 8]
 exact rt []
theorem c_retrospectref06_down {n : Nat} {x0} {x0o} {x0l} {x1} : ∀ r, m_retrospectref06_down n x0 x0o x0l x1 = some r → FnOk Tryz.prog 189 [.win 0 x0o x0l, i64 x1] [(0, .sl 127 1 (List.map u32 x0))] (.win 0 r.1 r.2.1) [(0, .sl 127 1 (List.map u32 r.2.2))] := by
 unfold m_retrospectref06_down
 refine fs Tryz.func189 fun w S0 γ hγ => ?_
 apply z [2]
 refine s1 (asg rfl (kLm (k := 1) u32)) ?_
 apply z [1, 5, 2, 31, 1, 7]
 refine sloopE 0 (fun t => t) (fun s41 => [(0, .win 0 x0o x0l), (1, i64 x1), (4, sli 1 (List.map u32 ([] : List Nat))), (5, i64 s41.2)]) (fun s41 => [(0, .sl 127 1 (List.map u32 s41.1))]) (fun t39 => [(0, .win 0 x0o x0l), (4, sli 1 (List.map u32 ([] : List Nat)))]) (fun t39 => [(0, .sl 127 1 (List.map u32 t39))]) (eR [(0, 0)]) ?_ ?_
 · intro hj40 s41
   apply z [5, 2, 30, 30, 87, 46, 1]
   refine c ?_ ?_
   · apply z [9, 4, 5, 7, 2, 31, 1]
     refine sjq (fun s47 => [(0, .win 0 x0o x0l), (1, i64 x1), (4, sli 1 (List.map u32 ([] : List Nat))), (5, i64 s41.2), (6, u64 s47)]) (fun s47 => [(0, .sl 127 1 (List.map u32 s41.1))]) ?_ ?_
     · intro j45 hj46
       apply z [2, 30, 40, 30, 87, 46, 1]
       refine c ?_ ?_
       · apply z [6, 30, 30, 40]
         refine b fun _ h50 => ?_
         refine b fun y48 h49 => ?_
         refine s1 (ixW (f := u32) (grd_some h50) rfl Tryz.underlying67 ti_127.h h49 rfl rfl rfl) ?_
         apply z [51, 59, 31, 1]
         exact sj (hj46 _) (eR [(0, 0)])
       apply z [9, 4]
       exact sj (hj46 _) (eR [(0, 0)])
     intro s47
     apply z [6, 30, 30, 30, 63, 30, 30]
     refine b fun _ h53 => ?_
     refine b fun y51 h52 => ?_
     refine s1 (ixW (f := u32) (grd_some h53) rfl Tryz.underlying67 ti_127.h h52 rfl rfl rfl) ?_
     apply z [51, 59, 61]
     refine sbn (F := u64) 33 rfl fun z54 => ?_
     apply z [30]
     refine b fun _ h55 => ?_
     refine s1 (shrU uk64 (ge0 h55) rfl rfl rfl) ?_
     apply z [60]
     refine b fun _ h58 => ?_
     refine b fun y56 h57 => ?_
     refine s1 (ixW (f := u32) (grd_some h58) rfl Tryz.underlying67 ti_127.h h57 rfl rfl rfl) ?_
     apply z [53]
     refine sbm (C := fun x => .sl 127 1 (List.map u32 x)) 0 rfl fun z59 => ?_
     apply z [3, 11, 4, 6, 30, 40, 31, 3]
     exact sgo (eR [(0, 0)])
   apply z [14, 15]
   exact su (sj (hj40 _) (eR [(0, 0)]))
 intro t39
 apply z [13, 4, 5, 7]
 refine sloopE 2 (fun t => t) (fun s84 => [(0, .win 0 s84.1 s84.2), (4, sli 1 (List.map u32 ([] : List Nat)))]) (fun s84 => [(0, .sl 127 1 (List.map u32 t39))]) (fun t82 => [(0, .win 0 t82.1 t82.2), (4, sli 1 (List.map u32 ([] : List Nat)))]) (fun t82 => [(0, .sl 127 1 (List.map u32 t39))]) (eR [(0, 0)]) ?_ ?_
 · intro hj83 s84
   apply z [5]
   refine sjq (fun s90 => [(0, .win 0 s84.1 s84.2), (4, sli 1 (List.map u32 ([] : List Nat))), (49, bl s90)]) (fun s90 => [(0, .sl 127 1 (List.map u32 t39))]) ?_ ?_
   · intro j88 hj89
     apply z [6, 30, 87, 47, 30]
     refine sifd 41 rfl ?_ ?_
     · apply z [22, 22, 22, 22]
       refine b fun _ h93 => ?_
       refine b fun y91 h92 => ?_
       refine sg 41 rfl rfl (ixW (f := u32) (grd_some h93) rfl Tryz.underlying67 ti_127.h h92 rfl rfl rfl) ?_
       apply z [22, 22, 38, 1]
       exact sj (hj89 _) (eR [(0, 0)])
     apply z [23, 23, 23, 23, 23, 23, 23, 37, 1]
     exact sj (hj89 _) (eR [(0, 0)])
   intro s90
   refine c ?_ ?_
   · apply z [9, 4, 7, 6, 30, 30, 87, 49]
     refine b fun _ h94 => ?_
     refine s1 (slW (grd_some h94) rfl Tryz.underlying67 ti_127.h rfl rfl bnd0 (bnd rfl)) ?_
     apply z [31, 3, 11]
     exact sgo (eR [(0, 0)])
   apply z [14, 15]
   exact su (sj (hj83 _) (eR [(0, 0)]))
 intro t82
 apply z [13, 4, 2, 30, 31, 1, 8]
 exact rt [(0, 0)]
theorem c_retrospectref06_odd {n : Nat} {x0} {x0o} {x0l} : ∀ r, m_retrospectref06_odd n x0 x0o x0l = some r → FnOk Tryz.prog 170 [.win 0 x0o x0l] [(0, .sl 127 1 (List.map u32 x0))] (.tup [.win 0 r.1 r.2.1, i64 r.2.2.1]) [(0, .sl 127 1 (List.map u32 r.2.2.2))] := by
 unfold m_retrospectref06_odd
 refine fs Tryz.func170 fun w S0 γ hγ => ?_
 apply z [2]
 refine s1 (asg rfl (kLm (k := 1) u32)) ?_
 apply z [31, 1, 2, 31, 1, 5, 7]
 refine sloopE 0 (fun t => t) (fun s13 => [(0, .win 0 s13.1 s13.2.1), (2, sli 1 (List.map u32 ([] : List Nat))), (3, i64 (0 : Int)), (4, i64 s13.2.2)]) (fun s13 => [(0, .sl 127 1 (List.map u32 x0))]) (fun t11 => [(0, .win 0 t11.1 t11.2.1), (2, sli 1 (List.map u32 ([] : List Nat))), (3, i64 (0 : Int)), (4, i64 t11.2.2)]) (fun t11 => [(0, .sl 127 1 (List.map u32 x0))]) (eR [(0, 0)]) ?_ ?_
 · intro hj12 s13
   apply z [5, 2, 30]
   refine b fun _ h16 => ?_
   refine b fun y14 h15 => ?_
   refine s1 (ixW (f := u32) (grd_some h16) rfl Tryz.underlying67 ti_127.h h15 rfl rfl (kI (x := 0) rfl)) ?_
   apply z [51, 66, 1]
   refine c ?_ ?_
   · apply z [9, 4, 7, 2, 30]
     refine b fun _ h17 => ?_
     refine s1 (slW (grd_some h17) rfl Tryz.underlying67 ti_127.h rfl rfl (bnd (kI (x := 1) rfl)) bnd0) ?_
     apply z [31, 1, 6, 30, 40, 31, 3, 11]
     exact sgo (eR [(0, 0)])
   apply z [14, 15]
   exact su (sj (hj12 _) (eR [(0, 0)]))
 intro t11
 apply z [13, 4, 2, 30]
 refine b fun _ h20 => ?_
 refine b fun y18 h19 => ?_
 refine s1 (ixW (f := u32) (grd_some h20) rfl Tryz.underlying67 ti_127.h h19 rfl rfl (kI (x := 0) rfl)) ?_
 apply z [51]
 refine cb (ca c_retrospectref01_Zeros) fun r21 => ?_
 apply z [31, 1, 2, 30, 30]
 refine b fun r23 h24 => ?_
 refine o (cG (c_retrospectref06_down _ h24) [0] [] []) ?_
 apply z [30, 30, 40, 31, 31, 1, 8]
 exact rt [(0, 0)]
theorem c_retrospectref02_Cmp {n : Nat} {x0} {x1} : ∀ r, m_retrospectref02_Cmp n x0 x1 = some r → FnOk Tryz.prog 46 [sli 1 (List.map u32 x0), sli 1 (List.map u32 x1)] [] (i64 r) [] := by
 unfold m_retrospectref02_Cmp
 refine fs Tryz.func46 fun w S0 γ hγ => ?_
 apply z [2, 31, 1, 5, 2, 30, 39, 30, 39, 88, 49, 31, 1, 7]
 refine sloopE 0 Lp.go (fun s15 => [(0, sli 1 (List.map u32 x0)), (1, sli 1 (List.map u32 x1)), (4, i64 (0 : Int)), (5, i64 s15)]) (fun s15 => []) (fun t13 => [(4, i64 (0 : Int))]) (fun t13 => []) eI ?_ ?_
 · intro hj14 s15
   apply z [5, 2, 30, 57, 1]
   refine c ?_ ?_
   · apply z [9, 4, 5, 7, 2, 30, 30]
     refine cb (ca c_retrospectref02_At) fun r16 => ?_
     apply z [31, 1, 2, 30, 30]
     refine cb (ca c_retrospectref02_At) fun r18 => ?_
     apply z [31, 1, 5, 2, 30, 30, 68, 1]
     refine c ?_ ?_
     · apply z [2, 31, 1, 8, 10, 12, 10]
       refine sU ?_
       apply z [12, 10]
       exact rt []
     apply z [9, 4, 2, 30, 30, 69, 1]
     refine c ?_ ?_
     · apply z [2, 31, 1, 8, 12, 10]
       refine sU ?_
       apply z [12, 10]
       exact rt []
     apply z [9, 11, 4, 6, 30, 49, 31, 3]
     exact sgo eI
   apply z [14, 15]
   exact su (sj (hj14 _) eI)
 intro t13
 refine slpk ?_
 apply z [13, 4, 2, 31, 1, 8]
 exact rt []
theorem c_retrospectref05_Less {n : Nat} {x0} {x0o} {x0l} {x1} : ∀ r, m_retrospectref05_Less n x0 x0o x0l x1 = some r → FnOk Tryz.prog 171 [.win 0 x0o x0l, sli 1 (List.map u32 x1)] [(0, .sl 127 1 (List.map u32 x0))] (.tup []) [(0, .sl 127 1 (List.map u32 r))] := by
 unfold m_retrospectref05_Less
 refine fs Tryz.func171 fun w S0 γ hγ => ?_
 apply z [2, 31, 1, 2, 31, 1, 7]
 refine sloopE 0 (fun t => t) (fun s30 => [(0, .win 0 x0o x0l), (1, sli 1 (List.map u32 x1)), (4, u64 s30.2.1), (5, i64 s30.2.2)]) (fun s30 => [(0, .sl 127 1 (List.map u32 s30.1))]) (fun t28 => []) (fun t28 => [(0, .sl 127 1 (List.map u32 t28))]) (eR [(0, 0)]) ?_ ?_
 · intro hj29 s30
   apply z [5, 2, 30, 30, 87, 46, 1]
   refine c ?_ ?_
   · apply z [9, 4, 5, 7, 2, 30, 30]
     refine b fun _ h33 => ?_
     refine b fun y31 h32 => ?_
     refine s1 (ixW (f := u32) (grd_some h33) rfl Tryz.underlying67 ti_127.h h32 rfl rfl rfl) ?_
     apply z [51, 59, 31, 1, 2, 30, 30]
     refine cb (ca c_retrospectref02_At) fun r34 => ?_
     apply z [59, 30, 61, 31, 1, 2, 31, 1]
     refine sjq (fun s38 => [(0, .win 0 x0o x0l), (1, sli 1 (List.map u32 x1)), (4, u64 s38.1), (5, i64 s30.2.2), (6, u64 s38.2), (7, u64 ((r34 + s30.2.1) % 18446744073709551616))]) (fun s38 => [(0, .sl 127 1 (List.map u32 s30.1))]) ?_ ?_
     · intro j36 hj37
       apply z [2, 30, 30, 68, 1]
       refine c ?_ ?_
       · apply z [2, 30, 61, 31, 1, 6, 31, 1]
         exact sj (hj37 _) (eR [(0, 0)])
       apply z [9, 4]
       exact sj (hj37 _) (eR [(0, 0)])
     intro s38
     apply z [6, 30, 30, 30, 30, 62]
     refine sbn (F := u64) 34 rfl fun z39 => ?_
     apply z [60]
     refine b fun _ h42 => ?_
     refine b fun y40 h41 => ?_
     refine s1 (ixW (f := u32) (grd_some h42) rfl Tryz.underlying67 ti_127.h h41 rfl rfl rfl) ?_
     apply z [53]
     refine sbm (C := fun x => .sl 127 1 (List.map u32 x)) 0 rfl fun z43 => ?_
     apply z [3, 11, 4, 6, 30, 40, 31, 3]
     exact sgo (eR [(0, 0)])
   apply z [14, 15]
   exact su (sj (hj29 _) (eR [(0, 0)]))
 intro t28
 apply z [13]
 exact rt [(0, 0)]
theorem c_retrospectref04_Mul {n : Nat} {x0} {x1} : ∀ r, m_retrospectref04_Mul n x0 x1 = some r → FnOk Tryz.prog 179 [sli 1 (List.map u32 x0), sli 1 (List.map u32 x1)] [] (sli 1 (List.map u32 r)) [] := by
 unfold m_retrospectref04_Mul
 refine fs Tryz.func179 fun w S0 γ hγ => ?_
 apply z [2]
 refine s1 (asg rfl (kLm (k := 1) u32)) ?_
 apply z [1, 2, 30, 39, 30, 39, 40]
 refine b fun y1 h2 => ?_
 refine so (mks (y := 100) (f := u32) h2 Tryz.underlying67 ti_127.h zr_u32 rfl rfl rfl rfl rfl rfl) ?_
 apply z [31, 1, 5, 2, 31, 1, 7]
 refine sloopE 0 (fun t => t) (fun s77 => [(0, sli 1 (List.map u32 x0)), (1, sli 1 (List.map u32 x1)), (4, sli 1 (List.map u32 ([] : List Nat))), (5, .own 100), (6, i64 s77.2)]) (fun s77 => [(100, .sl 127 1 (List.map u32 s77.1))]) (fun t75 => [(4, sli 1 (List.map u32 ([] : List Nat))), (5, .own 100)]) (fun t75 => [(100, .sl 127 1 (List.map u32 t75))]) (eR [(100, 100)]) ?_ ?_
 · intro hj76 s77
   apply z [5, 2, 30, 30, 39, 46, 1]
   refine c ?_ ?_
   · apply z [9, 4, 5, 7, 2, 31, 1, 5, 2, 31, 1, 7]
     refine sloopE 2 (fun t => t) (fun s92 => [(0, sli 1 (List.map u32 x0)), (1, sli 1 (List.map u32 x1)), (4, sli 1 (List.map u32 ([] : List Nat))), (5, .own 100), (6, i64 s77.2), (7, u64 s92.2.1), (8, i64 s92.2.2)]) (fun s92 => [(100, .sl 127 1 (List.map u32 s92.1))]) (fun t90 => [(0, sli 1 (List.map u32 x0)), (1, sli 1 (List.map u32 x1)), (4, sli 1 (List.map u32 ([] : List Nat))), (5, .own 100), (6, i64 s77.2), (7, u64 t90.2)]) (fun t90 => [(100, .sl 127 1 (List.map u32 t90.1))]) (eR [(100, 100)]) ?_ ?_
     · intro hj91 s92
       apply z [5, 2, 30, 30, 39, 46, 1]
       refine c ?_ ?_
       · apply z [9, 4, 5, 7, 5]
         refine b fun y93 h94 => ?_
         refine b fun y95 h96 => ?_
         refine b fun y97 h98 => ?_
         refine sd ?_
         apply zd [[], [], [], [], [], [], [], [], [], [], [], [], [], [], [], [], [100], [100], [], [], [], []]
         refine de fol ?_
         refine sbn (F := u64) 7 rfl fun z99 => ?_
         refine sbn (F := u64) 47 rfl fun z100 => ?_
         apply z [4, 2, 30, 30, 30, 40, 30, 81, 60]
         refine b fun y101 h102 => ?_
         apply z [50, 53]
         refine sbm (C := fun x => .sl 127 1 (List.map u32 x)) 100 rfl fun z103 => ?_
         apply z [1, 6, 30, 80, 31, 3, 11, 4, 6, 30, 40, 31, 3]
         exact sgo (eR [(100, 100)])
       apply z [14, 15]
       exact su (sj (hj91 _) (eR [(100, 100)]))
     intro t90
     apply z [13, 4, 6, 30, 30, 30, 39, 40, 30, 60]
     refine b fun y104 h105 => ?_
     apply z [50, 53]
     refine sbm (C := fun x => .sl 127 1 (List.map u32 x)) 100 rfl fun z106 => ?_
     apply z [3, 11, 4, 6, 30, 40, 31, 3]
     exact sgo (eR [(100, 100)])
   apply z [14, 15]
   exact su (sj (hj76 _) (eR [(100, 100)]))
 intro t75
 apply z [13, 4, 2, 30]
 refine b fun r107 h108 => ?_
 refine so (callL (em := [(101, .sl 127 1 (List.map u32 r107))]) (res' := .own 101) [100] [] [(101, 50)] [(101, 50)] rfl (c_retrospectref02_Norm _ h108) ⟨pls_map (f := u32) (fun _ => pl_u32) _, trivial⟩ (pl_own) ⟨.inr ⟨100, rfl, .inl ⟨rfl, .inl ⟨_, _, _, rfl, ifs_map (f := u32) (fun _ => if_u32) t75, rfl⟩⟩⟩, trivial⟩ (MiF.get (mi := []) trivial) trivial rfl ⟨rfl, trivial⟩ ⟨.inl rfl, trivial⟩ rfl ⟨.inl ⟨_, _, rfl, rfl, rc_sl (ifs_map (f := u32) (fun _ => if_u32) r107)⟩, trivial⟩ trivial ⟨⟨_, rfl⟩, trivial⟩ (rn_own rfl) rfl) ?_
 apply z [31, 1, 8]
 refine fz 101 [4, 67] [] ?_
 exact rt []
theorem c_retrospectref06_double {n : Nat} {x0} {x1} : ∀ r, m_retrospectref06_double n x0 x1 = some r → FnOk Tryz.prog 172 [sli 1 (List.map u32 x0), i64 x1] [] (sli 1 (List.map u32 r)) [] := by
 unfold m_retrospectref06_double
 refine fs Tryz.func172 fun w S0 γ hγ => ?_
 apply z [2]
 refine s1 (asg rfl (kLm (k := 1) u32)) ?_
 apply z [1, 2, 30, 78]
 refine b fun y1 h2 => ?_
 refine so (mks (y := 100) (f := u32) h2 Tryz.underlying67 ti_127.h zr_u32 rfl rfl rfl rfl rfl rfl) ?_
 apply z [30]
 refine b fun y3 h4 => ?_
 refine o (app' 101) ?_
 apply z [31, 1, 2, 30, 30, 79]
 refine b fun _ h5 => ?_
 refine s1 (shlU uk32 (ge0 h5) rfl (k32 (x := 1) rfl) rfl) ?_
 refine so (bsl (y := 102) (ls := List.map u32 ([((1 * 2 ^ (min (Int.toNat (Int.tmod x1 (32 : Int))) 32)) % 4294967296)] : List Nat)) Tryz.underlying67 ti_127.h rfl rfl rfl rfl rfl ⟨rfl, rfl, (by exact rfl), (by exact rfl), trivial⟩ rfl rfl) ?_
 refine sbm (C := fun x => .sl 127 1 (List.map u32 x)) 102 rfl fun z6 => ?_
 refine fz 101 [5, 10, 11] [] ?_
 refine fz 102 [15] [] ?_
 refine cb (ca c_retrospectref04_Mul) fun r7 => ?_
 apply z [31, 1, 8]
 exact rt []
theorem c_retrospectref06_Gcd {n : Nat} {x0} {x1} : ∀ r, m_retrospectref06_Gcd n x0 x1 = some r → FnOk Tryz.prog 150 [sli 1 (List.map u32 x0), sli 1 (List.map u32 x1)] [] (sli 1 (List.map u32 r)) [] := by
 unfold m_retrospectref06_Gcd
 refine fs Tryz.func150 fun w S0 γ hγ => ?_
 apply z [2]
 refine s1 (asg rfl (kLm (k := 1) u32)) ?_
 apply z [1, 2, 30]
 refine b fun r1 h2 => ?_
 refine o (cG (c_retrospectref02_Norm _ h2) [] [(100, 50)] []) ?_
 apply z [31, 1, 2, 30]
 refine b fun r3 h4 => ?_
 refine o (cG (c_retrospectref02_Norm _ h4) [] [(101, 50)] []) ?_
 apply z [31, 1, 5, 2, 30, 55, 41, 1]
 refine c ?_ ?_
 · apply z [2, 30, 31, 1, 8, 10]
   refine fz 101 [4, 6, 14, 18] [] ?_
   exact rt []
 apply z [9, 4, 5, 2, 30, 55, 41, 1]
 refine c ?_ ?_
 · apply z [2, 30, 31, 1, 8, 10]
   refine fz 100 [4, 5, 12, 15, 22] [] ?_
   exact rt []
 apply z [9, 4, 2, 30]
 refine owW 24 (n := r1.length) rfl rfl (List.length_map _).symm ?_
 refine b fun r5 h6 => ?_
 refine o (cG (c_retrospectref06_odd _ h6) [100] [] []) ?_
 apply z [30, 35, 35, 31, 31, 1, 2, 30]
 refine owW 29 (n := r3.length) rfl rfl (List.length_map _).symm ?_
 refine b fun r7 h8 => ?_
 refine o (cG (c_retrospectref06_odd _ h8) [101] [] []) ?_
 apply z [30, 35, 35, 31, 31, 1, 5, 7]
 refine sloopE 0 (fun t => t) (fun s43 => [(4, sli 1 (List.map u32 ([] : List Nat))), (5, .win 100 s43.2.1 s43.2.2.1), (6, .win 101 s43.2.2.2.2.1 s43.2.2.2.2.2), (7, i64 r5.2.2.1), (8, i64 r7.2.2.1)]) (fun s43 => [(100, .sl 127 1 (List.map u32 s43.1)), (101, .sl 127 1 (List.map u32 s43.2.2.2.1))]) (fun t41 => [(4, sli 1 (List.map u32 ([] : List Nat))), (5, .win 100 t41.2.1 t41.2.2), (7, i64 r5.2.2.1), (8, i64 r7.2.2.1)]) (fun t41 => [(100, .sl 127 1 (List.map u32 t41.1))]) (eR [(100, 100), (101, 101)]) ?_ ?_
 · intro hj42 s43
   apply z [7, 2, 30, 30]
   refine b fun y44 h45 => ?_
   refine b fun y46 h47 => ?_
   refine b fun r48 h49 => ?_
   refine s1 (callL (em := []) [100, 101] [] [] [] rfl (c_retrospectref02_Cmp _ h49) trivial (pl_i64) ⟨.inr ⟨100, rfl, .inr ⟨_, _, _, _, rfl, rfl, ifs_map (f := u32) (fun _ => if_u32) s43.1, subW_leM h45, subW_map h45⟩⟩, .inr ⟨101, rfl, .inr ⟨_, _, _, _, rfl, rfl, ifs_map (f := u32) (fun _ => if_u32) s43.2.2.2.1, subW_leM h47, subW_map h47⟩⟩, trivial⟩ (fun _ _ h => by cases h) trivial rfl trivial trivial rfl trivial trivial trivial (rn_id (if_i64)) rfl) ?_
   apply z [31, 1, 5, 2, 30, 41, 1]
   refine c ?_ ?_
   · apply z [14, 15, 21]
     exact su (sj (hj42 _) (eR [(100, 100)]))
   apply z [9, 4]
   refine sjq (fun s52 => [(4, sli 1 (List.map u32 ([] : List Nat))), (5, .win 101 s52.2.1 s52.2.2.1), (6, .win 100 s52.2.2.2.2.1 s52.2.2.2.2.2), (7, i64 r5.2.2.1), (8, i64 r7.2.2.1)]) (fun s52 => [(101, .sl 127 1 (List.map u32 s52.1)), (100, .sl 127 1 (List.map u32 s52.2.2.2.1))]) ?_ ?_
   · intro j50 hj51
     apply z [2, 30, 46, 1]
     refine c ?_ ?_
     · apply z [2, 30, 31, 1, 2, 30, 31, 1, 6, 30, 31, 1]
       exact sj (hj51 _) (eR [(101, 101), (100, 100)])
     apply z [9, 4]
     exact sj (hj51 _) (eR [(101, 100), (100, 101)])
   intro s52
   apply z [2, 30, 30]
   refine b fun y53 h54 => ?_
   refine b fun r55 h56 => ?_
   refine so (callL (em := [(101, .sl 127 1 (List.map u32 r55))]) (res' := .tup []) [100] [(0, 101)] [] [(101, 0)] rfl (c_retrospectref05_Less _ h56) ⟨pls_map (f := u32) (fun _ => pl_u32) _, trivial⟩ (pl_tup (pls_nil)) ⟨.inl ⟨_, rfl, rn_win rfl⟩, .inr ⟨100, rfl, .inr ⟨_, _, _, _, rfl, rfl, ifs_map (f := u32) (fun _ => if_u32) s52.2.2.2.1, subW_leM h54, subW_map h54⟩⟩, trivial⟩ (MiF.get (mi := [(0, _)]) ⟨⟨_, _, rfl, rfl, rc_sl (ifs_map (f := u32) (fun _ => if_u32) s52.1)⟩, trivial⟩) ⟨⟨_, rfl⟩, trivial⟩ rfl trivial ⟨.inr rfl, trivial⟩ rfl ⟨.inl ⟨_, _, rfl, rfl, rc_sl (ifs_map (f := u32) (fun _ => if_u32) r55)⟩, trivial⟩ ⟨⟨_, rfl⟩, trivial⟩ trivial (rn_tup (rns_nil)) rfl) ?_
   apply z [1, 6, 30]
   refine b fun r57 h58 => ?_
   refine o (cG (c_retrospectref06_odd _ h58) [101] [] []) ?_
   apply z [30, 35, 35, 31, 3, 11]
   exact sgo (eR [(100, 101), (101, 100)])
 intro t41
 apply z [13, 4, 2, 30, 30, 30, 89]
 refine b fun y59 h60 => ?_
 refine frzW 51 (f := u32) h60 rfl rfl (ifs_map (f := u32) (fun _ => if_u32) t41.1) ?_
 refine cb (ca c_retrospectref06_double) fun r61 => ?_
 apply z [31, 1, 8]
 exact rt []
theorem c_retrospectref03_Has {n : Nat} {x0} {x1} : ∀ r, m_retrospectref03_Has n x0 x1 = some r → FnOk Tryz.prog 204 [sli 1 (List.map u32 x0), i64 x1] [] (bl r) [] := by
 unfold m_retrospectref03_Has
 refine fs Tryz.func204 fun w S0 γ hγ => ?_
 apply z [2, 31, 1, 5]
 refine sjq (fun s3 => [(0, sli 1 (List.map u32 x0)), (1, i64 x1), (4, bl false), (15, bl s3)]) (fun s3 => []) ?_ ?_
 · intro j1 hj2
   apply z [6, 30, 46, 30]
   refine sifd 9 rfl ?_ ?_
   · apply z [23, 23, 23, 23, 23, 38, 1]
     exact sj (hj2 _) eI
   apply z [22, 22, 22, 22, 22, 37, 1]
   exact sj (hj2 _) eI
 intro s3
 refine c ?_ ?_
 · apply z [2, 31, 1, 8, 10]
   exact rt []
 apply z [9, 4, 2, 30, 30, 78]
 refine b fun y4 h5 => ?_
 apply z [43, 42, 31, 1, 5, 2, 31, 1, 7]
 refine sloopE 0 (fun t => t) (fun s10 => [(1, i64 x1), (4, bl false), (5, u32 s10.1), (6, i64 s10.2)]) (fun s10 => []) (fun t8 => [(4, bl false), (5, u32 t8)]) (fun t8 => []) eI ?_ ?_
 · intro hj9 s10
   apply z [5, 2, 30, 30, 79, 46, 1]
   refine c ?_ ?_
   · apply z [9, 4, 5, 7, 6, 30, 80, 31, 3, 11, 4, 6, 30, 40, 31, 3]
     exact sgo eI
   apply z [14, 15]
   exact su (sj (hj9 _) eI)
 intro t8
 apply z [13, 4, 2, 30, 81, 66, 31, 1, 8]
 exact rt []
theorem c_retrospectref03_Len {n : Nat} {x0} : ∀ r, m_retrospectref03_Len n x0 = some r → FnOk Tryz.prog 190 [sli 1 (List.map u32 x0)] [] (i64 r) [] := by
 unfold m_retrospectref03_Len
 refine fs Tryz.func190 fun w S0 γ hγ => ?_
 apply z [2, 31, 1, 2, 30, 39, 76, 31, 1, 5, 7]
 refine sloopE 0 (fun t => t) (fun s19 => [(0, sli 1 (List.map u32 x0)), (2, i64 (0 : Int)), (3, i64 s19)]) (fun s19 => []) (fun t17 => [(2, i64 (0 : Int)), (3, i64 t17)]) (fun t17 => []) eI ?_ ?_
 · intro hj18 s19
   apply z [5]
   refine sjq (fun s24 => [(0, sli 1 (List.map u32 x0)), (2, i64 (0 : Int)), (3, i64 s19), (15, bl s24)]) (fun s24 => []) ?_ ?_
   · intro j22 hj23
     apply z [6, 30, 47, 30]
     refine sifd 9 rfl ?_ ?_
     · apply z [22, 22, 22]
       refine b fun r25 h26 => ?_
       refine og' (c0 (c_retrospectref03_Has _ h26)) ?_
       apply z [22, 38, 1]
       exact sj (hj23 _) eI
     apply z [23, 23, 23, 23, 23, 37, 1]
     exact sj (hj23 _) eI
   intro s24
   refine c ?_ ?_
   · apply z [9, 4, 7, 6, 30, 49, 31, 3, 11]
     exact sgo eI
   apply z [14, 15]
   exact su (sj (hj18 _) eI)
 intro t17
 apply z [13, 4, 2, 30, 31, 1, 8]
 exact rt []
theorem c_retrospectref05_Double {n : Nat} {x0} {x1} : ∀ r, m_retrospectref05_Double n x0 x1 = some r → FnOk Tryz.prog 191 [.own 0, bl x1] [(0, .sl 127 1 (List.map u32 x0))] (.tup []) [(0, .sl 127 1 (List.map u32 r))] := by
 unfold m_retrospectref05_Double
 refine fs Tryz.func191 fun w S0 γ hγ => ?_
 apply z [2, 31, 1]
 refine sjq (fun s3 => [(0, .own 0), (4, u32 s3)]) (fun s3 => [(0, .sl 127 1 (List.map u32 x0))]) ?_ ?_
 · intro j1 hj2
   apply z [2, 30, 1]
   refine c ?_ ?_
   · apply z [6, 31, 1]
     exact sj (hj2 _) (eR [(0, 0)])
   apply z [9, 4]
   exact sj (hj2 _) (eR [(0, 0)])
 intro s3
 apply z [2, 31, 1, 7]
 refine sloopE 0 (fun t => t) (fun s22 => [(0, .own 0), (4, u32 s22.2.1), (5, i64 s22.2.2)]) (fun s22 => [(0, .sl 127 1 (List.map u32 s22.1))]) (fun t20 => []) (fun t20 => [(0, .sl 127 1 (List.map u32 t20))]) (eR [(0, 0)]) ?_ ?_
 · intro hj21 s22
   apply z [5, 2, 30, 30, 55, 46, 1]
   refine c ?_ ?_
   · apply z [9, 4, 5, 7, 2, 30, 30]
     refine b fun y23 h24 => ?_
     apply z [50, 51, 80, 31, 1, 2, 30, 30, 30, 30]
     refine b fun y25 h26 => ?_
     apply z [50, 51, 63, 30, 61]
     refine b fun y27 h28 => ?_
     apply z [50, 53]
     refine sbm (C := fun x => .sl 127 1 (List.map u32 x)) 0 rfl fun z29 => ?_
     apply z [1, 6, 30, 31, 3, 11, 4, 6, 30, 40, 31, 3]
     exact sgo (eR [(0, 0)])
   apply z [14, 15]
   exact su (sj (hj21 _) (eR [(0, 0)]))
 intro t20
 apply z [13]
 exact rt [(0, 0)]
theorem c_retrospectref05_Div {n : Nat} {x0} {x1} : ∀ r, m_retrospectref05_Div n x0 x1 = some r → FnOk Tryz.prog 173 [sli 1 (List.map u32 x0), sli 1 (List.map u32 x1)] [] (.tup [sli 1 (List.map u32 r.1), sli 1 (List.map u32 r.2)]) [] := by
 unfold m_retrospectref05_Div
 refine fs Tryz.func173 fun w S0 γ hγ => ?_
 apply z [2]
 refine s1 (asg rfl (kLm (k := 1) u32)) ?_
 refine s1 (asg rfl (kLm (k := 1) u32)) ?_
 apply z [1, 2, 30, 39]
 refine b fun y1 h2 => ?_
 refine so (mks (y := 100) (f := u32) h2 Tryz.underlying67 ti_127.h zr_u32 rfl rfl rfl rfl rfl rfl) ?_
 apply z [31, 1, 2, 30, 39, 40]
 refine b fun y3 h4 => ?_
 refine so (mks (y := 101) (f := u32) h4 Tryz.underlying67 ti_127.h zr_u32 rfl rfl rfl rfl rfl rfl) ?_
 apply z [31, 1, 5, 2, 30]
 refine cb (ca c_retrospectref03_Len) fun r5 => ?_
 apply z [49, 31, 1, 7]
 refine sloopE 0 (fun t => t) (fun s97 => [(0, sli 1 (List.map u32 x0)), (1, sli 1 (List.map u32 x1)), (4, sli 1 (List.map u32 ([] : List Nat))), (5, sli 1 (List.map u32 ([] : List Nat))), (6, .own 100), (7, .own 101), (8, i64 s97.2.2)]) (fun s97 => [(100, .sl 127 1 (List.map u32 s97.1)), (101, .sl 127 1 (List.map u32 s97.2.1))]) (fun t95 => [(4, sli 1 (List.map u32 ([] : List Nat))), (5, sli 1 (List.map u32 ([] : List Nat))), (6, .own 100), (7, .own 101)]) (fun t95 => [(100, .sl 127 1 (List.map u32 t95.1)), (101, .sl 127 1 (List.map u32 t95.2))]) (eR [(100, 100), (101, 101)]) ?_ ?_
 · intro hj96 s97
   apply z [5, 2, 30, 57, 1]
   refine c ?_ ?_
   · apply z [9, 4]
     refine sjq (fun s120 => [(0, sli 1 (List.map u32 x0)), (1, sli 1 (List.map u32 x1)), (4, sli 1 (List.map u32 ([] : List Nat))), (5, sli 1 (List.map u32 ([] : List Nat))), (6, .own 100), (7, .own 101), (8, i64 s97.2.2)]) (fun s120 => [(100, .sl 127 1 (List.map u32 s120.1)), (101, .sl 127 1 (List.map u32 s120.2))]) ?_ ?_
     · intro j118 hj119
       apply z [7, 5]
       refine b fun y121 h122 => ?_
       refine b fun _ h123 => ?_
       refine b fun _ h124 => ?_
       refine b fun r125 h126 => ?_
       refine sd ?_
       apply zd [[], [], [], [], [], [], [], []]
       refine dx [30] [] (fun st mm ⟨a30, _⟩ _ => og (shlU uk32 (ge0 h123) rfl (k32 (x := 1) rfl) (a30.trans rfl))) ?_
       apply zd [[], [], []]
       refine dd [101] (fun _ _ _ _ => cG (c_retrospectref05_Double _ h126) [101] [] []) ?_
       refine de fol ?_
       refine sbn (F := u32) 31 rfl fun z127 => ?_
       refine sbn (F := u32) 32 rfl fun z128 => ?_
       refine sbn (F := u32) 33 rfl fun z129 => ?_
       refine sbn (F := bl) 34 rfl fun z130 => ?_
       apply z [4, 2, 30]
       refine b fun r131 h132 => ?_
       refine o (cG (c_retrospectref05_Double _ h132) [100] [] []) ?_
       apply z [1, 2, 30, 30]
       refine b fun r133 h134 => ?_
       refine s1 (callL (em := []) [101] [] [] [] rfl (c_retrospectref02_Cmp _ h134) trivial (pl_i64) ⟨.inr ⟨101, rfl, .inl ⟨rfl, .inl ⟨_, _, _, rfl, ifs_map (f := u32) (fun _ => if_u32) r125, rfl⟩⟩⟩, .inl ⟨_, rfl, rn_id if_sli⟩, trivial⟩ (fun _ _ h => by cases h) trivial rfl trivial trivial rfl trivial trivial trivial (rn_id (if_i64)) rfl) ?_
       apply z [57, 1]
       refine c ?_ ?_
       · apply z [2, 30, 30]
         refine owW 42 (n := r125.length) rfl rfl (List.length_map _).symm ?_
         refine b fun r135 h136 => ?_
         refine o (cG (c_retrospectref05_Less _ h136) [101] [] []) ?_
         apply z [1, 6, 30]
         refine b fun y137 h138 => ?_
         apply z [50, 51, 61]
         refine b fun y139 h140 => ?_
         apply z [50, 53, 3, 11, 4]
         exact sj (hj119 _) (eR [(100, 100), (101, 101)])
       apply z [9, 11, 4]
       exact sj (hj119 _) (eR [(100, 100), (101, 101)])
     intro s120
     apply z [6, 30, 49, 31, 3]
     exact sgo (eR [(100, 100), (101, 101)])
   apply z [14, 15]
   exact su (sj (hj96 _) (eR [(100, 100), (101, 101)]))
 intro t95
 apply z [13, 4, 2, 30]
 refine b fun r141 h142 => ?_
 refine so (callL (em := [(102, .sl 127 1 (List.map u32 r141))]) (res' := .own 102) [100] [] [(102, 50)] [(102, 50)] rfl (c_retrospectref02_Norm _ h142) ⟨pls_map (f := u32) (fun _ => pl_u32) _, trivial⟩ (pl_own) ⟨.inr ⟨100, rfl, .inl ⟨rfl, .inl ⟨_, _, _, rfl, ifs_map (f := u32) (fun _ => if_u32) t95.1, rfl⟩⟩⟩, trivial⟩ (MiF.get (mi := []) trivial) trivial rfl ⟨rfl, trivial⟩ ⟨.inl rfl, trivial⟩ rfl ⟨.inl ⟨_, _, rfl, rfl, rc_sl (ifs_map (f := u32) (fun _ => if_u32) r141)⟩, trivial⟩ trivial ⟨⟨_, rfl⟩, trivial⟩ (rn_own rfl) rfl) ?_
 apply z [30]
 refine b fun r143 h144 => ?_
 refine so (callL (em := [(103, .sl 127 1 (List.map u32 r143))]) (res' := .own 103) [101] [] [(103, 50)] [(103, 50)] rfl (c_retrospectref02_Norm _ h144) ⟨pls_map (f := u32) (fun _ => pl_u32) _, trivial⟩ (pl_own) ⟨.inr ⟨101, rfl, .inl ⟨rfl, .inl ⟨_, _, _, rfl, ifs_map (f := u32) (fun _ => if_u32) t95.2, rfl⟩⟩⟩, trivial⟩ (MiF.get (mi := []) trivial) trivial rfl ⟨rfl, trivial⟩ ⟨.inl rfl, trivial⟩ rfl ⟨.inl ⟨_, _, rfl, rfl, rc_sl (ifs_map (f := u32) (fun _ => if_u32) r143)⟩, trivial⟩ trivial ⟨⟨_, rfl⟩, trivial⟩ (rn_own rfl) rfl) ?_
 apply z [31, 31, 1, 8]
 refine fz 102 [4, 51] [] ?_
 refine fz 103 [5, 53] [] ?_
 exact rt []
theorem c_retrospectref06_Over {n : Nat} {x0} {x1} : ∀ r, m_retrospectref06_Over n x0 x1 = some r → FnOk Tryz.prog 151 [sli 1 (List.map u32 x0), sli 1 (List.map u32 x1)] [] (sli 1 (List.map u32 r)) [] := by
 unfold m_retrospectref06_Over
 refine fs Tryz.func151 fun w S0 γ hγ => ?_
 apply z [2]
 refine s1 (asg rfl (kLm (k := 1) u32)) ?_
 apply z [1, 5, 2, 30]
 refine cb (ca c_retrospectref06_One) fun r1 => ?_
 apply z [1]
 refine c ?_ ?_
 · apply z [2, 30]
   refine b fun r3 h4 => ?_
   refine o (cG (c_retrospectref02_Norm _ h4) [] [(100, 50)] []) ?_
   apply z [31, 1, 8, 10]
   refine fz 100 [4, 10] [] ?_
   exact rt []
 apply z [9, 4, 2, 30, 30]
 refine cb (ca c_retrospectref05_Div) fun r5 => ?_
 apply z [30, 35, 35, 31, 31, 1, 2, 30, 31, 1, 8]
 exact rt []
end Go.Proofs.YtpomhkkhdojpiaaGreatDoor
