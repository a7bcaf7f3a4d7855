import Derived.Test.YtpomhkkhdojpiaaGreatDoorGen3
set_option maxRecDepth 100000
set_option maxHeartbeats 4000000
namespace Go.Proofs.YtpomhkkhdojpiaaGreatDoor
open Go Go.RowKit
theorem c_retrospectlaw17_To {n : Nat} {x0} : ∀ r, m_retrospectlaw17_To n x0 = some r → FnOk Tryz.prog 21 [sli 3 (List.map L_retrospectref17_Node x0)] [] (sli 3 (List.map L_tree_Node r)) [] := by
 unfold m_retrospectlaw17_To
 refine fs Tryz.func21 fun w S0 γ hγ => ?_
 apply z [2]
 refine s1 (asg rfl (kLm (k := 3) L_tree_Node)) ?_
 apply z [1, 2]
 refine so (asgN (y := 100) (E := 69) (k := 3) rfl rfl) ?_
 apply z [1, 5, 2, 31, 1, 7]
 refine sloopE 0 (fun t => t) (fun s21 => [(0, sli 3 (List.map L_retrospectref17_Node x0)), (2, sli 3 (List.map L_tree_Node ([] : List M_tree_Node))), (3, .own 100), (4, i64 s21.2)]) (fun s21 => [(100, .sl 69 3 (List.map L_tree_Node s21.1))]) (fun t19 => [(2, sli 3 (List.map L_tree_Node ([] : List M_tree_Node))), (3, .own 100)]) (fun t19 => [(100, .sl 69 3 (List.map L_tree_Node t19))]) (eR [(100, 100)]) ?_ ?_
 · intro hj20 s21
   apply z [5, 2, 30, 30, 39, 46, 1]
   refine c ?_ ?_
   · apply z [9, 4, 5, 7]
     refine b fun y22 h23 => ?_
     refine b fun y24 h25 => ?_
     refine b fun y26 h27 => ?_
     refine b fun y28 h29 => ?_
     refine sd ?_
     apply zd [[], [], []]
     refine dx [12, 13] [] (fun st mm ⟨a12, a13, _⟩ _ => og (ixR (f := L_retrospectref17_Node) Tryz.underlying45 ti_88.h h23 rfl (a12.trans rfl) (a13.trans rfl))) ?_
     apply zd [[], [], [], []]
     refine dx [17, 18] [] (fun st mm ⟨a17, a18, _⟩ _ => og (ixR (f := L_retrospectref17_Node) Tryz.underlying45 ti_88.h h25 rfl (a17.trans rfl) (a18.trans rfl))) ?_
     apply zd [[], [], [], []]
     refine dx [22, 23] [] (fun st mm ⟨a22, a23, _⟩ _ => og (ixR (f := L_retrospectref17_Node) Tryz.underlying45 ti_88.h h27 rfl (a22.trans rfl) (a23.trans rfl))) ?_
     apply zd [[], []]
     refine dx [16, 21, 26] [] (fun st mm ⟨a16, a21, a26, _⟩ _ => og (bld (l := [i64 y22.Op, i64 y24.I, sli 1 (List.map u32 y26.N)]) pl_69.h ti_69.h zr_tree_Node ⟨_, _, _, (a16.trans rfl), rfl, rfl, rfl, (szk (k := 1) rfl rfl), ⟨_, _, _, (a21.trans rfl), rfl, rfl, rfl, (szk (k := 1) rfl rfl), ⟨_, _, _, (a26.trans rfl), rfl, rfl, rfl, (szk (k := 1) rfl rfl), rfl⟩⟩⟩ rfl)) ?_
     refine dx [27] [101] (fun st mm ⟨a27, _⟩ ⟨g101, _⟩ => og (bsl (y := 101) (ls := List.map L_tree_Node ([(⟨y22.Op, y24.I, y26.N⟩ : M_tree_Node)] : List M_tree_Node)) Tryz.underlying42 ti_69.h rfl rfl rfl rfl rfl ⟨rfl, (a27.trans rfl), (by exact rfl), (by exact rfl), trivial⟩ (g101.trans rfl) rfl)) ?_
     refine dd [100, 101, 102] (fun _ _ _ _ => app' 102) ?_
     apply zd [[]]
     refine de fol ?_
     apply z [11, 4, 6, 30, 40, 31, 3]
     exact sgo (eR [(100, 102)])
   apply z [14, 15]
   exact su (sj (hj20 _) (eR [(100, 100)]))
 intro t19
 apply z [13, 4, 2, 30, 31, 1, 8]
 refine fz 100 [2, 3, 30] [] ?_
 exact rt []
theorem c_retrospectlaw17_ToField {n : Nat} {x0} : ∀ r, m_retrospectlaw17_ToField n x0 = some r → FnOk Tryz.prog 29 [L_retrospectref17_Field x0] [] (L_tree_Field r) [] := by
 unfold m_retrospectlaw17_ToField
 refine fs Tryz.func29 fun w S0 γ hγ => ?_
 apply z [2]
 refine o (bx' 100) ?_
 refine o (al' 101) ?_
 apply z [1, 2]
 refine so (alOw (y := 102) (ly := .agg [.own 103, .own 104]) [(103, 85, 2), (104, 42, 1)] ti_26.h (zo_agg (zos_cons (c1 := [.slice none 0 0]) (zo_own rfl) (zos_cons (c1 := [.slice none 0 0]) (zo_own rfl) (zos_nil)))) ⟨rfl, rfl, trivial⟩ rfl rfl rfl) ?_
 apply z [1, 5, 2, 31, 1, 7]
 refine sloopE 0 (fun t => t) (fun s12 => [(1, .own 100), (2, .own 101), (3, .own 102), (4, i64 s12.2)]) (fun s12 => [(100, .bx 34 (L_retrospectref17_Field x0)), (101, .bx 26 (L_tree_Field (⟨[], []⟩ : M_tree_Field))), (102, .bx 26 (.agg [.own 103, .own 104])), (103, .sl 85 2 (List.map L_tree_Let s12.1)), (104, .sl 42 1 (List.map L_S_tree_Node ([] : List (List M_tree_Node))))]) (fun t10 => [(1, .own 100), (2, .own 101), (3, .own 102)]) (fun t10 => [(100, .bx 34 (L_retrospectref17_Field x0)), (101, .bx 26 (L_tree_Field (⟨[], []⟩ : M_tree_Field))), (102, .bx 26 (.agg [.own 103, .own 104])), (103, .sl 85 2 (List.map L_tree_Let t10)), (104, .sl 42 1 (List.map L_S_tree_Node ([] : List (List M_tree_Node))))]) (eR [(100, 100), (101, 101), (102, 102), (103, 103), (104, 104)]) ?_ ?_
 · intro hj11 s12
   apply z [5, 2, 30, 33, 36, 39, 46, 1]
   refine c ?_ ?_
   · apply z [9, 4, 5, 7]
     refine b fun y13 h14 => ?_
     refine b fun y15 h16 => ?_
     refine b fun r17 h18 => ?_
     refine b fun y19 h20 => ?_
     refine sd ?_
     apply zd [[102], [102], [100], [100], []]
     refine dx [16, 17] [] (fun st mm ⟨a16, a17, _⟩ _ => og (ixR (f := L_retrospectref17_Let) Tryz.underlying31 ti_82.h h14 rfl (a16.trans rfl) (a17.trans rfl))) ?_
     apply zd [[], [], [100], [100], []]
     refine dx [22, 23] [] (fun st mm ⟨a22, a23, _⟩ _ => og (ixR (f := L_retrospectref17_Let) Tryz.underlying31 ti_82.h h16 rfl (a22.trans rfl) (a23.trans rfl))) ?_
     apply zd [[], []]
     refine dd [] (fun _ _ _ _ => c0 (c_retrospectlaw17_To _ h18)) ?_
     refine dx [20, 27] [] (fun st mm ⟨a20, a27, _⟩ _ => og (bld (l := [str y13.Name, sli 3 (List.map L_tree_Node r17)]) pl_85.h ti_85.h zr_tree_Let ⟨_, _, _, (a20.trans rfl), rfl, rfl, rfl, (szk (k := 1) rfl rfl), ⟨_, _, _, (a27.trans rfl), rfl, rfl, rfl, (szk (k := 1) rfl rfl), rfl⟩⟩ rfl)) ?_
     refine dx [28] [105] (fun st mm ⟨a28, _⟩ ⟨g105, _⟩ => og (bsl (y := 105) (ls := List.map L_tree_Let ([(⟨y13.Name, r17⟩ : M_tree_Let)] : List M_tree_Let)) Tryz.underlying23 ti_85.h rfl rfl rfl rfl rfl ⟨rfl, (a28.trans rfl), (by exact rfl), (by exact rfl), trivial⟩ (g105.trans rfl) rfl)) ?_
     refine dd [103, 105, 106] (fun _ _ _ _ => app' 106) ?_
     apply zd [[102]]
     refine dd [102] (fun _ _ _ _ => stP (.agg [.own 106, .own 104]) [0]) ?_
     refine de fol ?_
     apply z [11, 4, 6, 30, 40, 31, 3]
     exact sgo (eR [(100, 100), (101, 101), (102, 102), (103, 106), (104, 104)])
   apply z [14, 15]
   exact su (sj (hj11 _) (eR [(100, 100), (101, 101), (102, 102), (103, 103), (104, 104)]))
 intro t10
 apply z [13, 4, 5, 2, 31, 1, 7]
 refine sloopE 2 (fun t => t) (fun s37 => [(1, .own 100), (2, .own 101), (3, .own 102), (5, i64 s37.2)]) (fun s37 => [(100, .bx 34 (L_retrospectref17_Field x0)), (101, .bx 26 (L_tree_Field (⟨[], []⟩ : M_tree_Field))), (102, .bx 26 (.agg [.own 103, .own 104])), (103, .sl 85 2 (List.map L_tree_Let t10)), (104, .sl 42 1 (List.map L_S_tree_Node s37.1))]) (fun t35 => [(2, .own 101), (3, .own 102)]) (fun t35 => [(101, .bx 26 (L_tree_Field (⟨[], []⟩ : M_tree_Field))), (102, .bx 26 (.agg [.own 103, .own 104])), (103, .sl 85 2 (List.map L_tree_Let t10)), (104, .sl 42 1 (List.map L_S_tree_Node t35))]) (eR [(100, 100), (101, 101), (102, 102), (103, 103), (104, 104)]) ?_ ?_
 · intro hj36 s37
   apply z [5, 2, 30, 33, 36, 39, 46, 1]
   refine c ?_ ?_
   · apply z [9, 4, 5, 7]
     refine b fun y38 h39 => ?_
     refine b fun r40 h41 => ?_
     refine b fun y42 h43 => ?_
     refine sd ?_
     apply zd [[102], [102], [100], [100], [], [], []]
     refine dd [] (fun _ _ _ _ => c0 (c_retrospectlaw17_To _ h41)) ?_
     refine dx [46] [105] (fun st mm ⟨a46, _⟩ ⟨g105, _⟩ => og (bsl (y := 105) (ls := List.map L_S_tree_Node ([r40] : List (List M_tree_Node))) Tryz.underlying24 ti_42.h rfl rfl rfl rfl rfl ⟨rfl, (a46.trans rfl), (by exact rfl), (by exact rfl), trivial⟩ (g105.trans rfl) rfl)) ?_
     refine dd [104, 105, 106] (fun _ _ _ _ => app' 106) ?_
     apply zd [[102]]
     refine dd [102] (fun _ _ _ _ => stP (.agg [.own 103, .own 106]) [1]) ?_
     refine de fol ?_
     apply z [11, 4, 6, 30, 40, 31, 3]
     exact sgo (eR [(100, 100), (101, 101), (102, 102), (103, 103), (104, 106)])
   apply z [14, 15]
   exact su (sj (hj36 _) (eR [(101, 101), (102, 102), (103, 103), (104, 104)]))
 intro t35
 apply z [13, 4, 2, 32, 34, 1, 8]
 refine fz 103 [50] [101, 102] ?_
 refine fz 104 [50] [101, 102] ?_
 exact rt []
theorem c_tree_copied {x0} : ∀ r, m_tree_copied x0 = some r → FnOk Tryz.prog 154 [sli 3 (List.map L_tree_Node x0)] [] (sli 3 (List.map L_tree_Node r)) [] := by
 unfold m_tree_copied
 refine fs Tryz.func154 fun w S0 γ hγ => ?_
 apply z [2]
 refine s1 (asg rfl (kLm (k := 3) L_tree_Node)) ?_
 apply z [1, 2]
 refine so (asgN (y := 100) (E := 69) (k := 3) rfl rfl) ?_
 apply z [1, 5, 2, 30, 39, 30, 1, 7]
 refine srN (fun s18 => [(2, sli 3 (List.map L_tree_Node ([] : List M_tree_Node))), (3, .own 100), (6, sli 3 (List.map L_tree_Node x0))]) (fun s18 => [(100, .sl 69 3 (List.map L_tree_Node s18))]) (rE (eR [(100, 100)])) ?_ ?_
 · intro i19 x20 s18 hx21
   apply z [7, 2, 43, 42]
   refine o (al' 101) ?_
   apply z [34, 1]
   refine b fun y22 h23 => ?_
   refine b fun y24 h25 => ?_
   refine sd ?_
   apply zd [[], [101], [101], [101], [101], [101], [101]]
   refine dx [18] [102] (fun st mm ⟨a18, _⟩ ⟨g102, _⟩ => og (toV (appN (y := 102) (f := u32) h23 Tryz.underlying67 ti_127.h rfl rfl (a18.trans rfl) (.inl rfl) (g102.trans rfl) rfl) (ifs_map (f := u32) (fun _ => if_u32) y22))) ?_
   refine dx [14, 16, 19] [] (fun st mm ⟨a14, a16, a19, _⟩ _ => og (bld (l := [i64 x20.Op, i64 x20.I, sli 1 (List.map u32 y22)]) pl_69.h ti_69.h zr_tree_Node ⟨_, _, _, (a14.trans rfl), rfl, rfl, rfl, (szk (k := 1) rfl rfl), ⟨_, _, _, (a16.trans rfl), rfl, rfl, rfl, (szk (k := 1) rfl rfl), ⟨_, _, _, (a19.trans rfl), rfl, rfl, rfl, (szk (k := 1) rfl rfl), rfl⟩⟩⟩ rfl)) ?_
   refine dx [20] [103] (fun st mm ⟨a20, _⟩ ⟨g103, _⟩ => og (bsl (y := 103) (ls := List.map L_tree_Node ([(⟨x20.Op, x20.I, y22⟩ : M_tree_Node)] : List M_tree_Node)) Tryz.underlying42 ti_69.h rfl rfl rfl rfl rfl ⟨rfl, (a20.trans rfl), (by exact rfl), (by exact rfl), trivial⟩ (g103.trans rfl) rfl)) ?_
   refine dd [100, 103, 104] (fun _ _ _ _ => app' 104) ?_
   apply zd [[]]
   refine de fol ?_
   apply z [11]
   exact sgo (eR [(100, 104)])
 intro s26
 apply z [13, 4, 2, 30, 31, 1, 8]
 refine fz 100 [2, 3, 24] [] ?_
 exact rt []
theorem c_tree_Codes {x0} : ∀ r, m_tree_Codes x0 = some r → FnOk Tryz.prog 128 [L_tree_Field x0] [] (sli 1 (List.map L_S_tree_Node r)) [] := by
 unfold m_tree_Codes
 refine fs Tryz.func128 fun w S0 γ hγ => ?_
 apply z [2]
 refine o (bx' 100) ?_
 refine s1 (asg rfl (kLm (k := 1) L_S_tree_Node)) ?_
 apply z [1, 2]
 refine so (asgN (y := 101) (E := 42) (k := 1) rfl rfl) ?_
 apply z [1, 5, 2, 33, 36, 39, 30, 1, 7]
 refine srN (fun s18 => [(1, .own 100), (2, sli 1 (List.map L_S_tree_Node ([] : List (List M_tree_Node)))), (3, .own 101), (9, sli 2 (List.map L_tree_Let x0.Lets))]) (fun s18 => [(100, .bx 26 (L_tree_Field x0)), (101, .sl 42 1 (List.map L_S_tree_Node s18))]) (rE (eR [(100, 100), (101, 101)])) ?_ ?_
 · intro i19 x20 s18 hx21
   apply z [7, 2, 43, 42]
   refine o (al' 102) ?_
   apply z [34, 1, 6, 30, 33, 36]
   refine cb (ca c_tree_copied) fun r22 => ?_
   refine so (bsl (y := 103) (ls := List.map L_S_tree_Node ([r22] : List (List M_tree_Node))) Tryz.underlying24 ti_42.h rfl rfl rfl rfl rfl ⟨rfl, rfl, (by exact rfl), (by exact rfl), trivial⟩ rfl rfl) ?_
   refine b fun y24 h25 => ?_
   refine o (app' 104) ?_
   apply z [31, 3, 11]
   exact sgo (eR [(100, 100), (101, 104)])
 intro s26
 apply z [13, 4, 5, 2, 33, 36, 39, 30, 1, 7]
 refine srN (fun s44 => [(2, sli 1 (List.map L_S_tree_Node ([] : List (List M_tree_Node)))), (3, .own 101), (23, sli 1 (List.map L_S_tree_Node x0.Outs))]) (fun s44 => [(101, .sl 42 1 (List.map L_S_tree_Node s44))]) (rE (eR [(101, 101)])) ?_ ?_
 · intro i45 x46 s44 hx47
   apply z [7, 2, 43, 42, 31, 1, 6, 30, 30]
   refine cb (ca c_tree_copied) fun r48 => ?_
   refine so (bsl (y := 102) (ls := List.map L_S_tree_Node ([r48] : List (List M_tree_Node))) Tryz.underlying24 ti_42.h rfl rfl rfl rfl rfl ⟨rfl, rfl, (by exact rfl), (by exact rfl), trivial⟩ rfl rfl) ?_
   refine b fun y50 h51 => ?_
   refine o (app' 103) ?_
   apply z [31, 3, 11]
   exact sgo (eR [(101, 103)])
 intro s52
 apply z [13, 4, 2, 30, 31, 1, 8]
 refine fz 101 [2, 3, 35] [] ?_
 exact rt []
theorem c_tree_Size {x0} : ∀ r, m_tree_Size x0 = some r → FnOk Tryz.prog 99 [L_tree_Field x0] [] (i64 r) [] := by
 unfold m_tree_Size
 refine fs Tryz.func99 fun w S0 γ hγ => ?_
 apply z [2]
 refine o (bx' 100) ?_
 apply z [31, 1, 2, 31, 1, 5, 2, 32]
 refine cb (ca c_tree_Codes) fun r1 => ?_
 apply z [39, 30, 1, 7]
 refine srN (fun s12 => [(2, i64 (0 : Int)), (3, i64 s12), (7, sli 1 (List.map L_S_tree_Node r1))]) (fun s12 => []) (rE (eR [])) ?_ ?_
 · intro i13 x14 s12 hx15
   apply z [7, 2, 43, 42, 31, 1, 6, 30, 30, 39, 40, 31, 3, 11]
   exact sgo eI
 intro s16
 apply z [13, 4, 2, 30, 31, 1, 8]
 exact rt []
theorem c_check_whole {x0} {x1} {x2} : ∀ r, m_check_whole x0 x1 x2 = some r → FnOk Tryz.prog 62 [L_tree_Field x0, i64 x1, i64 x2] [] (bl r) [] := by
 unfold m_check_whole
 refine fs Tryz.func62 fun w S0 γ hγ => ?_
 apply z [2]
 refine o (bx' 100) ?_
 apply z [31, 1]
 refine sjq (fun s5 => [(6, bl s5)]) (fun s5 => []) ?_ ?_
 · intro j3 hj4
   apply z [6, 30, 57, 30]
   refine sifd 9 rfl ?_ ?_
   · apply z [22, 22, 38, 30]
     refine sifd 13 rfl ?_ ?_
     · apply z [22, 22, 38, 30]
       refine sifd 17 rfl ?_ ?_
       · apply z [22, 22, 38, 30]
         refine sifd 21 rfl ?_ ?_
         · apply z [22, 22, 22, 22, 22, 38, 30]
           refine sifd 28 rfl ?_ ?_
           · apply z [22, 22, 22, 22, 38, 30]
             refine sifd 34 rfl ?_ ?_
             · apply z [22]
               refine b fun r6 h7 => ?_
               refine og' (c0 (c_tree_Size _ h7)) ?_
               apply z [22, 38, 31, 1]
               exact sj (hj4 _) (eR [])
             apply z [23, 23, 23, 37, 31, 1]
             exact sj (hj4 _) (eR [])
           apply z [23, 23, 23, 23, 37, 30, 23, 23, 23, 37, 31, 1]
           exact sj (hj4 _) (eR [])
         apply z [23, 23, 23, 23, 23, 37, 30, 23, 23, 23, 23, 37, 30, 23, 23, 23, 37, 31, 1]
         exact sj (hj4 _) (eR [])
       apply z [23, 23, 37, 30, 23, 23, 23, 23, 23, 37, 30, 23, 23, 23, 23, 37, 30, 23, 23, 23, 37, 31, 1]
       exact sj (hj4 _) (eR [])
     apply z [23, 23, 37, 30, 23, 23, 37, 30, 23, 23, 23, 23, 23, 37, 30, 23, 23, 23, 23, 37, 30, 23, 23, 23, 37, 31, 1]
     exact sj (hj4 _) (eR [])
   apply z [23, 23, 37, 30, 23, 23, 37, 30, 23, 23, 37, 30, 23, 23, 23, 23, 23, 37, 30, 23, 23, 23, 23, 37, 30, 23, 23, 23, 37, 31, 1]
   exact sj (hj4 _) (eR [])
 intro s5
 apply z [8]
 exact rt []
theorem c_lex_Right {n : Nat} {x0} : ∀ r, m_lex_Right n x0 = some r → FnOk Tryz.prog 100 [L_lex_Word x0] [] (bl r) [] := by
 unfold m_lex_Right
 refine fs Tryz.func100 fun w S0 γ hγ => ?_
 apply z [2]
 refine o (bx' 100) ?_
 apply z [31, 1, 5]
 refine sjq (fun s9 => [(1, .own 100), (2, bl false), (19, bl s9)]) (fun s9 => [(100, .bx 156 (L_lex_Word x0))]) ?_ ?_
 · intro j7 hj8
   refine sif (fun hb10 => ?_) (fun hb10 => ?_)
   · refine sd ?_
     apply zd [[100], [100], []]
     refine dd [] (fun _ _ _ _ => obk hb10 ops) ?_
     apply zd [[], [], [], [], [], [], [], [], [], [], [], [], []]
     refine de fol ?_
     apply z [4]
     exact sj (hj8 _) (eR [(100, 100)])
   refine sif (fun hb11 => ?_) (fun hb11 => ?_)
   · refine sd ?_
     apply zd [[100], [100], []]
     refine dd [] (fun _ _ _ _ => obk hb10 ops) ?_
     apply zd [[100], [100], [], []]
     refine dd [] (fun _ _ _ _ => obk hb11 ops) ?_
     apply zd [[], [], [], [], [], [], [], []]
     refine de fol ?_
     apply z [4]
     exact sj (hj8 _) (eR [(100, 100)])
   refine b fun y12 h13 => ?_
   refine b fun r14 h15 => ?_
   refine sd ?_
   apply zd [[100], [100], []]
   refine dd [] (fun _ _ _ _ => obk hb10 ops) ?_
   apply zd [[100], [100], [], []]
   refine dd [] (fun _ _ _ _ => obk hb11 ops) ?_
   apply zd [[100], [100], []]
   refine dG [] (fun _ _ _ _ => c0 (c_lex_kind _ h15)) ?_
   apply zd [[100], [100], [], []]
   refine de fol ?_
   apply z [4]
   exact sj (hj8 _) (eR [(100, 100)])
 intro s9
 refine c ?_ ?_
 · apply z [2, 31, 1, 8, 10]
   exact rt []
 apply z [9, 4]
 refine sjq (fun s23 => [(2, bl s23)]) (fun s23 => []) ?_ ?_
 · intro j21 hj22
   refine b fun r24 h25 => ?_
   refine sif (fun hb26 => ?_) (fun hb26 => ?_)
   · refine b fun r27 h28 => ?_
     refine sd ?_
     apply zd [[100], [100], [100], [100]]
     refine dd [] (fun _ _ _ _ => c0 (c_lex_first _ h25)) ?_
     apply zd [[100], [100], [], []]
     refine dd [] (fun _ _ _ _ => obk hb26 ops) ?_
     apply zd [[100], [100], [], [100], [100]]
     refine dG [] (fun _ _ _ _ => c0 (c_lex_most _ h28)) ?_
     apply zd [[], [], []]
     refine de fol ?_
     apply z [4]
     exact sj (hj22 _) (eR [])
   refine sd ?_
   apply zd [[100], [100], [100], [100]]
   refine dd [] (fun _ _ _ _ => c0 (c_lex_first _ h25)) ?_
   apply zd [[100], [100], [], []]
   refine dd [] (fun _ _ _ _ => obk hb26 ops) ?_
   apply zd [[], [], [], [], [], [], [], [], []]
   refine de fol ?_
   apply z [4]
   exact sj (hj22 _) (eR [])
 intro s23
 apply z [8]
 exact rt []
theorem c_check_Name {n : Nat} {x0} : ∀ r, m_check_Name n x0 = some r → FnOk Tryz.prog 63 [str x0] [] (bl r) [] := by
 unfold m_check_Name
 refine fs Tryz.func63 fun w S0 γ hγ => ?_
 apply z [2, 31, 1, 5, 2, 30, 1, 7]
 refine sjq (fun s3 => [(0, str x0), (2, bl false), (4, bl s3)]) (fun s3 => []) ?_ ?_
 · intro j1 hj2
   apply z [2, 72, 31, 1]
   refine c ?_ ?_
   · apply z [9, 4]
     exact sj (hj2 _) eI
   apply z [2, 72, 31, 1]
   refine c ?_ ?_
   · apply z [9, 4]
     exact sj (hj2 _) eI
   apply z [2, 72, 31, 1]
   refine c ?_ ?_
   · apply z [9, 4]
     exact sj (hj2 _) eI
   apply z [6, 72, 31, 1]
   exact sj (hj2 _) eI
 intro s3
 refine c ?_ ?_
 · apply z [2, 31, 1, 8, 12, 10]
   exact rt []
 apply z [9, 11, 4, 2, 30]
 refine s1 (bld (l := [i64 (2 : Int), str x0, i64 0]) pl_156.h ti_156.h zr_lex_Word ⟨_, _, _, (kI (x := 2) rfl), rfl, rfl, rfl, (szk (k := 1) rfl rfl), ⟨_, _, _, rfl, rfl, rfl, rfl, (szk (k := 1) rfl rfl), rfl⟩⟩ rfl) ?_
 refine cb (ca c_lex_Right) fun r4 => ?_
 apply z [31, 1, 8]
 exact rt []
theorem c_check_twice {n : Nat} {x0} {x1} : ∀ r, m_check_twice n x0 x1 = some r → FnOk Tryz.prog 64 [sli 2 (List.map L_tree_Let x0), i64 x1] [] (bl r) [] := by
 unfold m_check_twice
 refine fs Tryz.func64 fun w S0 γ hγ => ?_
 apply z [2, 31, 1, 5, 2, 30, 30, 1, 7]
 refine sloopE 0 Lp.go (fun s13 => [(0, sli 2 (List.map L_tree_Let x0)), (1, i64 x1), (4, bl false), (6, i64 x1), (7, i64 s13)]) (fun s13 => []) (fun t11 => [(4, bl false)]) (fun t11 => []) eI ?_ ?_
 · intro hj12 s13
   apply z [2, 46, 1, 5]
   refine c ?_ ?_
   · apply z [9, 4, 5, 7, 2, 30, 31, 1, 5]
     refine b fun y14 h15 => ?_
     refine b fun y16 h17 => ?_
     refine sd ?_
     apply zd [[], [], [], [], [], [], [], [], [], [], []]
     refine de fol ?_
     apply z [4]
     refine c ?_ ?_
     · apply z [2, 31, 1, 8, 12, 10]
       refine sU ?_
       apply z [12, 10]
       exact rt []
     apply z [9, 11, 4, 6, 40, 30, 3]
     exact sgo eI
   apply z [14, 15]
   exact su (sj (hj12 _) eI)
 intro t11
 refine slpk ?_
 apply z [13, 4, 2, 31, 1, 8]
 exact rt []
theorem c_tree_Right {x0} : ∀ r, m_tree_Right x0 = some r → FnOk Tryz.prog 51 [sli 3 (List.map L_tree_Node x0)] [] (bl r) [] := by
 unfold m_tree_Right
 refine fs Tryz.func51 fun w S0 γ hγ => ?_
 apply z [2, 31, 1, 2, 30]
 refine cb (ca c_tree_Wrong) fun r1 => ?_
 apply z [46, 31, 1, 8]
 exact rt []
theorem c_tree_Depth {n : Nat} {x0} : ∀ r, m_tree_Depth n x0 = some r → FnOk Tryz.prog 101 [sli 3 (List.map L_tree_Node x0)] [] (i64 r) [] := by
 unfold m_tree_Depth
 refine fs Tryz.func101 fun w S0 γ hγ => ?_
 apply z [2, 31, 1, 5, 2, 30]
 refine cb (ca c_tree_Right) fun r1 => ?_
 apply z [44, 1]
 refine c ?_ ?_
 · apply z [2, 31, 1, 8, 10]
   exact rt []
 apply z [9, 4, 2]
 refine so (asgN (y := 100) (E := 3) (k := 1) rfl rfl) ?_
 apply z [1, 5, 2, 30, 39, 30, 1, 7]
 refine srN (fun s49 => [(2, i64 (0 : Int)), (3, .own 100), (10, sli 3 (List.map L_tree_Node x0))]) (fun s49 => [(100, .sl 3 1 (List.map i64 s49))]) (rE (eR [(100, 100)])) ?_ ?_
 · intro i50 x51 s49 hx52
   apply z [7, 2, 43, 42]
   refine o (al' 101) ?_
   apply z [34, 1, 2, 31, 1, 5, 2, 33, 36]
   refine cb (ca c_tree_Arity) fun r53 => ?_
   apply z [30, 1, 7]
   refine sloopE 2 (fun t => t) (fun s62 => [(2, i64 (0 : Int)), (3, .own 100), (6, i64 s62.2.1), (10, sli 3 (List.map L_tree_Node x0)), (11, i64 (x0.length : Int)), (12, i64 (i50 : Int)), (18, i64 r53), (19, i64 s62.2.2)]) (fun s62 => [(100, .sl 3 1 (List.map i64 s62.1))]) (fun t60 => [(2, i64 (0 : Int)), (3, .own 100), (6, i64 t60.2), (10, sli 3 (List.map L_tree_Node x0)), (11, i64 (x0.length : Int)), (12, i64 (i50 : Int))]) (fun t60 => [(100, .sl 3 1 (List.map i64 t60.1))]) (eR [(100, 100)]) ?_ ?_
   · intro hj61 s62
     apply z [2, 46, 1, 5]
     refine c ?_ ?_
     · apply z [9, 4, 5, 7, 2, 30, 30, 30, 55, 49]
       refine b fun y63 h64 => ?_
       apply z [50, 51, 88, 31, 1, 6, 30, 30, 55, 49]
       refine b fun y65 h66 => ?_
       refine so (slO (y := 102) (f := i64) h66 rfl Tryz.underlying172 ti_3.h rfl rfl (bnd rfl) rfl) ?_
       apply z [31, 3, 11, 4, 6, 40, 30, 3]
       exact sgo (eR [(100, 102)])
     apply z [14, 15]
     exact su (sj (hj61 _) (eR [(100, 100)]))
   intro t60
   apply z [13, 4, 6, 30, 30, 40]
   refine so (bsl (y := 102) (ls := List.map i64 ([wrap64 (t60.2 + (1 : Int))] : List Int)) Tryz.underlying172 ti_3.h rfl rfl rfl rfl rfl ⟨rfl, rfl, (by exact rfl), (by exact rfl), trivial⟩ rfl rfl) ?_
   refine b fun y67 h68 => ?_
   refine o (app' 103) ?_
   apply z [31, 3, 11]
   exact sgo (eR [(100, 103)])
 intro s69
 apply z [13, 4, 2, 30]
 refine b fun y70 h71 => ?_
 apply z [50, 51, 31, 1, 8]
 exact rt []
theorem c_check_part {n : Nat} {x0} {x1} {x2} {x3} {x4} : ∀ r, m_check_part n x0 x1 x2 x3 x4 = some r → FnOk Tryz.prog 65 [sli 3 (List.map L_tree_Node x0), i64 x1, i64 x2, i64 x3, i64 x4] [] (L_api_Fault r) [] := by
 unfold m_check_part
 refine fs Tryz.func65 fun w S0 γ hγ => ?_
 apply z [2]
 refine o (al' 100) ?_
 apply z [1, 2, 30, 30, 30, 30]
 refine cb (ca c_check_Place) fun r1 => ?_
 apply z [31, 1]
 refine sjq (fun s12 => [(1, i64 x1), (10, .own 100), (11, i64 s12)]) (fun s12 => [(100, .bx 28 (L_api_Fault (⟨0, 0, 0, 0⟩ : M_api_Fault)))]) ?_ ?_
 · intro j10 hj11
   refine sjq (fun s17 => [(0, sli 3 (List.map L_tree_Node x0)), (1, i64 x1), (10, .own 100), (11, i64 r1), (23, bl s17)]) (fun s17 => [(100, .bx 28 (L_api_Fault (⟨0, 0, 0, 0⟩ : M_api_Fault)))]) ?_ ?_
   · intro j15 hj16
     apply z [6, 30, 46, 30]
     refine sifd 19 rfl ?_ ?_
     · apply z [22]
       refine b fun r18 h19 => ?_
       refine og' (c0 (c_tree_Depth _ h19)) ?_
       apply z [22, 38, 1]
       exact sj (hj16 _) (eR [(100, 100)])
     apply z [23, 23, 23, 37, 1]
     exact sj (hj16 _) (eR [(100, 100)])
   intro s17
   refine c ?_ ?_
   · apply z [6, 30, 39, 31, 1]
     exact sj (hj11 _) (eR [(100, 100)])
   apply z [9, 4]
   exact sj (hj11 _) (eR [(100, 100)])
 intro s12
 apply z [5, 2, 30, 46, 1]
 refine c ?_ ?_
 · apply z [2]
   refine s1 (bld (l := [i64 0, i64 0, i64 0, i64 0]) pl_28.h ti_28.h zr_api_Fault rfl rfl) ?_
   apply z [34, 1, 8, 10]
   exact rt []
 apply z [9, 4, 2, 30, 30]
 refine s1 (bld (l := [i64 (2 : Int), i64 x1, i64 0, i64 s12]) pl_28.h ti_28.h zr_api_Fault ⟨_, _, _, (kI (x := 2) rfl), rfl, rfl, rfl, (szk (k := 1) rfl rfl), ⟨_, _, _, rfl, rfl, rfl, rfl, (szk (k := 1) rfl rfl), ⟨_, _, _, rfl, rfl, rfl, rfl, (szk (k := 1) rfl rfl), rfl⟩⟩⟩ rfl) ?_
 apply z [34, 1, 8]
 exact rt []
theorem c_check_Check {n : Nat} {x0} {x1} {x2} : ∀ r, m_check_Check n x0 x1 x2 = some r → FnOk Tryz.prog 33 [L_tree_Field x0, i64 x1, i64 x2] [] (L_api_Fault r) [] := by
 unfold m_check_Check
 refine fs Tryz.func33 fun w S0 γ hγ => ?_
 apply z [2]
 refine o (bx' 100) ?_
 refine o (al' 101) ?_
 apply z [1, 5, 2, 32, 30, 30]
 refine cb (ca c_check_whole) fun r1 => ?_
 apply z [44, 1]
 refine c ?_ ?_
 · apply z [2]
   refine s1 (bld (l := [i64 (2 : Int), i64 0, i64 0, i64 0]) pl_28.h ti_28.h zr_api_Fault ⟨_, _, _, (kI (x := 2) rfl), rfl, rfl, rfl, (szk (k := 1) rfl rfl), rfl⟩ rfl) ?_
   apply z [34, 1, 8, 10]
   exact rt []
 apply z [9, 4, 5, 2, 33, 36, 39, 30, 1, 7]
 refine srN (fun s21 => [(1, i64 x1), (2, i64 x2), (3, .own 100), (6, .own 101), (20, sli 2 (List.map L_tree_Let x0.Lets))]) (fun s21 => [(100, .bx 26 (L_tree_Field x0)), (101, .bx 28 (L_api_Fault (⟨0, 0, 0, 0⟩ : M_api_Fault)))]) (rE (eR [(100, 100), (101, 101)])) ?_ ?_
 · intro i22 x23 s21 hx24
   apply z [7, 2, 30, 43, 42]
   refine o (al' 102) ?_
   apply z [31, 34, 1, 5]
   refine sjq (fun s31 => [(1, i64 x1), (2, i64 x2), (3, .own 100), (6, .own 101), (7, i64 (i22 : Int)), (8, .own 102), (20, sli 2 (List.map L_tree_Let x0.Lets)), (21, i64 (x0.Lets.length : Int)), (22, i64 (i22 : Int)), (36, bl s31)]) (fun s31 => [(100, .bx 26 (L_tree_Field x0)), (101, .bx 28 (L_api_Fault (⟨0, 0, 0, 0⟩ : M_api_Fault))), (102, .bx 85 (L_tree_Let x23))]) ?_ ?_
   · intro j29 hj30
     apply z [6, 33, 36]
     refine cb (ca c_check_Name) fun r32 => ?_
     apply z [44, 30]
     refine sifd 31 rfl ?_ ?_
     · apply z [23, 23, 23, 23, 38, 1]
       exact sj (hj30 _) (eR [(100, 100), (101, 101), (102, 102)])
     apply z [22, 22, 22]
     refine b fun r34 h35 => ?_
     refine og' (c0 (c_check_twice _ h35)) ?_
     apply z [37, 1]
     exact sj (hj30 _) (eR [(100, 100), (101, 101), (102, 102)])
   intro s31
   refine c ?_ ?_
   · apply z [2, 30, 40]
     refine s1 (bld (l := [i64 (2 : Int), i64 (wrap64 ((i22 : Int) + (1 : Int))), i64 (1 : Int), i64 0]) pl_28.h ti_28.h zr_api_Fault ⟨_, _, _, (kI (x := 2) rfl), rfl, rfl, rfl, (szk (k := 1) rfl rfl), ⟨_, _, _, rfl, rfl, rfl, rfl, (szk (k := 1) rfl rfl), ⟨_, _, _, (kI (x := 1) rfl), rfl, rfl, rfl, (szk (k := 1) rfl rfl), rfl⟩⟩⟩ rfl) ?_
     apply z [34, 1, 8, 10, 12]
     refine sU ?_
     apply z [12, 10]
     exact rt []
   apply z [9, 4, 2, 33, 36, 30, 40, 30, 30, 30]
   refine cb (ca c_check_part) fun r36 => ?_
   refine o (al' 103) ?_
   apply z [34, 1, 2, 32]
   refine s1 (bld (l := [i64 0, i64 0, i64 0, i64 0]) pl_28.h ti_28.h zr_api_Fault rfl rfl) ?_
   refine s1 (neA (p := (r36 : M_api_Fault)) (q := ((⟨0, 0, 0, 0⟩ : M_api_Fault) : M_api_Fault)) eq_28_2 rfl eg_28 rfl rfl rfl) ?_
   apply z [1]
   refine c ?_ ?_
   · apply z [2, 32, 34, 1, 8, 12]
     refine sU ?_
     apply z [12, 10]
     exact rt []
   apply z [9, 11]
   exact sgo (eR [(100, 100), (101, 101)])
 intro s38
 apply z [13, 4, 5, 2, 33, 36, 39, 30, 1, 7]
 refine srN (fun s46 => [(1, i64 x1), (2, i64 x2), (3, .own 100), (6, .own 101), (54, sli 1 (List.map L_S_tree_Node x0.Outs))]) (fun s46 => [(100, .bx 26 (L_tree_Field x0)), (101, .bx 28 (L_api_Fault (⟨0, 0, 0, 0⟩ : M_api_Fault)))]) (rE (eR [(100, 100), (101, 101)])) ?_ ?_
 · intro i47 x48 s46 hx49
   apply z [7, 2, 30, 43, 42, 31, 31, 1, 2, 30, 33, 36, 39, 30, 40, 40, 30, 30, 33, 36, 39]
   refine cb (ca c_check_part) fun r50 => ?_
   refine o (al' 102) ?_
   apply z [34, 1, 2, 32]
   refine s1 (bld (l := [i64 0, i64 0, i64 0, i64 0]) pl_28.h ti_28.h zr_api_Fault rfl rfl) ?_
   refine s1 (neA (p := (r50 : M_api_Fault)) (q := ((⟨0, 0, 0, 0⟩ : M_api_Fault) : M_api_Fault)) eq_28_2 rfl eg_28 rfl rfl rfl) ?_
   apply z [1]
   refine c ?_ ?_
   · apply z [2, 32, 34, 1, 8, 12]
     refine sU ?_
     apply z [12, 10]
     exact rt []
   apply z [9, 11]
   exact sgo (eR [(100, 100), (101, 101)])
 intro s52
 apply z [13, 4, 2]
 refine s1 (bld (l := [i64 0, i64 0, i64 0, i64 0]) pl_28.h ti_28.h zr_api_Fault rfl rfl) ?_
 apply z [34, 1, 8]
 exact rt []
theorem c_show_Field {n : Nat} {x0} : ∀ r, m_show_Field n x0 = some r → FnOk Tryz.prog 28 [L_tree_Field x0] [] (.tup [str r.1, bl r.2]) [] := by
 unfold m_show_Field
 refine fs Tryz.func28 fun w S0 γ hγ => ?_
 apply z [2]
 refine o (bx' 100) ?_
 apply z [31, 31, 1, 5, 2, 32, 33, 36, 39]
 refine cb (ca c_check_Check) fun r1 => ?_
 refine s1 (bld (l := [i64 0, i64 0, i64 0, i64 0]) pl_28.h ti_28.h zr_api_Fault rfl rfl) ?_
 refine s1 (neA (p := (r1 : M_api_Fault)) (q := ((⟨0, 0, 0, 0⟩ : M_api_Fault) : M_api_Fault)) eq_28_2 rfl eg_28 rfl rfl rfl) ?_
 apply z [1]
 refine c ?_ ?_
 · apply z [2, 31, 31, 1, 8, 10]
   exact rt []
 apply z [9, 4, 2]
 refine so (alOw (y := 101) (ly := .agg [.por 101, .own 102]) [(102, 5, 1)] ti_102.h (zo_agg (zos_cons (c1 := [.pointer none]) zo_por (zos_cons (c1 := [.slice none 0 0]) (zo_own rfl) zos_nil))) ⟨rfl, trivial⟩ rfl rfl rfl) ?_
 apply z [1, 2]
 refine so (asgN (y := 103) (E := 9) (k := 1) rfl rfl) ?_
 apply z [1, 5, 2, 33, 36, 39, 30, 1, 7]
 refine srN (fun s22 => [(1, .own 100), (2, str ([] : List UInt8)), (3, bl false), (4, .own 101), (5, .own 103), (19, sli 2 (List.map L_tree_Let x0.Lets))]) (fun s22 => [(100, .bx 26 (L_tree_Field x0)), (101, .bx 102 (.agg [.por 101, .own 102])), (102, .sl 5 1 (List.map ub s22.1)), (103, .sl 9 1 (List.map str s22.2))]) (rE (eR [(100, 100), (101, 101), (102, 102), (103, 103)])) ?_ ?_
 · intro i23 x24 s22 hx25
   apply z [7, 2, 43, 42]
   refine o (al' 104) ?_
   apply z [34, 1, 5]
   refine b fun y26 h27 => ?_
   refine b fun y28 h29 => ?_
   refine b fun r30 h31 => ?_
   refine b fun y32 h33 => ?_
   refine b fun y34 h35 => ?_
   refine b fun y36 h37 => ?_
   refine sd ?_
   apply zd [[104], [104], [], [], [104], [104], []]
   refine dx [30, 31] [103] (fun st mm ⟨a30, a31, _⟩ ⟨g103, _⟩ => og (callL (em := []) [103] [] [] [] rfl (c_show_write _ h31) trivial (pl_str) ⟨.inl ⟨_, (a30.trans rfl), rn_id if_sli⟩, .inr ⟨103, rfl, .inl ⟨(a31.trans rfl), .inl ⟨_, _, _, (g103.trans rfl), ifs_map (f := str) (fun _ => if_str) s22.2, rfl⟩⟩⟩, trivial⟩ (fun _ _ h => by cases h) trivial rfl trivial trivial rfl trivial trivial trivial (rn_id (if_str)) rfl)) ?_
   apply zd [[], []]
   refine dx [4, 34] [101, 102, 105] (fun st mm ⟨a4, a34, _⟩ ⟨g101, g102, g105, _⟩ => og (callG (em := [(105, .sl 5 1 (List.map ub y36)), (101, .bx 102 (.agg [.por 101, .own 105])), (102, .gone)]) (res' := .tup [i64 (y34.length : Int), nilI]) [(0, 101), (1, 102)] [(105, 52)] [(105, 52), (101, 0)] (ws_ok' h37) ⟨⟨_, (a4.trans rfl), rn_own rfl⟩, ⟨_, (a34.trans rfl), rn_id if_str⟩, trivial⟩ (MiF.get (mi := [(0, _), (1, _)]) ⟨⟨_, _, rfl, (g101.trans rfl), rc_bx (rn_agg (rns_cons (rn_por rfl) (rns_cons (rn_own rfl) rns_nil)))⟩, ⟨_, _, rfl, (g102.trans rfl), rc_sl (ifs_map (f := ub) (fun _ => if_ub) s22.1)⟩, trivial⟩) ⟨⟨_, rfl⟩, ⟨_, rfl⟩, trivial⟩ rfl ⟨(g105.trans rfl), trivial⟩ ⟨.inl rfl, .inr rfl, trivial⟩ rfl ⟨.inl ⟨_, _, rfl, rfl, rc_sl (ifs_map (f := ub) (fun _ => if_ub) y36)⟩, .inl ⟨_, _, rfl, rfl, rc_bx (rn_agg (rns_cons (rn_por rfl) (rns_cons (rn_own rfl) rns_nil)))⟩, .inr ⟨rfl, 1, .tail _ (.head _)⟩, trivial⟩ ⟨⟨_, rfl⟩, ⟨_, rfl⟩, trivial⟩ ⟨⟨_, rfl⟩, trivial⟩ (rn_tup (rns_cons (rn_id if_i64) (rns_cons (rn_id if_nilI) rns_nil))) rfl)) ?_
   refine de fol ?_
   apply z [4, 6, 30, 33, 36]
   refine so (bsl (y := 106) (ls := List.map str ([x24.Name] : List (List UInt8))) Tryz.underlying41 ti_9.h rfl rfl rfl rfl rfl ⟨rfl, rfl, (by exact rfl), (by exact rfl), trivial⟩ rfl rfl) ?_
   refine b fun y38 h39 => ?_
   refine o (app' 107) ?_
   apply z [31, 3, 11]
   exact sgo (eR [(100, 100), (101, 101), (102, 105), (103, 107)])
 intro s40
 apply z [13, 4, 2]
 refine so (asgN (y := 104) (E := 9) (k := 1) rfl rfl) ?_
 apply z [1, 5, 2, 33, 36, 39, 30, 1, 7]
 refine srN (fun s58 => [(2, str ([] : List UInt8)), (3, bl false), (4, .own 101), (5, .own 103), (8, .own 104), (43, sli 1 (List.map L_S_tree_Node x0.Outs))]) (fun s58 => [(101, .bx 102 (.agg [.por 101, .own 102])), (102, .sl 5 1 (List.map ub s40.1)), (103, .sl 9 1 (List.map str s40.2)), (104, .sl 9 1 (List.map str s58))]) (rE (eR [(101, 101), (102, 102), (103, 103), (104, 104)])) ?_ ?_
 · intro i59 x60 s58 hx61
   apply z [7, 2, 43, 42, 31, 1, 6, 30, 30, 30]
   refine b fun r62 h63 => ?_
   refine s1 (callL (em := []) [103] [] [] [] rfl (c_show_write _ h63) trivial (pl_str) ⟨.inl ⟨_, rfl, rn_id if_sli⟩, .inr ⟨103, rfl, .inl ⟨rfl, .inl ⟨_, _, _, rfl, ifs_map (f := str) (fun _ => if_str) s40.2, rfl⟩⟩⟩, trivial⟩ (fun _ _ h => by cases h) trivial rfl trivial trivial rfl trivial trivial trivial (rn_id (if_str)) rfl) ?_
   refine so (bsl (y := 105) (ls := List.map str ([r62] : List (List UInt8))) Tryz.underlying41 ti_9.h rfl rfl rfl rfl rfl ⟨rfl, rfl, (by exact rfl), (by exact rfl), trivial⟩ rfl rfl) ?_
   refine b fun y64 h65 => ?_
   refine o (app' 106) ?_
   apply z [31, 3, 11]
   exact sgo (eR [(101, 101), (102, 102), (103, 103), (104, 106)])
 intro s66
 apply z [13, 4, 2, 30]
 refine b fun r67 h68 => ?_
 refine s1 (callL (em := []) [104] [] [] [] rfl (c_strings_Join _ h68) trivial (pl_str) ⟨.inr ⟨104, rfl, .inl ⟨rfl, .inl ⟨_, _, _, rfl, ifs_map (f := str) (fun _ => if_str) s66, rfl⟩⟩⟩, .inl ⟨_, (kS (s := [44, 32]) rfl), rn_id if_str⟩, trivial⟩ (fun _ _ h => by cases h) trivial rfl trivial trivial rfl trivial trivial trivial (rn_id (if_str)) rfl) ?_
 refine b fun y69 h70 => ?_
 apply z [91]
 refine b fun y71 h72 => ?_
 apply z [91]
 refine b fun y73 h74 => ?_
 refine so (callG (em := [(105, .sl 5 1 (List.map ub y73)), (101, .bx 102 (.agg [.por 101, .own 105])), (102, .gone)]) (res' := .tup [i64 (y71.length : Int), nilI]) [(0, 101), (1, 102)] [(105, 52)] [(105, 52), (101, 0)] (ws_ok' h74) ⟨⟨_, rfl, rn_own rfl⟩, ⟨_, rfl, rn_id if_str⟩, trivial⟩ (MiF.get (mi := [(0, _), (1, _)]) ⟨⟨_, _, rfl, rfl, rc_bx (rn_agg (rns_cons (rn_por rfl) (rns_cons (rn_own rfl) rns_nil)))⟩, ⟨_, _, rfl, rfl, rc_sl (ifs_map (f := ub) (fun _ => if_ub) s40.1)⟩, trivial⟩) ⟨⟨_, rfl⟩, ⟨_, rfl⟩, trivial⟩ rfl ⟨rfl, trivial⟩ ⟨.inl rfl, .inr rfl, trivial⟩ rfl ⟨.inl ⟨_, _, rfl, rfl, rc_sl (ifs_map (f := ub) (fun _ => if_ub) y73)⟩, .inl ⟨_, _, rfl, rfl, rc_bx (rn_agg (rns_cons (rn_por rfl) (rns_cons (rn_own rfl) rns_nil)))⟩, .inr ⟨rfl, 1, .tail _ (.head _)⟩, trivial⟩ ⟨⟨_, rfl⟩, ⟨_, rfl⟩, trivial⟩ ⟨⟨_, rfl⟩, trivial⟩ (rn_tup (rns_cons (rn_id if_i64) (rns_cons (rn_id if_nilI) rns_nil))) rfl) ?_
 apply z [1, 2]
 refine so (strOp (id := 101) (id2 := 105) rfl rfl rfl rfl rfl) ?_
 apply z [31, 31, 1, 8]
 exact rt []
theorem c___parse_reader__field {n : Nat} {x0_words} {x0_at_} {x0_end_} {x0_deep} {x0_names} : ∀ r, m___parse_reader__field n x0_words x0_at_ x0_end_ x0_deep x0_names = some r → FnR Tryz.prog 37 [.own 0] [(0, .bx 118 (.agg [sli 3 (List.map L_lex_Word x0_words), i64 x0_at_, i64 x0_end_, i64 x0_deep, .own 1])), (1, .sl 9 1 (List.map str x0_names))] 28 L_api_Fault (fun r => L_tree_Field r.1) (fun r => [(0, .bx 118 (.agg [sli 3 (List.map L_lex_Word r.2.1), i64 r.2.2.1, i64 r.2.2.2.1, i64 r.2.2.2.2.1, .own 61])), (1, .gone), (61, .sl 9 1 (List.map str r.2.2.2.2.2))]) r := by
 unfold m___parse_reader__field
 refine fsP Tryz.func37 fun w S0 γ hγ => ?_
 apply z [2]
 refine o (al' 100) ?_
 apply z [1, 2]
 refine so (alOw (y := 101) (ly := .agg [.own 102, .own 103]) [(102, 85, 2), (103, 42, 1)] ti_26.h (zo_agg (zos_cons (c1 := [.slice none 0 0]) (zo_own rfl) (zos_cons (c1 := [.slice none 0 0]) (zo_own rfl) (zos_nil)))) ⟨rfl, rfl, trivial⟩ rfl rfl rfl) ?_
 apply z [1, 5, 7]
 refine sloopE 0 Lp.go (fun s18 => [(0, .own 0), (2, .own 100), (3, .own 101)]) (fun s18 => [(1, .gone), (0, .bx 118 (.agg [sli 3 (List.map L_lex_Word s18.1), i64 s18.2.1, i64 s18.2.2.1, i64 s18.2.2.2.1, .own 104])), (104, .sl 9 1 (List.map str s18.2.2.2.2.1)), (100, .bx 26 (L_tree_Field (⟨[], []⟩ : M_tree_Field))), (101, .bx 26 (.agg [.own 102, .own 103])), (102, .sl 85 2 (List.map L_tree_Let s18.2.2.2.2.2)), (103, .sl 42 1 (List.map L_S_tree_Node ([] : List (List M_tree_Node))))]) (fun t16 => [(0, .own 0), (2, .own 100), (3, .own 101)]) (fun t16 => [(1, .gone), (0, .bx 118 (.agg [sli 3 (List.map L_lex_Word t16.1), i64 t16.2.1, i64 t16.2.2.1, i64 t16.2.2.2.1, .own 104])), (104, .sl 9 1 (List.map str t16.2.2.2.2.1)), (100, .bx 26 (L_tree_Field (⟨[], []⟩ : M_tree_Field))), (101, .bx 26 (.agg [.own 102, .own 103])), (102, .sl 85 2 (List.map L_tree_Let t16.2.2.2.2.2)), (103, .sl 42 1 (List.map L_S_tree_Node ([] : List (List M_tree_Node))))]) (eR [(1, 1), (0, 0), (104, 1), (100, 100), (101, 101), (102, 102), (103, 103)]) ?_ ?_
 · intro hj17 s18
   apply z [5, 2, 30]
   refine b fun r19 h20 => ?_
   refine o (cG (c___parse_reader__has _ h20) [0, 104] [] [104]) ?_
   apply z [1]
   refine c ?_ ?_
   · apply z [9, 4, 7, 2, 30]
     refine bP [0, 104] c___parse_reader__name fun r21 h22 => ?_
     refine o (cG (h22) [0, 104] [] [104]) ?_
     apply z [31, 1, 2, 30]
     refine bP [0, 104] c___parse_reader__need fun r23 h24 => ?_
     refine o (cG (h24) [0, 104] [] [104]) ?_
     apply z [1, 5]
     refine bPd c___parse_reader__expr (fun e hp => ?_) fun r25 h26 => ?_
     · refine sd ?_
       apply zd [[101], [101], [], []]
       exact dP hp [0, 104] [0, 104, 105, 106] (hf := fol)
     refine b fun y27 h28 => ?_
     refine sd ?_
     apply zd [[101], [101], [], []]
     refine dd [0, 104, 105, 106] (fun _ _ _ _ => tV (cG (h26) [0, 104] [(105, 50), (106, 61)] [])) ?_
     refine dx [13, 15] [] (fun st mm ⟨a13, a15, _⟩ _ => og (bld (l := [str r21.1, sli 3 (List.map L_tree_Node r25.1)]) pl_85.h ti_85.h zr_tree_Let ⟨_, _, _, (a13.trans rfl), rfl, rfl, rfl, (szk (k := 1) rfl rfl), ⟨_, _, _, (a15.trans rfl), rfl, rfl, rfl, (szk (k := 1) rfl rfl), rfl⟩⟩ rfl)) ?_
     refine dx [16] [107] (fun st mm ⟨a16, _⟩ ⟨g107, _⟩ => og (bsl (y := 107) (ls := List.map L_tree_Let ([(⟨r21.1, r25.1⟩ : M_tree_Let)] : List M_tree_Let)) Tryz.underlying23 ti_85.h rfl rfl rfl rfl rfl ⟨rfl, (a16.trans rfl), (by exact rfl), (by exact rfl), trivial⟩ (g107.trans rfl) rfl)) ?_
     refine dd [102, 107, 108] (fun _ _ _ _ => app' 108) ?_
     apply zd [[101]]
     refine dd [101] (fun _ _ _ _ => stP (.agg [.own 108, .own 103]) [0]) ?_
     refine de fol ?_
     apply z [4, 2, 30]
     refine bP [0, 106] c___parse_reader__need fun r29 h30 => ?_
     refine o (cG (h30) [0, 106] [] [106]) ?_
     apply z [1, 6, 30, 30, 48, 33, 36, 30]
     refine so (bsl (y := 109) (ls := List.map str ([r21.1] : List (List UInt8))) Tryz.underlying41 ti_9.h rfl rfl rfl rfl rfl ⟨rfl, rfl, (by exact rfl), (by exact rfl), trivial⟩ rfl rfl) ?_
     refine b fun y31 h32 => ?_
     refine o (app' 110) ?_
     apply z [48, 33]
     refine o (stP (.agg [sli 3 (List.map L_lex_Word r29.1), i64 r29.2.1, i64 r29.2.2.1, i64 r29.2.2.2, .own 110]) [4]) ?_
     apply z [3, 11]
     exact sgo (eR [(1, 1), (0, 0), (104, 110), (100, 100), (101, 101), (102, 108), (103, 103)])
   apply z [14, 15]
   exact su (sj (hj17 _) (eR [(1, 1), (0, 0), (104, 104), (100, 100), (101, 101), (102, 102), (103, 103)]))
 intro t16
 refine slpk ?_
 apply z [13, 4, 2, 30]
 refine bP [0, 104] c___parse_reader__need fun r33 h34 => ?_
 refine o (cG (h34) [0, 104] [] [104]) ?_
 apply z [1, 5]
 refine bPd c___parse_reader__expr (fun e hp => ?_) fun r35 h36 => ?_
 · refine sd ?_
   apply zd [[101], [101], []]
   exact dP hp [0, 104] [0, 104, 105, 106] (hf := fol)
 refine b fun y37 h38 => ?_
 refine sd ?_
 apply zd [[101], [101], []]
 refine dd [0, 104, 105, 106] (fun _ _ _ _ => tV (cG (h36) [0, 104] [(105, 50), (106, 61)] [])) ?_
 refine dx [37] [107] (fun st mm ⟨a37, _⟩ ⟨g107, _⟩ => og (bsl (y := 107) (ls := List.map L_S_tree_Node ([r35.1] : List (List M_tree_Node))) Tryz.underlying24 ti_42.h rfl rfl rfl rfl rfl ⟨rfl, (a37.trans rfl), (by exact rfl), (by exact rfl), trivial⟩ (g107.trans rfl) rfl)) ?_
 refine dd [103, 107, 108] (fun _ _ _ _ => app' 108) ?_
 apply zd [[101]]
 refine dd [101] (fun _ _ _ _ => stP (.agg [.own 102, .own 108]) [1]) ?_
 refine de fol ?_
 apply z [4, 5, 7]
 refine sloopE 2 Lp.go (fun s57 => [(0, .own 0), (2, .own 100), (3, .own 101)]) (fun s57 => [(1, .gone), (0, .bx 118 (.agg [sli 3 (List.map L_lex_Word s57.1), i64 s57.2.1, i64 s57.2.2.1, i64 s57.2.2.2.1, .own 106])), (106, .sl 9 1 (List.map str s57.2.2.2.2.1)), (100, .bx 26 (L_tree_Field (⟨[], []⟩ : M_tree_Field))), (101, .bx 26 (.agg [.own 102, .own 108])), (102, .sl 85 2 (List.map L_tree_Let t16.2.2.2.2.2)), (108, .sl 42 1 (List.map L_S_tree_Node s57.2.2.2.2.2))]) (fun t55 => [(0, .own 0), (2, .own 100), (3, .own 101)]) (fun t55 => [(1, .gone), (0, .bx 118 (.agg [sli 3 (List.map L_lex_Word t55.1), i64 t55.2.1, i64 t55.2.2.1, i64 t55.2.2.2.1, .own 106])), (106, .sl 9 1 (List.map str t55.2.2.2.2.1)), (100, .bx 26 (L_tree_Field (⟨[], []⟩ : M_tree_Field))), (101, .bx 26 (.agg [.own 102, .own 108])), (102, .sl 85 2 (List.map L_tree_Let t16.2.2.2.2.2)), (108, .sl 42 1 (List.map L_S_tree_Node t55.2.2.2.2.2))]) (eR [(1, 1), (0, 0), (106, 106), (100, 100), (101, 101), (102, 102), (108, 108)]) ?_ ?_
 · intro hj56 s57
   apply z [5, 2, 30]
   refine b fun r58 h59 => ?_
   refine o (cG (c___parse_reader__has _ h59) [0, 106] [] [106]) ?_
   apply z [1]
   refine c ?_ ?_
   · apply z [9, 4, 7]
     refine bPd c___parse_reader__expr (fun e hp => ?_) fun r60 h61 => ?_
     · refine sd ?_
       apply zd [[101], [101], []]
       exact dP hp [0, 106] [0, 106, 109, 110] (hf := fol)
     refine b fun y62 h63 => ?_
     refine sd ?_
     apply zd [[101], [101], []]
     refine dd [0, 106, 109, 110] (fun _ _ _ _ => tV (cG (h61) [0, 106] [(109, 50), (110, 61)] [])) ?_
     refine dx [46] [111] (fun st mm ⟨a46, _⟩ ⟨g111, _⟩ => og (bsl (y := 111) (ls := List.map L_S_tree_Node ([r60.1] : List (List M_tree_Node))) Tryz.underlying24 ti_42.h rfl rfl rfl rfl rfl ⟨rfl, (a46.trans rfl), (by exact rfl), (by exact rfl), trivial⟩ (g111.trans rfl) rfl)) ?_
     refine dd [108, 111, 112] (fun _ _ _ _ => app' 112) ?_
     apply zd [[101]]
     refine dd [101] (fun _ _ _ _ => stP (.agg [.own 102, .own 112]) [1]) ?_
     refine de fol ?_
     apply z [11]
     exact sgo (eR [(1, 1), (0, 0), (106, 110), (100, 100), (101, 101), (102, 102), (108, 112)])
   apply z [14, 15]
   exact su (sj (hj56 _) (eR [(1, 1), (0, 0), (106, 106), (100, 100), (101, 101), (102, 102), (108, 108)]))
 intro t55
 refine slpk ?_
 apply z [13, 4, 2, 30]
 refine bP [0, 106] c___parse_reader__need fun r64 h65 => ?_
 refine o (cG (h65) [0, 106] [] [106]) ?_
 apply z [1, 2, 32, 34, 1, 8]
 refine fz 102 [52] [100, 101] ?_
 refine fz 108 [52] [100, 101] ?_
 exact rtR (rt [(0, 0), (1, 1), (61, 106)])
theorem c_parse_Parse_1_opan {x0} {x1} {e : M_api_Fault} {u : Value} (hu : PlainV (L_api_Fault e) u) : ∀ r, m_parse_Parse_1_opan x0 x1 e = some r → FnD Tryz.prog 35 [.own 0, .own 1] [(0, .bx 28 (L_api_Fault x0)), (1, .bx 26 (L_tree_Field x1))] (.panicking (pan 28 u)) (.panicking (panR 28 u)) [(0, .bx 28 (L_api_Fault r.1)), (1, .bx 26 (L_tree_Field r.2))] := by
 unfold m_parse_Parse_1_opan
 refine fsC Tryz.func35 rfl rfl (lyv := .ifc 28 (L_api_Fault e)) rec_pan (pv_ifc hu) (fun r1 h2 w S0 γ => cG (c_parse_caught_o1_api_Fault _ h2) [0] [] []) fun r1 w S0 γ hγ => ?_
 refine c ?_ ?_
 · apply z [6]
   refine s1 (bld (l := [sli 2 (List.map L_tree_Let []), sli 1 (List.map L_S_tree_Node [])]) pl_26.h ti_26.h zr_tree_Field rfl rfl) ?_
   apply z [34, 3]
   exact rt [(0, 0), (1, 1)]
 apply z [9]
 exact rt [(0, 0), (1, 1)]
theorem c_parse_Parse_1_oret {x0} {x1} : ∀ r, m_parse_Parse_1_oret x0 x1 = some r → FnD Tryz.prog 35 [.own 0, .own 1] [(0, .bx 28 (L_api_Fault x0)), (1, .bx 26 (L_tree_Field x1))] .returning .returning [(0, .bx 28 (L_api_Fault x0)), (1, .bx 26 (L_tree_Field r))] := by
 unfold m_parse_Parse_1_oret
 refine fsC Tryz.func35 rfl rfl (lyv := nilI) rec_ret pv_nil (fun r1 h2 w S0 γ => of (callL (em := []) [0] [] [] [] rfl (c_parse_caught_o1_nil _ h2) trivial (pl_bl) ⟨.inr ⟨0, rfl, .inl ⟨rfl, .inr ⟨_, _, rfl, if_L_api_Fault, rfl⟩⟩⟩, .inl ⟨_, rfl, rn_id if_nilI⟩, trivial⟩ (fun _ _ h => by cases h) trivial rfl trivial trivial rfl trivial trivial trivial (rn_id (if_bl)) rfl)) fun r1 w S0 γ hγ => ?_
 refine c ?_ ?_
 · apply z [6]
   refine s1 (bld (l := [sli 2 (List.map L_tree_Let []), sli 1 (List.map L_S_tree_Node [])]) pl_26.h ti_26.h zr_tree_Field rfl rfl) ?_
   apply z [34, 3]
   exact rt [(0, 0), (1, 1)]
 apply z [9]
 exact rt [(0, 0), (1, 1)]
end Go.Proofs.YtpomhkkhdojpiaaGreatDoor
