import Derived.Test.YtpomhkkhdojpiaaGreatDoorGen4
set_option maxRecDepth 100000
set_option maxHeartbeats 4000000
namespace Go.Proofs.YtpomhkkhdojpiaaGreatDoor
open Go Go.RowKit
theorem c_parse_Parse {n : Nat} {x0} : ∀ r, m_parse_Parse n x0 = some r → FnOk Tryz.prog 10 [str x0] [] (.tup [L_tree_Field r.1, L_api_Fault r.2]) [] := by
 unfold m_parse_Parse
 refine fsD Tryz.func10 fun w S0 γ hγ => ?_
 apply z [2]
 refine o (al' 100) ?_
 refine o (al' 101) ?_
 apply z [1, 2, 30]
 refine b fun r1 h2 => ?_
 refine o (cG (c_parse_begin _ h2) [] [(102, 50), (103, 70)] []) ?_
 apply z [30, 35, 35, 31, 34, 1, 5, 2, 32]
 refine s1 (bld (l := [i64 0, i64 0, i64 0, i64 0]) pl_28.h ti_28.h zr_api_Fault rfl rfl) ?_
 refine s1 (neA (p := (r1.2.2.2.2.2 : M_api_Fault)) (q := ((⟨0, 0, 0, 0⟩ : M_api_Fault) : M_api_Fault)) eq_28_2 rfl eg_28 rfl rfl rfl) ?_
 apply z [1]
 refine c ?_ ?_
 · apply z [5]
   refine sd ?_
   refine dx [] [] (fun st mm _ _ => og (bld (l := [sli 2 (List.map L_tree_Let []), sli 1 (List.map L_S_tree_Node [])]) pl_26.h ti_26.h zr_tree_Field rfl rfl)) ?_
   apply zd [[101], [100], [101]]
   refine de fol ?_
   apply z [4, 8, 10]
   exact rtD (rt [])
 apply z [9, 4, 2]
 refine s1 (mkC (l := [101, 100]) ⟨rfl, ⟨rfl, trivial⟩⟩ rfl) ?_
 refine sdf rfl fun gd3 us4 hg5 hc6 => ?_
 apply z [1, 2, 30]
 refine bPD [102, 103] c___parse_reader__field (fun e => fun u hu => ?_) fun r7 h8 => ?_
 · refine b fun y9 h10 => ?_
   refine spt ?_
   refine lvP ?_
   refine lvD (lc := [0, 1]) (bs := [101, 100]) hg5 hc6 (c_parse_Parse_1_opan hu _ h10) (fun h => by cases h) set_pan ?_
   exact rt []
 refine o (cG (h8) [102, 103] [(104, 61)] []) ?_
 apply z [34, 1, 2, 30]
 refine bPD [102, 104] c___parse_reader__over (fun e => fun u hu => ?_) fun r11 h12 => ?_
 · refine b fun y13 h14 => ?_
   refine spt ?_
   refine lvP ?_
   refine lvD (lc := [0, 1]) (bs := [101, 100]) hg5 hc6 (c_parse_Parse_1_opan hu _ h14) (fun h => by cases h) set_pan ?_
   exact rt []
 refine o (cG (h12) [102, 104] [] [102, 104]) ?_
 apply z [1, 2, 32]
 refine s1 (bld (l := [i64 0, i64 0, i64 0, i64 0]) pl_28.h ti_28.h zr_api_Fault rfl rfl) ?_
 apply z [34, 34, 1, 8]
 refine b fun y15 h16 => ?_
 refine lvR ?_
 refine lvD (lc := [0, 1]) (bs := [101, 100]) hg5 hc6 (c_parse_Parse_1_oret _ h16) (fun h => by cases h) set_ret ?_
 exact rt []
theorem c_nat_Cmp {n : Nat} {x0} {x1} : ∀ r, m_nat_Cmp n x0 x1 = some r → FnOk Tryz.prog 98 [sli 1 (List.map u32 x0), sli 1 (List.map u32 x1)] [] (i64 r) [] := by
 unfold m_nat_Cmp
 refine fs Tryz.func98 fun w S0 γ hγ => ?_
 apply z [2, 31, 1, 2, 30]
 refine cb (ca c_nat_trim) fun r1 => ?_
 apply z [30]
 refine cb (ca c_nat_trim) fun r3 => ?_
 apply z [31, 31, 1, 5, 7, 2, 30, 39, 30, 39, 46, 31, 1]
 refine c ?_ ?_
 · apply z [2, 31, 1, 8, 12, 10]
   exact rt []
 apply z [2, 30, 39, 30, 39, 47, 31, 1]
 refine c ?_ ?_
 · apply z [2, 31, 1, 8, 12, 10]
   exact rt []
 apply z [9, 11, 4, 5, 2, 30, 39, 49, 31, 1, 7]
 refine sloopE 1 Lp.go (fun s25 => [(0, sli 1 (List.map u32 r1)), (1, sli 1 (List.map u32 r3)), (4, i64 (0 : Int)), (5, i64 s25)]) (fun s25 => []) (fun t23 => [(4, i64 (0 : Int))]) (fun t23 => []) eI ?_ ?_
 · intro hj24 s25
   apply z [5, 2, 30, 57, 1]
   refine c ?_ ?_
   · apply z [9, 4, 5, 7, 7, 5]
     refine b fun y26 h27 => ?_
     refine b fun y28 h29 => ?_
     refine sd ?_
     apply zd [[], [], [], [], [], [], [], [], [], []]
     refine de fol ?_
     apply z [4]
     refine c ?_ ?_
     · apply z [2, 31, 1, 8, 12, 12, 10]
       refine sU ?_
       apply z [12, 10]
       exact rt []
     apply z [5]
     refine b fun y30 h31 => ?_
     refine b fun y32 h33 => ?_
     refine sd ?_
     apply zd [[], [], [], [], [], [], [], [], [], []]
     refine de fol ?_
     apply z [4]
     refine c ?_ ?_
     · apply z [2, 31, 1, 8, 12, 12, 10]
       refine sU ?_
       apply z [12, 10]
       exact rt []
     apply z [9, 11, 11, 4, 6, 30, 49, 31, 3]
     exact sgo eI
   apply z [14, 15]
   exact su (sj (hj24 _) eI)
 intro t23
 refine slpk ?_
 apply z [13, 4, 2, 31, 1, 8]
 exact rt []
theorem c_tree_Same {n : Nat} {x0} {x1} : ∀ r, m_tree_Same n x0 x1 = some r → FnOk Tryz.prog 61 [sli 3 (List.map L_tree_Node x0), sli 3 (List.map L_tree_Node x1)] [] (bl r) [] := by
 unfold m_tree_Same
 refine fs Tryz.func61 fun w S0 γ hγ => ?_
 apply z [2, 31, 1, 5, 2, 30, 39, 30, 39, 56, 1]
 refine c ?_ ?_
 · apply z [2, 31, 1, 8, 10]
   exact rt []
 apply z [9, 4, 5, 2, 30, 39, 30, 1, 7]
 refine srN (fun s17 => [(1, sli 3 (List.map L_tree_Node x1)), (4, bl false), (13, sli 3 (List.map L_tree_Node x0))]) (fun s17 => []) (rE eI) ?_ ?_
 · intro i18 x19 s17 hx20
   apply z [7, 2, 30, 43, 42]
   refine o (al' 100) ?_
   apply z [31, 34, 1, 2, 30, 30]
   refine b fun y21 h22 => ?_
   apply z [43, 42]
   refine o (al' 101) ?_
   apply z [34, 1]
   refine sjq (fun s28 => [(1, sli 3 (List.map L_tree_Node x1)), (4, bl false), (13, sli 3 (List.map L_tree_Node x0)), (14, i64 (x0.length : Int)), (15, i64 (i18 : Int)), (42, bl s28)]) (fun s28 => []) ?_ ?_
   · intro j26 hj27
     apply z [6, 33, 36, 33, 36]
     refine s1 (bld (l := [i64 x19.Op, i64 x19.I]) pl_153.h ti_153.h zr_tree_plain ⟨_, _, _, rfl, rfl, rfl, rfl, (szk (k := 1) rfl rfl), ⟨_, _, _, rfl, rfl, rfl, rfl, (szk (k := 1) rfl rfl), rfl⟩⟩ rfl) ?_
     apply z [33, 36, 33, 36]
     refine s1 (bld (l := [i64 y21.Op, i64 y21.I]) pl_153.h ti_153.h zr_tree_plain ⟨_, _, _, rfl, rfl, rfl, rfl, (szk (k := 1) rfl rfl), ⟨_, _, _, rfl, rfl, rfl, rfl, (szk (k := 1) rfl rfl), rfl⟩⟩ rfl) ?_
     refine s1 (neA (p := ((⟨x19.Op, x19.I⟩ : M_tree_plain) : M_tree_plain)) (q := ((⟨y21.Op, y21.I⟩ : M_tree_plain) : M_tree_plain)) eq_153_2 rfl eg_153 rfl rfl rfl) ?_
     refine sbn (F := bl) 34 rfl fun z29 => ?_
     apply z [30]
     refine sifd 35 rfl ?_ ?_
     · apply z [23, 23, 23, 23, 23, 23, 38, 1]
       exact sj (hj27 _) (eR [])
     apply z [22, 22, 22, 22]
     refine b fun r30 h31 => ?_
     refine og' (c0 (c_nat_Cmp _ h31)) ?_
     apply z [22, 37, 1]
     exact sj (hj27 _) (eR [])
   intro s28
   refine c ?_ ?_
   · apply z [2, 31, 1, 8, 12]
     refine sU ?_
     apply z [12, 10]
     exact rt []
   apply z [9, 11]
   exact sgo eI
 intro s32
 apply z [13, 4, 2, 31, 1, 8]
 exact rt []
theorem c_tree_SameField {n : Nat} {x0} {x1} : ∀ r, m_tree_SameField n x0 x1 = some r → FnOk Tryz.prog 32 [L_tree_Field x0, L_tree_Field x1] [] (bl r) [] := by
 unfold m_tree_SameField
 refine fs Tryz.func32 fun w S0 γ hγ => ?_
 apply z [2]
 refine o (bx' 100) ?_
 refine o (bx' 101) ?_
 apply z [31, 1, 5]
 refine sjq (fun s3 => [(2, .own 100), (3, .own 101), (4, bl false), (24, bl s3)]) (fun s3 => [(100, .bx 26 (L_tree_Field x0)), (101, .bx 26 (L_tree_Field x1))]) ?_ ?_
 · intro j1 hj2
   apply z [6, 33, 36, 39, 33, 36, 39, 56, 30]
   refine sifd 16 rfl ?_ ?_
   · apply z [23, 23, 23, 23, 23, 23, 23, 38, 1]
     exact sj (hj2 _) (eR [(100, 100), (101, 101)])
   apply z [22, 22, 22, 22, 22, 22, 22, 37, 1]
   exact sj (hj2 _) (eR [(100, 100), (101, 101)])
 intro s3
 refine c ?_ ?_
 · apply z [2, 31, 1, 8, 10]
   exact rt []
 apply z [9, 4, 5, 2, 33, 36, 39, 30, 1, 7]
 refine srN (fun s26 => [(2, .own 100), (3, .own 101), (4, bl false), (26, sli 2 (List.map L_tree_Let x0.Lets))]) (fun s26 => [(100, .bx 26 (L_tree_Field x0)), (101, .bx 26 (L_tree_Field x1))]) (rE (eR [(100, 100), (101, 101)])) ?_ ?_
 · intro i27 x28 s26 hx29
   apply z [7, 2, 30, 43, 42]
   refine o (al' 102) ?_
   apply z [31, 34, 1]
   refine sjq (fun s39 => [(2, .own 100), (3, .own 101), (4, bl false), (26, sli 2 (List.map L_tree_Let x0.Lets)), (27, i64 (x0.Lets.length : Int)), (28, i64 (i27 : Int)), (53, bl s39)]) (fun s39 => [(100, .bx 26 (L_tree_Field x0)), (101, .bx 26 (L_tree_Field x1))]) ?_ ?_
   · intro j37 hj38
     refine b fun y40 h41 => ?_
     refine sif (fun hb42 => ?_) (fun hb42 => ?_)
     · refine sd ?_
       apply zd [[102], [102], [101], [101], [], [], [], [], []]
       refine dd [] (fun _ _ _ _ => obk hb42 ops) ?_
       apply zd [[], [], [], [], [], [], [], [], [], [], []]
       refine de fol ?_
       apply z [4]
       exact sj (hj38 _) (eR [(100, 100), (101, 101)])
     refine b fun y43 h44 => ?_
     refine b fun r45 h46 => ?_
     refine sd ?_
     apply zd [[102], [102], [101], [101], []]
     refine dx [36, 37] [] (fun st mm ⟨a36, a37, _⟩ _ => og (ixR (f := L_tree_Let) Tryz.underlying23 ti_85.h h41 rfl (a36.trans rfl) (a37.trans rfl))) ?_
     apply zd [[], [], []]
     refine dd [] (fun _ _ _ _ => obk hb42 ops) ?_
     apply zd [[102], [102], [101], [101], []]
     refine dx [42, 46, 47] [] (fun st mm ⟨a42, a46, a47, _⟩ _ => ogG 42 rfl (a42.trans rfl) (ixR (f := L_tree_Let) Tryz.underlying23 ti_85.h h44 rfl (a46.trans rfl) (a47.trans rfl))) ?_
     apply zd [[], []]
     refine dG [] (fun _ _ _ _ => c0 (c_tree_Same _ h46)) ?_
     apply zd [[], []]
     refine de fol ?_
     apply z [4]
     exact sj (hj38 _) (eR [(100, 100), (101, 101)])
   intro s39
   refine c ?_ ?_
   · apply z [2, 31, 1, 8, 12]
     refine sU ?_
     apply z [12, 10]
     exact rt []
   apply z [9, 11]
   exact sgo (eR [(100, 100), (101, 101)])
 intro s47
 apply z [13, 4, 5, 2, 33, 36, 39, 30, 1, 7]
 refine srN (fun s57 => [(3, .own 101), (4, bl false), (56, sli 1 (List.map L_S_tree_Node x0.Outs))]) (fun s57 => [(101, .bx 26 (L_tree_Field x1))]) (rE (eR [(101, 101)])) ?_ ?_
 · intro i58 x59 s57 hx60
   apply z [7, 2, 30, 43, 42, 31, 31, 1, 2, 30, 33, 36, 30]
   refine b fun y61 h62 => ?_
   apply z [43, 42]
   refine cb (ca c_tree_Same) fun r63 => ?_
   apply z [44, 1]
   refine c ?_ ?_
   · apply z [2, 31, 1, 8, 12]
     refine sU ?_
     apply z [12, 10]
     exact rt []
   apply z [9, 11]
   exact sgo (eR [(101, 101)])
 intro s65
 apply z [13, 4, 2, 31, 1, 8]
 exact rt []
theorem c_retrospectlaw20_ShowBack {n : Nat} {x0} : ∀ r, m_retrospectlaw20_ShowBack n x0 = some r → FnOk Tryz.prog 7 [L_retrospectref17_Field x0] [] (bl r) [] := by
 unfold m_retrospectlaw20_ShowBack
 refine fs Tryz.func7 fun w S0 γ hγ => ?_
 apply z [2]
 refine o (bx' 100) ?_
 apply z [31, 1, 5, 2, 32]
 refine cb (ca c_retrospectref17_LongField) fun r1 => ?_
 apply z [1]
 refine c ?_ ?_
 · apply z [2]
   refine cb (ca c_retrospectlaw20_works) fun r3 => ?_
   apply z [31, 1, 8, 10]
   exact rt []
 apply z [9, 4, 2, 32]
 refine cb (ca c_retrospectlaw17_ToField) fun r5 => ?_
 refine o (al' 101) ?_
 apply z [34, 1, 2, 32]
 refine cb (ca c_show_Field) fun r7 => ?_
 apply z [30, 35, 35, 31, 31, 1, 5]
 refine sjq (fun s11 => [(2, bl false), (3, .own 101), (4, str r7.1), (24, bl s11)]) (fun s11 => [(101, .bx 26 (L_tree_Field r5))]) ?_ ?_
 · intro j9 hj10
   apply z [6, 30, 44, 30]
   refine sifd 20 rfl ?_ ?_
   · apply z [23, 23, 23, 38, 1]
     exact sj (hj10 _) (eR [(101, 101)])
   apply z [22, 22, 22, 37, 1]
   exact sj (hj10 _) (eR [(101, 101)])
 intro s11
 refine c ?_ ?_
 · apply z [2]
   refine cb (ca c_retrospectlaw20_works) fun r12 => ?_
   apply z [31, 1, 8, 10]
   exact rt []
 apply z [9, 4, 2, 30]
 refine cb (ca c_parse_Parse) fun r14 => ?_
 apply z [30, 35, 35]
 refine o (al' 102) ?_
 refine o (al' 103) ?_
 apply z [34, 34, 1]
 refine sjq (fun s24 => [(2, bl s24)]) (fun s24 => []) ?_ ?_
 · intro j22 hj23
   apply z [6, 32]
   refine s1 (bld (l := [i64 0, i64 0, i64 0, i64 0]) pl_28.h ti_28.h zr_api_Fault rfl rfl) ?_
   refine s1 (eqA (p := (r14.2 : M_api_Fault)) (q := ((⟨0, 0, 0, 0⟩ : M_api_Fault) : M_api_Fault)) eq_28_2 rfl eg_28 rfl rfl rfl) ?_
   apply z [30]
   refine sifd 34 rfl ?_ ?_
   · apply z [22, 22]
     refine b fun r25 h26 => ?_
     refine og' (c0 (c_tree_SameField _ h26)) ?_
     apply z [38, 30]
     refine sifd 39 rfl ?_ ?_
     · apply z [22, 22, 22, 22]
       refine b fun r27 h28 => ?_
       refine og' (c0 (c_check_Check _ h28)) ?_
       refine sg 39 rfl rfl (bld (l := [i64 0, i64 0, i64 0, i64 0]) pl_28.h ti_28.h zr_api_Fault rfl rfl) ?_
       refine sg 39 rfl rfl (eqA (p := (r27 : M_api_Fault)) (q := ((⟨0, 0, 0, 0⟩ : M_api_Fault) : M_api_Fault)) eq_28_2 rfl eg_28 rfl rfl rfl) ?_
       apply z [38, 30]
       refine sifd 48 rfl ?_ ?_
       · refine b fun r29 h30 => ?_
         refine og' (c0 (c_retrospectlaw20_works _ h30)) ?_
         apply z [38, 31, 1]
         exact sj (hj23 _) (eR [])
       apply z [23, 37, 31, 1]
       exact sj (hj23 _) (eR [])
     apply z [23, 23, 23, 23, 23, 23, 23, 37, 30, 23, 37, 31, 1]
     exact sj (hj23 _) (eR [])
   apply z [23, 23, 23, 37, 30, 23, 23, 23, 23, 23, 23, 23, 37, 30, 23, 37, 31, 1]
   exact sj (hj23 _) (eR [])
 intro s24
 apply z [8]
 exact rt []
theorem c_retrospectlaw20_ShowTexts {n : Nat} {x0} : ∀ r, m_retrospectlaw20_ShowTexts n x0 = some r → FnOk Tryz.prog 8 [str x0] [] (bl r) [] := by
 unfold m_retrospectlaw20_ShowTexts
 refine fs Tryz.func8 fun w S0 γ hγ => ?_
 apply z [2, 31, 1, 5, 2, 30, 54, 47, 1]
 refine c ?_ ?_
 · apply z [2]
   refine cb (ca c_retrospectlaw20_works) fun r1 => ?_
   apply z [31, 1, 8, 10]
   exact rt []
 apply z [9, 4, 2, 30]
 refine cb (ca c_parse_Parse) fun r3 => ?_
 apply z [30, 35, 35]
 refine o (al' 100) ?_
 refine o (al' 101) ?_
 apply z [34, 34, 1, 5, 2, 32]
 refine s1 (bld (l := [i64 0, i64 0, i64 0, i64 0]) pl_28.h ti_28.h zr_api_Fault rfl rfl) ?_
 refine s1 (neA (p := (r3.2 : M_api_Fault)) (q := ((⟨0, 0, 0, 0⟩ : M_api_Fault) : M_api_Fault)) eq_28_2 rfl eg_28 rfl rfl rfl) ?_
 apply z [1]
 refine c ?_ ?_
 · apply z [2]
   refine cb (ca c_retrospectlaw20_works) fun r5 => ?_
   apply z [31, 1, 8, 10]
   exact rt []
 apply z [9, 4, 2, 32]
 refine cb (ca c_show_Field) fun r7 => ?_
 apply z [30, 35, 35, 31, 31, 1, 5]
 refine sjq (fun s11 => [(2, bl false), (3, .own 100), (5, str r7.1), (35, bl s11)]) (fun s11 => [(100, .bx 26 (L_tree_Field r3.1))]) ?_ ?_
 · intro j9 hj10
   apply z [6, 30, 44, 30]
   refine sifd 31 rfl ?_ ?_
   · apply z [23, 23, 23, 38, 1]
     exact sj (hj10 _) (eR [(100, 100)])
   apply z [22, 22, 22, 37, 1]
   exact sj (hj10 _) (eR [(100, 100)])
 intro s11
 refine c ?_ ?_
 · apply z [2]
   refine cb (ca c_retrospectlaw20_works) fun r12 => ?_
   apply z [31, 1, 8, 10]
   exact rt []
 apply z [9, 4, 2, 30]
 refine cb (ca c_parse_Parse) fun r14 => ?_
 apply z [30, 35, 35]
 refine o (al' 102) ?_
 refine o (al' 103) ?_
 apply z [34, 34, 1, 2, 32]
 refine cb (ca c_show_Field) fun r16 => ?_
 apply z [30, 35, 35, 31, 31, 1]
 refine sjq (fun s24 => [(2, bl s24)]) (fun s24 => []) ?_ ?_
 · intro j22 hj23
   apply z [6, 32]
   refine s1 (bld (l := [i64 0, i64 0, i64 0, i64 0]) pl_28.h ti_28.h zr_api_Fault rfl rfl) ?_
   refine s1 (eqA (p := (r14.2 : M_api_Fault)) (q := ((⟨0, 0, 0, 0⟩ : M_api_Fault) : M_api_Fault)) eq_28_2 rfl eg_28 rfl rfl rfl) ?_
   apply z [30]
   refine sifd 50 rfl ?_ ?_
   · apply z [22, 22]
     refine b fun r25 h26 => ?_
     refine og' (c0 (c_tree_SameField _ h26)) ?_
     apply z [38, 30]
     refine sifd 55 rfl ?_ ?_
     · apply z [22, 38, 30]
       refine sifd 58 rfl ?_ ?_
       · apply z [22, 22, 22, 38, 30]
         refine sifd 63 rfl ?_ ?_
         · refine b fun r27 h28 => ?_
           refine og' (c0 (c_retrospectlaw20_works _ h28)) ?_
           apply z [38, 31, 1]
           exact sj (hj23 _) (eR [])
         apply z [23, 37, 31, 1]
         exact sj (hj23 _) (eR [])
       apply z [23, 23, 23, 37, 30, 23, 37, 31, 1]
       exact sj (hj23 _) (eR [])
     apply z [23, 37, 30, 23, 23, 23, 37, 30, 23, 37, 31, 1]
     exact sj (hj23 _) (eR [])
   apply z [23, 23, 23, 37, 30, 23, 37, 30, 23, 23, 23, 37, 30, 23, 37, 31, 1]
   exact sj (hj23 _) (eR [])
 intro s24
 apply z [8]
 exact rt []
end Go.Proofs.YtpomhkkhdojpiaaGreatDoor
