import Derived.Test.YtpomhkkhdojpiaaGreatDoorGen4
set_option maxRecDepth 100000
set_option maxHeartbeats 4000000
namespace Go.Proofs.YtpomhkkhdojpiaaGreatDoor
open Go Go.RowKit
theorem c_parse_Expr_1_oret {x0} {x1} : ∀ r, m_parse_Expr_1_oret x0 x1 = some r → FnD Tryz.prog 43 [.own 0, .own 1] [(0, .bx 28 (L_api_Fault x0)), (1, .bx 42 (sli 3 (List.map L_tree_Node x1)))] .returning .returning [(0, .bx 28 (L_api_Fault x0)), (1, .bx 42 (sli 3 (List.map L_tree_Node r)))] := by
 unfold m_parse_Expr_1_oret
 refine fsC Tryz.func43 rfl rfl (lyv := nilI) rec_ret pv_nil (fun r1 h2 w S0 γ => of (callL (em := []) [0] [] [] [] rfl (c_parse_caught_o1_nil _ h2) trivial (pl_bl) ⟨.inr ⟨0, rfl, .inl ⟨rfl, .inr ⟨_, _, rfl, if_L_api_Fault, rfl⟩⟩⟩, .inl ⟨_, rfl, rn_id if_nilI⟩, trivial⟩ (fun _ _ h => by cases h) trivial rfl trivial trivial rfl trivial trivial trivial (rn_id (if_bl)) rfl)) fun r1 w S0 γ hγ => ?_
 refine c ?_ ?_
 · apply z [6]
   refine so (stB2 (ly2 := sli 3 (List.map L_tree_Node ([] : List M_tree_Node))) [] (by exact rfl) rfl (by exact rfl) sh_42.h (by exact rfl) (by exact rfl) (by exact rfl) rfl (.inr ⟨rfl, rfl, _, _, rfl⟩) (kLm (k := 3) L_tree_Node)) ?_
   apply z [3]
   exact rt [(0, 0), (1, 1)]
 apply z [9]
 exact rt [(0, 0), (1, 1)]
theorem c_parse_Expr {n : Nat} {x0} {x1} : ∀ r, m_parse_Expr n x0 x1 = some r → FnOk Tryz.prog 15 [str x0, sli 1 (List.map str x1)] [] (.tup [sli 3 (List.map L_tree_Node r.1), L_api_Fault r.2]) [] := by
 unfold m_parse_Expr
 refine fsD Tryz.func15 fun w S0 γ hγ => ?_
 apply z [2]
 refine o (al' 100) ?_
 refine o (al' 101) ?_
 apply z [1, 2, 30, 30]
 refine b fun r1 h2 => ?_
 refine o (cG (c_parse_begin _ h2) [] [(102, 50), (103, 70)] []) ?_
 apply z [30, 35, 35, 31, 34, 1, 5, 2, 32]
 refine s1 (bld (l := [i64 0, i64 0, i64 0, i64 0]) pl_28.h ti_28.h zr_api_Fault rfl rfl) ?_
 refine s1 (neA (p := (r1.2.2.2.2.2 : M_api_Fault)) (q := ((⟨0, 0, 0, 0⟩ : M_api_Fault) : M_api_Fault)) eq_28_2 rfl eg_28 rfl rfl rfl) ?_
 apply z [1]
 refine c ?_ ?_
 · apply z [5]
   refine sd ?_
   apply zd [[101]]
   refine dx [4] [100] (fun st mm ⟨a4, _⟩ ⟨g100, _⟩ => og (stB2 (ly2 := sli 3 (List.map L_tree_Node ([] : List M_tree_Node))) [] (by exact rfl) (g100.trans rfl) (by exact rfl) sh_42.h (by exact rfl) (by exact rfl) (by exact rfl) (a4.trans rfl) (.inr ⟨rfl, rfl, _, _, (g100.trans rfl)⟩) (kLm (k := 3) L_tree_Node))) ?_
   apply zd [[101]]
   refine de fol ?_
   apply z [4, 8, 10]
   exact rtD (rt [])
 apply z [9, 4, 2]
 refine s1 (mkC (l := [101, 100]) ⟨rfl, ⟨rfl, trivial⟩⟩ rfl) ?_
 refine sdf rfl fun gd3 us4 hg5 hc6 => ?_
 apply z [1, 2, 30]
 refine bPD [102, 103] c___parse_reader__expr (fun e => fun u hu => ?_) fun r7 h8 => ?_
 · refine b fun y9 h10 => ?_
   refine spt ?_
   refine lvP ?_
   refine lvD (lc := [0, 1]) (bs := [101, 100]) hg5 hc6 (c_parse_Expr_1_opan hu _ h10) (fun h => by cases h) set_pan ?_
   exact rt []
 refine o (cG (h8) [102, 103] [(104, 50), (105, 61)] []) ?_
 refine fz 104 [19] [] ?_
 apply z [34, 1, 2, 30]
 refine bPD [102, 105] c___parse_reader__over (fun e => fun u hu => ?_) fun r11 h12 => ?_
 · refine b fun y13 h14 => ?_
   refine spt ?_
   refine lvP ?_
   refine lvD (lc := [0, 1]) (bs := [101, 100]) hg5 hc6 (c_parse_Expr_1_opan hu _ h14) (fun h => by cases h) set_pan ?_
   exact rt []
 refine o (cG (h12) [102, 105] [] [102, 105]) ?_
 apply z [1, 2, 32]
 refine s1 (bld (l := [i64 0, i64 0, i64 0, i64 0]) pl_28.h ti_28.h zr_api_Fault rfl rfl) ?_
 apply z [34, 34, 1, 8]
 refine b fun y15 h16 => ?_
 refine lvR ?_
 refine lvD (lc := [0, 1]) (bs := [101, 100]) hg5 hc6 (c_parse_Expr_1_oret _ h16) (fun h => by cases h) set_ret ?_
 exact rt []
theorem c_retrospectref18_Code {n : Nat} {x0} {x1} : ∀ r, m_retrospectref18_Code n x0 x1 = some r → FnOk Tryz.prog 16 [str x0, sli 1 (List.map str x1)] [] (.tup [sli 3 (List.map L_retrospectref17_Node r.1), i64 r.2]) [] := by
 unfold m_retrospectref18_Code
 refine fs Tryz.func16 fun w S0 γ hγ => ?_
 apply z [2]
 refine s1 (asg rfl (kLm (k := 3) L_retrospectref17_Node)) ?_
 apply z [31, 1, 2, 30, 30]
 refine b fun r1 h2 => ?_
 refine o (cG (c_retrospectref18_Begin _ h2) [] [(100, 70)] []) ?_
 refine o (al' 101) ?_
 apply z [34, 1, 2]
 refine b fun r3 h4 => ?_
 refine o (cG (c___retrospectref18_P__Expr _ h4) [101, 100] [(102, 50), (103, 61)] []) ?_
 apply z [31, 1, 2]
 refine b fun r5 h6 => ?_
 refine o (cG (c___retrospectref18_P__over _ h6) [101, 103] [] [103]) ?_
 apply z [1, 5, 2, 33, 36, 57, 1]
 refine c ?_ ?_
 · apply z [5]
   refine sd ?_
   refine dx [] [104] (fun st mm _ ⟨g104, _⟩ => og (bsl (y := 104) (ls := List.map L_retrospectref17_Node ([] : List M_retrospectref17_Node)) Tryz.underlying45 ti_88.h rfl rfl rfl rfl rfl trivial (g104.trans rfl) rfl)) ?_
   apply zd [[101], [101], [], []]
   refine de fol ?_
   apply z [4, 8, 10]
   refine fz 104 [4, 16] [] ?_
   exact rt []
 apply z [9, 4, 2, 30, 31, 31, 1, 8]
 refine fz 102 [4, 7, 11, 19] [] ?_
 exact rt []
theorem c_retrospectlaw18_ParseExprs {n : Nat} {x0} {x1} : ∀ r, m_retrospectlaw18_ParseExprs n x0 x1 = some r → FnOk Tryz.prog 4 [str x0, sli 1 (List.map str x1)] [] (bl r) [] := by
 unfold m_retrospectlaw18_ParseExprs
 refine fs Tryz.func4 fun w S0 γ hγ => ?_
 apply z [2, 31, 1, 5]
 refine sjq (fun s3 => [(0, str x0), (1, sli 1 (List.map str x1)), (4, bl false), (16, bl s3)]) (fun s3 => []) ?_ ?_
 · intro j1 hj2
   apply z [6, 30, 54, 47, 30]
   refine sifd 12 rfl ?_ ?_
   · apply z [23, 23, 23, 38, 1]
     exact sj (hj2 _) eI
   apply z [22, 22, 22, 37, 1]
   exact sj (hj2 _) eI
 intro s3
 refine c ?_ ?_
 · apply z [2]
   refine cb (ca c_retrospectlaw18_works) fun r4 => ?_
   apply z [31, 1, 8, 10]
   exact rt []
 apply z [9, 4, 2, 30, 30]
 refine cb (ca c_parse_Expr) fun r6 => ?_
 apply z [30, 35, 35]
 refine o (al' 100) ?_
 apply z [31, 34, 1, 2, 30, 30]
 refine cb (ca c_retrospectref18_Code) fun r8 => ?_
 apply z [30, 35, 35, 31, 31, 1]
 refine sjq (fun s22 => [(4, bl s22)]) (fun s22 => []) ?_ ?_
 · intro j20 hj21
   refine b fun r23 h24 => ?_
   refine b fun r25 h26 => ?_
   refine sif (fun hb27 => ?_) (fun hb27 => ?_)
   · refine b fun r28 h29 => ?_
     refine sif (fun hb30 => ?_) (fun hb30 => ?_)
     · refine b fun r31 h32 => ?_
       refine sd ?_
       apply zd [[]]
       refine dd [] (fun _ _ _ _ => c0 (c_retrospectlaw17_Of _ h24)) ?_
       apply zd [[]]
       refine dd [] (fun _ _ _ _ => c0 (c_retrospectref17_Same _ h26)) ?_
       refine dd [] (fun _ _ _ _ => obk hb27 ops) ?_
       apply zd [[100], []]
       refine dG [] (fun _ _ _ _ => c0 (c_retrospectlaw18_Fault _ h29)) ?_
       refine dx [34, 35, 37] [] (fun st mm ⟨a34, a35, a37, _⟩ _ => ogG 34 rfl (a34.trans rfl) (eqA (p := (r6.2 : M_api_Fault)) (q := (r28 : M_api_Fault)) eq_28_2 rfl eg_28 rfl (a35.trans rfl) (a37.trans rfl))) ?_
       apply zd [[]]
       refine dd [] (fun _ _ _ _ => obk hb30 ops) ?_
       refine dG [] (fun _ _ _ _ => c0 (c_retrospectlaw18_works _ h32)) ?_
       apply zd [[], []]
       refine de fol ?_
       apply z [4]
       exact sj (hj21 _) (eR [])
     refine sd ?_
     apply zd [[]]
     refine dd [] (fun _ _ _ _ => c0 (c_retrospectlaw17_Of _ h24)) ?_
     apply zd [[]]
     refine dd [] (fun _ _ _ _ => c0 (c_retrospectref17_Same _ h26)) ?_
     refine dd [] (fun _ _ _ _ => obk hb27 ops) ?_
     apply zd [[100], []]
     refine dG [] (fun _ _ _ _ => c0 (c_retrospectlaw18_Fault _ h29)) ?_
     refine dx [34, 35, 37] [] (fun st mm ⟨a34, a35, a37, _⟩ _ => ogG 34 rfl (a34.trans rfl) (eqA (p := (r6.2 : M_api_Fault)) (q := (r28 : M_api_Fault)) eq_28_2 rfl eg_28 rfl (a35.trans rfl) (a37.trans rfl))) ?_
     apply zd [[]]
     refine dd [] (fun _ _ _ _ => obk hb30 ops) ?_
     apply zd [[], [], []]
     refine de fol ?_
     apply z [4]
     exact sj (hj21 _) (eR [])
   refine sd ?_
   apply zd [[]]
   refine dd [] (fun _ _ _ _ => c0 (c_retrospectlaw17_Of _ h24)) ?_
   apply zd [[]]
   refine dd [] (fun _ _ _ _ => c0 (c_retrospectref17_Same _ h26)) ?_
   refine dd [] (fun _ _ _ _ => obk hb27 ops) ?_
   apply zd [[], [], [], [], [], [], [], [], []]
   refine de fol ?_
   apply z [4]
   exact sj (hj21 _) (eR [])
 intro s22
 apply z [8]
 exact rt []
end Go.Proofs.YtpomhkkhdojpiaaGreatDoor
