import Derived.Test.YtpomhkkhdojpiaaDoorGen3
set_option maxRecDepth 100000
set_option maxHeartbeats 4000000
namespace Go.Proofs.YtpomhkkhdojpiaaDoor
open Go Go.RowKit
theorem c_tree_Arity {x0} : ∀ r, m_tree_Arity x0 = some r → FnOk Tryd.prog 41 [i64 x0] [] (i64 r) [] := by
 unfold m_tree_Arity
 refine fs Tryd.func41 fun w S0 γ hγ => ?_
 apply z [2, 31, 1, 5, 2, 30, 1, 7]
 refine sjq (fun s3 => [(2, i64 (0 : Int)), (3, i64 x0), (4, bl s3)]) (fun s3 => []) ?_ ?_
 · intro j1 hj2
   apply z [2, 41, 31, 1]
   refine c ?_ ?_
   · apply z [9, 4]
     exact sj (hj2 _) eI
   apply z [2, 41, 31, 1]
   refine c ?_ ?_
   · apply z [9, 4]
     exact sj (hj2 _) eI
   apply z [2, 41, 31, 1]
   refine c ?_ ?_
   · apply z [9, 4]
     exact sj (hj2 _) eI
   apply z [2, 41, 31, 1]
   refine c ?_ ?_
   · apply z [9, 4]
     exact sj (hj2 _) eI
   apply z [6, 41, 31, 1]
   exact sj (hj2 _) eI
 intro s3
 refine c ?_ ?_
 · apply z [2, 31, 1, 8, 12, 10]
   exact rt []
 refine sjq (fun s6 => [(2, i64 (0 : Int)), (3, i64 x0), (10, bl s6)]) (fun s6 => []) ?_ ?_
 · intro j4 hj5
   apply z [2, 41, 31, 1]
   refine c ?_ ?_
   · apply z [9, 4]
     exact sj (hj5 _) eI
   apply z [6, 41, 31, 1]
   exact sj (hj5 _) eI
 intro s6
 refine c ?_ ?_
 · apply z [2, 31, 1, 8, 12, 10]
   exact rt []
 refine sjq (fun s9 => [(2, i64 (0 : Int)), (13, bl s9)]) (fun s9 => []) ?_ ?_
 · intro j7 hj8
   apply z [2, 41, 31, 1]
   refine c ?_ ?_
   · apply z [9, 4]
     exact sj (hj8 _) eI
   apply z [2, 41, 31, 1]
   refine c ?_ ?_
   · apply z [9, 4]
     exact sj (hj8 _) eI
   apply z [2, 41, 31, 1]
   refine c ?_ ?_
   · apply z [9, 4]
     exact sj (hj8 _) eI
   apply z [6, 41, 31, 1]
   exact sj (hj8 _) eI
 intro s9
 refine c ?_ ?_
 · apply z [2, 31, 1, 8, 12, 10]
   exact rt []
 apply z [9, 11, 4, 2, 31, 1, 8]
 exact rt []
theorem c_tree_Wrong {x0} : ∀ r, m_tree_Wrong x0 = some r → FnOk Tryd.prog 25 [sli 3 (List.map L_tree_Node x0)] [] (i64 r) [] := by
 unfold m_tree_Wrong
 refine fs Tryd.func25 fun w S0 γ hγ => ?_
 apply z [2, 31, 1, 2, 31, 1, 5, 2, 30, 39, 30, 1, 7]
 refine srN (fun s20 => [(0, sli 3 (List.map L_tree_Node x0)), (2, i64 (0 : Int)), (3, i64 s20), (7, sli 3 (List.map L_tree_Node x0))]) (fun s20 => []) (rE eI) ?_ ?_
 · intro i21 x22 s20 hx23
   apply z [7, 2, 30, 43, 42]
   refine o (al' 100) ?_
   apply z [31, 34, 1, 2, 33, 36]
   refine cb (ca c_tree_Arity) fun r24 => ?_
   apply z [31, 1, 5]
   refine sjq (fun s28 => [(0, sli 3 (List.map L_tree_Node x0)), (2, i64 (0 : Int)), (3, i64 s20), (4, i64 (i21 : Int)), (6, i64 r24), (7, sli 3 (List.map L_tree_Node x0)), (8, i64 (x0.length : Int)), (9, i64 (i21 : Int)), (23, bl s28)]) (fun s28 => []) ?_ ?_
   · intro j26 hj27
     apply z [6, 30, 46, 30]
     refine sifd 19 rfl ?_ ?_
     · apply z [23, 23, 23, 38, 1]
       exact sj (hj27 _) (eR [])
     apply z [22, 22, 22, 37, 1]
     exact sj (hj27 _) (eR [])
   intro s28
   refine c ?_ ?_
   · apply z [2, 30, 31, 1, 8, 10, 12]
     refine sU ?_
     apply z [12, 10]
     exact rt []
   apply z [9, 4, 6, 30, 30, 49, 40, 31, 3, 11]
   exact sgo eI
 intro s29
 apply z [13, 4, 5, 2, 30, 56, 1]
 refine c ?_ ?_
 · apply z [2, 30, 39, 31, 1, 8, 10]
   exact rt []
 apply z [9, 4, 2, 31, 1, 8]
 exact rt []
theorem c_tree_Right {x0} : ∀ r, m_tree_Right x0 = some r → FnOk Tryd.prog 11 [sli 3 (List.map L_tree_Node x0)] [] (bl r) [] := by
 unfold m_tree_Right
 refine fs Tryd.func11 fun w S0 γ hγ => ?_
 apply z [2, 31, 1, 2, 30]
 refine cb (ca c_tree_Wrong) fun r1 => ?_
 apply z [46, 31, 1, 8]
 exact rt []
theorem c_retrospectlaw18_ParseBlanks {n : Nat} {x0} : ∀ r, m_retrospectlaw18_ParseBlanks n x0 = some r → FnOk Tryd.prog 3 [str x0] [] (bl r) [] := by
 unfold m_retrospectlaw18_ParseBlanks
 refine fs Tryd.func3 fun w S0 γ hγ => ?_
 apply z [2, 31, 1, 5, 2, 30, 54, 47, 1]
 refine c ?_ ?_
 · apply z [2]
   refine cb (ca c_retrospectlaw18_works) fun r1 => ?_
   apply z [31, 1, 8, 10]
   exact rt []
 apply z [9, 4, 2, 30]
 refine cb (ca c_lex_Scan) fun r3 => ?_
 apply z [30, 35, 35]
 refine o (al' 100) ?_
 apply z [31, 34, 1, 5, 2, 32]
 refine s1 (bld (l := [i64 0, i64 0, i64 0, i64 0]) pl_25.h ti_25.h zr_api_Fault rfl rfl) ?_
 refine s1 (neA (p := (r3.2 : M_api_Fault)) (q := ((⟨0, 0, 0, 0⟩ : M_api_Fault) : M_api_Fault)) eq_25_2 rfl eg_25 rfl rfl rfl) ?_
 apply z [1]
 refine c ?_ ?_
 · apply z [2]
   refine cb (ca c_retrospectlaw18_works) fun r5 => ?_
   apply z [31, 1, 8, 10]
   exact rt []
 apply z [9, 4, 2, 30]
 refine cb (ca c_parse_Parse) fun r7 => ?_
 apply z [30, 35, 35]
 refine o (al' 101) ?_
 refine o (al' 102) ?_
 apply z [34, 34, 1, 2, 30]
 refine cb (ca c_lex_Text) fun r9 => ?_
 refine cb (ca c_parse_Parse) fun r11 => ?_
 apply z [30, 35, 35]
 refine o (al' 103) ?_
 refine o (al' 104) ?_
 apply z [34, 34, 1, 5]
 refine sjq (fun s20 => [(0, str x0), (2, bl false), (49, bl s20)]) (fun s20 => []) ?_ ?_
 · intro j18 hj19
   refine sif (fun hb21 => ?_) (fun hb21 => ?_)
   · refine sd ?_
     apply zd [[102]]
     refine dx [] [] (fun st mm _ _ => og (bld (l := [i64 0, i64 0, i64 0, i64 0]) pl_25.h ti_25.h zr_api_Fault rfl rfl)) ?_
     refine dx [37, 38] [] (fun st mm ⟨a37, a38, _⟩ _ => og (eqA (p := (r7.2 : M_api_Fault)) (q := ((⟨0, 0, 0, 0⟩ : M_api_Fault) : M_api_Fault)) eq_25_2 rfl eg_25 rfl (a37.trans rfl) (a38.trans rfl))) ?_
     apply zd [[104]]
     refine dx [] [] (fun st mm _ _ => og (bld (l := [i64 0, i64 0, i64 0, i64 0]) pl_25.h ti_25.h zr_api_Fault rfl rfl)) ?_
     refine dx [40, 41] [] (fun st mm ⟨a40, a41, _⟩ _ => og (eqA (p := (r11.2 : M_api_Fault)) (q := ((⟨0, 0, 0, 0⟩ : M_api_Fault) : M_api_Fault)) eq_25_2 rfl eg_25 rfl (a40.trans rfl) (a41.trans rfl))) ?_
     apply zd [[]]
     refine dd [] (fun _ _ _ _ => obk hb21 ops) ?_
     apply zd [[], [], [], [], []]
     refine de fol ?_
     refine sbn (F := bl) 43 rfl fun z22 => ?_
     apply z [4]
     exact sj (hj19 _) (eR [])
   refine b fun r23 h24 => ?_
   refine sd ?_
   apply zd [[102]]
   refine dx [] [] (fun st mm _ _ => og (bld (l := [i64 0, i64 0, i64 0, i64 0]) pl_25.h ti_25.h zr_api_Fault rfl rfl)) ?_
   refine dx [37, 38] [] (fun st mm ⟨a37, a38, _⟩ _ => og (eqA (p := (r7.2 : M_api_Fault)) (q := ((⟨0, 0, 0, 0⟩ : M_api_Fault) : M_api_Fault)) eq_25_2 rfl eg_25 rfl (a37.trans rfl) (a38.trans rfl))) ?_
   apply zd [[104]]
   refine dx [] [] (fun st mm _ _ => og (bld (l := [i64 0, i64 0, i64 0, i64 0]) pl_25.h ti_25.h zr_api_Fault rfl rfl)) ?_
   refine dx [40, 41] [] (fun st mm ⟨a40, a41, _⟩ _ => og (eqA (p := (r11.2 : M_api_Fault)) (q := ((⟨0, 0, 0, 0⟩ : M_api_Fault) : M_api_Fault)) eq_25_2 rfl eg_25 rfl (a40.trans rfl) (a41.trans rfl))) ?_
   apply zd [[]]
   refine dd [] (fun _ _ _ _ => obk hb21 ops) ?_
   apply zd [[101], [103]]
   refine dG [] (fun _ _ _ _ => c0 (c_tree_SameField _ h24)) ?_
   apply zd [[], []]
   refine de fol ?_
   refine sbn (F := bl) 43 rfl fun z25 => ?_
   apply z [4]
   exact sj (hj19 _) (eR [])
 intro s20
 refine c ?_ ?_
 · apply z [2, 31, 1, 8, 10]
   exact rt []
 apply z [9, 4, 2, 30]
 refine so (bsl (y := 105) (ls := List.map str ([([97] : List UInt8), ([98] : List UInt8)] : List (List UInt8))) Tryd.underlying56 ti_9.h rfl rfl rfl rfl rfl ⟨rfl, (kS (s := [97]) rfl), (by exact rfl), (by exact rfl), rfl, (kS (s := [98]) rfl), (by exact rfl), (by exact rfl), trivial⟩ rfl rfl) ?_
 refine fz 105 [52] [] ?_
 refine cb (ca c_parse_Expr) fun r26 => ?_
 apply z [30, 35, 35]
 refine o (al' 106) ?_
 apply z [31, 34, 1, 5, 2, 32]
 refine s1 (bld (l := [i64 0, i64 0, i64 0, i64 0]) pl_25.h ti_25.h zr_api_Fault rfl rfl) ?_
 refine s1 (neA (p := (r26.2 : M_api_Fault)) (q := ((⟨0, 0, 0, 0⟩ : M_api_Fault) : M_api_Fault)) eq_25_2 rfl eg_25 rfl rfl rfl) ?_
 apply z [1]
 refine c ?_ ?_
 · apply z [2]
   refine cb (ca c_retrospectlaw18_works) fun r28 => ?_
   apply z [31, 1, 8, 10]
   exact rt []
 apply z [9, 4, 2, 30]
 refine b fun y30 h31 => ?_
 apply z [91]
 refine b fun y32 h33 => ?_
 apply z [91]
 refine so (bsl (y := 107) (ls := List.map str ([([97] : List UInt8), ([98] : List UInt8)] : List (List UInt8))) Tryd.underlying56 ti_9.h rfl rfl rfl rfl rfl ⟨rfl, (kS (s := [97]) rfl), (by exact rfl), (by exact rfl), rfl, (kS (s := [98]) rfl), (by exact rfl), (by exact rfl), trivial⟩ rfl rfl) ?_
 refine fz 107 [64] [] ?_
 refine cb (ca c_parse_Expr) fun r34 => ?_
 apply z [30, 35, 35]
 refine o (al' 108) ?_
 apply z [31, 34, 1]
 refine sjq (fun s52 => [(2, bl s52)]) (fun s52 => []) ?_ ?_
 · intro j50 hj51
   apply z [6, 32]
   refine s1 (bld (l := [i64 0, i64 0, i64 0, i64 0]) pl_25.h ti_25.h zr_api_Fault rfl rfl) ?_
   refine s1 (eqA (p := (r34.2 : M_api_Fault)) (q := ((⟨0, 0, 0, 0⟩ : M_api_Fault) : M_api_Fault)) eq_25_2 rfl eg_25 rfl rfl rfl) ?_
   apply z [30]
   refine sifd 71 rfl ?_ ?_
   · apply z [22, 22]
     refine b fun r53 h54 => ?_
     refine og' (c0 (c_tree_Same _ h54)) ?_
     apply z [38, 30]
     refine sifd 76 rfl ?_ ?_
     · apply z [23, 23, 23, 38, 30, 22]
       refine b fun r55 h56 => ?_
       refine og' (c0 (c_tree_Right _ h56)) ?_
       apply z [38, 30]
       refine sifd 85 rfl ?_ ?_
       · refine b fun r57 h58 => ?_
         refine og' (c0 (c_retrospectlaw18_works _ h58)) ?_
         apply z [38, 31, 1]
         exact sj (hj51 _) (eR [])
       apply z [23, 37, 31, 1]
       exact sj (hj51 _) (eR [])
     apply z [22, 22, 22, 37, 30]
     refine sifd 81 rfl ?_ ?_
     · apply z [22]
       refine b fun r59 h60 => ?_
       refine og' (c0 (c_tree_Right _ h60)) ?_
       apply z [38, 30]
       refine sifd 85 rfl ?_ ?_
       · refine b fun r61 h62 => ?_
         refine og' (c0 (c_retrospectlaw18_works _ h62)) ?_
         apply z [38, 31, 1]
         exact sj (hj51 _) (eR [])
       apply z [23, 37, 31, 1]
       exact sj (hj51 _) (eR [])
     apply z [23, 23, 37, 30, 23, 37, 31, 1]
     exact sj (hj51 _) (eR [])
   apply z [23, 23, 23, 37, 30, 22, 22, 22, 37, 30]
   refine sifd 81 rfl ?_ ?_
   · apply z [22]
     refine b fun r63 h64 => ?_
     refine og' (c0 (c_tree_Right _ h64)) ?_
     apply z [38, 30]
     refine sifd 85 rfl ?_ ?_
     · refine b fun r65 h66 => ?_
       refine og' (c0 (c_retrospectlaw18_works _ h66)) ?_
       apply z [38, 31, 1]
       exact sj (hj51 _) (eR [])
     apply z [23, 37, 31, 1]
     exact sj (hj51 _) (eR [])
   apply z [23, 23, 37, 30, 23, 37, 31, 1]
   exact sj (hj51 _) (eR [])
 intro s52
 apply z [8]
 exact rt []
end Go.Proofs.YtpomhkkhdojpiaaDoor
