import Derived.Test.YtpomhkkhdojpiaaGreatDoorGen5
set_option maxRecDepth 100000
set_option maxHeartbeats 4000000
namespace Go.Proofs.YtpomhkkhdojpiaaGreatDoor
open Go Go.RowKit
theorem c_show_Field {n : Nat} {x0} : ∀ r, m_show_Field n x0 = some r → FnOk Tryz.prog 28 [L_tree_Field x0] [] (.tup [str r.1, bl r.2]) [] := by
 unfold m_show_Field
 refine fs Tryz.func28 fun w S0 γ hγ => ?_
 apply z [2]
 refine o (bx' 100) ?_
 apply z [31, 31, 1, 5, 2, 32, 33, 36, 39]
 refine cb (ca c_check_Check) fun r1 => ?_
 refine s1 (bld (l := [i64 0, i64 0, i64 0, i64 0]) pl_28.h ti_28.h zr_api_Fault rfl rfl) ?_
 refine s1 (neA (p := (r1 : M_api_Fault)) (q := ((⟨0, 0, 0, 0⟩ : M_api_Fault) : M_api_Fault)) eq_28_2 rfl eg_28 rfl rfl rfl) ?_
 apply z [1]
 refine c ?_ ?_
 · apply z [2, 31, 31, 1, 8, 10]
   exact rt []
 apply z [9, 4, 2]
 refine so (alOw (y := 101) (ly := .agg [.por 101, .own 102]) [(102, 5, 1)] ti_102.h (zo_agg (zos_cons (c1 := [.pointer none]) zo_por (zos_cons (c1 := [.slice none 0 0]) (zo_own rfl) zos_nil))) ⟨rfl, trivial⟩ rfl rfl rfl) ?_
 apply z [1, 2]
 refine so (asgN (y := 103) (E := 9) (k := 1) rfl rfl) ?_
 apply z [1, 5, 2, 33, 36, 39, 30, 1, 7]
 refine srN (fun s22 => [(1, .own 100), (2, str ([] : List UInt8)), (3, bl false), (4, .own 101), (5, .own 103), (19, sli 2 (List.map L_tree_Let x0.Lets))]) (fun s22 => [(100, .bx 26 (L_tree_Field x0)), (101, .bx 102 (.agg [.por 101, .own 102])), (102, .sl 5 1 (List.map ub s22.1)), (103, .sl 9 1 (List.map str s22.2))]) (rE (eR [(100, 100), (101, 101), (102, 102), (103, 103)])) ?_ ?_
 · intro i23 x24 s22 hx25
   apply z [7, 2, 43, 42]
   refine o (al' 104) ?_
   apply z [34, 1, 5]
   refine b fun y26 h27 => ?_
   refine b fun y28 h29 => ?_
   refine b fun r30 h31 => ?_
   refine b fun y32 h33 => ?_
   refine b fun y34 h35 => ?_
   refine b fun y36 h37 => ?_
   refine sd ?_
   apply zd [[104], [104], [], [], [104], [104], []]
   refine dx [30, 31] [103] (fun st mm ⟨a30, a31, _⟩ ⟨g103, _⟩ => og (callL (em := []) [103] [] [] [] rfl (c_show_write _ h31) trivial (pl_str) ⟨.inl ⟨_, (a30.trans rfl), rn_id if_sli⟩, .inr ⟨103, rfl, .inl ⟨(a31.trans rfl), .inl ⟨_, _, _, (g103.trans rfl), ifs_map (f := str) (fun _ => if_str) s22.2, rfl⟩⟩⟩, trivial⟩ (fun _ _ h => by cases h) trivial rfl trivial trivial rfl trivial trivial trivial (rn_id (if_str)) rfl)) ?_
   apply zd [[], []]
   refine dx [4, 34] [101, 102, 105] (fun st mm ⟨a4, a34, _⟩ ⟨g101, g102, g105, _⟩ => og (callG (em := [(105, .sl 5 1 (List.map ub y36)), (101, .bx 102 (.agg [.por 101, .own 105])), (102, .gone)]) (res' := .tup [i64 (y34.length : Int), nilI]) [(0, 101), (1, 102)] [(105, 52)] [(105, 52), (101, 0)] (ws_ok' h37) ⟨⟨_, (a4.trans rfl), rn_own rfl⟩, ⟨_, (a34.trans rfl), rn_id if_str⟩, trivial⟩ (MiF.get (mi := [(0, _), (1, _)]) ⟨⟨_, _, rfl, (g101.trans rfl), rc_bx (rn_agg (rns_cons (rn_por rfl) (rns_cons (rn_own rfl) rns_nil)))⟩, ⟨_, _, rfl, (g102.trans rfl), rc_sl (ifs_map (f := ub) (fun _ => if_ub) s22.1)⟩, trivial⟩) ⟨⟨_, rfl⟩, ⟨_, rfl⟩, trivial⟩ rfl ⟨(g105.trans rfl), trivial⟩ ⟨.inl rfl, .inr rfl, trivial⟩ rfl ⟨.inl ⟨_, _, rfl, rfl, rc_sl (ifs_map (f := ub) (fun _ => if_ub) y36)⟩, .inl ⟨_, _, rfl, rfl, rc_bx (rn_agg (rns_cons (rn_por rfl) (rns_cons (rn_own rfl) rns_nil)))⟩, .inr ⟨rfl, 1, .tail _ (.head _)⟩, trivial⟩ ⟨⟨_, rfl⟩, ⟨_, rfl⟩, trivial⟩ ⟨⟨_, rfl⟩, trivial⟩ (rn_tup (rns_cons (rn_id if_i64) (rns_cons (rn_id if_nilI) rns_nil))) rfl)) ?_
   refine de fol ?_
   apply z [4, 6, 30, 33, 36]
   refine so (bsl (y := 106) (ls := List.map str ([x24.Name] : List (List UInt8))) Tryz.underlying41 ti_9.h rfl rfl rfl rfl rfl ⟨rfl, rfl, (by exact rfl), (by exact rfl), trivial⟩ rfl rfl) ?_
   refine b fun y38 h39 => ?_
   refine o (app' 107) ?_
   apply z [31, 3, 11]
   exact sgo (eR [(100, 100), (101, 101), (102, 105), (103, 107)])
 intro s40
 apply z [13, 4, 2]
 refine so (asgN (y := 104) (E := 9) (k := 1) rfl rfl) ?_
 apply z [1, 5, 2, 33, 36, 39, 30, 1, 7]
 refine srN (fun s58 => [(2, str ([] : List UInt8)), (3, bl false), (4, .own 101), (5, .own 103), (8, .own 104), (43, sli 1 (List.map L_S_tree_Node x0.Outs))]) (fun s58 => [(101, .bx 102 (.agg [.por 101, .own 102])), (102, .sl 5 1 (List.map ub s40.1)), (103, .sl 9 1 (List.map str s40.2)), (104, .sl 9 1 (List.map str s58))]) (rE (eR [(101, 101), (102, 102), (103, 103), (104, 104)])) ?_ ?_
 · intro i59 x60 s58 hx61
   apply z [7, 2, 43, 42, 31, 1, 6, 30, 30, 30]
   refine b fun r62 h63 => ?_
   refine s1 (callL (em := []) [103] [] [] [] rfl (c_show_write _ h63) trivial (pl_str) ⟨.inl ⟨_, rfl, rn_id if_sli⟩, .inr ⟨103, rfl, .inl ⟨rfl, .inl ⟨_, _, _, rfl, ifs_map (f := str) (fun _ => if_str) s40.2, rfl⟩⟩⟩, trivial⟩ (fun _ _ h => by cases h) trivial rfl trivial trivial rfl trivial trivial trivial (rn_id (if_str)) rfl) ?_
   refine so (bsl (y := 105) (ls := List.map str ([r62] : List (List UInt8))) Tryz.underlying41 ti_9.h rfl rfl rfl rfl rfl ⟨rfl, rfl, (by exact rfl), (by exact rfl), trivial⟩ rfl rfl) ?_
   refine b fun y64 h65 => ?_
   refine o (app' 106) ?_
   apply z [31, 3, 11]
   exact sgo (eR [(101, 101), (102, 102), (103, 103), (104, 106)])
 intro s66
 apply z [13, 4, 2, 30]
 refine b fun r67 h68 => ?_
 refine s1 (callL (em := []) [104] [] [] [] rfl (c_strings_Join _ h68) trivial (pl_str) ⟨.inr ⟨104, rfl, .inl ⟨rfl, .inl ⟨_, _, _, rfl, ifs_map (f := str) (fun _ => if_str) s66, rfl⟩⟩⟩, .inl ⟨_, (kS (s := [44, 32]) rfl), rn_id if_str⟩, trivial⟩ (fun _ _ h => by cases h) trivial rfl trivial trivial rfl trivial trivial trivial (rn_id (if_str)) rfl) ?_
 refine b fun y69 h70 => ?_
 apply z [91]
 refine b fun y71 h72 => ?_
 apply z [91]
 refine b fun y73 h74 => ?_
 refine so (callG (em := [(105, .sl 5 1 (List.map ub y73)), (101, .bx 102 (.agg [.por 101, .own 105])), (102, .gone)]) (res' := .tup [i64 (y71.length : Int), nilI]) [(0, 101), (1, 102)] [(105, 52)] [(105, 52), (101, 0)] (ws_ok' h74) ⟨⟨_, rfl, rn_own rfl⟩, ⟨_, rfl, rn_id if_str⟩, trivial⟩ (MiF.get (mi := [(0, _), (1, _)]) ⟨⟨_, _, rfl, rfl, rc_bx (rn_agg (rns_cons (rn_por rfl) (rns_cons (rn_own rfl) rns_nil)))⟩, ⟨_, _, rfl, rfl, rc_sl (ifs_map (f := ub) (fun _ => if_ub) s40.1)⟩, trivial⟩) ⟨⟨_, rfl⟩, ⟨_, rfl⟩, trivial⟩ rfl ⟨rfl, trivial⟩ ⟨.inl rfl, .inr rfl, trivial⟩ rfl ⟨.inl ⟨_, _, rfl, rfl, rc_sl (ifs_map (f := ub) (fun _ => if_ub) y73)⟩, .inl ⟨_, _, rfl, rfl, rc_bx (rn_agg (rns_cons (rn_por rfl) (rns_cons (rn_own rfl) rns_nil)))⟩, .inr ⟨rfl, 1, .tail _ (.head _)⟩, trivial⟩ ⟨⟨_, rfl⟩, ⟨_, rfl⟩, trivial⟩ ⟨⟨_, rfl⟩, trivial⟩ (rn_tup (rns_cons (rn_id if_i64) (rns_cons (rn_id if_nilI) rns_nil))) rfl) ?_
 apply z [1, 2]
 refine so (strOp (id := 101) (id2 := 105) rfl rfl rfl rfl rfl) ?_
 apply z [31, 31, 1, 8]
 exact rt []
theorem c_retrospectref17_Codes {n : Nat} {x0} : ∀ r, m_retrospectref17_Codes n x0 = some r → FnOk Tryz.prog 42 [L_retrospectref17_Field x0] [] (sli 1 (List.map L_S_retrospectref17_Node r)) [] := by
 unfold m_retrospectref17_Codes
 refine fs Tryz.func42 fun w S0 γ hγ => ?_
 apply z [2]
 refine o (bx' 100) ?_
 refine s1 (asg rfl (kLm (k := 1) L_S_retrospectref17_Node)) ?_
 apply z [1, 2]
 refine so (asgN (y := 101) (E := 45) (k := 1) rfl rfl) ?_
 apply z [1, 5, 2, 31, 1, 7]
 refine sloopE 0 (fun t => t) (fun s13 => [(1, .own 100), (2, sli 1 (List.map L_S_retrospectref17_Node ([] : List (List M_retrospectref17_Node)))), (3, .own 101), (4, i64 s13.2)]) (fun s13 => [(100, .bx 34 (L_retrospectref17_Field x0)), (101, .sl 45 1 (List.map L_S_retrospectref17_Node s13.1))]) (fun t11 => [(1, .own 100), (2, sli 1 (List.map L_S_retrospectref17_Node ([] : List (List M_retrospectref17_Node)))), (3, .own 101)]) (fun t11 => [(100, .bx 34 (L_retrospectref17_Field x0)), (101, .sl 45 1 (List.map L_S_retrospectref17_Node t11))]) (eR [(100, 100), (101, 101)]) ?_ ?_
 · intro hj12 s13
   apply z [5, 2, 30, 33, 36, 39, 46, 1]
   refine c ?_ ?_
   · apply z [9, 4, 5, 7, 6, 30, 33, 36, 30]
     refine b fun y14 h15 => ?_
     apply z [43, 92, 42]
     refine so (bsl (y := 102) (ls := List.map L_S_retrospectref17_Node ([y14.Code] : List (List M_retrospectref17_Node))) Tryz.underlying32 ti_45.h rfl rfl rfl rfl rfl ⟨rfl, rfl, (by exact rfl), (by exact rfl), trivial⟩ rfl rfl) ?_
     refine b fun y16 h17 => ?_
     refine o (app' 103) ?_
     apply z [31, 3, 11, 4, 6, 30, 40, 31, 3]
     exact sgo (eR [(100, 100), (101, 103)])
   apply z [14, 15]
   exact su (sj (hj12 _) (eR [(100, 100), (101, 101)]))
 intro t11
 apply z [13, 4, 2, 30, 33, 36]
 refine b fun y18 h19 => ?_
 refine o (app' 102) ?_
 apply z [31, 1, 8]
 refine fz 102 [2, 24] [] ?_
 exact rt []
theorem c_retrospectref17_Size {n : Nat} {x0} : ∀ r, m_retrospectref17_Size n x0 = some r → FnOk Tryz.prog 124 [L_retrospectref17_Field x0] [] (i64 r) [] := by
 unfold m_retrospectref17_Size
 refine fs Tryz.func124 fun w S0 γ hγ => ?_
 apply z [2]
 refine o (bx' 100) ?_
 apply z [31, 1, 2, 31, 1, 2, 32]
 refine cb (ca c_retrospectref17_Codes) fun r1 => ?_
 apply z [31, 1, 5, 2, 31, 1, 7]
 refine sloopE 0 (fun t => t) (fun s11 => [(2, i64 (0 : Int)), (3, i64 s11.1), (4, sli 1 (List.map L_S_retrospectref17_Node r1)), (5, i64 s11.2)]) (fun s11 => []) (fun t9 => [(2, i64 (0 : Int)), (3, i64 t9)]) (fun t9 => []) (eR []) ?_ ?_
 · intro hj10 s11
   apply z [5, 2, 30, 30, 39, 46, 1]
   refine c ?_ ?_
   · apply z [9, 4, 5, 7, 6, 30, 30, 30]
     refine b fun y12 h13 => ?_
     apply z [43, 42, 39, 40, 31, 3, 11, 4, 6, 30, 40, 31, 3]
     exact sgo eI
   apply z [14, 15]
   exact su (sj (hj10 _) eI)
 intro t9
 apply z [13, 4, 2, 30, 31, 1, 8]
 exact rt []
theorem c_retrospectref16_digit {x0} : ∀ r, m_retrospectref16_digit x0 = some r → FnOk Tryz.prog 134 [u8 x0] [] (bl r) [] := by
 unfold m_retrospectref16_digit
 refine fs Tryz.func134 fun w S0 γ hγ => ?_
 apply z [2, 31, 1]
 refine sjq (fun s3 => [(2, bl s3)]) (fun s3 => []) ?_ ?_
 · intro j1 hj2
   apply z [6, 30, 71, 30]
   refine sifd 5 rfl ?_ ?_
   · apply z [22, 22, 38, 31, 1]
     exact sj (hj2 _) eI
   apply z [23, 23, 37, 31, 1]
   exact sj (hj2 _) eI
 intro s3
 apply z [8]
 exact rt []
theorem c_retrospectref16_letter {x0} : ∀ r, m_retrospectref16_letter x0 = some r → FnOk Tryz.prog 135 [u8 x0] [] (bl r) [] := by
 unfold m_retrospectref16_letter
 refine fs Tryz.func135 fun w S0 γ hγ => ?_
 apply z [2, 31, 1]
 refine sjq (fun s3 => [(2, bl s3)]) (fun s3 => []) ?_ ?_
 · intro j1 hj2
   apply z [6, 30, 71, 30]
   refine sifd 5 rfl ?_ ?_
   · apply z [22, 22, 38, 30]
     refine sifd 9 rfl ?_ ?_
     · apply z [23, 23, 23, 24, 24, 23, 38, 30, 23, 23, 38, 31, 1]
       exact sj (hj2 _) eI
     apply z [22, 22, 22]
     refine sifd 12 rfl ?_ ?_
     · apply z [22, 22, 22, 37, 30]
       refine sifd 17 rfl ?_ ?_
       · apply z [23, 23, 38, 31, 1]
         exact sj (hj2 _) eI
       apply z [22, 22, 37, 31, 1]
       exact sj (hj2 _) eI
     apply z [23, 23, 22, 37, 30, 22, 22, 37, 31, 1]
     exact sj (hj2 _) eI
   apply z [23, 23, 37, 30, 22, 22, 22]
   refine sifd 12 rfl ?_ ?_
   · apply z [22, 22, 22, 37, 30]
     refine sifd 17 rfl ?_ ?_
     · apply z [23, 23, 38, 31, 1]
       exact sj (hj2 _) eI
     apply z [22, 22, 37, 31, 1]
     exact sj (hj2 _) eI
   apply z [23, 23, 22, 37, 30, 22, 22, 37, 31, 1]
   exact sj (hj2 _) eI
 intro s3
 apply z [8]
 exact rt []
theorem c_retrospectref16_more {x0} {x1} : ∀ r, m_retrospectref16_more x0 x1 = some r → FnOk Tryz.prog 108 [i64 x0, u8 x1] [] (bl r) [] := by
 unfold m_retrospectref16_more
 refine fs Tryz.func108 fun w S0 γ hγ => ?_
 apply z [2, 31, 1]
 refine sjq (fun s13 => [(4, bl s13)]) (fun s13 => []) ?_ ?_
 · intro j11 hj12
   apply z [6, 30, 41, 30]
   refine sifd 7 rfl ?_ ?_
   · apply z [22]
     refine b fun r14 h15 => ?_
     refine og' (c0 (c_retrospectref16_digit _ h15)) ?_
     apply z [38, 30]
     refine sifd 11 rfl ?_ ?_
     · apply z [23, 23, 23, 24, 24, 24, 24, 24, 24, 23, 38, 31, 1]
       exact sj (hj12 _) eI
     apply z [22, 22, 22]
     refine sifd 14 rfl ?_ ?_
     · apply z [22]
       refine b fun r16 h17 => ?_
       refine og' (c0 (c_retrospectref16_digit _ h17)) ?_
       apply z [22]
       refine sifd 17 rfl ?_ ?_
       · apply z [23, 23, 22, 22, 37, 31, 1]
         exact sj (hj12 _) eI
       apply z [22]
       refine b fun r18 h19 => ?_
       refine og' (c0 (c_retrospectref16_letter _ h19)) ?_
       apply z [22, 22, 37, 31, 1]
       exact sj (hj12 _) eI
     apply z [23, 23, 23, 24, 24, 23, 22, 37, 31, 1]
     exact sj (hj12 _) eI
   apply z [23, 23, 37, 30, 22, 22, 22]
   refine sifd 14 rfl ?_ ?_
   · apply z [22]
     refine b fun r20 h21 => ?_
     refine og' (c0 (c_retrospectref16_digit _ h21)) ?_
     apply z [22]
     refine sifd 17 rfl ?_ ?_
     · apply z [23, 23, 22, 22, 37, 31, 1]
       exact sj (hj12 _) eI
     apply z [22]
     refine b fun r22 h23 => ?_
     refine og' (c0 (c_retrospectref16_letter _ h23)) ?_
     apply z [22, 22, 37, 31, 1]
     exact sj (hj12 _) eI
   apply z [23, 23, 23, 24, 24, 23, 22, 37, 31, 1]
   exact sj (hj12 _) eI
 intro s13
 apply z [8]
 exact rt []
theorem c_retrospectref16_Kind {n : Nat} {x0} : ∀ r, m_retrospectref16_Kind n x0 = some r → FnOk Tryz.prog 109 [u8 x0] [] (i64 r) [] := by
 unfold m_retrospectref16_Kind
 refine fs Tryz.func109 fun w S0 γ hγ => ?_
 apply z [2, 31, 1, 5, 2, 30]
 refine cb (ca c_retrospectref16_digit) fun r1 => ?_
 apply z [1]
 refine c ?_ ?_
 · apply z [2, 31, 1, 8, 10]
   exact rt []
 apply z [9, 4, 5, 2, 30]
 refine cb (ca c_retrospectref16_letter) fun r3 => ?_
 apply z [1]
 refine c ?_ ?_
 · apply z [2, 31, 1, 8, 10]
   exact rt []
 apply z [9, 4, 2, 31, 1, 5, 2, 31, 1, 7]
 refine sloopE 0 Lp.go (fun s15 => [(0, u8 x0), (2, i64 (0 : Int)), (3, str ([43, 45, 42, 47, 94, 40, 41, 91, 93, 44, 59, 61] : List UInt8)), (4, i64 s15)]) (fun s15 => []) (fun t13 => [(2, i64 (0 : Int))]) (fun t13 => []) eI ?_ ?_
 · intro hj14 s15
   apply z [5, 2, 30, 30, 54]
   refine sbn (F := i64) 11 rfl fun z16 => ?_
   apply z [46, 1]
   refine c ?_ ?_
   · apply z [9, 4, 5, 7, 2, 30, 30]
     refine b fun y17 h18 => ?_
     apply z [90, 30, 66, 1]
     refine c ?_ ?_
     · apply z [2, 31, 1, 8, 12, 10]
       refine sU ?_
       apply z [12, 10]
       exact rt []
     apply z [9, 11, 4, 6, 30, 40, 31, 3]
     exact sgo eI
   apply z [14, 15]
   exact su (sj (hj14 _) eI)
 intro t13
 refine slpk ?_
 apply z [13, 4, 2, 31, 1, 8]
 exact rt []
theorem c_retrospectref16_Most {x0} : ∀ r, m_retrospectref16_Most x0 = some r → FnOk Tryz.prog 110 [i64 x0] [] (i64 r) [] := by
 unfold m_retrospectref16_Most
 refine fs Tryz.func110 fun w S0 γ hγ => ?_
 apply z [2, 31, 1, 5, 2, 30, 41, 1]
 refine c ?_ ?_
 · apply z [2, 31, 1, 8, 10]
   exact rt []
 apply z [9, 4, 5, 2, 30, 41, 1]
 refine c ?_ ?_
 · apply z [2, 31, 1, 8, 10]
   exact rt []
 apply z [9, 4, 2, 31, 1, 8]
 exact rt []
theorem c_retrospectref16_Scan {n : Nat} {x0} : ∀ r, m_retrospectref16_Scan n x0 = some r → FnOk Tryz.prog 71 [str x0] [] (.tup [sli 3 (List.map L_retrospectref16_Word r.1), i64 r.2]) [] := by
 unfold m_retrospectref16_Scan
 refine fs Tryz.func71 fun w S0 γ hγ => ?_
 apply z [2]
 refine s1 (asg rfl (kLm (k := 3) L_retrospectref16_Word)) ?_
 apply z [31, 1, 5, 2, 30, 54, 47, 1]
 refine c ?_ ?_
 · apply z [2]
   refine so (bsl (y := 100) (ls := List.map L_retrospectref16_Word ([] : List M_retrospectref16_Word)) Tryz.underlying76 ti_125.h rfl rfl rfl rfl rfl trivial rfl rfl) ?_
   apply z [31, 31, 1, 8, 10]
   refine fz 100 [2, 13] [] ?_
   exact rt []
 apply z [9, 4, 2]
 refine so (asgN (y := 100) (E := 125) (k := 3) rfl rfl) ?_
 apply z [1, 2, 31, 1, 5, 2, 31, 1, 7]
 refine sloopE 0 Lp.go (fun s407 => [(0, str x0), (2, sli 3 (List.map L_retrospectref16_Word ([] : List M_retrospectref16_Word))), (3, i64 (0 : Int)), (4, .own 100), (5, bl s407.2.1), (6, i64 s407.2.2)]) (fun s407 => [(100, .sl 125 3 (List.map L_retrospectref16_Word s407.1))]) (fun t405 => [(2, sli 3 (List.map L_retrospectref16_Word ([] : List M_retrospectref16_Word))), (3, i64 (0 : Int)), (4, .own 100)]) (fun t405 => [(100, .sl 125 3 (List.map L_retrospectref16_Word t405))]) (eR [(100, 100)]) ?_ ?_
 · intro hj406 s407
   apply z [5, 2, 30, 30, 54, 46, 1]
   refine c ?_ ?_
   · apply z [9, 4]
     refine sjq (fun s509 => [(0, str x0), (2, sli 3 (List.map L_retrospectref16_Word ([] : List M_retrospectref16_Word))), (3, i64 (0 : Int)), (4, .own 100), (5, bl s509.2), (6, i64 s407.2.2)]) (fun s509 => [(100, .sl 125 3 (List.map L_retrospectref16_Word s509.1))]) ?_ ?_
     · intro j507 hj508
       apply z [7, 2, 30, 30]
       refine b fun y510 h511 => ?_
       apply z [90, 31, 1]
       refine sjq (fun s514 => [(0, str x0), (2, sli 3 (List.map L_retrospectref16_Word ([] : List M_retrospectref16_Word))), (3, i64 (0 : Int)), (4, .own 100), (5, bl s514), (6, i64 s407.2.2), (7, u8 y510)]) (fun s514 => [(100, .sl 125 3 (List.map L_retrospectref16_Word s407.1))]) ?_ ?_
       · intro j512 hj513
         apply z [2, 30, 66, 1]
         refine c ?_ ?_
         · apply z [6, 31, 1]
           exact sj (hj513 _) (eR [(100, 100)])
         apply z [9, 4]
         exact sj (hj513 _) (eR [(100, 100)])
       intro s514
       refine sjq (fun s517 => [(0, str x0), (2, sli 3 (List.map L_retrospectref16_Word ([] : List M_retrospectref16_Word))), (3, i64 (0 : Int)), (4, .own 100), (5, bl s517), (6, i64 s407.2.2), (7, u8 y510)]) (fun s517 => [(100, .sl 125 3 (List.map L_retrospectref16_Word s407.1))]) ?_ ?_
       · intro j515 hj516
         apply z [2, 30, 66, 1]
         refine c ?_ ?_
         · apply z [6, 31, 1]
           exact sj (hj516 _) (eR [(100, 100)])
         apply z [9, 4]
         exact sj (hj516 _) (eR [(100, 100)])
       intro s517
       apply z [5]
       refine sjq (fun s520 => [(0, str x0), (2, sli 3 (List.map L_retrospectref16_Word ([] : List M_retrospectref16_Word))), (3, i64 (0 : Int)), (4, .own 100), (5, bl s517), (6, i64 s407.2.2), (7, u8 y510), (43, bl s520)]) (fun s520 => [(100, .sl 125 3 (List.map L_retrospectref16_Word s407.1))]) ?_ ?_
       · intro j518 hj519
         apply z [6, 30, 30]
         refine sifd 28 rfl ?_ ?_
         · apply z [23, 23, 38, 30, 23, 23, 38, 30, 23, 23, 38, 30, 23, 23, 38, 1]
           exact sj (hj519 _) (eR [(100, 100)])
         apply z [22, 22, 37, 30]
         refine sifd 32 rfl ?_ ?_
         · apply z [23, 23, 38, 30, 23, 23, 38, 30, 23, 23, 38, 1]
           exact sj (hj519 _) (eR [(100, 100)])
         apply z [22, 22, 37, 30]
         refine sifd 36 rfl ?_ ?_
         · apply z [23, 23, 38, 30, 23, 23, 38, 1]
           exact sj (hj519 _) (eR [(100, 100)])
         apply z [22, 22, 37, 30]
         refine sifd 40 rfl ?_ ?_
         · apply z [23, 23, 38, 1]
           exact sj (hj519 _) (eR [(100, 100)])
         apply z [22, 22, 37, 1]
         exact sj (hj519 _) (eR [(100, 100)])
       intro s520
       refine c ?_ ?_
       · apply z [14, 15, 13, 4]
         exact sj (hj508 _) (eR [(100, 100)])
       apply z [9, 4, 2, 30, 55, 31, 1]
       refine sjq (fun s560 => [(0, str x0), (2, sli 3 (List.map L_retrospectref16_Word ([] : List M_retrospectref16_Word))), (3, i64 (0 : Int)), (4, .own 100), (5, bl s517), (6, i64 s407.2.2)]) (fun s560 => [(100, .sl 125 3 (List.map L_retrospectref16_Word s560))]) ?_ ?_
       · intro j558 hj559
         refine sjq (fun s573 => [(0, str x0), (2, sli 3 (List.map L_retrospectref16_Word ([] : List M_retrospectref16_Word))), (3, i64 (0 : Int)), (4, .own 100), (5, bl s517), (6, i64 s407.2.2), (7, u8 y510), (8, i64 (s407.1.length : Int)), (75, bl s573)]) (fun s573 => [(100, .sl 125 3 (List.map L_retrospectref16_Word s407.1))]) ?_ ?_
         · intro j571 hj572
           refine sif (fun hb574 => ?_) (fun hb574 => ?_)
           · refine b fun y575 h576 => ?_
             refine b fun y577 h578 => ?_
             refine sif (fun hb579 => ?_) (fun hb579 => ?_)
             · refine b fun y580 h581 => ?_
               refine b fun r582 h583 => ?_
               refine sd ?_
               apply zd [[], []]
               refine dd [] (fun _ _ _ _ => obk hb574 ops) ?_
               apply zd [[], [], []]
               refine dx [48, 49, 51] [100] (fun st mm ⟨a48, a49, a51, _⟩ ⟨g100, _⟩ => ogG 48 rfl (a48.trans rfl) (ixO (f := L_retrospectref16_Word) (g100.trans rfl) Tryz.underlying76 ti_125.h h576 rfl (a49.trans rfl) (a51.trans rfl))) ?_
               apply zd [[]]
               refine dx [48, 53] [100] (fun st mm ⟨a48, a53, _⟩ ⟨g100, _⟩ => ogG 48 rfl (a48.trans rfl) (ldO (f := L_retrospectref16_Word) [2] (g100.trans rfl) (getI_ix h576) (by exact rfl) (by exact rfl) sh_3.h (by exact rfl) (by exact rfl) rfl (a53.trans rfl))) ?_
               apply zd [[], [], []]
               refine dx [48, 55, 57] [100] (fun st mm ⟨a48, a55, a57, _⟩ ⟨g100, _⟩ => ogG 48 rfl (a48.trans rfl) (ixO (f := L_retrospectref16_Word) (g100.trans rfl) Tryz.underlying76 ti_125.h h578 rfl (a55.trans rfl) (a57.trans rfl))) ?_
               apply zd [[]]
               refine dx [48, 59] [100] (fun st mm ⟨a48, a59, _⟩ ⟨g100, _⟩ => ogG 48 rfl (a48.trans rfl) (ldO (f := L_retrospectref16_Word) [1] (g100.trans rfl) (getI_ix h578) (by exact rfl) (by exact rfl) sh_9.h (by exact rfl) (by exact rfl) rfl (a59.trans rfl))) ?_
               apply zd [[], [], [], [], []]
               refine dd [] (fun _ _ _ _ => obk hb579 ops) ?_
               apply zd [[], [], []]
               refine dx [66, 67, 69] [100] (fun st mm ⟨a66, a67, a69, _⟩ ⟨g100, _⟩ => ogG 66 rfl (a66.trans rfl) (ixO (f := L_retrospectref16_Word) (g100.trans rfl) Tryz.underlying76 ti_125.h h581 rfl (a67.trans rfl) (a69.trans rfl))) ?_
               apply zd [[]]
               refine dx [66, 71] [100] (fun st mm ⟨a66, a71, _⟩ ⟨g100, _⟩ => ogG 66 rfl (a66.trans rfl) (ldO (f := L_retrospectref16_Word) [0] (g100.trans rfl) (getI_ix h581) (by exact rfl) (by exact rfl) sh_3.h (by exact rfl) (by exact rfl) rfl (a71.trans rfl))) ?_
               apply zd [[]]
               refine dG [] (fun _ _ _ _ => c0 (c_retrospectref16_more _ h583)) ?_
               apply zd [[]]
               refine de fol ?_
               apply z [4]
               exact sj (hj572 _) (eR [(100, 100)])
             refine sd ?_
             apply zd [[], []]
             refine dd [] (fun _ _ _ _ => obk hb574 ops) ?_
             apply zd [[], [], []]
             refine dx [48, 49, 51] [100] (fun st mm ⟨a48, a49, a51, _⟩ ⟨g100, _⟩ => ogG 48 rfl (a48.trans rfl) (ixO (f := L_retrospectref16_Word) (g100.trans rfl) Tryz.underlying76 ti_125.h h576 rfl (a49.trans rfl) (a51.trans rfl))) ?_
             apply zd [[]]
             refine dx [48, 53] [100] (fun st mm ⟨a48, a53, _⟩ ⟨g100, _⟩ => ogG 48 rfl (a48.trans rfl) (ldO (f := L_retrospectref16_Word) [2] (g100.trans rfl) (getI_ix h576) (by exact rfl) (by exact rfl) sh_3.h (by exact rfl) (by exact rfl) rfl (a53.trans rfl))) ?_
             apply zd [[], [], []]
             refine dx [48, 55, 57] [100] (fun st mm ⟨a48, a55, a57, _⟩ ⟨g100, _⟩ => ogG 48 rfl (a48.trans rfl) (ixO (f := L_retrospectref16_Word) (g100.trans rfl) Tryz.underlying76 ti_125.h h578 rfl (a55.trans rfl) (a57.trans rfl))) ?_
             apply zd [[]]
             refine dx [48, 59] [100] (fun st mm ⟨a48, a59, _⟩ ⟨g100, _⟩ => ogG 48 rfl (a48.trans rfl) (ldO (f := L_retrospectref16_Word) [1] (g100.trans rfl) (getI_ix h578) (by exact rfl) (by exact rfl) sh_9.h (by exact rfl) (by exact rfl) rfl (a59.trans rfl))) ?_
             apply zd [[], [], [], [], []]
             refine dd [] (fun _ _ _ _ => obk hb579 ops) ?_
             apply zd [[], [], [], [], [], [], [], [], []]
             refine de fol ?_
             apply z [4]
             exact sj (hj572 _) (eR [(100, 100)])
           refine sd ?_
           apply zd [[], []]
           refine dd [] (fun _ _ _ _ => obk hb574 ops) ?_
           apply zd [[], [], [], [], [], [], [], [], [], [], [], [], [], [], [], [], [], [], [], [], [], [], [], [], [], [], []]
           refine de fol ?_
           apply z [4]
           exact sj (hj572 _) (eR [(100, 100)])
         intro s573
         refine c ?_ ?_
         · refine b fun y584 h585 => ?_
           refine b fun y586 h587 => ?_
           refine b fun y588 h589 => ?_
           refine b fun y590 h591 => ?_
           refine sd ?_
           apply zd [[], [], []]
           refine dx [76, 78] [100] (fun st mm ⟨a76, a78, _⟩ ⟨g100, _⟩ => og (ixO (f := L_retrospectref16_Word) (g100.trans rfl) Tryz.underlying76 ti_125.h h585 rfl (a76.trans rfl) (a78.trans rfl))) ?_
           apply zd [[]]
           refine dx [80] [100] (fun st mm ⟨a80, _⟩ ⟨g100, _⟩ => og (ldO (f := L_retrospectref16_Word) [1] (g100.trans rfl) (getI_ix h585) (by exact rfl) (by exact rfl) sh_9.h (by exact rfl) (by exact rfl) rfl (a80.trans rfl))) ?_
           apply zd [[], [], [], []]
           refine dx [82, 83, 85] [] (fun st mm ⟨a82, a83, a85, _⟩ _ => og (slS h587 Tryz.underlying9 rfl (a82.trans rfl) (bnd (a83.trans rfl)) (bnd (a85.trans rfl)))) ?_
           apply zd [[]]
           refine dx [76, 78] [100] (fun st mm ⟨a76, a78, _⟩ ⟨g100, _⟩ => og (ixO (f := L_retrospectref16_Word) (g100.trans rfl) Tryz.underlying76 ti_125.h h591 rfl (a76.trans rfl) (a78.trans rfl))) ?_
           apply zd [[]]
           refine dx [89, 87] [100] (fun st mm ⟨a89, a87, _⟩ ⟨g100, _⟩ => og (stO (f := L_retrospectref16_Word) (⟨y590.Kind, y588, y590.At⟩ : M_retrospectref16_Word) [1] (g100.trans rfl) (getI_ix h591) (by exact rfl) (by exact rfl) (by exact rfl) (by exact rfl) sh_9.h (by exact rfl) (by exact rfl) (by exact rfl) (a89.trans rfl) (a87.trans rfl))) ?_
           refine de fol ?_
           apply z [4]
           exact sj (hj559 _) (eR [(100, 100)])
         refine b fun r592 h593 => ?_
         refine b fun y594 h595 => ?_
         refine b fun y596 h597 => ?_
         refine sd ?_
         apply zd [[], []]
         refine dd [] (fun _ _ _ _ => c0 (c_retrospectref16_Kind _ h593)) ?_
         apply zd [[], [], [], []]
         refine dx [93, 94, 96] [] (fun st mm ⟨a93, a94, a96, _⟩ _ => og (slS h595 Tryz.underlying9 rfl (a93.trans rfl) (bnd (a94.trans rfl)) (bnd (a96.trans rfl)))) ?_
         apply zd [[]]
         refine dx [92, 97, 98] [] (fun st mm ⟨a92, a97, a98, _⟩ _ => og (bld (l := [i64 r592, str y594, i64 s407.2.2]) pl_125.h ti_125.h zr_retrospectref16_Word ⟨_, _, _, (a92.trans rfl), rfl, rfl, rfl, (szk (k := 1) rfl rfl), ⟨_, _, _, (a97.trans rfl), rfl, rfl, rfl, (szk (k := 1) rfl rfl), ⟨_, _, _, (a98.trans rfl), rfl, rfl, rfl, (szk (k := 1) rfl rfl), rfl⟩⟩⟩ rfl)) ?_
         refine dx [99] [101] (fun st mm ⟨a99, _⟩ ⟨g101, _⟩ => og (bsl (y := 101) (ls := List.map L_retrospectref16_Word ([(⟨r592, y594, s407.2.2⟩ : M_retrospectref16_Word)] : List M_retrospectref16_Word)) Tryz.underlying76 ti_125.h rfl rfl rfl rfl rfl ⟨rfl, (a99.trans rfl), (by exact rfl), (by exact rfl), trivial⟩ (g101.trans rfl) rfl)) ?_
         refine dd [100, 101, 102] (fun _ _ _ _ => app' 102) ?_
         apply zd [[]]
         refine de fol ?_
         apply z [4]
         exact sj (hj559 _) (eR [(100, 102)])
       intro s560
       apply z [2, 30, 30, 55, 49]
       refine b fun y598 h599 => ?_
       apply z [50, 51]
       refine o (al' 103) ?_
       apply z [34, 1]
       refine sjq (fun s605 => [(0, str x0), (2, sli 3 (List.map L_retrospectref16_Word ([] : List M_retrospectref16_Word))), (3, i64 (0 : Int)), (4, .own 100), (5, bl s517), (6, i64 s407.2.2), (119, bl s605)]) (fun s605 => [(100, .sl 125 3 (List.map L_retrospectref16_Word s560))]) ?_ ?_
       · intro j603 hj604
         refine sif (fun hb606 => ?_) (fun hb606 => ?_)
         · refine sd ?_
           apply zd [[103], [103], []]
           refine dd [] (fun _ _ _ _ => obk hb606 ops) ?_
           apply zd [[], [], [], [], [], [], [], []]
           refine de fol ?_
           apply z [4]
           exact sj (hj604 _) (eR [(100, 100)])
         refine b fun r607 h608 => ?_
         refine sd ?_
         apply zd [[103], [103], []]
         refine dd [] (fun _ _ _ _ => obk hb606 ops) ?_
         apply zd [[103], [103], [], [103], [103]]
         refine dG [] (fun _ _ _ _ => c0 (c_retrospectref16_Most _ h608)) ?_
         apply zd [[], []]
         refine de fol ?_
         apply z [4]
         exact sj (hj604 _) (eR [(100, 100)])
       intro s605
       refine c ?_ ?_
       · apply z [2]
         refine so (bsl (y := 104) (ls := List.map L_retrospectref16_Word ([] : List M_retrospectref16_Word)) Tryz.underlying76 ti_125.h rfl rfl rfl rfl rfl trivial rfl rfl) ?_
         apply z [30, 31, 31, 1, 8, 12, 10]
         refine sU ?_
         apply z [12, 10]
         refine fz 104 [2, 120] [] ?_
         exact rt []
       apply z [9, 11, 4]
       exact sj (hj508 _) (eR [(100, 100)])
     intro s509
     apply z [6, 30, 40, 31, 3]
     exact sgo (eR [(100, 100)])
   apply z [14, 15]
   exact su (sj (hj406 _) (eR [(100, 100)]))
 intro t405
 refine slpk ?_
 apply z [13, 4, 2, 30, 31, 31, 1, 8]
 refine fz 100 [2, 4, 122] [] ?_
 exact rt []
theorem c_retrospectref16_Right {n : Nat} {x0} : ∀ r, m_retrospectref16_Right n x0 = some r → FnOk Tryz.prog 153 [L_retrospectref16_Word x0] [] (bl r) [] := by
 unfold m_retrospectref16_Right
 refine fs Tryz.func153 fun w S0 γ hγ => ?_
 apply z [2]
 refine o (bx' 100) ?_
 apply z [31, 1, 2, 33, 36]
 refine cb (ca c_retrospectref16_Scan) fun r1 => ?_
 apply z [30, 35, 35, 31, 31, 1]
 refine sjq (fun s12 => [(2, bl s12)]) (fun s12 => []) ?_ ?_
 · intro j10 hj11
   refine sif (fun hb13 => ?_) (fun hb13 => ?_)
   · refine sif (fun hb14 => ?_) (fun hb14 => ?_)
     · refine b fun y15 h16 => ?_
       refine sif (fun hb17 => ?_) (fun hb17 => ?_)
       · refine b fun y18 h19 => ?_
         refine sd ?_
         apply zd [[], []]
         refine dd [] (fun _ _ _ _ => obk hb13 ops) ?_
         apply zd [[], [], [], []]
         refine dd [] (fun _ _ _ _ => obk hb14 ops) ?_
         apply zd [[]]
         refine dx [18, 19] [] (fun st mm ⟨a18, a19, _⟩ _ => ogG 18 rfl (a18.trans rfl) (ixR (f := L_retrospectref16_Word) Tryz.underlying76 ti_125.h h16 rfl (a19.trans rfl) (kI (x := 0) rfl))) ?_
         apply zd [[], [], [100], [100], [], []]
         refine dd [] (fun _ _ _ _ => obk hb17 ops) ?_
         apply zd [[]]
         refine dx [27, 28] [] (fun st mm ⟨a27, a28, _⟩ _ => ogG 27 rfl (a27.trans rfl) (ixR (f := L_retrospectref16_Word) Tryz.underlying76 ti_125.h h19 rfl (a28.trans rfl) (kI (x := 0) rfl))) ?_
         apply zd [[], [], [100], [100], [], [], []]
         refine de fol ?_
         apply z [4]
         exact sj (hj11 _) (eR [])
       refine sd ?_
       apply zd [[], []]
       refine dd [] (fun _ _ _ _ => obk hb13 ops) ?_
       apply zd [[], [], [], []]
       refine dd [] (fun _ _ _ _ => obk hb14 ops) ?_
       apply zd [[], [], [], [], [100], [100], [], []]
       refine dd [] (fun _ _ _ _ => obk hb17 ops) ?_
       apply zd [[], [], [], [], [], [], [], [], []]
       refine de fol ?_
       apply z [4]
       exact sj (hj11 _) (eR [])
     refine sd ?_
     apply zd [[], []]
     refine dd [] (fun _ _ _ _ => obk hb13 ops) ?_
     apply zd [[], [], [], []]
     refine dd [] (fun _ _ _ _ => obk hb14 ops) ?_
     apply zd [[], [], [], [], [], [], [], [], [], [], [], [], [], [], [], [], [], []]
     refine de fol ?_
     apply z [4]
     exact sj (hj11 _) (eR [])
   refine sd ?_
   apply zd [[], []]
   refine dd [] (fun _ _ _ _ => obk hb13 ops) ?_
   apply zd [[], [], [], [], [], [], [], [], [], [], [], [], [], [], [], [], [], [], [], [], [], [], []]
   refine de fol ?_
   apply z [4]
   exact sj (hj11 _) (eR [])
 intro s12
 apply z [8]
 exact rt []
theorem c_retrospectref19_Name {n : Nat} {x0} : ∀ r, m_retrospectref19_Name n x0 = some r → FnOk Tryz.prog 125 [str x0] [] (bl r) [] := by
 unfold m_retrospectref19_Name
 refine fs Tryz.func125 fun w S0 γ hγ => ?_
 apply z [2, 31, 1]
 refine sjq (fun s5 => [(2, bl s5)]) (fun s5 => []) ?_ ?_
 · intro j3 hj4
   apply z [6, 30]
   refine s1 (bld (l := [i64 (2 : Int), str x0, i64 0]) pl_125.h ti_125.h zr_retrospectref16_Word ⟨_, _, _, (kI (x := 2) rfl), rfl, rfl, rfl, (szk (k := 1) rfl rfl), ⟨_, _, _, rfl, rfl, rfl, rfl, (szk (k := 1) rfl rfl), rfl⟩⟩ rfl) ?_
   refine cb (ca c_retrospectref16_Right) fun r6 => ?_
   apply z [30]
   refine sifd 6 rfl ?_ ?_
   · apply z [22, 22, 38, 30]
     refine sifd 10 rfl ?_ ?_
     · apply z [22, 22, 38, 30]
       refine sifd 14 rfl ?_ ?_
       · apply z [22, 22, 38, 30]
         refine sifd 18 rfl ?_ ?_
         · apply z [22, 22, 38, 31, 1]
           exact sj (hj4 _) eI
         apply z [23, 23, 37, 31, 1]
         exact sj (hj4 _) eI
       apply z [23, 23, 37, 30, 23, 23, 37, 31, 1]
       exact sj (hj4 _) eI
     apply z [23, 23, 37, 30, 23, 23, 37, 30, 23, 23, 37, 31, 1]
     exact sj (hj4 _) eI
   apply z [23, 23, 37, 30, 23, 23, 37, 30, 23, 23, 37, 30, 23, 23, 37, 31, 1]
   exact sj (hj4 _) eI
 intro s5
 apply z [8]
 exact rt []
theorem c_retrospectref17_Depth {n : Nat} {x0} : ∀ r, m_retrospectref17_Depth n x0 = some r → FnOk Tryz.prog 126 [sli 3 (List.map L_retrospectref17_Node x0)] [] (i64 r) [] := by
 unfold m_retrospectref17_Depth
 refine fs Tryz.func126 fun w S0 γ hγ => ?_
 apply z [2, 31, 1, 5, 2, 30]
 refine cb (ca c_retrospectref17_Wrong) fun r1 => ?_
 apply z [57, 1]
 refine c ?_ ?_
 · apply z [2, 31, 1, 8, 10]
   exact rt []
 apply z [9, 4, 2, 30, 30, 39, 49]
 refine cb (ca c_retrospectref17_Deep) fun r3 => ?_
 apply z [30, 35, 35, 31, 31, 1, 2, 30, 31, 1, 8]
 exact rt []
theorem c_retrospectref19_Check {n : Nat} {x0} {x1} {x2} : ∀ r, m_retrospectref19_Check n x0 x1 x2 = some r → FnOk Tryz.prog 97 [L_retrospectref17_Field x0, i64 x1, i64 x2] [] (.tup [bl r.1, L_A3_i64 r.2]) [] := by
 unfold m_retrospectref19_Check
 refine fs Tryz.func97 fun w S0 γ hγ => ?_
 apply z [2]
 refine o (bx' 100) ?_
 apply z [31]
 refine o (al' 101) ?_
 apply z [1, 5]
 refine sjq (fun s5 => [(1, i64 x1), (2, i64 x2), (3, .own 100), (6, bl false), (7, .own 101), (45, bl s5)]) (fun s5 => [(100, .bx 34 (L_retrospectref17_Field x0)), (101, .bx 149 (L_A3_i64 (⟨0, 0, 0⟩ : M_A3_i64)))]) ?_ ?_
 · intro j3 hj4
   apply z [6, 30, 46, 30]
   refine sifd 16 rfl ?_ ?_
   · apply z [23, 23, 38, 30, 23, 23, 38, 30, 23, 23, 38, 30, 23, 23, 23, 23, 23, 38, 30, 23, 23, 23, 23, 38, 30, 23, 23, 23, 38, 1]
     exact sj (hj4 _) (eR [(100, 100), (101, 101)])
   apply z [22, 22, 37, 30]
   refine sifd 20 rfl ?_ ?_
   · apply z [23, 23, 38, 30, 23, 23, 38, 30, 23, 23, 23, 23, 23, 38, 30, 23, 23, 23, 23, 38, 30, 23, 23, 23, 38, 1]
     exact sj (hj4 _) (eR [(100, 100), (101, 101)])
   apply z [22, 22, 37, 30]
   refine sifd 24 rfl ?_ ?_
   · apply z [23, 23, 38, 30, 23, 23, 23, 23, 23, 38, 30, 23, 23, 23, 23, 38, 30, 23, 23, 23, 38, 1]
     exact sj (hj4 _) (eR [(100, 100), (101, 101)])
   apply z [22, 22, 37, 30]
   refine sifd 28 rfl ?_ ?_
   · apply z [23, 23, 23, 23, 23, 38, 30, 23, 23, 23, 23, 38, 30, 23, 23, 23, 38, 1]
     exact sj (hj4 _) (eR [(100, 100), (101, 101)])
   apply z [22, 22, 22, 22, 22, 37, 30]
   refine sifd 35 rfl ?_ ?_
   · apply z [23, 23, 23, 23, 38, 30, 23, 23, 23, 38, 1]
     exact sj (hj4 _) (eR [(100, 100), (101, 101)])
   apply z [22, 22, 22, 22, 37, 30]
   refine sifd 41 rfl ?_ ?_
   · apply z [23, 23, 23, 38, 1]
     exact sj (hj4 _) (eR [(100, 100), (101, 101)])
   apply z [22]
   refine b fun r6 h7 => ?_
   refine og' (c0 (c_retrospectref17_Size _ h7)) ?_
   apply z [22, 37, 1]
   exact sj (hj4 _) (eR [(100, 100), (101, 101)])
 intro s5
 refine c ?_ ?_
 · apply z [2]
   refine s1 (bldA (l := [i64 0, i64 0, i64 0]) Tryz.underlying149 ti_149.h ti_3.h zr_A3_i64 rfl rfl rfl) ?_
   apply z [31, 34, 1, 8, 10]
   exact rt []
 apply z [9, 4, 2, 32]
 refine cb (ca c_retrospectref17_Codes) fun r8 => ?_
 apply z [31, 1, 5, 2, 31, 1, 7]
 refine sloopE 0 Lp.go (fun s190 => [(1, i64 x1), (2, i64 x2), (3, .own 100), (6, bl false), (7, .own 101), (8, sli 1 (List.map L_S_retrospectref17_Node r8)), (9, i64 s190)]) (fun s190 => [(100, .bx 34 (L_retrospectref17_Field x0)), (101, .bx 149 (L_A3_i64 (⟨0, 0, 0⟩ : M_A3_i64)))]) (fun t188 => [(6, bl false), (7, .own 101)]) (fun t188 => [(101, .bx 149 (L_A3_i64 (⟨0, 0, 0⟩ : M_A3_i64)))]) (eR [(100, 100), (101, 101)]) ?_ ?_
 · intro hj189 s190
   apply z [5, 2, 30, 30, 39, 46, 1]
   refine c ?_ ?_
   · apply z [9, 4, 5, 7, 2, 30, 33, 36, 39, 89, 31, 1]
     refine sjq (fun s227 => [(1, i64 x1), (2, i64 x2), (3, .own 100), (6, bl false), (7, .own 101), (8, sli 1 (List.map L_S_retrospectref17_Node r8)), (9, i64 s190), (10, i64 (min s190 (x0.Lets.length : Int)))]) (fun s227 => [(100, .bx 34 (L_retrospectref17_Field x0)), (101, .bx 149 (L_A3_i64 (⟨0, 0, 0⟩ : M_A3_i64)))]) ?_ ?_
     · intro j225 hj226
       apply z [2, 30, 33, 36, 39, 46, 1]
       refine c ?_ ?_
       · apply z [2, 33, 36, 30]
         refine b fun y228 h229 => ?_
         apply z [43, 92, 42]
         refine cb (ca c_retrospectref19_Name) fun r230 => ?_
         apply z [31, 1, 5, 2, 31, 1, 7]
         refine sloopE 2 (fun t => t) (fun s248 => [(1, i64 x1), (2, i64 x2), (3, .own 100), (6, bl false), (7, .own 101), (8, sli 1 (List.map L_S_retrospectref17_Node r8)), (9, i64 s190), (10, i64 (min s190 (x0.Lets.length : Int))), (11, bl s248.1), (12, i64 s248.2)]) (fun s248 => [(100, .bx 34 (L_retrospectref17_Field x0)), (101, .bx 149 (L_A3_i64 (⟨0, 0, 0⟩ : M_A3_i64)))]) (fun t246 => [(1, i64 x1), (2, i64 x2), (3, .own 100), (6, bl false), (7, .own 101), (8, sli 1 (List.map L_S_retrospectref17_Node r8)), (9, i64 s190), (10, i64 (min s190 (x0.Lets.length : Int))), (11, bl t246)]) (fun t246 => [(100, .bx 34 (L_retrospectref17_Field x0)), (101, .bx 149 (L_A3_i64 (⟨0, 0, 0⟩ : M_A3_i64)))]) (eR [(100, 100), (101, 101)]) ?_ ?_
         · intro hj247 s248
           apply z [5, 2, 30, 30, 46, 1]
           refine c ?_ ?_
           · apply z [9, 4]
             refine sjq (fun s256 => [(1, i64 x1), (2, i64 x2), (3, .own 100), (6, bl false), (7, .own 101), (8, sli 1 (List.map L_S_retrospectref17_Node r8)), (9, i64 s190), (10, i64 (min s190 (x0.Lets.length : Int))), (11, bl s256), (12, i64 s248.2)]) (fun s256 => [(100, .bx 34 (L_retrospectref17_Field x0)), (101, .bx 149 (L_A3_i64 (⟨0, 0, 0⟩ : M_A3_i64)))]) ?_ ?_
             · intro j254 hj255
               apply z [7]
               refine sif (fun hb257 => ?_) (fun hb257 => ?_)
               · refine b fun y258 h259 => ?_
                 refine b fun y260 h261 => ?_
                 refine sd ?_
                 apply zd [[]]
                 refine dd [] (fun _ _ _ _ => obk hb257 ops) ?_
                 apply zd [[100], [100], [], [], [], [], [100], [100], [], [], [], [], [], [], []]
                 refine de fol ?_
                 apply z [11, 4]
                 exact sj (hj255 _) (eR [(100, 100), (101, 101)])
               refine sd ?_
               apply zd [[]]
               refine dd [] (fun _ _ _ _ => obk hb257 ops) ?_
               apply zd [[], [], [], [], [], [], [], [], [], [], [], [], [], [], []]
               refine de fol ?_
               apply z [11, 4]
               exact sj (hj255 _) (eR [(100, 100), (101, 101)])
             intro s256
             apply z [6, 30, 40, 31, 3]
             exact sgo (eR [(100, 100), (101, 101)])
           apply z [14, 15]
           exact su (sj (hj247 _) (eR [(100, 100), (101, 101)]))
         intro t246
         apply z [13, 4, 2, 30, 44, 1]
         refine c ?_ ?_
         · apply z [2, 30, 40]
           refine s1 (bldA (l := [i64 (wrap64 (s190 + (1 : Int))), i64 (1 : Int), i64 (0 : Int)]) Tryz.underlying149 ti_149.h ti_3.h zr_A3_i64 rfl ⟨_, _, _, rfl, rfl, rfl, rfl, rfl, rfl, ⟨_, _, _, (kI (x := 1) rfl), rfl, rfl, rfl, rfl, rfl, ⟨_, _, _, (kI (x := 0) rfl), rfl, rfl, rfl, rfl, rfl, rfl⟩⟩⟩ rfl) ?_
           apply z [31, 34, 1, 8, 10, 12, 10]
           refine sU ?_
           apply z [12, 10]
           exact rt []
         apply z [9, 4]
         exact sj (hj226 _) (eR [(100, 100), (101, 101)])
       apply z [9, 4]
       exact sj (hj226 _) (eR [(100, 100), (101, 101)])
     intro s227
     apply z [2, 30, 30]
     refine b fun y262 h263 => ?_
     apply z [43, 42, 30, 30, 30]
     refine cb (ca c_retrospectref19_Place) fun r264 => ?_
     apply z [31, 1, 5, 2, 30, 57, 1]
     refine c ?_ ?_
     · apply z [2, 30, 40, 30]
       refine s1 (bldA (l := [i64 (wrap64 (s190 + (1 : Int))), i64 (0 : Int), i64 r264]) Tryz.underlying149 ti_149.h ti_3.h zr_A3_i64 rfl ⟨_, _, _, rfl, rfl, rfl, rfl, rfl, rfl, ⟨_, _, _, (kI (x := 0) rfl), rfl, rfl, rfl, rfl, rfl, ⟨_, _, _, rfl, rfl, rfl, rfl, rfl, rfl, rfl⟩⟩⟩ rfl) ?_
       apply z [31, 34, 1, 8, 10, 12, 10]
       refine sU ?_
       apply z [12, 10]
       exact rt []
     apply z [9, 4, 2, 30, 30]
     refine b fun y266 h267 => ?_
     apply z [43, 42]
     refine cb (ca c_retrospectref17_Depth) fun r268 => ?_
     apply z [47, 1]
     refine c ?_ ?_
     · apply z [5]
       refine b fun y270 h271 => ?_
       refine sd ?_
       apply zd [[], [], [], [], [], [], []]
       refine dx [119, 124] [] (fun st mm ⟨a119, a124, _⟩ _ => og (bldA (l := [i64 (wrap64 (s190 + (1 : Int))), i64 (0 : Int), i64 (y270.length : Int)]) Tryz.underlying149 ti_149.h ti_3.h zr_A3_i64 rfl ⟨_, _, _, (a119.trans rfl), rfl, rfl, rfl, rfl, rfl, ⟨_, _, _, (kI (x := 0) rfl), rfl, rfl, rfl, rfl, rfl, ⟨_, _, _, (a124.trans rfl), rfl, rfl, rfl, rfl, rfl, rfl⟩⟩⟩ rfl)) ?_
       apply zd [[], [101]]
       refine de fol ?_
       apply z [4, 8, 12, 10]
       refine sU ?_
       apply z [12, 10]
       exact rt []
     apply z [9, 11, 4, 6, 30, 40, 31, 3]
     exact sgo (eR [(100, 100), (101, 101)])
   apply z [14, 15]
   exact su (sj (hj189 _) (eR [(101, 101)]))
 intro t188
 refine slpk ?_
 apply z [13, 4, 2]
 refine s1 (bldA (l := [i64 0, i64 0, i64 0]) Tryz.underlying149 ti_149.h ti_3.h zr_A3_i64 rfl rfl rfl) ?_
 apply z [31, 34, 1, 8]
 exact rt []
theorem c_retrospectref19_Fine {n : Nat} {x0} {x1} {x2} : ∀ r, m_retrospectref19_Fine n x0 x1 x2 = some r → FnOk Tryz.prog 60 [L_retrospectref17_Field x0, i64 x1, i64 x2] [] (bl r) [] := by
 unfold m_retrospectref19_Fine
 refine fs Tryz.func60 fun w S0 γ hγ => ?_
 apply z [2]
 refine o (bx' 100) ?_
 apply z [31, 1, 2, 32, 30, 30]
 refine cb (ca c_retrospectref19_Check) fun r1 => ?_
 apply z [30, 35, 35]
 refine o (al' 101) ?_
 apply z [31, 34, 1, 2, 30, 44, 31, 1, 8]
 exact rt []
theorem c_retrospectref20_Fine {n : Nat} {x0} : ∀ r, m_retrospectref20_Fine n x0 = some r → FnOk Tryz.prog 30 [L_retrospectref17_Field x0] [] (bl r) [] := by
 unfold m_retrospectref20_Fine
 refine fs Tryz.func30 fun w S0 γ hγ => ?_
 apply z [2]
 refine o (bx' 100) ?_
 apply z [31, 1, 2, 32, 33, 36, 39]
 refine cb (ca c_retrospectref19_Fine) fun r1 => ?_
 apply z [31, 1, 8]
 exact rt []
theorem c_retrospectref20_Field {n : Nat} {x0} : ∀ r, m_retrospectref20_Field n x0 = some r → FnOk Tryz.prog 31 [L_retrospectref17_Field x0] [] (str r) [] := by
 unfold m_retrospectref20_Field
 refine fs Tryz.func31 fun w S0 γ hγ => ?_
 apply z [2]
 refine o (bx' 100) ?_
 apply z [31, 1, 2, 31, 1, 2]
 refine so (bsl (y := 101) (ls := List.map str ([] : List (List UInt8))) Tryz.underlying41 ti_9.h rfl rfl rfl rfl rfl trivial rfl rfl) ?_
 apply z [31, 1, 5, 2, 31, 1, 7]
 refine sloopE 0 (fun t => t) (fun s45 => [(1, .own 100), (2, str ([] : List UInt8)), (3, str s45.1), (4, .own 101), (5, i64 s45.2.2)]) (fun s45 => [(100, .bx 34 (L_retrospectref17_Field x0)), (101, .sl 9 1 (List.map str s45.2.1))]) (fun t43 => [(1, .own 100), (2, str ([] : List UInt8)), (3, str t43.1), (4, .own 101)]) (fun t43 => [(100, .bx 34 (L_retrospectref17_Field x0)), (101, .sl 9 1 (List.map str t43.2))]) (eR [(100, 100), (101, 101)]) ?_ ?_
 · intro hj44 s45
   apply z [5, 2, 30, 33, 36, 39, 46, 1]
   refine c ?_ ?_
   · apply z [9, 4, 5, 7, 5]
     refine b fun y46 h47 => ?_
     refine b fun y48 h49 => ?_
     refine b fun y50 h51 => ?_
     refine b fun y52 h53 => ?_
     refine b fun r54 h55 => ?_
     refine b fun y56 h57 => ?_
     refine b fun y58 h59 => ?_
     refine b fun y60 h61 => ?_
     refine sd ?_
     apply zd [[], [100], [100], []]
     refine dx [17, 18] [] (fun st mm ⟨a17, a18, _⟩ _ => og (ixR (f := L_retrospectref17_Let) Tryz.underlying31 ti_82.h h47 rfl (a17.trans rfl) (a18.trans rfl))) ?_
     apply zd [[], [], [], [], [100], [100], []]
     refine dx [25, 26] [] (fun st mm ⟨a25, a26, _⟩ _ => og (ixR (f := L_retrospectref17_Let) Tryz.underlying31 ti_82.h h53 rfl (a25.trans rfl) (a26.trans rfl))) ?_
     apply zd [[], [], []]
     refine dx [29, 30] [101] (fun st mm ⟨a29, a30, _⟩ ⟨g101, _⟩ => og (callL (em := []) [101] [] [] [] rfl (c_retrospectref20_Write _ h55) trivial (pl_str) ⟨.inl ⟨_, (a29.trans rfl), rn_id if_sli⟩, .inr ⟨101, rfl, .inl ⟨(a30.trans rfl), .inl ⟨_, _, _, (g101.trans rfl), ifs_map (f := str) (fun _ => if_str) s45.2.1, rfl⟩⟩⟩, trivial⟩ (fun _ _ h => by cases h) trivial rfl trivial trivial rfl trivial trivial trivial (rn_id (if_str)) rfl)) ?_
     apply zd [[], [], [], []]
     refine de fol ?_
     apply z [4, 6, 30, 33, 36, 30]
     refine b fun y62 h63 => ?_
     apply z [43, 92, 42]
     refine so (bsl (y := 102) (ls := List.map str ([y62.Name] : List (List UInt8))) Tryz.underlying41 ti_9.h rfl rfl rfl rfl rfl ⟨rfl, rfl, (by exact rfl), (by exact rfl), trivial⟩ rfl rfl) ?_
     refine b fun y64 h65 => ?_
     refine o (app' 103) ?_
     apply z [31, 3, 11, 4, 6, 30, 40, 31, 3]
     exact sgo (eR [(100, 100), (101, 103)])
   apply z [14, 15]
   exact su (sj (hj44 _) (eR [(100, 100), (101, 101)]))
 intro t43
 apply z [13, 4, 2, 30]
 refine b fun y66 h67 => ?_
 apply z [91, 31, 1, 5, 2, 31, 1, 7]
 refine sloopE 2 (fun t => t) (fun s98 => [(1, .own 100), (2, str ([] : List UInt8)), (3, str s98.1), (4, .own 101), (6, i64 s98.2)]) (fun s98 => [(100, .bx 34 (L_retrospectref17_Field x0)), (101, .sl 9 1 (List.map str t43.2))]) (fun t96 => [(2, str ([] : List UInt8)), (3, str t96)]) (fun t96 => []) (eR [(100, 100), (101, 101)]) ?_ ?_
 · intro hj97 s98
   apply z [5, 2, 30, 33, 36, 39, 46, 1]
   refine c ?_ ?_
   · apply z [9, 4, 5, 7]
     refine sjq (fun s103 => [(1, .own 100), (2, str ([] : List UInt8)), (3, str s103), (4, .own 101), (6, i64 s98.2)]) (fun s103 => [(100, .bx 34 (L_retrospectref17_Field x0)), (101, .sl 9 1 (List.map str t43.2))]) ?_ ?_
     · intro j101 hj102
       apply z [2, 30, 47, 1]
       refine c ?_ ?_
       · apply z [6, 30]
         refine b fun y104 h105 => ?_
         apply z [91, 31, 1]
         exact sj (hj102 _) (eR [(100, 100), (101, 101)])
       apply z [9, 4]
       exact sj (hj102 _) (eR [(100, 100), (101, 101)])
     intro s103
     apply z [6, 30, 33, 36, 30]
     refine b fun y106 h107 => ?_
     apply z [43, 42, 30]
     refine b fun r108 h109 => ?_
     refine s1 (callL (em := []) [101] [] [] [] rfl (c_retrospectref20_Write _ h109) trivial (pl_str) ⟨.inl ⟨_, rfl, rn_id if_sli⟩, .inr ⟨101, rfl, .inl ⟨rfl, .inl ⟨_, _, _, rfl, ifs_map (f := str) (fun _ => if_str) t43.2, rfl⟩⟩⟩, trivial⟩ (fun _ _ h => by cases h) trivial rfl trivial trivial rfl trivial trivial trivial (rn_id (if_str)) rfl) ?_
     refine b fun y110 h111 => ?_
     apply z [91, 31, 3, 11, 4, 6, 30, 40, 31, 3]
     exact sgo (eR [(100, 100), (101, 101)])
   apply z [14, 15]
   exact su (sj (hj97 _) (eR []))
 intro t96
 apply z [13, 4, 2, 30]
 refine b fun y112 h113 => ?_
 apply z [91, 31, 1, 8]
 exact rt []
end Go.Proofs.YtpomhkkhdojpiaaGreatDoor
