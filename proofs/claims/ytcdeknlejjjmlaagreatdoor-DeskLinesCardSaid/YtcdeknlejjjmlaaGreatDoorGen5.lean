import Derived.Test.YtcdeknlejjjmlaaGreatDoorGen4
set_option maxRecDepth 100000
set_option maxHeartbeats 4000000
namespace Go.Proofs.YtcdeknlejjjmlaaGreatDoor
open Go Go.RowKit
instance {x} : CIF (L_frac_Frac x) := ⟨CIF.h⟩
instance {x} : CIF (L_tape_Inst x) := ⟨CIF.h⟩
instance {x} : CIF (L_tape_Tape x) := ⟨CIF.h⟩
instance {x} : CIF (L_scheme_Scheme x) := ⟨CIF.h⟩
instance {x} : CIF (L_step_Problem x) := ⟨CIF.h⟩
instance {x} : CIF (L_pace_Rules x) := ⟨CIF.h⟩
instance {x} : CIF (L_tree_Field x) := ⟨CIF.h⟩
instance {x} : CIF (L_adapt_Task x) := ⟨CIF.h⟩
instance {x} : CIF (L_engine_Request x) := ⟨CIF.h⟩
theorem c_wire_kinds  : ∀ r, m_wire_kinds  = some r → FnOk Tryz.prog 118 [] [] (sli 1 (List.map str r)) [] := by
 unfold m_wire_kinds
 refine fs Tryz.func118 fun w S0 γ hγ => ?_
 apply z [2]
 refine s1 (asg rfl (kLm (k := 1) str)) ?_
 apply z [1, 2]
 refine so (bsl (y := 100) (ls := List.map str ([([111, 107] : List UInt8), ([112, 97, 114, 115, 101] : List UInt8), ([102, 111, 114, 109] : List UInt8), ([112, 111, 108, 101] : List UInt8), ([117, 110, 100, 101, 114, 102, 108, 111, 119] : List UInt8), ([115, 116, 101, 112, 115] : List UInt8), ([98, 105, 116, 115] : List UInt8), ([114, 97, 110, 103, 101] : List UInt8), ([115, 104, 117, 116] : List UInt8)] : List (List UInt8))) Tryz.underlying110 ti_9.h rfl rfl rfl rfl rfl ⟨rfl, (kS (s := [111, 107]) rfl), (by exact rfl), (by exact rfl), rfl, (kS (s := [112, 97, 114, 115, 101]) rfl), (by exact rfl), (by exact rfl), rfl, (kS (s := [102, 111, 114, 109]) rfl), (by exact rfl), (by exact rfl), rfl, (kS (s := [112, 111, 108, 101]) rfl), (by exact rfl), (by exact rfl), rfl, (kS (s := [117, 110, 100, 101, 114, 102, 108, 111, 119]) rfl), (by exact rfl), (by exact rfl), rfl, (kS (s := [115, 116, 101, 112, 115]) rfl), (by exact rfl), (by exact rfl), rfl, (kS (s := [98, 105, 116, 115]) rfl), (by exact rfl), (by exact rfl), rfl, (kS (s := [114, 97, 110, 103, 101]) rfl), (by exact rfl), (by exact rfl), rfl, (kS (s := [115, 104, 117, 116]) rfl), (by exact rfl), (by exact rfl), trivial⟩ rfl rfl) ?_
 refine sbm (C := fun x => .sl 9 1 (List.map str x)) 100 rfl fun z1 => ?_
 apply z [31, 1, 8]
 refine fz 100 [0, 1] [] ?_
 exact rt []
theorem c_wire_Fault {x0} : ∀ r, m_wire_Fault x0 = some r → FnOk Tryz.prog 60 [L_api_Fault x0] [] (str r) [] := by
 unfold m_wire_Fault
 refine fs Tryz.func60 fun w S0 γ hγ => ?_
 apply z [2]
 refine o (bx' 100) ?_
 apply z [31, 1, 2]
 refine cb (ca c_wire_kinds) fun r1 => ?_
 apply z [31, 1, 2, 30]
 refine b fun y3 h4 => ?_
 apply z [43, 42, 31, 1]
 refine sjq (fun s12 => [(1, .own 100), (2, str ([] : List UInt8)), (4, str s12)]) (fun s12 => [(100, .bx 41 (L_api_Fault x0))]) ?_ ?_
 · intro j10 hj11
   refine sjq (fun s15 => [(1, .own 100), (2, str ([] : List UInt8)), (3, sli 1 (List.map str r1)), (4, str y3), (20, bl s15)]) (fun s15 => [(100, .bx 41 (L_api_Fault x0))]) ?_ ?_
   · intro j13 hj14
     apply z [6, 33, 36, 47, 30]
     refine sifd 14 rfl ?_ ?_
     · apply z [22, 22, 22, 22, 22, 38, 1]
       exact sj (hj14 _) (eR [(100, 100)])
     apply z [23, 23, 23, 23, 23, 37, 1]
     exact sj (hj14 _) (eR [(100, 100)])
   intro s15
   refine c ?_ ?_
   · apply z [6, 30, 33, 36]
     refine b fun y16 h17 => ?_
     apply z [43, 42, 31, 1]
     exact sj (hj11 _) (eR [(100, 100)])
   apply z [9, 4]
   exact sj (hj11 _) (eR [(100, 100)])
 intro s12
 apply z [5, 2, 33, 36, 33, 36, 33, 36]
 refine so (bsl (y := 101) (ls := List.map i64 ([x0.Step, x0.Stage, x0.At] : List Int)) Tryz.underlying26 ti_3.h rfl rfl rfl rfl rfl ⟨rfl, rfl, (by exact rfl), (by exact rfl), rfl, rfl, (by exact rfl), (by exact rfl), rfl, rfl, (by exact rfl), (by exact rfl), trivial⟩ rfl rfl) ?_
 apply z [55, 30, 1, 7]
 refine srN (fun s39 => [(2, str ([] : List UInt8)), (4, str s39), (32, .own 101)]) (fun s39 => [(101, .sl 3 1 (List.map i64 ([x0.Step, x0.Stage, x0.At] : List Int)))]) (rE (eR [(101, 101)])) ?_ ?_
 · intro i40 x41 s39 hx42
   apply z [7, 2, 50, 51, 31, 1, 6, 30, 30]
   refine cb (ca c_strconv_Itoa) fun r43 => ?_
   refine b fun y45 h46 => ?_
   apply z [91]
   refine b fun y47 h48 => ?_
   apply z [91, 31, 3, 11]
   exact sgo (eR [(101, 101)])
 intro s49
 apply z [13, 4, 2, 30, 31, 1, 8]
 exact rt []
theorem c_wire_Pack {n : Nat} {x0} : ∀ r, m_wire_Pack n x0 = some r → FnOk Tryz.prog 59 [sli 2 (List.map L_wire_Piece x0)] [] (.tup [str r.1, bl r.2]) [] := by
 unfold m_wire_Pack
 refine fs Tryz.func59 fun w S0 γ hγ => ?_
 apply z [2, 31, 31, 1, 5, 2, 30]
 refine cb (ca c_wire_may) fun r1 => ?_
 apply z [44, 1]
 refine c ?_ ?_
 · apply z [2, 31, 31, 1, 8, 10]
   exact rt []
 apply z [9, 4, 2]
 refine so (alOw (y := 100) (ly := .agg [.por 100, .own 101]) [(101, 5, 1)] ti_141.h (zo_agg (zos_cons (c1 := [.pointer none]) zo_por (zos_cons (c1 := [.slice none 0 0]) (zo_own rfl) zos_nil))) ⟨rfl, trivial⟩ rfl rfl rfl) ?_
 apply z [1, 5, 2, 30, 39, 30, 1, 7]
 refine srN (fun s40 => [(2, str ([] : List UInt8)), (3, bl false), (4, .own 100), (10, sli 2 (List.map L_wire_Piece x0))]) (fun s40 => [(100, .bx 141 (.agg [.por 100, .own 101])), (101, .sl 5 1 (List.map ub s40))]) (rE (eR [(100, 100), (101, 101)])) ?_ ?_
 · intro i41 x42 s40 hx43
   apply z [7, 2, 43, 42]
   refine o (al' 102) ?_
   apply z [34, 1]
   refine b fun y44 h45 => ?_
   refine b fun r46 h47 => ?_
   refine b fun y48 h49 => ?_
   refine b fun y50 h51 => ?_
   refine b fun y52 h53 => ?_
   refine b fun y54 h55 => ?_
   refine b fun y56 h57 => ?_
   refine sd ?_
   apply zd [[102], [102], [], [102], [102], []]
   refine dd [] (fun _ _ _ _ => c0 (c_strconv_Itoa _ h47)) ?_
   apply zd [[], [], [102], [102], [], []]
   refine dx [4, 28] [100, 101, 103] (fun st mm ⟨a4, a28, _⟩ ⟨g100, g101, g103, _⟩ => og (callG (em := [(103, .sl 5 1 (List.map ub y56)), (100, .bx 141 (.agg [.por 100, .own 103])), (101, .gone)]) (res' := .tup [i64 (y54.length : Int), nilI]) [(0, 100), (1, 101)] [(103, 52)] [(103, 52), (100, 0)] (ws_ok' h57) ⟨⟨_, (a4.trans rfl), rn_own rfl⟩, ⟨_, (a28.trans rfl), rn_id if_str⟩, trivial⟩ (MiF.get (mi := [(0, _), (1, _)]) ⟨⟨_, _, rfl, (g100.trans rfl), rc_bx (rn_agg (rns_cons (rn_por rfl) (rns_cons (rn_own rfl) rns_nil)))⟩, ⟨_, _, rfl, (g101.trans rfl), rc_sl (ifs_map (f := ub) (fun _ => if_ub) s40)⟩, trivial⟩) ⟨⟨_, rfl⟩, ⟨_, rfl⟩, trivial⟩ rfl ⟨(g103.trans rfl), trivial⟩ ⟨.inl rfl, .inr rfl, trivial⟩ rfl ⟨.inl ⟨_, _, rfl, rfl, rc_sl (ifs_map (f := ub) (fun _ => if_ub) y56)⟩, .inl ⟨_, _, rfl, rfl, rc_bx (rn_agg (rns_cons (rn_por rfl) (rns_cons (rn_own rfl) rns_nil)))⟩, .inr ⟨rfl, 1, .tail _ (.head _)⟩, trivial⟩ ⟨⟨_, rfl⟩, ⟨_, rfl⟩, trivial⟩ ⟨⟨_, rfl⟩, trivial⟩ (rn_tup (rns_cons (rn_id if_i64) (rns_cons (rn_id if_nilI) rns_nil))) rfl)) ?_
   refine de fol ?_
   apply z [11]
   exact sgo (eR [(100, 100), (101, 103)])
 intro s58
 apply z [13, 4, 2]
 refine so (strOp (id := 100) (id2 := 101) rfl rfl rfl rfl rfl) ?_
 apply z [31, 31, 1, 8]
 exact rt []
theorem c_engine_reply {me_engine_bad : M_api_Fault → (List UInt8) → Option ((List UInt8))} (he_engine_bad : ∀ {x0 : M_api_Fault} {x1 : (List UInt8)}, ∀ r, me_engine_bad x0 x1 = some r → FnOk Tryz.prog 23 [L_api_Fault x0, str x1] [] (str r) []) {n : Nat} {x0} {x1} : ∀ r, m_engine_reply me_engine_bad n x0 x1 = some r → FnOk Tryz.prog 34 [L_api_Fault x0, sli 2 (List.map L_wire_Piece x1)] [] (str r) [] := by
 unfold m_engine_reply
 refine fs Tryz.func34 fun w S0 γ hγ => ?_
 apply z [2]
 refine o (bx' 100) ?_
 apply z [31, 1, 2, 32]
 refine cb (ca c_wire_Fault) fun r1 => ?_
 refine cb (ca c_engine_piece) fun r3 => ?_
 refine so (bsl (y := 101) (ls := List.map L_wire_Piece ([r3] : List M_wire_Piece)) Tryz.underlying88 ti_102.h rfl rfl rfl rfl rfl ⟨rfl, rfl, (by exact rfl), (by exact rfl), trivial⟩ rfl rfl) ?_
 apply z [30]
 refine b fun y5 h6 => ?_
 refine o (app' 102) ?_
 refine b fun r7 h8 => ?_
 refine s1 (callL (em := []) [102] [] [] [] rfl (c_wire_Pack _ h8) trivial (pl_tup (pls_cons pl_str (pls_cons pl_bl (pls_nil)))) ⟨.inr ⟨102, rfl, .inl ⟨rfl, .inl ⟨_, _, _, rfl, ifs_map (f := L_wire_Piece) (fun _ => if_L_wire_Piece) y5, rfl⟩⟩⟩, trivial⟩ (fun _ _ h => by cases h) trivial rfl trivial trivial rfl trivial trivial trivial (rn_id (if_tup (ifs_cons if_str (ifs_cons if_bl (ifs_nil))))) rfl) ?_
 apply z [30, 35, 35, 31, 31, 1, 5, 2, 30, 44, 1]
 refine c ?_ ?_
 · apply z [2]
   refine s1 (bld (l := [i64 (6 : Int), i64 0, i64 0, i64 0]) pl_41.h ti_41.h zr_api_Fault ⟨_, _, _, (kI (x := 6) rfl), rfl, rfl, rfl, (szk (k := 1) rfl rfl), rfl⟩ rfl) ?_
   refine cb (ca he_engine_bad) fun r9 => ?_
   apply z [31, 1, 8, 10]
   exact rt []
 apply z [9, 4, 2, 30, 31, 1, 8]
 exact rt []
theorem c_engine_bad : ∀ {n : Nat} {x0} {x1}, ∀ r, m_engine_bad n x0 x1 = some r → FnOk Tryz.prog 23 [L_api_Fault x0, str x1] [] (str r) [] := by
  intro n
  induction n with
  | zero => intro x0 x1 r h; exact absurd h (by simp [m_engine_bad])
  | succ n ih =>
    intro x0 x1
    unfold m_engine_bad
    refine fs Tryz.func23 fun w S0 γ hγ => ?_
    apply z [2]
    refine o (bx' 100) ?_
    apply z [31, 1, 5]
    refine b fun r1 h2 => ?_
    refine b fun r3 h4 => ?_
    refine sd ?_
    apply zd [[100], []]
    refine dd [] (fun _ _ _ _ => c0 (c_engine_piece _ h2)) ?_
    refine dx [7] [101] (fun st mm ⟨a7, _⟩ ⟨g101, _⟩ => og (bsl (y := 101) (ls := List.map L_wire_Piece ([r1] : List M_wire_Piece)) Tryz.underlying88 ti_102.h rfl rfl rfl rfl rfl ⟨rfl, (a7.trans rfl), (by exact rfl), (by exact rfl), trivial⟩ (g101.trans rfl) rfl)) ?_
    refine dx [5, 8] [101] (fun st mm ⟨a5, a8, _⟩ ⟨g101, _⟩ => og (callL (em := []) [101] [] [] [] rfl (c_engine_reply @ih _ h4) trivial (pl_str) ⟨.inl ⟨_, (a5.trans rfl), rn_id if_L_api_Fault⟩, .inr ⟨101, rfl, .inl ⟨(a8.trans rfl), .inl ⟨_, _, _, (g101.trans rfl), ifs_map (f := L_wire_Piece) (fun _ => if_L_wire_Piece) ([r1] : List M_wire_Piece), rfl⟩⟩⟩, trivial⟩ (fun _ _ h => by cases h) trivial rfl trivial trivial rfl trivial trivial trivial (rn_id (if_str)) rfl)) ?_
    apply zd [[]]
    refine de fol ?_
    apply z [4, 8]
    exact rt []
theorem c_engine_written_no {x0} : ∀ r, m_engine_written_no x0 = some r → FnOk Tryz.prog 24 [L_engine_Request x0] [] (str r) [] := by
 unfold m_engine_written_no
 intro r h; cases h
theorem c_adapt_Solve_no {x0} : ∀ r, m_adapt_Solve_no x0 = some r → FnOk Tryz.prog 25 [L_adapt_Task x0] [] (.tup [L_past_History r.1, L_api_Fault r.2]) [] := by
 unfold m_adapt_Solve_no
 intro r h; cases h
theorem c_engine_told_no {x0} {x1} : ∀ r, m_engine_told_no x0 x1 = some r → FnOk Tryz.prog 26 [L_engine_Request x0, L_past_History x1] [] (str r) [] := by
 unfold m_engine_told_no
 intro r h; cases h
theorem c_engine_Do {n : Nat} {x0} : ∀ r, m_engine_Do n x0 = some r → FnOk Tryz.prog 21 [str x0] [] (str r) [] := by
 unfold m_engine_Do
 refine fs Tryz.func21 fun w S0 γ hγ => ?_
 apply z [2, 31, 1, 2, 30]
 refine cb (ca c_engine_Read) fun r1 => ?_
 apply z [30, 35, 35, 35]
 refine o (al' 100) ?_
 refine o (al' 101) ?_
 apply z [34, 31, 34, 1, 5, 2, 32]
 refine s1 (bld (l := [i64 0, i64 0, i64 0, i64 0]) pl_41.h ti_41.h zr_api_Fault rfl rfl) ?_
 refine s1 (neA (p := (r1.2.2 : M_api_Fault)) (q := ((⟨0, 0, 0, 0⟩ : M_api_Fault) : M_api_Fault)) eq_41_2 rfl eg_41 rfl rfl rfl) ?_
 apply z [1]
 refine c ?_ ?_
 · apply z [2, 32, 30]
   refine cb (ca c_engine_bad) fun r3 => ?_
   apply z [31, 1, 8, 10]
   exact rt []
 apply z [9, 4, 5, 2, 33, 36, 72, 1]
 refine c ?_ ?_
 · apply z [2, 32]
   refine cb (ca c_engine_written_no) fun r5 => ?_
   apply z [31, 1, 8, 10]
   exact rt []
 apply z [9, 4, 2, 33, 36]
 refine cb (ca c_adapt_Solve_no) fun r7 => ?_
 apply z [30, 35, 35]
 refine o (al' 102) ?_
 apply z [34, 34, 1, 5, 2, 32]
 refine s1 (bld (l := [i64 0, i64 0, i64 0, i64 0]) pl_41.h ti_41.h zr_api_Fault rfl rfl) ?_
 refine s1 (neA (p := (r7.2 : M_api_Fault)) (q := ((⟨0, 0, 0, 0⟩ : M_api_Fault) : M_api_Fault)) eq_41_2 rfl eg_41 rfl rfl rfl) ?_
 apply z [1]
 refine c ?_ ?_
 · apply z [2, 32]
   refine cb (ca c_engine_bad) fun r9 => ?_
   apply z [31, 1, 8, 10]
   exact rt []
 apply z [9, 4, 2, 32, 32]
 refine cb (ca c_engine_told_no) fun r11 => ?_
 apply z [31, 1, 8]
 exact rt []
theorem c___desk_Desk__Work {n : Nat} {x0_in__c} {x0_in__shut} {x0_out_c} {x0_out_shut} {x0_asked} {x0_answered} {x0_closed} : ∀ r, m___desk_Desk__Work n x0_in__c x0_in__shut x0_out_c x0_out_shut x0_asked x0_answered x0_closed = some r → FnOk Tryz.prog 14 [.own 0] [(0, .bx 48 (.agg [.own 1, .own 3, i64 x0_asked, i64 x0_answered, bl x0_closed])), (1, .bx 53 (.agg [.own 2, bl x0_in__shut])), (2, chC chVS x0_in__c), (3, .bx 53 (.agg [.own 4, bl x0_out_shut])), (4, chC chVS x0_out_c)] (bl r.1) [(0, .bx 48 (.agg [.own 1, .own 3, i64 r.2.1, i64 r.2.2.1, bl r.2.2.2.1])), (1, .bx 53 (.agg [.own 2, bl x0_in__shut])), (2, chC chVS r.2.2.2.2.1), (3, .bx 53 (.agg [.own 4, bl x0_out_shut])), (4, chC chVS r.2.2.2.2.2)] := by
 unfold m___desk_Desk__Work
 refine fs Tryz.func14 fun w S0 γ hγ => ?_
 apply z [2, 31, 1, 5, 5]
 refine b fun r1 h2 => ?_
 refine b fun r3 h4 => ?_
 refine sd ?_
 apply zd [[], [0], [0], [0]]
 refine dd [3, 4] (fun _ _ _ _ => cG (c___desk_Line_string___Waiting _ h2) [3, 4] [] [3, 4]) ?_
 apply zd [[], [0], [0], [0]]
 refine dd [3, 4] (fun _ _ _ _ => cG (c___desk_Line_string___Room _ h4) [3, 4] [] [3, 4]) ?_
 apply zd [[]]
 refine de fol ?_
 apply z [4]
 refine c ?_ ?_
 · apply z [2, 31, 1, 8, 10]
   exact rt [(0, 0), (1, 1), (2, 2), (3, 3), (4, 4)]
 apply z [9, 4, 2, 30, 48, 33, 36]
 refine b fun r5 h6 => ?_
 refine o (cG (c___desk_Line_string___Take _ h6) [1, 2] [] [1]) ?_
 apply z [30, 35, 35, 31, 31, 1, 5, 2, 30, 44, 1]
 refine c ?_ ?_
 · apply z [2, 31, 1, 8, 10]
   exact rt [(0, 0), (1, 1), (2, 2), (3, 3), (4, 4)]
 apply z [9, 4, 2, 30, 48, 33, 36, 40, 48, 33]
 refine o (stP (.agg [.own 1, .own 3, i64 x0_asked, i64 (wrap64 (x0_answered + (1 : Int))), bl x0_closed]) [3]) ?_
 apply z [1, 5]
 refine b fun r7 h8 => ?_
 refine b fun r9 h10 => ?_
 refine sd ?_
 apply zd [[], [0], [0], [0], []]
 refine dd [] (fun _ _ _ _ => c0 (c_engine_Do _ h8)) ?_
 refine dd [3, 4] (fun _ _ _ _ => cG (c___desk_Line_string___Put _ h10) [3, 4] [] [3]) ?_
 apply zd [[]]
 refine de fol ?_
 apply z [4, 8]
 exact rt [(0, 0), (1, 1), (2, 2), (3, 3), (4, 4)]
theorem c___desk_Desk__Fetch {x0_in__c} {x0_in__shut} {x0_out_c} {x0_out_shut} {x0_asked} {x0_answered} {x0_closed} : ∀ r, m___desk_Desk__Fetch x0_in__c x0_in__shut x0_out_c x0_out_shut x0_asked x0_answered x0_closed = some r → FnOk Tryz.prog 15 [.own 0] [(0, .bx 48 (.agg [.own 1, .own 3, i64 x0_asked, i64 x0_answered, bl x0_closed])), (1, .bx 53 (.agg [.own 2, bl x0_in__shut])), (2, chC chVS x0_in__c), (3, .bx 53 (.agg [.own 4, bl x0_out_shut])), (4, chC chVS x0_out_c)] (.tup [str r.1, bl r.2.1]) [(0, .bx 48 (.agg [.own 1, .own 3, i64 x0_asked, i64 x0_answered, bl x0_closed])), (1, .bx 53 (.agg [.own 2, bl x0_in__shut])), (2, chC chVS x0_in__c), (3, .bx 53 (.agg [.own 4, bl x0_out_shut])), (4, chC chVS r.2.2)] := by
 unfold m___desk_Desk__Fetch
 refine fs Tryz.func15 fun w S0 γ hγ => ?_
 apply z [2, 31, 31, 1, 2, 30, 48, 33, 36]
 refine b fun r1 h2 => ?_
 refine o (cG (c___desk_Line_string___Take _ h2) [3, 4] [] [3]) ?_
 apply z [35, 35, 31, 31, 1, 8]
 exact rt [(0, 0), (1, 1), (2, 2), (3, 3), (4, 4)]
theorem c_retrospectlaw50_works {n : Nat}  : ∀ r, m_retrospectlaw50_works n  = some r → FnOk Tryz.prog 5 [] [] (bl r) [] := by
 unfold m_retrospectlaw50_works
 refine fs Tryz.func5 fun w S0 γ hγ => ?_
 apply z [2, 31, 1, 2]
 refine b fun r1 h2 => ?_
 refine o (cG (c_desk_New _ h2) [] [(100, 50), (101, 70), (102, 71), (103, 72), (104, 73)] []) ?_
 apply z [31, 1, 5, 2, 30]
 refine s1 (eqPn Tryz.underlying38 rfl rfl rfl) ?_
 apply z [1]
 refine scF rfl ?_
 apply z [9, 4, 2, 30]
 refine b fun r3 h4 => ?_
 refine o (cG (c___desk_Desk__Ask _ h4) [100, 101, 102, 103, 104] [] [101, 103, 104]) ?_
 refine o (al' 105) ?_
 apply z [34, 1, 2, 30]
 refine b fun r5 h6 => ?_
 refine o (cG (c___desk_Desk__Ask _ h6) [100, 101, 102, 103, 104] [] [101, 103, 104]) ?_
 refine o (al' 106) ?_
 apply z [34, 1, 2, 30]
 refine b fun r7 h8 => ?_
 refine o (cG (c___desk_Desk__Work _ h8) [100, 101, 102, 103, 104] [] [101, 103]) ?_
 apply z [31, 1, 2, 30]
 refine b fun r9 h10 => ?_
 refine o (cG (c___desk_Desk__Fetch _ h10) [100, 101, 102, 103, 104] [] [100, 101, 102, 103]) ?_
 apply z [30, 35, 35, 31, 31, 1]
 refine sjq (fun s14 => [(0, bl s14)]) (fun s14 => []) ?_ ?_
 · intro j12 hj13
   apply z [6, 32]
   refine s1 (bld (l := [i64 0, i64 0, i64 0, i64 0]) pl_41.h ti_41.h zr_api_Fault rfl rfl) ?_
   refine s1 (eqA (p := (r3.1 : M_api_Fault)) (q := ((⟨0, 0, 0, 0⟩ : M_api_Fault) : M_api_Fault)) eq_41_2 rfl eg_41 rfl rfl rfl) ?_
   apply z [30]
   refine sifd 24 rfl ?_ ?_
   · apply z [22]
     refine sg 24 rfl rfl (bld (l := [i64 (7 : Int), i64 0, i64 0, i64 (1 : Int)]) pl_41.h ti_41.h zr_api_Fault ⟨_, _, _, (kI (x := 7) rfl), rfl, rfl, rfl, (szk (k := 1) rfl rfl), ⟨_, _, _, (kI (x := 1) rfl), rfl, rfl, rfl, (szk (k := 1) rfl rfl), rfl⟩⟩ rfl) ?_
     refine sg 24 rfl rfl (eqA (p := (r5.1 : M_api_Fault)) (q := ((⟨(7 : Int), 0, 0, (1 : Int)⟩ : M_api_Fault) : M_api_Fault)) eq_41_2 rfl eg_41 rfl rfl rfl) ?_
     apply z [38, 30]
     refine sifd 29 rfl ?_ ?_
     · apply z [22, 38, 30]
       refine sifd 32 rfl ?_ ?_
       · apply z [22, 38, 30]
         refine sifd 35 rfl ?_ ?_
         · apply z [22, 22]
           refine sbn (F := bl) 37 rfl fun z15 => ?_
           apply z [38, 31, 1]
           exact sj (hj13 _) (eR [])
         apply z [23, 23, 37, 31, 1]
         exact sj (hj13 _) (eR [])
       apply z [23, 37, 30, 23, 23, 37, 31, 1]
       exact sj (hj13 _) (eR [])
     apply z [23, 37, 30, 23, 37, 30, 23, 23, 37, 31, 1]
     exact sj (hj13 _) (eR [])
   apply z [23, 23, 23, 37, 30, 23, 37, 30, 23, 37, 30, 23, 23, 37, 31, 1]
   exact sj (hj13 _) (eR [])
 intro s14
 apply z [8]
 exact rt []
theorem c_retrospectref50_Room {x0} : ∀ r, m_retrospectref50_Room x0 = some r → FnOk Tryz.prog 6 [i64 x0] [] (i64 r) [] := by
 unfold m_retrospectref50_Room
 refine fs Tryz.func6 fun w S0 γ hγ => ?_
 apply z [2, 31, 1, 2, 30, 88, 89, 31, 1, 8]
 exact rt []
theorem c___desk_Line_int___Take {x0_c} {x0_shut} : ∀ r, m___desk_Line_int___Take x0_c x0_shut = some r → FnOk Tryz.prog 7 [.own 0] [(0, .bx 37 (.agg [.own 1, bl x0_shut])), (1, chC chVI x0_c)] (.tup [i64 r.1, bl r.2.1]) [(0, .bx 37 (.agg [.own 1, bl x0_shut])), (1, chC chVI r.2.2)] := by
 unfold m___desk_Line_int___Take
 refine fs Tryz.func7 fun w S0 γ hγ => ?_
 apply z [2, 31, 31, 1, 2, 30, 48, 33, 36, 1, 5]
 refine b fun _ h1 => ?_
 refine selRB (ok := okI) elt_I (0 : Int) (run_zeroValue ti_3.h) rfl rfl rfl rfl (grd_some h1) (fun y2 t3 => ?_) ?_ ?_
 · apply z [35, 41, 1, 7]
   refine c ?_ ?_
   · apply z [2, 35, 35, 31, 31, 1, 2, 30, 30, 31, 31, 1, 8, 12]
     exact rt [(0, 0), (1, 1)]
   apply z [2, 31, 1, 2, 30, 31, 31, 1, 8, 12]
   exact rt [(0, 0), (1, 1)]
 · apply z [35, 41, 1, 7]
   refine c ?_ ?_
   · apply z [2, 35, 35, 31, 31, 1, 2, 30, 30, 31, 31, 1, 8, 12]
     exact rt [(0, 0), (1, 1)]
   apply z [2, 31, 1, 2, 30, 31, 31, 1, 8, 12]
   exact rt [(0, 0), (1, 1)]
 apply z [35, 41, 1, 7]
 refine c ?_ ?_
 · apply z [2, 35, 35, 31, 31, 1, 2, 30, 30, 31, 31, 1, 8, 12]
   exact rt [(0, 0), (1, 1)]
 apply z [2, 31, 1, 2, 30, 31, 31, 1, 8, 12]
 exact rt [(0, 0), (1, 1)]
theorem c___desk_Line_int___Shut {x0_c} {x0_shut} : ∀ r, m___desk_Line_int___Shut x0_c x0_shut = some r → FnOk Tryz.prog 8 [.own 0] [(0, .bx 37 (.agg [.own 1, bl x0_shut])), (1, chC chVI x0_c)] (bl r.1) [(0, .bx 37 (.agg [.own 1, bl r.2.1])), (1, chC chVI r.2.2)] := by
 unfold m___desk_Line_int___Shut
 refine fs Tryz.func8 fun w S0 γ hγ => ?_
 apply z [2, 31, 1, 5, 2, 30, 48, 33, 36, 1]
 refine c ?_ ?_
 · apply z [2, 31, 1, 8, 10]
   exact rt [(0, 0), (1, 1)]
 apply z [9, 4, 2, 30, 48, 33]
 refine o (stP (.agg [.own 1, bl true]) [1]) ?_
 apply z [1, 5, 2, 30, 48, 33, 36]
 refine s1 (neCh Tryz.underlying35 rfl rfl rfl) ?_
 apply z [1]
 refine scT rfl ?_
 apply z [6, 30, 48, 33, 36]
 refine b fun _ h2 => ?_
 refine so (clsChC rfl (grdN h2) rfl) ?_
 apply z [1, 2, 31, 1, 8]
 exact rt [(0, 0), (1, 1)]
theorem c___desk_Line_int___Put {x0_c} {x0_shut} {x1} : ∀ r, m___desk_Line_int___Put x0_c x0_shut x1 = some r → FnOk Tryz.prog 9 [.own 0, i64 x1] [(0, .bx 37 (.agg [.own 1, bl x0_shut])), (1, chC chVI x0_c)] (bl r.1) [(0, .bx 37 (.agg [.own 1, bl x0_shut])), (1, chC chVI r.2)] := by
 unfold m___desk_Line_int___Put
 refine fs Tryz.func9 fun w S0 γ hγ => ?_
 apply z [2, 31, 1, 5, 2, 30, 48, 33, 36, 1]
 refine c ?_ ?_
 · apply z [2, 31, 1, 8, 10]
   exact rt [(0, 0), (1, 1)]
 apply z [9, 4, 5, 2, 30, 48, 33, 36, 1, 6, 30, 1, 5]
 refine b fun _ h1 => ?_
 refine selSB elt_I (run_zeroValue ti_3.h) rfl rfl rfl (grdN h1) rfl ?_ ?_
 · apply z [35, 41, 1, 7]
   refine c ?_ ?_
   · apply z [2, 31, 1, 8, 12]
     exact rt [(0, 0), (1, 1)]
   apply z [2, 31, 1, 8, 12]
   exact rt [(0, 0), (1, 1)]
 apply z [35, 41, 1, 7]
 refine c ?_ ?_
 · apply z [2, 31, 1, 8, 12]
   exact rt [(0, 0), (1, 1)]
 apply z [2, 31, 1, 8, 12]
 exact rt [(0, 0), (1, 1)]
theorem c___desk_Line_int___Waiting {x0_c} {x0_shut} : ∀ r, m___desk_Line_int___Waiting x0_c x0_shut = some r → FnOk Tryz.prog 10 [.own 0] [(0, .bx 37 (.agg [.own 1, bl x0_shut])), (1, chC chVI x0_c)] (i64 r) [(0, .bx 37 (.agg [.own 1, bl x0_shut])), (1, chC chVI x0_c)] := by
 unfold m___desk_Line_int___Waiting
 refine fs Tryz.func10 fun w S0 γ hγ => ?_
 apply z [2, 31, 1, 2, 30, 48, 33, 36]
 refine b fun _ h1 => ?_
 refine s1 (lenChC Tryz.underlying35 rfl (grd_some h1) rfl rfl) ?_
 apply z [31, 1, 8]
 exact rt [(0, 0), (1, 1)]
theorem c___desk_Line_int___Room {x0_c} {x0_shut} : ∀ r, m___desk_Line_int___Room x0_c x0_shut = some r → FnOk Tryz.prog 11 [.own 0] [(0, .bx 37 (.agg [.own 1, bl x0_shut])), (1, chC chVI x0_c)] (i64 r) [(0, .bx 37 (.agg [.own 1, bl x0_shut])), (1, chC chVI x0_c)] := by
 unfold m___desk_Line_int___Room
 refine fs Tryz.func11 fun w S0 γ hγ => ?_
 apply z [2, 31, 1, 2, 30, 48, 33, 36]
 refine b fun _ h1 => ?_
 refine s1 (capChC Tryz.underlying35 rfl (Nat.le_of_ble_eq_true (grd_some h1)) rfl rfl) ?_
 apply z [31, 1, 8]
 exact rt [(0, 0), (1, 1)]
theorem c_retrospectlaw50_DeskLines {n : Nat} {x0} {x1} : ∀ r, m_retrospectlaw50_DeskLines n x0 x1 = some r → FnOk Tryz.prog 3 [i64 x0, sli 3 (List.map L_retrospectlaw50_Op x1)] [] (bl r) [] := by
 unfold m_retrospectlaw50_DeskLines
 refine fs Tryz.func3 fun w S0 γ hγ => ?_
 apply z [2, 31, 1, 2, 30]
 refine b fun r1 h2 => ?_
 refine o (cG (c_desk_NewLine_int_ _ h2) [] [(100, 50), (101, 70)] []) ?_
 apply z [31, 1, 5, 2, 30]
 refine s1 (eqPn Tryz.underlying23 rfl rfl rfl) ?_
 apply z [30, 22, 22, 22, 37, 1]
 refine c ?_ ?_
 · apply z [2, 30]
   refine s1 (nePn Tryz.underlying23 rfl rfl rfl) ?_
   apply z [30]
   refine b fun r5 h6 => ?_
   refine og' (c0 (c_retrospectlaw50_works _ h6)) ?_
   apply z [38, 31, 1, 8, 10]
   exact rt []
 apply z [9, 4, 2]
 refine s1 (asg rfl (kLm (k := 1) i64)) ?_
 apply z [1, 2, 31, 1, 2, 30]
 refine cb (ca c_retrospectref50_Room) fun r7 => ?_
 apply z [31, 1, 5, 2, 31, 1, 7]
 refine sloopE 0 Lp.go (fun s146 => [(1, sli 3 (List.map L_retrospectlaw50_Op x1)), (4, bl false), (5, .own 100), (6, sli 1 (List.map i64 s146.2.2.1)), (7, bl s146.2.2.2.1), (8, i64 r7), (9, i64 s146.2.2.2.2)]) (fun s146 => [(100, .bx 37 (.agg [.own 101, bl s146.2.1])), (101, chC chVI s146.1)]) (fun t144 => [(4, bl false)]) (fun t144 => []) (eR [(100, 100), (101, 101)]) ?_ ?_
 · intro hj145 s146
   apply z [5, 2, 30, 30, 39, 46, 1]
   refine c ?_ ?_
   · apply z [9, 4, 5, 7, 2, 30, 30]
     refine b fun y147 h148 => ?_
     apply z [43, 42]
     refine o (al' 102) ?_
     apply z [34, 1]
     refine sjq (fun s173 => [(1, sli 3 (List.map L_retrospectlaw50_Op x1)), (4, bl false), (5, .own 100), (6, sli 1 (List.map i64 s173.2.2.1)), (7, bl s173.2.2.2), (8, i64 r7), (9, i64 s146.2.2.2.2)]) (fun s173 => [(100, .bx 37 (.agg [.own 101, bl s173.2.1])), (101, chC chVI s173.1)]) ?_ ?_
     · intro j171 hj172
       apply z [2, 33, 36, 41, 1]
       refine c ?_ ?_
       · apply z [2, 30]
         refine b fun r174 h175 => ?_
         refine o (cG (c___desk_Line_int___Take _ h175) [100, 101] [] [100]) ?_
         apply z [30, 35, 35, 31, 31, 1, 5]
         refine sjq (fun s180 => [(1, sli 3 (List.map L_retrospectlaw50_Op x1)), (4, bl false), (5, .own 100), (6, sli 1 (List.map i64 s146.2.2.1)), (7, bl s146.2.2.2.1), (8, i64 r7), (9, i64 s146.2.2.2.2), (12, bl r174.2.1), (70, bl s180)]) (fun s180 => [(100, .bx 37 (.agg [.own 101, bl s146.2.1])), (101, chC chVI r174.2.2)]) ?_ ?_
         · intro j178 hj179
           apply z [6, 30, 30, 39, 47, 75, 30]
           refine sifd 53 rfl ?_ ?_
           · apply z [23, 23, 24, 24, 24, 24, 24, 23, 38, 30, 23, 23, 23, 24, 24, 23, 38, 1]
             exact sj (hj179 _) (eR [(100, 100), (101, 101)])
           apply z [22, 22]
           refine sifd 55 rfl ?_ ?_
           · apply z [22, 22]
             refine b fun y181 h182 => ?_
             apply z [22, 22, 22, 22, 37, 30]
             refine sifd 63 rfl ?_ ?_
             · apply z [23, 23, 23, 24, 24, 23, 38, 1]
               exact sj (hj179 _) (eR [(100, 100), (101, 101)])
             apply z [22, 22, 22]
             refine sifd 66 rfl ?_ ?_
             · apply z [22, 22, 22, 37, 1]
               exact sj (hj179 _) (eR [(100, 100), (101, 101)])
             apply z [23, 23, 22, 37, 1]
             exact sj (hj179 _) (eR [(100, 100), (101, 101)])
           apply z [23, 23, 23, 23, 23, 22, 37, 30, 22, 22, 22]
           refine sifd 66 rfl ?_ ?_
           · apply z [22, 22, 22, 37, 1]
             exact sj (hj179 _) (eR [(100, 100), (101, 101)])
           apply z [23, 23, 22, 37, 1]
           exact sj (hj179 _) (eR [(100, 100), (101, 101)])
         intro s180
         refine c ?_ ?_
         · apply z [2, 31, 1, 8, 10, 10, 12, 10]
           refine sU ?_
           apply z [12, 10]
           exact rt []
         apply z [9, 4, 2, 30, 1]
         refine c ?_ ?_
         · apply z [6, 30]
           refine b fun y183 h184 => ?_
           refine s1 (slR (f := i64) h184 Tryz.underlying26 ti_3.h rfl rfl (bnd (kI (x := 1) rfl)) bnd0) ?_
           apply z [31, 1]
           exact sj (hj172 _) (eR [(100, 100), (101, 101)])
         apply z [9, 4]
         exact sj (hj172 _) (eR [(100, 100), (101, 101)])
       apply z [2, 33, 36, 41, 1]
       refine c ?_ ?_
       · apply z [5, 2, 30]
         refine b fun r185 h186 => ?_
         refine o (cG (c___desk_Line_int___Shut _ h186) [100, 101] [] []) ?_
         apply z [30, 74, 1]
         refine c ?_ ?_
         · apply z [2, 31, 1, 8, 10, 10, 12, 10]
           refine sU ?_
           apply z [12, 10]
           exact rt []
         apply z [9, 4, 6, 31, 1]
         exact sj (hj172 _) (eR [(100, 100), (101, 101)])
       apply z [2, 30, 33, 36]
       refine b fun r187 h188 => ?_
       refine o (cG (c___desk_Line_int___Put _ h188) [100, 101] [] [100]) ?_
       apply z [31, 1, 5]
       refine sjq (fun s191 => [(1, sli 3 (List.map L_retrospectlaw50_Op x1)), (4, bl false), (5, .own 100), (6, sli 1 (List.map i64 s146.2.2.1)), (7, bl s146.2.2.2.1), (8, i64 r7), (9, i64 s146.2.2.2.2), (10, .own 102), (13, bl r187.1), (94, bl s191)]) (fun s191 => [(100, .bx 37 (.agg [.own 101, bl s146.2.1])), (101, chC chVI r187.2), (102, .bx 29 (L_retrospectlaw50_Op y147))]) ?_ ?_
       · intro j189 hj190
         apply z [6, 30, 30, 44, 30]
         refine sifd 88 rfl ?_ ?_
         · apply z [22, 22, 22, 22, 38, 75, 1]
           exact sj (hj190 _) (eR [(100, 100), (101, 101), (102, 102)])
         apply z [23, 23, 23, 23, 37, 75, 1]
         exact sj (hj190 _) (eR [(100, 100), (101, 101), (102, 102)])
       intro s191
       refine c ?_ ?_
       · apply z [2, 31, 1, 8, 10, 10, 12, 10]
         refine sU ?_
         apply z [12, 10]
         exact rt []
       apply z [9, 4, 2, 30, 1]
       refine c ?_ ?_
       · refine b fun y192 h193 => ?_
         refine b fun y194 h195 => ?_
         refine sd ?_
         refine dx [] [103] (fun st mm _ ⟨g103, _⟩ => og (bsl (y := 103) (ls := List.map i64 ([] : List Int)) Tryz.underlying26 ti_3.h rfl rfl rfl rfl rfl trivial (g103.trans rfl) rfl)) ?_
         apply zd [[]]
         refine dd [103, 104] (fun _ _ _ _ => app' 104) ?_
         apply zd [[102], [102]]
         refine dx [100] [105] (fun st mm ⟨a100, _⟩ ⟨g105, _⟩ => og (bsl (y := 105) (ls := List.map i64 ([y147.X] : List Int)) Tryz.underlying26 ti_3.h rfl rfl rfl rfl rfl ⟨rfl, (a100.trans rfl), (by exact rfl), (by exact rfl), trivial⟩ (g105.trans rfl) rfl)) ?_
         refine dd [104, 105, 106] (fun _ _ _ _ => app' 106) ?_
         apply zd [[]]
         refine de fol ?_
         refine fz 106 [6, 102] [] ?_
         apply z [4]
         exact sj (hj172 _) (eR [(100, 100), (101, 101)])
       apply z [9, 4]
       exact sj (hj172 _) (eR [(100, 100), (101, 101)])
     intro s173
     refine sjq (fun s202 => [(1, sli 3 (List.map L_retrospectlaw50_Op x1)), (4, bl false), (5, .own 100), (6, sli 1 (List.map i64 s173.2.2.1)), (7, bl s173.2.2.2), (8, i64 r7), (9, i64 s146.2.2.2.2), (113, bl s202)]) (fun s202 => [(100, .bx 37 (.agg [.own 101, bl s173.2.1])), (101, chC chVI s173.1)]) ?_ ?_
     · intro j200 hj201
       apply z [6, 30]
       refine b fun r203 h204 => ?_
       refine o (cG (c___desk_Line_int___Waiting _ h204) [100, 101] [] [100, 101]) ?_
       apply z [30, 39, 56, 30]
       refine sifd 108 rfl ?_ ?_
       · apply z [23, 23, 23, 23, 38, 1]
         exact sj (hj201 _) (eR [(100, 100), (101, 101)])
       apply z [22]
       refine b fun r205 h206 => ?_
       refine og' (cG (c___desk_Line_int___Room _ h206) [100, 101] [] [100, 101]) ?_
       apply z [22, 22, 37, 1]
       exact sj (hj201 _) (eR [(100, 100), (101, 101)])
     intro s202
     refine c ?_ ?_
     · apply z [2, 31, 1, 8, 12, 10]
       refine sU ?_
       apply z [12, 10]
       exact rt []
     apply z [9, 11, 4, 6, 30, 40, 31, 3]
     exact sgo (eR [(100, 100), (101, 101)])
   apply z [14, 15]
   exact su (sj (hj145 _) (eR []))
 intro t144
 refine slpk ?_
 apply z [13, 4, 2]
 refine cb (ca c_retrospectlaw50_works) fun r207 => ?_
 apply z [31, 1, 8]
 exact rt []
end Go.Proofs.YtcdeknlejjjmlaaGreatDoor
