import Derived.Test.YtpomhkkhdojpiaaGreatDoorGen2
set_option maxRecDepth 100000
set_option maxHeartbeats 4000000
namespace Go.Proofs.YtpomhkkhdojpiaaGreatDoor
open Go Go.RowKit
theorem c___parse_reader__chain_o1___parse_reader__term {me___parse_reader__expr : (List M_lex_Word) → Int → Int → Int → (List (List UInt8)) → Option (Except M_api_Fault ((List M_tree_Node) × (List M_lex_Word) × Int × Int × Int × (List (List UInt8))))} (he___parse_reader__expr : ∀ {x0_words : (List M_lex_Word)} {x0_at_ : Int} {x0_end_ : Int} {x0_deep : Int} {x0_names : (List (List UInt8))}, ∀ r, me___parse_reader__expr x0_words x0_at_ x0_end_ x0_deep x0_names = some r → FnR Tryz.prog 44 [.own 0] [(0, .bx 118 (.agg [sli 3 (List.map L_lex_Word x0_words), i64 x0_at_, i64 x0_end_, i64 x0_deep, .own 1])), (1, .sl 9 1 (List.map str x0_names))] 28 L_api_Fault (fun r => .own 50) (fun r => [(0, .bx 118 (.agg [sli 3 (List.map L_lex_Word r.2.1), i64 r.2.2.1, i64 r.2.2.2.1, i64 r.2.2.2.2.1, .own 61])), (1, .gone), (50, .sl 69 3 (List.map L_tree_Node r.1)), (61, .sl 9 1 (List.map str r.2.2.2.2.2))]) r) {n : Nat} {x0_words} {x0_at_} {x0_end_} {x0_deep} {x0_names} {x2} {x3} {x4} {x5} : ∀ r, m___parse_reader__chain_o1___parse_reader__term me___parse_reader__expr n x0_words x0_at_ x0_end_ x0_deep x0_names x2 x3 x4 x5 = some r → FnR Tryz.prog 76 [.own 0, .bnd 77 [.own 0], str x2, str x3, i64 x4, i64 x5] [(0, .bx 118 (.agg [sli 3 (List.map L_lex_Word x0_words), i64 x0_at_, i64 x0_end_, i64 x0_deep, .own 1])), (1, .sl 9 1 (List.map str x0_names))] 28 L_api_Fault (fun r => .own 50) (fun r => [(0, .bx 118 (.agg [sli 3 (List.map L_lex_Word r.2.1), i64 r.2.2.1, i64 r.2.2.2.1, i64 r.2.2.2.2.1, .own 61])), (1, .gone), (50, .sl 69 3 (List.map L_tree_Node r.1)), (61, .sl 9 1 (List.map str r.2.2.2.2.2))]) r := by
 unfold m___parse_reader__chain_o1___parse_reader__term
 refine fsP Tryz.func76 fun w S0 γ hγ => ?_
 apply z [2]
 refine s1 (asg rfl (kLm (k := 3) L_tree_Node)) ?_
 apply z [1, 2, 30]
 refine bPB (lb := [_]) (la := []) [0, 1] (c___parse_reader__term @he___parse_reader__expr) rfl rfl (rns_cons (rn_own rfl) (rns_nil)) fun r1 h2 => ?_
 refine so (callB (lb := [_]) (la := []) (em := [(100, .sl 69 3 (List.map L_tree_Node r1.1)), (1, .gone), (101, .sl 9 1 (List.map str r1.2.2.2.2.2)), (0, .bx 118 (.agg [sli 3 (List.map L_lex_Word r1.2.1), i64 r1.2.2.1, i64 r1.2.2.2.1, i64 r1.2.2.2.2.1, .own 101]))]) (res' := .own 100) [(0, 0), (1, 1)] [(100, 50), (101, 61)] [(100, 50), (101, 61), (0, 0)] rfl (h2) rfl (rns_cons (rn_own rfl) (rns_nil)) trivial (MiF.get (mi := [(0, _), (1, _)]) ⟨⟨_, _, rfl, rfl, rc_bx (rn_agg (rns_cons (rn_id if_sli) (rns_cons (rn_id if_i64) (rns_cons (rn_id if_i64) (rns_cons (rn_id if_i64) (rns_cons (rn_own rfl) (rns_nil)))))))⟩, ⟨_, _, rfl, rfl, rc_sl (ifs_map (f := str) (fun _ => if_str) x0_names)⟩, trivial⟩) ⟨⟨_, rfl⟩, ⟨_, rfl⟩, trivial⟩ rfl ⟨rfl, rfl, trivial⟩ ⟨.inl rfl, .inl rfl, .inr rfl, trivial⟩ rfl ⟨.inl ⟨_, _, rfl, rfl, rc_sl (ifs_map (f := L_tree_Node) (fun _ => if_L_tree_Node) r1.1)⟩, .inr ⟨rfl, 1, .tail _ (.head _)⟩, .inl ⟨_, _, rfl, rfl, rc_sl (ifs_map (f := str) (fun _ => if_str) r1.2.2.2.2.2)⟩, .inl ⟨_, _, rfl, rfl, rc_bx (rn_agg (rns_cons (rn_id if_sli) (rns_cons (rn_id if_i64) (rns_cons (rn_id if_i64) (rns_cons (rn_id if_i64) (rns_cons (rn_own rfl) (rns_nil)))))))⟩, trivial⟩ ⟨⟨_, rfl⟩, ⟨_, rfl⟩, trivial⟩ ⟨⟨_, rfl⟩, ⟨_, rfl⟩, trivial⟩ (rn_own rfl) rfl) ?_
 apply z [31, 1, 7]
 refine sloop0 (fun s41 => [(0, .own 0), (1, .bnd 77 [.own 0]), (2, str x2), (3, str x3), (4, i64 x4), (5, i64 x5), (12, sli 3 (List.map L_tree_Node ([] : List M_tree_Node))), (13, .own 100)]) (fun s41 => [(1, .gone), (0, .bx 118 (.agg [sli 3 (List.map L_lex_Word s41.1), i64 s41.2.1, i64 s41.2.2.1, i64 s41.2.2.2.1, .own 101])), (101, .sl 9 1 (List.map str s41.2.2.2.2.1)), (100, .sl 69 3 (List.map L_tree_Node s41.2.2.2.2.2))]) (eR [(1, 1), (0, 0), (101, 101), (100, 100)]) ?_
 intro s41
 apply z [7, 2, 31, 1]
 refine sjq (fun s48 => [(0, .own 0), (1, .bnd 77 [.own 0]), (2, str x2), (3, str x3), (4, i64 x4), (5, i64 x5), (12, sli 3 (List.map L_tree_Node ([] : List M_tree_Node))), (13, .own 100), (14, i64 s48.2.2.2.2)]) (fun s48 => [(1, .gone), (0, .bx 118 (.agg [sli 3 (List.map L_lex_Word s48.1), i64 s48.2.1, i64 s48.2.2.1, i64 s48.2.2.2.1, .own 101])), (101, .sl 9 1 (List.map str s41.2.2.2.2.1)), (100, .sl 69 3 (List.map L_tree_Node s41.2.2.2.2.2))]) ?_ ?_
 · intro j46 hj47
   apply z [7, 2, 30, 30]
   refine b fun r49 h50 => ?_
   refine o (cG (c___parse_reader__has _ h50) [0, 101] [] [101]) ?_
   apply z [31, 1]
   refine c ?_ ?_
   · apply z [6, 30, 31, 3, 11, 4]
     exact sj (hj47 _) (eR [(1, 1), (0, 0), (101, 101), (100, 100)])
   apply z [2, 30, 30]
   refine b fun r51 h52 => ?_
   refine o (cG (c___parse_reader__has _ h52) [0, 101] [] [101]) ?_
   apply z [31, 1]
   refine c ?_ ?_
   · apply z [6, 30, 31, 3, 11, 4]
     exact sj (hj47 _) (eR [(1, 1), (0, 0), (101, 101), (100, 100)])
   apply z [2, 30, 31, 1, 8, 12, 10, 12]
   refine sU ?_
   apply z [12]
   exact rtR (rt [(0, 0), (1, 1), (50, 100), (61, 101)])
 intro s48
 apply z [6, 30, 30]
 refine bPB (lb := [_]) (la := []) [0, 101] (c___parse_reader__term @he___parse_reader__expr) rfl rfl (rns_cons (rn_own rfl) (rns_nil)) fun r53 h54 => ?_
 refine so (callB (lb := [_]) (la := []) (em := [(102, .sl 69 3 (List.map L_tree_Node r53.1)), (101, .gone), (103, .sl 9 1 (List.map str r53.2.2.2.2.2)), (0, .bx 118 (.agg [sli 3 (List.map L_lex_Word r53.2.1), i64 r53.2.2.1, i64 r53.2.2.2.1, i64 r53.2.2.2.2.1, .own 103]))]) (res' := .own 102) [(0, 0), (1, 101)] [(102, 50), (103, 61)] [(102, 50), (103, 61), (0, 0)] rfl (h54) rfl (rns_cons (rn_own rfl) (rns_nil)) trivial (MiF.get (mi := [(0, _), (1, _)]) ⟨⟨_, _, rfl, rfl, rc_bx (rn_agg (rns_cons (rn_id if_sli) (rns_cons (rn_id if_i64) (rns_cons (rn_id if_i64) (rns_cons (rn_id if_i64) (rns_cons (rn_own rfl) (rns_nil)))))))⟩, ⟨_, _, rfl, rfl, rc_sl (ifs_map (f := str) (fun _ => if_str) s41.2.2.2.2.1)⟩, trivial⟩) ⟨⟨_, rfl⟩, ⟨_, rfl⟩, trivial⟩ rfl ⟨rfl, rfl, trivial⟩ ⟨.inl rfl, .inl rfl, .inr rfl, trivial⟩ rfl ⟨.inl ⟨_, _, rfl, rfl, rc_sl (ifs_map (f := L_tree_Node) (fun _ => if_L_tree_Node) r53.1)⟩, .inr ⟨rfl, 1, .tail _ (.head _)⟩, .inl ⟨_, _, rfl, rfl, rc_sl (ifs_map (f := str) (fun _ => if_str) r53.2.2.2.2.2)⟩, .inl ⟨_, _, rfl, rfl, rc_bx (rn_agg (rns_cons (rn_id if_sli) (rns_cons (rn_id if_i64) (rns_cons (rn_id if_i64) (rns_cons (rn_id if_i64) (rns_cons (rn_own rfl) (rns_nil)))))))⟩, trivial⟩ ⟨⟨_, rfl⟩, ⟨_, rfl⟩, trivial⟩ ⟨⟨_, rfl⟩, ⟨_, rfl⟩, trivial⟩ (rn_own rfl) rfl) ?_
 refine b fun y55 h56 => ?_
 refine o (app' 104) ?_
 apply z [30]
 refine s1 (bld (l := [i64 s48.2.2.2.2, i64 0, sli 1 (List.map u32 [])]) pl_69.h ti_69.h zr_tree_Node ⟨_, _, _, rfl, rfl, rfl, rfl, (szk (k := 1) rfl rfl), rfl⟩ rfl) ?_
 refine so (bsl (y := 105) (ls := List.map L_tree_Node ([(⟨s48.2.2.2.2, 0, []⟩ : M_tree_Node)] : List M_tree_Node)) Tryz.underlying42 ti_69.h rfl rfl rfl rfl rfl ⟨rfl, rfl, (by exact rfl), (by exact rfl), trivial⟩ rfl rfl) ?_
 refine b fun y57 h58 => ?_
 refine o (app' 106) ?_
 apply z [31, 3, 11]
 exact sgo (eR [(1, 1), (0, 0), (101, 103), (100, 106)])
theorem c___parse_reader__expr : ∀ {n : Nat} {x0_words} {x0_at_} {x0_end_} {x0_deep} {x0_names}, ∀ r, m___parse_reader__expr n x0_words x0_at_ x0_end_ x0_deep x0_names = some r → FnR Tryz.prog 44 [.own 0] [(0, .bx 118 (.agg [sli 3 (List.map L_lex_Word x0_words), i64 x0_at_, i64 x0_end_, i64 x0_deep, .own 1])), (1, .sl 9 1 (List.map str x0_names))] 28 L_api_Fault (fun r => .own 50) (fun r => [(0, .bx 118 (.agg [sli 3 (List.map L_lex_Word r.2.1), i64 r.2.2.1, i64 r.2.2.2.1, i64 r.2.2.2.2.1, .own 61])), (1, .gone), (50, .sl 69 3 (List.map L_tree_Node r.1)), (61, .sl 9 1 (List.map str r.2.2.2.2.2))]) r := by
  intro n
  induction n with
  | zero => intro x0_words x0_at_ x0_end_ x0_deep x0_names r h; exact absurd h (by simp [m___parse_reader__expr])
  | succ n ih =>
    intro x0_words x0_at_ x0_end_ x0_deep x0_names
    unfold m___parse_reader__expr
    refine fsP Tryz.func44 fun w S0 γ hγ => ?_
    apply z [2]
    refine s1 (asg rfl (kLm (k := 3) L_tree_Node)) ?_
    apply z [1, 2, 30, 30]
    refine s1 (mkB (l := [.own 0]) ⟨rfl, trivial⟩ rfl) ?_
    refine bP [0, 1] (c___parse_reader__chain_o1___parse_reader__term @ih) fun r1 h2 => ?_
    refine o (cG (h2) [0, 1] [(100, 50), (101, 61)] []) ?_
    apply z [31, 1, 8]
    exact rtR (rt [(0, 0), (1, 1), (50, 100), (61, 101)])
theorem c_parse_caught_o1_api_Fault {x0} {x1} : ∀ r, m_parse_caught_o1_api_Fault x0 x1 = some r → FnOk Tryz.prog 36 [.own 0, .ifc 28 (L_api_Fault x1)] [(0, .bx 28 (L_api_Fault x0))] (bl r.1) [(0, .bx 28 (L_api_Fault r.2))] := by
 unfold m_parse_caught_o1_api_Fault
 refine fs Tryz.func36 fun w S0 γ hγ => ?_
 apply z [2, 31, 1, 5, 2, 30]
 refine s1 (eqN2 Tryz.underlying20 rfl rfl) ?_
 apply z [1]
 refine scF rfl ?_
 apply z [9, 4, 2, 30]
 refine s1 (taT Tryz.underlying28 rfl rfl) ?_
 apply z [30, 35, 35]
 refine o (al' 100) ?_
 apply z [34, 31, 1, 5, 2, 30, 44, 1]
 refine scF rfl ?_
 apply z [9, 4, 2, 30, 32, 48, 34, 1, 2, 31, 1, 8]
 exact rt [(0, 0)]
theorem c_parse_Expr_1_opan {x0} {x1} {e : M_api_Fault} {u : Value} (hu : PlainV (L_api_Fault e) u) : ∀ r, m_parse_Expr_1_opan x0 x1 e = some r → FnD Tryz.prog 43 [.own 0, .own 1] [(0, .bx 28 (L_api_Fault x0)), (1, .bx 42 (sli 3 (List.map L_tree_Node x1)))] (.panicking (pan 28 u)) (.panicking (panR 28 u)) [(0, .bx 28 (L_api_Fault r.1)), (1, .bx 42 (sli 3 (List.map L_tree_Node r.2)))] := by
 unfold m_parse_Expr_1_opan
 refine fsC Tryz.func43 rfl rfl (lyv := .ifc 28 (L_api_Fault e)) rec_pan (pv_ifc hu) (fun r1 h2 w S0 γ => cG (c_parse_caught_o1_api_Fault _ h2) [0] [] []) fun r1 w S0 γ hγ => ?_
 refine c ?_ ?_
 · apply z [6]
   refine so (stB2 (ly2 := sli 3 (List.map L_tree_Node ([] : List M_tree_Node))) [] (by exact rfl) rfl (by exact rfl) sh_42.h (by exact rfl) (by exact rfl) (by exact rfl) rfl (.inr ⟨rfl, rfl, _, _, rfl⟩) (kLm (k := 3) L_tree_Node)) ?_
   apply z [3]
   exact rt [(0, 0), (1, 1)]
 apply z [9]
 exact rt [(0, 0), (1, 1)]
theorem c___parse_reader__over {x0_words} {x0_at_} {x0_end_} {x0_deep} {x0_names} : ∀ r, m___parse_reader__over x0_words x0_at_ x0_end_ x0_deep x0_names = some r → FnR Tryz.prog 38 [.own 0] [(0, .bx 118 (.agg [sli 3 (List.map L_lex_Word x0_words), i64 x0_at_, i64 x0_end_, i64 x0_deep, .own 1])), (1, .sl 9 1 (List.map str x0_names))] 28 L_api_Fault (fun r => .tup []) (fun r => [(0, .bx 118 (.agg [sli 3 (List.map L_lex_Word x0_words), i64 x0_at_, i64 x0_end_, i64 x0_deep, .own 1])), (1, .sl 9 1 (List.map str x0_names))]) r := by
 unfold m___parse_reader__over
 refine fsP Tryz.func38 fun w S0 γ hγ => ?_
 apply z [5]
 refine sd ?_
 apply zd [[], [0], [0], [0], [], [0], [0], [0], [], []]
 refine de fol ?_
 apply z [4]
 refine c ?_ ?_
 · apply z [6, 30]
   refine bP [0, 1] c___parse_reader__fail fun r1 h2 => ?_
   refine o (cG (h2) [0, 1] [] [0, 1]) ?_
   apply z [3]
   exact rtR (rt [(0, 0), (1, 1)])
 apply z [9]
 exact rtR (rt [(0, 0), (1, 1)])
theorem c_parse_caught_o1_nil {x0} : ∀ r, m_parse_caught_o1_nil x0 = some r → FnOk Tryz.prog 36 [.ref (L_api_Fault x0), nilI] [] (bl r) [] := by
 unfold m_parse_caught_o1_nil
 refine fs Tryz.func36 fun w S0 γ hγ => ?_
 apply z [2, 31, 1, 5, 2, 30]
 refine s1 (eqN1 Tryz.underlying20 rfl rfl) ?_
 apply z [1]
 refine scT rfl ?_
 apply z [2, 31, 1, 8, 10]
 exact rt []
theorem c_parse_Expr_1_oret {x0} {x1} : ∀ r, m_parse_Expr_1_oret x0 x1 = some r → FnD Tryz.prog 43 [.own 0, .own 1] [(0, .bx 28 (L_api_Fault x0)), (1, .bx 42 (sli 3 (List.map L_tree_Node x1)))] .returning .returning [(0, .bx 28 (L_api_Fault x0)), (1, .bx 42 (sli 3 (List.map L_tree_Node r)))] := by
 unfold m_parse_Expr_1_oret
 refine fsC Tryz.func43 rfl rfl (lyv := nilI) rec_ret pv_nil (fun r1 h2 w S0 γ => of (callL (em := []) [0] [] [] [] rfl (c_parse_caught_o1_nil _ h2) trivial (pl_bl) ⟨.inr ⟨0, rfl, .inl ⟨rfl, .inr ⟨_, _, rfl, if_L_api_Fault, rfl⟩⟩⟩, .inl ⟨_, rfl, rn_id if_nilI⟩, trivial⟩ (fun _ _ h => by cases h) trivial rfl trivial trivial rfl trivial trivial trivial (rn_id (if_bl)) rfl)) fun r1 w S0 γ hγ => ?_
 refine c ?_ ?_
 · apply z [6]
   refine so (stB2 (ly2 := sli 3 (List.map L_tree_Node ([] : List M_tree_Node))) [] (by exact rfl) rfl (by exact rfl) sh_42.h (by exact rfl) (by exact rfl) (by exact rfl) rfl (.inr ⟨rfl, rfl, _, _, rfl⟩) (kLm (k := 3) L_tree_Node)) ?_
   apply z [3]
   exact rt [(0, 0), (1, 1)]
 apply z [9]
 exact rt [(0, 0), (1, 1)]
theorem c_parse_Expr {n : Nat} {x0} {x1} : ∀ r, m_parse_Expr n x0 x1 = some r → FnOk Tryz.prog 15 [str x0, sli 1 (List.map str x1)] [] (.tup [sli 3 (List.map L_tree_Node r.1), L_api_Fault r.2]) [] := by
 unfold m_parse_Expr
 refine fsD Tryz.func15 fun w S0 γ hγ => ?_
 apply z [2]
 refine o (al' 100) ?_
 refine o (al' 101) ?_
 apply z [1, 2, 30, 30]
 refine b fun r1 h2 => ?_
 refine o (cG (c_parse_begin _ h2) [] [(102, 50), (103, 70)] []) ?_
 apply z [30, 35, 35, 31, 34, 1, 5, 2, 32]
 refine s1 (bld (l := [i64 0, i64 0, i64 0, i64 0]) pl_28.h ti_28.h zr_api_Fault rfl rfl) ?_
 refine s1 (neA (p := (r1.2.2.2.2.2 : M_api_Fault)) (q := ((⟨0, 0, 0, 0⟩ : M_api_Fault) : M_api_Fault)) eq_28_2 rfl eg_28 rfl rfl rfl) ?_
 apply z [1]
 refine c ?_ ?_
 · apply z [5]
   refine sd ?_
   apply zd [[101]]
   refine dx [4] [100] (fun st mm ⟨a4, _⟩ ⟨g100, _⟩ => og (stB2 (ly2 := sli 3 (List.map L_tree_Node ([] : List M_tree_Node))) [] (by exact rfl) (g100.trans rfl) (by exact rfl) sh_42.h (by exact rfl) (by exact rfl) (by exact rfl) (a4.trans rfl) (.inr ⟨rfl, rfl, _, _, (g100.trans rfl)⟩) (kLm (k := 3) L_tree_Node))) ?_
   apply zd [[101]]
   refine de fol ?_
   apply z [4, 8, 10]
   exact rtD (rt [])
 apply z [9, 4, 2]
 refine s1 (mkC (l := [101, 100]) ⟨rfl, ⟨rfl, trivial⟩⟩ rfl) ?_
 refine sdf rfl fun gd3 us4 hg5 hc6 => ?_
 apply z [1, 2, 30]
 refine bPD [102, 103] c___parse_reader__expr (fun e => fun u hu => ?_) fun r7 h8 => ?_
 · refine b fun y9 h10 => ?_
   refine spt ?_
   refine lvP ?_
   refine lvD (lc := [0, 1]) (bs := [101, 100]) hg5 hc6 (c_parse_Expr_1_opan hu _ h10) (fun h => by cases h) set_pan ?_
   exact rt []
 refine o (cG (h8) [102, 103] [(104, 50), (105, 61)] []) ?_
 refine fz 104 [19] [] ?_
 apply z [34, 1, 2, 30]
 refine bPD [102, 105] c___parse_reader__over (fun e => fun u hu => ?_) fun r11 h12 => ?_
 · refine b fun y13 h14 => ?_
   refine spt ?_
   refine lvP ?_
   refine lvD (lc := [0, 1]) (bs := [101, 100]) hg5 hc6 (c_parse_Expr_1_opan hu _ h14) (fun h => by cases h) set_pan ?_
   exact rt []
 refine o (cG (h12) [102, 105] [] [102, 105]) ?_
 apply z [1, 2, 32]
 refine s1 (bld (l := [i64 0, i64 0, i64 0, i64 0]) pl_28.h ti_28.h zr_api_Fault rfl rfl) ?_
 apply z [34, 34, 1, 8]
 refine b fun y15 h16 => ?_
 refine lvR ?_
 refine lvD (lc := [0, 1]) (bs := [101, 100]) hg5 hc6 (c_parse_Expr_1_oret _ h16) (fun h => by cases h) set_ret ?_
 exact rt []
theorem c_tree_Arity {x0} : ∀ r, m_tree_Arity x0 = some r → FnOk Tryz.prog 82 [i64 x0] [] (i64 r) [] := by
 unfold m_tree_Arity
 refine fs Tryz.func82 fun w S0 γ hγ => ?_
 apply z [2, 31, 1, 5, 2, 30, 1, 7]
 refine sjq (fun s3 => [(2, i64 (0 : Int)), (3, i64 x0), (4, bl s3)]) (fun s3 => []) ?_ ?_
 · intro j1 hj2
   apply z [2, 41, 31, 1]
   refine c ?_ ?_
   · apply z [9, 4]
     exact sj (hj2 _) eI
   apply z [2, 41, 31, 1]
   refine c ?_ ?_
   · apply z [9, 4]
     exact sj (hj2 _) eI
   apply z [2, 41, 31, 1]
   refine c ?_ ?_
   · apply z [9, 4]
     exact sj (hj2 _) eI
   apply z [2, 41, 31, 1]
   refine c ?_ ?_
   · apply z [9, 4]
     exact sj (hj2 _) eI
   apply z [6, 41, 31, 1]
   exact sj (hj2 _) eI
 intro s3
 refine c ?_ ?_
 · apply z [2, 31, 1, 8, 12, 10]
   exact rt []
 refine sjq (fun s6 => [(2, i64 (0 : Int)), (3, i64 x0), (10, bl s6)]) (fun s6 => []) ?_ ?_
 · intro j4 hj5
   apply z [2, 41, 31, 1]
   refine c ?_ ?_
   · apply z [9, 4]
     exact sj (hj5 _) eI
   apply z [6, 41, 31, 1]
   exact sj (hj5 _) eI
 intro s6
 refine c ?_ ?_
 · apply z [2, 31, 1, 8, 12, 10]
   exact rt []
 refine sjq (fun s9 => [(2, i64 (0 : Int)), (13, bl s9)]) (fun s9 => []) ?_ ?_
 · intro j7 hj8
   apply z [2, 41, 31, 1]
   refine c ?_ ?_
   · apply z [9, 4]
     exact sj (hj8 _) eI
   apply z [2, 41, 31, 1]
   refine c ?_ ?_
   · apply z [9, 4]
     exact sj (hj8 _) eI
   apply z [2, 41, 31, 1]
   refine c ?_ ?_
   · apply z [9, 4]
     exact sj (hj8 _) eI
   apply z [6, 41, 31, 1]
   exact sj (hj8 _) eI
 intro s9
 refine c ?_ ?_
 · apply z [2, 31, 1, 8, 12, 10]
   exact rt []
 apply z [9, 11, 4, 2, 31, 1, 8]
 exact rt []
theorem c_tree_Wrong {x0} : ∀ r, m_tree_Wrong x0 = some r → FnOk Tryz.prog 80 [sli 3 (List.map L_tree_Node x0)] [] (i64 r) [] := by
 unfold m_tree_Wrong
 refine fs Tryz.func80 fun w S0 γ hγ => ?_
 apply z [2, 31, 1, 2, 31, 1, 5, 2, 30, 39, 30, 1, 7]
 refine srN (fun s20 => [(0, sli 3 (List.map L_tree_Node x0)), (2, i64 (0 : Int)), (3, i64 s20), (7, sli 3 (List.map L_tree_Node x0))]) (fun s20 => []) (rE eI) ?_ ?_
 · intro i21 x22 s20 hx23
   apply z [7, 2, 30, 43, 42]
   refine o (al' 100) ?_
   apply z [31, 34, 1, 2, 33, 36]
   refine cb (ca c_tree_Arity) fun r24 => ?_
   apply z [31, 1, 5]
   refine sjq (fun s28 => [(0, sli 3 (List.map L_tree_Node x0)), (2, i64 (0 : Int)), (3, i64 s20), (4, i64 (i21 : Int)), (6, i64 r24), (7, sli 3 (List.map L_tree_Node x0)), (8, i64 (x0.length : Int)), (9, i64 (i21 : Int)), (23, bl s28)]) (fun s28 => []) ?_ ?_
   · intro j26 hj27
     apply z [6, 30, 46, 30]
     refine sifd 19 rfl ?_ ?_
     · apply z [23, 23, 23, 38, 1]
       exact sj (hj27 _) (eR [])
     apply z [22, 22, 22, 37, 1]
     exact sj (hj27 _) (eR [])
   intro s28
   refine c ?_ ?_
   · apply z [2, 30, 31, 1, 8, 10, 12]
     refine sU ?_
     apply z [12, 10]
     exact rt []
   apply z [9, 4, 6, 30, 30, 49, 40, 31, 3, 11]
   exact sgo eI
 intro s29
 apply z [13, 4, 5, 2, 30, 56, 1]
 refine c ?_ ?_
 · apply z [2, 30, 39, 31, 1, 8, 10]
   exact rt []
 apply z [9, 4, 2, 31, 1, 8]
 exact rt []
theorem c_nat_Zero {n : Nat} {x0} : ∀ r, m_nat_Zero n x0 = some r → FnOk Tryz.prog 143 [sli 1 (List.map u32 x0)] [] (bl r) [] := by
 unfold m_nat_Zero
 refine fs Tryz.func143 fun w S0 γ hγ => ?_
 apply z [2, 31, 1, 2, 30]
 refine cb (ca c_nat_trim) fun r1 => ?_
 apply z [39, 41, 31, 1, 8]
 exact rt []
theorem c_limb_Div {x0} {x1} {x2} : ∀ r, m_limb_Div x0 x1 x2 = some r → FnOk Tryz.prog 161 [u32 x0, u32 x1, u32 x2] [] (.tup [u32 r.1, u32 r.2.1, bl r.2.2]) [] := by
 unfold m_limb_Div
 refine fs Tryz.func161 fun w S0 γ hγ => ?_
 apply z [2, 31, 31, 31, 1, 5, 2, 30, 30, 71, 1]
 refine c ?_ ?_
 · apply z [2, 31, 31, 31, 1, 8, 10]
   exact rt []
 apply z [9, 4, 2, 30, 59]
 refine s1 (shlU uk64 rfl rfl rfl (k64 (x := 32) rfl)) ?_
 apply z [30, 59, 64, 31, 1, 5]
 refine b fun _ h1 => ?_
 refine b fun _ h2 => ?_
 refine sd ?_
 apply zd [[], [], []]
 refine dx [19, 21] [] (fun st mm ⟨a19, a21, _⟩ _ => og (quoU uk64 (nzU h1) rfl (a19.trans rfl) (a21.trans rfl))) ?_
 apply zd [[], [], [], []]
 refine dx [24, 26] [] (fun st mm ⟨a24, a26, _⟩ _ => og (remU uk64 (nzU h2) rfl (a24.trans rfl) (a26.trans rfl))) ?_
 apply zd [[], [], [], []]
 refine de fol ?_
 apply z [4, 8]
 exact rt []
theorem c_quot_Word {n : Nat} {x0} {x1} : ∀ r, m_quot_Word n x0 x1 = some r → FnOk Tryz.prog 144 [sli 1 (List.map u32 x0), u32 x1] [] (.tup [sli 1 (List.map u32 r.1), u32 r.2.1, bl r.2.2]) [] := by
 unfold m_quot_Word
 refine fs Tryz.func144 fun w S0 γ hγ => ?_
 apply z [2]
 refine s1 (asg rfl (kLm (k := 1) u32)) ?_
 apply z [31, 31, 1, 5, 2, 30, 66, 1]
 refine c ?_ ?_
 · apply z [2]
   refine s1 (asg rfl (kLm (k := 1) u32)) ?_
   apply z [31, 31, 1, 8, 10]
   exact rt []
 apply z [9, 4, 2, 30, 39]
 refine b fun y1 h2 => ?_
 refine so (mks (y := 100) (f := u32) h2 Tryz.underlying67 ti_127.h zr_u32 rfl rfl rfl rfl rfl rfl) ?_
 apply z [31, 1, 5, 2, 30, 39, 49, 31, 1, 7]
 refine sloopE 0 (fun t => t) (fun s20 => [(0, sli 1 (List.map u32 x0)), (1, u32 x1), (4, .own 100), (5, u32 s20.2.1), (6, bl false), (7, i64 s20.2.2)]) (fun s20 => [(100, .sl 127 1 (List.map u32 s20.1))]) (fun t18 => [(4, .own 100), (5, u32 t18.2), (6, bl false)]) (fun t18 => [(100, .sl 127 1 (List.map u32 t18.1))]) (eR [(100, 100)]) ?_ ?_
 · intro hj19 s20
   apply z [5, 2, 30, 57, 1]
   refine c ?_ ?_
   · apply z [9, 4, 5, 7, 6, 30, 30, 30, 30, 30]
     refine b fun y21 h22 => ?_
     apply z [43, 42, 30]
     refine cb (ca c_limb_Div) fun r23 => ?_
     apply z [30, 35, 35, 35]
     refine b fun y25 h26 => ?_
     apply z [50, 53, 31, 3, 11, 4, 6, 30, 49, 31, 3]
     exact sgo (eR [(100, 100)])
   apply z [14, 15]
   exact su (sj (hj19 _) (eR [(100, 100)]))
 intro t18
 apply z [13, 4, 2, 30]
 refine b fun r27 h28 => ?_
 refine so (callL (em := [(101, .sl 127 1 (List.map u32 r27))]) (res' := .own 101) [100] [] [(101, 50)] [(101, 50)] rfl (c_nat_Norm _ h28) ⟨pls_map (f := u32) (fun _ => pl_u32) _, trivial⟩ (pl_own) ⟨.inr ⟨100, rfl, .inl ⟨rfl, .inl ⟨_, _, _, rfl, ifs_map (f := u32) (fun _ => if_u32) t18.1, rfl⟩⟩⟩, trivial⟩ (MiF.get (mi := []) trivial) trivial rfl ⟨rfl, trivial⟩ ⟨.inl rfl, trivial⟩ rfl ⟨.inl ⟨_, _, rfl, rfl, rc_sl (ifs_map (f := u32) (fun _ => if_u32) r27)⟩, trivial⟩ trivial ⟨⟨_, rfl⟩, trivial⟩ (rn_own rfl) rfl) ?_
 apply z [30, 31, 31, 31, 1, 8]
 refine fz 101 [4, 35] [] ?_
 exact rt []
theorem c_digits_nine {n : Nat} {x0} : ∀ r, m_digits_nine n x0 = some r → FnOk Tryz.prog 145 [u32 x0] [] (str r) [] := by
 unfold m_digits_nine
 refine fs Tryz.func145 fun w S0 γ hγ => ?_
 apply z [2, 31, 1, 2]
 refine o (al' 100) ?_
 apply z [1, 5, 2, 31, 1, 7]
 refine sloopE 0 (fun t => t) (fun s7 => [(0, u32 s7.1), (2, str ([] : List UInt8)), (3, .own 100), (4, i64 s7.2.2)]) (fun s7 => [(100, .bx 191 (L_A9_u8 s7.2.1))]) (fun t5 => [(2, str ([] : List UInt8)), (3, .own 100)]) (fun t5 => [(100, .bx 191 (L_A9_u8 t5))]) (eR [(100, 100)]) ?_ ?_
 · intro hj6 s7
   apply z [5, 2, 30, 57, 1]
   refine c ?_ ?_
   · apply z [9, 4, 5, 7, 2, 30, 30, 81, 61, 60]
     refine b fun y8 h9 => ?_
     refine s1 (ixAO Tryz.underlying191 ti_5.h (getI_dec (n := 9) rfl h9) (.inr ⟨rfl, rfl, _, _, rfl⟩) rfl rfl rfl) ?_
     refine so (stB2 (ly := .agg (List.map u8 ([s7.2.1.a0, s7.2.1.a1, s7.2.1.a2, s7.2.1.a3, s7.2.1.a4, s7.2.1.a5, s7.2.1.a6, s7.2.1.a7, s7.2.1.a8] : List Nat))) (ly2 := L_A9_u8 (ofl_A9_u8 (List.set ([s7.2.1.a0, s7.2.1.a1, s7.2.1.a2, s7.2.1.a3, s7.2.1.a4, s7.2.1.a5, s7.2.1.a6, s7.2.1.a7, s7.2.1.a8] : List Nat) (Int.toNat s7.2.2) (((48 + (s7.1 % 10)) % 4294967296) % 256)))) (ln := u8 (((48 + (s7.1 % 10)) % 4294967296) % 256)) [Int.toNat s7.2.2] (puA0 (f := u8) h9 (ofl_ok_A9_u8 _ (List.length_set.trans rfl))) rfl (goA0 (f := u8) (fun _ => rfl) h9) sh_5.h (by exact rfl) (by exact rfl) (by exact rfl) rfl (.inl rfl) rfl) ?_
     apply z [1, 6, 30, 80, 31, 3, 11, 4, 6, 30, 49, 31, 3]
     exact sgo (eR [(100, 100)])
   apply z [14, 15]
   exact su (sj (hj6 _) (eR [(100, 100)]))
 intro t5
 apply z [13, 4, 2]
 refine so (slA (f := u8) (xs := ([t5.a0, t5.a1, t5.a2, t5.a3, t5.a4, t5.a5, t5.a6, t5.a7, t5.a8] : List Nat)) Tryz.underlying191 ti_5.h rfl rfl rfl (fun _ => if_u8) (fun _ => rfl) rfl rfl) ?_
 refine sbn (F := (fun x => sli 1 (List.map u8 x))) 17 rfl fun z10 => ?_
 refine s1 (cvBS Tryz.underlying100 Tryz.underlying5 Tryz.underlying9 rfl rfl) ?_
 apply z [31, 1, 8]
 exact rt []
theorem c_digits_Text {n : Nat} {x0} : ∀ r, m_digits_Text n x0 = some r → FnOk Tryz.prog 116 [sli 1 (List.map u32 x0)] [] (str r) [] := by
 unfold m_digits_Text
 refine fs Tryz.func116 fun w S0 γ hγ => ?_
 apply z [2, 31, 1, 5, 2, 30]
 refine cb (ca c_nat_Zero) fun r1 => ?_
 apply z [1]
 refine c ?_ ?_
 · apply z [2, 31, 1, 8, 10]
   exact rt []
 apply z [9, 4, 2]
 refine so (asgN (y := 100) (E := 9) (k := 1) rfl rfl) ?_
 apply z [1, 5, 7]
 refine sloopE 0 (fun t => t) (fun s23 => [(0, sli 1 (List.map u32 s23.1)), (2, str ([] : List UInt8)), (3, .own 100)]) (fun s23 => [(100, .sl 9 1 (List.map str s23.2))]) (fun t21 => [(2, str ([] : List UInt8)), (3, .own 100)]) (fun t21 => [(100, .sl 9 1 (List.map str t21))]) (eR [(100, 100)]) ?_ ?_
 · intro hj22 s23
   apply z [5, 2, 30]
   refine cb (ca c_nat_Zero) fun r24 => ?_
   apply z [44, 1]
   refine c ?_ ?_
   · apply z [9, 4, 7, 2, 30]
     refine cb (ca c_quot_Word) fun r26 => ?_
     apply z [30, 35, 35, 35, 31, 31, 31, 1, 2, 30, 30]
     refine cb (ca c_digits_nine) fun r28 => ?_
     refine so (bsl (y := 101) (ls := List.map str ([r28] : List (List UInt8))) Tryz.underlying41 ti_9.h rfl rfl rfl rfl rfl ⟨rfl, rfl, (by exact rfl), (by exact rfl), trivial⟩ rfl rfl) ?_
     refine b fun y30 h31 => ?_
     refine o (app' 102) ?_
     apply z [31, 1, 6, 30, 31, 3, 11]
     exact sgo (eR [(100, 102)])
   apply z [14, 15]
   exact su (sj (hj22 _) (eR [(100, 100)]))
 intro t21
 apply z [13, 4, 2]
 refine so (alOw (y := 101) (ly := .agg [.por 101, .own 102]) [(102, 5, 1)] ti_102.h (zo_agg (zos_cons (c1 := [.pointer none]) zo_por (zos_cons (c1 := [.slice none 0 0]) (zo_own rfl) zos_nil))) ⟨rfl, trivial⟩ rfl rfl rfl) ?_
 apply z [1, 5, 2, 30, 55, 49, 31, 1, 7]
 refine sloopE 2 (fun t => t) (fun s44 => [(2, str ([] : List UInt8)), (3, .own 100), (7, .own 101), (8, i64 s44.2)]) (fun s44 => [(100, .sl 9 1 (List.map str t21)), (101, .bx 102 (.agg [.por 101, .own 102])), (102, .sl 5 1 (List.map ub s44.1))]) (fun t42 => [(2, str ([] : List UInt8)), (7, .own 101)]) (fun t42 => [(101, .bx 102 (.agg [.por 101, .own 102])), (102, .sl 5 1 (List.map ub t42))]) (eR [(100, 100), (101, 101), (102, 102)]) ?_ ?_
 · intro hj43 s44
   apply z [5, 2, 30, 57, 1]
   refine c ?_ ?_
   · apply z [9, 4, 5, 7, 6, 30, 30]
     refine b fun y45 h46 => ?_
     apply z [50, 51]
     refine b fun y47 h48 => ?_
     refine so (callG (em := [(103, .sl 5 1 (List.map ub y47)), (101, .bx 102 (.agg [.por 101, .own 103])), (102, .gone)]) (res' := .tup [i64 (y45.length : Int), nilI]) [(0, 101), (1, 102)] [(103, 52)] [(103, 52), (101, 0)] (ws_ok' h48) ⟨⟨_, rfl, rn_own rfl⟩, ⟨_, rfl, rn_id if_str⟩, trivial⟩ (MiF.get (mi := [(0, _), (1, _)]) ⟨⟨_, _, rfl, rfl, rc_bx (rn_agg (rns_cons (rn_por rfl) (rns_cons (rn_own rfl) rns_nil)))⟩, ⟨_, _, rfl, rfl, rc_sl (ifs_map (f := ub) (fun _ => if_ub) s44.1)⟩, trivial⟩) ⟨⟨_, rfl⟩, ⟨_, rfl⟩, trivial⟩ rfl ⟨rfl, trivial⟩ ⟨.inl rfl, .inr rfl, trivial⟩ rfl ⟨.inl ⟨_, _, rfl, rfl, rc_sl (ifs_map (f := ub) (fun _ => if_ub) y47)⟩, .inl ⟨_, _, rfl, rfl, rc_bx (rn_agg (rns_cons (rn_por rfl) (rns_cons (rn_own rfl) rns_nil)))⟩, .inr ⟨rfl, 1, .tail _ (.head _)⟩, trivial⟩ ⟨⟨_, rfl⟩, ⟨_, rfl⟩, trivial⟩ ⟨⟨_, rfl⟩, trivial⟩ (rn_tup (rns_cons (rn_id if_i64) (rns_cons (rn_id if_nilI) rns_nil))) rfl) ?_
     apply z [3, 11, 4, 6, 30, 49, 31, 3]
     exact sgo (eR [(100, 100), (101, 101), (102, 103)])
   apply z [14, 15]
   exact su (sj (hj43 _) (eR [(101, 101), (102, 102)]))
 intro t42
 apply z [13, 4, 2]
 refine so (strOp (id := 101) (id2 := 102) rfl rfl rfl rfl rfl) ?_
 refine cb (ca c_strings_TrimLeft) fun r49 => ?_
 apply z [31, 1, 8]
 exact rt []
theorem c_digits_Len {n : Nat} {x0} : ∀ r, m_digits_Len n x0 = some r → FnOk Tryz.prog 142 [sli 1 (List.map u32 x0)] [] (i64 r) [] := by
 unfold m_digits_Len
 refine fs Tryz.func142 fun w S0 γ hγ => ?_
 apply z [2, 31, 1, 2, 30]
 refine cb (ca c_digits_Text) fun r1 => ?_
 apply z [54, 31, 1, 8]
 exact rt []
theorem c_check_number {n : Nat} {x0} : ∀ r, m_check_number n x0 = some r → FnOk Tryz.prog 114 [sli 1 (List.map u32 x0)] [] (bl r) [] := by
 unfold m_check_number
 refine fs Tryz.func114 fun w S0 γ hγ => ?_
 apply z [2, 31, 1]
 refine sjq (fun s7 => [(2, bl s7)]) (fun s7 => []) ?_ ?_
 · intro j5 hj6
   apply z [6, 30]
   refine b fun r8 h9 => ?_
   refine o (cG (c_nat_Norm _ h9) [] [(100, 50)] []) ?_
   apply z [55, 30, 39, 41, 30]
   refine sifd 9 rfl ?_ ?_
   · apply z [22]
     refine b fun r10 h11 => ?_
     refine og' (c0 (c_digits_Len _ h11)) ?_
     apply z [22, 38, 31, 1]
     exact sj (hj6 _) (eR [])
   apply z [23, 23, 23, 37, 31, 1]
   exact sj (hj6 _) (eR [])
 intro s7
 apply z [8]
 exact rt []
theorem c_check_below {x0} {x1} : ∀ r, m_check_below x0 x1 = some r → FnOk Tryz.prog 115 [i64 x0, i64 x1] [] (bl r) [] := by
 unfold m_check_below
 refine fs Tryz.func115 fun w S0 γ hγ => ?_
 apply z [2, 31, 1]
 refine sjq (fun s3 => [(4, bl s3)]) (fun s3 => []) ?_ ?_
 · intro j1 hj2
   apply z [6, 30, 57, 30]
   refine sifd 7 rfl ?_ ?_
   · apply z [22, 22, 22, 38, 31, 1]
     exact sj (hj2 _) eI
   apply z [23, 23, 23, 37, 31, 1]
   exact sj (hj2 _) eI
 intro s3
 apply z [8]
 exact rt []
theorem c_check_Node {n : Nat} {x0} {x1} {x2} {x3} : ∀ r, m_check_Node n x0 x1 x2 x3 = some r → FnOk Tryz.prog 81 [L_tree_Node x0, i64 x1, i64 x2, i64 x3] [] (bl r) [] := by
 unfold m_check_Node
 refine fs Tryz.func81 fun w S0 γ hγ => ?_
 apply z [2]
 refine o (bx' 100) ?_
 apply z [31, 1, 5]
 refine sjq (fun s3 => [(1, i64 x1), (2, i64 x2), (3, i64 x3), (4, .own 100), (8, bl false), (17, bl s3)]) (fun s3 => [(100, .bx 69 (L_tree_Node x0))]) ?_ ?_
 · intro j1 hj2
   apply z [6, 33, 36, 56, 30]
   refine sifd 12 rfl ?_ ?_
   · apply z [22, 22, 22, 22, 38, 1]
     exact sj (hj2 _) (eR [(100, 100)])
   apply z [23, 23, 23, 23, 37, 1]
   exact sj (hj2 _) (eR [(100, 100)])
 intro s3
 refine c ?_ ?_
 · apply z [2, 31, 1, 8, 10]
   exact rt []
 apply z [9, 4, 5, 2, 33, 36, 1, 7, 2, 41, 31, 1]
 refine c ?_ ?_
 · refine sjq (fun s8 => [(4, .own 100), (8, bl s8)]) (fun s8 => [(100, .bx 69 (L_tree_Node x0))]) ?_ ?_
   · intro j6 hj7
     apply z [6, 33, 36, 41, 30]
     refine sifd 25 rfl ?_ ?_
     · apply z [22, 22]
       refine b fun r9 h10 => ?_
       refine og' (c0 (c_check_number _ h10)) ?_
       apply z [38, 31, 1]
       exact sj (hj7 _) (eR [(100, 100)])
     apply z [23, 23, 23, 37, 31, 1]
     exact sj (hj7 _) (eR [(100, 100)])
   intro s8
   apply z [8, 12, 10]
   exact rt []
 apply z [2, 41, 31, 1]
 refine c ?_ ?_
 · apply z [2, 33, 36, 30]
   refine cb (ca c_check_below) fun r11 => ?_
   apply z [31, 1, 8, 12, 10]
   exact rt []
 apply z [2, 41, 31, 1]
 refine c ?_ ?_
 · apply z [2, 33, 36, 30]
   refine cb (ca c_check_below) fun r13 => ?_
   apply z [31, 1, 8, 12, 10]
   exact rt []
 apply z [2, 41, 31, 1]
 refine c ?_ ?_
 · apply z [2, 33, 36, 30]
   refine cb (ca c_check_below) fun r15 => ?_
   apply z [31, 1, 8, 12, 10]
   exact rt []
 apply z [2, 41, 31, 1]
 refine c ?_ ?_
 · refine sjq (fun s19 => [(4, .own 100), (8, bl s19)]) (fun s19 => [(100, .bx 69 (L_tree_Node x0))]) ?_ ?_
   · intro j17 hj18
     apply z [6, 33, 36, 57, 30]
     refine sifd 53 rfl ?_ ?_
     · apply z [22, 22, 22, 38, 31, 1]
       exact sj (hj18 _) (eR [(100, 100)])
     apply z [23, 23, 23, 37, 31, 1]
     exact sj (hj18 _) (eR [(100, 100)])
   intro s19
   apply z [8, 12, 10]
   exact rt []
 apply z [9, 11, 4]
 refine sjq (fun s24 => [(8, bl s24)]) (fun s24 => []) ?_ ?_
 · intro j22 hj23
   apply z [6, 33, 36, 41, 30]
   refine sifd 61 rfl ?_ ?_
   · apply z [22, 22]
     refine b fun r25 h26 => ?_
     refine og' (c0 (c_tree_Arity _ h26)) ?_
     apply z [22, 38, 31, 1]
     exact sj (hj23 _) (eR [])
   apply z [23, 23, 23, 23, 37, 31, 1]
   exact sj (hj23 _) (eR [])
 intro s24
 apply z [8]
 exact rt []
theorem c_check_Place {n : Nat} {x0} {x1} {x2} {x3} : ∀ r, m_check_Place n x0 x1 x2 x3 = some r → FnOk Tryz.prog 47 [sli 3 (List.map L_tree_Node x0), i64 x1, i64 x2, i64 x3] [] (i64 r) [] := by
 unfold m_check_Place
 refine fs Tryz.func47 fun w S0 γ hγ => ?_
 apply z [2, 31, 1, 2, 30]
 refine cb (ca c_tree_Wrong) fun r1 => ?_
 apply z [31, 1, 5, 2, 30, 39, 30, 1, 7]
 refine srN (fun s15 => [(1, i64 x1), (2, i64 x2), (3, i64 x3), (8, i64 (0 : Int)), (9, i64 r1), (14, sli 3 (List.map L_tree_Node x0))]) (fun s15 => []) (rE eI) ?_ ?_
 · intro i16 x17 s15 hx18
   apply z [7, 2, 30, 43, 42]
   refine o (al' 100) ?_
   apply z [31, 34, 1]
   refine sjq (fun s23 => [(1, i64 x1), (2, i64 x2), (3, i64 x3), (8, i64 (0 : Int)), (9, i64 r1), (10, i64 (i16 : Int)), (14, sli 3 (List.map L_tree_Node x0)), (15, i64 (x0.length : Int)), (16, i64 (i16 : Int)), (31, bl s23)]) (fun s23 => []) ?_ ?_
   · intro j21 hj22
     apply z [6, 30, 30, 41, 30]
     refine sifd 24 rfl ?_ ?_
     · apply z [23, 23, 23, 23, 23, 23, 38, 1]
       exact sj (hj22 _) (eR [])
     apply z [22, 22, 22, 22]
     refine b fun r24 h25 => ?_
     refine og' (c0 (c_check_Node _ h25)) ?_
     apply z [22, 37, 1]
     exact sj (hj22 _) (eR [])
   intro s23
   refine c ?_ ?_
   · apply z [2, 30, 31, 1, 8, 12]
     refine sU ?_
     apply z [12, 10]
     exact rt []
   apply z [9, 11]
   exact sgo eI
 intro s26
 apply z [13, 4, 2, 30, 31, 1, 8]
 exact rt []
theorem c_show_rank {x0} : ∀ r, m_show_rank x0 = some r → FnOk Tryz.prog 52 [i64 x0] [] (i64 r) [] := by
 unfold m_show_rank
 refine fs Tryz.func52 fun w S0 γ hγ => ?_
 apply z [2, 31, 1, 5, 2, 30, 1, 7]
 refine sjq (fun s3 => [(2, i64 (0 : Int)), (3, i64 x0), (4, bl s3)]) (fun s3 => []) ?_ ?_
 · intro j1 hj2
   apply z [2, 41, 31, 1]
   refine c ?_ ?_
   · apply z [9, 4]
     exact sj (hj2 _) eI
   apply z [6, 41, 31, 1]
   exact sj (hj2 _) eI
 intro s3
 refine c ?_ ?_
 · apply z [2, 31, 1, 8, 12, 10]
   exact rt []
 refine sjq (fun s6 => [(2, i64 (0 : Int)), (3, i64 x0), (7, bl s6)]) (fun s6 => []) ?_ ?_
 · intro j4 hj5
   apply z [2, 41, 31, 1]
   refine c ?_ ?_
   · apply z [9, 4]
     exact sj (hj5 _) eI
   apply z [6, 41, 31, 1]
   exact sj (hj5 _) eI
 intro s6
 refine c ?_ ?_
 · apply z [2, 31, 1, 8, 12, 10]
   exact rt []
 apply z [2, 41, 31, 1]
 refine c ?_ ?_
 · apply z [2, 31, 1, 8, 12, 10]
   exact rt []
 apply z [2, 41, 31, 1]
 refine c ?_ ?_
 · apply z [2, 31, 1, 8, 12, 10]
   exact rt []
 apply z [9, 11, 4, 2, 31, 1, 8]
 exact rt []
theorem c_show_leaf {n : Nat} {x0} {x1} : ∀ r, m_show_leaf n x0 x1 = some r → FnOk Tryz.prog 83 [L_tree_Node x0, sli 1 (List.map str x1)] [] (str r) [] := by
 unfold m_show_leaf
 refine fs Tryz.func83 fun w S0 γ hγ => ?_
 apply z [2]
 refine o (bx' 100) ?_
 apply z [31, 1, 5, 2, 33, 36, 1, 7, 2, 41, 31, 1]
 refine c ?_ ?_
 · apply z [2, 33, 36]
   refine cb (ca c_digits_Text) fun r1 => ?_
   apply z [31, 1, 8, 12, 10]
   exact rt []
 apply z [2, 41, 31, 1]
 refine c ?_ ?_
 · apply z [2, 33, 36]
   refine cb (ca c_strconv_Itoa) fun r3 => ?_
   refine b fun y5 h6 => ?_
   apply z [91]
   refine b fun y7 h8 => ?_
   apply z [91, 31, 1, 8, 12, 10]
   exact rt []
 apply z [2, 41, 31, 1]
 refine c ?_ ?_
 · apply z [2, 33, 36]
   refine cb (ca c_strconv_Itoa) fun r9 => ?_
   refine b fun y11 h12 => ?_
   apply z [91]
   refine b fun y13 h14 => ?_
   apply z [91, 31, 1, 8, 12, 10]
   exact rt []
 apply z [2, 41, 31, 1]
 refine c ?_ ?_
 · apply z [2, 30, 33, 36]
   refine b fun y15 h16 => ?_
   apply z [43, 42, 31, 1, 8, 12, 10]
   exact rt []
 apply z [9, 11, 4, 2, 31, 1, 8]
 exact rt []
theorem c__show_piece__within {x0} {x1} : ∀ r, m__show_piece__within x0 x1 = some r → FnOk Tryz.prog 84 [L_show_piece x0, i64 x1] [] (str r) [] := by
 unfold m__show_piece__within
 refine fs Tryz.func84 fun w S0 γ hγ => ?_
 apply z [2]
 refine o (bx' 100) ?_
 apply z [31, 1, 5, 2, 33, 36, 30, 46, 1]
 refine c ?_ ?_
 · apply z [2, 33, 36]
   refine b fun y1 h2 => ?_
   apply z [91]
   refine b fun y3 h4 => ?_
   apply z [91, 31, 1, 8, 10]
   exact rt []
 apply z [9, 4, 2, 33, 36, 31, 1, 8]
 exact rt []
theorem c_show_sign {x0} : ∀ r, m_show_sign x0 = some r → FnOk Tryz.prog 86 [i64 x0] [] (str r) [] := by
 unfold m_show_sign
 refine fs Tryz.func86 fun w S0 γ hγ => ?_
 apply z [2, 31, 1, 5, 2, 30, 1, 7, 2, 41, 31, 1]
 refine c ?_ ?_
 · apply z [2, 31, 1, 8, 12, 10]
   exact rt []
 apply z [2, 41, 31, 1]
 refine c ?_ ?_
 · apply z [2, 31, 1, 8, 12, 10]
   exact rt []
 apply z [2, 41, 31, 1]
 refine c ?_ ?_
 · apply z [2, 31, 1, 8, 12, 10]
   exact rt []
 apply z [9, 11, 4, 2, 31, 1, 8]
 exact rt []
theorem c_show_write {n : Nat} {x0} {x1} : ∀ r, m_show_write n x0 x1 = some r → FnOk Tryz.prog 48 [sli 3 (List.map L_tree_Node x0), sli 1 (List.map str x1)] [] (str r) [] := by
 unfold m_show_write
 refine fs Tryz.func48 fun w S0 γ hγ => ?_
 apply z [2, 31, 1, 2]
 refine so (asgN (y := 100) (E := 133) (k := 2) rfl rfl) ?_
 apply z [1, 5, 2, 30, 39, 30, 1, 7]
 refine srN (fun s166 => [(1, sli 1 (List.map str x1)), (4, str ([] : List UInt8)), (5, .own 100), (11, sli 3 (List.map L_tree_Node x0))]) (fun s166 => [(100, .sl 133 2 (List.map L_show_piece s166))]) (rE (eR [(100, 100)])) ?_ ?_
 · intro i167 x168 s166 hx169
   apply z [7, 2, 43, 42]
   refine o (al' 101) ?_
   apply z [34, 1, 2, 30, 55, 31, 1, 2, 33, 36]
   refine cb (ca c_show_rank) fun r170 => ?_
   apply z [31, 1, 2, 31, 1]
   refine sjq (fun s208 => [(1, sli 1 (List.map str x1)), (4, str ([] : List UInt8)), (5, .own 100), (8, i64 s208.1), (9, i64 r170), (10, str s208.2), (11, sli 3 (List.map L_tree_Node x0)), (12, i64 (x0.length : Int)), (13, i64 (i167 : Int))]) (fun s208 => [(100, .sl 133 2 (List.map L_show_piece s166))]) ?_ ?_
   · intro j206 hj207
     apply z [2, 33, 36]
     refine cb (ca c_tree_Arity) fun r209 => ?_
     apply z [1, 7, 2, 41, 31, 1]
     refine c ?_ ?_
     · apply z [6, 32, 30]
       refine cb (ca c_show_leaf) fun r211 => ?_
       apply z [31, 3, 11, 4]
       exact sj (hj207 _) (eR [(100, 100)])
     apply z [2, 41, 31, 1]
     refine c ?_ ?_
     · apply z [2, 30, 49, 31, 1, 2, 33, 36, 41, 1]
       refine c ?_ ?_
       · apply z [6, 30, 30]
         refine b fun y213 h214 => ?_
         apply z [50, 51]
         refine cb (ca c__show_piece__within) fun r215 => ?_
         refine b fun y217 h218 => ?_
         apply z [91, 31, 3, 11, 4]
         exact sj (hj207 _) (eR [(100, 100)])
       refine b fun y219 h220 => ?_
       refine b fun r221 h222 => ?_
       refine b fun y223 h224 => ?_
       refine b fun r225 h226 => ?_
       refine b fun y227 h228 => ?_
       refine sd ?_
       apply zd [[], [], [100], [100]]
       refine dd [] (fun _ _ _ _ => c0 (c__show_piece__within _ h222)) ?_
       apply zd [[], [101], [101]]
       refine dd [] (fun _ _ _ _ => c0 (c_strconv_Itoa _ h226)) ?_
       apply zd [[], []]
       refine de fol ?_
       apply z [11, 4]
       exact sj (hj207 _) (eR [(100, 100)])
     apply z [2, 30, 49, 31, 1]
     refine b fun y229 h230 => ?_
     refine b fun r231 h232 => ?_
     refine b fun r233 h234 => ?_
     refine b fun y235 h236 => ?_
     refine b fun y237 h238 => ?_
     refine b fun r239 h240 => ?_
     refine b fun y241 h242 => ?_
     refine sd ?_
     apply zd [[], [], [100], [100], []]
     refine dd [] (fun _ _ _ _ => c0 (c__show_piece__within _ h232)) ?_
     apply zd [[101], [101]]
     refine dd [] (fun _ _ _ _ => c0 (c_show_sign _ h234)) ?_
     apply zd [[], [], [], [], [100], [100], [], []]
     refine dd [] (fun _ _ _ _ => c0 (c__show_piece__within _ h240)) ?_
     apply zd [[], []]
     refine de fol ?_
     apply z [11, 4]
     exact sj (hj207 _) (eR [(100, 100)])
   intro s208
   apply z [6, 30, 30]
   refine b fun y243 h244 => ?_
   refine so (slO (y := 102) (f := L_show_piece) h244 rfl Tryz.underlying130 ti_133.h rfl rfl (bnd rfl) rfl) ?_
   apply z [30, 30]
   refine s1 (bld (l := [str s208.2, i64 r170]) pl_133.h ti_133.h zr_show_piece ⟨_, _, _, rfl, rfl, rfl, rfl, (szk (k := 1) rfl rfl), ⟨_, _, _, rfl, rfl, rfl, rfl, (szk (k := 1) rfl rfl), rfl⟩⟩ rfl) ?_
   refine so (bsl (y := 103) (ls := List.map L_show_piece ([(⟨s208.2, r170⟩ : M_show_piece)] : List M_show_piece)) Tryz.underlying130 ti_133.h rfl rfl rfl rfl rfl ⟨rfl, rfl, (by exact rfl), (by exact rfl), trivial⟩ rfl rfl) ?_
   refine b fun y245 h246 => ?_
   refine o (app' 104) ?_
   apply z [31, 3, 11]
   exact sgo (eR [(100, 104)])
 intro s247
 apply z [13, 4, 2, 30]
 refine b fun y248 h249 => ?_
 apply z [50, 45, 52, 31, 1, 8]
 exact rt []
theorem c_show_Expr {n : Nat} {x0} {x1} : ∀ r, m_show_Expr n x0 x1 = some r → FnOk Tryz.prog 22 [sli 3 (List.map L_tree_Node x0), sli 1 (List.map str x1)] [] (.tup [str r.1, bl r.2]) [] := by
 unfold m_show_Expr
 refine fs Tryz.func22 fun w S0 γ hγ => ?_
 apply z [2, 31, 31, 1, 5, 2, 30, 30, 39]
 refine cb (ca c_check_Place) fun r1 => ?_
 apply z [57, 1]
 refine c ?_ ?_
 · apply z [2, 31, 31, 1, 8, 10]
   exact rt []
 apply z [9, 4, 2, 30, 30]
 refine cb (ca c_show_write) fun r3 => ?_
 apply z [31, 31, 1, 8]
 exact rt []
theorem c_retrospectlaw20_works {n : Nat}  : ∀ r, m_retrospectlaw20_works n  = some r → FnOk Tryz.prog 20 [] [] (bl r) [] := by
 unfold m_retrospectlaw20_works
 refine fs Tryz.func20 fun w S0 γ hγ => ?_
 apply z [2, 31, 1, 2]
 refine cb (ca c_parse_Expr) fun r1 => ?_
 apply z [30, 35, 35]
 refine o (al' 100) ?_
 apply z [31, 34, 1, 2]
 refine cb (ca c_parse_Expr) fun r3 => ?_
 apply z [30, 35, 35]
 refine o (al' 101) ?_
 apply z [31, 34, 1, 2]
 refine cb (ca c_parse_Expr) fun r5 => ?_
 apply z [30, 35, 35]
 refine o (al' 102) ?_
 apply z [31, 34, 1, 2, 30]
 refine cb (ca c_show_Expr) fun r7 => ?_
 apply z [30, 35, 35, 31, 31, 1, 2, 30]
 refine cb (ca c_show_Expr) fun r9 => ?_
 apply z [30, 35, 35, 31, 31, 1, 2, 30]
 refine cb (ca c_show_Expr) fun r11 => ?_
 apply z [30, 35, 35, 31, 31, 1]
 refine sjq (fun s16 => [(0, bl s16)]) (fun s16 => []) ?_ ?_
 · intro j14 hj15
   apply z [6, 32]
   refine s1 (bld (l := [i64 0, i64 0, i64 0, i64 0]) pl_28.h ti_28.h zr_api_Fault rfl rfl) ?_
   refine s1 (eqA (p := (r1.2 : M_api_Fault)) (q := ((⟨0, 0, 0, 0⟩ : M_api_Fault) : M_api_Fault)) eq_28_2 rfl eg_28 rfl rfl rfl) ?_
   apply z [30]
   refine sifd 43 rfl ?_ ?_
   · apply z [22]
     refine sg 43 rfl rfl (bld (l := [i64 0, i64 0, i64 0, i64 0]) pl_28.h ti_28.h zr_api_Fault rfl rfl) ?_
     refine sg 43 rfl rfl (eqA (p := (r3.2 : M_api_Fault)) (q := ((⟨0, 0, 0, 0⟩ : M_api_Fault) : M_api_Fault)) eq_28_2 rfl eg_28 rfl rfl rfl) ?_
     apply z [38, 30]
     refine sifd 48 rfl ?_ ?_
     · apply z [22]
       refine sg 48 rfl rfl (bld (l := [i64 0, i64 0, i64 0, i64 0]) pl_28.h ti_28.h zr_api_Fault rfl rfl) ?_
       refine sg 48 rfl rfl (eqA (p := (r5.2 : M_api_Fault)) (q := ((⟨0, 0, 0, 0⟩ : M_api_Fault) : M_api_Fault)) eq_28_2 rfl eg_28 rfl rfl rfl) ?_
       apply z [38, 30]
       refine sifd 53 rfl ?_ ?_
       · apply z [22, 38, 30]
         refine sifd 56 rfl ?_ ?_
         · apply z [22, 38, 30]
           refine sifd 59 rfl ?_ ?_
           · apply z [22, 38, 30]
             refine sifd 62 rfl ?_ ?_
             · apply z [22, 22]
               refine sbn (F := bl) 64 rfl fun z17 => ?_
               apply z [38, 30]
               refine sifd 66 rfl ?_ ?_
               · apply z [22, 22, 38, 30]
                 refine sifd 70 rfl ?_ ?_
                 · apply z [22, 22, 38, 31, 1]
                   exact sj (hj15 _) (eR [])
                 apply z [23, 23, 37, 31, 1]
                 exact sj (hj15 _) (eR [])
               apply z [23, 23, 37, 30, 23, 23, 37, 31, 1]
               exact sj (hj15 _) (eR [])
             apply z [23, 23, 37, 30, 23, 23, 37, 30, 23, 23, 37, 31, 1]
             exact sj (hj15 _) (eR [])
           apply z [23, 37, 30, 23, 23, 37, 30, 23, 23, 37, 30, 23, 23, 37, 31, 1]
           exact sj (hj15 _) (eR [])
         apply z [23, 37, 30, 23, 37, 30, 23, 23, 37, 30, 23, 23, 37, 30, 23, 23, 37, 31, 1]
         exact sj (hj15 _) (eR [])
       apply z [23, 37, 30, 23, 37, 30, 23, 37, 30, 23, 23, 37, 30, 23, 23, 37, 30, 23, 23, 37, 31, 1]
       exact sj (hj15 _) (eR [])
     apply z [23, 23, 23, 37, 30, 23, 37, 30, 23, 37, 30, 23, 37, 30, 23, 23, 37, 30, 23, 23, 37, 30, 23, 23, 37, 31, 1]
     exact sj (hj15 _) (eR [])
   apply z [23, 23, 23, 37, 30, 23, 23, 23, 37, 30, 23, 37, 30, 23, 37, 30, 23, 37, 30, 23, 23, 37, 30, 23, 23, 37, 30, 23, 23, 37, 31, 1]
   exact sj (hj15 _) (eR [])
 intro s16
 apply z [8]
 exact rt []
end Go.Proofs.YtpomhkkhdojpiaaGreatDoor
