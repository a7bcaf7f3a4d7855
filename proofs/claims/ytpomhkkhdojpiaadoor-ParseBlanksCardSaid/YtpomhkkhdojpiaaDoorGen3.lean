import Derived.Test.YtpomhkkhdojpiaaDoorGen2
set_option maxRecDepth 100000
set_option maxHeartbeats 4000000
namespace Go.Proofs.YtpomhkkhdojpiaaDoor
open Go Go.RowKit
theorem c___parse_reader__chain_o1___parse_reader__term {me___parse_reader__expr : (List M_lex_Word) → Int → Int → Int → (List (List UInt8)) → Option (Except M_api_Fault ((List M_tree_Node) × (List M_lex_Word) × Int × Int × Int × (List (List UInt8))))} (he___parse_reader__expr : ∀ {x0_words : (List M_lex_Word)} {x0_at_ : Int} {x0_end_ : Int} {x0_deep : Int} {x0_names : (List (List UInt8))}, ∀ r, me___parse_reader__expr x0_words x0_at_ x0_end_ x0_deep x0_names = some r → FnR Tryd.prog 23 [.own 0] [(0, .bx 70 (.agg [sli 3 (List.map L_lex_Word x0_words), i64 x0_at_, i64 x0_end_, i64 x0_deep, .own 1])), (1, .sl 9 1 (List.map str x0_names))] 25 L_api_Fault (fun r => .own 50) (fun r => [(0, .bx 70 (.agg [sli 3 (List.map L_lex_Word r.2.1), i64 r.2.2.1, i64 r.2.2.2.1, i64 r.2.2.2.2.1, .own 61])), (1, .gone), (50, .sl 44 3 (List.map L_tree_Node r.1)), (61, .sl 9 1 (List.map str r.2.2.2.2.2))]) r) {n : Nat} {x0_words} {x0_at_} {x0_end_} {x0_deep} {x0_names} {x2} {x3} {x4} {x5} : ∀ r, m___parse_reader__chain_o1___parse_reader__term me___parse_reader__expr n x0_words x0_at_ x0_end_ x0_deep x0_names x2 x3 x4 x5 = some r → FnR Tryd.prog 38 [.own 0, .bnd 39 [.own 0], str x2, str x3, i64 x4, i64 x5] [(0, .bx 70 (.agg [sli 3 (List.map L_lex_Word x0_words), i64 x0_at_, i64 x0_end_, i64 x0_deep, .own 1])), (1, .sl 9 1 (List.map str x0_names))] 25 L_api_Fault (fun r => .own 50) (fun r => [(0, .bx 70 (.agg [sli 3 (List.map L_lex_Word r.2.1), i64 r.2.2.1, i64 r.2.2.2.1, i64 r.2.2.2.2.1, .own 61])), (1, .gone), (50, .sl 44 3 (List.map L_tree_Node r.1)), (61, .sl 9 1 (List.map str r.2.2.2.2.2))]) r := by
 unfold m___parse_reader__chain_o1___parse_reader__term
 refine fsP Tryd.func38 fun w S0 γ hγ => ?_
 apply z [2]
 refine s1 (asg rfl (kLm (k := 3) L_tree_Node)) ?_
 apply z [1, 2, 30]
 refine bPB (lb := [_]) (la := []) [0, 1] (c___parse_reader__term @he___parse_reader__expr) rfl rfl (rns_cons (rn_own rfl) (rns_nil)) fun r1 h2 => ?_
 refine so (callB (lb := [_]) (la := []) (em := [(100, .sl 44 3 (List.map L_tree_Node r1.1)), (1, .gone), (101, .sl 9 1 (List.map str r1.2.2.2.2.2)), (0, .bx 70 (.agg [sli 3 (List.map L_lex_Word r1.2.1), i64 r1.2.2.1, i64 r1.2.2.2.1, i64 r1.2.2.2.2.1, .own 101]))]) (res' := .own 100) [(0, 0), (1, 1)] [(100, 50), (101, 61)] [(100, 50), (101, 61), (0, 0)] rfl (h2) rfl (rns_cons (rn_own rfl) (rns_nil)) trivial (MiF.get (mi := [(0, _), (1, _)]) ⟨⟨_, _, rfl, rfl, rc_bx (rn_agg (rns_cons (rn_id if_sli) (rns_cons (rn_id if_i64) (rns_cons (rn_id if_i64) (rns_cons (rn_id if_i64) (rns_cons (rn_own rfl) (rns_nil)))))))⟩, ⟨_, _, rfl, rfl, rc_sl (ifs_map (f := str) (fun _ => if_str) x0_names)⟩, trivial⟩) ⟨⟨_, rfl⟩, ⟨_, rfl⟩, trivial⟩ rfl ⟨rfl, rfl, trivial⟩ ⟨.inl rfl, .inl rfl, .inr rfl, trivial⟩ rfl ⟨.inl ⟨_, _, rfl, rfl, rc_sl (ifs_map (f := L_tree_Node) (fun _ => if_L_tree_Node) r1.1)⟩, .inr ⟨rfl, 1, .tail _ (.head _)⟩, .inl ⟨_, _, rfl, rfl, rc_sl (ifs_map (f := str) (fun _ => if_str) r1.2.2.2.2.2)⟩, .inl ⟨_, _, rfl, rfl, rc_bx (rn_agg (rns_cons (rn_id if_sli) (rns_cons (rn_id if_i64) (rns_cons (rn_id if_i64) (rns_cons (rn_id if_i64) (rns_cons (rn_own rfl) (rns_nil)))))))⟩, trivial⟩ ⟨⟨_, rfl⟩, ⟨_, rfl⟩, trivial⟩ ⟨⟨_, rfl⟩, ⟨_, rfl⟩, trivial⟩ (rn_own rfl) rfl) ?_
 apply z [31, 1, 7]
 refine sloop0 (fun s41 => [(0, .own 0), (1, .bnd 39 [.own 0]), (2, str x2), (3, str x3), (4, i64 x4), (5, i64 x5), (12, sli 3 (List.map L_tree_Node ([] : List M_tree_Node))), (13, .own 100)]) (fun s41 => [(1, .gone), (0, .bx 70 (.agg [sli 3 (List.map L_lex_Word s41.1), i64 s41.2.1, i64 s41.2.2.1, i64 s41.2.2.2.1, .own 101])), (101, .sl 9 1 (List.map str s41.2.2.2.2.1)), (100, .sl 44 3 (List.map L_tree_Node s41.2.2.2.2.2))]) (eR [(1, 1), (0, 0), (101, 101), (100, 100)]) ?_
 intro s41
 apply z [7, 2, 31, 1]
 refine sjq (fun s48 => [(0, .own 0), (1, .bnd 39 [.own 0]), (2, str x2), (3, str x3), (4, i64 x4), (5, i64 x5), (12, sli 3 (List.map L_tree_Node ([] : List M_tree_Node))), (13, .own 100), (14, i64 s48.2.2.2.2)]) (fun s48 => [(1, .gone), (0, .bx 70 (.agg [sli 3 (List.map L_lex_Word s48.1), i64 s48.2.1, i64 s48.2.2.1, i64 s48.2.2.2.1, .own 101])), (101, .sl 9 1 (List.map str s41.2.2.2.2.1)), (100, .sl 44 3 (List.map L_tree_Node s41.2.2.2.2.2))]) ?_ ?_
 · intro j46 hj47
   apply z [7, 2, 30, 30]
   refine b fun r49 h50 => ?_
   refine o (cG (c___parse_reader__has _ h50) [0, 101] [] [101]) ?_
   apply z [31, 1]
   refine c ?_ ?_
   · apply z [6, 30, 31, 3, 11, 4]
     exact sj (hj47 _) (eR [(1, 1), (0, 0), (101, 101), (100, 100)])
   apply z [2, 30, 30]
   refine b fun r51 h52 => ?_
   refine o (cG (c___parse_reader__has _ h52) [0, 101] [] [101]) ?_
   apply z [31, 1]
   refine c ?_ ?_
   · apply z [6, 30, 31, 3, 11, 4]
     exact sj (hj47 _) (eR [(1, 1), (0, 0), (101, 101), (100, 100)])
   apply z [2, 30, 31, 1, 8, 12, 10, 12]
   refine sU ?_
   apply z [12]
   exact rtR (rt [(0, 0), (1, 1), (50, 100), (61, 101)])
 intro s48
 apply z [6, 30, 30]
 refine bPB (lb := [_]) (la := []) [0, 101] (c___parse_reader__term @he___parse_reader__expr) rfl rfl (rns_cons (rn_own rfl) (rns_nil)) fun r53 h54 => ?_
 refine so (callB (lb := [_]) (la := []) (em := [(102, .sl 44 3 (List.map L_tree_Node r53.1)), (101, .gone), (103, .sl 9 1 (List.map str r53.2.2.2.2.2)), (0, .bx 70 (.agg [sli 3 (List.map L_lex_Word r53.2.1), i64 r53.2.2.1, i64 r53.2.2.2.1, i64 r53.2.2.2.2.1, .own 103]))]) (res' := .own 102) [(0, 0), (1, 101)] [(102, 50), (103, 61)] [(102, 50), (103, 61), (0, 0)] rfl (h54) rfl (rns_cons (rn_own rfl) (rns_nil)) trivial (MiF.get (mi := [(0, _), (1, _)]) ⟨⟨_, _, rfl, rfl, rc_bx (rn_agg (rns_cons (rn_id if_sli) (rns_cons (rn_id if_i64) (rns_cons (rn_id if_i64) (rns_cons (rn_id if_i64) (rns_cons (rn_own rfl) (rns_nil)))))))⟩, ⟨_, _, rfl, rfl, rc_sl (ifs_map (f := str) (fun _ => if_str) s41.2.2.2.2.1)⟩, trivial⟩) ⟨⟨_, rfl⟩, ⟨_, rfl⟩, trivial⟩ rfl ⟨rfl, rfl, trivial⟩ ⟨.inl rfl, .inl rfl, .inr rfl, trivial⟩ rfl ⟨.inl ⟨_, _, rfl, rfl, rc_sl (ifs_map (f := L_tree_Node) (fun _ => if_L_tree_Node) r53.1)⟩, .inr ⟨rfl, 1, .tail _ (.head _)⟩, .inl ⟨_, _, rfl, rfl, rc_sl (ifs_map (f := str) (fun _ => if_str) r53.2.2.2.2.2)⟩, .inl ⟨_, _, rfl, rfl, rc_bx (rn_agg (rns_cons (rn_id if_sli) (rns_cons (rn_id if_i64) (rns_cons (rn_id if_i64) (rns_cons (rn_id if_i64) (rns_cons (rn_own rfl) (rns_nil)))))))⟩, trivial⟩ ⟨⟨_, rfl⟩, ⟨_, rfl⟩, trivial⟩ ⟨⟨_, rfl⟩, ⟨_, rfl⟩, trivial⟩ (rn_own rfl) rfl) ?_
 refine b fun y55 h56 => ?_
 refine o (app' 104) ?_
 apply z [30]
 refine s1 (bld (l := [i64 s48.2.2.2.2, i64 0, sli 1 (List.map u32 [])]) pl_44.h ti_44.h zr_tree_Node ⟨_, _, _, rfl, rfl, rfl, rfl, (szk (k := 1) rfl rfl), rfl⟩ rfl) ?_
 refine so (bsl (y := 105) (ls := List.map L_tree_Node ([(⟨s48.2.2.2.2, 0, []⟩ : M_tree_Node)] : List M_tree_Node)) Tryd.underlying36 ti_44.h rfl rfl rfl rfl rfl ⟨rfl, rfl, (by exact rfl), (by exact rfl), trivial⟩ rfl rfl) ?_
 refine b fun y57 h58 => ?_
 refine o (app' 106) ?_
 apply z [31, 3, 11]
 exact sgo (eR [(1, 1), (0, 0), (101, 103), (100, 106)])
theorem c___parse_reader__expr : ∀ {n : Nat} {x0_words} {x0_at_} {x0_end_} {x0_deep} {x0_names}, ∀ r, m___parse_reader__expr n x0_words x0_at_ x0_end_ x0_deep x0_names = some r → FnR Tryd.prog 23 [.own 0] [(0, .bx 70 (.agg [sli 3 (List.map L_lex_Word x0_words), i64 x0_at_, i64 x0_end_, i64 x0_deep, .own 1])), (1, .sl 9 1 (List.map str x0_names))] 25 L_api_Fault (fun r => .own 50) (fun r => [(0, .bx 70 (.agg [sli 3 (List.map L_lex_Word r.2.1), i64 r.2.2.1, i64 r.2.2.2.1, i64 r.2.2.2.2.1, .own 61])), (1, .gone), (50, .sl 44 3 (List.map L_tree_Node r.1)), (61, .sl 9 1 (List.map str r.2.2.2.2.2))]) r := by
  intro n
  induction n with
  | zero => intro x0_words x0_at_ x0_end_ x0_deep x0_names r h; exact absurd h (by simp [m___parse_reader__expr])
  | succ n ih =>
    intro x0_words x0_at_ x0_end_ x0_deep x0_names
    unfold m___parse_reader__expr
    refine fsP Tryd.func23 fun w S0 γ hγ => ?_
    apply z [2]
    refine s1 (asg rfl (kLm (k := 3) L_tree_Node)) ?_
    apply z [1, 2, 30, 30]
    refine s1 (mkB (l := [.own 0]) ⟨rfl, trivial⟩ rfl) ?_
    refine bP [0, 1] (c___parse_reader__chain_o1___parse_reader__term @ih) fun r1 h2 => ?_
    refine o (cG (h2) [0, 1] [(100, 50), (101, 61)] []) ?_
    apply z [31, 1, 8]
    exact rtR (rt [(0, 0), (1, 1), (50, 100), (61, 101)])
theorem c___parse_reader__field {n : Nat} {x0_words} {x0_at_} {x0_end_} {x0_deep} {x0_names} : ∀ r, m___parse_reader__field n x0_words x0_at_ x0_end_ x0_deep x0_names = some r → FnR Tryd.prog 19 [.own 0] [(0, .bx 70 (.agg [sli 3 (List.map L_lex_Word x0_words), i64 x0_at_, i64 x0_end_, i64 x0_deep, .own 1])), (1, .sl 9 1 (List.map str x0_names))] 25 L_api_Fault (fun r => L_tree_Field r.1) (fun r => [(0, .bx 70 (.agg [sli 3 (List.map L_lex_Word r.2.1), i64 r.2.2.1, i64 r.2.2.2.1, i64 r.2.2.2.2.1, .own 61])), (1, .gone), (61, .sl 9 1 (List.map str r.2.2.2.2.2))]) r := by
 unfold m___parse_reader__field
 refine fsP Tryd.func19 fun w S0 γ hγ => ?_
 apply z [2]
 refine o (al' 100) ?_
 apply z [1, 2]
 refine so (alOw (y := 101) (ly := .agg [.own 102, .own 103]) [(102, 59, 2), (103, 36, 1)] ti_31.h (zo_agg (zos_cons (c1 := [.slice none 0 0]) (zo_own rfl) (zos_cons (c1 := [.slice none 0 0]) (zo_own rfl) (zos_nil)))) ⟨rfl, rfl, trivial⟩ rfl rfl rfl) ?_
 apply z [1, 5, 7]
 refine sloopE 0 Lp.go (fun s18 => [(0, .own 0), (2, .own 100), (3, .own 101)]) (fun s18 => [(1, .gone), (0, .bx 70 (.agg [sli 3 (List.map L_lex_Word s18.1), i64 s18.2.1, i64 s18.2.2.1, i64 s18.2.2.2.1, .own 104])), (104, .sl 9 1 (List.map str s18.2.2.2.2.1)), (100, .bx 31 (L_tree_Field (⟨[], []⟩ : M_tree_Field))), (101, .bx 31 (.agg [.own 102, .own 103])), (102, .sl 59 2 (List.map L_tree_Let s18.2.2.2.2.2)), (103, .sl 36 1 (List.map L_S_tree_Node ([] : List (List M_tree_Node))))]) (fun t16 => [(0, .own 0), (2, .own 100), (3, .own 101)]) (fun t16 => [(1, .gone), (0, .bx 70 (.agg [sli 3 (List.map L_lex_Word t16.1), i64 t16.2.1, i64 t16.2.2.1, i64 t16.2.2.2.1, .own 104])), (104, .sl 9 1 (List.map str t16.2.2.2.2.1)), (100, .bx 31 (L_tree_Field (⟨[], []⟩ : M_tree_Field))), (101, .bx 31 (.agg [.own 102, .own 103])), (102, .sl 59 2 (List.map L_tree_Let t16.2.2.2.2.2)), (103, .sl 36 1 (List.map L_S_tree_Node ([] : List (List M_tree_Node))))]) (eR [(1, 1), (0, 0), (104, 1), (100, 100), (101, 101), (102, 102), (103, 103)]) ?_ ?_
 · intro hj17 s18
   apply z [5, 2, 30]
   refine b fun r19 h20 => ?_
   refine o (cG (c___parse_reader__has _ h20) [0, 104] [] [104]) ?_
   apply z [1]
   refine c ?_ ?_
   · apply z [9, 4, 7, 2, 30]
     refine bP [0, 104] c___parse_reader__name fun r21 h22 => ?_
     refine o (cG (h22) [0, 104] [] [104]) ?_
     apply z [31, 1, 2, 30]
     refine bP [0, 104] c___parse_reader__need fun r23 h24 => ?_
     refine o (cG (h24) [0, 104] [] [104]) ?_
     apply z [1, 5]
     refine bPd c___parse_reader__expr (fun e hp => ?_) fun r25 h26 => ?_
     · refine sd ?_
       apply zd [[101], [101], [], []]
       exact dP hp [0, 104] [0, 104, 105, 106] (hf := fol)
     refine b fun y27 h28 => ?_
     refine sd ?_
     apply zd [[101], [101], [], []]
     refine dd [0, 104, 105, 106] (fun _ _ _ _ => tV (cG (h26) [0, 104] [(105, 50), (106, 61)] [])) ?_
     refine dx [13, 15] [] (fun st mm ⟨a13, a15, _⟩ _ => og (bld (l := [str r21.1, sli 3 (List.map L_tree_Node r25.1)]) pl_59.h ti_59.h zr_tree_Let ⟨_, _, _, (a13.trans rfl), rfl, rfl, rfl, (szk (k := 1) rfl rfl), ⟨_, _, _, (a15.trans rfl), rfl, rfl, rfl, (szk (k := 1) rfl rfl), rfl⟩⟩ rfl)) ?_
     refine dx [16] [107] (fun st mm ⟨a16, _⟩ ⟨g107, _⟩ => og (bsl (y := 107) (ls := List.map L_tree_Let ([(⟨r21.1, r25.1⟩ : M_tree_Let)] : List M_tree_Let)) Tryd.underlying28 ti_59.h rfl rfl rfl rfl rfl ⟨rfl, (a16.trans rfl), (by exact rfl), (by exact rfl), trivial⟩ (g107.trans rfl) rfl)) ?_
     refine dd [102, 107, 108] (fun _ _ _ _ => app' 108) ?_
     apply zd [[101]]
     refine dd [101] (fun _ _ _ _ => stP (.agg [.own 108, .own 103]) [0]) ?_
     refine de fol ?_
     apply z [4, 2, 30]
     refine bP [0, 106] c___parse_reader__need fun r29 h30 => ?_
     refine o (cG (h30) [0, 106] [] [106]) ?_
     apply z [1, 6, 30, 30, 48, 33, 36, 30]
     refine so (bsl (y := 109) (ls := List.map str ([r21.1] : List (List UInt8))) Tryd.underlying56 ti_9.h rfl rfl rfl rfl rfl ⟨rfl, rfl, (by exact rfl), (by exact rfl), trivial⟩ rfl rfl) ?_
     refine b fun y31 h32 => ?_
     refine o (app' 110) ?_
     apply z [48, 33]
     refine o (stP (.agg [sli 3 (List.map L_lex_Word r29.1), i64 r29.2.1, i64 r29.2.2.1, i64 r29.2.2.2, .own 110]) [4]) ?_
     apply z [3, 11]
     exact sgo (eR [(1, 1), (0, 0), (104, 110), (100, 100), (101, 101), (102, 108), (103, 103)])
   apply z [14, 15]
   exact su (sj (hj17 _) (eR [(1, 1), (0, 0), (104, 104), (100, 100), (101, 101), (102, 102), (103, 103)]))
 intro t16
 refine slpk ?_
 apply z [13, 4, 2, 30]
 refine bP [0, 104] c___parse_reader__need fun r33 h34 => ?_
 refine o (cG (h34) [0, 104] [] [104]) ?_
 apply z [1, 5]
 refine bPd c___parse_reader__expr (fun e hp => ?_) fun r35 h36 => ?_
 · refine sd ?_
   apply zd [[101], [101], []]
   exact dP hp [0, 104] [0, 104, 105, 106] (hf := fol)
 refine b fun y37 h38 => ?_
 refine sd ?_
 apply zd [[101], [101], []]
 refine dd [0, 104, 105, 106] (fun _ _ _ _ => tV (cG (h36) [0, 104] [(105, 50), (106, 61)] [])) ?_
 refine dx [37] [107] (fun st mm ⟨a37, _⟩ ⟨g107, _⟩ => og (bsl (y := 107) (ls := List.map L_S_tree_Node ([r35.1] : List (List M_tree_Node))) Tryd.underlying29 ti_36.h rfl rfl rfl rfl rfl ⟨rfl, (a37.trans rfl), (by exact rfl), (by exact rfl), trivial⟩ (g107.trans rfl) rfl)) ?_
 refine dd [103, 107, 108] (fun _ _ _ _ => app' 108) ?_
 apply zd [[101]]
 refine dd [101] (fun _ _ _ _ => stP (.agg [.own 102, .own 108]) [1]) ?_
 refine de fol ?_
 apply z [4, 5, 7]
 refine sloopE 2 Lp.go (fun s57 => [(0, .own 0), (2, .own 100), (3, .own 101)]) (fun s57 => [(1, .gone), (0, .bx 70 (.agg [sli 3 (List.map L_lex_Word s57.1), i64 s57.2.1, i64 s57.2.2.1, i64 s57.2.2.2.1, .own 106])), (106, .sl 9 1 (List.map str s57.2.2.2.2.1)), (100, .bx 31 (L_tree_Field (⟨[], []⟩ : M_tree_Field))), (101, .bx 31 (.agg [.own 102, .own 108])), (102, .sl 59 2 (List.map L_tree_Let t16.2.2.2.2.2)), (108, .sl 36 1 (List.map L_S_tree_Node s57.2.2.2.2.2))]) (fun t55 => [(0, .own 0), (2, .own 100), (3, .own 101)]) (fun t55 => [(1, .gone), (0, .bx 70 (.agg [sli 3 (List.map L_lex_Word t55.1), i64 t55.2.1, i64 t55.2.2.1, i64 t55.2.2.2.1, .own 106])), (106, .sl 9 1 (List.map str t55.2.2.2.2.1)), (100, .bx 31 (L_tree_Field (⟨[], []⟩ : M_tree_Field))), (101, .bx 31 (.agg [.own 102, .own 108])), (102, .sl 59 2 (List.map L_tree_Let t16.2.2.2.2.2)), (108, .sl 36 1 (List.map L_S_tree_Node t55.2.2.2.2.2))]) (eR [(1, 1), (0, 0), (106, 106), (100, 100), (101, 101), (102, 102), (108, 108)]) ?_ ?_
 · intro hj56 s57
   apply z [5, 2, 30]
   refine b fun r58 h59 => ?_
   refine o (cG (c___parse_reader__has _ h59) [0, 106] [] [106]) ?_
   apply z [1]
   refine c ?_ ?_
   · apply z [9, 4, 7]
     refine bPd c___parse_reader__expr (fun e hp => ?_) fun r60 h61 => ?_
     · refine sd ?_
       apply zd [[101], [101], []]
       exact dP hp [0, 106] [0, 106, 109, 110] (hf := fol)
     refine b fun y62 h63 => ?_
     refine sd ?_
     apply zd [[101], [101], []]
     refine dd [0, 106, 109, 110] (fun _ _ _ _ => tV (cG (h61) [0, 106] [(109, 50), (110, 61)] [])) ?_
     refine dx [46] [111] (fun st mm ⟨a46, _⟩ ⟨g111, _⟩ => og (bsl (y := 111) (ls := List.map L_S_tree_Node ([r60.1] : List (List M_tree_Node))) Tryd.underlying29 ti_36.h rfl rfl rfl rfl rfl ⟨rfl, (a46.trans rfl), (by exact rfl), (by exact rfl), trivial⟩ (g111.trans rfl) rfl)) ?_
     refine dd [108, 111, 112] (fun _ _ _ _ => app' 112) ?_
     apply zd [[101]]
     refine dd [101] (fun _ _ _ _ => stP (.agg [.own 102, .own 112]) [1]) ?_
     refine de fol ?_
     apply z [11]
     exact sgo (eR [(1, 1), (0, 0), (106, 110), (100, 100), (101, 101), (102, 102), (108, 112)])
   apply z [14, 15]
   exact su (sj (hj56 _) (eR [(1, 1), (0, 0), (106, 106), (100, 100), (101, 101), (102, 102), (108, 108)]))
 intro t55
 refine slpk ?_
 apply z [13, 4, 2, 30]
 refine bP [0, 106] c___parse_reader__need fun r64 h65 => ?_
 refine o (cG (h65) [0, 106] [] [106]) ?_
 apply z [1, 2, 32, 34, 1, 8]
 refine fz 102 [52] [100, 101] ?_
 refine fz 108 [52] [100, 101] ?_
 exact rtR (rt [(0, 0), (1, 1), (61, 106)])
theorem c_parse_caught_o1_api_Fault {x0} {x1} : ∀ r, m_parse_caught_o1_api_Fault x0 x1 = some r → FnOk Tryd.prog 18 [.own 0, .ifc 25 (L_api_Fault x1)] [(0, .bx 25 (L_api_Fault x0))] (bl r.1) [(0, .bx 25 (L_api_Fault r.2))] := by
 unfold m_parse_caught_o1_api_Fault
 refine fs Tryd.func18 fun w S0 γ hγ => ?_
 apply z [2, 31, 1, 5, 2, 30]
 refine s1 (eqN2 Tryd.underlying20 rfl rfl) ?_
 apply z [1]
 refine scF rfl ?_
 apply z [9, 4, 2, 30]
 refine s1 (taT Tryd.underlying25 rfl rfl) ?_
 apply z [30, 35, 35]
 refine o (al' 100) ?_
 apply z [34, 31, 1, 5, 2, 30, 44, 1]
 refine scF rfl ?_
 apply z [9, 4, 2, 30, 32, 48, 34, 1, 2, 31, 1, 8]
 exact rt [(0, 0)]
theorem c_parse_Parse_1_opan {x0} {x1} {e : M_api_Fault} {u : Value} (hu : PlainV (L_api_Fault e) u) : ∀ r, m_parse_Parse_1_opan x0 x1 e = some r → FnD Tryd.prog 17 [.own 0, .own 1] [(0, .bx 25 (L_api_Fault x0)), (1, .bx 31 (L_tree_Field x1))] (.panicking (pan 25 u)) (.panicking (panR 25 u)) [(0, .bx 25 (L_api_Fault r.1)), (1, .bx 31 (L_tree_Field r.2))] := by
 unfold m_parse_Parse_1_opan
 refine fsC Tryd.func17 rfl rfl (lyv := .ifc 25 (L_api_Fault e)) rec_pan (pv_ifc hu) (fun r1 h2 w S0 γ => cG (c_parse_caught_o1_api_Fault _ h2) [0] [] []) fun r1 w S0 γ hγ => ?_
 refine c ?_ ?_
 · apply z [6]
   refine s1 (bld (l := [sli 2 (List.map L_tree_Let []), sli 1 (List.map L_S_tree_Node [])]) pl_31.h ti_31.h zr_tree_Field rfl rfl) ?_
   apply z [34, 3]
   exact rt [(0, 0), (1, 1)]
 apply z [9]
 exact rt [(0, 0), (1, 1)]
theorem c___parse_reader__over {x0_words} {x0_at_} {x0_end_} {x0_deep} {x0_names} : ∀ r, m___parse_reader__over x0_words x0_at_ x0_end_ x0_deep x0_names = some r → FnR Tryd.prog 20 [.own 0] [(0, .bx 70 (.agg [sli 3 (List.map L_lex_Word x0_words), i64 x0_at_, i64 x0_end_, i64 x0_deep, .own 1])), (1, .sl 9 1 (List.map str x0_names))] 25 L_api_Fault (fun r => .tup []) (fun r => [(0, .bx 70 (.agg [sli 3 (List.map L_lex_Word x0_words), i64 x0_at_, i64 x0_end_, i64 x0_deep, .own 1])), (1, .sl 9 1 (List.map str x0_names))]) r := by
 unfold m___parse_reader__over
 refine fsP Tryd.func20 fun w S0 γ hγ => ?_
 apply z [5]
 refine sd ?_
 apply zd [[], [0], [0], [0], [], [0], [0], [0], [], []]
 refine de fol ?_
 apply z [4]
 refine c ?_ ?_
 · apply z [6, 30]
   refine bP [0, 1] c___parse_reader__fail fun r1 h2 => ?_
   refine o (cG (h2) [0, 1] [] [0, 1]) ?_
   apply z [3]
   exact rtR (rt [(0, 0), (1, 1)])
 apply z [9]
 exact rtR (rt [(0, 0), (1, 1)])
theorem c_parse_caught_o1_nil {x0} : ∀ r, m_parse_caught_o1_nil x0 = some r → FnOk Tryd.prog 18 [.ref (L_api_Fault x0), nilI] [] (bl r) [] := by
 unfold m_parse_caught_o1_nil
 refine fs Tryd.func18 fun w S0 γ hγ => ?_
 apply z [2, 31, 1, 5, 2, 30]
 refine s1 (eqN1 Tryd.underlying20 rfl rfl) ?_
 apply z [1]
 refine scT rfl ?_
 apply z [2, 31, 1, 8, 10]
 exact rt []
theorem c_parse_Parse_1_oret {x0} {x1} : ∀ r, m_parse_Parse_1_oret x0 x1 = some r → FnD Tryd.prog 17 [.own 0, .own 1] [(0, .bx 25 (L_api_Fault x0)), (1, .bx 31 (L_tree_Field x1))] .returning .returning [(0, .bx 25 (L_api_Fault x0)), (1, .bx 31 (L_tree_Field r))] := by
 unfold m_parse_Parse_1_oret
 refine fsC Tryd.func17 rfl rfl (lyv := nilI) rec_ret pv_nil (fun r1 h2 w S0 γ => of (callL (em := []) [0] [] [] [] rfl (c_parse_caught_o1_nil _ h2) trivial (pl_bl) ⟨.inr ⟨0, rfl, .inl ⟨rfl, .inr ⟨_, _, rfl, if_L_api_Fault, rfl⟩⟩⟩, .inl ⟨_, rfl, rn_id if_nilI⟩, trivial⟩ (fun _ _ h => by cases h) trivial rfl trivial trivial rfl trivial trivial trivial (rn_id (if_bl)) rfl)) fun r1 w S0 γ hγ => ?_
 refine c ?_ ?_
 · apply z [6]
   refine s1 (bld (l := [sli 2 (List.map L_tree_Let []), sli 1 (List.map L_S_tree_Node [])]) pl_31.h ti_31.h zr_tree_Field rfl rfl) ?_
   apply z [34, 3]
   exact rt [(0, 0), (1, 1)]
 apply z [9]
 exact rt [(0, 0), (1, 1)]
theorem c_parse_Parse {n : Nat} {x0} : ∀ r, m_parse_Parse n x0 = some r → FnOk Tryd.prog 6 [str x0] [] (.tup [L_tree_Field r.1, L_api_Fault r.2]) [] := by
 unfold m_parse_Parse
 refine fsD Tryd.func6 fun w S0 γ hγ => ?_
 apply z [2]
 refine o (al' 100) ?_
 refine o (al' 101) ?_
 apply z [1, 2, 30]
 refine b fun r1 h2 => ?_
 refine o (cG (c_parse_begin _ h2) [] [(102, 50), (103, 70)] []) ?_
 apply z [30, 35, 35, 31, 34, 1, 5, 2, 32]
 refine s1 (bld (l := [i64 0, i64 0, i64 0, i64 0]) pl_25.h ti_25.h zr_api_Fault rfl rfl) ?_
 refine s1 (neA (p := (r1.2.2.2.2.2 : M_api_Fault)) (q := ((⟨0, 0, 0, 0⟩ : M_api_Fault) : M_api_Fault)) eq_25_2 rfl eg_25 rfl rfl rfl) ?_
 apply z [1]
 refine c ?_ ?_
 · apply z [5]
   refine sd ?_
   refine dx [] [] (fun st mm _ _ => og (bld (l := [sli 2 (List.map L_tree_Let []), sli 1 (List.map L_S_tree_Node [])]) pl_31.h ti_31.h zr_tree_Field rfl rfl)) ?_
   apply zd [[101], [100], [101]]
   refine de fol ?_
   apply z [4, 8, 10]
   exact rtD (rt [])
 apply z [9, 4, 2]
 refine s1 (mkC (l := [101, 100]) ⟨rfl, ⟨rfl, trivial⟩⟩ rfl) ?_
 refine sdf rfl fun gd3 us4 hg5 hc6 => ?_
 apply z [1, 2, 30]
 refine bPD [102, 103] c___parse_reader__field (fun e => fun u hu => ?_) fun r7 h8 => ?_
 · refine b fun y9 h10 => ?_
   refine spt ?_
   refine lvP ?_
   refine lvD (lc := [0, 1]) (bs := [101, 100]) hg5 hc6 (c_parse_Parse_1_opan hu _ h10) (fun h => by cases h) set_pan ?_
   exact rt []
 refine o (cG (h8) [102, 103] [(104, 61)] []) ?_
 apply z [34, 1, 2, 30]
 refine bPD [102, 104] c___parse_reader__over (fun e => fun u hu => ?_) fun r11 h12 => ?_
 · refine b fun y13 h14 => ?_
   refine spt ?_
   refine lvP ?_
   refine lvD (lc := [0, 1]) (bs := [101, 100]) hg5 hc6 (c_parse_Parse_1_opan hu _ h14) (fun h => by cases h) set_pan ?_
   exact rt []
 refine o (cG (h12) [102, 104] [] [102, 104]) ?_
 apply z [1, 2, 32]
 refine s1 (bld (l := [i64 0, i64 0, i64 0, i64 0]) pl_25.h ti_25.h zr_api_Fault rfl rfl) ?_
 apply z [34, 34, 1, 8]
 refine b fun y15 h16 => ?_
 refine lvR ?_
 refine lvD (lc := [0, 1]) (bs := [101, 100]) hg5 hc6 (c_parse_Parse_1_oret _ h16) (fun h => by cases h) set_ret ?_
 exact rt []
theorem c_retrospectlaw18_works {n : Nat}  : ∀ r, m_retrospectlaw18_works n  = some r → FnOk Tryd.prog 4 [] [] (bl r) [] := by
 unfold m_retrospectlaw18_works
 refine fs Tryd.func4 fun w S0 γ hγ => ?_
 apply z [2, 31, 1, 2]
 refine cb (ca c_parse_Parse) fun r1 => ?_
 apply z [30, 35, 35]
 refine o (al' 100) ?_
 refine o (al' 101) ?_
 apply z [34, 34, 1, 2]
 refine cb (ca c_parse_Parse) fun r3 => ?_
 apply z [30, 35, 35]
 refine o (al' 102) ?_
 refine o (al' 103) ?_
 apply z [34, 34, 1]
 refine sjq (fun s13 => [(0, bl s13)]) (fun s13 => []) ?_ ?_
 · intro j11 hj12
   apply z [6, 32]
   refine s1 (bld (l := [i64 0, i64 0, i64 0, i64 0]) pl_25.h ti_25.h zr_api_Fault rfl rfl) ?_
   refine s1 (eqA (p := (r1.2 : M_api_Fault)) (q := ((⟨0, 0, 0, 0⟩ : M_api_Fault) : M_api_Fault)) eq_25_2 rfl eg_25 rfl rfl rfl) ?_
   apply z [30]
   refine sifd 16 rfl ?_ ?_
   · apply z [22, 22, 22, 22, 38, 30]
     refine sifd 22 rfl ?_ ?_
     · apply z [22, 22]
       refine b fun y14 h15 => ?_
       apply z [22, 22, 22, 22, 38, 30]
       refine sifd 30 rfl ?_ ?_
       · apply z [22, 22]
         refine b fun y16 h17 => ?_
         apply z [22, 22]
         refine b fun y18 h19 => ?_
         apply z [22, 22, 22, 22, 38, 30]
         refine sifd 40 rfl ?_ ?_
         · apply z [22]
           refine sg 40 rfl rfl (bld (l := [i64 (1 : Int), i64 0, i64 0, i64 (2 : Int)]) pl_25.h ti_25.h zr_api_Fault ⟨_, _, _, (kI (x := 1) rfl), rfl, rfl, rfl, (szk (k := 1) rfl rfl), ⟨_, _, _, (kI (x := 2) rfl), rfl, rfl, rfl, (szk (k := 1) rfl rfl), rfl⟩⟩ rfl) ?_
           refine sg 40 rfl rfl (eqA (p := (r3.2 : M_api_Fault)) (q := ((⟨(1 : Int), 0, 0, (2 : Int)⟩ : M_api_Fault) : M_api_Fault)) eq_25_2 rfl eg_25 rfl rfl rfl) ?_
           apply z [38, 31, 1]
           exact sj (hj12 _) (eR [])
         apply z [23, 23, 23, 37, 31, 1]
         exact sj (hj12 _) (eR [])
       apply z [23, 23, 23, 23, 23, 23, 23, 23, 37, 30, 23, 23, 23, 37, 31, 1]
       exact sj (hj12 _) (eR [])
     apply z [23, 23, 23, 23, 23, 23, 37, 30, 23, 23, 23, 23, 23, 23, 23, 23, 37, 30, 23, 23, 23, 37, 31, 1]
     exact sj (hj12 _) (eR [])
   apply z [23, 23, 23, 23, 37, 30, 23, 23, 23, 23, 23, 23, 37, 30, 23, 23, 23, 23, 23, 23, 23, 23, 37, 30, 23, 23, 23, 37, 31, 1]
   exact sj (hj12 _) (eR [])
 intro s13
 apply z [8]
 exact rt []
theorem c_lex_Text {x0} : ∀ r, m_lex_Text x0 = some r → FnOk Tryd.prog 7 [sli 3 (List.map L_lex_Word x0)] [] (str r) [] := by
 unfold m_lex_Text
 refine fs Tryd.func7 fun w S0 γ hγ => ?_
 apply z [2, 31, 1, 2]
 refine so (asgN (y := 100) (E := 9) (k := 1) rfl rfl) ?_
 apply z [1, 5, 2, 30, 39, 30, 1, 7]
 refine srN (fun s14 => [(2, str ([] : List UInt8)), (3, .own 100), (6, sli 3 (List.map L_lex_Word x0))]) (fun s14 => [(100, .sl 9 1 (List.map str s14))]) (rE (eR [(100, 100)])) ?_ ?_
 · intro i15 x16 s14 hx17
   apply z [7, 2, 43, 42]
   refine o (al' 101) ?_
   apply z [34, 1, 6, 30, 33, 36]
   refine so (bsl (y := 102) (ls := List.map str ([x16.Text] : List (List UInt8))) Tryd.underlying56 ti_9.h rfl rfl rfl rfl rfl ⟨rfl, rfl, (by exact rfl), (by exact rfl), trivial⟩ rfl rfl) ?_
   refine b fun y18 h19 => ?_
   refine o (app' 103) ?_
   apply z [31, 3, 11]
   exact sgo (eR [(100, 103)])
 intro s20
 apply z [13, 4, 2, 30]
 refine b fun r21 h22 => ?_
 refine s1 (callL (em := []) [100] [] [] [] rfl (c_strings_Join _ h22) trivial (pl_str) ⟨.inr ⟨100, rfl, .inl ⟨rfl, .inl ⟨_, _, _, rfl, ifs_map (f := str) (fun _ => if_str) s20, rfl⟩⟩⟩, .inl ⟨_, (kS (s := [32]) rfl), rn_id if_str⟩, trivial⟩ (fun _ _ h => by cases h) trivial rfl trivial trivial rfl trivial trivial trivial (rn_id (if_str)) rfl) ?_
 apply z [31, 1, 8]
 exact rt []
theorem c_nat_Cmp {n : Nat} {x0} {x1} : ∀ r, m_nat_Cmp n x0 x1 = some r → FnOk Tryd.prog 24 [sli 1 (List.map u32 x0), sli 1 (List.map u32 x1)] [] (i64 r) [] := by
 unfold m_nat_Cmp
 refine fs Tryd.func24 fun w S0 γ hγ => ?_
 apply z [2, 31, 1, 2, 30]
 refine cb (ca c_nat_trim) fun r1 => ?_
 apply z [30]
 refine cb (ca c_nat_trim) fun r3 => ?_
 apply z [31, 31, 1, 5, 7, 2, 30, 39, 30, 39, 46, 31, 1]
 refine c ?_ ?_
 · apply z [2, 31, 1, 8, 12, 10]
   exact rt []
 apply z [2, 30, 39, 30, 39, 47, 31, 1]
 refine c ?_ ?_
 · apply z [2, 31, 1, 8, 12, 10]
   exact rt []
 apply z [9, 11, 4, 5, 2, 30, 39, 49, 31, 1, 7]
 refine sloopE 1 Lp.go (fun s25 => [(0, sli 1 (List.map u32 r1)), (1, sli 1 (List.map u32 r3)), (4, i64 (0 : Int)), (5, i64 s25)]) (fun s25 => []) (fun t23 => [(4, i64 (0 : Int))]) (fun t23 => []) eI ?_ ?_
 · intro hj24 s25
   apply z [5, 2, 30, 57, 1]
   refine c ?_ ?_
   · apply z [9, 4, 5, 7, 7, 5]
     refine b fun y26 h27 => ?_
     refine b fun y28 h29 => ?_
     refine sd ?_
     apply zd [[], [], [], [], [], [], [], [], [], []]
     refine de fol ?_
     apply z [4]
     refine c ?_ ?_
     · apply z [2, 31, 1, 8, 12, 12, 10]
       refine sU ?_
       apply z [12, 10]
       exact rt []
     apply z [5]
     refine b fun y30 h31 => ?_
     refine b fun y32 h33 => ?_
     refine sd ?_
     apply zd [[], [], [], [], [], [], [], [], [], []]
     refine de fol ?_
     apply z [4]
     refine c ?_ ?_
     · apply z [2, 31, 1, 8, 12, 12, 10]
       refine sU ?_
       apply z [12, 10]
       exact rt []
     apply z [9, 11, 11, 4, 6, 30, 49, 31, 3]
     exact sgo eI
   apply z [14, 15]
   exact su (sj (hj24 _) eI)
 intro t23
 refine slpk ?_
 apply z [13, 4, 2, 31, 1, 8]
 exact rt []
theorem c_tree_Same {n : Nat} {x0} {x1} : ∀ r, m_tree_Same n x0 x1 = some r → FnOk Tryd.prog 10 [sli 3 (List.map L_tree_Node x0), sli 3 (List.map L_tree_Node x1)] [] (bl r) [] := by
 unfold m_tree_Same
 refine fs Tryd.func10 fun w S0 γ hγ => ?_
 apply z [2, 31, 1, 5, 2, 30, 39, 30, 39, 56, 1]
 refine c ?_ ?_
 · apply z [2, 31, 1, 8, 10]
   exact rt []
 apply z [9, 4, 5, 2, 30, 39, 30, 1, 7]
 refine srN (fun s17 => [(1, sli 3 (List.map L_tree_Node x1)), (4, bl false), (13, sli 3 (List.map L_tree_Node x0))]) (fun s17 => []) (rE eI) ?_ ?_
 · intro i18 x19 s17 hx20
   apply z [7, 2, 30, 43, 42]
   refine o (al' 100) ?_
   apply z [31, 34, 1, 2, 30, 30]
   refine b fun y21 h22 => ?_
   apply z [43, 42]
   refine o (al' 101) ?_
   apply z [34, 1]
   refine sjq (fun s28 => [(1, sli 3 (List.map L_tree_Node x1)), (4, bl false), (13, sli 3 (List.map L_tree_Node x0)), (14, i64 (x0.length : Int)), (15, i64 (i18 : Int)), (42, bl s28)]) (fun s28 => []) ?_ ?_
   · intro j26 hj27
     apply z [6, 33, 36, 33, 36]
     refine s1 (bld (l := [i64 x19.Op, i64 x19.I]) pl_62.h ti_62.h zr_tree_plain ⟨_, _, _, rfl, rfl, rfl, rfl, (szk (k := 1) rfl rfl), ⟨_, _, _, rfl, rfl, rfl, rfl, (szk (k := 1) rfl rfl), rfl⟩⟩ rfl) ?_
     apply z [33, 36, 33, 36]
     refine s1 (bld (l := [i64 y21.Op, i64 y21.I]) pl_62.h ti_62.h zr_tree_plain ⟨_, _, _, rfl, rfl, rfl, rfl, (szk (k := 1) rfl rfl), ⟨_, _, _, rfl, rfl, rfl, rfl, (szk (k := 1) rfl rfl), rfl⟩⟩ rfl) ?_
     refine s1 (neA (p := ((⟨x19.Op, x19.I⟩ : M_tree_plain) : M_tree_plain)) (q := ((⟨y21.Op, y21.I⟩ : M_tree_plain) : M_tree_plain)) eq_62_2 rfl eg_62 rfl rfl rfl) ?_
     refine sbn (F := bl) 34 rfl fun z29 => ?_
     apply z [30]
     refine sifd 35 rfl ?_ ?_
     · apply z [23, 23, 23, 23, 23, 23, 38, 1]
       exact sj (hj27 _) (eR [])
     apply z [22, 22, 22, 22]
     refine b fun r30 h31 => ?_
     refine og' (c0 (c_nat_Cmp _ h31)) ?_
     apply z [22, 37, 1]
     exact sj (hj27 _) (eR [])
   intro s28
   refine c ?_ ?_
   · apply z [2, 31, 1, 8, 12]
     refine sU ?_
     apply z [12, 10]
     exact rt []
   apply z [9, 11]
   exact sgo eI
 intro s32
 apply z [13, 4, 2, 31, 1, 8]
 exact rt []
theorem c_tree_SameField {n : Nat} {x0} {x1} : ∀ r, m_tree_SameField n x0 x1 = some r → FnOk Tryd.prog 8 [L_tree_Field x0, L_tree_Field x1] [] (bl r) [] := by
 unfold m_tree_SameField
 refine fs Tryd.func8 fun w S0 γ hγ => ?_
 apply z [2]
 refine o (bx' 100) ?_
 refine o (bx' 101) ?_
 apply z [31, 1, 5]
 refine sjq (fun s3 => [(2, .own 100), (3, .own 101), (4, bl false), (24, bl s3)]) (fun s3 => [(100, .bx 31 (L_tree_Field x0)), (101, .bx 31 (L_tree_Field x1))]) ?_ ?_
 · intro j1 hj2
   apply z [6, 33, 36, 39, 33, 36, 39, 56, 30]
   refine sifd 16 rfl ?_ ?_
   · apply z [23, 23, 23, 23, 23, 23, 23, 38, 1]
     exact sj (hj2 _) (eR [(100, 100), (101, 101)])
   apply z [22, 22, 22, 22, 22, 22, 22, 37, 1]
   exact sj (hj2 _) (eR [(100, 100), (101, 101)])
 intro s3
 refine c ?_ ?_
 · apply z [2, 31, 1, 8, 10]
   exact rt []
 apply z [9, 4, 5, 2, 33, 36, 39, 30, 1, 7]
 refine srN (fun s26 => [(2, .own 100), (3, .own 101), (4, bl false), (26, sli 2 (List.map L_tree_Let x0.Lets))]) (fun s26 => [(100, .bx 31 (L_tree_Field x0)), (101, .bx 31 (L_tree_Field x1))]) (rE (eR [(100, 100), (101, 101)])) ?_ ?_
 · intro i27 x28 s26 hx29
   apply z [7, 2, 30, 43, 42]
   refine o (al' 102) ?_
   apply z [31, 34, 1]
   refine sjq (fun s39 => [(2, .own 100), (3, .own 101), (4, bl false), (26, sli 2 (List.map L_tree_Let x0.Lets)), (27, i64 (x0.Lets.length : Int)), (28, i64 (i27 : Int)), (53, bl s39)]) (fun s39 => [(100, .bx 31 (L_tree_Field x0)), (101, .bx 31 (L_tree_Field x1))]) ?_ ?_
   · intro j37 hj38
     refine b fun y40 h41 => ?_
     refine sif (fun hb42 => ?_) (fun hb42 => ?_)
     · refine sd ?_
       apply zd [[102], [102], [101], [101], [], [], [], [], []]
       refine dd [] (fun _ _ _ _ => obk hb42 ops) ?_
       apply zd [[], [], [], [], [], [], [], [], [], [], []]
       refine de fol ?_
       apply z [4]
       exact sj (hj38 _) (eR [(100, 100), (101, 101)])
     refine b fun y43 h44 => ?_
     refine b fun r45 h46 => ?_
     refine sd ?_
     apply zd [[102], [102], [101], [101], []]
     refine dx [36, 37] [] (fun st mm ⟨a36, a37, _⟩ _ => og (ixR (f := L_tree_Let) Tryd.underlying28 ti_59.h h41 rfl (a36.trans rfl) (a37.trans rfl))) ?_
     apply zd [[], [], []]
     refine dd [] (fun _ _ _ _ => obk hb42 ops) ?_
     apply zd [[102], [102], [101], [101], []]
     refine dx [42, 46, 47] [] (fun st mm ⟨a42, a46, a47, _⟩ _ => ogG 42 rfl (a42.trans rfl) (ixR (f := L_tree_Let) Tryd.underlying28 ti_59.h h44 rfl (a46.trans rfl) (a47.trans rfl))) ?_
     apply zd [[], []]
     refine dG [] (fun _ _ _ _ => c0 (c_tree_Same _ h46)) ?_
     apply zd [[], []]
     refine de fol ?_
     apply z [4]
     exact sj (hj38 _) (eR [(100, 100), (101, 101)])
   intro s39
   refine c ?_ ?_
   · apply z [2, 31, 1, 8, 12]
     refine sU ?_
     apply z [12, 10]
     exact rt []
   apply z [9, 11]
   exact sgo (eR [(100, 100), (101, 101)])
 intro s47
 apply z [13, 4, 5, 2, 33, 36, 39, 30, 1, 7]
 refine srN (fun s57 => [(3, .own 101), (4, bl false), (56, sli 1 (List.map L_S_tree_Node x0.Outs))]) (fun s57 => [(101, .bx 31 (L_tree_Field x1))]) (rE (eR [(101, 101)])) ?_ ?_
 · intro i58 x59 s57 hx60
   apply z [7, 2, 30, 43, 42, 31, 31, 1, 2, 30, 33, 36, 30]
   refine b fun y61 h62 => ?_
   apply z [43, 42]
   refine cb (ca c_tree_Same) fun r63 => ?_
   apply z [44, 1]
   refine c ?_ ?_
   · apply z [2, 31, 1, 8, 12]
     refine sU ?_
     apply z [12, 10]
     exact rt []
   apply z [9, 11]
   exact sgo (eR [(101, 101)])
 intro s65
 apply z [13, 4, 2, 31, 1, 8]
 exact rt []
theorem c_parse_Expr_1_opan {x0} {x1} {e : M_api_Fault} {u : Value} (hu : PlainV (L_api_Fault e) u) : ∀ r, m_parse_Expr_1_opan x0 x1 e = some r → FnD Tryd.prog 22 [.own 0, .own 1] [(0, .bx 25 (L_api_Fault x0)), (1, .bx 36 (sli 3 (List.map L_tree_Node x1)))] (.panicking (pan 25 u)) (.panicking (panR 25 u)) [(0, .bx 25 (L_api_Fault r.1)), (1, .bx 36 (sli 3 (List.map L_tree_Node r.2)))] := by
 unfold m_parse_Expr_1_opan
 refine fsC Tryd.func22 rfl rfl (lyv := .ifc 25 (L_api_Fault e)) rec_pan (pv_ifc hu) (fun r1 h2 w S0 γ => cG (c_parse_caught_o1_api_Fault _ h2) [0] [] []) fun r1 w S0 γ hγ => ?_
 refine c ?_ ?_
 · apply z [6]
   refine so (stB2 (ly2 := sli 3 (List.map L_tree_Node ([] : List M_tree_Node))) [] (by exact rfl) rfl (by exact rfl) sh_36.h (by exact rfl) (by exact rfl) (by exact rfl) rfl (.inr ⟨rfl, rfl, _, _, rfl⟩) (kLm (k := 3) L_tree_Node)) ?_
   apply z [3]
   exact rt [(0, 0), (1, 1)]
 apply z [9]
 exact rt [(0, 0), (1, 1)]
theorem c_parse_Expr_1_oret {x0} {x1} : ∀ r, m_parse_Expr_1_oret x0 x1 = some r → FnD Tryd.prog 22 [.own 0, .own 1] [(0, .bx 25 (L_api_Fault x0)), (1, .bx 36 (sli 3 (List.map L_tree_Node x1)))] .returning .returning [(0, .bx 25 (L_api_Fault x0)), (1, .bx 36 (sli 3 (List.map L_tree_Node r)))] := by
 unfold m_parse_Expr_1_oret
 refine fsC Tryd.func22 rfl rfl (lyv := nilI) rec_ret pv_nil (fun r1 h2 w S0 γ => of (callL (em := []) [0] [] [] [] rfl (c_parse_caught_o1_nil _ h2) trivial (pl_bl) ⟨.inr ⟨0, rfl, .inl ⟨rfl, .inr ⟨_, _, rfl, if_L_api_Fault, rfl⟩⟩⟩, .inl ⟨_, rfl, rn_id if_nilI⟩, trivial⟩ (fun _ _ h => by cases h) trivial rfl trivial trivial rfl trivial trivial trivial (rn_id (if_bl)) rfl)) fun r1 w S0 γ hγ => ?_
 refine c ?_ ?_
 · apply z [6]
   refine so (stB2 (ly2 := sli 3 (List.map L_tree_Node ([] : List M_tree_Node))) [] (by exact rfl) rfl (by exact rfl) sh_36.h (by exact rfl) (by exact rfl) (by exact rfl) rfl (.inr ⟨rfl, rfl, _, _, rfl⟩) (kLm (k := 3) L_tree_Node)) ?_
   apply z [3]
   exact rt [(0, 0), (1, 1)]
 apply z [9]
 exact rt [(0, 0), (1, 1)]
theorem c_parse_Expr {n : Nat} {x0} {x1} : ∀ r, m_parse_Expr n x0 x1 = some r → FnOk Tryd.prog 9 [str x0, sli 1 (List.map str x1)] [] (.tup [sli 3 (List.map L_tree_Node r.1), L_api_Fault r.2]) [] := by
 unfold m_parse_Expr
 refine fsD Tryd.func9 fun w S0 γ hγ => ?_
 apply z [2]
 refine o (al' 100) ?_
 refine o (al' 101) ?_
 apply z [1, 2, 30, 30]
 refine b fun r1 h2 => ?_
 refine o (cG (c_parse_begin _ h2) [] [(102, 50), (103, 70)] []) ?_
 apply z [30, 35, 35, 31, 34, 1, 5, 2, 32]
 refine s1 (bld (l := [i64 0, i64 0, i64 0, i64 0]) pl_25.h ti_25.h zr_api_Fault rfl rfl) ?_
 refine s1 (neA (p := (r1.2.2.2.2.2 : M_api_Fault)) (q := ((⟨0, 0, 0, 0⟩ : M_api_Fault) : M_api_Fault)) eq_25_2 rfl eg_25 rfl rfl rfl) ?_
 apply z [1]
 refine c ?_ ?_
 · apply z [5]
   refine sd ?_
   apply zd [[101]]
   refine dx [4] [100] (fun st mm ⟨a4, _⟩ ⟨g100, _⟩ => og (stB2 (ly2 := sli 3 (List.map L_tree_Node ([] : List M_tree_Node))) [] (by exact rfl) (g100.trans rfl) (by exact rfl) sh_36.h (by exact rfl) (by exact rfl) (by exact rfl) (a4.trans rfl) (.inr ⟨rfl, rfl, _, _, (g100.trans rfl)⟩) (kLm (k := 3) L_tree_Node))) ?_
   apply zd [[101]]
   refine de fol ?_
   apply z [4, 8, 10]
   exact rtD (rt [])
 apply z [9, 4, 2]
 refine s1 (mkC (l := [101, 100]) ⟨rfl, ⟨rfl, trivial⟩⟩ rfl) ?_
 refine sdf rfl fun gd3 us4 hg5 hc6 => ?_
 apply z [1, 2, 30]
 refine bPD [102, 103] c___parse_reader__expr (fun e => fun u hu => ?_) fun r7 h8 => ?_
 · refine b fun y9 h10 => ?_
   refine spt ?_
   refine lvP ?_
   refine lvD (lc := [0, 1]) (bs := [101, 100]) hg5 hc6 (c_parse_Expr_1_opan hu _ h10) (fun h => by cases h) set_pan ?_
   exact rt []
 refine o (cG (h8) [102, 103] [(104, 50), (105, 61)] []) ?_
 refine fz 104 [19] [] ?_
 apply z [34, 1, 2, 30]
 refine bPD [102, 105] c___parse_reader__over (fun e => fun u hu => ?_) fun r11 h12 => ?_
 · refine b fun y13 h14 => ?_
   refine spt ?_
   refine lvP ?_
   refine lvD (lc := [0, 1]) (bs := [101, 100]) hg5 hc6 (c_parse_Expr_1_opan hu _ h14) (fun h => by cases h) set_pan ?_
   exact rt []
 refine o (cG (h12) [102, 105] [] [102, 105]) ?_
 apply z [1, 2, 32]
 refine s1 (bld (l := [i64 0, i64 0, i64 0, i64 0]) pl_25.h ti_25.h zr_api_Fault rfl rfl) ?_
 apply z [34, 34, 1, 8]
 refine b fun y15 h16 => ?_
 refine lvR ?_
 refine lvD (lc := [0, 1]) (bs := [101, 100]) hg5 hc6 (c_parse_Expr_1_oret _ h16) (fun h => by cases h) set_ret ?_
 exact rt []
end Go.Proofs.YtpomhkkhdojpiaaDoor
