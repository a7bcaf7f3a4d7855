import Derived.Test.YtcdeknlejjjmlaaGreatDoorGen3
set_option maxRecDepth 100000
set_option maxHeartbeats 4000000
namespace Go.Proofs.YtcdeknlejjjmlaaGreatDoor
open Go Go.RowKit
theorem c___parse_reader__factor {me___parse_reader__expr : (List M_lex_Word) → Int → Int → Int → (List (List UInt8)) → Option (Except M_api_Fault ((List M_tree_Node) × (List M_lex_Word) × Int × Int × Int × (List (List UInt8))))} (he___parse_reader__expr : ∀ {x0_words : (List M_lex_Word)} {x0_at_ : Int} {x0_end_ : Int} {x0_deep : Int} {x0_names : (List (List UInt8))}, ∀ r, me___parse_reader__expr x0_words x0_at_ x0_end_ x0_deep x0_names = some r → FnR Tryz.prog 173 [.own 0] [(0, .bx 294 (.agg [sli 3 (List.map L_lex_Word x0_words), i64 x0_at_, i64 x0_end_, i64 x0_deep, .own 1])), (1, .sl 9 1 (List.map str x0_names))] 41 L_api_Fault (fun r => .own 50) (fun r => [(0, .bx 294 (.agg [sli 3 (List.map L_lex_Word r.2.1), i64 r.2.2.1, i64 r.2.2.2.1, i64 r.2.2.2.2.1, .own 61])), (1, .gone), (50, .sl 226 3 (List.map L_tree_Node r.1)), (61, .sl 9 1 (List.map str r.2.2.2.2.2))]) r) : ∀ {n : Nat} {x0_words} {x0_at_} {x0_end_} {x0_deep} {x0_names}, ∀ r, m___parse_reader__factor me___parse_reader__expr n x0_words x0_at_ x0_end_ x0_deep x0_names = some r → FnR Tryz.prog 314 [.own 0] [(0, .bx 294 (.agg [sli 3 (List.map L_lex_Word x0_words), i64 x0_at_, i64 x0_end_, i64 x0_deep, .own 1])), (1, .sl 9 1 (List.map str x0_names))] 41 L_api_Fault (fun r => .own 50) (fun r => [(0, .bx 294 (.agg [sli 3 (List.map L_lex_Word r.2.1), i64 r.2.2.1, i64 r.2.2.2.1, i64 r.2.2.2.2.1, .own 61])), (1, .gone), (50, .sl 226 3 (List.map L_tree_Node r.1)), (61, .sl 9 1 (List.map str r.2.2.2.2.2))]) r := by
  intro n
  induction n with
  | zero => intro x0_words x0_at_ x0_end_ x0_deep x0_names r h; exact absurd h (by simp [m___parse_reader__factor])
  | succ n ih =>
    intro x0_words x0_at_ x0_end_ x0_deep x0_names
    unfold m___parse_reader__factor
    refine fsP Tryz.func314 fun w S0 γ hγ => ?_
    apply z [2]
    refine s1 (asg rfl (kLm (k := 3) L_tree_Node)) ?_
    apply z [1, 5, 2, 30]
    refine b fun r1 h2 => ?_
    refine o (cG (c___parse_reader__has _ h2) [0, 1] [] [1]) ?_
    apply z [44, 1]
    refine c ?_ ?_
    · apply z [2, 30]
      refine bP [0, 1] (c___parse_reader__power @he___parse_reader__expr) fun r3 h4 => ?_
      refine o (cG (h4) [0, 1] [(100, 50), (101, 61)] []) ?_
      apply z [31, 1, 8, 10]
      exact rtR (rt [(0, 0), (1, 1), (50, 100), (61, 101)])
    apply z [9, 4, 2, 30]
    refine bP [0, 1] c___parse_reader__open fun r5 h6 => ?_
    refine o (cG (h6) [0, 1] [] [1]) ?_
    apply z [1, 2, 30]
    refine bP [0, 1] ih fun r7 h8 => ?_
    refine o (cG (h8) [0, 1] [(100, 50), (101, 61)] []) ?_
    apply z [31, 1, 2, 30, 48, 33, 36, 49, 48, 33]
    refine o (stP (.agg [sli 3 (List.map L_lex_Word r7.2.1), i64 r7.2.2.1, i64 r7.2.2.2.1, i64 (wrap64 (r7.2.2.2.2.1 - (1 : Int))), .own 101]) [3]) ?_
    apply z [1, 2, 30]
    refine s1 (bld (l := [i64 (6 : Int), i64 0, sli 1 (List.map u32 [])]) pl_226.h ti_226.h zr_tree_Node ⟨_, _, _, (kI (x := 6) rfl), rfl, rfl, rfl, (szk (k := 1) rfl rfl), rfl⟩ rfl) ?_
    refine so (bsl (y := 102) (ls := List.map L_tree_Node ([(⟨(6 : Int), 0, []⟩ : M_tree_Node)] : List M_tree_Node)) Tryz.underlying142 ti_226.h rfl rfl rfl rfl rfl ⟨rfl, rfl, (by exact rfl), (by exact rfl), trivial⟩ rfl rfl) ?_
    refine b fun y9 h10 => ?_
    refine o (app' 103) ?_
    apply z [31, 1, 8]
    exact rtR (rt [(0, 0), (1, 1), (50, 103), (61, 101)])
theorem c___parse_reader__chain_o1___parse_reader__factor {me___parse_reader__expr : (List M_lex_Word) → Int → Int → Int → (List (List UInt8)) → Option (Except M_api_Fault ((List M_tree_Node) × (List M_lex_Word) × Int × Int × Int × (List (List UInt8))))} (he___parse_reader__expr : ∀ {x0_words : (List M_lex_Word)} {x0_at_ : Int} {x0_end_ : Int} {x0_deep : Int} {x0_names : (List (List UInt8))}, ∀ r, me___parse_reader__expr x0_words x0_at_ x0_end_ x0_deep x0_names = some r → FnR Tryz.prog 173 [.own 0] [(0, .bx 294 (.agg [sli 3 (List.map L_lex_Word x0_words), i64 x0_at_, i64 x0_end_, i64 x0_deep, .own 1])), (1, .sl 9 1 (List.map str x0_names))] 41 L_api_Fault (fun r => .own 50) (fun r => [(0, .bx 294 (.agg [sli 3 (List.map L_lex_Word r.2.1), i64 r.2.2.1, i64 r.2.2.2.1, i64 r.2.2.2.2.1, .own 61])), (1, .gone), (50, .sl 226 3 (List.map L_tree_Node r.1)), (61, .sl 9 1 (List.map str r.2.2.2.2.2))]) r) {n : Nat} {x0_words} {x0_at_} {x0_end_} {x0_deep} {x0_names} {x2} {x3} {x4} {x5} : ∀ r, m___parse_reader__chain_o1___parse_reader__factor me___parse_reader__expr n x0_words x0_at_ x0_end_ x0_deep x0_names x2 x3 x4 x5 = some r → FnR Tryz.prog 242 [.own 0, .bnd 314 [.own 0], str x2, str x3, i64 x4, i64 x5] [(0, .bx 294 (.agg [sli 3 (List.map L_lex_Word x0_words), i64 x0_at_, i64 x0_end_, i64 x0_deep, .own 1])), (1, .sl 9 1 (List.map str x0_names))] 41 L_api_Fault (fun r => .own 50) (fun r => [(0, .bx 294 (.agg [sli 3 (List.map L_lex_Word r.2.1), i64 r.2.2.1, i64 r.2.2.2.1, i64 r.2.2.2.2.1, .own 61])), (1, .gone), (50, .sl 226 3 (List.map L_tree_Node r.1)), (61, .sl 9 1 (List.map str r.2.2.2.2.2))]) r := by
 unfold m___parse_reader__chain_o1___parse_reader__factor
 refine fsP Tryz.func242 fun w S0 γ hγ => ?_
 apply z [2]
 refine s1 (asg rfl (kLm (k := 3) L_tree_Node)) ?_
 apply z [1, 2, 30]
 refine bPB (lb := [_]) (la := []) [0, 1] (c___parse_reader__factor @he___parse_reader__expr) rfl rfl (rns_cons (rn_own rfl) (rns_nil)) fun r1 h2 => ?_
 refine so (callB (lb := [_]) (la := []) (em := [(100, .sl 226 3 (List.map L_tree_Node r1.1)), (1, .gone), (101, .sl 9 1 (List.map str r1.2.2.2.2.2)), (0, .bx 294 (.agg [sli 3 (List.map L_lex_Word r1.2.1), i64 r1.2.2.1, i64 r1.2.2.2.1, i64 r1.2.2.2.2.1, .own 101]))]) (res' := .own 100) [(0, 0), (1, 1)] [(100, 50), (101, 61)] [(100, 50), (101, 61), (0, 0)] rfl (h2) rfl (rns_cons (rn_own rfl) (rns_nil)) trivial (MiF.get (mi := [(0, _), (1, _)]) ⟨⟨_, _, rfl, rfl, rc_bx (rn_agg (rns_cons (rn_id if_sli) (rns_cons (rn_id if_i64) (rns_cons (rn_id if_i64) (rns_cons (rn_id if_i64) (rns_cons (rn_own rfl) (rns_nil)))))))⟩, ⟨_, _, rfl, rfl, rc_sl (ifs_map (f := str) (fun _ => if_str) x0_names)⟩, trivial⟩) ⟨⟨_, rfl⟩, ⟨_, rfl⟩, trivial⟩ rfl ⟨rfl, rfl, trivial⟩ ⟨.inl rfl, .inl rfl, .inr rfl, trivial⟩ rfl ⟨.inl ⟨_, _, rfl, rfl, rc_sl (ifs_map (f := L_tree_Node) (fun _ => if_L_tree_Node) r1.1)⟩, .inr ⟨rfl, 1, .tail _ (.head _)⟩, .inl ⟨_, _, rfl, rfl, rc_sl (ifs_map (f := str) (fun _ => if_str) r1.2.2.2.2.2)⟩, .inl ⟨_, _, rfl, rfl, rc_bx (rn_agg (rns_cons (rn_id if_sli) (rns_cons (rn_id if_i64) (rns_cons (rn_id if_i64) (rns_cons (rn_id if_i64) (rns_cons (rn_own rfl) (rns_nil)))))))⟩, trivial⟩ ⟨⟨_, rfl⟩, ⟨_, rfl⟩, trivial⟩ ⟨⟨_, rfl⟩, ⟨_, rfl⟩, trivial⟩ (rn_own rfl) rfl) ?_
 apply z [31, 1, 7]
 refine sloop0 (fun s41 => [(0, .own 0), (1, .bnd 314 [.own 0]), (2, str x2), (3, str x3), (4, i64 x4), (5, i64 x5), (12, sli 3 (List.map L_tree_Node ([] : List M_tree_Node))), (13, .own 100)]) (fun s41 => [(1, .gone), (0, .bx 294 (.agg [sli 3 (List.map L_lex_Word s41.1), i64 s41.2.1, i64 s41.2.2.1, i64 s41.2.2.2.1, .own 101])), (101, .sl 9 1 (List.map str s41.2.2.2.2.1)), (100, .sl 226 3 (List.map L_tree_Node s41.2.2.2.2.2))]) (eR [(1, 1), (0, 0), (101, 101), (100, 100)]) ?_
 intro s41
 apply z [7, 2, 31, 1]
 refine sjq (fun s48 => [(0, .own 0), (1, .bnd 314 [.own 0]), (2, str x2), (3, str x3), (4, i64 x4), (5, i64 x5), (12, sli 3 (List.map L_tree_Node ([] : List M_tree_Node))), (13, .own 100), (14, i64 s48.2.2.2.2)]) (fun s48 => [(1, .gone), (0, .bx 294 (.agg [sli 3 (List.map L_lex_Word s48.1), i64 s48.2.1, i64 s48.2.2.1, i64 s48.2.2.2.1, .own 101])), (101, .sl 9 1 (List.map str s41.2.2.2.2.1)), (100, .sl 226 3 (List.map L_tree_Node s41.2.2.2.2.2))]) ?_ ?_
 · intro j46 hj47
   apply z [7, 2, 30, 30]
   refine b fun r49 h50 => ?_
   refine o (cG (c___parse_reader__has _ h50) [0, 101] [] [101]) ?_
   apply z [31, 1]
   refine c ?_ ?_
   · apply z [6, 30, 31, 3, 11, 4]
     exact sj (hj47 _) (eR [(1, 1), (0, 0), (101, 101), (100, 100)])
   apply z [2, 30, 30]
   refine b fun r51 h52 => ?_
   refine o (cG (c___parse_reader__has _ h52) [0, 101] [] [101]) ?_
   apply z [31, 1]
   refine c ?_ ?_
   · apply z [6, 30, 31, 3, 11, 4]
     exact sj (hj47 _) (eR [(1, 1), (0, 0), (101, 101), (100, 100)])
   apply z [2, 30, 31, 1, 8, 12, 10, 12]
   refine sU ?_
   apply z [12]
   exact rtR (rt [(0, 0), (1, 1), (50, 100), (61, 101)])
 intro s48
 apply z [6, 30, 30]
 refine bPB (lb := [_]) (la := []) [0, 101] (c___parse_reader__factor @he___parse_reader__expr) rfl rfl (rns_cons (rn_own rfl) (rns_nil)) fun r53 h54 => ?_
 refine so (callB (lb := [_]) (la := []) (em := [(102, .sl 226 3 (List.map L_tree_Node r53.1)), (101, .gone), (103, .sl 9 1 (List.map str r53.2.2.2.2.2)), (0, .bx 294 (.agg [sli 3 (List.map L_lex_Word r53.2.1), i64 r53.2.2.1, i64 r53.2.2.2.1, i64 r53.2.2.2.2.1, .own 103]))]) (res' := .own 102) [(0, 0), (1, 101)] [(102, 50), (103, 61)] [(102, 50), (103, 61), (0, 0)] rfl (h54) rfl (rns_cons (rn_own rfl) (rns_nil)) trivial (MiF.get (mi := [(0, _), (1, _)]) ⟨⟨_, _, rfl, rfl, rc_bx (rn_agg (rns_cons (rn_id if_sli) (rns_cons (rn_id if_i64) (rns_cons (rn_id if_i64) (rns_cons (rn_id if_i64) (rns_cons (rn_own rfl) (rns_nil)))))))⟩, ⟨_, _, rfl, rfl, rc_sl (ifs_map (f := str) (fun _ => if_str) s41.2.2.2.2.1)⟩, trivial⟩) ⟨⟨_, rfl⟩, ⟨_, rfl⟩, trivial⟩ rfl ⟨rfl, rfl, trivial⟩ ⟨.inl rfl, .inl rfl, .inr rfl, trivial⟩ rfl ⟨.inl ⟨_, _, rfl, rfl, rc_sl (ifs_map (f := L_tree_Node) (fun _ => if_L_tree_Node) r53.1)⟩, .inr ⟨rfl, 1, .tail _ (.head _)⟩, .inl ⟨_, _, rfl, rfl, rc_sl (ifs_map (f := str) (fun _ => if_str) r53.2.2.2.2.2)⟩, .inl ⟨_, _, rfl, rfl, rc_bx (rn_agg (rns_cons (rn_id if_sli) (rns_cons (rn_id if_i64) (rns_cons (rn_id if_i64) (rns_cons (rn_id if_i64) (rns_cons (rn_own rfl) (rns_nil)))))))⟩, trivial⟩ ⟨⟨_, rfl⟩, ⟨_, rfl⟩, trivial⟩ ⟨⟨_, rfl⟩, ⟨_, rfl⟩, trivial⟩ (rn_own rfl) rfl) ?_
 refine b fun y55 h56 => ?_
 refine o (app' 104) ?_
 apply z [30]
 refine s1 (bld (l := [i64 s48.2.2.2.2, i64 0, sli 1 (List.map u32 [])]) pl_226.h ti_226.h zr_tree_Node ⟨_, _, _, rfl, rfl, rfl, rfl, (szk (k := 1) rfl rfl), rfl⟩ rfl) ?_
 refine so (bsl (y := 105) (ls := List.map L_tree_Node ([(⟨s48.2.2.2.2, 0, []⟩ : M_tree_Node)] : List M_tree_Node)) Tryz.underlying142 ti_226.h rfl rfl rfl rfl rfl ⟨rfl, rfl, (by exact rfl), (by exact rfl), trivial⟩ rfl rfl) ?_
 refine b fun y57 h58 => ?_
 refine o (app' 106) ?_
 apply z [31, 3, 11]
 exact sgo (eR [(1, 1), (0, 0), (101, 103), (100, 106)])
theorem c___parse_reader__term {me___parse_reader__expr : (List M_lex_Word) → Int → Int → Int → (List (List UInt8)) → Option (Except M_api_Fault ((List M_tree_Node) × (List M_lex_Word) × Int × Int × Int × (List (List UInt8))))} (he___parse_reader__expr : ∀ {x0_words : (List M_lex_Word)} {x0_at_ : Int} {x0_end_ : Int} {x0_deep : Int} {x0_names : (List (List UInt8))}, ∀ r, me___parse_reader__expr x0_words x0_at_ x0_end_ x0_deep x0_names = some r → FnR Tryz.prog 173 [.own 0] [(0, .bx 294 (.agg [sli 3 (List.map L_lex_Word x0_words), i64 x0_at_, i64 x0_end_, i64 x0_deep, .own 1])), (1, .sl 9 1 (List.map str x0_names))] 41 L_api_Fault (fun r => .own 50) (fun r => [(0, .bx 294 (.agg [sli 3 (List.map L_lex_Word r.2.1), i64 r.2.2.1, i64 r.2.2.2.1, i64 r.2.2.2.2.1, .own 61])), (1, .gone), (50, .sl 226 3 (List.map L_tree_Node r.1)), (61, .sl 9 1 (List.map str r.2.2.2.2.2))]) r) {n : Nat} {x0_words} {x0_at_} {x0_end_} {x0_deep} {x0_names} : ∀ r, m___parse_reader__term me___parse_reader__expr n x0_words x0_at_ x0_end_ x0_deep x0_names = some r → FnR Tryz.prog 243 [.own 0] [(0, .bx 294 (.agg [sli 3 (List.map L_lex_Word x0_words), i64 x0_at_, i64 x0_end_, i64 x0_deep, .own 1])), (1, .sl 9 1 (List.map str x0_names))] 41 L_api_Fault (fun r => .own 50) (fun r => [(0, .bx 294 (.agg [sli 3 (List.map L_lex_Word r.2.1), i64 r.2.2.1, i64 r.2.2.2.1, i64 r.2.2.2.2.1, .own 61])), (1, .gone), (50, .sl 226 3 (List.map L_tree_Node r.1)), (61, .sl 9 1 (List.map str r.2.2.2.2.2))]) r := by
 unfold m___parse_reader__term
 refine fsP Tryz.func243 fun w S0 γ hγ => ?_
 apply z [2]
 refine s1 (asg rfl (kLm (k := 3) L_tree_Node)) ?_
 apply z [1, 2, 30, 30]
 refine s1 (mkB (l := [.own 0]) ⟨rfl, trivial⟩ rfl) ?_
 refine bP [0, 1] (c___parse_reader__chain_o1___parse_reader__factor @he___parse_reader__expr) fun r1 h2 => ?_
 refine o (cG (h2) [0, 1] [(100, 50), (101, 61)] []) ?_
 apply z [31, 1, 8]
 exact rtR (rt [(0, 0), (1, 1), (50, 100), (61, 101)])
theorem c___parse_reader__chain_o1___parse_reader__term {me___parse_reader__expr : (List M_lex_Word) → Int → Int → Int → (List (List UInt8)) → Option (Except M_api_Fault ((List M_tree_Node) × (List M_lex_Word) × Int × Int × Int × (List (List UInt8))))} (he___parse_reader__expr : ∀ {x0_words : (List M_lex_Word)} {x0_at_ : Int} {x0_end_ : Int} {x0_deep : Int} {x0_names : (List (List UInt8))}, ∀ r, me___parse_reader__expr x0_words x0_at_ x0_end_ x0_deep x0_names = some r → FnR Tryz.prog 173 [.own 0] [(0, .bx 294 (.agg [sli 3 (List.map L_lex_Word x0_words), i64 x0_at_, i64 x0_end_, i64 x0_deep, .own 1])), (1, .sl 9 1 (List.map str x0_names))] 41 L_api_Fault (fun r => .own 50) (fun r => [(0, .bx 294 (.agg [sli 3 (List.map L_lex_Word r.2.1), i64 r.2.2.1, i64 r.2.2.2.1, i64 r.2.2.2.2.1, .own 61])), (1, .gone), (50, .sl 226 3 (List.map L_tree_Node r.1)), (61, .sl 9 1 (List.map str r.2.2.2.2.2))]) r) {n : Nat} {x0_words} {x0_at_} {x0_end_} {x0_deep} {x0_names} {x2} {x3} {x4} {x5} : ∀ r, m___parse_reader__chain_o1___parse_reader__term me___parse_reader__expr n x0_words x0_at_ x0_end_ x0_deep x0_names x2 x3 x4 x5 = some r → FnR Tryz.prog 242 [.own 0, .bnd 243 [.own 0], str x2, str x3, i64 x4, i64 x5] [(0, .bx 294 (.agg [sli 3 (List.map L_lex_Word x0_words), i64 x0_at_, i64 x0_end_, i64 x0_deep, .own 1])), (1, .sl 9 1 (List.map str x0_names))] 41 L_api_Fault (fun r => .own 50) (fun r => [(0, .bx 294 (.agg [sli 3 (List.map L_lex_Word r.2.1), i64 r.2.2.1, i64 r.2.2.2.1, i64 r.2.2.2.2.1, .own 61])), (1, .gone), (50, .sl 226 3 (List.map L_tree_Node r.1)), (61, .sl 9 1 (List.map str r.2.2.2.2.2))]) r := by
 unfold m___parse_reader__chain_o1___parse_reader__term
 refine fsP Tryz.func242 fun w S0 γ hγ => ?_
 apply z [2]
 refine s1 (asg rfl (kLm (k := 3) L_tree_Node)) ?_
 apply z [1, 2, 30]
 refine bPB (lb := [_]) (la := []) [0, 1] (c___parse_reader__term @he___parse_reader__expr) rfl rfl (rns_cons (rn_own rfl) (rns_nil)) fun r1 h2 => ?_
 refine so (callB (lb := [_]) (la := []) (em := [(100, .sl 226 3 (List.map L_tree_Node r1.1)), (1, .gone), (101, .sl 9 1 (List.map str r1.2.2.2.2.2)), (0, .bx 294 (.agg [sli 3 (List.map L_lex_Word r1.2.1), i64 r1.2.2.1, i64 r1.2.2.2.1, i64 r1.2.2.2.2.1, .own 101]))]) (res' := .own 100) [(0, 0), (1, 1)] [(100, 50), (101, 61)] [(100, 50), (101, 61), (0, 0)] rfl (h2) rfl (rns_cons (rn_own rfl) (rns_nil)) trivial (MiF.get (mi := [(0, _), (1, _)]) ⟨⟨_, _, rfl, rfl, rc_bx (rn_agg (rns_cons (rn_id if_sli) (rns_cons (rn_id if_i64) (rns_cons (rn_id if_i64) (rns_cons (rn_id if_i64) (rns_cons (rn_own rfl) (rns_nil)))))))⟩, ⟨_, _, rfl, rfl, rc_sl (ifs_map (f := str) (fun _ => if_str) x0_names)⟩, trivial⟩) ⟨⟨_, rfl⟩, ⟨_, rfl⟩, trivial⟩ rfl ⟨rfl, rfl, trivial⟩ ⟨.inl rfl, .inl rfl, .inr rfl, trivial⟩ rfl ⟨.inl ⟨_, _, rfl, rfl, rc_sl (ifs_map (f := L_tree_Node) (fun _ => if_L_tree_Node) r1.1)⟩, .inr ⟨rfl, 1, .tail _ (.head _)⟩, .inl ⟨_, _, rfl, rfl, rc_sl (ifs_map (f := str) (fun _ => if_str) r1.2.2.2.2.2)⟩, .inl ⟨_, _, rfl, rfl, rc_bx (rn_agg (rns_cons (rn_id if_sli) (rns_cons (rn_id if_i64) (rns_cons (rn_id if_i64) (rns_cons (rn_id if_i64) (rns_cons (rn_own rfl) (rns_nil)))))))⟩, trivial⟩ ⟨⟨_, rfl⟩, ⟨_, rfl⟩, trivial⟩ ⟨⟨_, rfl⟩, ⟨_, rfl⟩, trivial⟩ (rn_own rfl) rfl) ?_
 apply z [31, 1, 7]
 refine sloop0 (fun s41 => [(0, .own 0), (1, .bnd 243 [.own 0]), (2, str x2), (3, str x3), (4, i64 x4), (5, i64 x5), (12, sli 3 (List.map L_tree_Node ([] : List M_tree_Node))), (13, .own 100)]) (fun s41 => [(1, .gone), (0, .bx 294 (.agg [sli 3 (List.map L_lex_Word s41.1), i64 s41.2.1, i64 s41.2.2.1, i64 s41.2.2.2.1, .own 101])), (101, .sl 9 1 (List.map str s41.2.2.2.2.1)), (100, .sl 226 3 (List.map L_tree_Node s41.2.2.2.2.2))]) (eR [(1, 1), (0, 0), (101, 101), (100, 100)]) ?_
 intro s41
 apply z [7, 2, 31, 1]
 refine sjq (fun s48 => [(0, .own 0), (1, .bnd 243 [.own 0]), (2, str x2), (3, str x3), (4, i64 x4), (5, i64 x5), (12, sli 3 (List.map L_tree_Node ([] : List M_tree_Node))), (13, .own 100), (14, i64 s48.2.2.2.2)]) (fun s48 => [(1, .gone), (0, .bx 294 (.agg [sli 3 (List.map L_lex_Word s48.1), i64 s48.2.1, i64 s48.2.2.1, i64 s48.2.2.2.1, .own 101])), (101, .sl 9 1 (List.map str s41.2.2.2.2.1)), (100, .sl 226 3 (List.map L_tree_Node s41.2.2.2.2.2))]) ?_ ?_
 · intro j46 hj47
   apply z [7, 2, 30, 30]
   refine b fun r49 h50 => ?_
   refine o (cG (c___parse_reader__has _ h50) [0, 101] [] [101]) ?_
   apply z [31, 1]
   refine c ?_ ?_
   · apply z [6, 30, 31, 3, 11, 4]
     exact sj (hj47 _) (eR [(1, 1), (0, 0), (101, 101), (100, 100)])
   apply z [2, 30, 30]
   refine b fun r51 h52 => ?_
   refine o (cG (c___parse_reader__has _ h52) [0, 101] [] [101]) ?_
   apply z [31, 1]
   refine c ?_ ?_
   · apply z [6, 30, 31, 3, 11, 4]
     exact sj (hj47 _) (eR [(1, 1), (0, 0), (101, 101), (100, 100)])
   apply z [2, 30, 31, 1, 8, 12, 10, 12]
   refine sU ?_
   apply z [12]
   exact rtR (rt [(0, 0), (1, 1), (50, 100), (61, 101)])
 intro s48
 apply z [6, 30, 30]
 refine bPB (lb := [_]) (la := []) [0, 101] (c___parse_reader__term @he___parse_reader__expr) rfl rfl (rns_cons (rn_own rfl) (rns_nil)) fun r53 h54 => ?_
 refine so (callB (lb := [_]) (la := []) (em := [(102, .sl 226 3 (List.map L_tree_Node r53.1)), (101, .gone), (103, .sl 9 1 (List.map str r53.2.2.2.2.2)), (0, .bx 294 (.agg [sli 3 (List.map L_lex_Word r53.2.1), i64 r53.2.2.1, i64 r53.2.2.2.1, i64 r53.2.2.2.2.1, .own 103]))]) (res' := .own 102) [(0, 0), (1, 101)] [(102, 50), (103, 61)] [(102, 50), (103, 61), (0, 0)] rfl (h54) rfl (rns_cons (rn_own rfl) (rns_nil)) trivial (MiF.get (mi := [(0, _), (1, _)]) ⟨⟨_, _, rfl, rfl, rc_bx (rn_agg (rns_cons (rn_id if_sli) (rns_cons (rn_id if_i64) (rns_cons (rn_id if_i64) (rns_cons (rn_id if_i64) (rns_cons (rn_own rfl) (rns_nil)))))))⟩, ⟨_, _, rfl, rfl, rc_sl (ifs_map (f := str) (fun _ => if_str) s41.2.2.2.2.1)⟩, trivial⟩) ⟨⟨_, rfl⟩, ⟨_, rfl⟩, trivial⟩ rfl ⟨rfl, rfl, trivial⟩ ⟨.inl rfl, .inl rfl, .inr rfl, trivial⟩ rfl ⟨.inl ⟨_, _, rfl, rfl, rc_sl (ifs_map (f := L_tree_Node) (fun _ => if_L_tree_Node) r53.1)⟩, .inr ⟨rfl, 1, .tail _ (.head _)⟩, .inl ⟨_, _, rfl, rfl, rc_sl (ifs_map (f := str) (fun _ => if_str) r53.2.2.2.2.2)⟩, .inl ⟨_, _, rfl, rfl, rc_bx (rn_agg (rns_cons (rn_id if_sli) (rns_cons (rn_id if_i64) (rns_cons (rn_id if_i64) (rns_cons (rn_id if_i64) (rns_cons (rn_own rfl) (rns_nil)))))))⟩, trivial⟩ ⟨⟨_, rfl⟩, ⟨_, rfl⟩, trivial⟩ ⟨⟨_, rfl⟩, ⟨_, rfl⟩, trivial⟩ (rn_own rfl) rfl) ?_
 refine b fun y55 h56 => ?_
 refine o (app' 104) ?_
 apply z [30]
 refine s1 (bld (l := [i64 s48.2.2.2.2, i64 0, sli 1 (List.map u32 [])]) pl_226.h ti_226.h zr_tree_Node ⟨_, _, _, rfl, rfl, rfl, rfl, (szk (k := 1) rfl rfl), rfl⟩ rfl) ?_
 refine so (bsl (y := 105) (ls := List.map L_tree_Node ([(⟨s48.2.2.2.2, 0, []⟩ : M_tree_Node)] : List M_tree_Node)) Tryz.underlying142 ti_226.h rfl rfl rfl rfl rfl ⟨rfl, rfl, (by exact rfl), (by exact rfl), trivial⟩ rfl rfl) ?_
 refine b fun y57 h58 => ?_
 refine o (app' 106) ?_
 apply z [31, 3, 11]
 exact sgo (eR [(1, 1), (0, 0), (101, 103), (100, 106)])
theorem c___parse_reader__expr : ∀ {n : Nat} {x0_words} {x0_at_} {x0_end_} {x0_deep} {x0_names}, ∀ r, m___parse_reader__expr n x0_words x0_at_ x0_end_ x0_deep x0_names = some r → FnR Tryz.prog 173 [.own 0] [(0, .bx 294 (.agg [sli 3 (List.map L_lex_Word x0_words), i64 x0_at_, i64 x0_end_, i64 x0_deep, .own 1])), (1, .sl 9 1 (List.map str x0_names))] 41 L_api_Fault (fun r => .own 50) (fun r => [(0, .bx 294 (.agg [sli 3 (List.map L_lex_Word r.2.1), i64 r.2.2.1, i64 r.2.2.2.1, i64 r.2.2.2.2.1, .own 61])), (1, .gone), (50, .sl 226 3 (List.map L_tree_Node r.1)), (61, .sl 9 1 (List.map str r.2.2.2.2.2))]) r := by
  intro n
  induction n with
  | zero => intro x0_words x0_at_ x0_end_ x0_deep x0_names r h; exact absurd h (by simp [m___parse_reader__expr])
  | succ n ih =>
    intro x0_words x0_at_ x0_end_ x0_deep x0_names
    unfold m___parse_reader__expr
    refine fsP Tryz.func173 fun w S0 γ hγ => ?_
    apply z [2]
    refine s1 (asg rfl (kLm (k := 3) L_tree_Node)) ?_
    apply z [1, 2, 30, 30]
    refine s1 (mkB (l := [.own 0]) ⟨rfl, trivial⟩ rfl) ?_
    refine bP [0, 1] (c___parse_reader__chain_o1___parse_reader__term @ih) fun r1 h2 => ?_
    refine o (cG (h2) [0, 1] [(100, 50), (101, 61)] []) ?_
    apply z [31, 1, 8]
    exact rtR (rt [(0, 0), (1, 1), (50, 100), (61, 101)])
theorem c___parse_reader__field {n : Nat} {x0_words} {x0_at_} {x0_end_} {x0_deep} {x0_names} : ∀ r, m___parse_reader__field n x0_words x0_at_ x0_end_ x0_deep x0_names = some r → FnR Tryz.prog 97 [.own 0] [(0, .bx 294 (.agg [sli 3 (List.map L_lex_Word x0_words), i64 x0_at_, i64 x0_end_, i64 x0_deep, .own 1])), (1, .sl 9 1 (List.map str x0_names))] 41 L_api_Fault (fun r => L_tree_Field r.1) (fun r => [(0, .bx 294 (.agg [sli 3 (List.map L_lex_Word r.2.1), i64 r.2.2.1, i64 r.2.2.2.1, i64 r.2.2.2.2.1, .own 61])), (1, .gone), (61, .sl 9 1 (List.map str r.2.2.2.2.2))]) r := by
 unfold m___parse_reader__field
 refine fsP Tryz.func97 fun w S0 γ hγ => ?_
 apply z [2]
 refine o (al' 100) ?_
 apply z [1, 2]
 refine so (alOw (y := 101) (ly := .agg [.own 102, .own 103]) [(102, 144, 2), (103, 142, 1)] ti_57.h (zo_agg (zos_cons (c1 := [.slice none 0 0]) (zo_own rfl) (zos_cons (c1 := [.slice none 0 0]) (zo_own rfl) (zos_nil)))) ⟨rfl, rfl, trivial⟩ rfl rfl rfl) ?_
 apply z [1, 5, 7]
 refine sloopE 0 Lp.go (fun s18 => [(0, .own 0), (2, .own 100), (3, .own 101)]) (fun s18 => [(1, .gone), (0, .bx 294 (.agg [sli 3 (List.map L_lex_Word s18.1), i64 s18.2.1, i64 s18.2.2.1, i64 s18.2.2.2.1, .own 104])), (104, .sl 9 1 (List.map str s18.2.2.2.2.1)), (100, .bx 57 (L_tree_Field (⟨[], []⟩ : M_tree_Field))), (101, .bx 57 (.agg [.own 102, .own 103])), (102, .sl 144 2 (List.map L_tree_Let s18.2.2.2.2.2)), (103, .sl 142 1 (List.map L_S_tree_Node ([] : List (List M_tree_Node))))]) (fun t16 => [(0, .own 0), (2, .own 100), (3, .own 101)]) (fun t16 => [(1, .gone), (0, .bx 294 (.agg [sli 3 (List.map L_lex_Word t16.1), i64 t16.2.1, i64 t16.2.2.1, i64 t16.2.2.2.1, .own 104])), (104, .sl 9 1 (List.map str t16.2.2.2.2.1)), (100, .bx 57 (L_tree_Field (⟨[], []⟩ : M_tree_Field))), (101, .bx 57 (.agg [.own 102, .own 103])), (102, .sl 144 2 (List.map L_tree_Let t16.2.2.2.2.2)), (103, .sl 142 1 (List.map L_S_tree_Node ([] : List (List M_tree_Node))))]) (eR [(1, 1), (0, 0), (104, 1), (100, 100), (101, 101), (102, 102), (103, 103)]) ?_ ?_
 · intro hj17 s18
   apply z [5, 2, 30]
   refine b fun r19 h20 => ?_
   refine o (cG (c___parse_reader__has _ h20) [0, 104] [] [104]) ?_
   apply z [1]
   refine c ?_ ?_
   · apply z [9, 4, 7, 2, 30]
     refine bP [0, 104] c___parse_reader__name fun r21 h22 => ?_
     refine o (cG (h22) [0, 104] [] [104]) ?_
     apply z [31, 1, 2, 30]
     refine bP [0, 104] c___parse_reader__need fun r23 h24 => ?_
     refine o (cG (h24) [0, 104] [] [104]) ?_
     apply z [1, 5]
     refine bPd c___parse_reader__expr (fun e hp => ?_) fun r25 h26 => ?_
     · refine sd ?_
       apply zd [[101], [101], [], []]
       exact dP hp [0, 104] [0, 104, 105, 106] (hf := fol)
     refine b fun y27 h28 => ?_
     refine sd ?_
     apply zd [[101], [101], [], []]
     refine dd [0, 104, 105, 106] (fun _ _ _ _ => tV (cG (h26) [0, 104] [(105, 50), (106, 61)] [])) ?_
     refine dx [13, 15] [] (fun st mm ⟨a13, a15, _⟩ _ => og (bld (l := [str r21.1, sli 3 (List.map L_tree_Node r25.1)]) pl_144.h ti_144.h zr_tree_Let ⟨_, _, _, (a13.trans rfl), rfl, rfl, rfl, (szk (k := 1) rfl rfl), ⟨_, _, _, (a15.trans rfl), rfl, rfl, rfl, (szk (k := 1) rfl rfl), rfl⟩⟩ rfl)) ?_
     refine dx [16] [107] (fun st mm ⟨a16, _⟩ ⟨g107, _⟩ => og (bsl (y := 107) (ls := List.map L_tree_Let ([(⟨r21.1, r25.1⟩ : M_tree_Let)] : List M_tree_Let)) Tryz.underlying54 ti_144.h rfl rfl rfl rfl rfl ⟨rfl, (a16.trans rfl), (by exact rfl), (by exact rfl), trivial⟩ (g107.trans rfl) rfl)) ?_
     refine dd [102, 107, 108] (fun _ _ _ _ => app' 108) ?_
     apply zd [[101]]
     refine dd [101] (fun _ _ _ _ => stP (.agg [.own 108, .own 103]) [0]) ?_
     refine de fol ?_
     apply z [4, 2, 30]
     refine bP [0, 106] c___parse_reader__need fun r29 h30 => ?_
     refine o (cG (h30) [0, 106] [] [106]) ?_
     apply z [1, 6, 30, 30, 48, 33, 36, 30]
     refine so (bsl (y := 109) (ls := List.map str ([r21.1] : List (List UInt8))) Tryz.underlying110 ti_9.h rfl rfl rfl rfl rfl ⟨rfl, rfl, (by exact rfl), (by exact rfl), trivial⟩ rfl rfl) ?_
     refine b fun y31 h32 => ?_
     refine o (app' 110) ?_
     apply z [48, 33]
     refine o (stP (.agg [sli 3 (List.map L_lex_Word r29.1), i64 r29.2.1, i64 r29.2.2.1, i64 r29.2.2.2, .own 110]) [4]) ?_
     apply z [3, 11]
     exact sgo (eR [(1, 1), (0, 0), (104, 110), (100, 100), (101, 101), (102, 108), (103, 103)])
   apply z [14, 15]
   exact su (sj (hj17 _) (eR [(1, 1), (0, 0), (104, 104), (100, 100), (101, 101), (102, 102), (103, 103)]))
 intro t16
 refine slpk ?_
 apply z [13, 4, 2, 30]
 refine bP [0, 104] c___parse_reader__need fun r33 h34 => ?_
 refine o (cG (h34) [0, 104] [] [104]) ?_
 apply z [1, 5]
 refine bPd c___parse_reader__expr (fun e hp => ?_) fun r35 h36 => ?_
 · refine sd ?_
   apply zd [[101], [101], []]
   exact dP hp [0, 104] [0, 104, 105, 106] (hf := fol)
 refine b fun y37 h38 => ?_
 refine sd ?_
 apply zd [[101], [101], []]
 refine dd [0, 104, 105, 106] (fun _ _ _ _ => tV (cG (h36) [0, 104] [(105, 50), (106, 61)] [])) ?_
 refine dx [37] [107] (fun st mm ⟨a37, _⟩ ⟨g107, _⟩ => og (bsl (y := 107) (ls := List.map L_S_tree_Node ([r35.1] : List (List M_tree_Node))) Tryz.underlying55 ti_142.h rfl rfl rfl rfl rfl ⟨rfl, (a37.trans rfl), (by exact rfl), (by exact rfl), trivial⟩ (g107.trans rfl) rfl)) ?_
 refine dd [103, 107, 108] (fun _ _ _ _ => app' 108) ?_
 apply zd [[101]]
 refine dd [101] (fun _ _ _ _ => stP (.agg [.own 102, .own 108]) [1]) ?_
 refine de fol ?_
 apply z [4, 5, 7]
 refine sloopE 2 Lp.go (fun s57 => [(0, .own 0), (2, .own 100), (3, .own 101)]) (fun s57 => [(1, .gone), (0, .bx 294 (.agg [sli 3 (List.map L_lex_Word s57.1), i64 s57.2.1, i64 s57.2.2.1, i64 s57.2.2.2.1, .own 106])), (106, .sl 9 1 (List.map str s57.2.2.2.2.1)), (100, .bx 57 (L_tree_Field (⟨[], []⟩ : M_tree_Field))), (101, .bx 57 (.agg [.own 102, .own 108])), (102, .sl 144 2 (List.map L_tree_Let t16.2.2.2.2.2)), (108, .sl 142 1 (List.map L_S_tree_Node s57.2.2.2.2.2))]) (fun t55 => [(0, .own 0), (2, .own 100), (3, .own 101)]) (fun t55 => [(1, .gone), (0, .bx 294 (.agg [sli 3 (List.map L_lex_Word t55.1), i64 t55.2.1, i64 t55.2.2.1, i64 t55.2.2.2.1, .own 106])), (106, .sl 9 1 (List.map str t55.2.2.2.2.1)), (100, .bx 57 (L_tree_Field (⟨[], []⟩ : M_tree_Field))), (101, .bx 57 (.agg [.own 102, .own 108])), (102, .sl 144 2 (List.map L_tree_Let t16.2.2.2.2.2)), (108, .sl 142 1 (List.map L_S_tree_Node t55.2.2.2.2.2))]) (eR [(1, 1), (0, 0), (106, 106), (100, 100), (101, 101), (102, 102), (108, 108)]) ?_ ?_
 · intro hj56 s57
   apply z [5, 2, 30]
   refine b fun r58 h59 => ?_
   refine o (cG (c___parse_reader__has _ h59) [0, 106] [] [106]) ?_
   apply z [1]
   refine c ?_ ?_
   · apply z [9, 4, 7]
     refine bPd c___parse_reader__expr (fun e hp => ?_) fun r60 h61 => ?_
     · refine sd ?_
       apply zd [[101], [101], []]
       exact dP hp [0, 106] [0, 106, 109, 110] (hf := fol)
     refine b fun y62 h63 => ?_
     refine sd ?_
     apply zd [[101], [101], []]
     refine dd [0, 106, 109, 110] (fun _ _ _ _ => tV (cG (h61) [0, 106] [(109, 50), (110, 61)] [])) ?_
     refine dx [46] [111] (fun st mm ⟨a46, _⟩ ⟨g111, _⟩ => og (bsl (y := 111) (ls := List.map L_S_tree_Node ([r60.1] : List (List M_tree_Node))) Tryz.underlying55 ti_142.h rfl rfl rfl rfl rfl ⟨rfl, (a46.trans rfl), (by exact rfl), (by exact rfl), trivial⟩ (g111.trans rfl) rfl)) ?_
     refine dd [108, 111, 112] (fun _ _ _ _ => app' 112) ?_
     apply zd [[101]]
     refine dd [101] (fun _ _ _ _ => stP (.agg [.own 102, .own 112]) [1]) ?_
     refine de fol ?_
     apply z [11]
     exact sgo (eR [(1, 1), (0, 0), (106, 110), (100, 100), (101, 101), (102, 102), (108, 112)])
   apply z [14, 15]
   exact su (sj (hj56 _) (eR [(1, 1), (0, 0), (106, 106), (100, 100), (101, 101), (102, 102), (108, 108)]))
 intro t55
 refine slpk ?_
 apply z [13, 4, 2, 30]
 refine bP [0, 106] c___parse_reader__need fun r64 h65 => ?_
 refine o (cG (h65) [0, 106] [] [106]) ?_
 apply z [1, 2, 32, 34, 1, 8]
 refine fz 102 [52] [100, 101] ?_
 refine fz 108 [52] [100, 101] ?_
 exact rtR (rt [(0, 0), (1, 1), (61, 106)])
theorem c_parse_caught_o1_api_Fault {x0} {x1} : ∀ r, m_parse_caught_o1_api_Fault x0 x1 = some r → FnOk Tryz.prog 96 [.own 0, .ifc 41 (L_api_Fault x1)] [(0, .bx 41 (L_api_Fault x0))] (bl r.1) [(0, .bx 41 (L_api_Fault r.2))] := by
 unfold m_parse_caught_o1_api_Fault
 refine fs Tryz.func96 fun w S0 γ hγ => ?_
 apply z [2, 31, 1, 5, 2, 30]
 refine s1 (eqN2 Tryz.underlying20 rfl rfl) ?_
 apply z [1]
 refine scF rfl ?_
 apply z [9, 4, 2, 30]
 refine s1 (taT Tryz.underlying41 rfl rfl) ?_
 apply z [30, 35, 35]
 refine o (al' 100) ?_
 apply z [34, 31, 1, 5, 2, 30, 44, 1]
 refine scF rfl ?_
 apply z [9, 4, 2, 30, 32, 48, 34, 1, 2, 31, 1, 8]
 exact rt [(0, 0)]
theorem c_parse_Parse_1_opan {x0} {x1} {e : M_api_Fault} {u : Value} (hu : PlainV (L_api_Fault e) u) : ∀ r, m_parse_Parse_1_opan x0 x1 e = some r → FnD Tryz.prog 95 [.own 0, .own 1] [(0, .bx 41 (L_api_Fault x0)), (1, .bx 57 (L_tree_Field x1))] (.panicking (pan 41 u)) (.panicking (panR 41 u)) [(0, .bx 41 (L_api_Fault r.1)), (1, .bx 57 (L_tree_Field r.2))] := by
 unfold m_parse_Parse_1_opan
 refine fsC Tryz.func95 rfl rfl (lyv := .ifc 41 (L_api_Fault e)) rec_pan (pv_ifc hu) (fun r1 h2 w S0 γ => cG (c_parse_caught_o1_api_Fault _ h2) [0] [] []) fun r1 w S0 γ hγ => ?_
 refine c ?_ ?_
 · apply z [6]
   refine s1 (bld (l := [sli 2 (List.map L_tree_Let []), sli 1 (List.map L_S_tree_Node [])]) pl_57.h ti_57.h zr_tree_Field rfl rfl) ?_
   apply z [34, 3]
   exact rt [(0, 0), (1, 1)]
 apply z [9]
 exact rt [(0, 0), (1, 1)]
theorem c___parse_reader__over {x0_words} {x0_at_} {x0_end_} {x0_deep} {x0_names} : ∀ r, m___parse_reader__over x0_words x0_at_ x0_end_ x0_deep x0_names = some r → FnR Tryz.prog 98 [.own 0] [(0, .bx 294 (.agg [sli 3 (List.map L_lex_Word x0_words), i64 x0_at_, i64 x0_end_, i64 x0_deep, .own 1])), (1, .sl 9 1 (List.map str x0_names))] 41 L_api_Fault (fun r => .tup []) (fun r => [(0, .bx 294 (.agg [sli 3 (List.map L_lex_Word x0_words), i64 x0_at_, i64 x0_end_, i64 x0_deep, .own 1])), (1, .sl 9 1 (List.map str x0_names))]) r := by
 unfold m___parse_reader__over
 refine fsP Tryz.func98 fun w S0 γ hγ => ?_
 apply z [5]
 refine sd ?_
 apply zd [[], [0], [0], [0], [], [0], [0], [0], [], []]
 refine de fol ?_
 apply z [4]
 refine c ?_ ?_
 · apply z [6, 30]
   refine bP [0, 1] c___parse_reader__fail fun r1 h2 => ?_
   refine o (cG (h2) [0, 1] [] [0, 1]) ?_
   apply z [3]
   exact rtR (rt [(0, 0), (1, 1)])
 apply z [9]
 exact rtR (rt [(0, 0), (1, 1)])
theorem c_parse_caught_o1_nil {x0} : ∀ r, m_parse_caught_o1_nil x0 = some r → FnOk Tryz.prog 96 [.ref (L_api_Fault x0), nilI] [] (bl r) [] := by
 unfold m_parse_caught_o1_nil
 refine fs Tryz.func96 fun w S0 γ hγ => ?_
 apply z [2, 31, 1, 5, 2, 30]
 refine s1 (eqN1 Tryz.underlying20 rfl rfl) ?_
 apply z [1]
 refine scT rfl ?_
 apply z [2, 31, 1, 8, 10]
 exact rt []
theorem c_parse_Parse_1_oret {x0} {x1} : ∀ r, m_parse_Parse_1_oret x0 x1 = some r → FnD Tryz.prog 95 [.own 0, .own 1] [(0, .bx 41 (L_api_Fault x0)), (1, .bx 57 (L_tree_Field x1))] .returning .returning [(0, .bx 41 (L_api_Fault x0)), (1, .bx 57 (L_tree_Field r))] := by
 unfold m_parse_Parse_1_oret
 refine fsC Tryz.func95 rfl rfl (lyv := nilI) rec_ret pv_nil (fun r1 h2 w S0 γ => of (callL (em := []) [0] [] [] [] rfl (c_parse_caught_o1_nil _ h2) trivial (pl_bl) ⟨.inr ⟨0, rfl, .inl ⟨rfl, .inr ⟨_, _, rfl, if_L_api_Fault, rfl⟩⟩⟩, .inl ⟨_, rfl, rn_id if_nilI⟩, trivial⟩ (fun _ _ h => by cases h) trivial rfl trivial trivial rfl trivial trivial trivial (rn_id (if_bl)) rfl)) fun r1 w S0 γ hγ => ?_
 refine c ?_ ?_
 · apply z [6]
   refine s1 (bld (l := [sli 2 (List.map L_tree_Let []), sli 1 (List.map L_S_tree_Node [])]) pl_57.h ti_57.h zr_tree_Field rfl rfl) ?_
   apply z [34, 3]
   exact rt [(0, 0), (1, 1)]
 apply z [9]
 exact rt [(0, 0), (1, 1)]
theorem c_parse_Parse {n : Nat} {x0} : ∀ r, m_parse_Parse n x0 = some r → FnOk Tryz.prog 50 [str x0] [] (.tup [L_tree_Field r.1, L_api_Fault r.2]) [] := by
 unfold m_parse_Parse
 refine fsD Tryz.func50 fun w S0 γ hγ => ?_
 apply z [2]
 refine o (al' 100) ?_
 refine o (al' 101) ?_
 apply z [1, 2, 30]
 refine b fun r1 h2 => ?_
 refine o (cG (c_parse_begin _ h2) [] [(102, 50), (103, 70)] []) ?_
 apply z [30, 35, 35, 31, 34, 1, 5, 2, 32]
 refine s1 (bld (l := [i64 0, i64 0, i64 0, i64 0]) pl_41.h ti_41.h zr_api_Fault rfl rfl) ?_
 refine s1 (neA (p := (r1.2.2.2.2.2 : M_api_Fault)) (q := ((⟨0, 0, 0, 0⟩ : M_api_Fault) : M_api_Fault)) eq_41_2 rfl eg_41 rfl rfl rfl) ?_
 apply z [1]
 refine c ?_ ?_
 · apply z [5]
   refine sd ?_
   refine dx [] [] (fun st mm _ _ => og (bld (l := [sli 2 (List.map L_tree_Let []), sli 1 (List.map L_S_tree_Node [])]) pl_57.h ti_57.h zr_tree_Field rfl rfl)) ?_
   apply zd [[101], [100], [101]]
   refine de fol ?_
   apply z [4, 8, 10]
   exact rtD (rt [])
 apply z [9, 4, 2]
 refine s1 (mkC (l := [101, 100]) ⟨rfl, ⟨rfl, trivial⟩⟩ rfl) ?_
 refine sdf rfl fun gd3 us4 hg5 hc6 => ?_
 apply z [1, 2, 30]
 refine bPD [102, 103] c___parse_reader__field (fun e => fun u hu => ?_) fun r7 h8 => ?_
 · refine b fun y9 h10 => ?_
   refine spt ?_
   refine lvP ?_
   refine lvD (lc := [0, 1]) (bs := [101, 100]) hg5 hc6 (c_parse_Parse_1_opan hu _ h10) (fun h => by cases h) set_pan ?_
   exact rt []
 refine o (cG (h8) [102, 103] [(104, 61)] []) ?_
 apply z [34, 1, 2, 30]
 refine bPD [102, 104] c___parse_reader__over (fun e => fun u hu => ?_) fun r11 h12 => ?_
 · refine b fun y13 h14 => ?_
   refine spt ?_
   refine lvP ?_
   refine lvD (lc := [0, 1]) (bs := [101, 100]) hg5 hc6 (c_parse_Parse_1_opan hu _ h14) (fun h => by cases h) set_pan ?_
   exact rt []
 refine o (cG (h12) [102, 104] [] [102, 104]) ?_
 apply z [1, 2, 32]
 refine s1 (bld (l := [i64 0, i64 0, i64 0, i64 0]) pl_41.h ti_41.h zr_api_Fault rfl rfl) ?_
 apply z [34, 34, 1, 8]
 refine b fun y15 h16 => ?_
 refine lvR ?_
 refine lvD (lc := [0, 1]) (bs := [101, 100]) hg5 hc6 (c_parse_Parse_1_oret _ h16) (fun h => by cases h) set_ret ?_
 exact rt []
theorem c___engine_reader__begin {n : Nat} {x0} : ∀ r, m___engine_reader__begin n x0 = some r → FnOk Tryz.prog 29 [.own 0] [(0, .bx 93 (L_engine_reader x0))] (.tup [str r.1, L_tree_Field r.2.1]) [(0, .bx 93 (L_engine_reader r.2.2))] := by
 unfold m___engine_reader__begin
 refine fs Tryz.func29 fun w S0 γ hγ => ?_
 apply z [2, 31]
 refine o (al' 100) ?_
 apply z [1, 2, 30, 48, 33, 36]
 refine cb (ca c_wire_Get) fun r1 => ?_
 apply z [30, 35, 35, 31, 31, 1]
 refine sjq (fun s11 => [(0, .own 0), (2, str ([] : List UInt8)), (3, .own 100), (4, str r1.1)]) (fun s11 => [(0, .bx 93 (L_engine_reader s11)), (100, .bx 57 (L_tree_Field (⟨[], []⟩ : M_tree_Field)))]) ?_ ?_
 · intro j9 hj10
   apply z [2, 30]
   refine cb (ca c_engine_known) fun r12 => ?_
   apply z [44, 1]
   refine c ?_ ?_
   · apply z [6, 30]
     refine cb (ca c_engine_form) fun r14 => ?_
     refine b fun r16 h17 => ?_
     refine o (cG (c___engine_reader__fails _ h17) [0] [] []) ?_
     apply z [1]
     exact sj (hj10 _) (eR [(0, 0), (100, 100)])
   apply z [9, 4]
   exact sj (hj10 _) (eR [(0, 0), (100, 100)])
 intro s11
 apply z [2, 30, 48, 33, 36]
 refine cb (ca c_wire_Get) fun r18 => ?_
 apply z [30, 35, 35, 31, 31, 1, 2, 30]
 refine cb (ca c_parse_Parse) fun r20 => ?_
 apply z [30, 35, 35]
 refine o (al' 101) ?_
 refine o (al' 102) ?_
 apply z [34, 34, 1, 2, 30, 32]
 refine b fun r22 h23 => ?_
 refine o (cG (c___engine_reader__fails _ h23) [0] [] []) ?_
 apply z [1, 5]
 refine sd ?_
 apply zd [[], [101], [], [100]]
 refine de fol ?_
 apply z [4, 8]
 exact rt [(0, 0)]
theorem c_engine_shown_no {x0} : ∀ r, m_engine_shown_no x0 = some r → FnOk Tryz.prog 31 [L_tree_Field x0] [] (L_api_Fault r) [] := by
 unfold m_engine_shown_no
 intro r h; cases h
theorem c___engine_reader__rest_no {x0} {x1} : ∀ r, m___engine_reader__rest_no x0 x1 = some r → FnOk Tryz.prog 33 [.own 0, .own 1] [(0, .bx 93 (L_engine_reader x0)), (1, .bx 77 (L_engine_Request x1))] (.tup []) [(0, .bx 93 (L_engine_reader x0)), (1, .bx 77 (L_engine_Request x1))] := by
 unfold m___engine_reader__rest_no
 intro r h; cases h
theorem c_engine_Read {n : Nat} {x0} : ∀ r, m_engine_Read n x0 = some r → FnOk Tryz.prog 22 [str x0] [] (.tup [L_engine_Request r.1, str r.2.1, L_api_Fault r.2.2]) [] := by
 unfold m_engine_Read
 refine fs Tryz.func22 fun w S0 γ hγ => ?_
 apply z [2]
 refine o (al' 100) ?_
 apply z [31]
 refine o (al' 101) ?_
 apply z [1, 2, 30]
 refine cb (ca c_wire_Unpack) fun r1 => ?_
 apply z [30, 35, 35]
 refine o (al' 102) ?_
 apply z [31, 34, 1, 2, 30, 32]
 refine s1 (bld (l := [sli 2 (List.map L_wire_Piece r1.1), str [], L_api_Fault r1.2]) pl_93.h ti_93.h zr_engine_reader ⟨_, _, _, rfl, rfl, rfl, rfl, (szk (k := 1) rfl rfl), ⟨_, _, _, rfl, rfl, rfl, rfl, (szk (k := 4) rfl rfl), rfl⟩⟩ rfl) ?_
 refine o (bx' 103) ?_
 apply z [31, 1, 2, 30]
 refine b fun r3 h4 => ?_
 refine o (cG (c___engine_reader__names _ h4) [103] [] []) ?_
 apply z [1, 2]
 refine o (al' 104) ?_
 apply z [1, 2, 30]
 refine b fun r5 h6 => ?_
 refine o (cG (c___engine_reader__begin _ h6) [103] [] []) ?_
 apply z [30, 35, 35, 33]
 refine o (stP (L_engine_Request (⟨r5.1, (⟨[], []⟩ : M_tree_Field), (⟨(⟨(⟨[], [], 0, 0⟩ : M_tape_Tape), (⟨[], [], [], [], []⟩ : M_scheme_Scheme), [], 0⟩ : M_step_Problem), (⟨(⟨(⟨false, []⟩ : M_whole_Whole), []⟩ : M_frac_Frac), (⟨(⟨false, []⟩ : M_whole_Whole), []⟩ : M_frac_Frac), (⟨(⟨false, []⟩ : M_whole_Whole), []⟩ : M_frac_Frac), (⟨(⟨false, []⟩ : M_whole_Whole), []⟩ : M_frac_Frac), (⟨(⟨false, []⟩ : M_whole_Whole), []⟩ : M_frac_Frac), 0, 0⟩ : M_pace_Rules), (⟨(⟨false, []⟩ : M_whole_Whole), []⟩ : M_frac_Frac), (⟨(⟨false, []⟩ : M_whole_Whole), []⟩ : M_frac_Frac), (⟨(⟨false, []⟩ : M_whole_Whole), []⟩ : M_frac_Frac), []⟩ : M_adapt_Task), [], [], [], (⟨(⟨false, []⟩ : M_whole_Whole), []⟩ : M_frac_Frac), 0⟩ : M_engine_Request)) [0]) ?_
 apply z [33]
 refine o (stP (L_engine_Request (⟨r5.1, r5.2.1, (⟨(⟨(⟨[], [], 0, 0⟩ : M_tape_Tape), (⟨[], [], [], [], []⟩ : M_scheme_Scheme), [], 0⟩ : M_step_Problem), (⟨(⟨(⟨false, []⟩ : M_whole_Whole), []⟩ : M_frac_Frac), (⟨(⟨false, []⟩ : M_whole_Whole), []⟩ : M_frac_Frac), (⟨(⟨false, []⟩ : M_whole_Whole), []⟩ : M_frac_Frac), (⟨(⟨false, []⟩ : M_whole_Whole), []⟩ : M_frac_Frac), (⟨(⟨false, []⟩ : M_whole_Whole), []⟩ : M_frac_Frac), 0, 0⟩ : M_pace_Rules), (⟨(⟨false, []⟩ : M_whole_Whole), []⟩ : M_frac_Frac), (⟨(⟨false, []⟩ : M_whole_Whole), []⟩ : M_frac_Frac), (⟨(⟨false, []⟩ : M_whole_Whole), []⟩ : M_frac_Frac), []⟩ : M_adapt_Task), [], [], [], (⟨(⟨false, []⟩ : M_whole_Whole), []⟩ : M_frac_Frac), 0⟩ : M_engine_Request)) [1]) ?_
 apply z [1]
 refine sjq (fun s17 => [(2, .own 100), (3, str ([] : List UInt8)), (4, .own 101), (7, .own 103), (8, .own 104)]) (fun s17 => [(100, .bx 77 (L_engine_Request (⟨[], (⟨[], []⟩ : M_tree_Field), (⟨(⟨(⟨[], [], 0, 0⟩ : M_tape_Tape), (⟨[], [], [], [], []⟩ : M_scheme_Scheme), [], 0⟩ : M_step_Problem), (⟨(⟨(⟨false, []⟩ : M_whole_Whole), []⟩ : M_frac_Frac), (⟨(⟨false, []⟩ : M_whole_Whole), []⟩ : M_frac_Frac), (⟨(⟨false, []⟩ : M_whole_Whole), []⟩ : M_frac_Frac), (⟨(⟨false, []⟩ : M_whole_Whole), []⟩ : M_frac_Frac), (⟨(⟨false, []⟩ : M_whole_Whole), []⟩ : M_frac_Frac), 0, 0⟩ : M_pace_Rules), (⟨(⟨false, []⟩ : M_whole_Whole), []⟩ : M_frac_Frac), (⟨(⟨false, []⟩ : M_whole_Whole), []⟩ : M_frac_Frac), (⟨(⟨false, []⟩ : M_whole_Whole), []⟩ : M_frac_Frac), []⟩ : M_adapt_Task), [], [], [], (⟨(⟨false, []⟩ : M_whole_Whole), []⟩ : M_frac_Frac), 0⟩ : M_engine_Request))), (101, .bx 41 (L_api_Fault (⟨0, 0, 0, 0⟩ : M_api_Fault))), (103, .bx 93 (L_engine_reader s17)), (104, .bx 77 (L_engine_Request (⟨r5.1, r5.2.1, (⟨(⟨(⟨[], [], 0, 0⟩ : M_tape_Tape), (⟨[], [], [], [], []⟩ : M_scheme_Scheme), [], 0⟩ : M_step_Problem), (⟨(⟨(⟨false, []⟩ : M_whole_Whole), []⟩ : M_frac_Frac), (⟨(⟨false, []⟩ : M_whole_Whole), []⟩ : M_frac_Frac), (⟨(⟨false, []⟩ : M_whole_Whole), []⟩ : M_frac_Frac), (⟨(⟨false, []⟩ : M_whole_Whole), []⟩ : M_frac_Frac), (⟨(⟨false, []⟩ : M_whole_Whole), []⟩ : M_frac_Frac), 0, 0⟩ : M_pace_Rules), (⟨(⟨false, []⟩ : M_whole_Whole), []⟩ : M_frac_Frac), (⟨(⟨false, []⟩ : M_whole_Whole), []⟩ : M_frac_Frac), (⟨(⟨false, []⟩ : M_whole_Whole), []⟩ : M_frac_Frac), []⟩ : M_adapt_Task), [], [], [], (⟨(⟨false, []⟩ : M_whole_Whole), []⟩ : M_frac_Frac), 0⟩ : M_engine_Request)))]) ?_ ?_
 · intro j15 hj16
   apply z [2, 33, 36, 72, 1]
   refine c ?_ ?_
   · apply z [6, 30, 33, 36]
     refine cb (ca c_engine_shown_no) fun r18 => ?_
     refine b fun r20 h21 => ?_
     refine o (cG (c___engine_reader__fails _ h21) [103] [] []) ?_
     apply z [1]
     exact sj (hj16 _) (eR [(100, 100), (101, 101), (103, 103), (104, 104)])
   apply z [2, 30]
   refine b fun r22 h23 => ?_
   refine s1 (callL (em := []) [103] [] [] [] rfl (c___engine_reader__bad _ h23) trivial (pl_bl) ⟨.inr ⟨103, rfl, .inl ⟨rfl, .inr ⟨_, _, rfl, if_L_engine_reader, rfl⟩⟩⟩, trivial⟩ (fun _ _ h => by cases h) trivial rfl trivial trivial rfl trivial trivial trivial (rn_id (if_bl)) rfl) ?_
   apply z [44, 1]
   refine c ?_ ?_
   · apply z [6, 30]
     refine b fun r24 h25 => ?_
     refine o (cG (c___engine_reader__rest_no _ h25) [103, 104] [] [103, 104]) ?_
     apply z [1]
     exact sj (hj16 _) (eR [(100, 100), (101, 101), (103, 103), (104, 104)])
   apply z [9, 4]
   exact sj (hj16 _) (eR [(100, 100), (101, 101), (103, 103), (104, 104)])
 intro s17
 apply z [5, 2, 30]
 refine b fun r26 h27 => ?_
 refine s1 (callL (em := []) [103] [] [] [] rfl (c___engine_reader__bad _ h27) trivial (pl_bl) ⟨.inr ⟨103, rfl, .inl ⟨rfl, .inr ⟨_, _, rfl, if_L_engine_reader, rfl⟩⟩⟩, trivial⟩ (fun _ _ h => by cases h) trivial rfl trivial trivial rfl trivial trivial trivial (rn_id (if_bl)) rfl) ?_
 apply z [1]
 refine c ?_ ?_
 · apply z [5]
   refine sd ?_
   refine dx [] [] (fun st mm _ _ => og (bld (l := [str [], L_tree_Field (⟨[], []⟩ : M_tree_Field), L_adapt_Task (⟨(⟨(⟨[], [], 0, 0⟩ : M_tape_Tape), (⟨[], [], [], [], []⟩ : M_scheme_Scheme), [], 0⟩ : M_step_Problem), (⟨(⟨(⟨false, []⟩ : M_whole_Whole), []⟩ : M_frac_Frac), (⟨(⟨false, []⟩ : M_whole_Whole), []⟩ : M_frac_Frac), (⟨(⟨false, []⟩ : M_whole_Whole), []⟩ : M_frac_Frac), (⟨(⟨false, []⟩ : M_whole_Whole), []⟩ : M_frac_Frac), (⟨(⟨false, []⟩ : M_whole_Whole), []⟩ : M_frac_Frac), 0, 0⟩ : M_pace_Rules), (⟨(⟨false, []⟩ : M_whole_Whole), []⟩ : M_frac_Frac), (⟨(⟨false, []⟩ : M_whole_Whole), []⟩ : M_frac_Frac), (⟨(⟨false, []⟩ : M_whole_Whole), []⟩ : M_frac_Frac), []⟩ : M_adapt_Task), sli 3 (List.map L_frac_Frac []), sli 3 (List.map L_frac_Frac []), sli 3 (List.map L_frac_Frac []), L_frac_Frac (⟨(⟨false, []⟩ : M_whole_Whole), []⟩ : M_frac_Frac), i64 0]) pl_77.h ti_77.h zr_engine_Request rfl rfl)) ?_
   apply zd [[], [103], [103], [103], [], [103], [103], [103], [100], [], [101]]
   refine de fol ?_
   apply z [4, 8, 10]
   exact rt []
 apply z [9, 4, 2, 32]
 refine s1 (bld (l := [i64 0, i64 0, i64 0, i64 0]) pl_41.h ti_41.h zr_api_Fault rfl rfl) ?_
 apply z [34, 31, 34, 1, 8]
 exact rt []
theorem c_engine_piece {x0} {x1} : ∀ r, m_engine_piece x0 x1 = some r → FnOk Tryz.prog 35 [str x0, str x1] [] (L_wire_Piece r) [] := by
 unfold m_engine_piece
 refine fs Tryz.func35 fun w S0 γ hγ => ?_
 apply z [2]
 refine o (al' 100) ?_
 apply z [1, 2, 30, 30]
 refine s1 (bld (l := [str x0, str x1]) pl_102.h ti_102.h zr_wire_Piece ⟨_, _, _, rfl, rfl, rfl, rfl, (szk (k := 1) rfl rfl), ⟨_, _, _, rfl, rfl, rfl, rfl, (szk (k := 1) rfl rfl), rfl⟩⟩ rfl) ?_
 apply z [34, 1, 8]
 exact rt []
end Go.Proofs.YtcdeknlejjjmlaaGreatDoor
