import Derived.Test.YtpomhkkhdojpiaaDoorGen1
set_option maxRecDepth 100000
set_option maxHeartbeats 4000000
namespace Go.Proofs.YtpomhkkhdojpiaaDoor
open Go Go.RowKit
theorem c_nat_fresh {x0} {x1} : ∀ r, m_nat_fresh x0 x1 = some r → FnOk Tryd.prog 68 [sli 1 (List.map u32 x0), i64 x1] [] (.own 50) [(50, .sl 85 1 (List.map u32 r))] := by
 unfold m_nat_fresh
 refine fs Tryd.func68 fun w S0 γ hγ => ?_
 apply z [2]
 refine s1 (asg rfl (kLm (k := 1) u32)) ?_
 apply z [1, 2, 30, 39, 30, 40]
 refine b fun y1 h2 => ?_
 refine so (mks (y := 100) (f := u32) h2 Tryd.underlying42 ti_85.h zr_u32 rfl rfl rfl rfl rfl rfl) ?_
 apply z [31, 1, 2, 30, 30]
 refine so (cpy (f := u32) rfl Tryd.underlying42 ti_85.h rfl rfl (.inl rfl) rfl) ?_
 apply z [1, 2, 30, 31, 1, 8]
 exact rt [(50, 100)]
theorem c_nat_Norm {n : Nat} {x0} : ∀ r, m_nat_Norm n x0 = some r → FnOk Tryd.prog 62 [sli 1 (List.map u32 x0)] [] (.own 50) [(50, .sl 85 1 (List.map u32 r))] := by
 unfold m_nat_Norm
 refine fs Tryd.func62 fun w S0 γ hγ => ?_
 apply z [2]
 refine s1 (asg rfl (kLm (k := 1) u32)) ?_
 apply z [1, 2, 30]
 refine cb (ca c_nat_trim) fun r1 => ?_
 refine b fun r3 h4 => ?_
 refine o (cG (c_nat_fresh _ h4) [] [(100, 50)] []) ?_
 apply z [31, 1, 8]
 exact rt [(50, 100)]
theorem c_prod_Word {n : Nat} {x0} {x1} {x2} : ∀ r, m_prod_Word n x0 x1 x2 = some r → FnOk Tryd.prog 67 [sli 1 (List.map u32 x0), u32 x1, u32 x2] [] (sli 1 (List.map u32 r)) [] := by
 unfold m_prod_Word
 refine fs Tryd.func67 fun w S0 γ hγ => ?_
 apply z [2]
 refine s1 (asg rfl (kLm (k := 1) u32)) ?_
 apply z [1, 2, 30, 39, 40]
 refine b fun y1 h2 => ?_
 refine so (mks (y := 100) (f := u32) h2 Tryd.underlying42 ti_85.h zr_u32 rfl rfl rfl rfl rfl rfl) ?_
 apply z [31, 1, 2, 30, 30, 30, 30]
 refine b fun r3 h4 => ?_
 refine o (cG (c_prod_row _ h4) [100] [] []) ?_
 apply z [1, 2, 30]
 refine b fun r5 h6 => ?_
 refine so (callL (em := [(101, .sl 85 1 (List.map u32 r5))]) (res' := .own 101) [100] [] [(101, 50)] [(101, 50)] rfl (c_nat_Norm _ h6) ⟨pls_map (f := u32) (fun _ => pl_u32) _, trivial⟩ (pl_own) ⟨.inr ⟨100, rfl, .inl ⟨rfl, .inl ⟨_, _, _, rfl, ifs_map (f := u32) (fun _ => if_u32) r3, rfl⟩⟩⟩, trivial⟩ (MiF.get (mi := []) trivial) trivial rfl ⟨rfl, trivial⟩ ⟨.inl rfl, trivial⟩ rfl ⟨.inl ⟨_, _, rfl, rfl, rc_sl (ifs_map (f := u32) (fun _ => if_u32) r5)⟩, trivial⟩ trivial ⟨⟨_, rfl⟩, trivial⟩ (rn_own rfl) rfl) ?_
 apply z [31, 1, 8]
 refine fz 101 [6, 18] [] ?_
 exact rt []
theorem c_digits_Read {n : Nat} {x0} : ∀ r, m_digits_Read n x0 = some r → FnOk Tryd.prog 61 [str x0] [] (.tup [sli 1 (List.map u32 r.1), L_api_Fault r.2]) [] := by
 unfold m_digits_Read
 refine fs Tryd.func61 fun w S0 γ hγ => ?_
 apply z [2]
 refine s1 (asg rfl (kLm (k := 1) u32)) ?_
 refine o (al' 100) ?_
 apply z [1, 5, 2, 30]
 refine cb (ca c_digits_wrong) fun r1 => ?_
 apply z [31, 1, 2, 30, 57, 1]
 refine c ?_ ?_
 · apply z [2, 30]
   refine s1 (bld (l := [i64 (1 : Int), i64 0, i64 0, i64 r1]) pl_25.h ti_25.h zr_api_Fault ⟨_, _, _, (kI (x := 1) rfl), rfl, rfl, rfl, (szk (k := 1) rfl rfl), ⟨_, _, _, rfl, rfl, rfl, rfl, (szk (k := 1) rfl rfl), rfl⟩⟩ rfl) ?_
   refine s1 (asg rfl (kLm (k := 1) u32)) ?_
   apply z [34, 1, 8, 10]
   exact rt []
 apply z [9, 4, 2]
 refine s1 (asg rfl (kLm (k := 1) u32)) ?_
 apply z [1, 5, 2, 31, 1, 7]
 refine sloopE 0 (fun t => t) (fun s49 => [(0, str x0), (2, sli 1 (List.map u32 ([] : List Nat))), (3, .own 100), (5, sli 1 (List.map u32 s49.1)), (6, i64 s49.2)]) (fun s49 => [(100, .bx 25 (L_api_Fault (⟨0, 0, 0, 0⟩ : M_api_Fault)))]) (fun t47 => [(2, sli 1 (List.map u32 ([] : List Nat))), (3, .own 100), (5, sli 1 (List.map u32 t47))]) (fun t47 => [(100, .bx 25 (L_api_Fault (⟨0, 0, 0, 0⟩ : M_api_Fault)))]) (eR [(100, 100)]) ?_ ?_
 · intro hj48 s49
   apply z [5, 2, 30, 30, 54, 46, 1]
   refine c ?_ ?_
   · apply z [9, 4, 7, 2, 31, 31, 1, 5, 2, 31, 1, 7]
     refine sloopE 2 (fun t => t) (fun s59 => [(0, str x0), (2, sli 1 (List.map u32 ([] : List Nat))), (3, .own 100), (5, sli 1 (List.map u32 s49.1)), (6, i64 s59.1), (7, u32 s59.2.1), (8, u32 s59.2.2.1), (9, i64 s59.2.2.2)]) (fun s59 => [(100, .bx 25 (L_api_Fault (⟨0, 0, 0, 0⟩ : M_api_Fault)))]) (fun t57 => [(0, str x0), (2, sli 1 (List.map u32 ([] : List Nat))), (3, .own 100), (5, sli 1 (List.map u32 s49.1)), (6, i64 t57.1), (7, u32 t57.2.1), (8, u32 t57.2.2)]) (fun t57 => [(100, .bx 25 (L_api_Fault (⟨0, 0, 0, 0⟩ : M_api_Fault)))]) (eR [(100, 100)]) ?_ ?_
     · intro hj58 s59
       apply z [5]
       refine sjq (fun s62 => [(0, str x0), (2, sli 1 (List.map u32 ([] : List Nat))), (3, .own 100), (5, sli 1 (List.map u32 s49.1)), (6, i64 s59.1), (7, u32 s59.2.1), (8, u32 s59.2.2.1), (9, i64 s59.2.2.2), (27, bl s62)]) (fun s62 => [(100, .bx 25 (L_api_Fault (⟨0, 0, 0, 0⟩ : M_api_Fault)))]) ?_ ?_
       · intro j60 hj61
         apply z [6, 30, 46, 30]
         refine sifd 22 rfl ?_ ?_
         · apply z [22, 22, 22, 22, 38, 1]
           exact sj (hj61 _) (eR [(100, 100)])
         apply z [23, 23, 23, 23, 37, 1]
         exact sj (hj61 _) (eR [(100, 100)])
       intro s62
       refine c ?_ ?_
       · apply z [9, 4, 5, 7, 2, 30, 63, 30, 30]
         refine b fun y63 h64 => ?_
         apply z [90, 62, 59, 61]
         refine sbn (F := u32) 37 rfl fun z65 => ?_
         apply z [31, 1, 2, 30, 63, 31, 1, 6, 30, 40, 31, 3, 11, 4, 6, 30, 40, 31, 3]
         exact sgo (eR [(100, 100)])
       apply z [14, 15]
       exact su (sj (hj58 _) (eR [(100, 100)]))
     intro t57
     apply z [13, 4, 6, 30, 30, 30]
     refine cb (ca c_prod_Word) fun r66 => ?_
     apply z [31, 3, 11]
     exact sgo (eR [(100, 100)])
   apply z [14, 15]
   exact su (sj (hj48 _) (eR [(100, 100)]))
 intro t47
 apply z [13, 4, 2, 30]
 refine s1 (bld (l := [i64 0, i64 0, i64 0, i64 0]) pl_25.h ti_25.h zr_api_Fault rfl rfl) ?_
 apply z [31, 34, 1, 8]
 exact rt []
theorem c___parse_reader__small {x0_words} {x0_at_} {x0_end_} {x0_deep} {x0_names} : ∀ r, m___parse_reader__small x0_words x0_at_ x0_end_ x0_deep x0_names = some r → FnR Tryd.prog 58 [.own 0] [(0, .bx 70 (.agg [sli 3 (List.map L_lex_Word x0_words), i64 x0_at_, i64 x0_end_, i64 x0_deep, .own 1])), (1, .sl 9 1 (List.map str x0_names))] 25 L_api_Fault (fun r => i64 r.1) (fun r => [(0, .bx 70 (.agg [sli 3 (List.map L_lex_Word r.2.1), i64 r.2.2.1, i64 r.2.2.2.1, i64 r.2.2.2.2, .own 1])), (1, .sl 9 1 (List.map str x0_names))]) r := by
 unfold m___parse_reader__small
 refine fsP Tryd.func58 fun w S0 γ hγ => ?_
 apply z [2, 31, 1, 2, 30]
 refine b fun r1 h2 => ?_
 refine o (cG (c___parse_reader__next _ h2) [0, 1] [] [0, 1]) ?_
 refine o (al' 100) ?_
 apply z [34, 1]
 refine sjq (fun s10 => [(0, .own 0), (2, i64 (0 : Int)), (3, .own 100)]) (fun s10 => [(0, .bx 70 (.agg [sli 3 (List.map L_lex_Word x0_words), i64 x0_at_, i64 x0_end_, i64 x0_deep, .own 1])), (1, .sl 9 1 (List.map str x0_names)), (100, .bx 49 (L_lex_Word r1))]) ?_ ?_
 · intro j8 hj9
   refine sjq (fun s13 => [(0, .own 0), (2, i64 (0 : Int)), (3, .own 100), (16, bl s13)]) (fun s13 => [(0, .bx 70 (.agg [sli 3 (List.map L_lex_Word x0_words), i64 x0_at_, i64 x0_end_, i64 x0_deep, .own 1])), (1, .sl 9 1 (List.map str x0_names)), (100, .bx 49 (L_lex_Word r1))]) ?_ ?_
   · intro j11 hj12
     apply z [6, 33, 36, 56, 30]
     refine sifd 11 rfl ?_ ?_
     · apply z [23, 23, 23, 23, 38, 1]
       exact sj (hj12 _) (eR [(0, 0), (1, 1), (100, 100)])
     apply z [22, 22, 22, 22, 37, 1]
     exact sj (hj12 _) (eR [(0, 0), (1, 1), (100, 100)])
   intro s13
   refine c ?_ ?_
   · apply z [6, 30]
     refine bP [0, 1] c___parse_reader__fail fun r14 h15 => ?_
     refine o (cG (h15) [0, 1] [] [0, 1]) ?_
     apply z [1]
     exact sj (hj9 _) (eR [(0, 0), (1, 1), (100, 100)])
   apply z [9, 4]
   exact sj (hj9 _) (eR [(0, 0), (1, 1), (100, 100)])
 intro s10
 apply z [2, 30, 48, 33, 36, 40, 48, 33]
 refine o (stP (.agg [sli 3 (List.map L_lex_Word x0_words), i64 (wrap64 (x0_at_ + (1 : Int))), i64 x0_end_, i64 x0_deep, .own 1]) [1]) ?_
 apply z [1, 2, 33, 36]
 refine cb (ca c_strconv_Atoi) fun r16 => ?_
 apply z [30, 35, 35, 31, 31, 1, 2, 30, 31, 1, 8]
 exact rtR (rt [(0, 0), (1, 1)])
theorem c___parse_reader__component {x0_words} {x0_at_} {x0_end_} {x0_deep} {x0_names} {x1} : ∀ r, m___parse_reader__component x0_words x0_at_ x0_end_ x0_deep x0_names x1 = some r → FnR Tryd.prog 63 [.own 0, i64 x1] [(0, .bx 70 (.agg [sli 3 (List.map L_lex_Word x0_words), i64 x0_at_, i64 x0_end_, i64 x0_deep, .own 1])), (1, .sl 9 1 (List.map str x0_names))] 25 L_api_Fault (fun r => .own 50) (fun r => [(0, .bx 70 (.agg [sli 3 (List.map L_lex_Word r.2.1), i64 r.2.2.1, i64 r.2.2.2.1, i64 r.2.2.2.2, .own 1])), (1, .sl 9 1 (List.map str x0_names)), (50, .sl 44 3 (List.map L_tree_Node r.1))]) r := by
 unfold m___parse_reader__component
 refine fsP Tryd.func63 fun w S0 γ hγ => ?_
 apply z [2]
 refine s1 (asg rfl (kLm (k := 3) L_tree_Node)) ?_
 apply z [1, 2, 30, 48, 33, 36, 40, 48, 33]
 refine o (stP (.agg [sli 3 (List.map L_lex_Word x0_words), i64 (wrap64 (x0_at_ + (1 : Int))), i64 x0_end_, i64 x0_deep, .own 1]) [1]) ?_
 apply z [1, 2, 30]
 refine bP [0, 1] c___parse_reader__need fun r1 h2 => ?_
 refine o (cG (h2) [0, 1] [] [1]) ?_
 apply z [1, 2, 30]
 refine bP [0, 1] c___parse_reader__small fun r3 h4 => ?_
 refine o (cG (h4) [0, 1] [] [1]) ?_
 apply z [31, 1, 2, 30]
 refine bP [0, 1] c___parse_reader__need fun r5 h6 => ?_
 refine o (cG (h6) [0, 1] [] [1]) ?_
 apply z [1, 2, 30, 30]
 refine s1 (bld (l := [i64 x1, i64 r3.1, sli 1 (List.map u32 [])]) pl_44.h ti_44.h zr_tree_Node ⟨_, _, _, rfl, rfl, rfl, rfl, (szk (k := 1) rfl rfl), ⟨_, _, _, rfl, rfl, rfl, rfl, (szk (k := 1) rfl rfl), rfl⟩⟩ rfl) ?_
 refine so (bsl (y := 100) (ls := List.map L_tree_Node ([(⟨x1, r3.1, []⟩ : M_tree_Node)] : List M_tree_Node)) Tryd.underlying36 ti_44.h rfl rfl rfl rfl rfl ⟨rfl, rfl, (by exact rfl), (by exact rfl), trivial⟩ rfl rfl) ?_
 apply z [31, 1, 8]
 exact rtR (rt [(0, 0), (1, 1), (50, 100)])
theorem c___parse_reader__open {x0_words} {x0_at_} {x0_end_} {x0_deep} {x0_names} : ∀ r, m___parse_reader__open x0_words x0_at_ x0_end_ x0_deep x0_names = some r → FnR Tryd.prog 52 [.own 0] [(0, .bx 70 (.agg [sli 3 (List.map L_lex_Word x0_words), i64 x0_at_, i64 x0_end_, i64 x0_deep, .own 1])), (1, .sl 9 1 (List.map str x0_names))] 25 L_api_Fault (fun r => .tup []) (fun r => [(0, .bx 70 (.agg [sli 3 (List.map L_lex_Word r.1), i64 r.2.1, i64 r.2.2.1, i64 r.2.2.2, .own 1])), (1, .sl 9 1 (List.map str x0_names))]) r := by
 unfold m___parse_reader__open
 refine fsP Tryd.func52 fun w S0 γ hγ => ?_
 refine sjq (fun s5 => [(0, .own 0)]) (fun s5 => [(0, .bx 70 (.agg [sli 3 (List.map L_lex_Word x0_words), i64 s5, i64 x0_end_, i64 x0_deep, .own 1])), (1, .sl 9 1 (List.map str x0_names))]) ?_ ?_
 · intro j3 hj4
   apply z [2, 30, 48, 33, 36, 41, 1]
   refine c ?_ ?_
   · apply z [2, 30, 48, 33, 36, 49, 48, 33]
     refine o (stP (.agg [sli 3 (List.map L_lex_Word x0_words), i64 (wrap64 (x0_at_ - (1 : Int))), i64 x0_end_, i64 x0_deep, .own 1]) [1]) ?_
     apply z [1, 6, 30]
     refine bP [0, 1] c___parse_reader__fail fun r6 h7 => ?_
     refine o (cG (h7) [0, 1] [] [0, 1]) ?_
     apply z [1]
     exact sj (hj4 _) (eR [(0, 0), (1, 1)])
   apply z [9, 4]
   exact sj (hj4 _) (eR [(0, 0), (1, 1)])
 intro s5
 apply z [6, 30, 48, 33, 36, 40, 48, 33]
 refine o (stP (.agg [sli 3 (List.map L_lex_Word x0_words), i64 s5, i64 x0_end_, i64 (wrap64 (x0_deep + (1 : Int))), .own 1]) [3]) ?_
 apply z [3]
 exact rtR (rt [(0, 0), (1, 1)])
theorem c___parse_reader__meant {x0_words} {x0_at_} {x0_end_} {x0_deep} {x0_names} {x1} : ∀ r, m___parse_reader__meant x0_words x0_at_ x0_end_ x0_deep x0_names x1 = some r → FnOk Tryd.prog 64 [.own 0, str x1] [(0, .bx 70 (.agg [sli 3 (List.map L_lex_Word x0_words), i64 x0_at_, i64 x0_end_, i64 x0_deep, .own 1])), (1, .sl 9 1 (List.map str x0_names))] (i64 r) [(0, .bx 70 (.agg [sli 3 (List.map L_lex_Word x0_words), i64 x0_at_, i64 x0_end_, i64 x0_deep, .own 1])), (1, .sl 9 1 (List.map str x0_names))] := by
 unfold m___parse_reader__meant
 refine fs Tryd.func64 fun w S0 γ hγ => ?_
 apply z [2, 31, 1, 5, 2, 30, 48, 33, 36, 55, 30, 1, 7]
 refine srN (fun s6 => [(1, str x1), (4, i64 (0 : Int)), (10, .own 1)]) (fun s6 => [(0, .bx 70 (.agg [sli 3 (List.map L_lex_Word x0_words), i64 x0_at_, i64 x0_end_, i64 x0_deep, .own 1])), (1, .sl 9 1 (List.map str x0_names))]) (rE (eR [(0, 0), (1, 1)])) ?_ ?_
 · intro i7 x8 s6 hx9
   apply z [7, 2, 30, 50, 51, 31, 31, 1, 2, 30, 30, 72, 1]
   refine c ?_ ?_
   · apply z [2, 30, 31, 1, 8, 12]
     refine sU ?_
     apply z [12, 10]
     exact rt [(0, 0), (1, 1)]
   apply z [9, 11]
   exact sgo (eR [(0, 0), (1, 1)])
 intro s10
 apply z [13, 4, 2, 31, 1, 8]
 exact rt [(0, 0), (1, 1)]
theorem c___parse_reader__atom {me___parse_reader__expr : (List M_lex_Word) → Int → Int → Int → (List (List UInt8)) → Option (Except M_api_Fault ((List M_tree_Node) × (List M_lex_Word) × Int × Int × Int × (List (List UInt8))))} (he___parse_reader__expr : ∀ {x0_words : (List M_lex_Word)} {x0_at_ : Int} {x0_end_ : Int} {x0_deep : Int} {x0_names : (List (List UInt8))}, ∀ r, me___parse_reader__expr x0_words x0_at_ x0_end_ x0_deep x0_names = some r → FnR Tryd.prog 23 [.own 0] [(0, .bx 70 (.agg [sli 3 (List.map L_lex_Word x0_words), i64 x0_at_, i64 x0_end_, i64 x0_deep, .own 1])), (1, .sl 9 1 (List.map str x0_names))] 25 L_api_Fault (fun r => .own 50) (fun r => [(0, .bx 70 (.agg [sli 3 (List.map L_lex_Word r.2.1), i64 r.2.2.1, i64 r.2.2.2.1, i64 r.2.2.2.2.1, .own 61])), (1, .gone), (50, .sl 44 3 (List.map L_tree_Node r.1)), (61, .sl 9 1 (List.map str r.2.2.2.2.2))]) r) {n : Nat} {x0_words} {x0_at_} {x0_end_} {x0_deep} {x0_names} : ∀ r, m___parse_reader__atom me___parse_reader__expr n x0_words x0_at_ x0_end_ x0_deep x0_names = some r → FnR Tryd.prog 57 [.own 0] [(0, .bx 70 (.agg [sli 3 (List.map L_lex_Word x0_words), i64 x0_at_, i64 x0_end_, i64 x0_deep, .own 1])), (1, .sl 9 1 (List.map str x0_names))] 25 L_api_Fault (fun r => .own 50) (fun r => [(0, .bx 70 (.agg [sli 3 (List.map L_lex_Word r.2.1), i64 r.2.2.1, i64 r.2.2.2.1, i64 r.2.2.2.2.1, .own 61])), (1, .gone), (50, .sl 44 3 (List.map L_tree_Node r.1)), (61, .sl 9 1 (List.map str r.2.2.2.2.2))]) r := by
 unfold m___parse_reader__atom
 refine fsP Tryd.func57 fun w S0 γ hγ => ?_
 apply z [2]
 refine s1 (asg rfl (kLm (k := 3) L_tree_Node)) ?_
 apply z [1, 2, 30]
 refine b fun r1 h2 => ?_
 refine o (cG (c___parse_reader__next _ h2) [0, 1] [] [0, 1]) ?_
 refine o (al' 100) ?_
 apply z [34, 1, 5, 7, 2, 33, 36, 41, 31, 1]
 refine c ?_ ?_
 · apply z [2, 30, 48, 33, 36, 40, 48, 33]
   refine o (stP (.agg [sli 3 (List.map L_lex_Word x0_words), i64 (wrap64 (x0_at_ + (1 : Int))), i64 x0_end_, i64 x0_deep, .own 1]) [1]) ?_
   apply z [1, 2, 33, 36]
   refine cb (ca c_digits_Read) fun r3 => ?_
   apply z [30, 35, 35]
   refine o (al' 101) ?_
   apply z [31, 34, 1, 2, 30]
   refine b fun r5 h6 => ?_
   refine o (cG (c_nat_Norm _ h6) [] [(102, 50)] []) ?_
   refine fz 102 [27] [] ?_
   refine s1 (bld (l := [i64 (1 : Int), i64 0, sli 1 (List.map u32 r5)]) pl_44.h ti_44.h zr_tree_Node ⟨_, _, _, (kI (x := 1) rfl), rfl, rfl, rfl, (szk (k := 1) rfl rfl), ⟨_, _, _, rfl, rfl, rfl, rfl, (szk (k := 1) rfl rfl), rfl⟩⟩ rfl) ?_
   refine so (bsl (y := 103) (ls := List.map L_tree_Node ([(⟨(1 : Int), 0, r5⟩ : M_tree_Node)] : List M_tree_Node)) Tryd.underlying36 ti_44.h rfl rfl rfl rfl rfl ⟨rfl, rfl, (by exact rfl), (by exact rfl), trivial⟩ rfl rfl) ?_
   apply z [31, 1, 8, 12, 10]
   exact rtR (rt [(0, 0), (1, 1), (50, 103), (61, 1)])
 apply z [2, 33, 36, 72, 31, 1]
 refine c ?_ ?_
 · apply z [2, 30, 48, 33, 36, 40, 48, 33]
   refine o (stP (.agg [sli 3 (List.map L_lex_Word x0_words), i64 (wrap64 (x0_at_ + (1 : Int))), i64 x0_end_, i64 x0_deep, .own 1]) [1]) ?_
   apply z [1, 2]
   refine s1 (bld (l := [i64 (2 : Int), i64 0, sli 1 (List.map u32 [])]) pl_44.h ti_44.h zr_tree_Node ⟨_, _, _, (kI (x := 2) rfl), rfl, rfl, rfl, (szk (k := 1) rfl rfl), rfl⟩ rfl) ?_
   refine so (bsl (y := 101) (ls := List.map L_tree_Node ([(⟨(2 : Int), 0, []⟩ : M_tree_Node)] : List M_tree_Node)) Tryd.underlying36 ti_44.h rfl rfl rfl rfl rfl ⟨rfl, rfl, (by exact rfl), (by exact rfl), trivial⟩ rfl rfl) ?_
   apply z [31, 1, 8, 12, 10]
   exact rtR (rt [(0, 0), (1, 1), (50, 101), (61, 1)])
 apply z [2, 33, 36, 72, 31, 1]
 refine c ?_ ?_
 · apply z [2, 30]
   refine bP [0, 1] c___parse_reader__component fun r7 h8 => ?_
   refine o (cG (h8) [0, 1] [(101, 50)] [1]) ?_
   apply z [31, 1, 8, 12, 10]
   exact rtR (rt [(0, 0), (1, 1), (50, 101), (61, 1)])
 apply z [2, 33, 36, 72, 31, 1]
 refine c ?_ ?_
 · apply z [2, 30]
   refine bP [0, 1] c___parse_reader__component fun r9 h10 => ?_
   refine o (cG (h10) [0, 1] [(101, 50)] [1]) ?_
   apply z [31, 1, 8, 12, 10]
   exact rtR (rt [(0, 0), (1, 1), (50, 101), (61, 1)])
 apply z [2, 30]
 refine b fun r11 h12 => ?_
 refine o (cG (c___parse_reader__has _ h12) [0, 1] [] [1]) ?_
 apply z [31, 1]
 refine c ?_ ?_
 · apply z [2, 30]
   refine bP [0, 1] c___parse_reader__open fun r13 h14 => ?_
   refine o (cG (h14) [0, 1] [] [1]) ?_
   apply z [1, 2, 30]
   refine bP [0, 1] he___parse_reader__expr fun r15 h16 => ?_
   refine o (cG (h16) [0, 1] [(101, 50), (102, 61)] []) ?_
   apply z [31, 1, 2, 30]
   refine bP [0, 102] c___parse_reader__need fun r17 h18 => ?_
   refine o (cG (h18) [0, 102] [] [102]) ?_
   apply z [1, 2, 30, 48, 33, 36, 49, 48, 33]
   refine o (stP (.agg [sli 3 (List.map L_lex_Word r17.1), i64 r17.2.1, i64 r17.2.2.1, i64 (wrap64 (r17.2.2.2 - (1 : Int))), .own 102]) [3]) ?_
   apply z [1, 2, 30, 31, 1, 8, 12, 10]
   exact rtR (rt [(0, 0), (1, 1), (50, 101), (61, 102)])
 apply z [9, 11, 4, 2, 30, 30]
 refine bP [0, 1] c___parse_reader__name fun r19 h20 => ?_
 refine o (cG (h20) [0, 1] [] [1]) ?_
 refine b fun r21 h22 => ?_
 refine o (cG (c___parse_reader__meant _ h22) [0, 1] [] [0, 1]) ?_
 refine s1 (bld (l := [i64 (5 : Int), i64 r21, sli 1 (List.map u32 [])]) pl_44.h ti_44.h zr_tree_Node ⟨_, _, _, (kI (x := 5) rfl), rfl, rfl, rfl, (szk (k := 1) rfl rfl), ⟨_, _, _, rfl, rfl, rfl, rfl, (szk (k := 1) rfl rfl), rfl⟩⟩ rfl) ?_
 refine so (bsl (y := 101) (ls := List.map L_tree_Node ([(⟨(5 : Int), r21, []⟩ : M_tree_Node)] : List M_tree_Node)) Tryd.underlying36 ti_44.h rfl rfl rfl rfl rfl ⟨rfl, rfl, (by exact rfl), (by exact rfl), trivial⟩ rfl rfl) ?_
 apply z [31, 1, 8]
 exact rtR (rt [(0, 0), (1, 1), (50, 101), (61, 1)])
theorem c___parse_reader__power {me___parse_reader__expr : (List M_lex_Word) → Int → Int → Int → (List (List UInt8)) → Option (Except M_api_Fault ((List M_tree_Node) × (List M_lex_Word) × Int × Int × Int × (List (List UInt8))))} (he___parse_reader__expr : ∀ {x0_words : (List M_lex_Word)} {x0_at_ : Int} {x0_end_ : Int} {x0_deep : Int} {x0_names : (List (List UInt8))}, ∀ r, me___parse_reader__expr x0_words x0_at_ x0_end_ x0_deep x0_names = some r → FnR Tryd.prog 23 [.own 0] [(0, .bx 70 (.agg [sli 3 (List.map L_lex_Word x0_words), i64 x0_at_, i64 x0_end_, i64 x0_deep, .own 1])), (1, .sl 9 1 (List.map str x0_names))] 25 L_api_Fault (fun r => .own 50) (fun r => [(0, .bx 70 (.agg [sli 3 (List.map L_lex_Word r.2.1), i64 r.2.2.1, i64 r.2.2.2.1, i64 r.2.2.2.2.1, .own 61])), (1, .gone), (50, .sl 44 3 (List.map L_tree_Node r.1)), (61, .sl 9 1 (List.map str r.2.2.2.2.2))]) r) {n : Nat} {x0_words} {x0_at_} {x0_end_} {x0_deep} {x0_names} : ∀ r, m___parse_reader__power me___parse_reader__expr n x0_words x0_at_ x0_end_ x0_deep x0_names = some r → FnR Tryd.prog 51 [.own 0] [(0, .bx 70 (.agg [sli 3 (List.map L_lex_Word x0_words), i64 x0_at_, i64 x0_end_, i64 x0_deep, .own 1])), (1, .sl 9 1 (List.map str x0_names))] 25 L_api_Fault (fun r => .own 50) (fun r => [(0, .bx 70 (.agg [sli 3 (List.map L_lex_Word r.2.1), i64 r.2.2.1, i64 r.2.2.2.1, i64 r.2.2.2.2.1, .own 61])), (1, .gone), (50, .sl 44 3 (List.map L_tree_Node r.1)), (61, .sl 9 1 (List.map str r.2.2.2.2.2))]) r := by
 unfold m___parse_reader__power
 refine fsP Tryd.func51 fun w S0 γ hγ => ?_
 apply z [2]
 refine s1 (asg rfl (kLm (k := 3) L_tree_Node)) ?_
 apply z [1, 2, 30]
 refine bP [0, 1] (c___parse_reader__atom @he___parse_reader__expr) fun r1 h2 => ?_
 refine o (cG (h2) [0, 1] [(100, 50), (101, 61)] []) ?_
 apply z [31, 1, 5, 2, 30]
 refine b fun r3 h4 => ?_
 refine o (cG (c___parse_reader__has _ h4) [0, 101] [] [101]) ?_
 apply z [44, 1]
 refine c ?_ ?_
 · apply z [2, 30, 31, 1, 8, 10]
   exact rtR (rt [(0, 0), (1, 1), (50, 100), (61, 101)])
 apply z [9, 4, 2, 30]
 refine b fun r5 h6 => ?_
 refine o (cG (c___parse_reader__has _ h6) [0, 101] [] [101]) ?_
 apply z [31, 1, 2, 30]
 refine bP [0, 101] c___parse_reader__small fun r7 h8 => ?_
 refine o (cG (h8) [0, 101] [] [101]) ?_
 apply z [31, 1]
 refine sjq (fun s11 => [(2, sli 3 (List.map L_tree_Node ([] : List M_tree_Node))), (3, .own 100), (5, i64 s11)]) (fun s11 => [(1, .gone), (0, .bx 70 (.agg [sli 3 (List.map L_lex_Word r7.2.1), i64 r7.2.2.1, i64 r7.2.2.2.1, i64 r7.2.2.2.2, .own 101])), (101, .sl 9 1 (List.map str r1.2.2.2.2.2)), (100, .sl 44 3 (List.map L_tree_Node r1.1))]) ?_ ?_
 · intro j9 hj10
   apply z [2, 30, 1]
   refine c ?_ ?_
   · apply z [6, 30, 82, 31, 1]
     exact sj (hj10 _) (eR [(1, 1), (0, 0), (101, 101), (100, 100)])
   apply z [9, 4]
   exact sj (hj10 _) (eR [(1, 1), (0, 0), (101, 101), (100, 100)])
 intro s11
 apply z [2, 30, 30]
 refine s1 (bld (l := [i64 (11 : Int), i64 s11, sli 1 (List.map u32 [])]) pl_44.h ti_44.h zr_tree_Node ⟨_, _, _, (kI (x := 11) rfl), rfl, rfl, rfl, (szk (k := 1) rfl rfl), ⟨_, _, _, rfl, rfl, rfl, rfl, (szk (k := 1) rfl rfl), rfl⟩⟩ rfl) ?_
 refine so (bsl (y := 102) (ls := List.map L_tree_Node ([(⟨(11 : Int), s11, []⟩ : M_tree_Node)] : List M_tree_Node)) Tryd.underlying36 ti_44.h rfl rfl rfl rfl rfl ⟨rfl, rfl, (by exact rfl), (by exact rfl), trivial⟩ rfl rfl) ?_
 refine b fun y12 h13 => ?_
 refine o (app' 103) ?_
 apply z [31, 1, 8]
 exact rtR (rt [(0, 0), (1, 1), (50, 103), (61, 101)])
theorem c___parse_reader__factor {me___parse_reader__expr : (List M_lex_Word) → Int → Int → Int → (List (List UInt8)) → Option (Except M_api_Fault ((List M_tree_Node) × (List M_lex_Word) × Int × Int × Int × (List (List UInt8))))} (he___parse_reader__expr : ∀ {x0_words : (List M_lex_Word)} {x0_at_ : Int} {x0_end_ : Int} {x0_deep : Int} {x0_names : (List (List UInt8))}, ∀ r, me___parse_reader__expr x0_words x0_at_ x0_end_ x0_deep x0_names = some r → FnR Tryd.prog 23 [.own 0] [(0, .bx 70 (.agg [sli 3 (List.map L_lex_Word x0_words), i64 x0_at_, i64 x0_end_, i64 x0_deep, .own 1])), (1, .sl 9 1 (List.map str x0_names))] 25 L_api_Fault (fun r => .own 50) (fun r => [(0, .bx 70 (.agg [sli 3 (List.map L_lex_Word r.2.1), i64 r.2.2.1, i64 r.2.2.2.1, i64 r.2.2.2.2.1, .own 61])), (1, .gone), (50, .sl 44 3 (List.map L_tree_Node r.1)), (61, .sl 9 1 (List.map str r.2.2.2.2.2))]) r) : ∀ {n : Nat} {x0_words} {x0_at_} {x0_end_} {x0_deep} {x0_names}, ∀ r, m___parse_reader__factor me___parse_reader__expr n x0_words x0_at_ x0_end_ x0_deep x0_names = some r → FnR Tryd.prog 47 [.own 0] [(0, .bx 70 (.agg [sli 3 (List.map L_lex_Word x0_words), i64 x0_at_, i64 x0_end_, i64 x0_deep, .own 1])), (1, .sl 9 1 (List.map str x0_names))] 25 L_api_Fault (fun r => .own 50) (fun r => [(0, .bx 70 (.agg [sli 3 (List.map L_lex_Word r.2.1), i64 r.2.2.1, i64 r.2.2.2.1, i64 r.2.2.2.2.1, .own 61])), (1, .gone), (50, .sl 44 3 (List.map L_tree_Node r.1)), (61, .sl 9 1 (List.map str r.2.2.2.2.2))]) r := by
  intro n
  induction n with
  | zero => intro x0_words x0_at_ x0_end_ x0_deep x0_names r h; exact absurd h (by simp [m___parse_reader__factor])
  | succ n ih =>
    intro x0_words x0_at_ x0_end_ x0_deep x0_names
    unfold m___parse_reader__factor
    refine fsP Tryd.func47 fun w S0 γ hγ => ?_
    apply z [2]
    refine s1 (asg rfl (kLm (k := 3) L_tree_Node)) ?_
    apply z [1, 5, 2, 30]
    refine b fun r1 h2 => ?_
    refine o (cG (c___parse_reader__has _ h2) [0, 1] [] [1]) ?_
    apply z [44, 1]
    refine c ?_ ?_
    · apply z [2, 30]
      refine bP [0, 1] (c___parse_reader__power @he___parse_reader__expr) fun r3 h4 => ?_
      refine o (cG (h4) [0, 1] [(100, 50), (101, 61)] []) ?_
      apply z [31, 1, 8, 10]
      exact rtR (rt [(0, 0), (1, 1), (50, 100), (61, 101)])
    apply z [9, 4, 2, 30]
    refine bP [0, 1] c___parse_reader__open fun r5 h6 => ?_
    refine o (cG (h6) [0, 1] [] [1]) ?_
    apply z [1, 2, 30]
    refine bP [0, 1] ih fun r7 h8 => ?_
    refine o (cG (h8) [0, 1] [(100, 50), (101, 61)] []) ?_
    apply z [31, 1, 2, 30, 48, 33, 36, 49, 48, 33]
    refine o (stP (.agg [sli 3 (List.map L_lex_Word r7.2.1), i64 r7.2.2.1, i64 r7.2.2.2.1, i64 (wrap64 (r7.2.2.2.2.1 - (1 : Int))), .own 101]) [3]) ?_
    apply z [1, 2, 30]
    refine s1 (bld (l := [i64 (6 : Int), i64 0, sli 1 (List.map u32 [])]) pl_44.h ti_44.h zr_tree_Node ⟨_, _, _, (kI (x := 6) rfl), rfl, rfl, rfl, (szk (k := 1) rfl rfl), rfl⟩ rfl) ?_
    refine so (bsl (y := 102) (ls := List.map L_tree_Node ([(⟨(6 : Int), 0, []⟩ : M_tree_Node)] : List M_tree_Node)) Tryd.underlying36 ti_44.h rfl rfl rfl rfl rfl ⟨rfl, rfl, (by exact rfl), (by exact rfl), trivial⟩ rfl rfl) ?_
    refine b fun y9 h10 => ?_
    refine o (app' 103) ?_
    apply z [31, 1, 8]
    exact rtR (rt [(0, 0), (1, 1), (50, 103), (61, 101)])
theorem c___parse_reader__chain_o1___parse_reader__factor {me___parse_reader__expr : (List M_lex_Word) → Int → Int → Int → (List (List UInt8)) → Option (Except M_api_Fault ((List M_tree_Node) × (List M_lex_Word) × Int × Int × Int × (List (List UInt8))))} (he___parse_reader__expr : ∀ {x0_words : (List M_lex_Word)} {x0_at_ : Int} {x0_end_ : Int} {x0_deep : Int} {x0_names : (List (List UInt8))}, ∀ r, me___parse_reader__expr x0_words x0_at_ x0_end_ x0_deep x0_names = some r → FnR Tryd.prog 23 [.own 0] [(0, .bx 70 (.agg [sli 3 (List.map L_lex_Word x0_words), i64 x0_at_, i64 x0_end_, i64 x0_deep, .own 1])), (1, .sl 9 1 (List.map str x0_names))] 25 L_api_Fault (fun r => .own 50) (fun r => [(0, .bx 70 (.agg [sli 3 (List.map L_lex_Word r.2.1), i64 r.2.2.1, i64 r.2.2.2.1, i64 r.2.2.2.2.1, .own 61])), (1, .gone), (50, .sl 44 3 (List.map L_tree_Node r.1)), (61, .sl 9 1 (List.map str r.2.2.2.2.2))]) r) {n : Nat} {x0_words} {x0_at_} {x0_end_} {x0_deep} {x0_names} {x2} {x3} {x4} {x5} : ∀ r, m___parse_reader__chain_o1___parse_reader__factor me___parse_reader__expr n x0_words x0_at_ x0_end_ x0_deep x0_names x2 x3 x4 x5 = some r → FnR Tryd.prog 38 [.own 0, .bnd 47 [.own 0], str x2, str x3, i64 x4, i64 x5] [(0, .bx 70 (.agg [sli 3 (List.map L_lex_Word x0_words), i64 x0_at_, i64 x0_end_, i64 x0_deep, .own 1])), (1, .sl 9 1 (List.map str x0_names))] 25 L_api_Fault (fun r => .own 50) (fun r => [(0, .bx 70 (.agg [sli 3 (List.map L_lex_Word r.2.1), i64 r.2.2.1, i64 r.2.2.2.1, i64 r.2.2.2.2.1, .own 61])), (1, .gone), (50, .sl 44 3 (List.map L_tree_Node r.1)), (61, .sl 9 1 (List.map str r.2.2.2.2.2))]) r := by
 unfold m___parse_reader__chain_o1___parse_reader__factor
 refine fsP Tryd.func38 fun w S0 γ hγ => ?_
 apply z [2]
 refine s1 (asg rfl (kLm (k := 3) L_tree_Node)) ?_
 apply z [1, 2, 30]
 refine bPB (lb := [_]) (la := []) [0, 1] (c___parse_reader__factor @he___parse_reader__expr) rfl rfl (rns_cons (rn_own rfl) (rns_nil)) fun r1 h2 => ?_
 refine so (callB (lb := [_]) (la := []) (em := [(100, .sl 44 3 (List.map L_tree_Node r1.1)), (1, .gone), (101, .sl 9 1 (List.map str r1.2.2.2.2.2)), (0, .bx 70 (.agg [sli 3 (List.map L_lex_Word r1.2.1), i64 r1.2.2.1, i64 r1.2.2.2.1, i64 r1.2.2.2.2.1, .own 101]))]) (res' := .own 100) [(0, 0), (1, 1)] [(100, 50), (101, 61)] [(100, 50), (101, 61), (0, 0)] rfl (h2) rfl (rns_cons (rn_own rfl) (rns_nil)) trivial (MiF.get (mi := [(0, _), (1, _)]) ⟨⟨_, _, rfl, rfl, rc_bx (rn_agg (rns_cons (rn_id if_sli) (rns_cons (rn_id if_i64) (rns_cons (rn_id if_i64) (rns_cons (rn_id if_i64) (rns_cons (rn_own rfl) (rns_nil)))))))⟩, ⟨_, _, rfl, rfl, rc_sl (ifs_map (f := str) (fun _ => if_str) x0_names)⟩, trivial⟩) ⟨⟨_, rfl⟩, ⟨_, rfl⟩, trivial⟩ rfl ⟨rfl, rfl, trivial⟩ ⟨.inl rfl, .inl rfl, .inr rfl, trivial⟩ rfl ⟨.inl ⟨_, _, rfl, rfl, rc_sl (ifs_map (f := L_tree_Node) (fun _ => if_L_tree_Node) r1.1)⟩, .inr ⟨rfl, 1, .tail _ (.head _)⟩, .inl ⟨_, _, rfl, rfl, rc_sl (ifs_map (f := str) (fun _ => if_str) r1.2.2.2.2.2)⟩, .inl ⟨_, _, rfl, rfl, rc_bx (rn_agg (rns_cons (rn_id if_sli) (rns_cons (rn_id if_i64) (rns_cons (rn_id if_i64) (rns_cons (rn_id if_i64) (rns_cons (rn_own rfl) (rns_nil)))))))⟩, trivial⟩ ⟨⟨_, rfl⟩, ⟨_, rfl⟩, trivial⟩ ⟨⟨_, rfl⟩, ⟨_, rfl⟩, trivial⟩ (rn_own rfl) rfl) ?_
 apply z [31, 1, 7]
 refine sloop0 (fun s41 => [(0, .own 0), (1, .bnd 47 [.own 0]), (2, str x2), (3, str x3), (4, i64 x4), (5, i64 x5), (12, sli 3 (List.map L_tree_Node ([] : List M_tree_Node))), (13, .own 100)]) (fun s41 => [(1, .gone), (0, .bx 70 (.agg [sli 3 (List.map L_lex_Word s41.1), i64 s41.2.1, i64 s41.2.2.1, i64 s41.2.2.2.1, .own 101])), (101, .sl 9 1 (List.map str s41.2.2.2.2.1)), (100, .sl 44 3 (List.map L_tree_Node s41.2.2.2.2.2))]) (eR [(1, 1), (0, 0), (101, 101), (100, 100)]) ?_
 intro s41
 apply z [7, 2, 31, 1]
 refine sjq (fun s48 => [(0, .own 0), (1, .bnd 47 [.own 0]), (2, str x2), (3, str x3), (4, i64 x4), (5, i64 x5), (12, sli 3 (List.map L_tree_Node ([] : List M_tree_Node))), (13, .own 100), (14, i64 s48.2.2.2.2)]) (fun s48 => [(1, .gone), (0, .bx 70 (.agg [sli 3 (List.map L_lex_Word s48.1), i64 s48.2.1, i64 s48.2.2.1, i64 s48.2.2.2.1, .own 101])), (101, .sl 9 1 (List.map str s41.2.2.2.2.1)), (100, .sl 44 3 (List.map L_tree_Node s41.2.2.2.2.2))]) ?_ ?_
 · intro j46 hj47
   apply z [7, 2, 30, 30]
   refine b fun r49 h50 => ?_
   refine o (cG (c___parse_reader__has _ h50) [0, 101] [] [101]) ?_
   apply z [31, 1]
   refine c ?_ ?_
   · apply z [6, 30, 31, 3, 11, 4]
     exact sj (hj47 _) (eR [(1, 1), (0, 0), (101, 101), (100, 100)])
   apply z [2, 30, 30]
   refine b fun r51 h52 => ?_
   refine o (cG (c___parse_reader__has _ h52) [0, 101] [] [101]) ?_
   apply z [31, 1]
   refine c ?_ ?_
   · apply z [6, 30, 31, 3, 11, 4]
     exact sj (hj47 _) (eR [(1, 1), (0, 0), (101, 101), (100, 100)])
   apply z [2, 30, 31, 1, 8, 12, 10, 12]
   refine sU ?_
   apply z [12]
   exact rtR (rt [(0, 0), (1, 1), (50, 100), (61, 101)])
 intro s48
 apply z [6, 30, 30]
 refine bPB (lb := [_]) (la := []) [0, 101] (c___parse_reader__factor @he___parse_reader__expr) rfl rfl (rns_cons (rn_own rfl) (rns_nil)) fun r53 h54 => ?_
 refine so (callB (lb := [_]) (la := []) (em := [(102, .sl 44 3 (List.map L_tree_Node r53.1)), (101, .gone), (103, .sl 9 1 (List.map str r53.2.2.2.2.2)), (0, .bx 70 (.agg [sli 3 (List.map L_lex_Word r53.2.1), i64 r53.2.2.1, i64 r53.2.2.2.1, i64 r53.2.2.2.2.1, .own 103]))]) (res' := .own 102) [(0, 0), (1, 101)] [(102, 50), (103, 61)] [(102, 50), (103, 61), (0, 0)] rfl (h54) rfl (rns_cons (rn_own rfl) (rns_nil)) trivial (MiF.get (mi := [(0, _), (1, _)]) ⟨⟨_, _, rfl, rfl, rc_bx (rn_agg (rns_cons (rn_id if_sli) (rns_cons (rn_id if_i64) (rns_cons (rn_id if_i64) (rns_cons (rn_id if_i64) (rns_cons (rn_own rfl) (rns_nil)))))))⟩, ⟨_, _, rfl, rfl, rc_sl (ifs_map (f := str) (fun _ => if_str) s41.2.2.2.2.1)⟩, trivial⟩) ⟨⟨_, rfl⟩, ⟨_, rfl⟩, trivial⟩ rfl ⟨rfl, rfl, trivial⟩ ⟨.inl rfl, .inl rfl, .inr rfl, trivial⟩ rfl ⟨.inl ⟨_, _, rfl, rfl, rc_sl (ifs_map (f := L_tree_Node) (fun _ => if_L_tree_Node) r53.1)⟩, .inr ⟨rfl, 1, .tail _ (.head _)⟩, .inl ⟨_, _, rfl, rfl, rc_sl (ifs_map (f := str) (fun _ => if_str) r53.2.2.2.2.2)⟩, .inl ⟨_, _, rfl, rfl, rc_bx (rn_agg (rns_cons (rn_id if_sli) (rns_cons (rn_id if_i64) (rns_cons (rn_id if_i64) (rns_cons (rn_id if_i64) (rns_cons (rn_own rfl) (rns_nil)))))))⟩, trivial⟩ ⟨⟨_, rfl⟩, ⟨_, rfl⟩, trivial⟩ ⟨⟨_, rfl⟩, ⟨_, rfl⟩, trivial⟩ (rn_own rfl) rfl) ?_
 refine b fun y55 h56 => ?_
 refine o (app' 104) ?_
 apply z [30]
 refine s1 (bld (l := [i64 s48.2.2.2.2, i64 0, sli 1 (List.map u32 [])]) pl_44.h ti_44.h zr_tree_Node ⟨_, _, _, rfl, rfl, rfl, rfl, (szk (k := 1) rfl rfl), rfl⟩ rfl) ?_
 refine so (bsl (y := 105) (ls := List.map L_tree_Node ([(⟨s48.2.2.2.2, 0, []⟩ : M_tree_Node)] : List M_tree_Node)) Tryd.underlying36 ti_44.h rfl rfl rfl rfl rfl ⟨rfl, rfl, (by exact rfl), (by exact rfl), trivial⟩ rfl rfl) ?_
 refine b fun y57 h58 => ?_
 refine o (app' 106) ?_
 apply z [31, 3, 11]
 exact sgo (eR [(1, 1), (0, 0), (101, 103), (100, 106)])
theorem c___parse_reader__term {me___parse_reader__expr : (List M_lex_Word) → Int → Int → Int → (List (List UInt8)) → Option (Except M_api_Fault ((List M_tree_Node) × (List M_lex_Word) × Int × Int × Int × (List (List UInt8))))} (he___parse_reader__expr : ∀ {x0_words : (List M_lex_Word)} {x0_at_ : Int} {x0_end_ : Int} {x0_deep : Int} {x0_names : (List (List UInt8))}, ∀ r, me___parse_reader__expr x0_words x0_at_ x0_end_ x0_deep x0_names = some r → FnR Tryd.prog 23 [.own 0] [(0, .bx 70 (.agg [sli 3 (List.map L_lex_Word x0_words), i64 x0_at_, i64 x0_end_, i64 x0_deep, .own 1])), (1, .sl 9 1 (List.map str x0_names))] 25 L_api_Fault (fun r => .own 50) (fun r => [(0, .bx 70 (.agg [sli 3 (List.map L_lex_Word r.2.1), i64 r.2.2.1, i64 r.2.2.2.1, i64 r.2.2.2.2.1, .own 61])), (1, .gone), (50, .sl 44 3 (List.map L_tree_Node r.1)), (61, .sl 9 1 (List.map str r.2.2.2.2.2))]) r) {n : Nat} {x0_words} {x0_at_} {x0_end_} {x0_deep} {x0_names} : ∀ r, m___parse_reader__term me___parse_reader__expr n x0_words x0_at_ x0_end_ x0_deep x0_names = some r → FnR Tryd.prog 39 [.own 0] [(0, .bx 70 (.agg [sli 3 (List.map L_lex_Word x0_words), i64 x0_at_, i64 x0_end_, i64 x0_deep, .own 1])), (1, .sl 9 1 (List.map str x0_names))] 25 L_api_Fault (fun r => .own 50) (fun r => [(0, .bx 70 (.agg [sli 3 (List.map L_lex_Word r.2.1), i64 r.2.2.1, i64 r.2.2.2.1, i64 r.2.2.2.2.1, .own 61])), (1, .gone), (50, .sl 44 3 (List.map L_tree_Node r.1)), (61, .sl 9 1 (List.map str r.2.2.2.2.2))]) r := by
 unfold m___parse_reader__term
 refine fsP Tryd.func39 fun w S0 γ hγ => ?_
 apply z [2]
 refine s1 (asg rfl (kLm (k := 3) L_tree_Node)) ?_
 apply z [1, 2, 30, 30]
 refine s1 (mkB (l := [.own 0]) ⟨rfl, trivial⟩ rfl) ?_
 refine bP [0, 1] (c___parse_reader__chain_o1___parse_reader__factor @he___parse_reader__expr) fun r1 h2 => ?_
 refine o (cG (h2) [0, 1] [(100, 50), (101, 61)] []) ?_
 apply z [31, 1, 8]
 exact rtR (rt [(0, 0), (1, 1), (50, 100), (61, 101)])
end Go.Proofs.YtpomhkkhdojpiaaDoor
