import Derived.Test.YtcdeknlejjjmlaaGreatDoorGen2
set_option maxRecDepth 100000
set_option maxHeartbeats 4000000
namespace Go.Proofs.YtcdeknlejjjmlaaGreatDoor
open Go Go.RowKit
theorem c_wire_Unpack {n : Nat} {x0} : ∀ r, m_wire_Unpack n x0 = some r → FnOk Tryz.prog 27 [str x0] [] (.tup [sli 2 (List.map L_wire_Piece r.1), L_api_Fault r.2]) [] := by
 unfold m_wire_Unpack
 refine fs Tryz.func27 fun w S0 γ hγ => ?_
 apply z [2]
 refine s1 (asg rfl (kLm (k := 2) L_wire_Piece)) ?_
 refine o (al' 100) ?_
 apply z [1, 2]
 refine so (asgN (y := 101) (E := 102) (k := 2) rfl rfl) ?_
 apply z [1, 2, 30]
 refine s1 (bld (l := [str x0, i64 0]) pl_117.h ti_117.h zr_wire_reader ⟨_, _, _, rfl, rfl, rfl, rfl, (szk (k := 1) rfl rfl), rfl⟩ rfl) ?_
 refine o (bx' 102) ?_
 apply z [31, 1, 5, 7]
 refine sloopE 0 Lp.go (fun s13 => [(0, str x0), (2, sli 2 (List.map L_wire_Piece ([] : List M_wire_Piece))), (3, .own 100), (4, .own 101), (5, .own 102)]) (fun s13 => [(100, .bx 41 (L_api_Fault (⟨0, 0, 0, 0⟩ : M_api_Fault))), (101, .sl 102 2 (List.map L_wire_Piece s13.1)), (102, .bx 117 (L_wire_reader s13.2))]) (fun t11 => [(2, sli 2 (List.map L_wire_Piece ([] : List M_wire_Piece))), (3, .own 100), (4, .own 101)]) (fun t11 => [(100, .bx 41 (L_api_Fault (⟨0, 0, 0, 0⟩ : M_api_Fault))), (101, .sl 102 2 (List.map L_wire_Piece t11))]) (eR [(100, 100), (101, 101), (102, 102)]) ?_ ?_
 · intro hj12 s13
   apply z [5, 2, 30, 48, 33, 36, 30, 54, 46, 1]
   refine c ?_ ?_
   · apply z [9, 4, 7, 2, 30]
     refine b fun r14 h15 => ?_
     refine o (cG (c___wire_reader__piece _ h15) [102] [] []) ?_
     apply z [30, 35, 35]
     refine o (al' 103) ?_
     refine o (al' 104) ?_
     apply z [34, 34, 1, 5, 2, 32]
     refine s1 (bld (l := [i64 0, i64 0, i64 0, i64 0]) pl_41.h ti_41.h zr_api_Fault rfl rfl) ?_
     refine s1 (neA (p := (r14.2.1 : M_api_Fault)) (q := ((⟨0, 0, 0, 0⟩ : M_api_Fault) : M_api_Fault)) eq_41_2 rfl eg_41 rfl rfl rfl) ?_
     apply z [1]
     refine c ?_ ?_
     · apply z [5]
       refine sd ?_
       apply zd [[104]]
       refine dx [] [] (fun st mm _ _ => og (asg rfl (kLm (k := 2) L_wire_Piece))) ?_
       apply zd [[100]]
       refine de fol ?_
       apply z [4, 8, 10, 12]
       refine sU ?_
       apply z [12, 10]
       exact rt []
     apply z [9, 4, 6, 30, 32]
     refine so (bsl (y := 105) (ls := List.map L_wire_Piece ([r14.1] : List M_wire_Piece)) Tryz.underlying88 ti_102.h rfl rfl rfl rfl rfl ⟨rfl, rfl, (by exact rfl), (by exact rfl), trivial⟩ rfl rfl) ?_
     refine b fun y16 h17 => ?_
     refine o (app' 106) ?_
     apply z [31, 3, 11]
     exact sgo (eR [(100, 100), (101, 106), (102, 102)])
   apply z [14, 15]
   exact su (sj (hj12 _) (eR [(100, 100), (101, 101)]))
 intro t11
 refine slpk ?_
 apply z [13, 4, 5, 2, 30]
 refine b fun r18 h19 => ?_
 refine s1 (callL (em := []) [101] [] [] [] rfl (c_wire_may _ h19) trivial (pl_bl) ⟨.inr ⟨101, rfl, .inl ⟨rfl, .inl ⟨_, _, _, rfl, ifs_map (f := L_wire_Piece) (fun _ => if_L_wire_Piece) t11, rfl⟩⟩⟩, trivial⟩ (fun _ _ h => by cases h) trivial rfl trivial trivial rfl trivial trivial trivial (rn_id (if_bl)) rfl) ?_
 apply z [44, 1]
 refine c ?_ ?_
 · apply z [2]
   refine s1 (bld (l := [i64 (2 : Int), i64 0, i64 0, i64 0]) pl_41.h ti_41.h zr_api_Fault ⟨_, _, _, (kI (x := 2) rfl), rfl, rfl, rfl, (szk (k := 1) rfl rfl), rfl⟩ rfl) ?_
   refine s1 (asg rfl (kLm (k := 2) L_wire_Piece)) ?_
   apply z [34, 1, 8, 10]
   exact rt []
 apply z [9, 4, 2, 30]
 refine s1 (bld (l := [i64 0, i64 0, i64 0, i64 0]) pl_41.h ti_41.h zr_api_Fault rfl rfl) ?_
 apply z [31, 34, 1, 8]
 refine fz 101 [2, 4, 31, 35] [] ?_
 exact rt []
theorem c_engine_Names  : ∀ r, m_engine_Names  = some r → FnOk Tryz.prog 46 [] [] (sli 1 (List.map str r)) [] := by
 unfold m_engine_Names
 refine fs Tryz.func46 fun w S0 γ hγ => ?_
 apply z [2]
 refine s1 (asg rfl (kLm (k := 1) str)) ?_
 apply z [1, 2]
 refine so (bsl (y := 100) (ls := List.map str ([([100, 111] : List UInt8), ([102, 105, 101, 108, 100] : List UInt8), ([115, 99, 104, 101, 109, 101] : List UInt8), ([112] : List UInt8), ([98, 105, 116, 115] : List UInt8), ([116, 111, 108] : List UInt8), ([115, 97, 102, 101] : List UInt8), ([108, 111, 119] : List UInt8), ([104, 105, 103, 104] : List UInt8), ([108, 101, 97, 115, 116] : List UInt8), ([102, 105, 110, 101] : List UInt8), ([109, 111, 115, 116] : List UInt8), ([115, 116, 97, 114, 116] : List UInt8), ([101, 110, 100] : List UInt8), ([102, 105, 114, 115, 116] : List UInt8), ([121] : List UInt8), ([119] : List UInt8), ([117] : List UInt8), ([118] : List UInt8), ([115] : List UInt8), ([107] : List UInt8)] : List (List UInt8))) Tryz.underlying110 ti_9.h rfl rfl rfl rfl rfl ⟨rfl, (kS (s := [100, 111]) rfl), (by exact rfl), (by exact rfl), rfl, (kS (s := [102, 105, 101, 108, 100]) rfl), (by exact rfl), (by exact rfl), rfl, (kS (s := [115, 99, 104, 101, 109, 101]) rfl), (by exact rfl), (by exact rfl), rfl, (kS (s := [112]) rfl), (by exact rfl), (by exact rfl), rfl, (kS (s := [98, 105, 116, 115]) rfl), (by exact rfl), (by exact rfl), rfl, (kS (s := [116, 111, 108]) rfl), (by exact rfl), (by exact rfl), rfl, (kS (s := [115, 97, 102, 101]) rfl), (by exact rfl), (by exact rfl), rfl, (kS (s := [108, 111, 119]) rfl), (by exact rfl), (by exact rfl), rfl, (kS (s := [104, 105, 103, 104]) rfl), (by exact rfl), (by exact rfl), rfl, (kS (s := [108, 101, 97, 115, 116]) rfl), (by exact rfl), (by exact rfl), rfl, (kS (s := [102, 105, 110, 101]) rfl), (by exact rfl), (by exact rfl), rfl, (kS (s := [109, 111, 115, 116]) rfl), (by exact rfl), (by exact rfl), rfl, (kS (s := [115, 116, 97, 114, 116]) rfl), (by exact rfl), (by exact rfl), rfl, (kS (s := [101, 110, 100]) rfl), (by exact rfl), (by exact rfl), rfl, (kS (s := [102, 105, 114, 115, 116]) rfl), (by exact rfl), (by exact rfl), rfl, (kS (s := [121]) rfl), (by exact rfl), (by exact rfl), rfl, (kS (s := [119]) rfl), (by exact rfl), (by exact rfl), rfl, (kS (s := [117]) rfl), (by exact rfl), (by exact rfl), rfl, (kS (s := [118]) rfl), (by exact rfl), (by exact rfl), rfl, (kS (s := [115]) rfl), (by exact rfl), (by exact rfl), rfl, (kS (s := [107]) rfl), (by exact rfl), (by exact rfl), trivial⟩ rfl rfl) ?_
 refine sbm (C := fun x => .sl 9 1 (List.map str x)) 100 rfl fun z1 => ?_
 apply z [31, 1, 8]
 refine fz 100 [0, 1] [] ?_
 exact rt []
theorem c_slices_Index___string_string_ {x0} {x1} : ∀ r, m_slices_Index___string_string_ x0 x1 = some r → FnOk Tryz.prog 92 [sli 1 (List.map str x0), str x1] [] (i64 r) [] := by
 unfold m_slices_Index___string_string_
 refine fs Tryz.func92 fun w S0 γ hγ => ?_
 apply z [2, 31, 1, 5, 2, 30, 39, 30, 1, 7]
 refine srN (fun s6 => [(0, sli 1 (List.map str x0)), (1, str x1), (4, i64 (0 : Int))]) (fun s6 => []) (rE eI) ?_ ?_
 · intro i7 x8 s6 hx9
   apply z [7, 2, 30, 31, 1, 2, 30, 30, 30, 43, 42, 72, 1]
   refine c ?_ ?_
   · apply z [2, 30, 31, 1, 8, 12]
     refine sU ?_
     apply z [12, 10]
     exact rt []
   apply z [9, 11]
   exact sgo eI
 intro s10
 apply z [13, 4, 2, 31, 1, 8]
 exact rt []
theorem c_slices_Contains___string_string_ {x0} {x1} : ∀ r, m_slices_Contains___string_string_ x0 x1 = some r → FnOk Tryz.prog 45 [sli 1 (List.map str x0), str x1] [] (bl r) [] := by
 unfold m_slices_Contains___string_string_
 refine fs Tryz.func45 fun w S0 γ hγ => ?_
 apply z [2, 31, 1, 2, 30, 30]
 refine cb (ca c_slices_Index___string_string_) fun r1 => ?_
 apply z [57, 31, 1, 8]
 exact rt []
theorem c_engine_form  : ∀ r, m_engine_form  = some r → FnOk Tryz.prog 47 [] [] (L_api_Fault r) [] := by
 unfold m_engine_form
 refine fs Tryz.func47 fun w S0 γ hγ => ?_
 apply z [2]
 refine o (al' 100) ?_
 apply z [1, 2]
 refine s1 (bld (l := [i64 (2 : Int), i64 0, i64 0, i64 0]) pl_41.h ti_41.h zr_api_Fault ⟨_, _, _, (kI (x := 2) rfl), rfl, rfl, rfl, (szk (k := 1) rfl rfl), rfl⟩ rfl) ?_
 apply z [34, 1, 8]
 exact rt []
theorem c___engine_reader__bad {x0} : ∀ r, m___engine_reader__bad x0 = some r → FnOk Tryz.prog 32 [.ref (L_engine_reader x0)] [] (bl r) [] := by
 unfold m___engine_reader__bad
 refine fs Tryz.func32 fun w S0 γ hγ => ?_
 apply z [2, 31, 1, 2, 30, 48, 92, 42]
 refine s1 (bld (l := [i64 0, i64 0, i64 0, i64 0]) pl_41.h ti_41.h zr_api_Fault rfl rfl) ?_
 refine s1 (neA (p := (x0.f : M_api_Fault)) (q := ((⟨0, 0, 0, 0⟩ : M_api_Fault) : M_api_Fault)) eq_41_2 rfl eg_41 rfl rfl rfl) ?_
 apply z [31, 1, 8]
 exact rt []
theorem c___engine_reader__fails {x0} {x1} {x2} : ∀ r, m___engine_reader__fails x0 x1 x2 = some r → FnOk Tryz.prog 30 [.own 0, str x1, L_api_Fault x2] [(0, .bx 93 (L_engine_reader x0))] (.tup []) [(0, .bx 93 (L_engine_reader r))] := by
 unfold m___engine_reader__fails
 refine fs Tryz.func30 fun w S0 γ hγ => ?_
 apply z [2]
 refine o (bx' 100) ?_
 apply z [1]
 refine sjq (fun s5 => [(0, .own 0), (1, str x1), (5, .own 100), (13, bl s5)]) (fun s5 => [(0, .bx 93 (L_engine_reader x0)), (100, .bx 41 (L_api_Fault x2))]) ?_ ?_
 · intro j3 hj4
   apply z [6, 30]
   refine b fun r6 h7 => ?_
   refine s1 (callL (em := []) [0] [] [] [] rfl (c___engine_reader__bad _ h7) trivial (pl_bl) ⟨.inr ⟨0, rfl, .inl ⟨rfl, .inr ⟨_, _, rfl, if_L_engine_reader, rfl⟩⟩⟩, trivial⟩ (fun _ _ h => by cases h) trivial rfl trivial trivial rfl trivial trivial trivial (rn_id (if_bl)) rfl) ?_
   apply z [44, 30]
   refine sifd 9 rfl ?_ ?_
   · apply z [22]
     refine sg 9 rfl rfl (bld (l := [i64 0, i64 0, i64 0, i64 0]) pl_41.h ti_41.h zr_api_Fault rfl rfl) ?_
     refine sg 9 rfl rfl (neA (p := (x2 : M_api_Fault)) (q := ((⟨0, 0, 0, 0⟩ : M_api_Fault) : M_api_Fault)) eq_41_2 rfl eg_41 rfl rfl rfl) ?_
     apply z [38, 1]
     exact sj (hj4 _) (eR [(0, 0), (100, 100)])
   apply z [23, 23, 23, 37, 1]
   exact sj (hj4 _) (eR [(0, 0), (100, 100)])
 intro s5
 refine c ?_ ?_
 · refine sd ?_
   apply zd [[], [], [], [100], [0], [0]]
   refine dd [0] (fun _ _ _ _ => stP (L_engine_reader (⟨x0.l, x1, x0.f⟩ : M_engine_reader)) [1]) ?_
   apply zd [[0], [0]]
   refine dd [0] (fun _ _ _ _ => stP (L_engine_reader (⟨x0.l, x1, x2⟩ : M_engine_reader)) [2]) ?_
   refine de fol ?_
   exact rt [(0, 0)]
 apply z [9]
 exact rt [(0, 0)]
theorem c___engine_reader__names {x0} : ∀ r, m___engine_reader__names x0 = some r → FnOk Tryz.prog 28 [.own 0] [(0, .bx 93 (L_engine_reader x0))] (.tup []) [(0, .bx 93 (L_engine_reader r))] := by
 unfold m___engine_reader__names
 refine fs Tryz.func28 fun w S0 γ hγ => ?_
 apply z [2, 30, 48, 33, 36, 39, 30, 1, 7]
 refine srN (fun s26 => [(0, .own 0), (7, sli 2 (List.map L_wire_Piece x0.l))]) (fun s26 => [(0, .bx 93 (L_engine_reader s26))]) (rE (eR [(0, 0)])) ?_ ?_
 · intro i27 x28 s26 hx29
   apply z [7, 2, 43, 42]
   refine o (al' 100) ?_
   apply z [34, 1, 5]
   refine b fun r30 h31 => ?_
   refine b fun r32 h33 => ?_
   refine sd ?_
   refine dd [] (fun _ _ _ _ => c0 (c_engine_Names _ h31)) ?_
   apply zd [[100], [100]]
   refine dd [] (fun _ _ _ _ => c0 (c_slices_Contains___string_string_ _ h33)) ?_
   apply zd [[]]
   refine de fol ?_
   apply z [4]
   refine c ?_ ?_
   · refine b fun r34 h35 => ?_
     refine b fun r36 h37 => ?_
     refine sd ?_
     apply zd [[], [100], [100]]
     refine dd [] (fun _ _ _ _ => c0 (c_engine_form _ h35)) ?_
     refine dd [0] (fun _ _ _ _ => cG (c___engine_reader__fails _ h37) [0] [] []) ?_
     refine de fol ?_
     apply z [11]
     exact sgo (eR [(0, 0)])
   apply z [9, 11]
   exact sgo (eR [(0, 0)])
 intro s38
 apply z [13]
 exact rt [(0, 0)]
theorem c_wire_Get {x0} {x1} : ∀ r, m_wire_Get x0 x1 = some r → FnOk Tryz.prog 48 [sli 2 (List.map L_wire_Piece x0), str x1] [] (.tup [str r.1, bl r.2]) [] := by
 unfold m_wire_Get
 refine fs Tryz.func48 fun w S0 γ hγ => ?_
 apply z [2, 31, 31, 1, 5, 2, 30, 39, 30, 1, 7]
 refine srN (fun s6 => [(1, str x1), (4, str ([] : List UInt8)), (5, bl false), (8, sli 2 (List.map L_wire_Piece x0))]) (fun s6 => []) (rE eI) ?_ ?_
 · intro i7 x8 s6 hx9
   apply z [7, 2, 43, 42]
   refine o (al' 100) ?_
   apply z [34, 1, 2, 33, 36, 30, 72, 1]
   refine c ?_ ?_
   · apply z [2, 33, 36, 31, 31, 1, 8, 12]
     refine sU ?_
     apply z [12, 10]
     exact rt []
   apply z [9, 11]
   exact sgo (eR [])
 intro s10
 apply z [13, 4, 2, 31, 31, 1, 8]
 exact rt []
theorem c_engine_deeds  : ∀ r, m_engine_deeds  = some r → FnOk Tryz.prog 93 [] [] (sli 1 (List.map str r)) [] := by
 unfold m_engine_deeds
 refine fs Tryz.func93 fun w S0 γ hγ => ?_
 apply z [2]
 refine s1 (asg rfl (kLm (k := 1) str)) ?_
 apply z [1, 2]
 refine so (bsl (y := 100) (ls := List.map str ([([115, 111, 108, 118, 101] : List UInt8), ([103, 114, 97, 100] : List UInt8), ([109, 111, 118, 101] : List UInt8), ([115, 116, 97, 116, 101] : List UInt8), ([115, 104, 111, 119] : List UInt8)] : List (List UInt8))) Tryz.underlying110 ti_9.h rfl rfl rfl rfl rfl ⟨rfl, (kS (s := [115, 111, 108, 118, 101]) rfl), (by exact rfl), (by exact rfl), rfl, (kS (s := [103, 114, 97, 100]) rfl), (by exact rfl), (by exact rfl), rfl, (kS (s := [109, 111, 118, 101]) rfl), (by exact rfl), (by exact rfl), rfl, (kS (s := [115, 116, 97, 116, 101]) rfl), (by exact rfl), (by exact rfl), rfl, (kS (s := [115, 104, 111, 119]) rfl), (by exact rfl), (by exact rfl), trivial⟩ rfl rfl) ?_
 refine sbm (C := fun x => .sl 9 1 (List.map str x)) 100 rfl fun z1 => ?_
 apply z [31, 1, 8]
 refine fz 100 [0, 1] [] ?_
 exact rt []
theorem c_engine_known {x0} : ∀ r, m_engine_known x0 = some r → FnOk Tryz.prog 49 [str x0] [] (bl r) [] := by
 unfold m_engine_known
 refine fs Tryz.func49 fun w S0 γ hγ => ?_
 apply z [2, 31, 1, 2]
 refine cb (ca c_engine_deeds) fun r1 => ?_
 apply z [30]
 refine cb (ca c_slices_Contains___string_string_) fun r3 => ?_
 apply z [31, 1, 8]
 exact rt []
theorem c_lex_skip {n : Nat} {x0} {x1} : ∀ r, m_lex_skip n x0 x1 = some r → FnOk Tryz.prog 239 [str x0, i64 x1] [] (i64 r) [] := by
 unfold m_lex_skip
 refine fs Tryz.func239 fun w S0 γ hγ => ?_
 apply z [2, 31, 1, 5, 7]
 refine sloopE 0 Lp.go (fun s23 => [(0, str x0), (1, i64 s23), (4, i64 (0 : Int))]) (fun s23 => []) (fun t21 => [(1, i64 t21), (4, i64 (0 : Int))]) (fun t21 => []) eI ?_ ?_
 · intro hj22 s23
   apply z [5, 2, 30, 30, 54, 46, 1]
   refine c ?_ ?_
   · apply z [9, 4, 7, 2, 30, 30]
     refine b fun y24 h25 => ?_
     apply z [90, 1, 7]
     refine sjq (fun s28 => [(0, str x0), (1, i64 s23), (4, i64 (0 : Int)), (14, u8 y24), (16, bl s28)]) (fun s28 => []) ?_ ?_
     · intro j26 hj27
       apply z [2, 66, 31, 1]
       refine c ?_ ?_
       · apply z [9, 4]
         exact sj (hj27 _) eI
       apply z [2, 66, 31, 1]
       refine c ?_ ?_
       · apply z [9, 4]
         exact sj (hj27 _) eI
       apply z [2, 66, 31, 1]
       refine c ?_ ?_
       · apply z [9, 4]
         exact sj (hj27 _) eI
       apply z [6, 66, 31, 1]
       exact sj (hj27 _) eI
     intro s28
     refine c ?_ ?_
     · apply z [6, 30, 40, 31, 3, 11, 11]
       exact sgo eI
     apply z [2, 66, 31, 1]
     refine c ?_ ?_
     · apply z [2, 30, 30]
       refine b fun y29 h30 => ?_
       refine s1 (slS h30 Tryz.underlying9 rfl rfl (bnd rfl) bnd0) ?_
       refine cb (ca c_strings_Cut) fun r31 => ?_
       apply z [30, 35, 35, 35, 31, 31, 31, 1, 6, 30, 30, 54, 40, 31, 3, 11, 11]
       exact sgo eI
     apply z [2, 30, 31, 1, 8, 12, 12]
     refine sU ?_
     apply z [12, 10]
     exact rt []
   apply z [14, 15]
   exact su (sj (hj22 _) eI)
 intro t21
 refine slpk ?_
 apply z [13, 4, 2, 30, 31, 1, 8]
 exact rt []
theorem c_lex_Scan {n : Nat} {x0} : ∀ r, m_lex_Scan n x0 = some r → FnOk Tryz.prog 169 [str x0] [] (.tup [sli 3 (List.map L_lex_Word r.1), L_api_Fault r.2]) [] := by
 unfold m_lex_Scan
 refine fs Tryz.func169 fun w S0 γ hγ => ?_
 apply z [2]
 refine s1 (asg rfl (kLm (k := 3) L_lex_Word)) ?_
 refine o (al' 100) ?_
 apply z [1, 5, 2, 30, 54, 47, 1]
 refine c ?_ ?_
 · apply z [2]
   refine s1 (bld (l := [i64 (1 : Int), i64 0, i64 0, i64 (4000 : Int)]) pl_41.h ti_41.h zr_api_Fault ⟨_, _, _, (kI (x := 1) rfl), rfl, rfl, rfl, (szk (k := 1) rfl rfl), ⟨_, _, _, (kI (x := 4000) rfl), rfl, rfl, rfl, (szk (k := 1) rfl rfl), rfl⟩⟩ rfl) ?_
   refine s1 (asg rfl (kLm (k := 3) L_lex_Word)) ?_
   apply z [34, 1, 8, 10]
   exact rt []
 apply z [9, 4, 2]
 refine so (asgN (y := 101) (E := 284) (k := 3) rfl rfl) ?_
 apply z [1, 5, 2, 30]
 refine cb (ca c_lex_skip) fun r1 => ?_
 apply z [31, 1, 7]
 refine sloopE 0 Lp.go (fun s43 => [(0, str x0), (2, sli 3 (List.map L_lex_Word ([] : List M_lex_Word))), (3, .own 100), (4, .own 101), (5, i64 s43.2)]) (fun s43 => [(100, .bx 41 (L_api_Fault (⟨0, 0, 0, 0⟩ : M_api_Fault))), (101, .sl 284 3 (List.map L_lex_Word s43.1))]) (fun t41 => [(2, sli 3 (List.map L_lex_Word ([] : List M_lex_Word))), (3, .own 100), (4, .own 101)]) (fun t41 => [(100, .bx 41 (L_api_Fault (⟨0, 0, 0, 0⟩ : M_api_Fault))), (101, .sl 284 3 (List.map L_lex_Word t41))]) (eR [(100, 100), (101, 101)]) ?_ ?_
 · intro hj42 s43
   apply z [5, 2, 30, 30, 54, 46, 1]
   refine c ?_ ?_
   · apply z [9, 4, 5, 7, 2, 30, 30]
     refine b fun y44 h45 => ?_
     apply z [90]
     refine cb (ca c_lex_kind) fun r46 => ?_
     apply z [31, 1, 5, 2, 30, 41, 1]
     refine c ?_ ?_
     · apply z [2, 30]
       refine s1 (bld (l := [i64 (1 : Int), i64 0, i64 0, i64 s43.2]) pl_41.h ti_41.h zr_api_Fault ⟨_, _, _, (kI (x := 1) rfl), rfl, rfl, rfl, (szk (k := 1) rfl rfl), ⟨_, _, _, rfl, rfl, rfl, rfl, (szk (k := 1) rfl rfl), rfl⟩⟩ rfl) ?_
       refine s1 (asg rfl (kLm (k := 3) L_lex_Word)) ?_
       apply z [34, 1, 8, 10, 12, 10]
       refine sU ?_
       apply z [12, 10]
       exact rt []
     apply z [9, 4, 2, 30, 30]
     refine b fun y48 h49 => ?_
     refine s1 (slS h49 Tryz.underlying9 rfl rfl (bnd rfl) bnd0) ?_
     apply z [30]
     refine cb (ca c_lex_first) fun r50 => ?_
     apply z [31, 1, 5, 2, 30, 30]
     refine cb (ca c_lex_most) fun r52 => ?_
     apply z [47, 1]
     refine c ?_ ?_
     · apply z [2, 30, 30]
       refine cb (ca c_lex_most) fun r54 => ?_
       apply z [40]
       refine s1 (bld (l := [i64 (1 : Int), i64 0, i64 0, i64 (wrap64 (s43.2 + r54))]) pl_41.h ti_41.h zr_api_Fault ⟨_, _, _, (kI (x := 1) rfl), rfl, rfl, rfl, (szk (k := 1) rfl rfl), ⟨_, _, _, rfl, rfl, rfl, rfl, (szk (k := 1) rfl rfl), rfl⟩⟩ rfl) ?_
       refine s1 (asg rfl (kLm (k := 3) L_lex_Word)) ?_
       apply z [34, 1, 8, 10, 12, 10]
       refine sU ?_
       apply z [12, 10]
       exact rt []
     apply z [9, 4, 2, 30, 30, 30, 30, 30, 30, 40]
     refine b fun y56 h57 => ?_
     refine s1 (slS h57 Tryz.underlying9 rfl rfl (bnd rfl) (bnd rfl)) ?_
     apply z [30]
     refine s1 (bld (l := [i64 r46, str y56, i64 s43.2]) pl_284.h ti_284.h zr_lex_Word ⟨_, _, _, rfl, rfl, rfl, rfl, (szk (k := 1) rfl rfl), ⟨_, _, _, rfl, rfl, rfl, rfl, (szk (k := 1) rfl rfl), ⟨_, _, _, rfl, rfl, rfl, rfl, (szk (k := 1) rfl rfl), rfl⟩⟩⟩ rfl) ?_
     refine so (bsl (y := 102) (ls := List.map L_lex_Word ([(⟨r46, y56, s43.2⟩ : M_lex_Word)] : List M_lex_Word)) Tryz.underlying290 ti_284.h rfl rfl rfl rfl rfl ⟨rfl, rfl, (by exact rfl), (by exact rfl), trivial⟩ rfl rfl) ?_
     refine b fun y58 h59 => ?_
     refine o (app' 103) ?_
     apply z [31, 1, 6, 30, 30, 40, 31, 3, 11, 4, 6, 30, 30]
     refine cb (ca c_lex_skip) fun r60 => ?_
     apply z [31, 3]
     exact sgo (eR [(100, 100), (101, 103)])
   apply z [14, 15]
   exact su (sj (hj42 _) (eR [(100, 100), (101, 101)]))
 intro t41
 refine slpk ?_
 apply z [13, 4, 2, 30]
 refine s1 (bld (l := [i64 0, i64 0, i64 0, i64 0]) pl_41.h ti_41.h zr_api_Fault rfl rfl) ?_
 apply z [31, 34, 1, 8]
 refine fz 101 [2, 4, 58] [] ?_
 exact rt []
theorem c_parse_begin {n : Nat} {x0} {x1} : ∀ r, m_parse_begin n x0 x1 = some r → FnOk Tryz.prog 94 [str x0, sli 1 (List.map str x1)] [] (.tup [.own 50, L_api_Fault r.2.2.2.2.2]) [(50, .bx 294 (.agg [sli 3 (List.map L_lex_Word r.1), i64 r.2.1, i64 r.2.2.1, i64 r.2.2.2.1, .own 70])), (70, .sl 9 1 (List.map str r.2.2.2.2.1))] := by
 unfold m_parse_begin
 refine fs Tryz.func94 fun w S0 γ hγ => ?_
 apply z [2, 31]
 refine o (al' 100) ?_
 apply z [1, 2, 30]
 refine cb (ca c_lex_Scan) fun r1 => ?_
 apply z [30, 35, 35]
 refine o (al' 101) ?_
 apply z [31, 34, 1, 5]
 refine b fun y3 h4 => ?_
 refine sd ?_
 apply zd [[], [], [], []]
 refine dx [16] [102] (fun st mm ⟨a16, _⟩ ⟨g102, _⟩ => og (appN (y := 102) (f := str) h4 Tryz.underlying110 ti_9.h rfl rfl (a16.trans rfl) (.inl rfl) (g102.trans rfl) rfl)) ?_
 refine dx [17, 13, 15] [] (fun st mm ⟨a17, a13, a15, _⟩ _ => og (bld (l := [sli 3 (List.map L_lex_Word r1.1), i64 0, i64 (x0.length : Int), i64 0, .own 102]) pl_294.h ti_294.h zr_parse_reader ⟨_, _, _, (a13.trans rfl), rfl, rfl, rfl, (szk (k := 1) rfl rfl), ⟨_, _, _, (a15.trans rfl), rfl, rfl, rfl, (szk (k := 1) rfl rfl), ⟨_, _, _, (a17.trans rfl), rfl, rfl, rfl, (szk (k := 1) rfl rfl), rfl⟩⟩⟩ rfl)) ?_
 refine dd [103] (fun _ _ _ _ => bx' 103) ?_
 apply zd [[101], [], [100]]
 refine de fol ?_
 apply z [4, 8]
 exact rt [(50, 103), (70, 102)]
theorem c___parse_reader__next {x0_words} {x0_at_} {x0_end_} {x0_deep} {x0_names} : ∀ r, m___parse_reader__next x0_words x0_at_ x0_end_ x0_deep x0_names = some r → FnOk Tryz.prog 240 [.own 0] [(0, .bx 294 (.agg [sli 3 (List.map L_lex_Word x0_words), i64 x0_at_, i64 x0_end_, i64 x0_deep, .own 1])), (1, .sl 9 1 (List.map str x0_names))] (L_lex_Word r) [(0, .bx 294 (.agg [sli 3 (List.map L_lex_Word x0_words), i64 x0_at_, i64 x0_end_, i64 x0_deep, .own 1])), (1, .sl 9 1 (List.map str x0_names))] := by
 unfold m___parse_reader__next
 refine fs Tryz.func240 fun w S0 γ hγ => ?_
 apply z [2]
 refine o (al' 100) ?_
 apply z [1, 5, 5]
 refine sd ?_
 apply zd [[], [0], [0], [0], [], [0], [0], [0], [], []]
 refine de fol ?_
 apply z [4]
 refine c ?_ ?_
 · apply z [5]
   refine b fun y1 h2 => ?_
   refine sd ?_
   apply zd [[], [0], [0], [0], [], [0], [0], [0], [], [], [100]]
   refine de fol ?_
   apply z [4, 8, 10]
   exact rt [(0, 0), (1, 1)]
 apply z [9, 4, 2]
 refine s1 (bld (l := [i64 0, str [], i64 0]) pl_284.h ti_284.h zr_lex_Word rfl rfl) ?_
 apply z [34, 1, 8]
 exact rt [(0, 0), (1, 1)]
theorem c___parse_reader__has {x0_words} {x0_at_} {x0_end_} {x0_deep} {x0_names} {x1} : ∀ r, m___parse_reader__has x0_words x0_at_ x0_end_ x0_deep x0_names x1 = some r → FnOk Tryz.prog 170 [.own 0, str x1] [(0, .bx 294 (.agg [sli 3 (List.map L_lex_Word x0_words), i64 x0_at_, i64 x0_end_, i64 x0_deep, .own 1])), (1, .sl 9 1 (List.map str x0_names))] (bl r.1) [(0, .bx 294 (.agg [sli 3 (List.map L_lex_Word r.2.1), i64 r.2.2.1, i64 r.2.2.2.1, i64 r.2.2.2.2, .own 1])), (1, .sl 9 1 (List.map str x0_names))] := by
 unfold m___parse_reader__has
 refine fs Tryz.func170 fun w S0 γ hγ => ?_
 apply z [2, 31, 1, 5, 2, 30]
 refine b fun r1 h2 => ?_
 refine o (cG (c___parse_reader__next _ h2) [0, 1] [] [0, 1]) ?_
 refine s1 (fld ff_284_1 (by exact rfl) (by exact rfl) (by exact rfl) rfl rfl) ?_
 apply z [30, 73, 1]
 refine c ?_ ?_
 · apply z [2, 31, 1, 8, 10]
   exact rt [(0, 0), (1, 1)]
 apply z [9, 4, 2, 30, 48, 33, 36, 40, 48, 33]
 refine o (stP (.agg [sli 3 (List.map L_lex_Word x0_words), i64 (wrap64 (x0_at_ + (1 : Int))), i64 x0_end_, i64 x0_deep, .own 1]) [1]) ?_
 apply z [1, 2, 31, 1, 8]
 exact rt [(0, 0), (1, 1)]
theorem c_parse_reserved {x0} : ∀ r, m_parse_reserved x0 = some r → FnOk Tryz.prog 241 [str x0] [] (bl r) [] := by
 unfold m_parse_reserved
 refine fs Tryz.func241 fun w S0 γ hγ => ?_
 apply z [2, 31, 1]
 refine sjq (fun s3 => [(2, bl s3)]) (fun s3 => []) ?_ ?_
 · intro j1 hj2
   apply z [6, 30, 72, 30]
   refine sifd 5 rfl ?_ ?_
   · apply z [23, 23, 38, 30, 23, 23, 38, 30, 23, 23, 38, 31, 1]
     exact sj (hj2 _) eI
   apply z [22, 22, 37, 30]
   refine sifd 9 rfl ?_ ?_
   · apply z [23, 23, 38, 30, 23, 23, 38, 31, 1]
     exact sj (hj2 _) eI
   apply z [22, 22, 37, 30]
   refine sifd 13 rfl ?_ ?_
   · apply z [23, 23, 38, 31, 1]
     exact sj (hj2 _) eI
   apply z [22, 22, 37, 31, 1]
   exact sj (hj2 _) eI
 intro s3
 apply z [8]
 exact rt []
theorem c___parse_reader__fail {x0_words} {x0_at_} {x0_end_} {x0_deep} {x0_names} : ∀ r, m___parse_reader__fail x0_words x0_at_ x0_end_ x0_deep x0_names = some r → FnR Tryz.prog 174 [.own 0] [(0, .bx 294 (.agg [sli 3 (List.map L_lex_Word x0_words), i64 x0_at_, i64 x0_end_, i64 x0_deep, .own 1])), (1, .sl 9 1 (List.map str x0_names))] 41 L_api_Fault (fun r => .tup []) (fun r => [(0, .bx 294 (.agg [sli 3 (List.map L_lex_Word x0_words), i64 x0_at_, i64 x0_end_, i64 x0_deep, .own 1])), (1, .sl 9 1 (List.map str x0_names))]) r := by
 unfold m___parse_reader__fail
 refine fsP Tryz.func174 fun w S0 γ hγ => ?_
 apply z [2, 30, 48, 33, 36, 31, 1]
 refine sjq (fun s5 => [(2, i64 s5)]) (fun s5 => [(0, .bx 294 (.agg [sli 3 (List.map L_lex_Word x0_words), i64 x0_at_, i64 x0_end_, i64 x0_deep, .own 1])), (1, .sl 9 1 (List.map str x0_names))]) ?_ ?_
 · intro j3 hj4
   apply z [5]
   refine sd ?_
   apply zd [[], [0], [0], [0], [], [0], [0], [0], [], []]
   refine de fol ?_
   apply z [4]
   refine c ?_ ?_
   · refine b fun y6 h7 => ?_
     refine sd ?_
     apply zd [[], [0], [0], [0], [], [0], [0], [0], [], [], [], []]
     refine de fol ?_
     apply z [4]
     exact sj (hj4 _) (eR [(0, 0), (1, 1)])
   apply z [9, 4]
   exact sj (hj4 _) (eR [(0, 0), (1, 1)])
 intro s5
 apply z [6, 30]
 refine s1 (bld (l := [i64 (1 : Int), i64 0, i64 0, i64 s5]) pl_41.h ti_41.h zr_api_Fault ⟨_, _, _, (kI (x := 1) rfl), rfl, rfl, rfl, (szk (k := 1) rfl rfl), ⟨_, _, _, rfl, rfl, rfl, rfl, (szk (k := 1) rfl rfl), rfl⟩⟩ rfl) ?_
 refine s1 (mkIf Tryz.underlying41 rfl rfl) ?_
 exact opPan rfl (fun _ _ _ _ h _ _ _ => h)
theorem c___parse_reader__name {x0_words} {x0_at_} {x0_end_} {x0_deep} {x0_names} : ∀ r, m___parse_reader__name x0_words x0_at_ x0_end_ x0_deep x0_names = some r → FnR Tryz.prog 171 [.own 0] [(0, .bx 294 (.agg [sli 3 (List.map L_lex_Word x0_words), i64 x0_at_, i64 x0_end_, i64 x0_deep, .own 1])), (1, .sl 9 1 (List.map str x0_names))] 41 L_api_Fault (fun r => str r.1) (fun r => [(0, .bx 294 (.agg [sli 3 (List.map L_lex_Word r.2.1), i64 r.2.2.1, i64 r.2.2.2.1, i64 r.2.2.2.2, .own 1])), (1, .sl 9 1 (List.map str x0_names))]) r := by
 unfold m___parse_reader__name
 refine fsP Tryz.func171 fun w S0 γ hγ => ?_
 apply z [2, 31, 1, 2, 30]
 refine b fun r1 h2 => ?_
 refine o (cG (c___parse_reader__next _ h2) [0, 1] [] [0, 1]) ?_
 refine o (al' 100) ?_
 apply z [34, 1]
 refine sjq (fun s14 => [(0, .own 0), (2, str ([] : List UInt8)), (3, .own 100)]) (fun s14 => [(0, .bx 294 (.agg [sli 3 (List.map L_lex_Word x0_words), i64 x0_at_, i64 x0_end_, i64 x0_deep, .own 1])), (1, .sl 9 1 (List.map str x0_names)), (100, .bx 284 (L_lex_Word r1))]) ?_ ?_
 · intro j12 hj13
   refine sjq (fun s19 => [(0, .own 0), (2, str ([] : List UInt8)), (3, .own 100), (13, bl s19)]) (fun s19 => [(0, .bx 294 (.agg [sli 3 (List.map L_lex_Word x0_words), i64 x0_at_, i64 x0_end_, i64 x0_deep, .own 1])), (1, .sl 9 1 (List.map str x0_names)), (100, .bx 284 (L_lex_Word r1))]) ?_ ?_
   · intro j17 hj18
     apply z [6, 33, 36, 56, 30]
     refine sifd 9 rfl ?_ ?_
     · apply z [23, 23, 23, 38, 1]
       exact sj (hj18 _) (eR [(0, 0), (1, 1), (100, 100)])
     apply z [22, 22]
     refine b fun r20 h21 => ?_
     refine og' (c0 (c_parse_reserved _ h21)) ?_
     apply z [37, 1]
     exact sj (hj18 _) (eR [(0, 0), (1, 1), (100, 100)])
   intro s19
   refine c ?_ ?_
   · apply z [6, 30]
     refine bP [0, 1] c___parse_reader__fail fun r22 h23 => ?_
     refine o (cG (h23) [0, 1] [] [0, 1]) ?_
     apply z [1]
     exact sj (hj13 _) (eR [(0, 0), (1, 1), (100, 100)])
   apply z [9, 4]
   exact sj (hj13 _) (eR [(0, 0), (1, 1), (100, 100)])
 intro s14
 apply z [2, 30, 48, 33, 36, 40, 48, 33]
 refine o (stP (.agg [sli 3 (List.map L_lex_Word x0_words), i64 (wrap64 (x0_at_ + (1 : Int))), i64 x0_end_, i64 x0_deep, .own 1]) [1]) ?_
 apply z [1, 2, 33, 36, 31, 1, 8]
 exact rtR (rt [(0, 0), (1, 1)])
theorem c___parse_reader__need {x0_words} {x0_at_} {x0_end_} {x0_deep} {x0_names} {x1} : ∀ r, m___parse_reader__need x0_words x0_at_ x0_end_ x0_deep x0_names x1 = some r → FnR Tryz.prog 172 [.own 0, str x1] [(0, .bx 294 (.agg [sli 3 (List.map L_lex_Word x0_words), i64 x0_at_, i64 x0_end_, i64 x0_deep, .own 1])), (1, .sl 9 1 (List.map str x0_names))] 41 L_api_Fault (fun r => .tup []) (fun r => [(0, .bx 294 (.agg [sli 3 (List.map L_lex_Word r.1), i64 r.2.1, i64 r.2.2.1, i64 r.2.2.2, .own 1])), (1, .sl 9 1 (List.map str x0_names))]) r := by
 unfold m___parse_reader__need
 refine fsP Tryz.func172 fun w S0 γ hγ => ?_
 apply z [2, 30, 30]
 refine b fun r1 h2 => ?_
 refine o (cG (c___parse_reader__has _ h2) [0, 1] [] [1]) ?_
 apply z [44, 1]
 refine c ?_ ?_
 · apply z [6, 30]
   refine bP [0, 1] c___parse_reader__fail fun r3 h4 => ?_
   refine o (cG (h4) [0, 1] [] [0, 1]) ?_
   apply z [3]
   exact rtR (rt [(0, 0), (1, 1)])
 apply z [9]
 exact rtR (rt [(0, 0), (1, 1)])
theorem c___parse_reader__small {x0_words} {x0_at_} {x0_end_} {x0_deep} {x0_names} : ∀ r, m___parse_reader__small x0_words x0_at_ x0_end_ x0_deep x0_names = some r → FnR Tryz.prog 385 [.own 0] [(0, .bx 294 (.agg [sli 3 (List.map L_lex_Word x0_words), i64 x0_at_, i64 x0_end_, i64 x0_deep, .own 1])), (1, .sl 9 1 (List.map str x0_names))] 41 L_api_Fault (fun r => i64 r.1) (fun r => [(0, .bx 294 (.agg [sli 3 (List.map L_lex_Word r.2.1), i64 r.2.2.1, i64 r.2.2.2.1, i64 r.2.2.2.2, .own 1])), (1, .sl 9 1 (List.map str x0_names))]) r := by
 unfold m___parse_reader__small
 refine fsP Tryz.func385 fun w S0 γ hγ => ?_
 apply z [2, 31, 1, 2, 30]
 refine b fun r1 h2 => ?_
 refine o (cG (c___parse_reader__next _ h2) [0, 1] [] [0, 1]) ?_
 refine o (al' 100) ?_
 apply z [34, 1]
 refine sjq (fun s10 => [(0, .own 0), (2, i64 (0 : Int)), (3, .own 100)]) (fun s10 => [(0, .bx 294 (.agg [sli 3 (List.map L_lex_Word x0_words), i64 x0_at_, i64 x0_end_, i64 x0_deep, .own 1])), (1, .sl 9 1 (List.map str x0_names)), (100, .bx 284 (L_lex_Word r1))]) ?_ ?_
 · intro j8 hj9
   refine sjq (fun s13 => [(0, .own 0), (2, i64 (0 : Int)), (3, .own 100), (16, bl s13)]) (fun s13 => [(0, .bx 294 (.agg [sli 3 (List.map L_lex_Word x0_words), i64 x0_at_, i64 x0_end_, i64 x0_deep, .own 1])), (1, .sl 9 1 (List.map str x0_names)), (100, .bx 284 (L_lex_Word r1))]) ?_ ?_
   · intro j11 hj12
     apply z [6, 33, 36, 56, 30]
     refine sifd 11 rfl ?_ ?_
     · apply z [23, 23, 23, 23, 38, 1]
       exact sj (hj12 _) (eR [(0, 0), (1, 1), (100, 100)])
     apply z [22, 22, 22, 22, 37, 1]
     exact sj (hj12 _) (eR [(0, 0), (1, 1), (100, 100)])
   intro s13
   refine c ?_ ?_
   · apply z [6, 30]
     refine bP [0, 1] c___parse_reader__fail fun r14 h15 => ?_
     refine o (cG (h15) [0, 1] [] [0, 1]) ?_
     apply z [1]
     exact sj (hj9 _) (eR [(0, 0), (1, 1), (100, 100)])
   apply z [9, 4]
   exact sj (hj9 _) (eR [(0, 0), (1, 1), (100, 100)])
 intro s10
 apply z [2, 30, 48, 33, 36, 40, 48, 33]
 refine o (stP (.agg [sli 3 (List.map L_lex_Word x0_words), i64 (wrap64 (x0_at_ + (1 : Int))), i64 x0_end_, i64 x0_deep, .own 1]) [1]) ?_
 apply z [1, 2, 33, 36]
 refine cb (ca c_strconv_Atoi) fun r16 => ?_
 apply z [30, 35, 35, 31, 31, 1, 2, 30, 31, 1, 8]
 exact rtR (rt [(0, 0), (1, 1)])
theorem c___parse_reader__component {x0_words} {x0_at_} {x0_end_} {x0_deep} {x0_names} {x1} : ∀ r, m___parse_reader__component x0_words x0_at_ x0_end_ x0_deep x0_names x1 = some r → FnR Tryz.prog 398 [.own 0, i64 x1] [(0, .bx 294 (.agg [sli 3 (List.map L_lex_Word x0_words), i64 x0_at_, i64 x0_end_, i64 x0_deep, .own 1])), (1, .sl 9 1 (List.map str x0_names))] 41 L_api_Fault (fun r => .own 50) (fun r => [(0, .bx 294 (.agg [sli 3 (List.map L_lex_Word r.2.1), i64 r.2.2.1, i64 r.2.2.2.1, i64 r.2.2.2.2, .own 1])), (1, .sl 9 1 (List.map str x0_names)), (50, .sl 226 3 (List.map L_tree_Node r.1))]) r := by
 unfold m___parse_reader__component
 refine fsP Tryz.func398 fun w S0 γ hγ => ?_
 apply z [2]
 refine s1 (asg rfl (kLm (k := 3) L_tree_Node)) ?_
 apply z [1, 2, 30, 48, 33, 36, 40, 48, 33]
 refine o (stP (.agg [sli 3 (List.map L_lex_Word x0_words), i64 (wrap64 (x0_at_ + (1 : Int))), i64 x0_end_, i64 x0_deep, .own 1]) [1]) ?_
 apply z [1, 2, 30]
 refine bP [0, 1] c___parse_reader__need fun r1 h2 => ?_
 refine o (cG (h2) [0, 1] [] [1]) ?_
 apply z [1, 2, 30]
 refine bP [0, 1] c___parse_reader__small fun r3 h4 => ?_
 refine o (cG (h4) [0, 1] [] [1]) ?_
 apply z [31, 1, 2, 30]
 refine bP [0, 1] c___parse_reader__need fun r5 h6 => ?_
 refine o (cG (h6) [0, 1] [] [1]) ?_
 apply z [1, 2, 30, 30]
 refine s1 (bld (l := [i64 x1, i64 r3.1, sli 1 (List.map u32 [])]) pl_226.h ti_226.h zr_tree_Node ⟨_, _, _, rfl, rfl, rfl, rfl, (szk (k := 1) rfl rfl), ⟨_, _, _, rfl, rfl, rfl, rfl, (szk (k := 1) rfl rfl), rfl⟩⟩ rfl) ?_
 refine so (bsl (y := 100) (ls := List.map L_tree_Node ([(⟨x1, r3.1, []⟩ : M_tree_Node)] : List M_tree_Node)) Tryz.underlying142 ti_226.h rfl rfl rfl rfl rfl ⟨rfl, rfl, (by exact rfl), (by exact rfl), trivial⟩ rfl rfl) ?_
 apply z [31, 1, 8]
 exact rtR (rt [(0, 0), (1, 1), (50, 100)])
theorem c___parse_reader__open {x0_words} {x0_at_} {x0_end_} {x0_deep} {x0_names} : ∀ r, m___parse_reader__open x0_words x0_at_ x0_end_ x0_deep x0_names = some r → FnR Tryz.prog 361 [.own 0] [(0, .bx 294 (.agg [sli 3 (List.map L_lex_Word x0_words), i64 x0_at_, i64 x0_end_, i64 x0_deep, .own 1])), (1, .sl 9 1 (List.map str x0_names))] 41 L_api_Fault (fun r => .tup []) (fun r => [(0, .bx 294 (.agg [sli 3 (List.map L_lex_Word r.1), i64 r.2.1, i64 r.2.2.1, i64 r.2.2.2, .own 1])), (1, .sl 9 1 (List.map str x0_names))]) r := by
 unfold m___parse_reader__open
 refine fsP Tryz.func361 fun w S0 γ hγ => ?_
 refine sjq (fun s5 => [(0, .own 0)]) (fun s5 => [(0, .bx 294 (.agg [sli 3 (List.map L_lex_Word x0_words), i64 s5, i64 x0_end_, i64 x0_deep, .own 1])), (1, .sl 9 1 (List.map str x0_names))]) ?_ ?_
 · intro j3 hj4
   apply z [2, 30, 48, 33, 36, 41, 1]
   refine c ?_ ?_
   · apply z [2, 30, 48, 33, 36, 49, 48, 33]
     refine o (stP (.agg [sli 3 (List.map L_lex_Word x0_words), i64 (wrap64 (x0_at_ - (1 : Int))), i64 x0_end_, i64 x0_deep, .own 1]) [1]) ?_
     apply z [1, 6, 30]
     refine bP [0, 1] c___parse_reader__fail fun r6 h7 => ?_
     refine o (cG (h7) [0, 1] [] [0, 1]) ?_
     apply z [1]
     exact sj (hj4 _) (eR [(0, 0), (1, 1)])
   apply z [9, 4]
   exact sj (hj4 _) (eR [(0, 0), (1, 1)])
 intro s5
 apply z [6, 30, 48, 33, 36, 40, 48, 33]
 refine o (stP (.agg [sli 3 (List.map L_lex_Word x0_words), i64 s5, i64 x0_end_, i64 (wrap64 (x0_deep + (1 : Int))), .own 1]) [3]) ?_
 apply z [3]
 exact rtR (rt [(0, 0), (1, 1)])
theorem c___parse_reader__meant {x0_words} {x0_at_} {x0_end_} {x0_deep} {x0_names} {x1} : ∀ r, m___parse_reader__meant x0_words x0_at_ x0_end_ x0_deep x0_names x1 = some r → FnOk Tryz.prog 399 [.own 0, str x1] [(0, .bx 294 (.agg [sli 3 (List.map L_lex_Word x0_words), i64 x0_at_, i64 x0_end_, i64 x0_deep, .own 1])), (1, .sl 9 1 (List.map str x0_names))] (i64 r) [(0, .bx 294 (.agg [sli 3 (List.map L_lex_Word x0_words), i64 x0_at_, i64 x0_end_, i64 x0_deep, .own 1])), (1, .sl 9 1 (List.map str x0_names))] := by
 unfold m___parse_reader__meant
 refine fs Tryz.func399 fun w S0 γ hγ => ?_
 apply z [2, 31, 1, 5, 2, 30, 48, 33, 36, 55, 30, 1, 7]
 refine srN (fun s6 => [(1, str x1), (4, i64 (0 : Int)), (10, .own 1)]) (fun s6 => [(0, .bx 294 (.agg [sli 3 (List.map L_lex_Word x0_words), i64 x0_at_, i64 x0_end_, i64 x0_deep, .own 1])), (1, .sl 9 1 (List.map str x0_names))]) (rE (eR [(0, 0), (1, 1)])) ?_ ?_
 · intro i7 x8 s6 hx9
   apply z [7, 2, 30, 50, 51, 31, 31, 1, 2, 30, 30, 72, 1]
   refine c ?_ ?_
   · apply z [2, 30, 31, 1, 8, 12]
     refine sU ?_
     apply z [12, 10]
     exact rt [(0, 0), (1, 1)]
   apply z [9, 11]
   exact sgo (eR [(0, 0), (1, 1)])
 intro s10
 apply z [13, 4, 2, 31, 1, 8]
 exact rt [(0, 0), (1, 1)]
theorem c___parse_reader__atom {me___parse_reader__expr : (List M_lex_Word) → Int → Int → Int → (List (List UInt8)) → Option (Except M_api_Fault ((List M_tree_Node) × (List M_lex_Word) × Int × Int × Int × (List (List UInt8))))} (he___parse_reader__expr : ∀ {x0_words : (List M_lex_Word)} {x0_at_ : Int} {x0_end_ : Int} {x0_deep : Int} {x0_names : (List (List UInt8))}, ∀ r, me___parse_reader__expr x0_words x0_at_ x0_end_ x0_deep x0_names = some r → FnR Tryz.prog 173 [.own 0] [(0, .bx 294 (.agg [sli 3 (List.map L_lex_Word x0_words), i64 x0_at_, i64 x0_end_, i64 x0_deep, .own 1])), (1, .sl 9 1 (List.map str x0_names))] 41 L_api_Fault (fun r => .own 50) (fun r => [(0, .bx 294 (.agg [sli 3 (List.map L_lex_Word r.2.1), i64 r.2.2.1, i64 r.2.2.2.1, i64 r.2.2.2.2.1, .own 61])), (1, .gone), (50, .sl 226 3 (List.map L_tree_Node r.1)), (61, .sl 9 1 (List.map str r.2.2.2.2.2))]) r) {n : Nat} {x0_words} {x0_at_} {x0_end_} {x0_deep} {x0_names} : ∀ r, m___parse_reader__atom me___parse_reader__expr n x0_words x0_at_ x0_end_ x0_deep x0_names = some r → FnR Tryz.prog 384 [.own 0] [(0, .bx 294 (.agg [sli 3 (List.map L_lex_Word x0_words), i64 x0_at_, i64 x0_end_, i64 x0_deep, .own 1])), (1, .sl 9 1 (List.map str x0_names))] 41 L_api_Fault (fun r => .own 50) (fun r => [(0, .bx 294 (.agg [sli 3 (List.map L_lex_Word r.2.1), i64 r.2.2.1, i64 r.2.2.2.1, i64 r.2.2.2.2.1, .own 61])), (1, .gone), (50, .sl 226 3 (List.map L_tree_Node r.1)), (61, .sl 9 1 (List.map str r.2.2.2.2.2))]) r := by
 unfold m___parse_reader__atom
 refine fsP Tryz.func384 fun w S0 γ hγ => ?_
 apply z [2]
 refine s1 (asg rfl (kLm (k := 3) L_tree_Node)) ?_
 apply z [1, 2, 30]
 refine b fun r1 h2 => ?_
 refine o (cG (c___parse_reader__next _ h2) [0, 1] [] [0, 1]) ?_
 refine o (al' 100) ?_
 apply z [34, 1, 5, 7, 2, 33, 36, 41, 31, 1]
 refine c ?_ ?_
 · apply z [2, 30, 48, 33, 36, 40, 48, 33]
   refine o (stP (.agg [sli 3 (List.map L_lex_Word x0_words), i64 (wrap64 (x0_at_ + (1 : Int))), i64 x0_end_, i64 x0_deep, .own 1]) [1]) ?_
   apply z [1, 2, 33, 36]
   refine cb (ca c_digits_Read) fun r3 => ?_
   apply z [30, 35, 35]
   refine o (al' 101) ?_
   apply z [31, 34, 1, 2, 30]
   refine b fun r5 h6 => ?_
   refine o (cG (c_nat_Norm _ h6) [] [(102, 50)] []) ?_
   refine fz 102 [27] [] ?_
   refine s1 (bld (l := [i64 (1 : Int), i64 0, sli 1 (List.map u32 r5)]) pl_226.h ti_226.h zr_tree_Node ⟨_, _, _, (kI (x := 1) rfl), rfl, rfl, rfl, (szk (k := 1) rfl rfl), ⟨_, _, _, rfl, rfl, rfl, rfl, (szk (k := 1) rfl rfl), rfl⟩⟩ rfl) ?_
   refine so (bsl (y := 103) (ls := List.map L_tree_Node ([(⟨(1 : Int), 0, r5⟩ : M_tree_Node)] : List M_tree_Node)) Tryz.underlying142 ti_226.h rfl rfl rfl rfl rfl ⟨rfl, rfl, (by exact rfl), (by exact rfl), trivial⟩ rfl rfl) ?_
   apply z [31, 1, 8, 12, 10]
   exact rtR (rt [(0, 0), (1, 1), (50, 103), (61, 1)])
 apply z [2, 33, 36, 72, 31, 1]
 refine c ?_ ?_
 · apply z [2, 30, 48, 33, 36, 40, 48, 33]
   refine o (stP (.agg [sli 3 (List.map L_lex_Word x0_words), i64 (wrap64 (x0_at_ + (1 : Int))), i64 x0_end_, i64 x0_deep, .own 1]) [1]) ?_
   apply z [1, 2]
   refine s1 (bld (l := [i64 (2 : Int), i64 0, sli 1 (List.map u32 [])]) pl_226.h ti_226.h zr_tree_Node ⟨_, _, _, (kI (x := 2) rfl), rfl, rfl, rfl, (szk (k := 1) rfl rfl), rfl⟩ rfl) ?_
   refine so (bsl (y := 101) (ls := List.map L_tree_Node ([(⟨(2 : Int), 0, []⟩ : M_tree_Node)] : List M_tree_Node)) Tryz.underlying142 ti_226.h rfl rfl rfl rfl rfl ⟨rfl, rfl, (by exact rfl), (by exact rfl), trivial⟩ rfl rfl) ?_
   apply z [31, 1, 8, 12, 10]
   exact rtR (rt [(0, 0), (1, 1), (50, 101), (61, 1)])
 apply z [2, 33, 36, 72, 31, 1]
 refine c ?_ ?_
 · apply z [2, 30]
   refine bP [0, 1] c___parse_reader__component fun r7 h8 => ?_
   refine o (cG (h8) [0, 1] [(101, 50)] [1]) ?_
   apply z [31, 1, 8, 12, 10]
   exact rtR (rt [(0, 0), (1, 1), (50, 101), (61, 1)])
 apply z [2, 33, 36, 72, 31, 1]
 refine c ?_ ?_
 · apply z [2, 30]
   refine bP [0, 1] c___parse_reader__component fun r9 h10 => ?_
   refine o (cG (h10) [0, 1] [(101, 50)] [1]) ?_
   apply z [31, 1, 8, 12, 10]
   exact rtR (rt [(0, 0), (1, 1), (50, 101), (61, 1)])
 apply z [2, 30]
 refine b fun r11 h12 => ?_
 refine o (cG (c___parse_reader__has _ h12) [0, 1] [] [1]) ?_
 apply z [31, 1]
 refine c ?_ ?_
 · apply z [2, 30]
   refine bP [0, 1] c___parse_reader__open fun r13 h14 => ?_
   refine o (cG (h14) [0, 1] [] [1]) ?_
   apply z [1, 2, 30]
   refine bP [0, 1] he___parse_reader__expr fun r15 h16 => ?_
   refine o (cG (h16) [0, 1] [(101, 50), (102, 61)] []) ?_
   apply z [31, 1, 2, 30]
   refine bP [0, 102] c___parse_reader__need fun r17 h18 => ?_
   refine o (cG (h18) [0, 102] [] [102]) ?_
   apply z [1, 2, 30, 48, 33, 36, 49, 48, 33]
   refine o (stP (.agg [sli 3 (List.map L_lex_Word r17.1), i64 r17.2.1, i64 r17.2.2.1, i64 (wrap64 (r17.2.2.2 - (1 : Int))), .own 102]) [3]) ?_
   apply z [1, 2, 30, 31, 1, 8, 12, 10]
   exact rtR (rt [(0, 0), (1, 1), (50, 101), (61, 102)])
 apply z [9, 11, 4, 2, 30, 30]
 refine bP [0, 1] c___parse_reader__name fun r19 h20 => ?_
 refine o (cG (h20) [0, 1] [] [1]) ?_
 refine b fun r21 h22 => ?_
 refine o (cG (c___parse_reader__meant _ h22) [0, 1] [] [0, 1]) ?_
 refine s1 (bld (l := [i64 (5 : Int), i64 r21, sli 1 (List.map u32 [])]) pl_226.h ti_226.h zr_tree_Node ⟨_, _, _, (kI (x := 5) rfl), rfl, rfl, rfl, (szk (k := 1) rfl rfl), ⟨_, _, _, rfl, rfl, rfl, rfl, (szk (k := 1) rfl rfl), rfl⟩⟩ rfl) ?_
 refine so (bsl (y := 101) (ls := List.map L_tree_Node ([(⟨(5 : Int), r21, []⟩ : M_tree_Node)] : List M_tree_Node)) Tryz.underlying142 ti_226.h rfl rfl rfl rfl rfl ⟨rfl, rfl, (by exact rfl), (by exact rfl), trivial⟩ rfl rfl) ?_
 apply z [31, 1, 8]
 exact rtR (rt [(0, 0), (1, 1), (50, 101), (61, 1)])
theorem c___parse_reader__power {me___parse_reader__expr : (List M_lex_Word) → Int → Int → Int → (List (List UInt8)) → Option (Except M_api_Fault ((List M_tree_Node) × (List M_lex_Word) × Int × Int × Int × (List (List UInt8))))} (he___parse_reader__expr : ∀ {x0_words : (List M_lex_Word)} {x0_at_ : Int} {x0_end_ : Int} {x0_deep : Int} {x0_names : (List (List UInt8))}, ∀ r, me___parse_reader__expr x0_words x0_at_ x0_end_ x0_deep x0_names = some r → FnR Tryz.prog 173 [.own 0] [(0, .bx 294 (.agg [sli 3 (List.map L_lex_Word x0_words), i64 x0_at_, i64 x0_end_, i64 x0_deep, .own 1])), (1, .sl 9 1 (List.map str x0_names))] 41 L_api_Fault (fun r => .own 50) (fun r => [(0, .bx 294 (.agg [sli 3 (List.map L_lex_Word r.2.1), i64 r.2.2.1, i64 r.2.2.2.1, i64 r.2.2.2.2.1, .own 61])), (1, .gone), (50, .sl 226 3 (List.map L_tree_Node r.1)), (61, .sl 9 1 (List.map str r.2.2.2.2.2))]) r) {n : Nat} {x0_words} {x0_at_} {x0_end_} {x0_deep} {x0_names} : ∀ r, m___parse_reader__power me___parse_reader__expr n x0_words x0_at_ x0_end_ x0_deep x0_names = some r → FnR Tryz.prog 360 [.own 0] [(0, .bx 294 (.agg [sli 3 (List.map L_lex_Word x0_words), i64 x0_at_, i64 x0_end_, i64 x0_deep, .own 1])), (1, .sl 9 1 (List.map str x0_names))] 41 L_api_Fault (fun r => .own 50) (fun r => [(0, .bx 294 (.agg [sli 3 (List.map L_lex_Word r.2.1), i64 r.2.2.1, i64 r.2.2.2.1, i64 r.2.2.2.2.1, .own 61])), (1, .gone), (50, .sl 226 3 (List.map L_tree_Node r.1)), (61, .sl 9 1 (List.map str r.2.2.2.2.2))]) r := by
 unfold m___parse_reader__power
 refine fsP Tryz.func360 fun w S0 γ hγ => ?_
 apply z [2]
 refine s1 (asg rfl (kLm (k := 3) L_tree_Node)) ?_
 apply z [1, 2, 30]
 refine bP [0, 1] (c___parse_reader__atom @he___parse_reader__expr) fun r1 h2 => ?_
 refine o (cG (h2) [0, 1] [(100, 50), (101, 61)] []) ?_
 apply z [31, 1, 5, 2, 30]
 refine b fun r3 h4 => ?_
 refine o (cG (c___parse_reader__has _ h4) [0, 101] [] [101]) ?_
 apply z [44, 1]
 refine c ?_ ?_
 · apply z [2, 30, 31, 1, 8, 10]
   exact rtR (rt [(0, 0), (1, 1), (50, 100), (61, 101)])
 apply z [9, 4, 2, 30]
 refine b fun r5 h6 => ?_
 refine o (cG (c___parse_reader__has _ h6) [0, 101] [] [101]) ?_
 apply z [31, 1, 2, 30]
 refine bP [0, 101] c___parse_reader__small fun r7 h8 => ?_
 refine o (cG (h8) [0, 101] [] [101]) ?_
 apply z [31, 1]
 refine sjq (fun s11 => [(2, sli 3 (List.map L_tree_Node ([] : List M_tree_Node))), (3, .own 100), (5, i64 s11)]) (fun s11 => [(1, .gone), (0, .bx 294 (.agg [sli 3 (List.map L_lex_Word r7.2.1), i64 r7.2.2.1, i64 r7.2.2.2.1, i64 r7.2.2.2.2, .own 101])), (101, .sl 9 1 (List.map str r1.2.2.2.2.2)), (100, .sl 226 3 (List.map L_tree_Node r1.1))]) ?_ ?_
 · intro j9 hj10
   apply z [2, 30, 1]
   refine c ?_ ?_
   · apply z [6, 30, 82, 31, 1]
     exact sj (hj10 _) (eR [(1, 1), (0, 0), (101, 101), (100, 100)])
   apply z [9, 4]
   exact sj (hj10 _) (eR [(1, 1), (0, 0), (101, 101), (100, 100)])
 intro s11
 apply z [2, 30, 30]
 refine s1 (bld (l := [i64 (11 : Int), i64 s11, sli 1 (List.map u32 [])]) pl_226.h ti_226.h zr_tree_Node ⟨_, _, _, (kI (x := 11) rfl), rfl, rfl, rfl, (szk (k := 1) rfl rfl), ⟨_, _, _, rfl, rfl, rfl, rfl, (szk (k := 1) rfl rfl), rfl⟩⟩ rfl) ?_
 refine so (bsl (y := 102) (ls := List.map L_tree_Node ([(⟨(11 : Int), s11, []⟩ : M_tree_Node)] : List M_tree_Node)) Tryz.underlying142 ti_226.h rfl rfl rfl rfl rfl ⟨rfl, rfl, (by exact rfl), (by exact rfl), trivial⟩ rfl rfl) ?_
 refine b fun y12 h13 => ?_
 refine o (app' 103) ?_
 apply z [31, 1, 8]
 exact rtR (rt [(0, 0), (1, 1), (50, 103), (61, 101)])
end Go.Proofs.YtcdeknlejjjmlaaGreatDoor
