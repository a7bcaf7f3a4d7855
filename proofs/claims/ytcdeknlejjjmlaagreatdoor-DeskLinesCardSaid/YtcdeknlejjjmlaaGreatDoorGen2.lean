import Derived.Test.YtcdeknlejjjmlaaGreatDoorGen1
set_option maxRecDepth 100000
set_option maxHeartbeats 4000000
namespace Go.Proofs.YtcdeknlejjjmlaaGreatDoor
open Go Go.RowKit
theorem c___desk_Line_string___Put {x0_c} {x0_shut} {x1} : ∀ r, m___desk_Line_string___Put x0_c x0_shut x1 = some r → FnOk Tryz.prog 17 [.own 0, str x1] [(0, .bx 53 (.agg [.own 1, bl x0_shut])), (1, chC chVS x0_c)] (bl r.1) [(0, .bx 53 (.agg [.own 1, bl x0_shut])), (1, chC chVS r.2)] := by
 unfold m___desk_Line_string___Put
 refine fs Tryz.func17 fun w S0 γ hγ => ?_
 apply z [2, 31, 1, 5, 2, 30, 48, 33, 36, 1]
 refine c ?_ ?_
 · apply z [2, 31, 1, 8, 10]
   exact rt [(0, 0), (1, 1)]
 apply z [9, 4, 5, 2, 30, 48, 33, 36, 1, 6, 30, 1, 5]
 refine b fun _ h1 => ?_
 refine selSB elt_S (run_zeroValue ti_9.h) rfl rfl rfl (grdN h1) rfl ?_ ?_
 · apply z [35, 41, 1, 7]
   refine c ?_ ?_
   · apply z [2, 31, 1, 8, 12]
     exact rt [(0, 0), (1, 1)]
   apply z [2, 31, 1, 8, 12]
   exact rt [(0, 0), (1, 1)]
 apply z [35, 41, 1, 7]
 refine c ?_ ?_
 · apply z [2, 31, 1, 8, 12]
   exact rt [(0, 0), (1, 1)]
 apply z [2, 31, 1, 8, 12]
 exact rt [(0, 0), (1, 1)]
theorem c___desk_Line_string___Room {x0_c} {x0_shut} : ∀ r, m___desk_Line_string___Room x0_c x0_shut = some r → FnOk Tryz.prog 18 [.own 0] [(0, .bx 53 (.agg [.own 1, bl x0_shut])), (1, chC chVS x0_c)] (i64 r) [(0, .bx 53 (.agg [.own 1, bl x0_shut])), (1, chC chVS x0_c)] := by
 unfold m___desk_Line_string___Room
 refine fs Tryz.func18 fun w S0 γ hγ => ?_
 apply z [2, 31, 1, 2, 30, 48, 33, 36]
 refine b fun _ h1 => ?_
 refine s1 (capChC Tryz.underlying51 rfl (Nat.le_of_ble_eq_true (grd_some h1)) rfl rfl) ?_
 apply z [31, 1, 8]
 exact rt [(0, 0), (1, 1)]
theorem c___desk_Desk__Ask {x0_in__c} {x0_in__shut} {x0_out_c} {x0_out_shut} {x0_asked} {x0_answered} {x0_closed} {x1} : ∀ r, m___desk_Desk__Ask x0_in__c x0_in__shut x0_out_c x0_out_shut x0_asked x0_answered x0_closed x1 = some r → FnOk Tryz.prog 13 [.own 0, str x1] [(0, .bx 48 (.agg [.own 1, .own 3, i64 x0_asked, i64 x0_answered, bl x0_closed])), (1, .bx 53 (.agg [.own 2, bl x0_in__shut])), (2, chC chVS x0_in__c), (3, .bx 53 (.agg [.own 4, bl x0_out_shut])), (4, chC chVS x0_out_c)] (L_api_Fault r.1) [(0, .bx 48 (.agg [.own 1, .own 3, i64 r.2.1, i64 r.2.2.1, bl r.2.2.2.1])), (1, .bx 53 (.agg [.own 2, bl x0_in__shut])), (2, chC chVS r.2.2.2.2), (3, .bx 53 (.agg [.own 4, bl x0_out_shut])), (4, chC chVS x0_out_c)] := by
 unfold m___desk_Desk__Ask
 refine fs Tryz.func13 fun w S0 γ hγ => ?_
 apply z [2]
 refine o (al' 100) ?_
 apply z [1, 5, 7, 2, 30, 48, 33, 36, 31, 1]
 refine c ?_ ?_
 · apply z [2]
   refine s1 (bld (l := [i64 (8 : Int), i64 0, i64 0, i64 0]) pl_41.h ti_41.h zr_api_Fault ⟨_, _, _, (kI (x := 8) rfl), rfl, rfl, rfl, (szk (k := 1) rfl rfl), rfl⟩ rfl) ?_
   apply z [34, 1, 8, 12, 10]
   exact rt [(0, 0), (1, 1), (2, 2), (3, 3), (4, 4)]
 apply z [2, 30, 48, 33, 36, 30]
 refine b fun r1 h2 => ?_
 refine o (cG (c___desk_Line_string___Put _ h2) [1, 2] [] [1]) ?_
 apply z [44, 31, 1]
 refine c ?_ ?_
 · apply z [2, 30, 48, 33, 36]
   refine b fun r3 h4 => ?_
   refine o (cG (c___desk_Line_string___Room _ h4) [1, 2] [] [1, 2]) ?_
   refine s1 (bld (l := [i64 (7 : Int), i64 0, i64 0, i64 r3]) pl_41.h ti_41.h zr_api_Fault ⟨_, _, _, (kI (x := 7) rfl), rfl, rfl, rfl, (szk (k := 1) rfl rfl), ⟨_, _, _, rfl, rfl, rfl, rfl, (szk (k := 1) rfl rfl), rfl⟩⟩ rfl) ?_
   apply z [34, 1, 8, 12, 10]
   exact rt [(0, 0), (1, 1), (2, 2), (3, 3), (4, 4)]
 apply z [9, 11, 4, 2, 30, 48, 33, 36, 40, 48, 33]
 refine o (stP (.agg [.own 1, .own 3, i64 (wrap64 (x0_asked + (1 : Int))), i64 x0_answered, bl x0_closed]) [2]) ?_
 apply z [1, 2]
 refine s1 (bld (l := [i64 0, i64 0, i64 0, i64 0]) pl_41.h ti_41.h zr_api_Fault rfl rfl) ?_
 apply z [34, 1, 8]
 exact rt [(0, 0), (1, 1), (2, 2), (3, 3), (4, 4)]
theorem c___desk_Line_string___Waiting {x0_c} {x0_shut} : ∀ r, m___desk_Line_string___Waiting x0_c x0_shut = some r → FnOk Tryz.prog 19 [.own 0] [(0, .bx 53 (.agg [.own 1, bl x0_shut])), (1, chC chVS x0_c)] (i64 r) [(0, .bx 53 (.agg [.own 1, bl x0_shut])), (1, chC chVS x0_c)] := by
 unfold m___desk_Line_string___Waiting
 refine fs Tryz.func19 fun w S0 γ hγ => ?_
 apply z [2, 31, 1, 2, 30, 48, 33, 36]
 refine b fun _ h1 => ?_
 refine s1 (lenChC Tryz.underlying51 rfl (grd_some h1) rfl rfl) ?_
 apply z [31, 1, 8]
 exact rt [(0, 0), (1, 1)]
theorem c___desk_Line_string___Take {x0_c} {x0_shut} : ∀ r, m___desk_Line_string___Take x0_c x0_shut = some r → FnOk Tryz.prog 20 [.own 0] [(0, .bx 53 (.agg [.own 1, bl x0_shut])), (1, chC chVS x0_c)] (.tup [str r.1, bl r.2.1]) [(0, .bx 53 (.agg [.own 1, bl x0_shut])), (1, chC chVS r.2.2)] := by
 unfold m___desk_Line_string___Take
 refine fs Tryz.func20 fun w S0 γ hγ => ?_
 apply z [2, 31, 31, 1, 2, 30, 48, 33, 36, 1, 5]
 refine b fun _ h1 => ?_
 refine selRB (ok := okS) elt_S ([] : List UInt8) (run_zeroValue ti_9.h) rfl rfl rfl rfl (grd_some h1) (fun y2 t3 => ?_) ?_ ?_
 · apply z [35, 41, 1, 7]
   refine c ?_ ?_
   · apply z [2, 35, 35, 31, 31, 1, 2, 30, 30, 31, 31, 1, 8, 12]
     exact rt [(0, 0), (1, 1)]
   apply z [2, 31, 1, 2, 30, 31, 31, 1, 8, 12]
   exact rt [(0, 0), (1, 1)]
 · apply z [35, 41, 1, 7]
   refine c ?_ ?_
   · apply z [2, 35, 35, 31, 31, 1, 2, 30, 30, 31, 31, 1, 8, 12]
     exact rt [(0, 0), (1, 1)]
   apply z [2, 31, 1, 2, 30, 31, 31, 1, 8, 12]
   exact rt [(0, 0), (1, 1)]
 apply z [35, 41, 1, 7]
 refine c ?_ ?_
 · apply z [2, 35, 35, 31, 31, 1, 2, 30, 30, 31, 31, 1, 8, 12]
   exact rt [(0, 0), (1, 1)]
 apply z [2, 31, 1, 2, 30, 31, 31, 1, 8, 12]
 exact rt [(0, 0), (1, 1)]
theorem c_lex_digit {x0} : ∀ r, m_lex_digit x0 = some r → FnOk Tryz.prog 306 [u8 x0] [] (bl r) [] := by
 unfold m_lex_digit
 refine fs Tryz.func306 fun w S0 γ hγ => ?_
 apply z [2, 31, 1]
 refine sjq (fun s3 => [(2, bl s3)]) (fun s3 => []) ?_ ?_
 · intro j1 hj2
   apply z [6, 30, 71, 30]
   refine sifd 5 rfl ?_ ?_
   · apply z [22, 22, 38, 31, 1]
     exact sj (hj2 _) eI
   apply z [23, 23, 37, 31, 1]
   exact sj (hj2 _) eI
 intro s3
 apply z [8]
 exact rt []
theorem c_lex_letter {x0} : ∀ r, m_lex_letter x0 = some r → FnOk Tryz.prog 307 [u8 x0] [] (bl r) [] := by
 unfold m_lex_letter
 refine fs Tryz.func307 fun w S0 γ hγ => ?_
 apply z [2, 31, 1]
 refine sjq (fun s3 => [(2, bl s3)]) (fun s3 => []) ?_ ?_
 · intro j1 hj2
   apply z [6, 30, 71, 30]
   refine sifd 5 rfl ?_ ?_
   · apply z [22, 22, 38, 30]
     refine sifd 9 rfl ?_ ?_
     · apply z [23, 23, 23, 24, 24, 23, 38, 30, 23, 23, 38, 31, 1]
       exact sj (hj2 _) eI
     apply z [22, 22, 22]
     refine sifd 12 rfl ?_ ?_
     · apply z [22, 22, 22, 37, 30]
       refine sifd 17 rfl ?_ ?_
       · apply z [23, 23, 38, 31, 1]
         exact sj (hj2 _) eI
       apply z [22, 22, 37, 31, 1]
       exact sj (hj2 _) eI
     apply z [23, 23, 22, 37, 30, 22, 22, 37, 31, 1]
     exact sj (hj2 _) eI
   apply z [23, 23, 37, 30, 22, 22, 22]
   refine sifd 12 rfl ?_ ?_
   · apply z [22, 22, 22, 37, 30]
     refine sifd 17 rfl ?_ ?_
     · apply z [23, 23, 38, 31, 1]
       exact sj (hj2 _) eI
     apply z [22, 22, 37, 31, 1]
     exact sj (hj2 _) eI
   apply z [23, 23, 22, 37, 30, 22, 22, 37, 31, 1]
   exact sj (hj2 _) eI
 intro s3
 apply z [8]
 exact rt []
theorem c_lex_sign {n : Nat} {x0} : ∀ r, m_lex_sign n x0 = some r → FnOk Tryz.prog 308 [u8 x0] [] (bl r) [] := by
 unfold m_lex_sign
 refine fs Tryz.func308 fun w S0 γ hγ => ?_
 apply z [2, 31, 1, 5, 2]
 refine so (rngS (y := 100) Tryz.underlying9 (kS (s := [43, 45, 42, 47, 94, 40, 41, 91, 93, 44, 59, 61]) rfl) rfl rfl) ?_
 apply z [1, 7]
 refine sloopE 0 Lp.go (fun s9 => [(0, u8 x0), (2, bl false), (5, .own 100)]) (fun s9 => [(100, .ob (sIt ([43, 45, 42, 47, 94, 40, 41, 91, 93, 44, 59, 61] : List UInt8) s9))]) (fun t7 => [(2, bl false)]) (fun t7 => []) (eR [(100, 100)]) ?_ ?_
 · intro hj8 s9
   apply z [2]
   refine sif (fun hb10 => ?_) (fun hb10 => ?_)
   · refine so (nxtT hb10 rfl rfl rfl rfl) ?_
     apply z [35, 1, 5]
     refine scT rfl ?_
     apply z [9, 4, 7, 2, 35]
     refine sbn (F := i32) 8 rfl fun z11 => ?_
     apply z [31, 1, 2, 30, 83, 30, 66, 1]
     refine c ?_ ?_
     · apply z [2, 31, 1, 8, 12]
       refine sU ?_
       apply z [12, 10]
       exact rt []
     apply z [9, 11]
     exact sgo (eR [(100, 100)])
   · refine s1 (nxtF hb10 rfl rfl rfl) ?_
     apply z [35, 1, 5]
     refine scF rfl ?_
     apply z [14, 15]
     exact su (sj (hj8 _) (eR []))
 intro t7
 refine slpk ?_
 apply z [13, 4, 2, 31, 1, 8]
 exact rt []
theorem c_lex_kind {n : Nat} {x0} : ∀ r, m_lex_kind n x0 = some r → FnOk Tryz.prog 231 [u8 x0] [] (i64 r) [] := by
 unfold m_lex_kind
 refine fs Tryz.func231 fun w S0 γ hγ => ?_
 apply z [2, 31, 1, 5, 7, 2, 30]
 refine cb (ca c_lex_digit) fun r1 => ?_
 apply z [31, 1]
 refine c ?_ ?_
 · apply z [2, 31, 1, 8, 12, 10]
   exact rt []
 apply z [2, 30]
 refine cb (ca c_lex_letter) fun r3 => ?_
 apply z [31, 1]
 refine c ?_ ?_
 · apply z [2, 31, 1, 8, 12, 10]
   exact rt []
 apply z [2, 30]
 refine cb (ca c_lex_sign) fun r5 => ?_
 apply z [31, 1]
 refine c ?_ ?_
 · apply z [2, 31, 1, 8, 12, 10]
   exact rt []
 apply z [9, 11, 4, 2, 31, 1, 8]
 exact rt []
theorem c_lex_goes {x0} {x1} : ∀ r, m_lex_goes x0 x1 = some r → FnOk Tryz.prog 309 [i64 x0, u8 x1] [] (bl r) [] := by
 unfold m_lex_goes
 refine fs Tryz.func309 fun w S0 γ hγ => ?_
 apply z [2, 31, 1]
 refine sjq (fun s13 => [(4, bl s13)]) (fun s13 => []) ?_ ?_
 · intro j11 hj12
   apply z [6, 30, 41, 30]
   refine sifd 7 rfl ?_ ?_
   · apply z [22]
     refine b fun r14 h15 => ?_
     refine og' (c0 (c_lex_digit _ h15)) ?_
     apply z [38, 30]
     refine sifd 11 rfl ?_ ?_
     · apply z [23, 23, 23, 24, 24, 24, 24, 24, 24, 23, 38, 31, 1]
       exact sj (hj12 _) eI
     apply z [22, 22, 22]
     refine sifd 14 rfl ?_ ?_
     · apply z [22]
       refine b fun r16 h17 => ?_
       refine og' (c0 (c_lex_letter _ h17)) ?_
       apply z [22]
       refine sifd 17 rfl ?_ ?_
       · apply z [23, 23, 22, 22, 37, 31, 1]
         exact sj (hj12 _) eI
       apply z [22]
       refine b fun r18 h19 => ?_
       refine og' (c0 (c_lex_digit _ h19)) ?_
       apply z [22, 22, 37, 31, 1]
       exact sj (hj12 _) eI
     apply z [23, 23, 23, 24, 24, 23, 22, 37, 31, 1]
     exact sj (hj12 _) eI
   apply z [23, 23, 37, 30, 22, 22, 22]
   refine sifd 14 rfl ?_ ?_
   · apply z [22]
     refine b fun r20 h21 => ?_
     refine og' (c0 (c_lex_letter _ h21)) ?_
     apply z [22]
     refine sifd 17 rfl ?_ ?_
     · apply z [23, 23, 22, 22, 37, 31, 1]
       exact sj (hj12 _) eI
     apply z [22]
     refine b fun r22 h23 => ?_
     refine og' (c0 (c_lex_digit _ h23)) ?_
     apply z [22, 22, 37, 31, 1]
     exact sj (hj12 _) eI
   apply z [23, 23, 23, 24, 24, 23, 22, 37, 31, 1]
   exact sj (hj12 _) eI
 intro s13
 apply z [8]
 exact rt []
theorem c_lex_first {n : Nat} {x0} {x1} : ∀ r, m_lex_first n x0 x1 = some r → FnOk Tryz.prog 232 [str x0, i64 x1] [] (i64 r) [] := by
 unfold m_lex_first
 refine fs Tryz.func232 fun w S0 γ hγ => ?_
 apply z [2, 31, 1, 2, 31, 1, 5, 7]
 refine sloopE 0 (fun t => t) (fun s27 => [(0, str x0), (1, i64 x1), (4, i64 (0 : Int)), (5, i64 s27)]) (fun s27 => []) (fun t25 => [(4, i64 (0 : Int)), (5, i64 t25)]) (fun t25 => []) eI ?_ ?_
 · intro hj26 s27
   apply z [5]
   refine sjq (fun s34 => [(0, str x0), (1, i64 x1), (4, i64 (0 : Int)), (5, i64 s27), (16, bl s34)]) (fun s34 => []) ?_ ?_
   · intro j32 hj33
     apply z [6, 30, 30, 54, 46, 30]
     refine sifd 10 rfl ?_ ?_
     · apply z [22, 22, 22]
       refine b fun y35 h36 => ?_
       apply z [22]
       refine b fun r37 h38 => ?_
       refine og' (c0 (c_lex_goes _ h38)) ?_
       apply z [38, 1]
       exact sj (hj33 _) eI
     apply z [23, 23, 23, 23, 23, 37, 1]
     exact sj (hj33 _) eI
   intro s34
   refine c ?_ ?_
   · apply z [9, 4, 7, 6, 30, 40, 31, 3, 11]
     exact sgo eI
   apply z [14, 15]
   exact su (sj (hj26 _) eI)
 intro t25
 apply z [13, 4, 2, 30, 31, 1, 8]
 exact rt []
theorem c_lex_most {x0} : ∀ r, m_lex_most x0 = some r → FnOk Tryz.prog 233 [i64 x0] [] (i64 r) [] := by
 unfold m_lex_most
 refine fs Tryz.func233 fun w S0 γ hγ => ?_
 apply z [2, 31, 1, 5, 2, 30, 1, 7, 2, 41, 31, 1]
 refine c ?_ ?_
 · apply z [2, 31, 1, 8, 12, 10]
   exact rt []
 apply z [2, 41, 31, 1]
 refine c ?_ ?_
 · apply z [2, 31, 1, 8, 12, 10]
   exact rt []
 apply z [9, 11, 4, 2, 31, 1, 8]
 exact rt []
theorem c_lex_Right {n : Nat} {x0} : ∀ r, m_lex_Right n x0 = some r → FnOk Tryz.prog 165 [L_lex_Word x0] [] (bl r) [] := by
 unfold m_lex_Right
 refine fs Tryz.func165 fun w S0 γ hγ => ?_
 apply z [2]
 refine o (bx' 100) ?_
 apply z [31, 1, 5]
 refine sjq (fun s9 => [(1, .own 100), (2, bl false), (19, bl s9)]) (fun s9 => [(100, .bx 284 (L_lex_Word x0))]) ?_ ?_
 · intro j7 hj8
   refine sif (fun hb10 => ?_) (fun hb10 => ?_)
   · refine sd ?_
     apply zd [[100], [100], []]
     refine dd [] (fun _ _ _ _ => obk hb10 ops) ?_
     apply zd [[], [], [], [], [], [], [], [], [], [], [], [], []]
     refine de fol ?_
     apply z [4]
     exact sj (hj8 _) (eR [(100, 100)])
   refine sif (fun hb11 => ?_) (fun hb11 => ?_)
   · refine sd ?_
     apply zd [[100], [100], []]
     refine dd [] (fun _ _ _ _ => obk hb10 ops) ?_
     apply zd [[100], [100], [], []]
     refine dd [] (fun _ _ _ _ => obk hb11 ops) ?_
     apply zd [[], [], [], [], [], [], [], []]
     refine de fol ?_
     apply z [4]
     exact sj (hj8 _) (eR [(100, 100)])
   refine b fun y12 h13 => ?_
   refine b fun r14 h15 => ?_
   refine sd ?_
   apply zd [[100], [100], []]
   refine dd [] (fun _ _ _ _ => obk hb10 ops) ?_
   apply zd [[100], [100], [], []]
   refine dd [] (fun _ _ _ _ => obk hb11 ops) ?_
   apply zd [[100], [100], []]
   refine dG [] (fun _ _ _ _ => c0 (c_lex_kind _ h15)) ?_
   apply zd [[100], [100], [], []]
   refine de fol ?_
   apply z [4]
   exact sj (hj8 _) (eR [(100, 100)])
 intro s9
 refine c ?_ ?_
 · apply z [2, 31, 1, 8, 10]
   exact rt []
 apply z [9, 4]
 refine sjq (fun s23 => [(2, bl s23)]) (fun s23 => []) ?_ ?_
 · intro j21 hj22
   refine b fun r24 h25 => ?_
   refine sif (fun hb26 => ?_) (fun hb26 => ?_)
   · refine b fun r27 h28 => ?_
     refine sd ?_
     apply zd [[100], [100], [100], [100]]
     refine dd [] (fun _ _ _ _ => c0 (c_lex_first _ h25)) ?_
     apply zd [[100], [100], [], []]
     refine dd [] (fun _ _ _ _ => obk hb26 ops) ?_
     apply zd [[100], [100], [], [100], [100]]
     refine dG [] (fun _ _ _ _ => c0 (c_lex_most _ h28)) ?_
     apply zd [[], [], []]
     refine de fol ?_
     apply z [4]
     exact sj (hj22 _) (eR [])
   refine sd ?_
   apply zd [[100], [100], [100], [100]]
   refine dd [] (fun _ _ _ _ => c0 (c_lex_first _ h25)) ?_
   apply zd [[100], [100], [], []]
   refine dd [] (fun _ _ _ _ => obk hb26 ops) ?_
   apply zd [[], [], [], [], [], [], [], [], []]
   refine de fol ?_
   apply z [4]
   exact sj (hj22 _) (eR [])
 intro s23
 apply z [8]
 exact rt []
theorem c_wire_named {n : Nat} {x0} : ∀ r, m_wire_named n x0 = some r → FnOk Tryz.prog 89 [str x0] [] (bl r) [] := by
 unfold m_wire_named
 refine fs Tryz.func89 fun w S0 γ hγ => ?_
 apply z [2, 31, 1, 2, 30]
 refine s1 (bld (l := [i64 (2 : Int), str x0, i64 0]) pl_284.h ti_284.h zr_lex_Word ⟨_, _, _, (kI (x := 2) rfl), rfl, rfl, rfl, (szk (k := 1) rfl rfl), ⟨_, _, _, rfl, rfl, rfl, rfl, (szk (k := 1) rfl rfl), rfl⟩⟩ rfl) ?_
 refine cb (ca c_lex_Right) fun r1 => ?_
 apply z [31, 1, 8]
 exact rt []
theorem c_wire_parse {x0} : ∀ r, m_wire_parse x0 = some r → FnOk Tryz.prog 90 [i64 x0] [] (L_api_Fault r) [] := by
 unfold m_wire_parse
 refine fs Tryz.func90 fun w S0 γ hγ => ?_
 apply z [2]
 refine o (al' 100) ?_
 apply z [1, 2, 30]
 refine s1 (bld (l := [i64 (1 : Int), i64 0, i64 0, i64 x0]) pl_41.h ti_41.h zr_api_Fault ⟨_, _, _, (kI (x := 1) rfl), rfl, rfl, rfl, (szk (k := 1) rfl rfl), ⟨_, _, _, rfl, rfl, rfl, rfl, (szk (k := 1) rfl rfl), rfl⟩⟩ rfl) ?_
 apply z [34, 1, 8]
 exact rt []
theorem c_digits_wrong {n : Nat} {x0} : ∀ r, m_digits_wrong n x0 = some r → FnOk Tryz.prog 234 [str x0] [] (i64 r) [] := by
 unfold m_digits_wrong
 refine fs Tryz.func234 fun w S0 γ hγ => ?_
 apply z [2, 31, 1, 5, 2, 30, 54, 30, 1, 7]
 refine sloopE 0 Lp.go (fun s27 => [(0, str x0), (2, i64 (0 : Int)), (5, i64 (x0.length : Int)), (6, i64 s27)]) (fun s27 => []) (fun t25 => [(0, str x0), (2, i64 (0 : Int))]) (fun t25 => []) eI ?_ ?_
 · intro hj26 s27
   apply z [2, 46, 1, 5]
   refine c ?_ ?_
   · apply z [9, 4, 5, 7, 2, 30, 31, 1]
     refine sjq (fun s34 => [(0, str x0), (2, i64 (0 : Int)), (3, i64 s27), (5, i64 (x0.length : Int)), (6, i64 s27), (22, bl s34)]) (fun s34 => []) ?_ ?_
     · intro j32 hj33
       apply z [6, 30, 30]
       refine b fun y35 h36 => ?_
       apply z [90, 68, 30]
       refine sifd 13 rfl ?_ ?_
       · apply z [23, 23, 23, 23, 38, 30, 23, 23, 38, 1]
         exact sj (hj33 _) eI
       apply z [22, 22]
       refine b fun y37 h38 => ?_
       apply z [22, 22, 37, 30]
       refine sifd 19 rfl ?_ ?_
       · apply z [23, 23, 38, 1]
         exact sj (hj33 _) eI
       apply z [22, 22, 37, 1]
       exact sj (hj33 _) eI
     intro s34
     refine c ?_ ?_
     · apply z [2, 30, 31, 1, 8, 12, 10]
       refine sU ?_
       apply z [12, 10]
       exact rt []
     apply z [9, 11, 4, 6, 40, 30, 3]
     exact sgo eI
   apply z [14, 15]
   exact su (sj (hj26 _) eI)
 intro t25
 refine slpk ?_
 apply z [13, 4, 5, 2, 30, 72, 1]
 refine c ?_ ?_
 · apply z [2, 31, 1, 8, 10]
   exact rt []
 apply z [9, 4, 2, 31, 1, 8]
 exact rt []
theorem c_limb_Mul {x0} {x1} {x2} {x3} : ∀ r, m_limb_Mul x0 x1 x2 x3 = some r → FnOk Tryz.prog 336 [u32 x0, u32 x1, u32 x2, u32 x3] [] (.tup [u32 r.1, u32 r.2]) [] := by
 unfold m_limb_Mul
 refine fs Tryz.func336 fun w S0 γ hγ => ?_
 apply z [2, 31, 31, 1, 2, 30, 59, 30, 59, 63, 30, 59, 61, 30, 59, 61]
 refine sbn (F := u64) 21 rfl fun z1 => ?_
 apply z [31, 1, 2, 30]
 refine s1 (shrU uk64 rfl rfl rfl (k64 (x := 32) rfl)) ?_
 apply z [60, 30, 60, 31, 31, 1, 8]
 exact rt []
theorem c_prod_row {x0} {x1} {x2} {x3} {x4} : ∀ r, m_prod_row x0 x1 x2 x3 x4 = some r → FnOk Tryz.prog 271 [.own 0, i64 x1, sli 1 (List.map u32 x2), u32 x3, u32 x4] [(0, .sl 316 1 (List.map u32 x0))] (.tup []) [(0, .sl 316 1 (List.map u32 r))] := by
 unfold m_prod_row
 refine fs Tryz.func271 fun w S0 γ hγ => ?_
 apply z [5, 2, 30, 39, 30, 1, 7]
 refine srN (fun s22 => [(0, .own 0), (1, i64 x1), (2, sli 1 (List.map u32 x2)), (3, u32 x3), (4, u32 s22.2), (12, sli 1 (List.map u32 x2))]) (fun s22 => [(0, .sl 316 1 (List.map u32 s22.1))]) (rE (eR [(0, 0)])) ?_ ?_
 · intro i23 x24 s22 hx25
   apply z [7, 2, 30, 43, 42, 31, 31, 1, 6, 30, 30, 30, 40, 30, 30, 30, 30, 30, 40]
   refine b fun y26 h27 => ?_
   apply z [50, 51, 30]
   refine cb (ca c_limb_Mul) fun r28 => ?_
   apply z [30, 35, 35, 31]
   refine b fun y30 h31 => ?_
   apply z [50, 53, 3, 11]
   exact sgo (eR [(0, 0)])
 intro s32
 apply z [13, 4, 6, 30, 30, 30, 39, 40, 30]
 refine b fun y33 h34 => ?_
 apply z [50, 53, 3]
 exact rt [(0, 0)]
theorem c_nat_trim {n : Nat} {x0} : ∀ r, m_nat_trim n x0 = some r → FnOk Tryz.prog 190 [sli 1 (List.map u32 x0)] [] (sli 1 (List.map u32 r)) [] := by
 unfold m_nat_trim
 refine fs Tryz.func190 fun w S0 γ hγ => ?_
 apply z [2]
 refine s1 (asg rfl (kLm (k := 1) u32)) ?_
 apply z [1, 2, 30, 39, 31, 1, 5, 7]
 refine sloopE 0 (fun t => t) (fun s19 => [(0, sli 1 (List.map u32 x0)), (2, sli 1 (List.map u32 ([] : List Nat))), (3, i64 s19)]) (fun s19 => []) (fun t17 => [(0, sli 1 (List.map u32 x0)), (2, sli 1 (List.map u32 ([] : List Nat))), (3, i64 t17)]) (fun t17 => []) eI ?_ ?_
 · intro hj18 s19
   apply z [5]
   refine sjq (fun s24 => [(0, sli 1 (List.map u32 x0)), (2, sli 1 (List.map u32 ([] : List Nat))), (3, i64 s19), (15, bl s24)]) (fun s24 => []) ?_ ?_
   · intro j22 hj23
     apply z [6, 30, 47, 30]
     refine sifd 8 rfl ?_ ?_
     · apply z [22, 22, 22]
       refine b fun y25 h26 => ?_
       apply z [22, 22, 22, 38, 1]
       exact sj (hj23 _) eI
     apply z [23, 23, 23, 23, 23, 23, 37, 1]
     exact sj (hj23 _) eI
   intro s24
   refine c ?_ ?_
   · apply z [9, 4, 7, 6, 30, 49, 31, 3, 11]
     exact sgo eI
   apply z [14, 15]
   exact su (sj (hj18 _) eI)
 intro t17
 apply z [13, 4, 2, 30, 30]
 refine b fun y27 h28 => ?_
 refine s1 (slR (f := u32) h28 Tryz.underlying67 ti_316.h rfl rfl bnd0 (bnd rfl)) ?_
 apply z [31, 1, 8]
 exact rt []
theorem c_nat_fresh {x0} {x1} : ∀ r, m_nat_fresh x0 x1 = some r → FnOk Tryz.prog 331 [sli 1 (List.map u32 x0), i64 x1] [] (.own 50) [(50, .sl 316 1 (List.map u32 r))] := by
 unfold m_nat_fresh
 refine fs Tryz.func331 fun w S0 γ hγ => ?_
 apply z [2]
 refine s1 (asg rfl (kLm (k := 1) u32)) ?_
 apply z [1, 2, 30, 39, 30, 40]
 refine b fun y1 h2 => ?_
 refine so (mks (y := 100) (f := u32) h2 Tryz.underlying67 ti_316.h zr_u32 rfl rfl rfl rfl rfl rfl) ?_
 apply z [31, 1, 2, 30, 30]
 refine so (cpy (f := u32) rfl Tryz.underlying67 ti_316.h rfl rfl (.inl rfl) rfl) ?_
 apply z [1, 2, 30, 31, 1, 8]
 exact rt [(50, 100)]
theorem c_nat_Norm {n : Nat} {x0} : ∀ r, m_nat_Norm n x0 = some r → FnOk Tryz.prog 269 [sli 1 (List.map u32 x0)] [] (.own 50) [(50, .sl 316 1 (List.map u32 r))] := by
 unfold m_nat_Norm
 refine fs Tryz.func269 fun w S0 γ hγ => ?_
 apply z [2]
 refine s1 (asg rfl (kLm (k := 1) u32)) ?_
 apply z [1, 2, 30]
 refine cb (ca c_nat_trim) fun r1 => ?_
 refine b fun r3 h4 => ?_
 refine o (cG (c_nat_fresh _ h4) [] [(100, 50)] []) ?_
 apply z [31, 1, 8]
 exact rt [(50, 100)]
theorem c_prod_Word {n : Nat} {x0} {x1} {x2} : ∀ r, m_prod_Word n x0 x1 x2 = some r → FnOk Tryz.prog 235 [sli 1 (List.map u32 x0), u32 x1, u32 x2] [] (sli 1 (List.map u32 r)) [] := by
 unfold m_prod_Word
 refine fs Tryz.func235 fun w S0 γ hγ => ?_
 apply z [2]
 refine s1 (asg rfl (kLm (k := 1) u32)) ?_
 apply z [1, 2, 30, 39, 40]
 refine b fun y1 h2 => ?_
 refine so (mks (y := 100) (f := u32) h2 Tryz.underlying67 ti_316.h zr_u32 rfl rfl rfl rfl rfl rfl) ?_
 apply z [31, 1, 2, 30, 30, 30, 30]
 refine b fun r3 h4 => ?_
 refine o (cG (c_prod_row _ h4) [100] [] []) ?_
 apply z [1, 2, 30]
 refine b fun r5 h6 => ?_
 refine so (callL (em := [(101, .sl 316 1 (List.map u32 r5))]) (res' := .own 101) [100] [] [(101, 50)] [(101, 50)] rfl (c_nat_Norm _ h6) ⟨pls_map (f := u32) (fun _ => pl_u32) _, trivial⟩ (pl_own) ⟨.inr ⟨100, rfl, .inl ⟨rfl, .inl ⟨_, _, _, rfl, ifs_map (f := u32) (fun _ => if_u32) r3, rfl⟩⟩⟩, trivial⟩ (MiF.get (mi := []) trivial) trivial rfl ⟨rfl, trivial⟩ ⟨.inl rfl, trivial⟩ rfl ⟨.inl ⟨_, _, rfl, rfl, rc_sl (ifs_map (f := u32) (fun _ => if_u32) r5)⟩, trivial⟩ trivial ⟨⟨_, rfl⟩, trivial⟩ (rn_own rfl) rfl) ?_
 apply z [31, 1, 8]
 refine fz 101 [6, 18] [] ?_
 exact rt []
theorem c_digits_Read {n : Nat} {x0} : ∀ r, m_digits_Read n x0 = some r → FnOk Tryz.prog 166 [str x0] [] (.tup [sli 1 (List.map u32 r.1), L_api_Fault r.2]) [] := by
 unfold m_digits_Read
 refine fs Tryz.func166 fun w S0 γ hγ => ?_
 apply z [2]
 refine s1 (asg rfl (kLm (k := 1) u32)) ?_
 refine o (al' 100) ?_
 apply z [1, 5, 2, 30]
 refine cb (ca c_digits_wrong) fun r1 => ?_
 apply z [31, 1, 2, 30, 57, 1]
 refine c ?_ ?_
 · apply z [2, 30]
   refine s1 (bld (l := [i64 (1 : Int), i64 0, i64 0, i64 r1]) pl_41.h ti_41.h zr_api_Fault ⟨_, _, _, (kI (x := 1) rfl), rfl, rfl, rfl, (szk (k := 1) rfl rfl), ⟨_, _, _, rfl, rfl, rfl, rfl, (szk (k := 1) rfl rfl), rfl⟩⟩ rfl) ?_
   refine s1 (asg rfl (kLm (k := 1) u32)) ?_
   apply z [34, 1, 8, 10]
   exact rt []
 apply z [9, 4, 2]
 refine s1 (asg rfl (kLm (k := 1) u32)) ?_
 apply z [1, 5, 2, 31, 1, 7]
 refine sloopE 0 (fun t => t) (fun s49 => [(0, str x0), (2, sli 1 (List.map u32 ([] : List Nat))), (3, .own 100), (5, sli 1 (List.map u32 s49.1)), (6, i64 s49.2)]) (fun s49 => [(100, .bx 41 (L_api_Fault (⟨0, 0, 0, 0⟩ : M_api_Fault)))]) (fun t47 => [(2, sli 1 (List.map u32 ([] : List Nat))), (3, .own 100), (5, sli 1 (List.map u32 t47))]) (fun t47 => [(100, .bx 41 (L_api_Fault (⟨0, 0, 0, 0⟩ : M_api_Fault)))]) (eR [(100, 100)]) ?_ ?_
 · intro hj48 s49
   apply z [5, 2, 30, 30, 54, 46, 1]
   refine c ?_ ?_
   · apply z [9, 4, 7, 2, 31, 31, 1, 5, 2, 31, 1, 7]
     refine sloopE 2 (fun t => t) (fun s59 => [(0, str x0), (2, sli 1 (List.map u32 ([] : List Nat))), (3, .own 100), (5, sli 1 (List.map u32 s49.1)), (6, i64 s59.1), (7, u32 s59.2.1), (8, u32 s59.2.2.1), (9, i64 s59.2.2.2)]) (fun s59 => [(100, .bx 41 (L_api_Fault (⟨0, 0, 0, 0⟩ : M_api_Fault)))]) (fun t57 => [(0, str x0), (2, sli 1 (List.map u32 ([] : List Nat))), (3, .own 100), (5, sli 1 (List.map u32 s49.1)), (6, i64 t57.1), (7, u32 t57.2.1), (8, u32 t57.2.2)]) (fun t57 => [(100, .bx 41 (L_api_Fault (⟨0, 0, 0, 0⟩ : M_api_Fault)))]) (eR [(100, 100)]) ?_ ?_
     · intro hj58 s59
       apply z [5]
       refine sjq (fun s62 => [(0, str x0), (2, sli 1 (List.map u32 ([] : List Nat))), (3, .own 100), (5, sli 1 (List.map u32 s49.1)), (6, i64 s59.1), (7, u32 s59.2.1), (8, u32 s59.2.2.1), (9, i64 s59.2.2.2), (27, bl s62)]) (fun s62 => [(100, .bx 41 (L_api_Fault (⟨0, 0, 0, 0⟩ : M_api_Fault)))]) ?_ ?_
       · intro j60 hj61
         apply z [6, 30, 46, 30]
         refine sifd 22 rfl ?_ ?_
         · apply z [22, 22, 22, 22, 38, 1]
           exact sj (hj61 _) (eR [(100, 100)])
         apply z [23, 23, 23, 23, 37, 1]
         exact sj (hj61 _) (eR [(100, 100)])
       intro s62
       refine c ?_ ?_
       · apply z [9, 4, 5, 7, 2, 30, 63, 30, 30]
         refine b fun y63 h64 => ?_
         apply z [90, 62, 59, 61]
         refine sbn (F := u32) 37 rfl fun z65 => ?_
         apply z [31, 1, 2, 30, 63, 31, 1, 6, 30, 40, 31, 3, 11, 4, 6, 30, 40, 31, 3]
         exact sgo (eR [(100, 100)])
       apply z [14, 15]
       exact su (sj (hj58 _) (eR [(100, 100)]))
     intro t57
     apply z [13, 4, 6, 30, 30, 30]
     refine cb (ca c_prod_Word) fun r66 => ?_
     apply z [31, 3, 11]
     exact sgo (eR [(100, 100)])
   apply z [14, 15]
   exact su (sj (hj48 _) (eR [(100, 100)]))
 intro t47
 apply z [13, 4, 2, 30]
 refine s1 (bld (l := [i64 0, i64 0, i64 0, i64 0]) pl_41.h ti_41.h zr_api_Fault rfl rfl) ?_
 apply z [31, 34, 1, 8]
 exact rt []
theorem c_nat_Zero {n : Nat} {x0} : ∀ r, m_nat_Zero n x0 = some r → FnOk Tryz.prog 200 [sli 1 (List.map u32 x0)] [] (bl r) [] := by
 unfold m_nat_Zero
 refine fs Tryz.func200 fun w S0 γ hγ => ?_
 apply z [2, 31, 1, 2, 30]
 refine cb (ca c_nat_trim) fun r1 => ?_
 apply z [39, 41, 31, 1, 8]
 exact rt []
theorem c_limb_Div {x0} {x1} {x2} : ∀ r, m_limb_Div x0 x1 x2 = some r → FnOk Tryz.prog 310 [u32 x0, u32 x1, u32 x2] [] (.tup [u32 r.1, u32 r.2.1, bl r.2.2]) [] := by
 unfold m_limb_Div
 refine fs Tryz.func310 fun w S0 γ hγ => ?_
 apply z [2, 31, 31, 31, 1, 5, 2, 30, 30, 71, 1]
 refine c ?_ ?_
 · apply z [2, 31, 31, 31, 1, 8, 10]
   exact rt []
 apply z [9, 4, 2, 30, 59]
 refine s1 (shlU uk64 rfl rfl rfl (k64 (x := 32) rfl)) ?_
 apply z [30, 59, 64, 31, 1, 5]
 refine b fun _ h1 => ?_
 refine b fun _ h2 => ?_
 refine sd ?_
 apply zd [[], [], []]
 refine dx [19, 21] [] (fun st mm ⟨a19, a21, _⟩ _ => og (quoU uk64 (nzU h1) rfl (a19.trans rfl) (a21.trans rfl))) ?_
 apply zd [[], [], [], []]
 refine dx [24, 26] [] (fun st mm ⟨a24, a26, _⟩ _ => og (remU uk64 (nzU h2) rfl (a24.trans rfl) (a26.trans rfl))) ?_
 apply zd [[], [], [], []]
 refine de fol ?_
 apply z [4, 8]
 exact rt []
theorem c_quot_Word {n : Nat} {x0} {x1} : ∀ r, m_quot_Word n x0 x1 = some r → FnOk Tryz.prog 236 [sli 1 (List.map u32 x0), u32 x1] [] (.tup [sli 1 (List.map u32 r.1), u32 r.2.1, bl r.2.2]) [] := by
 unfold m_quot_Word
 refine fs Tryz.func236 fun w S0 γ hγ => ?_
 apply z [2]
 refine s1 (asg rfl (kLm (k := 1) u32)) ?_
 apply z [31, 31, 1, 5, 2, 30, 66, 1]
 refine c ?_ ?_
 · apply z [2]
   refine s1 (asg rfl (kLm (k := 1) u32)) ?_
   apply z [31, 31, 1, 8, 10]
   exact rt []
 apply z [9, 4, 2, 30, 39]
 refine b fun y1 h2 => ?_
 refine so (mks (y := 100) (f := u32) h2 Tryz.underlying67 ti_316.h zr_u32 rfl rfl rfl rfl rfl rfl) ?_
 apply z [31, 1, 5, 2, 30, 39, 49, 31, 1, 7]
 refine sloopE 0 (fun t => t) (fun s20 => [(0, sli 1 (List.map u32 x0)), (1, u32 x1), (4, .own 100), (5, u32 s20.2.1), (6, bl false), (7, i64 s20.2.2)]) (fun s20 => [(100, .sl 316 1 (List.map u32 s20.1))]) (fun t18 => [(4, .own 100), (5, u32 t18.2), (6, bl false)]) (fun t18 => [(100, .sl 316 1 (List.map u32 t18.1))]) (eR [(100, 100)]) ?_ ?_
 · intro hj19 s20
   apply z [5, 2, 30, 57, 1]
   refine c ?_ ?_
   · apply z [9, 4, 5, 7, 6, 30, 30, 30, 30, 30]
     refine b fun y21 h22 => ?_
     apply z [43, 42, 30]
     refine cb (ca c_limb_Div) fun r23 => ?_
     apply z [30, 35, 35, 35]
     refine b fun y25 h26 => ?_
     apply z [50, 53, 31, 3, 11, 4, 6, 30, 49, 31, 3]
     exact sgo (eR [(100, 100)])
   apply z [14, 15]
   exact su (sj (hj19 _) (eR [(100, 100)]))
 intro t18
 apply z [13, 4, 2, 30]
 refine b fun r27 h28 => ?_
 refine so (callL (em := [(101, .sl 316 1 (List.map u32 r27))]) (res' := .own 101) [100] [] [(101, 50)] [(101, 50)] rfl (c_nat_Norm _ h28) ⟨pls_map (f := u32) (fun _ => pl_u32) _, trivial⟩ (pl_own) ⟨.inr ⟨100, rfl, .inl ⟨rfl, .inl ⟨_, _, _, rfl, ifs_map (f := u32) (fun _ => if_u32) t18.1, rfl⟩⟩⟩, trivial⟩ (MiF.get (mi := []) trivial) trivial rfl ⟨rfl, trivial⟩ ⟨.inl rfl, trivial⟩ rfl ⟨.inl ⟨_, _, rfl, rfl, rc_sl (ifs_map (f := u32) (fun _ => if_u32) r27)⟩, trivial⟩ trivial ⟨⟨_, rfl⟩, trivial⟩ (rn_own rfl) rfl) ?_
 apply z [30, 31, 31, 31, 1, 8]
 refine fz 101 [4, 35] [] ?_
 exact rt []
theorem c_digits_nine {n : Nat} {x0} : ∀ r, m_digits_nine n x0 = some r → FnOk Tryz.prog 237 [u32 x0] [] (str r) [] := by
 unfold m_digits_nine
 refine fs Tryz.func237 fun w S0 γ hγ => ?_
 apply z [2, 31, 1, 2]
 refine o (al' 100) ?_
 apply z [1, 5, 2, 31, 1, 7]
 refine sloopE 0 (fun t => t) (fun s7 => [(0, u32 s7.1), (2, str ([] : List UInt8)), (3, .own 100), (4, i64 s7.2.2)]) (fun s7 => [(100, .bx 416 (L_A9_u8 s7.2.1))]) (fun t5 => [(2, str ([] : List UInt8)), (3, .own 100)]) (fun t5 => [(100, .bx 416 (L_A9_u8 t5))]) (eR [(100, 100)]) ?_ ?_
 · intro hj6 s7
   apply z [5, 2, 30, 57, 1]
   refine c ?_ ?_
   · apply z [9, 4, 5, 7, 2, 30, 30, 81, 61, 60]
     refine b fun y8 h9 => ?_
     refine s1 (ixAO Tryz.underlying416 ti_5.h (getI_dec (n := 9) rfl h9) (.inr ⟨rfl, rfl, _, _, rfl⟩) rfl rfl rfl) ?_
     refine so (stB2 (ly := .agg (List.map u8 ([s7.2.1.a0, s7.2.1.a1, s7.2.1.a2, s7.2.1.a3, s7.2.1.a4, s7.2.1.a5, s7.2.1.a6, s7.2.1.a7, s7.2.1.a8] : List Nat))) (ly2 := L_A9_u8 (ofl_A9_u8 (List.set ([s7.2.1.a0, s7.2.1.a1, s7.2.1.a2, s7.2.1.a3, s7.2.1.a4, s7.2.1.a5, s7.2.1.a6, s7.2.1.a7, s7.2.1.a8] : List Nat) (Int.toNat s7.2.2) (((48 + (s7.1 % 10)) % 4294967296) % 256)))) (ln := u8 (((48 + (s7.1 % 10)) % 4294967296) % 256)) [Int.toNat s7.2.2] (puA0 (f := u8) h9 (ofl_ok_A9_u8 _ (List.length_set.trans rfl))) rfl (goA0 (f := u8) (fun _ => rfl) h9) sh_5.h (by exact rfl) (by exact rfl) (by exact rfl) rfl (.inl rfl) rfl) ?_
     apply z [1, 6, 30, 80, 31, 3, 11, 4, 6, 30, 49, 31, 3]
     exact sgo (eR [(100, 100)])
   apply z [14, 15]
   exact su (sj (hj6 _) (eR [(100, 100)]))
 intro t5
 apply z [13, 4, 2]
 refine so (slA (f := u8) (xs := ([t5.a0, t5.a1, t5.a2, t5.a3, t5.a4, t5.a5, t5.a6, t5.a7, t5.a8] : List Nat)) Tryz.underlying416 ti_5.h rfl rfl rfl (fun _ => if_u8) (fun _ => rfl) rfl rfl) ?_
 refine sbn (F := (fun x => sli 1 (List.map u8 x))) 17 rfl fun z10 => ?_
 refine s1 (cvBS Tryz.underlying139 Tryz.underlying5 Tryz.underlying9 rfl rfl) ?_
 apply z [31, 1, 8]
 exact rt []
theorem c_digits_Text {n : Nat} {x0} : ∀ r, m_digits_Text n x0 = some r → FnOk Tryz.prog 167 [sli 1 (List.map u32 x0)] [] (str r) [] := by
 unfold m_digits_Text
 refine fs Tryz.func167 fun w S0 γ hγ => ?_
 apply z [2, 31, 1, 5, 2, 30]
 refine cb (ca c_nat_Zero) fun r1 => ?_
 apply z [1]
 refine c ?_ ?_
 · apply z [2, 31, 1, 8, 10]
   exact rt []
 apply z [9, 4, 2]
 refine so (asgN (y := 100) (E := 9) (k := 1) rfl rfl) ?_
 apply z [1, 5, 7]
 refine sloopE 0 (fun t => t) (fun s23 => [(0, sli 1 (List.map u32 s23.1)), (2, str ([] : List UInt8)), (3, .own 100)]) (fun s23 => [(100, .sl 9 1 (List.map str s23.2))]) (fun t21 => [(2, str ([] : List UInt8)), (3, .own 100)]) (fun t21 => [(100, .sl 9 1 (List.map str t21))]) (eR [(100, 100)]) ?_ ?_
 · intro hj22 s23
   apply z [5, 2, 30]
   refine cb (ca c_nat_Zero) fun r24 => ?_
   apply z [44, 1]
   refine c ?_ ?_
   · apply z [9, 4, 7, 2, 30]
     refine cb (ca c_quot_Word) fun r26 => ?_
     apply z [30, 35, 35, 35, 31, 31, 31, 1, 2, 30, 30]
     refine cb (ca c_digits_nine) fun r28 => ?_
     refine so (bsl (y := 101) (ls := List.map str ([r28] : List (List UInt8))) Tryz.underlying110 ti_9.h rfl rfl rfl rfl rfl ⟨rfl, rfl, (by exact rfl), (by exact rfl), trivial⟩ rfl rfl) ?_
     refine b fun y30 h31 => ?_
     refine o (app' 102) ?_
     apply z [31, 1, 6, 30, 31, 3, 11]
     exact sgo (eR [(100, 102)])
   apply z [14, 15]
   exact su (sj (hj22 _) (eR [(100, 100)]))
 intro t21
 apply z [13, 4, 2]
 refine so (alOw (y := 101) (ly := .agg [.por 101, .own 102]) [(102, 5, 1)] ti_141.h (zo_agg (zos_cons (c1 := [.pointer none]) zo_por (zos_cons (c1 := [.slice none 0 0]) (zo_own rfl) zos_nil))) ⟨rfl, trivial⟩ rfl rfl rfl) ?_
 apply z [1, 5, 2, 30, 55, 49, 31, 1, 7]
 refine sloopE 2 (fun t => t) (fun s44 => [(2, str ([] : List UInt8)), (3, .own 100), (7, .own 101), (8, i64 s44.2)]) (fun s44 => [(100, .sl 9 1 (List.map str t21)), (101, .bx 141 (.agg [.por 101, .own 102])), (102, .sl 5 1 (List.map ub s44.1))]) (fun t42 => [(2, str ([] : List UInt8)), (7, .own 101)]) (fun t42 => [(101, .bx 141 (.agg [.por 101, .own 102])), (102, .sl 5 1 (List.map ub t42))]) (eR [(100, 100), (101, 101), (102, 102)]) ?_ ?_
 · intro hj43 s44
   apply z [5, 2, 30, 57, 1]
   refine c ?_ ?_
   · apply z [9, 4, 5, 7, 6, 30, 30]
     refine b fun y45 h46 => ?_
     apply z [50, 51]
     refine b fun y47 h48 => ?_
     refine so (callG (em := [(103, .sl 5 1 (List.map ub y47)), (101, .bx 141 (.agg [.por 101, .own 103])), (102, .gone)]) (res' := .tup [i64 (y45.length : Int), nilI]) [(0, 101), (1, 102)] [(103, 52)] [(103, 52), (101, 0)] (ws_ok' h48) ⟨⟨_, rfl, rn_own rfl⟩, ⟨_, rfl, rn_id if_str⟩, trivial⟩ (MiF.get (mi := [(0, _), (1, _)]) ⟨⟨_, _, rfl, rfl, rc_bx (rn_agg (rns_cons (rn_por rfl) (rns_cons (rn_own rfl) rns_nil)))⟩, ⟨_, _, rfl, rfl, rc_sl (ifs_map (f := ub) (fun _ => if_ub) s44.1)⟩, trivial⟩) ⟨⟨_, rfl⟩, ⟨_, rfl⟩, trivial⟩ rfl ⟨rfl, trivial⟩ ⟨.inl rfl, .inr rfl, trivial⟩ rfl ⟨.inl ⟨_, _, rfl, rfl, rc_sl (ifs_map (f := ub) (fun _ => if_ub) y47)⟩, .inl ⟨_, _, rfl, rfl, rc_bx (rn_agg (rns_cons (rn_por rfl) (rns_cons (rn_own rfl) rns_nil)))⟩, .inr ⟨rfl, 1, .tail _ (.head _)⟩, trivial⟩ ⟨⟨_, rfl⟩, ⟨_, rfl⟩, trivial⟩ ⟨⟨_, rfl⟩, trivial⟩ (rn_tup (rns_cons (rn_id if_i64) (rns_cons (rn_id if_nilI) rns_nil))) rfl) ?_
     apply z [3, 11, 4, 6, 30, 49, 31, 3]
     exact sgo (eR [(100, 100), (101, 101), (102, 103)])
   apply z [14, 15]
   exact su (sj (hj43 _) (eR [(101, 101), (102, 102)]))
 intro t42
 apply z [13, 4, 2]
 refine so (strOp (id := 101) (id2 := 102) rfl rfl rfl rfl rfl) ?_
 refine cb (ca c_strings_TrimLeft) fun r49 => ?_
 apply z [31, 1, 8]
 exact rt []
theorem c_nat_Small {n : Nat} {x0} : ∀ r, m_nat_Small n x0 = some r → FnOk Tryz.prog 168 [sli 1 (List.map u32 x0)] [] (.tup [u64 r.1, bl r.2]) [] := by
 unfold m_nat_Small
 refine fs Tryz.func168 fun w S0 γ hγ => ?_
 apply z [2, 31, 31, 1, 2, 30]
 refine cb (ca c_nat_trim) fun r1 => ?_
 apply z [31, 1, 5, 2, 30, 39, 47, 1]
 refine c ?_ ?_
 · apply z [2, 31, 31, 1, 8, 10]
   exact rt []
 apply z [9, 4, 2, 31, 1, 5, 2, 30, 39, 30, 1, 7]
 refine srN (fun s16 => [(2, u64 0), (3, bl false), (4, u64 s16), (12, sli 1 (List.map u32 r1))]) (fun s16 => []) (rE eI) ?_ ?_
 · intro i17 x18 s16 hx19
   apply z [7, 2, 30, 43, 42, 31, 31, 1, 6, 30, 30, 59, 30, 76]
   refine b fun _ h20 => ?_
   refine s1 (shlU uk64 (ge0 h20) rfl rfl rfl) ?_
   refine sbn (F := u64) 24 rfl fun z21 => ?_
   apply z [64, 31, 3, 11]
   exact sgo eI
 intro s22
 apply z [13, 4, 2, 30, 31, 31, 1, 8]
 exact rt []
theorem c_wire_length {n : Nat} {x0} : ∀ r, m_wire_length n x0 = some r → FnOk Tryz.prog 91 [str x0] [] (i64 r) [] := by
 unfold m_wire_length
 refine fs Tryz.func91 fun w S0 γ hγ => ?_
 apply z [2, 31, 1, 2, 30]
 refine cb (ca c_digits_Read) fun r1 => ?_
 apply z [30, 35, 35]
 refine o (al' 100) ?_
 apply z [31, 34, 1, 5]
 refine sjq (fun s7 => [(2, i64 (0 : Int)), (3, sli 1 (List.map u32 r1.1)), (25, bl s7)]) (fun s7 => []) ?_ ?_
 · intro j5 hj6
   apply z [6, 32]
   refine s1 (bld (l := [i64 0, i64 0, i64 0, i64 0]) pl_41.h ti_41.h zr_api_Fault rfl rfl) ?_
   refine s1 (neA (p := (r1.2 : M_api_Fault)) (q := ((⟨0, 0, 0, 0⟩ : M_api_Fault) : M_api_Fault)) eq_41_2 rfl eg_41 rfl rfl rfl) ?_
   apply z [30]
   refine sifd 15 rfl ?_ ?_
   · apply z [23, 23, 23, 38, 30, 23, 23, 23, 23, 38, 1]
     exact sj (hj6 _) (eR [])
   apply z [22, 22, 22, 37, 30]
   refine sifd 20 rfl ?_ ?_
   · apply z [23, 23, 23, 23, 38, 1]
     exact sj (hj6 _) (eR [])
   apply z [22]
   refine b fun r8 h9 => ?_
   refine og' (c0 (c_digits_Text _ h9)) ?_
   apply z [22, 22, 37, 1]
   exact sj (hj6 _) (eR [])
 intro s7
 refine c ?_ ?_
 · apply z [2, 31, 1, 8, 10]
   exact rt []
 apply z [9, 4, 2, 30]
 refine cb (ca c_nat_Small) fun r10 => ?_
 apply z [30, 35, 35, 31, 31, 1, 2, 30, 84, 31, 1, 8]
 exact rt []
theorem c___wire_reader__piece {n : Nat} {x0} : ∀ r, m___wire_reader__piece n x0 = some r → FnOk Tryz.prog 43 [.own 0] [(0, .bx 117 (L_wire_reader x0))] (.tup [L_wire_Piece r.1, L_api_Fault r.2.1]) [(0, .bx 117 (L_wire_reader r.2.2))] := by
 unfold m___wire_reader__piece
 refine fs Tryz.func43 fun w S0 γ hγ => ?_
 apply z [2]
 refine o (al' 100) ?_
 refine o (al' 101) ?_
 apply z [1, 5]
 refine b fun y1 h2 => ?_
 refine b fun r3 h4 => ?_
 refine sd ?_
 apply zd [[], [0], [0], [0], [], [0], [0], [0]]
 refine dx [13, 17] [] (fun st mm ⟨a13, a17, _⟩ _ => og (slS h2 Tryz.underlying9 rfl (a13.trans rfl) (bnd (a17.trans rfl)) bnd0)) ?_
 refine dd [] (fun _ _ _ _ => c0 (c_strings_Cut _ h4)) ?_
 apply zd [[], [], [], [], [], [], []]
 refine de fol ?_
 apply z [4, 5, 7, 2, 30]
 refine cb (ca c_wire_named) fun r5 => ?_
 apply z [44, 31, 1]
 refine c ?_ ?_
 · apply z [2]
   refine s1 (bld (l := [str [], str []]) pl_102.h ti_102.h zr_wire_Piece rfl rfl) ?_
   apply z [30, 48, 33, 36]
   refine cb (ca c_wire_parse) fun r7 => ?_
   apply z [34, 34, 1, 8, 12, 10]
   exact rt [(0, 0)]
 apply z [2, 30, 44, 31, 1]
 refine c ?_ ?_
 · apply z [2]
   refine s1 (bld (l := [str [], str []]) pl_102.h ti_102.h zr_wire_Piece rfl rfl) ?_
   apply z [30, 48, 33, 36, 54]
   refine cb (ca c_wire_parse) fun r9 => ?_
   apply z [34, 34, 1, 8, 12, 10]
   exact rt [(0, 0)]
 apply z [9, 11, 4, 2, 30, 48, 33, 36, 30, 54, 40, 40, 48, 33]
 refine o (stP (L_wire_reader (⟨x0.s, wrap64 (x0.at_ + (wrap64 ((r3.1.length : Int) + (1 : Int))))⟩ : M_wire_reader)) [1]) ?_
 apply z [1, 2, 30]
 refine cb (ca c_strings_Cut) fun r11 => ?_
 apply z [30, 35, 35, 35, 31, 31, 31, 1, 2, 30]
 refine cb (ca c_wire_length) fun r13 => ?_
 apply z [31, 1, 5]
 refine sjq (fun s17 => [(0, .own 0), (2, .own 100), (3, .own 101), (4, str r3.1), (5, str r11.2.1), (7, str r11.1), (8, i64 r13), (66, bl s17)]) (fun s17 => [(0, .bx 117 (L_wire_reader (⟨x0.s, wrap64 (x0.at_ + (wrap64 ((r3.1.length : Int) + (1 : Int))))⟩ : M_wire_reader))), (100, .bx 102 (L_wire_Piece (⟨[], []⟩ : M_wire_Piece))), (101, .bx 41 (L_api_Fault (⟨0, 0, 0, 0⟩ : M_api_Fault)))]) ?_ ?_
 · intro j15 hj16
   apply z [6, 30, 46, 30]
   refine sifd 63 rfl ?_ ?_
   · apply z [23, 23, 38, 1]
     exact sj (hj16 _) (eR [(0, 0), (100, 100), (101, 101)])
   apply z [22, 22, 37, 1]
   exact sj (hj16 _) (eR [(0, 0), (100, 100), (101, 101)])
 intro s17
 refine c ?_ ?_
 · apply z [2]
   refine s1 (bld (l := [str [], str []]) pl_102.h ti_102.h zr_wire_Piece rfl rfl) ?_
   apply z [30, 48, 33, 36]
   refine sbn (F := i64) 71 rfl fun z18 => ?_
   refine cb (ca c_wire_parse) fun r19 => ?_
   apply z [34, 34, 1, 8, 10]
   exact rt [(0, 0)]
 apply z [9, 4, 2, 30, 48, 33, 36]
 refine sbn (F := i64) 76 rfl fun z21 => ?_
 apply z [30, 54, 40, 40, 48, 33]
 refine o (stP (L_wire_reader (⟨(⟨x0.s, wrap64 (x0.at_ + (wrap64 ((r3.1.length : Int) + (1 : Int))))⟩ : M_wire_reader).s, wrap64 (z21 + (wrap64 ((r11.1.length : Int) + (1 : Int))))⟩ : M_wire_reader)) [1]) ?_
 apply z [1, 5, 2, 30, 54, 30, 40, 46, 1]
 refine c ?_ ?_
 · apply z [2]
   refine s1 (bld (l := [str [], str []]) pl_102.h ti_102.h zr_wire_Piece rfl rfl) ?_
   apply z [30, 48, 33, 36]
   refine sbn (F := str) 92 rfl fun z22 => ?_
   apply z [54]
   refine cb (ca c_wire_parse) fun r23 => ?_
   apply z [34, 34, 1, 8, 10]
   exact rt [(0, 0)]
 apply z [9, 4, 2, 30, 48, 33, 36, 30, 40]
 refine sbn (F := i64) 100 rfl fun z25 => ?_
 apply z [48, 33]
 refine o (stP (L_wire_reader (⟨(⟨x0.s, wrap64 (x0.at_ + (wrap64 ((r3.1.length : Int) + (1 : Int))))⟩ : M_wire_reader).s, z25⟩ : M_wire_reader)) [1]) ?_
 apply z [1, 5, 2, 30, 30]
 refine b fun y26 h27 => ?_
 apply z [90, 67, 1]
 refine c ?_ ?_
 · apply z [2]
   refine s1 (bld (l := [str [], str []]) pl_102.h ti_102.h zr_wire_Piece rfl rfl) ?_
   apply z [30, 48, 33, 36]
   refine cb (ca c_wire_parse) fun r28 => ?_
   apply z [34, 34, 1, 8, 10]
   exact rt [(0, 0)]
 apply z [9, 4, 2, 30, 48, 33, 36, 40, 48, 33]
 refine o (stP (L_wire_reader (⟨(⟨x0.s, wrap64 (x0.at_ + (wrap64 ((r3.1.length : Int) + (1 : Int))))⟩ : M_wire_reader).s, wrap64 (z25 + (1 : Int))⟩ : M_wire_reader)) [1]) ?_
 apply z [1, 2, 30, 30, 30]
 refine b fun y30 h31 => ?_
 refine s1 (slS h31 Tryz.underlying9 rfl rfl bnd0 (bnd rfl)) ?_
 refine s1 (bld (l := [str r3.1, str y30]) pl_102.h ti_102.h zr_wire_Piece ⟨_, _, _, rfl, rfl, rfl, rfl, (szk (k := 1) rfl rfl), ⟨_, _, _, rfl, rfl, rfl, rfl, (szk (k := 1) rfl rfl), rfl⟩⟩ rfl) ?_
 refine s1 (bld (l := [i64 0, i64 0, i64 0, i64 0]) pl_41.h ti_41.h zr_api_Fault rfl rfl) ?_
 apply z [34, 34, 1, 8]
 exact rt [(0, 0)]
theorem c_wire_may {n : Nat} {x0} : ∀ r, m_wire_may n x0 = some r → FnOk Tryz.prog 44 [sli 2 (List.map L_wire_Piece x0)] [] (bl r) [] := by
 unfold m_wire_may
 refine fs Tryz.func44 fun w S0 γ hγ => ?_
 apply z [2, 31, 1, 5, 2, 30, 39, 30, 1, 7]
 refine srN (fun s25 => [(0, sli 2 (List.map L_wire_Piece x0)), (2, bl false), (7, sli 2 (List.map L_wire_Piece x0))]) (fun s25 => []) (rE eI) ?_ ?_
 · intro i26 x27 s25 hx28
   apply z [7, 2, 30, 43, 42]
   refine o (al' 100) ?_
   apply z [31, 34, 1, 5]
   refine sjq (fun s33 => [(0, sli 2 (List.map L_wire_Piece x0)), (2, bl false), (3, i64 (i26 : Int)), (4, .own 100), (7, sli 2 (List.map L_wire_Piece x0)), (8, i64 (x0.length : Int)), (9, i64 (i26 : Int)), (23, bl s33)]) (fun s33 => [(100, .bx 102 (L_wire_Piece x27))]) ?_ ?_
   · intro j31 hj32
     apply z [6, 33, 36]
     refine cb (ca c_wire_named) fun r34 => ?_
     apply z [44, 30]
     refine sifd 18 rfl ?_ ?_
     · apply z [23, 23, 23, 23, 38, 1]
       exact sj (hj32 _) (eR [(100, 100)])
     apply z [22, 22, 22, 22, 37, 1]
     exact sj (hj32 _) (eR [(100, 100)])
   intro s33
   refine c ?_ ?_
   · apply z [2, 31, 1, 8, 10, 12]
     refine sU ?_
     apply z [12, 10]
     exact rt []
   apply z [9, 4, 2, 30, 30]
   refine b fun y36 h37 => ?_
   refine s1 (slR (f := L_wire_Piece) h37 Tryz.underlying88 ti_102.h rfl rfl bnd0 (bnd rfl)) ?_
   apply z [39, 30, 1, 7]
   refine srN (fun s43 => [(0, sli 2 (List.map L_wire_Piece x0)), (2, bl false), (4, .own 100), (7, sli 2 (List.map L_wire_Piece x0)), (8, i64 (x0.length : Int)), (9, i64 (i26 : Int)), (26, sli 2 (List.map L_wire_Piece y36))]) (fun s43 => [(100, .bx 102 (L_wire_Piece x27))]) (rE (eR [(100, 100)])) ?_ ?_
   · intro i44 x45 s43 hx46
     apply z [7, 2, 43, 42]
     refine o (al' 101) ?_
     apply z [34, 1, 2, 33, 36, 33, 36, 72, 1]
     refine c ?_ ?_
     · apply z [2, 31, 1, 8, 12]
       refine sU ?_
       apply z [12, 12]
       refine sU ?_
       apply z [12, 10]
       exact rt []
     apply z [9, 11]
     exact sgo (eR [(100, 100)])
   intro s47
   apply z [13, 11]
   exact sgo (eR [])
 intro s48
 apply z [13, 4, 2, 30, 39, 58, 31, 1, 8]
 exact rt []
end Go.Proofs.YtcdeknlejjjmlaaGreatDoor
