import Derived.Test.YtcmhibdigkdjiaaGreatDoorGen1
set_option maxRecDepth 100000
set_option maxHeartbeats 4000000
namespace Go.Proofs.YtcmhibdigkdjiaaGreatDoor
open Go Go.RowKit
theorem c__run_Machine_frac_Frac__run_fracs___step {n : Nat} {x0_Arith_g} {x1} {x2} {x3} : ∀ r, m__run_Machine_frac_Frac__run_fracs___step n x0_Arith_g x1 x2 x3 = some r → FnOk Tryz.prog 117 [.agg [.agg [.own 0]], L_tape_Inst x1, L_run_Inputs_frac_Frac_ x2, .own 1] [(0, .bx 132 (L_gauge_Gauge x0_Arith_g)), (1, .sl 54 3 (List.map L_frac_Frac x3))] (.tup [L_frac_Frac r.1, bl r.2]) [(0, .bx 132 (L_gauge_Gauge x0_Arith_g)), (1, .sl 54 3 (List.map L_frac_Frac x3))] := by
 unfold m__run_Machine_frac_Frac__run_fracs___step
 refine fs Tryz.func117 fun w S0 γ hγ => ?_
 refine z [2] ?_
 refine o (bx' 100) ?_
 refine o (bx' 101) ?_
 refine o (bx' 102) ?_
 refine o (al' 103) ?_
 refine z [31, 1, 5, 2, 33, 36, 1, 7, 2, 41, 31, 1] ?_
 refine c ?_ ?_
 · refine z [5] ?_
   refine b fun y1 h2 => ?_
   refine b fun r3 h4 => ?_
   refine sd ?_
   refine zd [[100]] ?_
   refine dx [14] [100] (fun st mm ⟨a14, _⟩ ⟨g100, _⟩ => og (ldB [0] (g100.trans rfl) (by exact rfl) sh_174.h (by exact rfl) (by exact rfl) rfl (a14.trans rfl) (.inl rfl))) ?_
   refine dx [15] [] (fun st mm ⟨a15, _⟩ _ => og (mkIf Tryz.underlying174 rfl (a15.trans rfl))) ?_
   refine zd [[], [101], [101], [1], [1]] ?_
   refine dx [16, 21] [0] (fun st mm ⟨a16, a21, _⟩ ⟨g0, _⟩ => og (okm (g0.trans rfl) rfl (callI (em := [(0, .bx 132 (L_gauge_Gauge x0_Arith_g))]) (res' := L_frac_Frac r3) [(0, 0)] [] [(0, 0)] (a16.trans rfl) me_174_Neg (c__run_fracs__Neg _ h4) (rn_agg (rns_cons (rn_own rfl) (rns_nil))) ⟨⟨_, (a21.trans rfl), rn_id if_L_frac_Frac⟩, trivial⟩ (MiF.get (mi := [(0, _)]) ⟨⟨_, _, rfl, (g0.trans rfl), rc_bx (rn_id if_L_gauge_Gauge)⟩, trivial⟩) ⟨⟨_, rfl⟩, trivial⟩ rfl trivial ⟨.inr rfl, trivial⟩ rfl ⟨.inl ⟨_, _, rfl, rfl, rc_bx (rn_id if_L_gauge_Gauge)⟩, trivial⟩ ⟨⟨_, rfl⟩, trivial⟩ trivial (rn_id if_L_frac_Frac) rfl))) ?_
   refine zd [[103], []] ?_
   refine de fol ?_
   refine z [4, 8, 12, 10] ?_
   exact rt [(0, 0), (1, 1)]
 refine z [2, 41, 31, 1] ?_
 refine c ?_ ?_
 · refine z [5] ?_
   refine b fun y5 h6 => ?_
   refine b fun r7 h8 => ?_
   refine sd ?_
   refine zd [[100]] ?_
   refine dx [25] [100] (fun st mm ⟨a25, _⟩ ⟨g100, _⟩ => og (ldB [0] (g100.trans rfl) (by exact rfl) sh_174.h (by exact rfl) (by exact rfl) rfl (a25.trans rfl) (.inl rfl))) ?_
   refine dx [26] [] (fun st mm ⟨a26, _⟩ _ => og (mkIf Tryz.underlying174 rfl (a26.trans rfl))) ?_
   refine zd [[], [101], [101], [1], [1], [101], [101]] ?_
   refine dx [27, 32, 34] [0] (fun st mm ⟨a27, a32, a34, _⟩ ⟨g0, _⟩ => og (okm (g0.trans rfl) rfl (callI (em := [(0, .bx 132 (L_gauge_Gauge x0_Arith_g))]) (res' := .tup [L_frac_Frac r7.1, bl r7.2]) [(0, 0)] [] [(0, 0)] (a27.trans rfl) me_174_Pow (c__run_fracs__Pow _ h8) (rn_agg (rns_cons (rn_own rfl) (rns_nil))) ⟨⟨_, (a32.trans rfl), rn_id if_L_frac_Frac⟩, ⟨_, (a34.trans rfl), rn_id if_i64⟩, trivial⟩ (MiF.get (mi := [(0, _)]) ⟨⟨_, _, rfl, (g0.trans rfl), rc_bx (rn_id if_L_gauge_Gauge)⟩, trivial⟩) ⟨⟨_, rfl⟩, trivial⟩ rfl trivial ⟨.inr rfl, trivial⟩ rfl ⟨.inl ⟨_, _, rfl, rfl, rc_bx (rn_id if_L_gauge_Gauge)⟩, trivial⟩ ⟨⟨_, rfl⟩, trivial⟩ trivial (rn_tup (rns_cons (rn_id if_L_frac_Frac) (rns_cons (rn_id if_bl) (rns_nil)))) rfl))) ?_
   refine zd [[], [], [103], []] ?_
   refine de fol ?_
   refine z [4, 8, 12, 10] ?_
   exact rt [(0, 0), (1, 1)]
 refine z [2, 41, 31, 1] ?_
 refine c ?_ ?_
 · refine z [5] ?_
   refine b fun y9 h10 => ?_
   refine b fun y11 h12 => ?_
   refine b fun r13 h14 => ?_
   refine sd ?_
   refine zd [[100]] ?_
   refine dx [40] [100] (fun st mm ⟨a40, _⟩ ⟨g100, _⟩ => og (ldB [0] (g100.trans rfl) (by exact rfl) sh_174.h (by exact rfl) (by exact rfl) rfl (a40.trans rfl) (.inl rfl))) ?_
   refine dx [41] [] (fun st mm ⟨a41, _⟩ _ => og (mkIf Tryz.underlying174 rfl (a41.trans rfl))) ?_
   refine zd [[], [101], [101], [1], [1], [], [101], [101], [1], [1]] ?_
   refine dx [42, 47, 52] [0] (fun st mm ⟨a42, a47, a52, _⟩ ⟨g0, _⟩ => og (okm (g0.trans rfl) rfl (callI (em := [(0, .bx 132 (L_gauge_Gauge x0_Arith_g))]) (res' := L_frac_Frac r13) [(0, 0)] [] [(0, 0)] (a42.trans rfl) me_174_Add (c__run_fracs__Add _ h14) (rn_agg (rns_cons (rn_own rfl) (rns_nil))) ⟨⟨_, (a47.trans rfl), rn_id if_L_frac_Frac⟩, ⟨_, (a52.trans rfl), rn_id if_L_frac_Frac⟩, trivial⟩ (MiF.get (mi := [(0, _)]) ⟨⟨_, _, rfl, (g0.trans rfl), rc_bx (rn_id if_L_gauge_Gauge)⟩, trivial⟩) ⟨⟨_, rfl⟩, trivial⟩ rfl trivial ⟨.inr rfl, trivial⟩ rfl ⟨.inl ⟨_, _, rfl, rfl, rc_bx (rn_id if_L_gauge_Gauge)⟩, trivial⟩ ⟨⟨_, rfl⟩, trivial⟩ trivial (rn_id if_L_frac_Frac) rfl))) ?_
   refine zd [[103], []] ?_
   refine de fol ?_
   refine z [4, 8, 12, 10] ?_
   exact rt [(0, 0), (1, 1)]
 refine z [2, 41, 31, 1] ?_
 refine c ?_ ?_
 · refine z [5] ?_
   refine b fun y15 h16 => ?_
   refine b fun y17 h18 => ?_
   refine b fun r19 h20 => ?_
   refine sd ?_
   refine zd [[100]] ?_
   refine dx [56] [100] (fun st mm ⟨a56, _⟩ ⟨g100, _⟩ => og (ldB [0] (g100.trans rfl) (by exact rfl) sh_174.h (by exact rfl) (by exact rfl) rfl (a56.trans rfl) (.inl rfl))) ?_
   refine dx [57] [] (fun st mm ⟨a57, _⟩ _ => og (mkIf Tryz.underlying174 rfl (a57.trans rfl))) ?_
   refine zd [[], [101], [101], [1], [1], [], [101], [101], [1], [1]] ?_
   refine dx [58, 63, 68] [0] (fun st mm ⟨a58, a63, a68, _⟩ ⟨g0, _⟩ => og (okm (g0.trans rfl) rfl (callI (em := [(0, .bx 132 (L_gauge_Gauge x0_Arith_g))]) (res' := L_frac_Frac r19) [(0, 0)] [] [(0, 0)] (a58.trans rfl) me_174_Sub (c__run_fracs__Sub _ h20) (rn_agg (rns_cons (rn_own rfl) (rns_nil))) ⟨⟨_, (a63.trans rfl), rn_id if_L_frac_Frac⟩, ⟨_, (a68.trans rfl), rn_id if_L_frac_Frac⟩, trivial⟩ (MiF.get (mi := [(0, _)]) ⟨⟨_, _, rfl, (g0.trans rfl), rc_bx (rn_id if_L_gauge_Gauge)⟩, trivial⟩) ⟨⟨_, rfl⟩, trivial⟩ rfl trivial ⟨.inr rfl, trivial⟩ rfl ⟨.inl ⟨_, _, rfl, rfl, rc_bx (rn_id if_L_gauge_Gauge)⟩, trivial⟩ ⟨⟨_, rfl⟩, trivial⟩ trivial (rn_id if_L_frac_Frac) rfl))) ?_
   refine zd [[103], []] ?_
   refine de fol ?_
   refine z [4, 8, 12, 10] ?_
   exact rt [(0, 0), (1, 1)]
 refine z [2, 41, 31, 1] ?_
 refine c ?_ ?_
 · refine z [5] ?_
   refine b fun y21 h22 => ?_
   refine b fun y23 h24 => ?_
   refine b fun r25 h26 => ?_
   refine sd ?_
   refine zd [[100]] ?_
   refine dx [72] [100] (fun st mm ⟨a72, _⟩ ⟨g100, _⟩ => og (ldB [0] (g100.trans rfl) (by exact rfl) sh_174.h (by exact rfl) (by exact rfl) rfl (a72.trans rfl) (.inl rfl))) ?_
   refine dx [73] [] (fun st mm ⟨a73, _⟩ _ => og (mkIf Tryz.underlying174 rfl (a73.trans rfl))) ?_
   refine zd [[], [101], [101], [1], [1], [], [101], [101], [1], [1]] ?_
   refine dx [74, 79, 84] [0] (fun st mm ⟨a74, a79, a84, _⟩ ⟨g0, _⟩ => og (okm (g0.trans rfl) rfl (callI (em := [(0, .bx 132 (L_gauge_Gauge x0_Arith_g))]) (res' := L_frac_Frac r25) [(0, 0)] [] [(0, 0)] (a74.trans rfl) me_174_Mul (c__run_fracs__Mul _ h26) (rn_agg (rns_cons (rn_own rfl) (rns_nil))) ⟨⟨_, (a79.trans rfl), rn_id if_L_frac_Frac⟩, ⟨_, (a84.trans rfl), rn_id if_L_frac_Frac⟩, trivial⟩ (MiF.get (mi := [(0, _)]) ⟨⟨_, _, rfl, (g0.trans rfl), rc_bx (rn_id if_L_gauge_Gauge)⟩, trivial⟩) ⟨⟨_, rfl⟩, trivial⟩ rfl trivial ⟨.inr rfl, trivial⟩ rfl ⟨.inl ⟨_, _, rfl, rfl, rc_bx (rn_id if_L_gauge_Gauge)⟩, trivial⟩ ⟨⟨_, rfl⟩, trivial⟩ trivial (rn_id if_L_frac_Frac) rfl))) ?_
   refine zd [[103], []] ?_
   refine de fol ?_
   refine z [4, 8, 12, 10] ?_
   exact rt [(0, 0), (1, 1)]
 refine z [2, 41, 31, 1] ?_
 refine c ?_ ?_
 · refine z [5] ?_
   refine b fun y27 h28 => ?_
   refine b fun y29 h30 => ?_
   refine b fun r31 h32 => ?_
   refine sd ?_
   refine zd [[100]] ?_
   refine dx [88] [100] (fun st mm ⟨a88, _⟩ ⟨g100, _⟩ => og (ldB [0] (g100.trans rfl) (by exact rfl) sh_174.h (by exact rfl) (by exact rfl) rfl (a88.trans rfl) (.inl rfl))) ?_
   refine dx [89] [] (fun st mm ⟨a89, _⟩ _ => og (mkIf Tryz.underlying174 rfl (a89.trans rfl))) ?_
   refine zd [[], [101], [101], [1], [1], [], [101], [101], [1], [1]] ?_
   refine dx [90, 95, 100] [0] (fun st mm ⟨a90, a95, a100, _⟩ ⟨g0, _⟩ => og (okm (g0.trans rfl) rfl (callI (em := [(0, .bx 132 (L_gauge_Gauge x0_Arith_g))]) (res' := .tup [L_frac_Frac r31.1, bl r31.2]) [(0, 0)] [] [(0, 0)] (a90.trans rfl) me_174_Quo (c__run_fracs__Quo _ h32) (rn_agg (rns_cons (rn_own rfl) (rns_nil))) ⟨⟨_, (a95.trans rfl), rn_id if_L_frac_Frac⟩, ⟨_, (a100.trans rfl), rn_id if_L_frac_Frac⟩, trivial⟩ (MiF.get (mi := [(0, _)]) ⟨⟨_, _, rfl, (g0.trans rfl), rc_bx (rn_id if_L_gauge_Gauge)⟩, trivial⟩) ⟨⟨_, rfl⟩, trivial⟩ rfl trivial ⟨.inr rfl, trivial⟩ rfl ⟨.inl ⟨_, _, rfl, rfl, rc_bx (rn_id if_L_gauge_Gauge)⟩, trivial⟩ ⟨⟨_, rfl⟩, trivial⟩ trivial (rn_tup (rns_cons (rn_id if_L_frac_Frac) (rns_cons (rn_id if_bl) (rns_nil)))) rfl))) ?_
   refine zd [[], [], [103], []] ?_
   refine de fol ?_
   refine z [4, 8, 12, 10] ?_
   exact rt [(0, 0), (1, 1)]
 refine z [9, 11, 4, 2, 32, 32, 32] ?_
 refine b fun r33 h34 => ?_
 refine o (cG (c__run_Machine_frac_Frac__run_fracs___leaf _ h34) [0] [] [0]) ?_
 refine z [34, 31, 1, 8] ?_
 exact rt [(0, 0), (1, 1)]
theorem c__run_fracs__Fits {n : Nat} {x0_g} {x1} : ∀ r, m__run_fracs__Fits n x0_g x1 = some r → FnOk Tryz.prog 222 [.agg [.own 0], L_frac_Frac x1] [(0, .bx 132 (L_gauge_Gauge x0_g))] (bl r.1) [(0, .bx 132 (L_gauge_Gauge r.2))] := by
 unfold m__run_fracs__Fits
 refine fs Tryz.func222 fun w S0 γ hγ => ?_
 refine z [2] ?_
 refine o (bx' 100) ?_
 refine o (bx' 101) ?_
 refine z [31, 1, 2, 33, 36, 32] ?_
 refine b fun r1 h2 => ?_
 refine o (cG (c___gauge_Gauge__Take _ h2) [0] [] []) ?_
 refine z [31, 1, 8] ?_
 exact rt [(0, 0)]
theorem c__run_Machine_frac_Frac__run_fracs___Run {n : Nat} {x0_Arith_g} {x1} {x2} : ∀ r, m__run_Machine_frac_Frac__run_fracs___Run n x0_Arith_g x1 x2 = some r → FnOk Tryz.prog 87 [.agg [.agg [.own 0]], L_tape_Tape x1, L_run_Inputs_frac_Frac_ x2] [(0, .bx 132 (L_gauge_Gauge x0_Arith_g))] (.tup [sli 3 (List.map L_frac_Frac r.1), L_api_Fault r.2.1]) [(0, .bx 132 (L_gauge_Gauge r.2.2))] := by
 unfold m__run_Machine_frac_Frac__run_fracs___Run
 refine fs Tryz.func87 fun w S0 γ hγ => ?_
 refine z [2] ?_
 refine o (bx' 100) ?_
 refine o (bx' 101) ?_
 refine o (bx' 102) ?_
 refine s1 (asg rfl (kLm (k := 3) L_frac_Frac)) ?_
 refine o (al' 103) ?_
 refine z [1, 5] ?_
 refine sjq (fun s5 => [(3, .own 100), (4, .own 101), (5, .own 102), (6, sli 3 (List.map L_frac_Frac ([] : List M_frac_Frac))), (7, .own 103), (31, bl s5)]) (fun s5 => [(0, .bx 132 (L_gauge_Gauge x0_Arith_g)), (100, .bx 176 (.agg [.agg [.own 0]])), (101, .bx 42 (L_tape_Tape x1)), (102, .bx 178 (L_run_Inputs_frac_Frac_ x2)), (103, .bx 59 (L_api_Fault (⟨0, 0, 0, 0⟩ : M_api_Fault)))]) ?_ ?_
 · intro j3 hj4
   refine z [6, 32] ?_
   refine cb (ca c_tape_Right) fun r6 => ?_
   refine z [44, 30] ?_
   refine sifd 16 rfl ?_ ?_
   · refine z [23, 23, 23, 23, 23, 23, 38, 30, 23, 23, 23, 23, 23, 23, 38, 1] ?_
     exact sj (hj4 _) (eR [(0, 0), (100, 100), (101, 101), (102, 102), (103, 103)])
   refine z [22, 22, 22, 22, 22, 22, 37, 30] ?_
   refine sifd 24 rfl ?_ ?_
   · refine z [23, 23, 23, 23, 23, 23, 38, 1] ?_
     exact sj (hj4 _) (eR [(0, 0), (100, 100), (101, 101), (102, 102), (103, 103)])
   refine z [22, 22, 22, 22, 22, 22, 37, 1] ?_
   exact sj (hj4 _) (eR [(0, 0), (100, 100), (101, 101), (102, 102), (103, 103)])
 intro s5
 refine c ?_ ?_
 · refine z [2] ?_
   refine s1 (bld (l := [i64 (2 : Int), i64 0, i64 0, i64 0]) pl_59.h ti_59.h zr_api_Fault ⟨_, _, _, (kI (x := 2) rfl), rfl, rfl, rfl, (szk (k := 1) rfl rfl), rfl⟩ rfl) ?_
   refine s1 (asg rfl (kLm (k := 3) L_frac_Frac)) ?_
   refine z [34, 1, 8, 10] ?_
   exact rt [(0, 0)]
 refine z [9, 4, 2] ?_
 refine so (asgN (y := 104) (E := 54) (k := 3) rfl rfl) ?_
 refine z [1, 5, 2, 33, 36, 39, 30, 1, 7] ?_
 refine srN (fun s29 => [(3, .own 100), (5, .own 102), (6, sli 3 (List.map L_frac_Frac ([] : List M_frac_Frac))), (7, .own 103), (8, .own 104), (34, sli 6 (List.map L_tape_Inst x1.Code))]) (fun s29 => [(0, .bx 132 (L_gauge_Gauge s29.1)), (100, .bx 176 (.agg [.agg [.own 0]])), (102, .bx 178 (L_run_Inputs_frac_Frac_ x2)), (103, .bx 59 (L_api_Fault (⟨0, 0, 0, 0⟩ : M_api_Fault))), (104, .sl 54 3 (List.map L_frac_Frac s29.2))]) (rE (eR [(0, 0), (100, 100), (102, 102), (103, 103), (104, 104)])) ?_ ?_
 · intro i30 x31 s29 hx32
   refine z [7, 2, 30, 43, 42] ?_
   refine o (al' 105) ?_
   refine z [31, 34, 1, 2, 32, 32, 32, 30] ?_
   refine b fun r33 h34 => ?_
   refine o (cG (c__run_Machine_frac_Frac__run_fracs___step _ h34) [0, 104] [] [0, 104]) ?_
   refine z [30, 35, 35] ?_
   refine o (al' 106) ?_
   refine z [34, 31, 1, 5, 7, 2, 30, 44, 31, 1] ?_
   refine c ?_ ?_
   · refine z [2, 30] ?_
     refine s1 (bld (l := [i64 (3 : Int), i64 0, i64 0, i64 (i30 : Int)]) pl_59.h ti_59.h zr_api_Fault ⟨_, _, _, (kI (x := 3) rfl), rfl, rfl, rfl, (szk (k := 1) rfl rfl), ⟨_, _, _, rfl, rfl, rfl, rfl, (szk (k := 1) rfl rfl), rfl⟩⟩ rfl) ?_
     refine s1 (asg rfl (kLm (k := 3) L_frac_Frac)) ?_
     refine z [34, 1, 8, 12, 10, 12] ?_
     refine sU ?_
     refine z [12, 10] ?_
     exact rt [(0, 0)]
   refine z [2, 33] ?_
   refine s1 (ldB [0] rfl (by exact rfl) sh_174.h (by exact rfl) (by exact rfl) rfl rfl (.inl rfl)) ?_
   refine s1 (mkIf Tryz.underlying174 rfl rfl) ?_
   refine z [32] ?_
   refine b fun r35 h36 => ?_
   refine so (callI (em := [(0, .bx 132 (L_gauge_Gauge r35.2))]) (res' := bl r35.1) [(0, 0)] [] [(0, 0)] rfl me_174_Fits (c__run_fracs__Fits _ h36) (rn_agg (rns_cons (rn_own rfl) (rns_nil))) ⟨⟨_, rfl, rn_id if_L_frac_Frac⟩, trivial⟩ (MiF.get (mi := [(0, _)]) ⟨⟨_, _, rfl, rfl, rc_bx (rn_id if_L_gauge_Gauge)⟩, trivial⟩) ⟨⟨_, rfl⟩, trivial⟩ rfl trivial ⟨.inr rfl, trivial⟩ rfl ⟨.inl ⟨_, _, rfl, rfl, rc_bx (rn_id if_L_gauge_Gauge)⟩, trivial⟩ ⟨⟨_, rfl⟩, trivial⟩ trivial (rn_id if_bl) rfl) ?_
   refine z [44, 31, 1] ?_
   refine c ?_ ?_
   · refine z [2, 30] ?_
     refine s1 (bld (l := [i64 (6 : Int), i64 0, i64 0, i64 (i30 : Int)]) pl_59.h ti_59.h zr_api_Fault ⟨_, _, _, (kI (x := 6) rfl), rfl, rfl, rfl, (szk (k := 1) rfl rfl), ⟨_, _, _, rfl, rfl, rfl, rfl, (szk (k := 1) rfl rfl), rfl⟩⟩ rfl) ?_
     refine s1 (asg rfl (kLm (k := 3) L_frac_Frac)) ?_
     refine z [34, 1, 8, 12, 10, 12] ?_
     refine sU ?_
     refine z [12, 10] ?_
     exact rt [(0, 0)]
   refine z [9, 11, 4, 6, 30, 32] ?_
   refine so (bsl (y := 107) (ls := List.map L_frac_Frac ([r33.1] : List M_frac_Frac)) Tryz.underlying43 ti_54.h rfl rfl rfl rfl rfl ⟨rfl, rfl, (by exact rfl), (by exact rfl), trivial⟩ rfl rfl) ?_
   refine b fun y37 h38 => ?_
   refine o (app' 108) ?_
   refine z [31, 3, 11] ?_
   exact sgo (eR [(0, 0), (100, 100), (102, 102), (103, 103), (104, 108)])
 intro s39
 refine z [13, 4, 2, 30] ?_
 refine s1 (bld (l := [i64 0, i64 0, i64 0, i64 0]) pl_59.h ti_59.h zr_api_Fault rfl rfl) ?_
 refine z [31, 34, 1, 8] ?_
 refine fz 104 [6, 8, 68] [] ?_
 exact rt [(0, 0)]
theorem c_run_Tape {n : Nat} {x0} {x1} {x2} : ∀ r, m_run_Tape n x0 x1 x2 = some r → FnOk Tryz.prog 63 [L_tape_Tape x0, L_eval_Point x1, i64 x2] [] (.tup [sli 3 (List.map L_frac_Frac r.1), L_api_Fault r.2]) [] := by
 unfold m_run_Tape
 refine fs Tryz.func63 fun w S0 γ hγ => ?_
 refine z [2] ?_
 refine o (bx' 100) ?_
 refine o (bx' 101) ?_
 refine s1 (asg rfl (kLm (k := 3) L_frac_Frac)) ?_
 refine o (al' 102) ?_
 refine z [1, 2, 32] ?_
 refine cb (ca c_eval_Norm) fun r1 => ?_
 refine z [34, 1, 2, 30] ?_
 refine b fun r3 h4 => ?_
 refine o (cG (c_gauge_New _ h4) [] [(103, 50)] []) ?_
 refine s1 (bld (l := [.own 103]) pl_174.h ti_174.h (zr_agg (zrs_cons (c1 := [.pointer none]) zr_por (zrs_nil))) ⟨_, _, _, rfl, rfl, rfl, rfl, (szk (k := 1) rfl rfl), rfl⟩ rfl) ?_
 refine s1 (bld (l := [.agg [.own 103]]) pl_176.h ti_176.h (zr_agg (zrs_cons (c1 := [.pointer none]) (zr_agg (zrs_cons (c1 := [.pointer none]) zr_por (zrs_nil))) (zrs_nil))) ⟨_, _, _, rfl, rfl, rfl, rfl, (szk (k := 1) rfl rfl), rfl⟩ rfl) ?_
 refine so (al (y := 104) (ly := .agg [.agg [.por 0]]) ti_176.h (zr_agg (zrs_cons (c1 := [.pointer none]) (zr_agg (zrs_cons (c1 := [.pointer none]) zr_por (zrs_nil))) (zrs_nil))) rfl rfl) ?_
 refine z [34, 1, 2, 32, 32, 33, 36, 33, 36, 33, 36] ?_
 refine s1 (bld (l := [L_frac_Frac r1.T, sli 3 (List.map L_frac_Frac r1.Y), sli 3 (List.map L_frac_Frac r1.P)]) pl_178.h ti_178.h zr_run_Inputs_frac_Frac_ ⟨_, _, _, rfl, rfl, rfl, rfl, (szk (k := 3) rfl rfl), ⟨_, _, _, rfl, rfl, rfl, rfl, (szk (k := 1) rfl rfl), ⟨_, _, _, rfl, rfl, rfl, rfl, (szk (k := 1) rfl rfl), rfl⟩⟩⟩ rfl) ?_
 refine b fun r5 h6 => ?_
 refine o (cG (c__run_Machine_frac_Frac__run_fracs___Run _ h6) [103] [] []) ?_
 refine z [35, 35, 31, 34, 1, 8] ?_
 exact rt []
theorem c_run_Outs {n : Nat} {x0} {x1} : ∀ r, m_run_Outs n x0 x1 = some r → FnOk Tryz.prog 64 [L_tape_Tape x0, sli 3 (List.map L_frac_Frac x1)] [] (sli 3 (List.map L_frac_Frac r)) [] := by
 unfold m_run_Outs
 refine fs Tryz.func64 fun w S0 γ hγ => ?_
 refine z [2] ?_
 refine o (bx' 100) ?_
 refine s1 (asg rfl (kLm (k := 3) L_frac_Frac)) ?_
 refine z [1, 5] ?_
 refine sjq (fun s5 => [(1, sli 3 (List.map L_frac_Frac x1)), (2, .own 100), (4, sli 3 (List.map L_frac_Frac ([] : List M_frac_Frac))), (18, bl s5)]) (fun s5 => [(100, .bx 42 (L_tape_Tape x0))]) ?_ ?_
 · intro j3 hj4
   refine z [6, 32] ?_
   refine cb (ca c_tape_Right) fun r6 => ?_
   refine z [44, 30] ?_
   refine sifd 11 rfl ?_ ?_
   · refine z [23, 23, 23, 23, 23, 23, 38, 1] ?_
     exact sj (hj4 _) (eR [(100, 100)])
   refine z [22, 22, 22, 22, 22, 22, 37, 1] ?_
   exact sj (hj4 _) (eR [(100, 100)])
 intro s5
 refine c ?_ ?_
 · refine z [2] ?_
   refine s1 (asg rfl (kLm (k := 3) L_frac_Frac)) ?_
   refine z [1, 8, 10] ?_
   exact rt []
 refine z [9, 4, 2] ?_
 refine so (asgN (y := 101) (E := 54) (k := 3) rfl rfl) ?_
 refine z [1, 5, 2, 33, 36, 39, 30, 1, 7] ?_
 refine srN (fun s29 => [(1, sli 3 (List.map L_frac_Frac x1)), (4, sli 3 (List.map L_frac_Frac ([] : List M_frac_Frac))), (5, .own 101), (20, sli 1 (List.map i64 x0.Outs))]) (fun s29 => [(101, .sl 54 3 (List.map L_frac_Frac s29))]) (rE (eR [(101, 101)])) ?_ ?_
 · intro i30 x31 s29 hx32
   refine z [7, 2, 43, 42, 31, 1, 6, 30, 30, 30] ?_
   refine b fun y33 h34 => ?_
   refine z [43, 42] ?_
   refine cb (ca c_frac_Norm) fun r35 => ?_
   refine so (bsl (y := 102) (ls := List.map L_frac_Frac ([r35] : List M_frac_Frac)) Tryz.underlying43 ti_54.h rfl rfl rfl rfl rfl ⟨rfl, rfl, (by exact rfl), (by exact rfl), trivial⟩ rfl rfl) ?_
   refine b fun y37 h38 => ?_
   refine o (app' 103) ?_
   refine z [31, 3, 11] ?_
   exact sgo (eR [(101, 103)])
 intro s39
 refine z [13, 4, 2, 30, 31, 1, 8] ?_
 refine fz 101 [4, 5, 35] [] ?_
 exact rt []
theorem c_run_Field {n : Nat} {x0} {x1} {x2} : ∀ r, m_run_Field n x0 x1 x2 = some r → FnOk Tryz.prog 39 [L_tape_Tape x0, L_eval_Point x1, i64 x2] [] (.tup [sli 3 (List.map L_frac_Frac r.1), L_api_Fault r.2]) [] := by
 unfold m_run_Field
 refine fs Tryz.func39 fun w S0 γ hγ => ?_
 refine z [2] ?_
 refine o (bx' 100) ?_
 refine o (bx' 101) ?_
 refine s1 (asg rfl (kLm (k := 3) L_frac_Frac)) ?_
 refine o (al' 102) ?_
 refine z [1, 2, 32, 32, 30] ?_
 refine cb (ca c_run_Tape) fun r1 => ?_
 refine z [30, 35, 35] ?_
 refine o (al' 103) ?_
 refine z [31, 34, 1, 5, 2, 32] ?_
 refine s1 (bld (l := [i64 0, i64 0, i64 0, i64 0]) pl_59.h ti_59.h zr_api_Fault rfl rfl) ?_
 refine s1 (neA (p := (r1.2 : M_api_Fault)) (q := ((⟨0, 0, 0, 0⟩ : M_api_Fault) : M_api_Fault)) eq_59_2 rfl eg_59 rfl rfl rfl) ?_
 refine z [1] ?_
 refine c ?_ ?_
 · refine z [5] ?_
   refine sd ?_
   refine zd [[103]] ?_
   refine dx [] [] (fun st mm _ _ => og (asg rfl (kLm (k := 3) L_frac_Frac))) ?_
   refine zd [[102]] ?_
   refine de fol ?_
   refine z [4, 8, 10] ?_
   exact rt []
 refine z [9, 4, 5] ?_
 refine b fun r3 h4 => ?_
 refine sd ?_
 refine zd [[100], []] ?_
 refine dd [] (fun _ _ _ _ => c0 (c_run_Outs _ h4)) ?_
 refine zd [[103], [], [102]] ?_
 refine de fol ?_
 refine z [4, 8] ?_
 exact rt []
theorem c___step_maker__stage {n : Nat} {x0_p} {x0_t} {x0_h} {x0_y} {x0_g} {x0_out_Ys} {x0_out_Ks} {x0_out_Next} {x0_out_Err} {x1} : ∀ r, m___step_maker__stage n x0_p x0_t x0_h x0_y x0_g x0_out_Ys x0_out_Ks x0_out_Next x0_out_Err x1 = some r → FnOk Tryz.prog 55 [.own 0, i64 x1] [(0, .bx 93 (.agg [L_step_Problem x0_p, L_frac_Frac x0_t, L_frac_Frac x0_h, sli 3 (List.map L_frac_Frac x0_y), .own 1, .agg [.own 2, .own 3, sli 3 (List.map L_frac_Frac x0_out_Next), sli 3 (List.map L_frac_Frac x0_out_Err)]])), (1, .bx 132 (L_gauge_Gauge x0_g)), (2, .sl 43 1 (List.map L_S_frac_Frac x0_out_Ys)), (3, .sl 43 1 (List.map L_S_frac_Frac x0_out_Ks))] (L_api_Fault r.1) [(0, .bx 93 (.agg [L_step_Problem r.2.1, L_frac_Frac r.2.2.1, L_frac_Frac r.2.2.2.1, sli 3 (List.map L_frac_Frac r.2.2.2.2.1), .own 1, .agg [.own 62, .own 63, sli 3 (List.map L_frac_Frac r.2.2.2.2.2.1), sli 3 (List.map L_frac_Frac r.2.2.2.2.2.2.1)]])), (1, .bx 132 (L_gauge_Gauge r.2.2.2.2.2.2.2.1)), (2, .gone), (3, .gone), (62, .sl 43 1 (List.map L_S_frac_Frac r.2.2.2.2.2.2.2.2.1)), (63, .sl 43 1 (List.map L_S_frac_Frac r.2.2.2.2.2.2.2.2.2))] := by
 unfold m___step_maker__stage
 refine fs Tryz.func55 fun w S0 γ hγ => ?_
 refine z [2] ?_
 refine o (al' 100) ?_
 refine z [1, 2, 30, 30, 48, 33, 45, 45, 36, 30] ?_
 refine b fun y1 h2 => ?_
 refine z [43, 42] ?_
 refine b fun r3 h4 => ?_
 refine o (cG (c___step_maker__from _ h4) [0, 1, 2, 3] [] [0, 1, 2, 3]) ?_
 refine z [31, 1, 5, 2, 30, 30, 30] ?_
 refine b fun r5 h6 => ?_
 refine o (cG (c___step_maker__fits _ h6) [0, 1, 2, 3] [] [0, 2, 3]) ?_
 refine o (al' 101) ?_
 refine z [34, 1, 2, 32] ?_
 refine s1 (bld (l := [i64 0, i64 0, i64 0, i64 0]) pl_59.h ti_59.h zr_api_Fault rfl rfl) ?_
 refine s1 (neA (p := (r5.1 : M_api_Fault)) (q := ((⟨0, 0, 0, 0⟩ : M_api_Fault) : M_api_Fault)) eq_59_2 rfl eg_59 rfl rfl rfl) ?_
 refine z [1] ?_
 refine c ?_ ?_
 · refine z [2, 32, 34, 1, 8, 10] ?_
   exact rt [(0, 0), (1, 1), (2, 2), (3, 3), (62, 2), (63, 3)]
 refine z [9, 4, 5] ?_
 refine b fun r7 h8 => ?_
 refine b fun r9 h10 => ?_
 refine b fun r11 h12 => ?_
 refine sd ?_
 refine zd [[], [0], [0], [], [0], [], [0], [0], [0], [], [0], [0], [0], [], [0], [0], [0], [], [0], [0], [0], []] ?_
 refine dd [] (fun _ _ _ _ => c0 (c_step_Moment _ h8)) ?_
 refine zd [[]] ?_
 refine dd [] (fun _ _ _ _ => c0 (c_step_at _ h10)) ?_
 refine zd [[], [0], [0], [], [0]] ?_
 refine dd [] (fun _ _ _ _ => c0 (c_run_Field _ h12)) ?_
 refine zd [[], [], []] ?_
 refine dd [102] (fun _ _ _ _ => al' 102) ?_
 refine zd [[], [102]] ?_
 refine de fol ?_
 refine z [4, 5, 2, 32] ?_
 refine s1 (bld (l := [i64 0, i64 0, i64 0, i64 0]) pl_59.h ti_59.h zr_api_Fault rfl rfl) ?_
 refine s1 (neA (p := (r11.2 : M_api_Fault)) (q := ((⟨0, 0, 0, 0⟩ : M_api_Fault) : M_api_Fault)) eq_59_2 rfl eg_59 rfl rfl rfl) ?_
 refine z [1] ?_
 refine c ?_ ?_
 · refine z [2, 30, 33] ?_
   refine o (stP (L_api_Fault (⟨r11.2.Kind, r11.2.Step, x1, r11.2.At⟩ : M_api_Fault)) [2]) ?_
   refine z [1, 2, 32, 34, 1, 8, 10] ?_
   exact rt [(0, 0), (1, 1), (2, 2), (3, 3), (62, 2), (63, 3)]
 refine z [9, 4, 2, 30, 30, 48, 33, 45, 36, 30] ?_
 refine so (bsl (y := 103) (ls := List.map L_S_frac_Frac ([r3] : List (List M_frac_Frac))) Tryz.underlying44 ti_43.h rfl rfl rfl rfl rfl ⟨rfl, rfl, (by exact rfl), (by exact rfl), trivial⟩ rfl rfl) ?_
 refine b fun y13 h14 => ?_
 refine o (app' 104) ?_
 refine z [48, 33, 45] ?_
 refine o (stP (.agg [L_step_Problem x0_p, L_frac_Frac x0_t, L_frac_Frac x0_h, sli 3 (List.map L_frac_Frac x0_y), .own 1, .agg [.own 104, .own 3, sli 3 (List.map L_frac_Frac x0_out_Next), sli 3 (List.map L_frac_Frac x0_out_Err)]]) [5, 0]) ?_
 refine z [1, 2, 30, 30, 48, 33, 45, 36, 30] ?_
 refine so (bsl (y := 105) (ls := List.map L_S_frac_Frac ([r11.1] : List (List M_frac_Frac))) Tryz.underlying44 ti_43.h rfl rfl rfl rfl rfl ⟨rfl, rfl, (by exact rfl), (by exact rfl), trivial⟩ rfl rfl) ?_
 refine b fun y15 h16 => ?_
 refine o (app' 106) ?_
 refine z [48, 33, 45] ?_
 refine o (stP (.agg [L_step_Problem x0_p, L_frac_Frac x0_t, L_frac_Frac x0_h, sli 3 (List.map L_frac_Frac x0_y), .own 1, .agg [.own 104, .own 106, sli 3 (List.map L_frac_Frac x0_out_Next), sli 3 (List.map L_frac_Frac x0_out_Err)]]) [5, 1]) ?_
 refine z [1, 2, 32, 34, 1, 8] ?_
 exact rt [(0, 0), (1, 1), (2, 2), (3, 3), (62, 104), (63, 106)]
theorem c_row_Sub {n : Nat} {x0} {x1} : ∀ r, m_row_Sub n x0 x1 = some r → FnOk Tryz.prog 84 [sli 3 (List.map L_frac_Frac x0), sli 3 (List.map L_frac_Frac x1)] [] (.tup [sli 3 (List.map L_frac_Frac r.1), bl r.2]) [] := by
 unfold m_row_Sub
 refine fs Tryz.func84 fun w S0 γ hγ => ?_
 refine z [2] ?_
 refine s1 (asg rfl (kLm (k := 3) L_frac_Frac)) ?_
 refine z [31, 1, 2, 30] ?_
 refine cb (ca c_frac_Of) fun r1 => ?_
 refine z [30] ?_
 refine cb (ca c_row_Scale) fun r3 => ?_
 refine so (bsl (y := 100) (ls := List.map L_S_frac_Frac ([x0, r3] : List (List M_frac_Frac))) Tryz.underlying44 ti_43.h rfl rfl rfl rfl rfl ⟨rfl, rfl, (by exact rfl), (by exact rfl), rfl, rfl, (by exact rfl), (by exact rfl), trivial⟩ rfl rfl) ?_
 refine fz 100 [10] [] ?_
 refine cb (ca c_row_Add) fun r5 => ?_
 refine z [35, 35, 31, 31, 1, 8] ?_
 exact rt []
theorem c_scheme_Gap {n : Nat} {x0} : ∀ r, m_scheme_Gap n x0 = some r → FnOk Tryz.prog 58 [L_scheme_Scheme x0] [] (sli 3 (List.map L_frac_Frac r)) [] := by
 unfold m_scheme_Gap
 refine fs Tryz.func58 fun w S0 γ hγ => ?_
 refine z [2] ?_
 refine o (bx' 100) ?_
 refine s1 (asg rfl (kLm (k := 3) L_frac_Frac)) ?_
 refine z [1, 5] ?_
 refine sjq (fun s5 => [(1, .own 100), (2, sli 3 (List.map L_frac_Frac ([] : List M_frac_Frac))), (13, bl s5)]) (fun s5 => [(100, .bx 46 (L_scheme_Scheme x0))]) ?_ ?_
 · intro j3 hj4
   refine z [6, 32] ?_
   refine cb (ca c_scheme_Right) fun r6 => ?_
   refine z [44, 30] ?_
   refine sifd 8 rfl ?_ ?_
   · refine z [23, 23, 23, 23, 38, 1] ?_
     exact sj (hj4 _) (eR [(100, 100)])
   refine z [22, 22, 22, 22, 37, 1] ?_
   exact sj (hj4 _) (eR [(100, 100)])
 intro s5
 refine c ?_ ?_
 · refine z [2] ?_
   refine s1 (asg rfl (kLm (k := 3) L_frac_Frac)) ?_
   refine z [1, 8, 10] ?_
   exact rt []
 refine z [9, 4, 2, 33, 36, 33, 36] ?_
 refine cb (ca c_row_Sub) fun r8 => ?_
 refine z [30, 35, 35, 31, 31, 1, 2, 30, 31, 1, 8] ?_
 exact rt []
theorem c___step_maker__all {n : Nat} {x0_p} {x0_t} {x0_h} {x0_y} {x0_g} {x0_out_Ys} {x0_out_Ks} {x0_out_Next} {x0_out_Err} : ∀ r, m___step_maker__all n x0_p x0_t x0_h x0_y x0_g x0_out_Ys x0_out_Ks x0_out_Next x0_out_Err = some r → FnOk Tryz.prog 32 [.own 0] [(0, .bx 93 (.agg [L_step_Problem x0_p, L_frac_Frac x0_t, L_frac_Frac x0_h, sli 3 (List.map L_frac_Frac x0_y), .own 1, .agg [.own 2, .own 3, sli 3 (List.map L_frac_Frac x0_out_Next), sli 3 (List.map L_frac_Frac x0_out_Err)]])), (1, .bx 132 (L_gauge_Gauge x0_g)), (2, .sl 43 1 (List.map L_S_frac_Frac x0_out_Ys)), (3, .sl 43 1 (List.map L_S_frac_Frac x0_out_Ks))] (L_api_Fault r.1) [(0, .bx 93 (.agg [L_step_Problem r.2.1, L_frac_Frac r.2.2.1, L_frac_Frac r.2.2.2.1, sli 3 (List.map L_frac_Frac r.2.2.2.2.1), .own 1, .agg [.own 62, .own 63, sli 3 (List.map L_frac_Frac r.2.2.2.2.2.1), sli 3 (List.map L_frac_Frac r.2.2.2.2.2.2.1)]])), (1, .bx 132 (L_gauge_Gauge r.2.2.2.2.2.2.2.1)), (2, .gone), (3, .gone), (62, .sl 43 1 (List.map L_S_frac_Frac r.2.2.2.2.2.2.2.2.1)), (63, .sl 43 1 (List.map L_S_frac_Frac r.2.2.2.2.2.2.2.2.2))] := by
 unfold m___step_maker__all
 refine fs Tryz.func32 fun w S0 γ hγ => ?_
 refine z [2] ?_
 refine o (al' 100) ?_
 refine z [1, 2, 30, 48, 33, 45, 36] ?_
 refine o (al' 101) ?_
 refine z [34, 1, 5, 2, 33, 36, 39, 30, 1, 7] ?_
 refine srN (fun s14 => [(0, .own 0), (2, .own 100), (3, .own 101)]) (fun s14 => [(2, .gone), (3, .gone), (0, .bx 93 (.agg [L_step_Problem s14.1, L_frac_Frac s14.2.1, L_frac_Frac s14.2.2.1, sli 3 (List.map L_frac_Frac s14.2.2.2.1), .own 1, .agg [.own 102, .own 103, sli 3 (List.map L_frac_Frac s14.2.2.2.2.2.2.2.1), sli 3 (List.map L_frac_Frac s14.2.2.2.2.2.2.2.2)]])), (1, .bx 132 (L_gauge_Gauge s14.2.2.2.2.1)), (102, .sl 43 1 (List.map L_S_frac_Frac s14.2.2.2.2.2.1)), (103, .sl 43 1 (List.map L_S_frac_Frac s14.2.2.2.2.2.2.1)), (100, .bx 59 (L_api_Fault (⟨0, 0, 0, 0⟩ : M_api_Fault))), (101, .bx 46 (L_scheme_Scheme x0_p.Scheme))]) (rE (eR [(2, 2), (3, 3), (0, 0), (1, 1), (102, 2), (103, 3), (100, 100), (101, 101)])) ?_ ?_
 · intro i15 x16 s14 hx17
   refine z [7, 2, 30, 31, 1, 2, 30, 30] ?_
   refine b fun r18 h19 => ?_
   refine o (cG (c___step_maker__stage _ h19) [0, 1, 102, 103] [(104, 62), (105, 63)] []) ?_
   refine o (al' 106) ?_
   refine z [34, 1, 2, 32] ?_
   refine s1 (bld (l := [i64 0, i64 0, i64 0, i64 0]) pl_59.h ti_59.h zr_api_Fault rfl rfl) ?_
   refine s1 (neA (p := (r18.1 : M_api_Fault)) (q := ((⟨0, 0, 0, 0⟩ : M_api_Fault) : M_api_Fault)) eq_59_2 rfl eg_59 rfl rfl rfl) ?_
   refine z [1] ?_
   refine c ?_ ?_
   · refine z [2, 32, 34, 1, 8, 12] ?_
     refine sU ?_
     refine z [12, 10] ?_
     exact rt [(0, 0), (1, 1), (2, 2), (3, 3), (62, 104), (63, 105)]
   refine z [9, 11] ?_
   exact sgo (eR [(2, 2), (3, 3), (0, 0), (1, 1), (102, 104), (103, 105), (100, 100), (101, 101)])
 intro s20
 refine z [13, 4, 2, 30, 30, 33, 36] ?_
 refine b fun r21 h22 => ?_
 refine o (cG (c___step_maker__from _ h22) [0, 1, 102, 103] [] [0, 1, 102, 103]) ?_
 refine z [48, 33, 45] ?_
 refine o (stP (.agg [L_step_Problem s20.1, L_frac_Frac s20.2.1, L_frac_Frac s20.2.2.1, sli 3 (List.map L_frac_Frac s20.2.2.2.1), .own 1, .agg [.own 102, .own 103, sli 3 (List.map L_frac_Frac r21), sli 3 (List.map L_frac_Frac s20.2.2.2.2.2.2.2.2)]]) [5, 2]) ?_
 refine z [1, 5, 5] ?_
 refine b fun r23 h24 => ?_
 refine sd ?_
 refine zd [[], [], [0], [0], [], [0], [101], [101], []] ?_
 refine dd [0, 1, 102, 103] (fun _ _ _ _ => cG (c___step_maker__fits _ h24) [0, 1, 102, 103] [] [0, 102, 103]) ?_
 refine dd [104] (fun _ _ _ _ => al' 104) ?_
 refine zd [[104]] ?_
 refine de fol ?_
 refine z [4, 2, 32] ?_
 refine s1 (bld (l := [i64 0, i64 0, i64 0, i64 0]) pl_59.h ti_59.h zr_api_Fault rfl rfl) ?_
 refine s1 (neA (p := (r23.1 : M_api_Fault)) (q := ((⟨0, 0, 0, 0⟩ : M_api_Fault) : M_api_Fault)) eq_59_2 rfl eg_59 rfl rfl rfl) ?_
 refine z [1] ?_
 refine c ?_ ?_
 · refine z [2, 32, 34, 1, 8, 10] ?_
   exact rt [(0, 0), (1, 1), (2, 2), (3, 3), (62, 102), (63, 103)]
 refine z [9, 4] ?_
 refine sjq (fun s31 => [(0, .own 0), (2, .own 100), (3, .own 101)]) (fun s31 => [(2, .gone), (3, .gone), (0, .bx 93 (.agg [L_step_Problem s20.1, L_frac_Frac s20.2.1, L_frac_Frac s20.2.2.1, sli 3 (List.map L_frac_Frac s20.2.2.2.1), .own 1, .agg [.own 102, .own 103, sli 3 (List.map L_frac_Frac r21), sli 3 (List.map L_frac_Frac s31)]])), (1, .bx 132 (L_gauge_Gauge r23.2)), (102, .sl 43 1 (List.map L_S_frac_Frac s20.2.2.2.2.2.1)), (103, .sl 43 1 (List.map L_S_frac_Frac s20.2.2.2.2.2.2.1)), (100, .bx 59 (L_api_Fault (⟨0, 0, 0, 0⟩ : M_api_Fault))), (101, .bx 46 (L_scheme_Scheme x0_p.Scheme))]) ?_ ?_
 · intro j29 hj30
   refine z [2, 32] ?_
   refine cb (ca c_scheme_Gap) fun r32 => ?_
   refine z [31, 1, 2, 30, 39, 47, 1] ?_
   refine c ?_ ?_
   · refine z [6, 30, 30, 30] ?_
     refine b fun r34 h35 => ?_
     refine o (cG (c___step_maker__toward _ h35) [0, 1, 102, 103] [] [0, 1, 102, 103]) ?_
     refine z [48, 33, 45] ?_
     refine o (stP (.agg [L_step_Problem s20.1, L_frac_Frac s20.2.1, L_frac_Frac s20.2.2.1, sli 3 (List.map L_frac_Frac s20.2.2.2.1), .own 1, .agg [.own 102, .own 103, sli 3 (List.map L_frac_Frac r21), sli 3 (List.map L_frac_Frac r34)]]) [5, 3]) ?_
     refine z [1] ?_
     exact sj (hj30 _) (eR [(2, 2), (3, 3), (0, 0), (1, 1), (102, 102), (103, 103), (100, 100), (101, 101)])
   refine z [9, 4] ?_
   exact sj (hj30 _) (eR [(2, 2), (3, 3), (0, 0), (1, 1), (102, 102), (103, 103), (100, 100), (101, 101)])
 intro s31
 refine z [5] ?_
 refine b fun r36 h37 => ?_
 refine sd ?_
 refine zd [[], [], [0], [0], [], [0], [101], [101], [], []] ?_
 refine dd [0, 1, 102, 103] (fun _ _ _ _ => cG (c___step_maker__fits _ h37) [0, 1, 102, 103] [] [0, 102, 103]) ?_
 refine zd [[100]] ?_
 refine de fol ?_
 refine z [4, 8] ?_
 exact rt [(0, 0), (1, 1), (2, 2), (3, 3), (62, 102), (63, 103)]
theorem c_step_Do {n : Nat} {x0} {x1} {x2} {x3} : ∀ r, m_step_Do n x0 x1 x2 x3 = some r → FnOk Tryz.prog 11 [L_step_Problem x0, L_frac_Frac x1, L_frac_Frac x2, sli 3 (List.map L_frac_Frac x3)] [] (.tup [L_step_Made r.1, L_api_Fault r.2]) [] := by
 unfold m_step_Do
 refine fs Tryz.func11 fun w S0 γ hγ => ?_
 refine z [2] ?_
 refine o (bx' 100) ?_
 refine o (bx' 101) ?_
 refine o (bx' 102) ?_
 refine o (al' 103) ?_
 refine o (al' 104) ?_
 refine z [1, 5] ?_
 refine sjq (fun s5 => [(3, sli 3 (List.map L_frac_Frac x3)), (4, .own 100), (5, .own 101), (6, .own 102), (8, .own 103), (9, .own 104), (22, bl s5)]) (fun s5 => [(100, .bx 48 (L_step_Problem x0)), (101, .bx 54 (L_frac_Frac x1)), (102, .bx 54 (L_frac_Frac x2)), (103, .bx 57 (L_step_Made (⟨[], [], [], []⟩ : M_step_Made))), (104, .bx 59 (L_api_Fault (⟨0, 0, 0, 0⟩ : M_api_Fault)))]) ?_ ?_
 · intro j3 hj4
   refine z [6, 32] ?_
   refine cb (ca c_step_Right) fun r6 => ?_
   refine z [44, 30] ?_
   refine sifd 15 rfl ?_ ?_
   · refine z [23, 23, 23, 23, 23, 23, 38, 1] ?_
     exact sj (hj4 _) (eR [(100, 100), (101, 101), (102, 102), (103, 103), (104, 104)])
   refine z [22, 22, 22, 22, 22, 22, 37, 1] ?_
   exact sj (hj4 _) (eR [(100, 100), (101, 101), (102, 102), (103, 103), (104, 104)])
 intro s5
 refine c ?_ ?_
 · refine z [2] ?_
   refine s1 (bld (l := [sli 1 (List.map L_S_frac_Frac []), sli 1 (List.map L_S_frac_Frac []), sli 3 (List.map L_frac_Frac []), sli 3 (List.map L_frac_Frac [])]) pl_57.h ti_57.h zr_step_Made rfl rfl) ?_
   refine s1 (bld (l := [i64 (2 : Int), i64 0, i64 0, i64 0]) pl_59.h ti_59.h zr_api_Fault ⟨_, _, _, (kI (x := 2) rfl), rfl, rfl, rfl, (szk (k := 1) rfl rfl), rfl⟩ rfl) ?_
   refine z [34, 34, 1, 8, 10] ?_
   exact rt []
 refine z [9, 4, 5] ?_
 refine b fun r8 h9 => ?_
 refine sd ?_
 refine zd [[100], [101], [102], [], [100], [100]] ?_
 refine dd [105] (fun _ _ _ _ => cG (c_gauge_New _ h9) [] [(105, 50)] []) ?_
 refine dx [25, 26, 27, 28, 31] [106, 107] (fun st mm ⟨a25, a26, a27, a28, a31, _⟩ ⟨g106, g107, _⟩ => og (bldO (l := [L_step_Problem x0, L_frac_Frac x1, L_frac_Frac x2, sli 3 (List.map L_frac_Frac x3), .own 105, .agg [.own 106, .own 107, sli 3 (List.map L_frac_Frac []), sli 3 (List.map L_frac_Frac [])]]) [(106, 43, 1), (107, 43, 1)] pl_93.h ti_93.h (zo_agg (zos_cons (c1 := [.slice none 0 0, .slice none 0 0, .int .i64 0, .int .i64 0, .string ⟨#[]⟩, .slice none 0 0, .slice none 0 0, .slice none 0 0, .slice none 0 0, .slice none 0 0, .int .i64 0]) (zo_of zr_step_Problem) (zos_cons (c1 := [.bool false, .slice none 0 0, .slice none 0 0]) (zo_of zr_frac_Frac) (zos_cons (c1 := [.bool false, .slice none 0 0, .slice none 0 0]) (zo_of zr_frac_Frac) (zos_cons (c1 := [.slice none 0 0]) (zo_of (zr_sli (k := 3))) (zos_cons (c1 := [.pointer none]) (zo_of zr_por) (zos_cons (c1 := [.slice none 0 0, .slice none 0 0, .slice none 0 0, .slice none 0 0]) (zo_agg (zos_cons (c1 := [.slice none 0 0]) (zo_own rfl) (zos_cons (c1 := [.slice none 0 0]) (zo_own rfl) (zos_cons (c1 := [.slice none 0 0]) (zo_of (zr_sli (k := 3))) (zos_cons (c1 := [.slice none 0 0]) (zo_of (zr_sli (k := 3))) (zos_nil)))))) (zos_nil)))))))) ⟨(g106.trans rfl), (g107.trans rfl), trivial⟩ rfl ⟨_, _, _, (a25.trans rfl), rfl, rfl, rfl, (szk (k := 11) rfl rfl), ⟨_, _, _, (a26.trans rfl), rfl, rfl, rfl, (szk (k := 3) rfl rfl), ⟨_, _, _, (a27.trans rfl), rfl, rfl, rfl, (szk (k := 3) rfl rfl), ⟨_, _, _, (a28.trans rfl), rfl, rfl, rfl, (szk (k := 1) rfl rfl), ⟨_, _, _, (a31.trans rfl), rfl, rfl, rfl, (szk (k := 1) rfl rfl), rfl⟩⟩⟩⟩⟩ rfl)) ?_
 refine dd [108] (fun _ _ _ _ => bx' 108) ?_
 refine zd [[]] ?_
 refine de fol ?_
 refine z [4, 5, 2, 30] ?_
 refine b fun r10 h11 => ?_
 refine o (cG (c___step_maker__all _ h11) [108, 105, 106, 107] [(109, 62), (110, 63)] []) ?_
 refine o (al' 111) ?_
 refine z [34, 1, 2, 32] ?_
 refine s1 (bld (l := [i64 0, i64 0, i64 0, i64 0]) pl_59.h ti_59.h zr_api_Fault rfl rfl) ?_
 refine s1 (neA (p := (r10.1 : M_api_Fault)) (q := ((⟨0, 0, 0, 0⟩ : M_api_Fault) : M_api_Fault)) eq_59_2 rfl eg_59 rfl rfl rfl) ?_
 refine z [1] ?_
 refine c ?_ ?_
 · refine z [5] ?_
   refine sd ?_
   refine dx [] [] (fun st mm _ _ => og (bld (l := [sli 1 (List.map L_S_frac_Frac []), sli 1 (List.map L_S_frac_Frac []), sli 3 (List.map L_frac_Frac []), sli 3 (List.map L_frac_Frac [])]) pl_57.h ti_57.h zr_step_Made rfl rfl)) ?_
   refine zd [[111], [103], [104]] ?_
   refine de fol ?_
   refine z [4, 8, 10] ?_
   exact rt []
 refine z [9, 4, 2, 30, 48, 33, 36] ?_
 refine s1 (bld (l := [i64 0, i64 0, i64 0, i64 0]) pl_59.h ti_59.h zr_api_Fault rfl rfl) ?_
 refine z [34, 34, 1, 8] ?_
 refine fz 109 [44] [103, 108] ?_
 refine fz 110 [44] [103, 108] ?_
 exact rt []
theorem c_digits_nine {n : Nat} {x0} : ∀ r, m_digits_nine n x0 = some r → FnOk Tryz.prog 106 [u32 x0] [] (str r) [] := by
 unfold m_digits_nine
 refine fs Tryz.func106 fun w S0 γ hγ => ?_
 refine z [2, 31, 1, 2] ?_
 refine o (al' 100) ?_
 refine z [1, 5, 2, 31, 1, 7] ?_
 refine sloopE 0 (fun t => t) (fun s7 => [(0, u32 s7.1), (2, str ([] : List UInt8)), (3, .own 100), (4, i64 s7.2.2)]) (fun s7 => [(100, .bx 229 (L_A9_u8 s7.2.1))]) (fun t5 => [(2, str ([] : List UInt8)), (3, .own 100)]) (fun t5 => [(100, .bx 229 (L_A9_u8 t5))]) (eR [(100, 100)]) ?_ ?_
 · intro hj6 s7
   refine z [5, 2, 30, 57, 1] ?_
   refine c ?_ ?_
   · refine z [9, 4, 5, 7, 2, 30, 30, 81, 61, 60] ?_
     refine b fun y8 h9 => ?_
     refine s1 (ixAO Tryz.underlying229 ti_5.h (getI_dec (n := 9) rfl h9) (.inr ⟨rfl, rfl, _, _, rfl⟩) rfl rfl rfl) ?_
     refine so (stB2 (ly := .agg (List.map u8 ([s7.2.1.a0, s7.2.1.a1, s7.2.1.a2, s7.2.1.a3, s7.2.1.a4, s7.2.1.a5, s7.2.1.a6, s7.2.1.a7, s7.2.1.a8] : List Nat))) (ly2 := L_A9_u8 (ofl_A9_u8 (List.set ([s7.2.1.a0, s7.2.1.a1, s7.2.1.a2, s7.2.1.a3, s7.2.1.a4, s7.2.1.a5, s7.2.1.a6, s7.2.1.a7, s7.2.1.a8] : List Nat) (Int.toNat s7.2.2) (((48 + (s7.1 % 10)) % 4294967296) % 256)))) (ln := u8 (((48 + (s7.1 % 10)) % 4294967296) % 256)) [Int.toNat s7.2.2] (puA0 (f := u8) h9 (ofl_ok_A9_u8 _ (List.length_set.trans rfl))) rfl (goA0 (f := u8) (fun _ => rfl) h9) sh_5.h (by exact rfl) (by exact rfl) (by exact rfl) rfl (.inl rfl) rfl) ?_
     refine z [1, 6, 30, 80, 31, 3, 11, 4, 6, 30, 49, 31, 3] ?_
     exact sgo (eR [(100, 100)])
   refine z [14, 15] ?_
   exact su (sj (hj6 _) (eR [(100, 100)]))
 intro t5
 refine z [13, 4, 2] ?_
 refine so (slA (f := u8) (xs := ([t5.a0, t5.a1, t5.a2, t5.a3, t5.a4, t5.a5, t5.a6, t5.a7, t5.a8] : List Nat)) Tryz.underlying229 ti_5.h rfl rfl rfl (fun _ => if_u8) (fun _ => rfl) rfl rfl) ?_
 refine sbn (F := (fun x => sli 1 (List.map u8 x))) 17 rfl fun z10 => ?_
 refine s1 (cvBS Tryz.underlying155 Tryz.underlying5 Tryz.underlying9 rfl rfl) ?_
 refine z [31, 1, 8] ?_
 exact rt []
theorem c_digits_Text {n : Nat} {x0} : ∀ r, m_digits_Text n x0 = some r → FnOk Tryz.prog 76 [sli 1 (List.map u32 x0)] [] (str r) [] := by
 unfold m_digits_Text
 refine fs Tryz.func76 fun w S0 γ hγ => ?_
 refine z [2, 31, 1, 5, 2, 30] ?_
 refine cb (ca c_nat_Zero) fun r1 => ?_
 refine z [1] ?_
 refine c ?_ ?_
 · refine z [2, 31, 1, 8, 10] ?_
   exact rt []
 refine z [9, 4, 2] ?_
 refine so (asgN (y := 100) (E := 9) (k := 1) rfl rfl) ?_
 refine z [1, 5, 7] ?_
 refine sloopE 0 (fun t => t) (fun s23 => [(0, sli 1 (List.map u32 s23.1)), (2, str ([] : List UInt8)), (3, .own 100)]) (fun s23 => [(100, .sl 9 1 (List.map str s23.2))]) (fun t21 => [(2, str ([] : List UInt8)), (3, .own 100)]) (fun t21 => [(100, .sl 9 1 (List.map str t21))]) (eR [(100, 100)]) ?_ ?_
 · intro hj22 s23
   refine z [5, 2, 30] ?_
   refine cb (ca c_nat_Zero) fun r24 => ?_
   refine z [44, 1] ?_
   refine c ?_ ?_
   · refine z [9, 4, 7, 2, 30] ?_
     refine cb (ca c_quot_Word) fun r26 => ?_
     refine z [30, 35, 35, 35, 31, 31, 31, 1, 2, 30, 30] ?_
     refine cb (ca c_digits_nine) fun r28 => ?_
     refine so (bsl (y := 101) (ls := List.map str ([r28] : List (List UInt8))) Tryz.underlying123 ti_9.h rfl rfl rfl rfl rfl ⟨rfl, rfl, (by exact rfl), (by exact rfl), trivial⟩ rfl rfl) ?_
     refine b fun y30 h31 => ?_
     refine o (app' 102) ?_
     refine z [31, 1, 6, 30, 31, 3, 11] ?_
     exact sgo (eR [(100, 102)])
   refine z [14, 15] ?_
   exact su (sj (hj22 _) (eR [(100, 100)]))
 intro t21
 refine z [13, 4, 2] ?_
 refine so (alOw (y := 101) (ly := .agg [.por 101, .own 102]) [(102, 5, 1)] ti_157.h (zo_agg (zos_cons (c1 := [.pointer none]) zo_por (zos_cons (c1 := [.slice none 0 0]) (zo_own rfl) zos_nil))) ⟨rfl, trivial⟩ rfl rfl rfl) ?_
 refine z [1, 5, 2, 30, 55, 49, 31, 1, 7] ?_
 refine sloopE 2 (fun t => t) (fun s44 => [(2, str ([] : List UInt8)), (3, .own 100), (7, .own 101), (8, i64 s44.2)]) (fun s44 => [(100, .sl 9 1 (List.map str t21)), (101, .bx 157 (.agg [.por 101, .own 102])), (102, .sl 5 1 (List.map ub s44.1))]) (fun t42 => [(2, str ([] : List UInt8)), (7, .own 101)]) (fun t42 => [(101, .bx 157 (.agg [.por 101, .own 102])), (102, .sl 5 1 (List.map ub t42))]) (eR [(100, 100), (101, 101), (102, 102)]) ?_ ?_
 · intro hj43 s44
   refine z [5, 2, 30, 57, 1] ?_
   refine c ?_ ?_
   · refine z [9, 4, 5, 7, 6, 30, 30] ?_
     refine b fun y45 h46 => ?_
     refine z [50, 51] ?_
     refine b fun y47 h48 => ?_
     refine so (callG (em := [(103, .sl 5 1 (List.map ub y47)), (101, .bx 157 (.agg [.por 101, .own 103])), (102, .gone)]) (res' := .tup [i64 (y45.length : Int), nilI]) [(0, 101), (1, 102)] [(103, 52)] [(103, 52), (101, 0)] (ws_ok' h48) ⟨⟨_, rfl, rn_own rfl⟩, ⟨_, rfl, rn_id if_str⟩, trivial⟩ (MiF.get (mi := [(0, _), (1, _)]) ⟨⟨_, _, rfl, rfl, rc_bx (rn_agg (rns_cons (rn_por rfl) (rns_cons (rn_own rfl) rns_nil)))⟩, ⟨_, _, rfl, rfl, rc_sl (ifs_map (f := ub) (fun _ => if_ub) s44.1)⟩, trivial⟩) ⟨⟨_, rfl⟩, ⟨_, rfl⟩, trivial⟩ rfl ⟨rfl, trivial⟩ ⟨.inl rfl, .inr rfl, trivial⟩ rfl ⟨.inl ⟨_, _, rfl, rfl, rc_sl (ifs_map (f := ub) (fun _ => if_ub) y47)⟩, .inl ⟨_, _, rfl, rfl, rc_bx (rn_agg (rns_cons (rn_por rfl) (rns_cons (rn_own rfl) rns_nil)))⟩, .inr ⟨rfl, 1, .tail _ (.head _)⟩, trivial⟩ ⟨⟨_, rfl⟩, ⟨_, rfl⟩, trivial⟩ ⟨⟨_, rfl⟩, trivial⟩ (rn_tup (rns_cons (rn_id if_i64) (rns_cons (rn_id if_nilI) rns_nil))) rfl) ?_
     refine z [3, 11, 4, 6, 30, 49, 31, 3] ?_
     exact sgo (eR [(100, 100), (101, 101), (102, 103)])
   refine z [14, 15] ?_
   exact su (sj (hj43 _) (eR [(101, 101), (102, 102)]))
 intro t42
 refine z [13, 4, 2] ?_
 refine so (strOp (id := 101) (id2 := 102) rfl rfl rfl rfl rfl) ?_
 refine cb (ca c_strings_TrimLeft) fun r49 => ?_
 refine z [31, 1, 8] ?_
 exact rt []
theorem c_whole_Text {n : Nat} {x0} : ∀ r, m_whole_Text n x0 = some r → FnOk Tryz.prog 74 [L_whole_Whole x0] [] (str r) [] := by
 unfold m_whole_Text
 refine fs Tryz.func74 fun w S0 γ hγ => ?_
 refine z [2] ?_
 refine o (bx' 100) ?_
 refine z [31, 1, 2, 33, 36] ?_
 refine cb (ca c_digits_Text) fun r1 => ?_
 refine z [31, 1, 5, 2, 32] ?_
 refine cb (ca c_whole_Sign) fun r3 => ?_
 refine z [46, 1] ?_
 refine c ?_ ?_
 · refine z [2, 30] ?_
   refine b fun y5 h6 => ?_
   refine z [91, 31, 1, 8, 10] ?_
   exact rt []
 refine z [9, 4, 2, 30, 31, 1, 8] ?_
 exact rt []
theorem c_figure_Text {n : Nat} {x0} : ∀ r, m_figure_Text n x0 = some r → FnOk Tryz.prog 50 [L_frac_Frac x0] [] (str r) [] := by
 unfold m_figure_Text
 refine fs Tryz.func50 fun w S0 γ hγ => ?_
 refine z [2] ?_
 refine o (bx' 100) ?_
 refine z [31, 1, 2, 32] ?_
 refine cb (ca c_frac_Norm) fun r1 => ?_
 refine z [34, 1, 2, 33, 36] ?_
 refine cb (ca c_whole_Text) fun r3 => ?_
 refine z [31, 1] ?_
 refine sjq (fun s17 => [(2, str ([] : List UInt8)), (3, str s17)]) (fun s17 => []) ?_ ?_
 · intro j15 hj16
   refine z [5] ?_
   refine b fun r18 h19 => ?_
   refine b fun r20 h21 => ?_
   refine sd ?_
   refine zd [[100], [100]] ?_
   refine dd [] (fun _ _ _ _ => c0 (c_nat_Of _ h19)) ?_
   refine dd [] (fun _ _ _ _ => c0 (c_nat_Cmp _ h21)) ?_
   refine zd [[]] ?_
   refine de fol ?_
   refine z [4] ?_
   refine c ?_ ?_
   · refine z [6, 30, 33, 36] ?_
     refine cb (ca c_digits_Text) fun r22 => ?_
     refine b fun y24 h25 => ?_
     refine z [91] ?_
     refine b fun y26 h27 => ?_
     refine z [91, 31, 1] ?_
     exact sj (hj16 _) (eR [])
   refine z [9, 4] ?_
   exact sj (hj16 _) (eR [])
 intro s17
 refine z [2, 30, 31, 1, 8] ?_
 exact rt []
theorem c_row_Text {n : Nat} {x0} : ∀ r, m_row_Text n x0 = some r → FnOk Tryz.prog 27 [sli 3 (List.map L_frac_Frac x0)] [] (str r) [] := by
 unfold m_row_Text
 refine fs Tryz.func27 fun w S0 γ hγ => ?_
 refine z [2, 31, 1, 2] ?_
 refine so (asgN (y := 100) (E := 9) (k := 1) rfl rfl) ?_
 refine z [1, 5, 2, 30, 39, 30, 1, 7] ?_
 refine srN (fun s18 => [(2, str ([] : List UInt8)), (3, .own 100), (6, sli 3 (List.map L_frac_Frac x0))]) (fun s18 => [(100, .sl 9 1 (List.map str s18))]) (rE (eR [(100, 100)])) ?_ ?_
 · intro i19 x20 s18 hx21
   refine z [7, 2, 43, 42] ?_
   refine o (al' 101) ?_
   refine z [34, 1, 6, 30, 32] ?_
   refine cb (ca c_figure_Text) fun r22 => ?_
   refine so (bsl (y := 102) (ls := List.map str ([r22] : List (List UInt8))) Tryz.underlying123 ti_9.h rfl rfl rfl rfl rfl ⟨rfl, rfl, (by exact rfl), (by exact rfl), trivial⟩ rfl rfl) ?_
   refine b fun y24 h25 => ?_
   refine o (app' 103) ?_
   refine z [31, 3, 11] ?_
   exact sgo (eR [(100, 103)])
 intro s26
 refine z [13, 4, 2, 30] ?_
 refine b fun r27 h28 => ?_
 refine s1 (callL (em := []) [100] [] [] [] rfl (c_strings_Join _ h28) trivial (pl_str) ⟨.inr ⟨100, rfl, .inl ⟨rfl, .inl ⟨_, _, _, rfl, ifs_map (f := str) (fun _ => if_str) s26, rfl⟩⟩⟩, .inl ⟨_, (kS (s := [44]) rfl), rn_id if_str⟩, trivial⟩ (fun _ _ h => by cases h) trivial rfl trivial trivial rfl trivial trivial trivial (rn_id (if_str)) rfl) ?_
 refine z [31, 1, 8] ?_
 exact rt []
theorem c_retrospectlaw33_works {n : Nat}  : ∀ r, m_retrospectlaw33_works n  = some r → FnOk Tryz.prog 7 [] [] (bl r) [] := by
 unfold m_retrospectlaw33_works
 refine fs Tryz.func7 fun w S0 γ hγ => ?_
 refine z [2, 31, 1, 2] ?_
 refine cb (ca c_stock_Get) fun r1 => ?_
 refine z [30, 35, 35] ?_
 refine o (al' 100) ?_
 refine z [34, 31, 1, 2] ?_
 refine cb (ca c_frac_Of) fun r3 => ?_
 refine so (bsl (y := 101) (ls := List.map L_frac_Frac ([r3] : List M_frac_Frac)) Tryz.underlying43 ti_54.h rfl rfl rfl rfl rfl ⟨rfl, rfl, (by exact rfl), (by exact rfl), trivial⟩ rfl rfl) ?_
 refine z [31, 1, 2] ?_
 refine cb (ca c_frac_Ratio) fun r5 => ?_
 refine z [30, 35, 35] ?_
 refine o (al' 102) ?_
 refine z [34, 31, 1, 5] ?_
 refine fz 101 [3, 13] [] ?_
 refine b fun r9 h10 => ?_
 refine b fun r11 h12 => ?_
 refine b fun r13 h14 => ?_
 refine sd ?_
 refine dd [] (fun _ _ _ _ => c0 (c_retrospectlaw33_grows _ h10)) ?_
 refine zd [[100], []] ?_
 refine dx [19, 20, 21] [] (fun st mm ⟨a19, a20, a21, _⟩ _ => og (bld (l := [L_tape_Tape r9, L_scheme_Scheme r1.1, sli 3 (List.map L_frac_Frac ([r3] : List M_frac_Frac)), i64 (100 : Int)]) pl_48.h ti_48.h zr_step_Problem ⟨_, _, _, (a19.trans rfl), rfl, rfl, rfl, (szk (k := 4) rfl rfl), ⟨_, _, _, (a20.trans rfl), rfl, rfl, rfl, (szk (k := 5) rfl rfl), ⟨_, _, _, (a21.trans rfl), rfl, rfl, rfl, (szk (k := 1) rfl rfl), ⟨_, _, _, (kI (x := 100) rfl), rfl, rfl, rfl, (szk (k := 1) rfl rfl), rfl⟩⟩⟩⟩ rfl)) ?_
 refine dd [] (fun _ _ _ _ => c0 (c_frac_Of _ h12)) ?_
 refine zd [[102], []] ?_
 refine dd [] (fun _ _ _ _ => c0 (c_step_Do _ h14)) ?_
 refine zd [[], [], []] ?_
 refine dd [103] (fun _ _ _ _ => al' 103) ?_
 refine dd [104] (fun _ _ _ _ => al' 104) ?_
 refine zd [[103], [104]] ?_
 refine de fol ?_
 refine z [4] ?_
 refine sjq (fun s25 => [(0, bl s25)]) (fun s25 => []) ?_ ?_
 · intro j23 hj24
   refine z [6, 30, 30] ?_
   refine sifd 30 rfl ?_ ?_
   · refine z [22] ?_
     refine sg 30 rfl rfl (bld (l := [i64 0, i64 0, i64 0, i64 0]) pl_59.h ti_59.h zr_api_Fault rfl rfl) ?_
     refine sg 30 rfl rfl (eqA (p := (r13.2 : M_api_Fault)) (q := ((⟨0, 0, 0, 0⟩ : M_api_Fault) : M_api_Fault)) eq_59_2 rfl eg_59 rfl rfl rfl) ?_
     refine z [38, 30] ?_
     refine sifd 35 rfl ?_ ?_
     · refine z [22, 22, 22, 22, 38, 30] ?_
       refine sifd 41 rfl ?_ ?_
       · refine z [22, 22] ?_
         refine b fun y26 h27 => ?_
         refine z [22, 22] ?_
         refine b fun r28 h29 => ?_
         refine og' (c0 (c_row_Text _ h29)) ?_
         refine z [22, 38, 30] ?_
         refine sifd 49 rfl ?_ ?_
         · refine z [22, 22] ?_
           refine b fun r30 h31 => ?_
           refine og' (c0 (c_row_Text _ h31)) ?_
           refine z [22, 38, 30] ?_
           refine sifd 55 rfl ?_ ?_
           · refine z [22, 22] ?_
             refine b fun r32 h33 => ?_
             refine og' (c0 (c_row_Text _ h33)) ?_
             refine z [22, 38, 31, 1] ?_
             exact sj (hj24 _) (eR [])
           refine z [23, 23, 23, 23, 37, 31, 1] ?_
           exact sj (hj24 _) (eR [])
         refine z [23, 23, 23, 23, 37, 30, 23, 23, 23, 23, 37, 31, 1] ?_
         exact sj (hj24 _) (eR [])
       refine z [23, 23, 23, 23, 23, 23, 37, 30, 23, 23, 23, 23, 37, 30, 23, 23, 23, 23, 37, 31, 1] ?_
       exact sj (hj24 _) (eR [])
     refine z [23, 23, 23, 23, 37, 30, 23, 23, 23, 23, 23, 23, 37, 30, 23, 23, 23, 23, 37, 30, 23, 23, 23, 23, 37, 31, 1] ?_
     exact sj (hj24 _) (eR [])
   refine z [23, 23, 23, 37, 30, 23, 23, 23, 23, 37, 30, 23, 23, 23, 23, 23, 23, 37, 30, 23, 23, 23, 23, 37, 30, 23, 23, 23, 23, 37, 31, 1] ?_
   exact sj (hj24 _) (eR [])
 intro s25
 refine z [8] ?_
 exact rt []
theorem c_retrospectlaw09_To {x0} : ∀ r, m_retrospectlaw09_To x0 = some r → FnOk Tryz.prog 10 [L_retrospectref09_Frac x0] [] (L_frac_Frac r) [] := by
 unfold m_retrospectlaw09_To
 refine fs Tryz.func10 fun w S0 γ hγ => ?_
 refine z [2] ?_
 refine o (bx' 100) ?_
 refine o (al' 101) ?_
 refine z [1, 2, 33, 36, 33, 36] ?_
 refine s1 (bld (l := [bl x0.Neg, sli 1 (List.map u32 x0.N)]) pl_52.h ti_52.h zr_whole_Whole ⟨_, _, _, rfl, rfl, rfl, rfl, (szk (k := 1) rfl rfl), ⟨_, _, _, rfl, rfl, rfl, rfl, (szk (k := 1) rfl rfl), rfl⟩⟩ rfl) ?_
 refine z [33, 36] ?_
 refine s1 (bld (l := [L_whole_Whole (⟨x0.Neg, x0.N⟩ : M_whole_Whole), sli 1 (List.map u32 x0.D)]) pl_54.h ti_54.h zr_frac_Frac ⟨_, _, _, rfl, rfl, rfl, rfl, (szk (k := 2) rfl rfl), ⟨_, _, _, rfl, rfl, rfl, rfl, (szk (k := 1) rfl rfl), rfl⟩⟩ rfl) ?_
 refine z [34, 1, 8] ?_
 exact rt []
theorem c_retrospectlaw24_To {n : Nat} {x0} : ∀ r, m_retrospectlaw24_To n x0 = some r → FnOk Tryz.prog 28 [L_retrospectref24_Tape x0] [] (L_tape_Tape r) [] := by
 unfold m_retrospectlaw24_To
 refine fs Tryz.func28 fun w S0 γ hγ => ?_
 refine z [2] ?_
 refine o (bx' 100) ?_
 refine o (al' 101) ?_
 refine z [1, 5] ?_
 refine b fun y1 h2 => ?_
 refine sd ?_
 refine zd [[100], [100], [100], [100]] ?_
 refine dx [] [102] (fun st mm _ ⟨g102, _⟩ => og (bsl (y := 102) (ls := List.map i64 ([] : List Int)) Tryz.underlying23 ti_3.h rfl rfl rfl rfl rfl trivial (g102.trans rfl) rfl)) ?_
 refine zd [[100], [100]] ?_
 refine dd [102, 103] (fun _ _ _ _ => tV (app' 103)) ?_
 refine dx [7, 9, 13] [104] (fun st mm ⟨a7, a9, a13, _⟩ ⟨g104, _⟩ => og (bldO (l := [.own 104, sli 1 (List.map i64 y1), i64 x0.Dim, i64 x0.Par]) [(104, 108, 6)] pl_42.h ti_42.h (zo_agg (zos_cons (c1 := [.slice none 0 0]) (zo_own rfl) (zos_cons (c1 := [.slice none 0 0]) (zo_of (zr_sli (k := 1))) (zos_cons (c1 := [.int .i64 0]) (zo_of zr_i64) (zos_cons (c1 := [.int .i64 0]) (zo_of zr_i64) (zos_nil)))))) ⟨(g104.trans rfl), trivial⟩ rfl ⟨_, _, _, (a7.trans rfl), rfl, rfl, rfl, (szk (k := 1) rfl rfl), ⟨_, _, _, (a9.trans rfl), rfl, rfl, rfl, (szk (k := 1) rfl rfl), ⟨_, _, _, (a13.trans rfl), rfl, rfl, rfl, (szk (k := 1) rfl rfl), rfl⟩⟩⟩ rfl)) ?_
 refine dd [105] (fun _ _ _ _ => al' 105) ?_
 refine zd [[105]] ?_
 refine de fol ?_
 refine z [4, 5, 2, 31, 1, 7] ?_
 refine sloopE 0 (fun t => t) (fun s19 => [(1, .own 100), (2, .own 101), (3, .own 105), (4, i64 s19.2)]) (fun s19 => [(100, .bx 25 (L_retrospectref24_Tape x0)), (101, .bx 42 (L_tape_Tape (⟨[], [], 0, 0⟩ : M_tape_Tape))), (105, .bx 42 (.agg [.own 104, sli 1 (List.map i64 y1), i64 x0.Dim, i64 x0.Par])), (104, .sl 108 6 (List.map L_tape_Inst s19.1))]) (fun t17 => [(2, .own 101), (3, .own 105)]) (fun t17 => [(101, .bx 42 (L_tape_Tape (⟨[], [], 0, 0⟩ : M_tape_Tape))), (105, .bx 42 (.agg [.own 104, sli 1 (List.map i64 y1), i64 x0.Dim, i64 x0.Par])), (104, .sl 108 6 (List.map L_tape_Inst t17))]) (eR [(100, 100), (101, 101), (105, 105), (104, 104)]) ?_ ?_
 · intro hj18 s19
   refine z [5, 2, 30, 33, 36, 39, 46, 1] ?_
   refine c ?_ ?_
   · refine z [9, 4, 5, 7, 2, 33, 36, 30] ?_
     refine b fun y20 h21 => ?_
     refine z [43, 42] ?_
     refine o (al' 106) ?_
     refine z [34, 1] ?_
     refine b fun r22 h23 => ?_
     refine b fun y24 h25 => ?_
     refine sd ?_
     refine zd [[105], [105], [106], [106], [106], [106], [106], [106], [106], [106]] ?_
     refine dd [] (fun _ _ _ _ => c0 (c_retrospectlaw09_To _ h23)) ?_
     refine dx [30, 32, 34, 37] [] (fun st mm ⟨a30, a32, a34, a37, _⟩ _ => og (bld (l := [i64 y20.Op, i64 y20.A, i64 y20.B, L_frac_Frac r22]) pl_108.h ti_108.h zr_tape_Inst ⟨_, _, _, (a30.trans rfl), rfl, rfl, rfl, (szk (k := 1) rfl rfl), ⟨_, _, _, (a32.trans rfl), rfl, rfl, rfl, (szk (k := 1) rfl rfl), ⟨_, _, _, (a34.trans rfl), rfl, rfl, rfl, (szk (k := 1) rfl rfl), ⟨_, _, _, (a37.trans rfl), rfl, rfl, rfl, (szk (k := 3) rfl rfl), rfl⟩⟩⟩⟩ rfl)) ?_
     refine dx [38] [107] (fun st mm ⟨a38, _⟩ ⟨g107, _⟩ => og (bsl (y := 107) (ls := List.map L_tape_Inst ([(⟨y20.Op, y20.A, y20.B, r22⟩ : M_tape_Inst)] : List M_tape_Inst)) Tryz.underlying40 ti_108.h rfl rfl rfl rfl rfl ⟨rfl, (a38.trans rfl), (by exact rfl), (by exact rfl), trivial⟩ (g107.trans rfl) rfl)) ?_
     refine dd [104, 107, 108] (fun _ _ _ _ => app' 108) ?_
     refine zd [[105]] ?_
     refine dd [105] (fun _ _ _ _ => stP (.agg [.own 108, sli 1 (List.map i64 y1), i64 x0.Dim, i64 x0.Par]) [0]) ?_
     refine de fol ?_
     refine z [11, 4, 6, 30, 40, 31, 3] ?_
     exact sgo (eR [(100, 100), (101, 101), (105, 105), (104, 108)])
   refine z [14, 15] ?_
   exact su (sj (hj18 _) (eR [(101, 101), (105, 105), (104, 104)]))
 intro t17
 refine z [13, 4, 2, 32, 34, 1, 8] ?_
 refine fz 104 [42] [101, 105] ?_
 exact rt []
theorem c_retrospectlaw11_To {n : Nat} {x0} : ∀ r, m_retrospectlaw11_To n x0 = some r → FnOk Tryz.prog 9 [sli 3 (List.map L_retrospectref09_Frac x0)] [] (sli 3 (List.map L_frac_Frac r)) [] := by
 unfold m_retrospectlaw11_To
 refine fs Tryz.func9 fun w S0 γ hγ => ?_
 refine z [2] ?_
 refine s1 (asg rfl (kLm (k := 3) L_frac_Frac)) ?_
 refine z [1, 2] ?_
 refine so (asgN (y := 100) (E := 54) (k := 3) rfl rfl) ?_
 refine z [1, 5, 2, 31, 1, 7] ?_
 refine sloopE 0 (fun t => t) (fun s17 => [(0, sli 3 (List.map L_retrospectref09_Frac x0)), (2, sli 3 (List.map L_frac_Frac ([] : List M_frac_Frac))), (3, .own 100), (4, i64 s17.2)]) (fun s17 => [(100, .sl 54 3 (List.map L_frac_Frac s17.1))]) (fun t15 => [(2, sli 3 (List.map L_frac_Frac ([] : List M_frac_Frac))), (3, .own 100)]) (fun t15 => [(100, .sl 54 3 (List.map L_frac_Frac t15))]) (eR [(100, 100)]) ?_ ?_
 · intro hj16 s17
   refine z [5, 2, 30, 30, 39, 46, 1] ?_
   refine c ?_ ?_
   · refine z [9, 4, 5, 7, 6, 30, 30, 30] ?_
     refine b fun y18 h19 => ?_
     refine z [43, 42] ?_
     refine cb (ca c_retrospectlaw09_To) fun r20 => ?_
     refine so (bsl (y := 101) (ls := List.map L_frac_Frac ([r20] : List M_frac_Frac)) Tryz.underlying43 ti_54.h rfl rfl rfl rfl rfl ⟨rfl, rfl, (by exact rfl), (by exact rfl), trivial⟩ rfl rfl) ?_
     refine b fun y22 h23 => ?_
     refine o (app' 102) ?_
     refine z [31, 3, 11, 4, 6, 30, 40, 31, 3] ?_
     exact sgo (eR [(100, 102)])
   refine z [14, 15] ?_
   exact su (sj (hj16 _) (eR [(100, 100)]))
 intro t15
 refine z [13, 4, 2, 30, 31, 1, 8] ?_
 refine fz 100 [2, 3, 19] [] ?_
 exact rt []
theorem c_retrospectlaw12_To {n : Nat} {x0} : ∀ r, m_retrospectlaw12_To n x0 = some r → FnOk Tryz.prog 52 [sli 1 (List.map L_S_retrospectref09_Frac x0)] [] (sli 1 (List.map L_S_frac_Frac r)) [] := by
 unfold m_retrospectlaw12_To
 refine fs Tryz.func52 fun w S0 γ hγ => ?_
 refine z [2] ?_
 refine s1 (asg rfl (kLm (k := 1) L_S_frac_Frac)) ?_
 refine z [1, 2] ?_
 refine so (asgN (y := 100) (E := 43) (k := 1) rfl rfl) ?_
 refine z [1, 5, 2, 31, 1, 7] ?_
 refine sloopE 0 (fun t => t) (fun s17 => [(0, sli 1 (List.map L_S_retrospectref09_Frac x0)), (2, sli 1 (List.map L_S_frac_Frac ([] : List (List M_frac_Frac)))), (3, .own 100), (4, i64 s17.2)]) (fun s17 => [(100, .sl 43 1 (List.map L_S_frac_Frac s17.1))]) (fun t15 => [(2, sli 1 (List.map L_S_frac_Frac ([] : List (List M_frac_Frac)))), (3, .own 100)]) (fun t15 => [(100, .sl 43 1 (List.map L_S_frac_Frac t15))]) (eR [(100, 100)]) ?_ ?_
 · intro hj16 s17
   refine z [5, 2, 30, 30, 39, 46, 1] ?_
   refine c ?_ ?_
   · refine z [9, 4, 5, 7, 6, 30, 30, 30] ?_
     refine b fun y18 h19 => ?_
     refine z [43, 42] ?_
     refine cb (ca c_retrospectlaw11_To) fun r20 => ?_
     refine so (bsl (y := 101) (ls := List.map L_S_frac_Frac ([r20] : List (List M_frac_Frac))) Tryz.underlying44 ti_43.h rfl rfl rfl rfl rfl ⟨rfl, rfl, (by exact rfl), (by exact rfl), trivial⟩ rfl rfl) ?_
     refine b fun y22 h23 => ?_
     refine o (app' 102) ?_
     refine z [31, 3, 11, 4, 6, 30, 40, 31, 3] ?_
     exact sgo (eR [(100, 102)])
   refine z [14, 15] ?_
   exact su (sj (hj16 _) (eR [(100, 100)]))
 intro t15
 refine z [13, 4, 2, 30, 31, 1, 8] ?_
 refine fz 100 [2, 3, 19] [] ?_
 exact rt []
theorem c_retrospectlaw30_To {n : Nat} {x0} : ∀ r, m_retrospectlaw30_To n x0 = some r → FnOk Tryz.prog 29 [L_retrospectref30_Scheme x0] [] (L_scheme_Scheme r) [] := by
 unfold m_retrospectlaw30_To
 refine fs Tryz.func29 fun w S0 γ hγ => ?_
 refine z [2] ?_
 refine o (bx' 100) ?_
 refine o (al' 101) ?_
 refine z [1, 5] ?_
 refine b fun r1 h2 => ?_
 refine b fun r3 h4 => ?_
 refine b fun r5 h6 => ?_
 refine b fun r7 h8 => ?_
 refine sd ?_
 refine zd [[100], [100], [100], [100]] ?_
 refine dd [] (fun _ _ _ _ => c0 (c_retrospectlaw11_To _ h2)) ?_
 refine zd [[100], [100]] ?_
 refine dd [] (fun _ _ _ _ => c0 (c_retrospectlaw12_To _ h4)) ?_
 refine zd [[100], [100]] ?_
 refine dd [] (fun _ _ _ _ => c0 (c_retrospectlaw11_To _ h6)) ?_
 refine zd [[100], [100]] ?_
 refine dd [] (fun _ _ _ _ => c0 (c_retrospectlaw11_To _ h8)) ?_
 refine dx [4, 7, 10, 13, 16] [] (fun st mm ⟨a4, a7, a10, a13, a16, _⟩ _ => og (bld (l := [str x0.Name, sli 3 (List.map L_frac_Frac r1), sli 1 (List.map L_S_frac_Frac r3), sli 3 (List.map L_frac_Frac r5), sli 3 (List.map L_frac_Frac r7)]) pl_46.h ti_46.h zr_scheme_Scheme ⟨_, _, _, (a4.trans rfl), rfl, rfl, rfl, (szk (k := 1) rfl rfl), ⟨_, _, _, (a7.trans rfl), rfl, rfl, rfl, (szk (k := 1) rfl rfl), ⟨_, _, _, (a10.trans rfl), rfl, rfl, rfl, (szk (k := 1) rfl rfl), ⟨_, _, _, (a13.trans rfl), rfl, rfl, rfl, (szk (k := 1) rfl rfl), ⟨_, _, _, (a16.trans rfl), rfl, rfl, rfl, (szk (k := 1) rfl rfl), rfl⟩⟩⟩⟩⟩ rfl)) ?_
 refine zd [[101]] ?_
 refine de fol ?_
 refine z [4, 8] ?_
 exact rt []
theorem c_retrospectlaw33_To {n : Nat} {x0} : ∀ r, m_retrospectlaw33_To n x0 = some r → FnOk Tryz.prog 8 [L_retrospectref33_Problem x0] [] (L_step_Problem r) [] := by
 unfold m_retrospectlaw33_To
 refine fs Tryz.func8 fun w S0 γ hγ => ?_
 refine z [2] ?_
 refine o (bx' 100) ?_
 refine o (al' 101) ?_
 refine z [1, 5] ?_
 refine b fun r1 h2 => ?_
 refine b fun r3 h4 => ?_
 refine b fun r5 h6 => ?_
 refine sd ?_
 refine zd [[100], [100]] ?_
 refine dd [] (fun _ _ _ _ => c0 (c_retrospectlaw24_To _ h2)) ?_
 refine zd [[100], [100]] ?_
 refine dd [] (fun _ _ _ _ => c0 (c_retrospectlaw30_To _ h4)) ?_
 refine zd [[100], [100]] ?_
 refine dd [] (fun _ _ _ _ => c0 (c_retrospectlaw11_To _ h6)) ?_
 refine zd [[100], [100]] ?_
 refine dx [5, 8, 11, 13] [] (fun st mm ⟨a5, a8, a11, a13, _⟩ _ => og (bld (l := [L_tape_Tape r1, L_scheme_Scheme r3, sli 3 (List.map L_frac_Frac r5), i64 x0.Bits]) pl_48.h ti_48.h zr_step_Problem ⟨_, _, _, (a5.trans rfl), rfl, rfl, rfl, (szk (k := 4) rfl rfl), ⟨_, _, _, (a8.trans rfl), rfl, rfl, rfl, (szk (k := 5) rfl rfl), ⟨_, _, _, (a11.trans rfl), rfl, rfl, rfl, (szk (k := 1) rfl rfl), ⟨_, _, _, (a13.trans rfl), rfl, rfl, rfl, (szk (k := 1) rfl rfl), rfl⟩⟩⟩⟩ rfl)) ?_
 refine zd [[101]] ?_
 refine de fol ?_
 refine z [4, 8] ?_
 exact rt []
theorem c_row_Same {n : Nat} {x0} {x1} : ∀ r, m_row_Same n x0 x1 = some r → FnOk Tryz.prog 13 [sli 3 (List.map L_frac_Frac x0), sli 3 (List.map L_frac_Frac x1)] [] (bl r) [] := by
 unfold m_row_Same
 refine fs Tryz.func13 fun w S0 γ hγ => ?_
 refine z [2, 31, 1, 5, 2, 30, 39, 30, 39, 56, 1] ?_
 refine c ?_ ?_
 · refine z [2, 31, 1, 8, 10] ?_
   exact rt []
 refine z [9, 4, 5, 2, 30, 39, 30, 1, 7] ?_
 refine srN (fun s10 => [(0, sli 3 (List.map L_frac_Frac x0)), (1, sli 3 (List.map L_frac_Frac x1)), (4, bl false)]) (fun s10 => []) (rE eI) ?_ ?_
 · intro i11 x12 s10 hx13
   refine z [7, 2, 30, 31, 1, 5] ?_
   refine b fun y14 h15 => ?_
   refine b fun r16 h17 => ?_
   refine sd ?_
   refine zd [[], [], [], [], [], [], [], []] ?_
   refine dd [] (fun _ _ _ _ => c0 (c_frac_Same _ h17)) ?_
   refine zd [[]] ?_
   refine de fol ?_
   refine z [4] ?_
   refine c ?_ ?_
   · refine z [2, 31, 1, 8, 12] ?_
     refine sU ?_
     refine z [12, 10] ?_
     exact rt []
   refine z [9, 11] ?_
   exact sgo eI
 intro s18
 refine z [13, 4, 2, 31, 1, 8] ?_
 exact rt []
theorem c_frac_Abs {n : Nat} {x0} : ∀ r, m_frac_Abs n x0 = some r → FnOk Tryz.prog 38 [L_frac_Frac x0] [] (L_frac_Frac r) [] := by
 unfold m_frac_Abs
 refine fs Tryz.func38 fun w S0 γ hγ => ?_
 refine z [2] ?_
 refine o (bx' 100) ?_
 refine o (al' 101) ?_
 refine z [1, 2, 32] ?_
 refine cb (ca c_frac_Norm) fun r1 => ?_
 refine o (al' 102) ?_
 refine z [34, 1, 2, 33, 45] ?_
 refine o (stP (L_frac_Frac (⟨(⟨false, r1.Num.Abs⟩ : M_whole_Whole), r1.Den⟩ : M_frac_Frac)) [0, 0]) ?_
 refine z [1, 2, 32, 34, 1, 8] ?_
 exact rt []
theorem c_frac_Max {n : Nat} {x0} : ∀ r, m_frac_Max n x0 = some r → FnOk Tryz.prog 37 [sli 3 (List.map L_frac_Frac x0)] [] (L_frac_Frac r) [] := by
 unfold m_frac_Max
 refine fs Tryz.func37 fun w S0 γ hγ => ?_
 refine z [2] ?_
 refine o (al' 100) ?_
 refine z [1, 2] ?_
 refine cb (ca c_frac_Of) fun r1 => ?_
 refine o (al' 101) ?_
 refine z [34, 1, 5, 2, 30, 39, 30, 1, 7] ?_
 refine srN (fun s30 => [(2, .own 100), (3, .own 101), (7, sli 3 (List.map L_frac_Frac x0))]) (fun s30 => [(100, .bx 54 (L_frac_Frac (⟨(⟨false, []⟩ : M_whole_Whole), []⟩ : M_frac_Frac))), (101, .bx 54 (L_frac_Frac s30))]) (rE (eR [(100, 100), (101, 101)])) ?_ ?_
 · intro i31 x32 s30 hx33
   refine z [7, 2, 30, 43, 42] ?_
   refine o (al' 102) ?_
   refine z [31, 34, 1] ?_
   refine sjq (fun s38 => [(2, .own 100), (3, .own 101), (5, .own 102), (7, sli 3 (List.map L_frac_Frac x0)), (8, i64 (x0.length : Int)), (9, i64 (i31 : Int)), (21, bl s38)]) (fun s38 => [(100, .bx 54 (L_frac_Frac (⟨(⟨false, []⟩ : M_whole_Whole), []⟩ : M_frac_Frac))), (101, .bx 54 (L_frac_Frac s30)), (102, .bx 54 (L_frac_Frac x32))]) ?_ ?_
   · intro j36 hj37
     refine z [6, 30, 41, 30] ?_
     refine sifd 16 rfl ?_ ?_
     · refine z [23, 23, 23, 23, 38, 1] ?_
       exact sj (hj37 _) (eR [(100, 100), (101, 101), (102, 102)])
     refine z [22, 22] ?_
     refine b fun r39 h40 => ?_
     refine og' (c0 (c_frac_Cmp _ h40)) ?_
     refine z [22, 37, 1] ?_
     exact sj (hj37 _) (eR [(100, 100), (101, 101), (102, 102)])
   intro s38
   refine c ?_ ?_
   · refine z [6, 32] ?_
     refine cb (ca c_frac_Norm) fun r41 => ?_
     refine z [34, 3, 11] ?_
     exact sgo (eR [(100, 100), (101, 101)])
   refine z [9, 11] ?_
   exact sgo (eR [(100, 100), (101, 101)])
 intro s43
 refine z [13, 4, 2, 32, 34, 1, 8] ?_
 exact rt []
theorem c_row_Norm {n : Nat} {x0} : ∀ r, m_row_Norm n x0 = some r → FnOk Tryz.prog 15 [sli 3 (List.map L_frac_Frac x0)] [] (L_frac_Frac r) [] := by
 unfold m_row_Norm
 refine fs Tryz.func15 fun w S0 γ hγ => ?_
 refine z [2] ?_
 refine o (al' 100) ?_
 refine z [1, 2] ?_
 refine cb (ca c_frac_Of) fun r1 => ?_
 refine o (al' 101) ?_
 refine z [34, 1, 5, 2, 30, 39, 30, 1, 7] ?_
 refine srN (fun s22 => [(2, .own 100), (3, .own 101), (7, sli 3 (List.map L_frac_Frac x0))]) (fun s22 => [(100, .bx 54 (L_frac_Frac (⟨(⟨false, []⟩ : M_whole_Whole), []⟩ : M_frac_Frac))), (101, .bx 54 (L_frac_Frac s22))]) (rE (eR [(100, 100), (101, 101)])) ?_ ?_
 · intro i23 x24 s22 hx25
   refine z [7, 2, 43, 42] ?_
   refine o (al' 102) ?_
   refine z [34, 1] ?_
   refine b fun r26 h27 => ?_
   refine b fun r28 h29 => ?_
   refine sd ?_
   refine zd [[101], [102]] ?_
   refine dd [] (fun _ _ _ _ => c0 (c_frac_Abs _ h27)) ?_
   refine dx [13, 15] [103] (fun st mm ⟨a13, a15, _⟩ ⟨g103, _⟩ => og (toV (bsl (y := 103) (ls := List.map L_frac_Frac ([s22, r26] : List M_frac_Frac)) Tryz.underlying43 ti_54.h rfl rfl rfl rfl rfl ⟨rfl, (a13.trans rfl), (by exact rfl), (by exact rfl), rfl, (a15.trans rfl), (by exact rfl), (by exact rfl), trivial⟩ (g103.trans rfl) rfl) (ifs_map (f := L_frac_Frac) (fun _ => if_L_frac_Frac) ([s22, r26] : List M_frac_Frac)))) ?_
   refine dd [] (fun _ _ _ _ => c0 (c_frac_Max _ h29)) ?_
   refine zd [[101]] ?_
   refine de fol ?_
   refine z [11] ?_
   exact sgo (eR [(100, 100), (101, 101)])
 intro s30
 refine z [13, 4, 2, 32, 34, 1, 8] ?_
 exact rt []
theorem c_step_Slopes {n : Nat} {x0} {x1} {x2} : ∀ r, m_step_Slopes n x0 x1 x2 = some r → FnOk Tryz.prog 16 [L_step_Problem x0, L_frac_Frac x1, sli 3 (List.map L_frac_Frac x2)] [] (.tup [sli 3 (List.map L_frac_Frac r.1), L_api_Fault r.2]) [] := by
 unfold m_step_Slopes
 refine fs Tryz.func16 fun w S0 γ hγ => ?_
 refine z [2] ?_
 refine o (bx' 100) ?_
 refine o (bx' 101) ?_
 refine s1 (asg rfl (kLm (k := 3) L_frac_Frac)) ?_
 refine o (al' 102) ?_
 refine z [1, 5, 2, 32] ?_
 refine cb (ca c_step_Right) fun r1 => ?_
 refine z [44, 1] ?_
 refine c ?_ ?_
 · refine z [2] ?_
   refine s1 (bld (l := [i64 (2 : Int), i64 0, i64 0, i64 0]) pl_59.h ti_59.h zr_api_Fault ⟨_, _, _, (kI (x := 2) rfl), rfl, rfl, rfl, (szk (k := 1) rfl rfl), rfl⟩ rfl) ?_
   refine s1 (asg rfl (kLm (k := 3) L_frac_Frac)) ?_
   refine z [34, 1, 8, 10] ?_
   exact rt []
 refine z [9, 4, 5] ?_
 refine b fun r3 h4 => ?_
 refine b fun r5 h6 => ?_
 refine sd ?_
 refine zd [[100], [100], [100], [101], []] ?_
 refine dd [] (fun _ _ _ _ => c0 (c_step_at _ h4)) ?_
 refine zd [[100], [100]] ?_
 refine dd [] (fun _ _ _ _ => c0 (c_run_Field _ h6)) ?_
 refine zd [[], [], [], [102]] ?_
 refine de fol ?_
 refine z [4, 8] ?_
 exact rt []
theorem c_retrospectlaw33_StepStands {n : Nat} {x0} {x1} : ∀ r, m_retrospectlaw33_StepStands n x0 x1 = some r → FnOk Tryz.prog 3 [L_retrospectref33_Problem x0, L_retrospectlaw33_From x1] [] (bl r) [] := by
 unfold m_retrospectlaw33_StepStands
 refine fs Tryz.func3 fun w S0 γ hγ => ?_
 refine z [2] ?_
 refine o (bx' 100) ?_
 refine o (bx' 101) ?_
 refine z [31, 1, 5] ?_
 refine sjq (fun s7 => [(2, .own 100), (3, .own 101), (4, bl false), (19, bl s7)]) (fun s7 => [(100, .bx 31 (L_retrospectref33_Problem x0)), (101, .bx 36 (L_retrospectlaw33_From x1))]) ?_ ?_
 · intro j5 hj6
   refine z [6, 32] ?_
   refine cb (ca c_retrospectref33_Long) fun r8 => ?_
   refine z [30] ?_
   refine sifd 16 rfl ?_ ?_
   · refine z [23, 23, 38, 1] ?_
     exact sj (hj6 _) (eR [(100, 100), (101, 101)])
   refine z [22] ?_
   refine b fun r10 h11 => ?_
   refine og' (c0 (c_retrospectlaw33_Long _ h11)) ?_
   refine z [37, 1] ?_
   exact sj (hj6 _) (eR [(100, 100), (101, 101)])
 intro s7
 refine c ?_ ?_
 · refine z [2] ?_
   refine cb (ca c_retrospectlaw33_works) fun r12 => ?_
   refine z [31, 1, 8, 10] ?_
   exact rt []
 refine z [9, 4, 2, 32] ?_
 refine cb (ca c_retrospectlaw33_To) fun r14 => ?_
 refine o (al' 102) ?_
 refine z [34, 1, 2, 33] ?_
 refine o (stP (L_step_Problem (⟨r14.Tape, r14.Scheme, r14.P, (1500 : Int)⟩ : M_step_Problem)) [3]) ?_
 refine z [1, 2, 33, 36] ?_
 refine cb (ca c_retrospectlaw11_To) fun r16 => ?_
 refine z [31, 1, 2, 33, 36] ?_
 refine cb (ca c_retrospectlaw09_To) fun r18 => ?_
 refine o (al' 103) ?_
 refine z [34, 1, 5] ?_
 refine b fun r20 h21 => ?_
 refine b fun r22 h23 => ?_
 refine sd ?_
 refine zd [[102], [103], [101], [101]] ?_
 refine dd [] (fun _ _ _ _ => c0 (c_retrospectlaw09_To _ h21)) ?_
 refine zd [[]] ?_
 refine dd [] (fun _ _ _ _ => c0 (c_step_Do _ h23)) ?_
 refine zd [[], [], []] ?_
 refine dd [104] (fun _ _ _ _ => al' 104) ?_
 refine dd [105] (fun _ _ _ _ => al' 105) ?_
 refine zd [[104], [105]] ?_
 refine de fol ?_
 refine z [4, 5] ?_
 refine b fun r24 h25 => ?_
 refine b fun r26 h27 => ?_
 refine sd ?_
 refine zd [[102], [103]] ?_
 refine dd [] (fun _ _ _ _ => c0 (c_frac_Of _ h25)) ?_
 refine zd [[]] ?_
 refine dd [] (fun _ _ _ _ => c0 (c_step_Do _ h27)) ?_
 refine zd [[], [], []] ?_
 refine dd [106] (fun _ _ _ _ => al' 106) ?_
 refine dd [107] (fun _ _ _ _ => al' 107) ?_
 refine zd [[106], [107]] ?_
 refine de fol ?_
 refine z [4] ?_
 refine sjq (fun s45 => [(2, .own 100), (4, bl false), (5, .own 102), (6, sli 3 (List.map L_frac_Frac r16)), (7, .own 103), (8, .own 104), (9, .own 105)]) (fun s45 => [(100, .bx 31 (L_retrospectref33_Problem x0)), (102, .bx 48 (L_step_Problem (⟨r14.Tape, r14.Scheme, r14.P, (1500 : Int)⟩ : M_step_Problem))), (103, .bx 54 (L_frac_Frac r18)), (104, .bx 57 (L_step_Made r22.1)), (105, .bx 59 (L_api_Fault r22.2))]) ?_ ?_
 · intro j43 hj44
   refine z [2, 32] ?_
   refine s1 (bld (l := [i64 0, i64 0, i64 0, i64 0]) pl_59.h ti_59.h zr_api_Fault rfl rfl) ?_
   refine s1 (eqA (p := (r26.2 : M_api_Fault)) (q := ((⟨0, 0, 0, 0⟩ : M_api_Fault) : M_api_Fault)) eq_59_2 rfl eg_59 rfl rfl rfl) ?_
   refine z [1] ?_
   refine c ?_ ?_
   · refine sjq (fun s54 => [(2, .own 100), (4, bl false), (5, .own 102), (6, sli 3 (List.map L_frac_Frac r16)), (7, .own 103), (8, .own 104), (9, .own 105), (62, bl s54)]) (fun s54 => [(100, .bx 31 (L_retrospectref33_Problem x0)), (102, .bx 48 (L_step_Problem (⟨r14.Tape, r14.Scheme, r14.P, (1500 : Int)⟩ : M_step_Problem))), (103, .bx 54 (L_frac_Frac r18)), (104, .bx 57 (L_step_Made r22.1)), (105, .bx 59 (L_api_Fault r22.2))]) ?_ ?_
     · intro j52 hj53
       refine z [6, 33, 36, 30] ?_
       refine cb (ca c_row_Same) fun r55 => ?_
       refine z [44, 30] ?_
       refine sifd 56 rfl ?_ ?_
       · refine z [23, 23, 23, 23, 23, 38, 1] ?_
         exact sj (hj53 _) (eR [(100, 100), (102, 102), (103, 103), (104, 104), (105, 105)])
       refine z [22, 22] ?_
       refine b fun r57 h58 => ?_
       refine og' (c0 (c_row_Norm _ h58)) ?_
       refine b fun r59 h60 => ?_
       refine og' (c0 (c_frac_Sign _ h60)) ?_
       refine z [22, 37, 1] ?_
       exact sj (hj53 _) (eR [(100, 100), (102, 102), (103, 103), (104, 104), (105, 105)])
     intro s54
     refine c ?_ ?_
     · refine z [2, 31, 1, 8, 10] ?_
       exact rt []
     refine z [9, 4] ?_
     exact sj (hj44 _) (eR [(100, 100), (102, 102), (103, 103), (104, 104), (105, 105)])
   refine z [9, 4] ?_
   exact sj (hj44 _) (eR [(100, 100), (102, 102), (103, 103), (104, 104), (105, 105)])
 intro s45
 refine z [5, 2, 32] ?_
 refine s1 (bld (l := [i64 0, i64 0, i64 0, i64 0]) pl_59.h ti_59.h zr_api_Fault rfl rfl) ?_
 refine s1 (neA (p := (r22.2 : M_api_Fault)) (q := ((⟨0, 0, 0, 0⟩ : M_api_Fault) : M_api_Fault)) eq_59_2 rfl eg_59 rfl rfl rfl) ?_
 refine z [1] ?_
 refine c ?_ ?_
 · refine z [2] ?_
   refine cb (ca c_retrospectlaw33_works) fun r61 => ?_
   refine z [31, 1, 8, 10] ?_
   exact rt []
 refine z [9, 4, 2, 32, 32, 30] ?_
 refine cb (ca c_step_Slopes) fun r63 => ?_
 refine z [30, 35, 35] ?_
 refine o (al' 108) ?_
 refine z [31, 34, 1] ?_
 refine sjq (fun s77 => [(4, bl s77)]) (fun s77 => []) ?_ ?_
 · intro j75 hj76
   refine z [6, 32] ?_
   refine s1 (bld (l := [i64 0, i64 0, i64 0, i64 0]) pl_59.h ti_59.h zr_api_Fault rfl rfl) ?_
   refine s1 (eqA (p := (r63.2 : M_api_Fault)) (q := ((⟨0, 0, 0, 0⟩ : M_api_Fault) : M_api_Fault)) eq_59_2 rfl eg_59 rfl rfl rfl) ?_
   refine z [30] ?_
   refine sifd 77 rfl ?_ ?_
   · refine z [22, 22, 22, 22, 22, 22, 22, 22, 38, 30] ?_
     refine sifd 87 rfl ?_ ?_
     · refine z [22, 22, 22, 22, 22, 22, 22, 38, 30] ?_
       refine sifd 96 rfl ?_ ?_
       · refine z [22, 22, 22, 22, 38, 30] ?_
         refine sifd 102 rfl ?_ ?_
         · refine z [22, 22] ?_
           refine b fun y78 h79 => ?_
           refine z [22, 22, 22] ?_
           refine b fun r80 h81 => ?_
           refine og' (c0 (c_row_Same _ h81)) ?_
           refine z [38, 30] ?_
           refine sifd 110 rfl ?_ ?_
           · refine z [22, 22] ?_
             refine b fun y82 h83 => ?_
             refine z [22, 22, 22] ?_
             refine b fun r84 h85 => ?_
             refine og' (c0 (c_row_Same _ h85)) ?_
             refine z [38, 30] ?_
             refine sifd 118 rfl ?_ ?_
             · refine b fun r86 h87 => ?_
               refine og' (c0 (c_retrospectlaw33_works _ h87)) ?_
               refine z [38, 31, 1] ?_
               exact sj (hj76 _) (eR [])
             refine z [23, 37, 31, 1] ?_
             exact sj (hj76 _) (eR [])
           refine z [23, 23, 23, 23, 23, 23, 37, 30, 23, 37, 31, 1] ?_
           exact sj (hj76 _) (eR [])
         refine z [23, 23, 23, 23, 23, 23, 37, 30, 23, 23, 23, 23, 23, 23, 37, 30, 23, 37, 31, 1] ?_
         exact sj (hj76 _) (eR [])
       refine z [23, 23, 23, 23, 37, 30, 23, 23, 23, 23, 23, 23, 37, 30, 23, 23, 23, 23, 23, 23, 37, 30, 23, 37, 31, 1] ?_
       exact sj (hj76 _) (eR [])
     refine z [23, 23, 23, 23, 23, 23, 23, 37, 30, 23, 23, 23, 23, 37, 30, 23, 23, 23, 23, 23, 23, 37, 30, 23, 23, 23, 23, 23, 23, 37, 30, 23, 37, 31, 1] ?_
     exact sj (hj76 _) (eR [])
   refine z [23, 23, 23, 23, 23, 23, 23, 23, 37, 30, 23, 23, 23, 23, 23, 23, 23, 37, 30, 23, 23, 23, 23, 37, 30, 23, 23, 23, 23, 23, 23, 37, 30, 23, 23, 23, 23, 23, 23, 37, 30, 23, 37, 31, 1] ?_
   exact sj (hj76 _) (eR [])
 intro s77
 refine z [8] ?_
 exact rt []
theorem c_march_may {n : Nat} {x0} : ∀ r, m_march_may n x0 = some r → FnOk Tryz.prog 41 [sli 3 (List.map L_frac_Frac x0)] [] (bl r) [] := by
 unfold m_march_may
 refine fs Tryz.func41 fun w S0 γ hγ => ?_
 refine z [2, 31, 1, 5, 2, 30, 39, 30, 1, 7] ?_
 refine srN (fun s8 => [(0, sli 3 (List.map L_frac_Frac x0)), (2, bl false), (5, sli 3 (List.map L_frac_Frac x0))]) (fun s8 => []) (rE eI) ?_ ?_
 · intro i9 x10 s8 hx11
   refine z [7, 2, 43, 42] ?_
   refine o (al' 100) ?_
   refine z [34, 1, 2, 32] ?_
   refine cb (ca c_frac_Sign) fun r12 => ?_
   refine z [58, 1] ?_
   refine c ?_ ?_
   · refine z [2, 31, 1, 8, 12] ?_
     refine sU ?_
     refine z [12, 10] ?_
     exact rt []
   refine z [9, 11] ?_
   exact sgo (eR [])
 intro s14
 refine z [13, 4, 2, 30, 39, 58, 31, 1, 8] ?_
 exact rt []
theorem c_march_Fixed {n : Nat} {x0} {x1} {x2} {x3} : ∀ r, m_march_Fixed n x0 x1 x2 x3 = some r → FnOk Tryz.prog 19 [L_step_Problem x0, L_frac_Frac x1, sli 3 (List.map L_frac_Frac x2), sli 3 (List.map L_frac_Frac x3)] [] (.tup [L_past_History r.1, L_api_Fault r.2]) [] := by
 unfold m_march_Fixed
 refine fs Tryz.func19 fun w S0 γ hγ => ?_
 refine z [2] ?_
 refine o (bx' 100) ?_
 refine o (bx' 101) ?_
 refine o (al' 102) ?_
 refine o (al' 103) ?_
 refine z [1, 5] ?_
 refine sjq (fun s7 => [(2, sli 3 (List.map L_frac_Frac x2)), (3, sli 3 (List.map L_frac_Frac x3)), (4, .own 100), (5, .own 101), (8, .own 102), (9, .own 103), (30, bl s7)]) (fun s7 => [(100, .bx 48 (L_step_Problem x0)), (101, .bx 54 (L_frac_Frac x1)), (102, .bx 72 (L_past_History (⟨[], (⟨(⟨false, []⟩ : M_whole_Whole), []⟩ : M_frac_Frac), []⟩ : M_past_History))), (103, .bx 59 (L_api_Fault (⟨0, 0, 0, 0⟩ : M_api_Fault)))]) ?_ ?_
 · intro j5 hj6
   refine z [6, 32] ?_
   refine cb (ca c_step_Right) fun r8 => ?_
   refine z [44, 30] ?_
   refine sifd 18 rfl ?_ ?_
   · refine z [23, 23, 23, 23, 23, 23, 38, 30, 23, 23, 23, 38, 1] ?_
     exact sj (hj6 _) (eR [(100, 100), (101, 101), (102, 102), (103, 103)])
   refine z [22, 22, 22, 22, 22, 22, 37, 30] ?_
   refine sifd 26 rfl ?_ ?_
   · refine z [23, 23, 23, 38, 1] ?_
     exact sj (hj6 _) (eR [(100, 100), (101, 101), (102, 102), (103, 103)])
   refine z [22] ?_
   refine b fun r10 h11 => ?_
   refine og' (c0 (c_march_may _ h11)) ?_
   refine z [22, 37, 1] ?_
   exact sj (hj6 _) (eR [(100, 100), (101, 101), (102, 102), (103, 103)])
 intro s7
 refine c ?_ ?_
 · refine z [2] ?_
   refine s1 (bld (l := [sli 14 (List.map L_past_Try []), L_frac_Frac (⟨(⟨false, []⟩ : M_whole_Whole), []⟩ : M_frac_Frac), sli 3 (List.map L_frac_Frac [])]) pl_72.h ti_72.h zr_past_History rfl rfl) ?_
   refine s1 (bld (l := [i64 (2 : Int), i64 0, i64 0, i64 0]) pl_59.h ti_59.h zr_api_Fault ⟨_, _, _, (kI (x := 2) rfl), rfl, rfl, rfl, (szk (k := 1) rfl rfl), rfl⟩ rfl) ?_
   refine z [34, 34, 1, 8, 10] ?_
   exact rt []
 refine z [9, 4, 2, 32] ?_
 refine cb (ca c_frac_Norm) fun r12 => ?_
 refine cb (ca c_frac_Of) fun r14 => ?_
 refine z [30] ?_
 refine cb (ca c_row_Scale) fun r16 => ?_
 refine so (bldO (l := [.own 104, L_frac_Frac r12, sli 3 (List.map L_frac_Frac r16)]) [(104, 112, 14)] pl_72.h ti_72.h (zo_agg (zos_cons (c1 := [.slice none 0 0]) (zo_own rfl) (zos_cons (c1 := [.bool false, .slice none 0 0, .slice none 0 0]) (zo_of zr_frac_Frac) (zos_cons (c1 := [.slice none 0 0]) (zo_of (zr_sli (k := 3))) (zos_nil))))) ⟨rfl, trivial⟩ rfl ⟨_, _, _, rfl, rfl, rfl, rfl, (szk (k := 3) rfl rfl), ⟨_, _, _, rfl, rfl, rfl, rfl, (szk (k := 1) rfl rfl), rfl⟩⟩ rfl) ?_
 refine o (al' 105) ?_
 refine z [34, 1, 5, 2, 30, 39, 30, 1, 7] ?_
 refine srN (fun s47 => [(4, .own 100), (8, .own 102), (9, .own 103), (10, .own 105), (39, sli 3 (List.map L_frac_Frac x3))]) (fun s47 => [(100, .bx 48 (L_step_Problem x0)), (102, .bx 72 (L_past_History (⟨[], (⟨(⟨false, []⟩ : M_whole_Whole), []⟩ : M_frac_Frac), []⟩ : M_past_History))), (103, .bx 59 (L_api_Fault (⟨0, 0, 0, 0⟩ : M_api_Fault))), (105, .bx 72 (.agg [.own 104, L_frac_Frac s47.2.1, sli 3 (List.map L_frac_Frac s47.2.2)])), (104, .sl 112 14 (List.map L_past_Try s47.1))]) (rE (eR [(100, 100), (102, 102), (103, 103), (105, 105), (104, 104)])) ?_ ?_
 · intro i48 x49 s47 hx50
   refine z [7, 2, 30, 43, 42] ?_
   refine o (al' 106) ?_
   refine z [31, 34, 1, 2, 32] ?_
   refine cb (ca c_frac_Norm) fun r51 => ?_
   refine z [34, 1, 2, 32, 33, 36, 32, 33, 36] ?_
   refine cb (ca c_step_Do) fun r53 => ?_
   refine z [30, 35, 35] ?_
   refine o (al' 107) ?_
   refine o (al' 108) ?_
   refine z [34, 34, 1, 5, 2, 32] ?_
   refine s1 (bld (l := [i64 0, i64 0, i64 0, i64 0]) pl_59.h ti_59.h zr_api_Fault rfl rfl) ?_
   refine s1 (neA (p := (r53.2 : M_api_Fault)) (q := ((⟨0, 0, 0, 0⟩ : M_api_Fault) : M_api_Fault)) eq_59_2 rfl eg_59 rfl rfl rfl) ?_
   refine z [1] ?_
   refine c ?_ ?_
   · refine z [2, 30, 40, 33] ?_
     refine o (stP (L_api_Fault (⟨r53.2.Kind, wrap64 ((i48 : Int) + (1 : Int)), r53.2.Stage, r53.2.At⟩ : M_api_Fault)) [1]) ?_
     refine z [1, 5] ?_
     refine sd ?_
     refine dx [] [] (fun st mm _ _ => og (bld (l := [sli 14 (List.map L_past_Try []), L_frac_Frac (⟨(⟨false, []⟩ : M_whole_Whole), []⟩ : M_frac_Frac), sli 3 (List.map L_frac_Frac [])]) pl_72.h ti_72.h zr_past_History rfl rfl)) ?_
     refine zd [[108], [102], [103]] ?_
     refine de fol ?_
     refine z [4, 8, 10, 12] ?_
     refine sU ?_
     refine z [12, 10] ?_
     exact rt []
   refine z [9, 4, 5] ?_
   refine b fun r55 h56 => ?_
   refine b fun y57 h58 => ?_
   refine sd ?_
   refine zd [[105], [105], [105], [105], [106], [106], [107], [107]] ?_
   refine dd [] (fun _ _ _ _ => c0 (c_row_Norm _ h56)) ?_
   refine zd [[105], [105]] ?_
   refine dx [69, 70, 71, 74, 76] [] (fun st mm ⟨a69, a70, a71, a74, a76, _⟩ _ => og (bld (l := [L_frac_Frac s47.2.1, L_frac_Frac r51, L_frac_Frac r51, L_frac_Frac r55, sli 3 (List.map L_frac_Frac s47.2.2), bl true]) pl_112.h ti_112.h zr_past_Try ⟨_, _, _, (a69.trans rfl), rfl, rfl, rfl, (szk (k := 3) rfl rfl), ⟨_, _, _, (a70.trans rfl), rfl, rfl, rfl, (szk (k := 3) rfl rfl), ⟨_, _, _, (a71.trans rfl), rfl, rfl, rfl, (szk (k := 3) rfl rfl), ⟨_, _, _, (a74.trans rfl), rfl, rfl, rfl, (szk (k := 3) rfl rfl), ⟨_, _, _, (a76.trans rfl), rfl, rfl, rfl, (szk (k := 1) rfl rfl), ⟨_, _, _, kB, rfl, rfl, rfl, (szk (k := 1) rfl rfl), rfl⟩⟩⟩⟩⟩⟩ rfl)) ?_
   refine dx [77] [109] (fun st mm ⟨a77, _⟩ ⟨g109, _⟩ => og (bsl (y := 109) (ls := List.map L_past_Try ([(⟨s47.2.1, r51, r51, r55, s47.2.2, true⟩ : M_past_Try)] : List M_past_Try)) Tryz.underlying70 ti_112.h rfl rfl rfl rfl rfl ⟨rfl, (a77.trans rfl), (by exact rfl), (by exact rfl), trivial⟩ (g109.trans rfl) rfl)) ?_
   refine dd [104, 109, 110] (fun _ _ _ _ => app' 110) ?_
   refine zd [[105]] ?_
   refine dd [105] (fun _ _ _ _ => stP (.agg [.own 110, L_frac_Frac s47.2.1, sli 3 (List.map L_frac_Frac s47.2.2)]) [0]) ?_
   refine de fol ?_
   refine z [4] ?_
   refine b fun r59 h60 => ?_
   refine sd ?_
   refine zd [[105], [105], [106]] ?_
   refine dd [] (fun _ _ _ _ => c0 (c_frac_Add _ h60)) ?_
   refine zd [[107], [107], [105]] ?_
   refine dd [105] (fun _ _ _ _ => stP (.agg [.own 110, L_frac_Frac r59, sli 3 (List.map L_frac_Frac s47.2.2)]) [1]) ?_
   refine zd [[105]] ?_
   refine dd [105] (fun _ _ _ _ => stP (.agg [.own 110, L_frac_Frac r59, sli 3 (List.map L_frac_Frac r53.1.Next)]) [2]) ?_
   refine de fol ?_
   refine z [11] ?_
   exact sgo (eR [(100, 100), (102, 102), (103, 103), (105, 105), (104, 110)])
 intro s61
 refine z [13, 4, 2, 32] ?_
 refine s1 (bld (l := [i64 0, i64 0, i64 0, i64 0]) pl_59.h ti_59.h zr_api_Fault rfl rfl) ?_
 refine z [34, 34, 1, 8] ?_
 refine fz 104 [90] [102, 105] ?_
 exact rt []
theorem c_retrospectlaw38_works {n : Nat}  : ∀ r, m_retrospectlaw38_works n  = some r → FnOk Tryz.prog 18 [] [] (bl r) [] := by
 unfold m_retrospectlaw38_works
 refine fs Tryz.func18 fun w S0 γ hγ => ?_
 refine z [2, 31, 1, 2] ?_
 refine s1 (bld (l := [i64 (3 : Int), i64 0, i64 0, L_frac_Frac (⟨(⟨false, []⟩ : M_whole_Whole), []⟩ : M_frac_Frac)]) pl_108.h ti_108.h zr_tape_Inst ⟨_, _, _, (kI (x := 3) rfl), rfl, rfl, rfl, (szk (k := 1) rfl rfl), rfl⟩ rfl) ?_
 refine so (bsl (y := 100) (ls := List.map L_tape_Inst ([(⟨(3 : Int), 0, 0, (⟨(⟨false, []⟩ : M_whole_Whole), []⟩ : M_frac_Frac)⟩ : M_tape_Inst)] : List M_tape_Inst)) Tryz.underlying40 ti_108.h rfl rfl rfl rfl rfl ⟨rfl, rfl, (by exact rfl), (by exact rfl), trivial⟩ rfl rfl) ?_
 refine sbm (C := fun x => .sl 108 6 (List.map L_tape_Inst x)) 100 rfl fun z1 => ?_
 refine so (bsl (y := 101) (ls := List.map i64 ([(0 : Int)] : List Int)) Tryz.underlying23 ti_3.h rfl rfl rfl rfl rfl ⟨rfl, (kI (x := 0) rfl), (by exact rfl), (by exact rfl), trivial⟩ rfl rfl) ?_
 refine fz 100 [9] [] ?_
 refine fz 101 [10] [] ?_
 refine s1 (bld (l := [sli 6 (List.map L_tape_Inst z1), sli 1 (List.map i64 ([(0 : Int)] : List Int)), i64 (1 : Int), i64 0]) pl_42.h ti_42.h zr_tape_Tape ⟨_, _, _, rfl, rfl, rfl, rfl, (szk (k := 1) rfl rfl), ⟨_, _, _, rfl, rfl, rfl, rfl, (szk (k := 1) rfl rfl), ⟨_, _, _, (kI (x := 1) rfl), rfl, rfl, rfl, (szk (k := 1) rfl rfl), rfl⟩⟩⟩ rfl) ?_
 refine o (al' 102) ?_
 refine z [34, 1, 2] ?_
 refine cb (ca c_stock_Get) fun r2 => ?_
 refine z [30, 35, 35] ?_
 refine o (al' 103) ?_
 refine z [34, 31, 1, 2] ?_
 refine cb (ca c_frac_Ratio) fun r4 => ?_
 refine z [30, 35, 35] ?_
 refine o (al' 104) ?_
 refine z [34, 31, 1, 5] ?_
 refine b fun r14 h15 => ?_
 refine b fun r16 h17 => ?_
 refine b fun r18 h19 => ?_
 refine sd ?_
 refine zd [[102], [103]] ?_
 refine dx [21, 22] [] (fun st mm ⟨a21, a22, _⟩ _ => og (bld (l := [L_tape_Tape (⟨z1, ([(0 : Int)] : List Int), (1 : Int), 0⟩ : M_tape_Tape), L_scheme_Scheme r2.1, sli 3 (List.map L_frac_Frac []), i64 (100 : Int)]) pl_48.h ti_48.h zr_step_Problem ⟨_, _, _, (a21.trans rfl), rfl, rfl, rfl, (szk (k := 4) rfl rfl), ⟨_, _, _, (a22.trans rfl), rfl, rfl, rfl, (szk (k := 5) rfl rfl), ⟨_, _, _, (kI (x := 100) rfl), rfl, rfl, rfl, (szk (k := 1) rfl rfl), rfl⟩⟩⟩ rfl)) ?_
 refine dd [] (fun _ _ _ _ => c0 (c_frac_Of _ h15)) ?_
 refine dd [] (fun _ _ _ _ => c0 (c_frac_Of _ h17)) ?_
 refine dx [25] [105] (fun st mm ⟨a25, _⟩ ⟨g105, _⟩ => og (toV (bsl (y := 105) (ls := List.map L_frac_Frac ([r16] : List M_frac_Frac)) Tryz.underlying43 ti_54.h rfl rfl rfl rfl rfl ⟨rfl, (a25.trans rfl), (by exact rfl), (by exact rfl), trivial⟩ (g105.trans rfl) rfl) (ifs_map (f := L_frac_Frac) (fun _ => if_L_frac_Frac) ([r16] : List M_frac_Frac)))) ?_
 refine zd [[104], [104]] ?_
 refine dx [27, 28] [106] (fun st mm ⟨a27, a28, _⟩ ⟨g106, _⟩ => og (toV (bsl (y := 106) (ls := List.map L_frac_Frac ([r4.1, r4.1] : List M_frac_Frac)) Tryz.underlying43 ti_54.h rfl rfl rfl rfl rfl ⟨rfl, (a27.trans rfl), (by exact rfl), (by exact rfl), rfl, (a28.trans rfl), (by exact rfl), (by exact rfl), trivial⟩ (g106.trans rfl) rfl) (ifs_map (f := L_frac_Frac) (fun _ => if_L_frac_Frac) ([r4.1, r4.1] : List M_frac_Frac)))) ?_
 refine dd [] (fun _ _ _ _ => c0 (c_march_Fixed _ h19)) ?_
 refine zd [[], [], []] ?_
 refine dd [107] (fun _ _ _ _ => al' 107) ?_
 refine dd [108] (fun _ _ _ _ => al' 108) ?_
 refine zd [[107], [108]] ?_
 refine de fol ?_
 refine z [4] ?_
 refine sjq (fun s32 => [(0, bl s32)]) (fun s32 => []) ?_ ?_
 · intro j30 hj31
   refine sif (fun hb33 => ?_) (fun hb33 => ?_)
   · refine sif (fun hb34 => ?_) (fun hb34 => ?_)
     · refine sif (fun hb35 => ?_) (fun hb35 => ?_)
       · refine b fun r36 h37 => ?_
         refine b fun r38 h39 => ?_
         refine sif (fun hb40 => ?_) (fun hb40 => ?_)
         · refine b fun r41 h42 => ?_
           refine sd ?_
           refine zd [[]] ?_
           refine dd [] (fun _ _ _ _ => obk hb33 ops) ?_
           refine zd [[108]] ?_
           refine dx [34] [] (fun st mm ⟨a34, _⟩ _ => ogG 34 rfl (a34.trans rfl) (bld (l := [i64 0, i64 0, i64 0, i64 0]) pl_59.h ti_59.h zr_api_Fault rfl rfl)) ?_
           refine dx [34, 35, 36] [] (fun st mm ⟨a34, a35, a36, _⟩ _ => ogG 34 rfl (a34.trans rfl) (eqA (p := (r18.2 : M_api_Fault)) (q := ((⟨0, 0, 0, 0⟩ : M_api_Fault) : M_api_Fault)) eq_59_2 rfl eg_59 rfl (a35.trans rfl) (a36.trans rfl))) ?_
           refine zd [[]] ?_
           refine dd [] (fun _ _ _ _ => obk hb34 ops) ?_
           refine zd [[107], [107], [], [], []] ?_
           refine dd [] (fun _ _ _ _ => obk hb35 ops) ?_
           refine zd [[107], [107]] ?_
           refine dG [] (fun _ _ _ _ => c0 (c_frac_Of _ h37)) ?_
           refine dG [] (fun _ _ _ _ => c0 (c_frac_Same _ h39)) ?_
           refine zd [[]] ?_
           refine dd [] (fun _ _ _ _ => obk hb40 ops) ?_
           refine zd [[107], [107]] ?_
           refine dG [] (fun _ _ _ _ => c0 (c_row_Text _ h42)) ?_
           refine zd [[], [], []] ?_
           refine de fol ?_
           refine z [4] ?_
           exact sj (hj31 _) (eR [])
         refine sd ?_
         refine zd [[]] ?_
         refine dd [] (fun _ _ _ _ => obk hb33 ops) ?_
         refine zd [[108]] ?_
         refine dx [34] [] (fun st mm ⟨a34, _⟩ _ => ogG 34 rfl (a34.trans rfl) (bld (l := [i64 0, i64 0, i64 0, i64 0]) pl_59.h ti_59.h zr_api_Fault rfl rfl)) ?_
         refine dx [34, 35, 36] [] (fun st mm ⟨a34, a35, a36, _⟩ _ => ogG 34 rfl (a34.trans rfl) (eqA (p := (r18.2 : M_api_Fault)) (q := ((⟨0, 0, 0, 0⟩ : M_api_Fault) : M_api_Fault)) eq_59_2 rfl eg_59 rfl (a35.trans rfl) (a36.trans rfl))) ?_
         refine zd [[]] ?_
         refine dd [] (fun _ _ _ _ => obk hb34 ops) ?_
         refine zd [[107], [107], [], [], []] ?_
         refine dd [] (fun _ _ _ _ => obk hb35 ops) ?_
         refine zd [[107], [107]] ?_
         refine dG [] (fun _ _ _ _ => c0 (c_frac_Of _ h37)) ?_
         refine dG [] (fun _ _ _ _ => c0 (c_frac_Same _ h39)) ?_
         refine zd [[]] ?_
         refine dd [] (fun _ _ _ _ => obk hb40 ops) ?_
         refine zd [[], [], [], [], [], []] ?_
         refine de fol ?_
         refine z [4] ?_
         exact sj (hj31 _) (eR [])
       refine sd ?_
       refine zd [[]] ?_
       refine dd [] (fun _ _ _ _ => obk hb33 ops) ?_
       refine zd [[108]] ?_
       refine dx [34] [] (fun st mm ⟨a34, _⟩ _ => ogG 34 rfl (a34.trans rfl) (bld (l := [i64 0, i64 0, i64 0, i64 0]) pl_59.h ti_59.h zr_api_Fault rfl rfl)) ?_
       refine dx [34, 35, 36] [] (fun st mm ⟨a34, a35, a36, _⟩ _ => ogG 34 rfl (a34.trans rfl) (eqA (p := (r18.2 : M_api_Fault)) (q := ((⟨0, 0, 0, 0⟩ : M_api_Fault) : M_api_Fault)) eq_59_2 rfl eg_59 rfl (a35.trans rfl) (a36.trans rfl))) ?_
       refine zd [[]] ?_
       refine dd [] (fun _ _ _ _ => obk hb34 ops) ?_
       refine zd [[107], [107], [], [], []] ?_
       refine dd [] (fun _ _ _ _ => obk hb35 ops) ?_
       refine zd [[], [], [], [], [], [], [], [], [], [], [], []] ?_
       refine de fol ?_
       refine z [4] ?_
       exact sj (hj31 _) (eR [])
     refine sd ?_
     refine zd [[]] ?_
     refine dd [] (fun _ _ _ _ => obk hb33 ops) ?_
     refine zd [[108]] ?_
     refine dx [34] [] (fun st mm ⟨a34, _⟩ _ => ogG 34 rfl (a34.trans rfl) (bld (l := [i64 0, i64 0, i64 0, i64 0]) pl_59.h ti_59.h zr_api_Fault rfl rfl)) ?_
     refine dx [34, 35, 36] [] (fun st mm ⟨a34, a35, a36, _⟩ _ => ogG 34 rfl (a34.trans rfl) (eqA (p := (r18.2 : M_api_Fault)) (q := ((⟨0, 0, 0, 0⟩ : M_api_Fault) : M_api_Fault)) eq_59_2 rfl eg_59 rfl (a35.trans rfl) (a36.trans rfl))) ?_
     refine zd [[]] ?_
     refine dd [] (fun _ _ _ _ => obk hb34 ops) ?_
     refine zd [[], [], [], [], [], [], [], [], [], [], [], [], [], [], [], [], [], []] ?_
     refine de fol ?_
     refine z [4] ?_
     exact sj (hj31 _) (eR [])
   refine sd ?_
   refine zd [[]] ?_
   refine dd [] (fun _ _ _ _ => obk hb33 ops) ?_
   refine zd [[], [], [], [], [], [], [], [], [], [], [], [], [], [], [], [], [], [], [], [], [], [], []] ?_
   refine de fol ?_
   refine z [4] ?_
   exact sj (hj31 _) (eR [])
 intro s32
 refine z [8] ?_
 exact rt []
theorem c_retrospectlaw38_MarchOn {n : Nat} {x0} {x1} {x2} {x3} : ∀ r, m_retrospectlaw38_MarchOn n x0 x1 x2 x3 = some r → FnOk Tryz.prog 4 [L_retrospectref33_Problem x0, L_retrospectlaw33_From x1, sli 3 (List.map L_retrospectref09_Frac x2), i64 x3] [] (bl r) [] := by
 unfold m_retrospectlaw38_MarchOn
 refine fs Tryz.func4 fun w S0 γ hγ => ?_
 refine z [2] ?_
 refine o (bx' 100) ?_
 refine o (bx' 101) ?_
 refine z [31, 1, 5] ?_
 refine sjq (fun s9 => [(2, sli 3 (List.map L_retrospectref09_Frac x2)), (3, i64 x3), (4, .own 100), (5, .own 101), (8, bl false), (36, bl s9)]) (fun s9 => [(100, .bx 31 (L_retrospectref33_Problem x0)), (101, .bx 36 (L_retrospectlaw33_From x1))]) ?_ ?_
 · intro j7 hj8
   refine z [6, 32] ?_
   refine cb (ca c_retrospectref33_Long) fun r10 => ?_
   refine z [30] ?_
   refine sifd 19 rfl ?_ ?_
   · refine z [23, 23, 38, 30, 23, 23, 38, 30, 23, 23, 38, 30, 23, 23, 23, 23, 38, 1] ?_
     exact sj (hj8 _) (eR [(100, 100), (101, 101)])
   refine z [22] ?_
   refine b fun r12 h13 => ?_
   refine og' (c0 (c_retrospectlaw33_Long _ h13)) ?_
   refine z [37, 30] ?_
   refine sifd 23 rfl ?_ ?_
   · refine z [23, 23, 38, 30, 23, 23, 38, 30, 23, 23, 23, 23, 38, 1] ?_
     exact sj (hj8 _) (eR [(100, 100), (101, 101)])
   refine z [22] ?_
   refine b fun r14 h15 => ?_
   refine og' (c0 (c_retrospectref11_Long _ h15)) ?_
   refine z [37, 30] ?_
   refine sifd 27 rfl ?_ ?_
   · refine z [23, 23, 38, 30, 23, 23, 23, 23, 38, 1] ?_
     exact sj (hj8 _) (eR [(100, 100), (101, 101)])
   refine z [22, 22, 37, 30] ?_
   refine sifd 31 rfl ?_ ?_
   · refine z [23, 23, 23, 23, 38, 1] ?_
     exact sj (hj8 _) (eR [(100, 100), (101, 101)])
   refine z [22, 22, 22, 22, 37, 1] ?_
   exact sj (hj8 _) (eR [(100, 100), (101, 101)])
 intro s9
 refine c ?_ ?_
 · refine z [2] ?_
   refine cb (ca c_retrospectlaw38_works) fun r16 => ?_
   refine z [31, 1, 8, 10] ?_
   exact rt []
 refine z [9, 4, 2, 32] ?_
 refine cb (ca c_retrospectlaw33_To) fun r18 => ?_
 refine o (al' 102) ?_
 refine z [34, 1, 2, 33] ?_
 refine o (stP (L_step_Problem (⟨r18.Tape, r18.Scheme, r18.P, (1500 : Int)⟩ : M_step_Problem)) [3]) ?_
 refine z [1, 2, 30] ?_
 refine cb (ca c_retrospectlaw11_To) fun r20 => ?_
 refine z [31, 1, 5] ?_
 refine b fun r22 h23 => ?_
 refine b fun r24 h25 => ?_
 refine b fun r26 h27 => ?_
 refine sd ?_
 refine zd [[102], [101], [101]] ?_
 refine dd [] (fun _ _ _ _ => c0 (c_retrospectlaw09_To _ h23)) ?_
 refine zd [[101], [101]] ?_
 refine dd [] (fun _ _ _ _ => c0 (c_retrospectlaw11_To _ h25)) ?_
 refine zd [[]] ?_
 refine dd [] (fun _ _ _ _ => c0 (c_march_Fixed _ h27)) ?_
 refine zd [[], [], []] ?_
 refine dd [103] (fun _ _ _ _ => al' 103) ?_
 refine dd [104] (fun _ _ _ _ => al' 104) ?_
 refine zd [[103], [104]] ?_
 refine de fol ?_
 refine z [4, 5] ?_
 refine b fun r28 h29 => ?_
 refine b fun r30 h31 => ?_
 refine b fun y32 h33 => ?_
 refine b fun r34 h35 => ?_
 refine sd ?_
 refine zd [[102], [101], [101]] ?_
 refine dd [] (fun _ _ _ _ => c0 (c_retrospectlaw09_To _ h29)) ?_
 refine zd [[101], [101]] ?_
 refine dd [] (fun _ _ _ _ => c0 (c_retrospectlaw11_To _ h31)) ?_
 refine zd [[], []] ?_
 refine dx [63, 64] [] (fun st mm ⟨a63, a64, _⟩ _ => og (slR (f := L_frac_Frac) h33 Tryz.underlying43 ti_54.h rfl (a63.trans rfl) bnd0 (bnd (a64.trans rfl)))) ?_
 refine dd [] (fun _ _ _ _ => c0 (c_march_Fixed _ h35)) ?_
 refine zd [[], [], []] ?_
 refine dd [105] (fun _ _ _ _ => al' 105) ?_
 refine dd [106] (fun _ _ _ _ => al' 106) ?_
 refine zd [[105], [106]] ?_
 refine de fol ?_
 refine z [4, 5, 2, 33, 36, 41, 1] ?_
 refine c ?_ ?_
 · refine z [2] ?_
   refine cb (ca c_retrospectlaw38_works) fun r36 => ?_
   refine z [31, 1, 8, 10] ?_
   exact rt []
 refine z [9, 4, 5, 2, 32] ?_
 refine s1 (bld (l := [i64 0, i64 0, i64 0, i64 0]) pl_59.h ti_59.h zr_api_Fault rfl rfl) ?_
 refine s1 (neA (p := (r34.2 : M_api_Fault)) (q := ((⟨0, 0, 0, 0⟩ : M_api_Fault) : M_api_Fault)) eq_59_2 rfl eg_59 rfl rfl rfl) ?_
 refine z [1] ?_
 refine c ?_ ?_
 · refine sjq (fun s42 => [(3, i64 x3), (8, bl s42), (9, .own 102), (10, sli 3 (List.map L_frac_Frac r20)), (11, .own 103), (12, .own 104), (13, .own 105)]) (fun s42 => [(102, .bx 48 (L_step_Problem (⟨r18.Tape, r18.Scheme, r18.P, (1500 : Int)⟩ : M_step_Problem))), (103, .bx 72 (L_past_History r26.1)), (104, .bx 59 (L_api_Fault r26.2)), (105, .bx 72 (L_past_History r34.1))]) ?_ ?_
   · intro j40 hj41
     refine z [6, 32, 32] ?_
     refine s1 (eqA (p := (r26.2 : M_api_Fault)) (q := (r34.2 : M_api_Fault)) eq_59_2 rfl eg_59 rfl rfl rfl) ?_
     refine z [30] ?_
     refine sifd 79 rfl ?_ ?_
     · refine b fun r43 h44 => ?_
       refine og' (c0 (c_retrospectlaw38_works _ h44)) ?_
       refine z [38, 31, 1] ?_
       exact sj (hj41 _) (eR [(102, 102), (103, 103), (104, 104), (105, 105)])
     refine z [23, 37, 31, 1] ?_
     exact sj (hj41 _) (eR [(102, 102), (103, 103), (104, 104), (105, 105)])
   intro s42
   refine z [8, 10] ?_
   exact rt []
 refine z [9, 4, 5] ?_
 refine b fun y45 h46 => ?_
 refine b fun r47 h48 => ?_
 refine sd ?_
 refine zd [[102], [105], [105], [105], [105], [], []] ?_
 refine dx [88, 89] [] (fun st mm ⟨a88, a89, _⟩ _ => og (slR (f := L_frac_Frac) h46 Tryz.underlying43 ti_54.h rfl (a88.trans rfl) (bnd (a89.trans rfl)) bnd0)) ?_
 refine dd [] (fun _ _ _ _ => c0 (c_march_Fixed _ h48)) ?_
 refine zd [[], [], []] ?_
 refine dd [107] (fun _ _ _ _ => al' 107) ?_
 refine dd [108] (fun _ _ _ _ => al' 108) ?_
 refine zd [[107], [108]] ?_
 refine de fol ?_
 refine z [4, 5, 2, 32] ?_
 refine s1 (bld (l := [i64 0, i64 0, i64 0, i64 0]) pl_59.h ti_59.h zr_api_Fault rfl rfl) ?_
 refine s1 (neA (p := (r47.2 : M_api_Fault)) (q := ((⟨0, 0, 0, 0⟩ : M_api_Fault) : M_api_Fault)) eq_59_2 rfl eg_59 rfl rfl rfl) ?_
 refine z [1] ?_
 refine c ?_ ?_
 · refine z [2, 33, 36, 30, 40, 33] ?_
   refine o (stP (L_api_Fault (⟨r47.2.Kind, wrap64 (r47.2.Step + x3), r47.2.Stage, r47.2.At⟩ : M_api_Fault)) [1]) ?_
   refine z [1] ?_
   refine sjq (fun s54 => [(8, bl s54), (11, .own 103), (12, .own 104), (13, .own 105), (15, .own 107)]) (fun s54 => [(103, .bx 72 (L_past_History r26.1)), (104, .bx 59 (L_api_Fault r26.2)), (105, .bx 72 (L_past_History r34.1)), (107, .bx 72 (L_past_History r47.1))]) ?_ ?_
   · intro j52 hj53
     refine z [6, 32, 32] ?_
     refine s1 (eqA (p := (r26.2 : M_api_Fault)) (q := ((⟨r47.2.Kind, wrap64 (r47.2.Step + x3), r47.2.Stage, r47.2.At⟩ : M_api_Fault) : M_api_Fault)) eq_59_2 rfl eg_59 rfl rfl rfl) ?_
     refine sbn (F := bl) 104 rfl fun z55 => ?_
     refine z [30] ?_
     refine sifd 105 rfl ?_ ?_
     · refine b fun r56 h57 => ?_
       refine og' (c0 (c_retrospectlaw38_works _ h57)) ?_
       refine z [38, 31, 1] ?_
       exact sj (hj53 _) (eR [(103, 103), (104, 104), (105, 105), (107, 107)])
     refine z [23, 37, 31, 1] ?_
     exact sj (hj53 _) (eR [(103, 103), (104, 104), (105, 105), (107, 107)])
   intro s54
   refine z [8, 10] ?_
   exact rt []
 refine z [9, 4] ?_
 refine sjq (fun s67 => [(8, bl s67)]) (fun s67 => []) ?_ ?_
 · intro j65 hj66
   refine z [6, 32] ?_
   refine s1 (bld (l := [i64 0, i64 0, i64 0, i64 0]) pl_59.h ti_59.h zr_api_Fault rfl rfl) ?_
   refine s1 (eqA (p := (r26.2 : M_api_Fault)) (q := ((⟨0, 0, 0, 0⟩ : M_api_Fault) : M_api_Fault)) eq_59_2 rfl eg_59 rfl rfl rfl) ?_
   refine z [30] ?_
   refine sifd 111 rfl ?_ ?_
   · refine z [22, 22, 22, 22] ?_
     refine b fun r68 h69 => ?_
     refine og' (c0 (c_frac_Same _ h69)) ?_
     refine z [38, 30] ?_
     refine sifd 118 rfl ?_ ?_
     · refine z [22, 22, 22, 22] ?_
       refine b fun r70 h71 => ?_
       refine og' (c0 (c_row_Same _ h71)) ?_
       refine z [38, 30] ?_
       refine sifd 125 rfl ?_ ?_
       · refine z [22, 22, 22, 22, 22, 22, 22, 22, 22, 22, 22] ?_
         refine sbn (F := bl) 136 rfl fun z72 => ?_
         refine z [38, 30] ?_
         refine sifd 138 rfl ?_ ?_
         · refine b fun r73 h74 => ?_
           refine og' (c0 (c_retrospectlaw38_works _ h74)) ?_
           refine z [38, 31, 1] ?_
           exact sj (hj66 _) (eR [])
         refine z [23, 37, 31, 1] ?_
         exact sj (hj66 _) (eR [])
       refine z [23, 23, 23, 23, 23, 23, 23, 23, 23, 23, 23, 37, 30, 23, 37, 31, 1] ?_
       exact sj (hj66 _) (eR [])
     refine z [23, 23, 23, 23, 23, 37, 30, 23, 23, 23, 23, 23, 23, 23, 23, 23, 23, 23, 37, 30, 23, 37, 31, 1] ?_
     exact sj (hj66 _) (eR [])
   refine z [23, 23, 23, 23, 23, 37, 30, 23, 23, 23, 23, 23, 37, 30, 23, 23, 23, 23, 23, 23, 23, 23, 23, 23, 23, 37, 30, 23, 37, 31, 1] ?_
   exact sj (hj66 _) (eR [])
 intro s67
 refine z [8] ?_
 exact rt []
end Go.Proofs.YtcmhibdigkdjiaaGreatDoor
