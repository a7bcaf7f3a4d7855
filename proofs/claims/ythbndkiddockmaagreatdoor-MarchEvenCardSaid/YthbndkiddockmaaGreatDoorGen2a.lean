import Derived.Test.YthbndkiddockmaaGreatDoorGen1
set_option maxRecDepth 100000
set_option maxHeartbeats 4000000
namespace Go.Proofs.YthbndkiddockmaaGreatDoor
open Go Go.RowKit
theorem Qrm{n:Nat}{x0_g}{x1}{x2}:∀ r,Qdf n x0_g x1 x2=some r->FnOk Tryz.prog 322 [.agg [.own 0],Qd x1,i64 x2] [(0,.bx 226 (Qo x0_g))] (.tup [Qd r.1,bl r.2]) [(0,.bx 226 (Qo x0_g))]:=by
 unfold Qdf
 refine fs Tryz.func322 fun w S0 γ hγ=>?_
 refine z [2] ?_
 refine o (bx' 100) ?_
 refine o (bx' 101) ?_
 refine o (al' 102) ?_
 refine z [31,1,2,32,30] ?_
 refine cb (ca Q1j) fun r1=>?_
 refine z [35,35,34,31,1,8] ?_
 exact rt [(0,0)]
theorem Qrn{n:Nat}{x0_g}{x1}{x2}:∀ r,Qdg n x0_g x1 x2=some r->FnOk Tryz.prog 317 [.agg [.own 0],Qd x1,Qd x2] [(0,.bx 226 (Qo x0_g))] (Qd r) [(0,.bx 226 (Qo x0_g))]:=by
 unfold Qdg
 refine fs Tryz.func317 fun w S0 γ hγ=>?_
 refine z [2] ?_
 refine o (bx' 100) ?_
 refine o (bx' 101) ?_
 refine o (bx' 102) ?_
 refine o (al' 103) ?_
 refine z [1,2,32,32] ?_
 refine cb (ca Qej) fun r1=>?_
 refine z [34,1,8] ?_
 exact rt [(0,0)]
theorem Qtm{n:Nat}{x0}{x1}:∀ r,Qf4 n x0 x1=some r->FnOk Tryz.prog 62 [Qd x0,Qd x1] [] (Qd r) []:=by
 unfold Qf4
 refine fs Tryz.func62 fun w S0 γ hγ=>?_
 refine z [2] ?_
 refine o (bx' 100) ?_
 refine o (bx' 101) ?_
 refine o (al' 102) ?_
 refine z [1,2,32] ?_
 refine cb (ca Xp) fun r1=>?_
 refine z [30,35,35] ?_
 refine o (al' 103) ?_
 refine z [34,31,1,2,32] ?_
 refine cb (ca Xp) fun r3=>?_
 refine z [30,35,35] ?_
 refine o (al' 104) ?_
 refine z [34,31,1,5] ?_
 refine b fun r5 h6=>?_
 refine b fun r7 h8=>?_
 refine b fun r9 h10=>?_
 refine b fun r11 h12=>?_
 refine b fun r13 h14=>?_
 refine sd ?_
 refine zd [[103],[]] ?_
 refine dd [] (fun _ _ _ _=>c0 (Qca _ h6)) ?_
 refine zd [[104],[]] ?_
 refine dd [] (fun _ _ _ _=>c0 (Qca _ h8)) ?_
 refine dd [] (fun _ _ _ _=>c0 (Qr6 _ h10)) ?_
 refine zd [[],[]] ?_
 refine dd [] (fun _ _ _ _=>c0 (Qcx _ h12)) ?_
 refine dd [] (fun _ _ _ _=>c0 (Qck _ h14)) ?_
 refine zd [[102]] ?_
 refine de fol ?_
 refine z [4,8] ?_
 exact rt []
theorem Qro{n:Nat}{x0_g}{x1}{x2}:∀ r,Qdh n x0_g x1 x2=some r->FnOk Tryz.prog 324 [.agg [.own 0],Qd x1,Qd x2] [(0,.bx 226 (Qo x0_g))] (Qd r) [(0,.bx 226 (Qo x0_g))]:=by
 unfold Qdh
 refine fs Tryz.func324 fun w S0 γ hγ=>?_
 refine z [2] ?_
 refine o (bx' 100) ?_
 refine o (bx' 101) ?_
 refine o (bx' 102) ?_
 refine o (al' 103) ?_
 refine z [1,2,32,32] ?_
 refine cb (ca Qtm) fun r1=>?_
 refine z [34,1,8] ?_
 exact rt [(0,0)]
theorem Qrp{n:Nat}{x0_g}{x1}{x2}:∀ r,Qdi n x0_g x1 x2=some r->FnOk Tryz.prog 319 [.agg [.own 0],Qd x1,Qd x2] [(0,.bx 226 (Qo x0_g))] (Qd r) [(0,.bx 226 (Qo x0_g))]:=by
 unfold Qdi
 refine fs Tryz.func319 fun w S0 γ hγ=>?_
 refine z [2] ?_
 refine o (bx' 100) ?_
 refine o (bx' 101) ?_
 refine o (bx' 102) ?_
 refine o (al' 103) ?_
 refine z [1,2,32,32] ?_
 refine cb (ca Qkz) fun r1=>?_
 refine z [34,1,8] ?_
 exact rt [(0,0)]
theorem Qrq{n:Nat}{x0_g}{x1}{x2}:∀ r,Qdj n x0_g x1 x2=some r->FnOk Tryz.prog 323 [.agg [.own 0],Qd x1,Qd x2] [(0,.bx 226 (Qo x0_g))] (.tup [Qd r.1,bl r.2]) [(0,.bx 226 (Qo x0_g))]:=by
 unfold Qdj
 refine fs Tryz.func323 fun w S0 γ hγ=>?_
 refine z [2] ?_
 refine o (bx' 100) ?_
 refine o (bx' 101) ?_
 refine o (bx' 102) ?_
 refine o (al' 103) ?_
 refine z [31,1,2,32,32] ?_
 refine cb (ca Qo6) fun r1=>?_
 refine z [35,35,34,31,1,8] ?_
 exact rt [(0,0)]
theorem Qsj{n:Nat}{x0_g}{x1}:∀ r,Qeg n x0_g x1=some r->FnOk Tryz.prog 321 [.agg [.own 0],Qd x1] [(0,.bx 226 (Qo x0_g))] (Qd r) [(0,.bx 226 (Qo x0_g))]:=by
 unfold Qeg
 refine fs Tryz.func321 fun w S0 γ hγ=>?_
 refine z [2] ?_
 refine o (bx' 100) ?_
 refine o (bx' 101) ?_
 refine o (al' 102) ?_
 refine z [1,2,32] ?_
 refine cb (ca Wh) fun r1=>?_
 refine z [34,1,8] ?_
 exact rt [(0,0)]
theorem Qdv{n:Nat}{x0_Arith_g}{x1}{x2}:∀ r,Vi n x0_Arith_g x1 x2=some r->FnOk Tryz.prog 293 [.agg [.agg [.own 0]],Kz x1,Xi x2] [(0,.bx 226 (Qo x0_Arith_g))] (Qd r) [(0,.bx 226 (Qo x0_Arith_g))]:=by
 unfold Vi
 refine fs Tryz.func293 fun w S0 γ hγ=>?_
 refine z [2] ?_
 refine o (bx' 100) ?_
 refine o (bx' 101) ?_
 refine o (bx' 102) ?_
 refine o (al' 103) ?_
 refine z [1,5,2,33,36,1,7,2,41,31,1] ?_
 refine c ?_ ?_
 · refine z [2,33] ?_
   refine s1 (ldB [0] rfl (by exact rfl) Qjz.h (by exact rfl) (by exact rfl) rfl rfl (.inl rfl)) ?_
   refine s1 (mkIf Tryz.underlying340 rfl rfl) ?_
   refine z [33,36] ?_
   refine b fun r1 h2=>?_
   refine s1 (okm rfl rfl (callI (em:=[(0,.bx 226 (Qo x0_Arith_g))]) (res':=Qd r1) [(0,0)] [] [(0,0)] rfl Q2m (Qsj _ h2) (Zp (Ki (Ve rfl) (Wm))) ⟨⟨_,rfl,rn_id Jr⟩,trivial⟩ (MiF.get (mi:=[(0,_)]) ⟨⟨_,_,rfl,rfl,rc_bx (rn_id Kc)⟩,trivial⟩) ⟨⟨_,rfl⟩,trivial⟩ rfl trivial ⟨.inr rfl,trivial⟩ rfl ⟨.inl ⟨_,_,rfl,rfl,rc_bx (rn_id Kc)⟩,trivial⟩ ⟨⟨_,rfl⟩,trivial⟩ trivial (rn_id Jr) rfl)) ?_
   refine z [34,1,8,12,10] ?_
   exact rt [(0,0)]
 refine z [2,41,31,1] ?_
 refine c ?_ ?_
 · refine z [2,33,36,33,36] ?_
   refine b fun y3 h4=>?_
   refine z [43,42,34,1,8,12,10] ?_
   exact rt [(0,0)]
 refine z [2,41,31,1] ?_
 refine c ?_ ?_
 · refine z [2,33,36,33,36] ?_
   refine b fun y5 h6=>?_
   refine z [43,42,34,1,8,12,10] ?_
   exact rt [(0,0)]
 refine z [9,11,4,2,33,36,34,1,8] ?_
 exact rt [(0,0)]
theorem Qdw{n:Nat}{x0_Arith_g}{x1}{x2}{x3}:∀ r,Jz n x0_Arith_g x1 x2 x3=some r->FnOk Tryz.prog 284 [.agg [.agg [.own 0]],Kz x1,Xi x2,.own 1] [(0,.bx 226 (Qo x0_Arith_g)),(1,.sl 45 3 (List.map Qd x3))] (.tup [Qd r.1,bl r.2]) [(0,.bx 226 (Qo x0_Arith_g)),(1,.sl 45 3 (List.map Qd x3))]:=by
 unfold Jz
 refine fs Tryz.func284 fun w S0 γ hγ=>?_
 refine z [2] ?_
 refine o (bx' 100) ?_
 refine o (bx' 101) ?_
 refine o (bx' 102) ?_
 refine o (al' 103) ?_
 refine z [31,1,5,2,33,36,1,7,2,41,31,1] ?_
 refine c ?_ ?_
 · refine z [5] ?_
   refine b fun y1 h2=>?_
   refine b fun r3 h4=>?_
   refine sd ?_
   refine zd [[100]] ?_
   refine dx [14] [100] (fun st mm ⟨a14,_⟩ ⟨g100,_⟩=>og (ldB [0] (g100.trans rfl) (by exact rfl) Qjz.h (by exact rfl) (by exact rfl) rfl (a14.trans rfl) (.inl rfl))) ?_
   refine dx [15] [] (fun st mm ⟨a15,_⟩ _=>og (mkIf Tryz.underlying340 rfl (a15.trans rfl))) ?_
   refine zd [[],[101],[101],[1],[1]] ?_
   refine dx [16,21] [0] (fun st mm ⟨a16,a21,_⟩ ⟨g0,_⟩=>og (okm (g0.trans rfl) rfl (callI (em:=[(0,.bx 226 (Qo x0_Arith_g))]) (res':=Qd r3) [(0,0)] [] [(0,0)] (a16.trans rfl) Q02 (Qrl _ h4) (Zp (Ki (Ve rfl) (Wm))) ⟨⟨_,(a21.trans rfl),rn_id Jr⟩,trivial⟩ (MiF.get (mi:=[(0,_)]) ⟨⟨_,_,rfl,(g0.trans rfl),rc_bx (rn_id Kc)⟩,trivial⟩) ⟨⟨_,rfl⟩,trivial⟩ rfl trivial ⟨.inr rfl,trivial⟩ rfl ⟨.inl ⟨_,_,rfl,rfl,rc_bx (rn_id Kc)⟩,trivial⟩ ⟨⟨_,rfl⟩,trivial⟩ trivial (rn_id Jr) rfl))) ?_
   refine zd [[103],[]] ?_
   refine de fol ?_
   refine z [4,8,12,10] ?_
   exact rt [(0,0),(1,1)]
 refine z [2,41,31,1] ?_
 refine c ?_ ?_
 · refine z [5] ?_
   refine b fun y5 h6=>?_
   refine b fun r7 h8=>?_
   refine sd ?_
   refine zd [[100]] ?_
   refine dx [25] [100] (fun st mm ⟨a25,_⟩ ⟨g100,_⟩=>og (ldB [0] (g100.trans rfl) (by exact rfl) Qjz.h (by exact rfl) (by exact rfl) rfl (a25.trans rfl) (.inl rfl))) ?_
   refine dx [26] [] (fun st mm ⟨a26,_⟩ _=>og (mkIf Tryz.underlying340 rfl (a26.trans rfl))) ?_
   refine zd [[],[101],[101],[1],[1],[101],[101]] ?_
   refine dx [27,32,34] [0] (fun st mm ⟨a27,a32,a34,_⟩ ⟨g0,_⟩=>og (okm (g0.trans rfl) rfl (callI (em:=[(0,.bx 226 (Qo x0_Arith_g))]) (res':=.tup [Qd r7.1,bl r7.2]) [(0,0)] [] [(0,0)] (a27.trans rfl) Q03 (Qrm _ h8) (Zp (Ki (Ve rfl) (Wm))) ⟨⟨_,(a32.trans rfl),rn_id Jr⟩,⟨_,(a34.trans rfl),rn_id Qb0⟩,trivial⟩ (MiF.get (mi:=[(0,_)]) ⟨⟨_,_,rfl,(g0.trans rfl),rc_bx (rn_id Kc)⟩,trivial⟩) ⟨⟨_,rfl⟩,trivial⟩ rfl trivial ⟨.inr rfl,trivial⟩ rfl ⟨.inl ⟨_,_,rfl,rfl,rc_bx (rn_id Kc)⟩,trivial⟩ ⟨⟨_,rfl⟩,trivial⟩ trivial (Qdl (Ki (rn_id Jr) (Ki (rn_id if_bl) (Wm)))) rfl))) ?_
   refine zd [[],[],[103],[]] ?_
   refine de fol ?_
   refine z [4,8,12,10] ?_
   exact rt [(0,0),(1,1)]
 refine z [2,41,31,1] ?_
 refine c ?_ ?_
 · refine z [5] ?_
   refine b fun y9 h10=>?_
   refine b fun y11 h12=>?_
   refine b fun r13 h14=>?_
   refine sd ?_
   refine zd [[100]] ?_
   refine dx [40] [100] (fun st mm ⟨a40,_⟩ ⟨g100,_⟩=>og (ldB [0] (g100.trans rfl) (by exact rfl) Qjz.h (by exact rfl) (by exact rfl) rfl (a40.trans rfl) (.inl rfl))) ?_
   refine dx [41] [] (fun st mm ⟨a41,_⟩ _=>og (mkIf Tryz.underlying340 rfl (a41.trans rfl))) ?_
   refine zd [[],[101],[101],[1],[1],[],[101],[101],[1],[1]] ?_
   refine dx [42,47,52] [0] (fun st mm ⟨a42,a47,a52,_⟩ ⟨g0,_⟩=>og (okm (g0.trans rfl) rfl (callI (em:=[(0,.bx 226 (Qo x0_Arith_g))]) (res':=Qd r13) [(0,0)] [] [(0,0)] (a42.trans rfl) Q04 (Qrn _ h14) (Zp (Ki (Ve rfl) (Wm))) ⟨⟨_,(a47.trans rfl),rn_id Jr⟩,⟨_,(a52.trans rfl),rn_id Jr⟩,trivial⟩ (MiF.get (mi:=[(0,_)]) ⟨⟨_,_,rfl,(g0.trans rfl),rc_bx (rn_id Kc)⟩,trivial⟩) ⟨⟨_,rfl⟩,trivial⟩ rfl trivial ⟨.inr rfl,trivial⟩ rfl ⟨.inl ⟨_,_,rfl,rfl,rc_bx (rn_id Kc)⟩,trivial⟩ ⟨⟨_,rfl⟩,trivial⟩ trivial (rn_id Jr) rfl))) ?_
   refine zd [[103],[]] ?_
   refine de fol ?_
   refine z [4,8,12,10] ?_
   exact rt [(0,0),(1,1)]
 refine z [2,41,31,1] ?_
 refine c ?_ ?_
 · refine z [5] ?_
   refine b fun y15 h16=>?_
   refine b fun y17 h18=>?_
   refine b fun r19 h20=>?_
   refine sd ?_
   refine zd [[100]] ?_
   refine dx [56] [100] (fun st mm ⟨a56,_⟩ ⟨g100,_⟩=>og (ldB [0] (g100.trans rfl) (by exact rfl) Qjz.h (by exact rfl) (by exact rfl) rfl (a56.trans rfl) (.inl rfl))) ?_
   refine dx [57] [] (fun st mm ⟨a57,_⟩ _=>og (mkIf Tryz.underlying340 rfl (a57.trans rfl))) ?_
   refine zd [[],[101],[101],[1],[1],[],[101],[101],[1],[1]] ?_
   refine dx [58,63,68] [0] (fun st mm ⟨a58,a63,a68,_⟩ ⟨g0,_⟩=>og (okm (g0.trans rfl) rfl (callI (em:=[(0,.bx 226 (Qo x0_Arith_g))]) (res':=Qd r19) [(0,0)] [] [(0,0)] (a58.trans rfl) Q05 (Qro _ h20) (Zp (Ki (Ve rfl) (Wm))) ⟨⟨_,(a63.trans rfl),rn_id Jr⟩,⟨_,(a68.trans rfl),rn_id Jr⟩,trivial⟩ (MiF.get (mi:=[(0,_)]) ⟨⟨_,_,rfl,(g0.trans rfl),rc_bx (rn_id Kc)⟩,trivial⟩) ⟨⟨_,rfl⟩,trivial⟩ rfl trivial ⟨.inr rfl,trivial⟩ rfl ⟨.inl ⟨_,_,rfl,rfl,rc_bx (rn_id Kc)⟩,trivial⟩ ⟨⟨_,rfl⟩,trivial⟩ trivial (rn_id Jr) rfl))) ?_
   refine zd [[103],[]] ?_
   refine de fol ?_
   refine z [4,8,12,10] ?_
   exact rt [(0,0),(1,1)]
 refine z [2,41,31,1] ?_
 refine c ?_ ?_
 · refine z [5] ?_
   refine b fun y21 h22=>?_
   refine b fun y23 h24=>?_
   refine b fun r25 h26=>?_
   refine sd ?_
   refine zd [[100]] ?_
   refine dx [72] [100] (fun st mm ⟨a72,_⟩ ⟨g100,_⟩=>og (ldB [0] (g100.trans rfl) (by exact rfl) Qjz.h (by exact rfl) (by exact rfl) rfl (a72.trans rfl) (.inl rfl))) ?_
   refine dx [73] [] (fun st mm ⟨a73,_⟩ _=>og (mkIf Tryz.underlying340 rfl (a73.trans rfl))) ?_
   refine zd [[],[101],[101],[1],[1],[],[101],[101],[1],[1]] ?_
   refine dx [74,79,84] [0] (fun st mm ⟨a74,a79,a84,_⟩ ⟨g0,_⟩=>og (okm (g0.trans rfl) rfl (callI (em:=[(0,.bx 226 (Qo x0_Arith_g))]) (res':=Qd r25) [(0,0)] [] [(0,0)] (a74.trans rfl) Q06 (Qrp _ h26) (Zp (Ki (Ve rfl) (Wm))) ⟨⟨_,(a79.trans rfl),rn_id Jr⟩,⟨_,(a84.trans rfl),rn_id Jr⟩,trivial⟩ (MiF.get (mi:=[(0,_)]) ⟨⟨_,_,rfl,(g0.trans rfl),rc_bx (rn_id Kc)⟩,trivial⟩) ⟨⟨_,rfl⟩,trivial⟩ rfl trivial ⟨.inr rfl,trivial⟩ rfl ⟨.inl ⟨_,_,rfl,rfl,rc_bx (rn_id Kc)⟩,trivial⟩ ⟨⟨_,rfl⟩,trivial⟩ trivial (rn_id Jr) rfl))) ?_
   refine zd [[103],[]] ?_
   refine de fol ?_
   refine z [4,8,12,10] ?_
   exact rt [(0,0),(1,1)]
 refine z [2,41,31,1] ?_
 refine c ?_ ?_
 · refine z [5] ?_
   refine b fun y27 h28=>?_
   refine b fun y29 h30=>?_
   refine b fun r31 h32=>?_
   refine sd ?_
   refine zd [[100]] ?_
   refine dx [88] [100] (fun st mm ⟨a88,_⟩ ⟨g100,_⟩=>og (ldB [0] (g100.trans rfl) (by exact rfl) Qjz.h (by exact rfl) (by exact rfl) rfl (a88.trans rfl) (.inl rfl))) ?_
   refine dx [89] [] (fun st mm ⟨a89,_⟩ _=>og (mkIf Tryz.underlying340 rfl (a89.trans rfl))) ?_
   refine zd [[],[101],[101],[1],[1],[],[101],[101],[1],[1]] ?_
   refine dx [90,95,100] [0] (fun st mm ⟨a90,a95,a100,_⟩ ⟨g0,_⟩=>og (okm (g0.trans rfl) rfl (callI (em:=[(0,.bx 226 (Qo x0_Arith_g))]) (res':=.tup [Qd r31.1,bl r31.2]) [(0,0)] [] [(0,0)] (a90.trans rfl) Q07 (Qrq _ h32) (Zp (Ki (Ve rfl) (Wm))) ⟨⟨_,(a95.trans rfl),rn_id Jr⟩,⟨_,(a100.trans rfl),rn_id Jr⟩,trivial⟩ (MiF.get (mi:=[(0,_)]) ⟨⟨_,_,rfl,(g0.trans rfl),rc_bx (rn_id Kc)⟩,trivial⟩) ⟨⟨_,rfl⟩,trivial⟩ rfl trivial ⟨.inr rfl,trivial⟩ rfl ⟨.inl ⟨_,_,rfl,rfl,rc_bx (rn_id Kc)⟩,trivial⟩ ⟨⟨_,rfl⟩,trivial⟩ trivial (Qdl (Ki (rn_id Jr) (Ki (rn_id if_bl) (Wm)))) rfl))) ?_
   refine zd [[],[],[103],[]] ?_
   refine de fol ?_
   refine z [4,8,12,10] ?_
   exact rt [(0,0),(1,1)]
 refine z [9,11,4,2,32,32,32] ?_
 refine b fun r33 h34=>?_
 refine o (cG (Qdv _ h34) [0] [] [0]) ?_
 refine z [34,31,1,8] ?_
 exact rt [(0,0),(1,1)]
theorem Qqs{n:Nat}{x0_g}{x1}:∀ r,Qa6 n x0_g x1=some r->FnOk Tryz.prog 318 [.agg [.own 0],Qd x1] [(0,.bx 226 (Qo x0_g))] (bl r.1) [(0,.bx 226 (Qo r.2))]:=by
 unfold Qa6
 refine fs Tryz.func318 fun w S0 γ hγ=>?_
 refine z [2] ?_
 refine o (bx' 100) ?_
 refine o (bx' 101) ?_
 refine z [31,1,2,33,36,32] ?_
 refine b fun r1 h2=>?_
 refine o (cG (Qhh _ h2) [0] [] []) ?_
 refine z [31,1,8] ?_
 exact rt [(0,0)]
theorem Qd9{n:Nat}{x0_Arith_g}{x1}{x2}:∀ r,Kr n x0_Arith_g x1 x2=some r->FnOk Tryz.prog 267 [.agg [.agg [.own 0]],Kl x1,Xi x2] [(0,.bx 226 (Qo x0_Arith_g))] (.tup [sli 3 (List.map Qd r.1),Qn r.2.1]) [(0,.bx 226 (Qo r.2.2))]:=by
 unfold Kr
 refine fs Tryz.func267 fun w S0 γ hγ=>?_
 refine z [2] ?_
 refine o (bx' 100) ?_
 refine o (bx' 101) ?_
 refine o (bx' 102) ?_
 refine s1 (asg rfl (kLm (k:=3) Qd)) ?_
 refine o (al' 103) ?_
 refine z [1,5] ?_
 refine sjq (fun s5=>[(3,.own 100),(4,.own 101),(5,.own 102),(6,sli 3 (List.map Qd ([]:List Qc))),(7,.own 103),(31,bl s5)]) (fun s5=>[(0,.bx 226 (Qo x0_Arith_g)),(100,.bx 342 (.agg [.agg [.own 0]])),(101,.bx 55 (Kl x1)),(102,.bx 344 (Xi x2)),(103,.bx 50 (Qn (⟨0,0,0,0⟩:Qe)))]) ?_ ?_
 · intro j3 hj4
   refine z [6,32] ?_
   refine cb (ca Qlq) fun r6=>?_
   refine z [44,30] ?_
   refine sifd 16 rfl ?_ ?_
   · refine z [23,23,23,23,23,23,38,30,23,23,23,23,23,23,38,1] ?_
     exact sj (hj4 _) (eR [(0,0),(100,100),(101,101),(102,102),(103,103)])
   refine z [22,22,22,22,22,22,37,30] ?_
   refine sifd 24 rfl ?_ ?_
   · refine z [23,23,23,23,23,23,38,1] ?_
     exact sj (hj4 _) (eR [(0,0),(100,100),(101,101),(102,102),(103,103)])
   refine z [22,22,22,22,22,22,37,1] ?_
   exact sj (hj4 _) (eR [(0,0),(100,100),(101,101),(102,102),(103,103)])
 intro s5
 refine c ?_ ?_
 · refine z [2] ?_
   refine s1 (bld (l:=[i64 (2:Int),i64 0,i64 0,i64 0]) pl_50.h ti_50.h Qq ⟨_,_,_,(kI (x:=2) rfl),rfl,rfl,rfl,(szk (k:=1) rfl rfl),rfl⟩ rfl) ?_
   refine s1 (asg rfl (kLm (k:=3) Qd)) ?_
   refine z [34,1,8,10] ?_
   exact rt [(0,0)]
 refine z [9,4,2] ?_
 refine so (asgN (y:=104) (E:=45) (k:=3) rfl rfl) ?_
 refine z [1,5,2,33,36,39,30,1,7] ?_
 refine srN (fun s29=>[(3,.own 100),(5,.own 102),(6,sli 3 (List.map Qd ([]:List Qc))),(7,.own 103),(8,.own 104),(34,sli 6 (List.map Kz x1.Code))]) (fun s29=>[(0,.bx 226 (Qo s29.1)),(100,.bx 342 (.agg [.agg [.own 0]])),(102,.bx 344 (Xi x2)),(103,.bx 50 (Qn (⟨0,0,0,0⟩:Qe))),(104,.sl 45 3 (List.map Qd s29.2))]) (rE (eR [(0,0),(100,100),(102,102),(103,103),(104,104)])) ?_ ?_
 · intro i30 x31 s29 hx32
   refine z [7,2,30,43,42] ?_
   refine o (al' 105) ?_
   refine z [31,34,1,2,32,32,32,30] ?_
   refine b fun r33 h34=>?_
   refine o (cG (Qdw _ h34) [0,104] [] [0,104]) ?_
   refine z [30,35,35] ?_
   refine o (al' 106) ?_
   refine z [34,31,1,5,7,2,30,44,31,1] ?_
   refine c ?_ ?_
   · refine z [2,30] ?_
     refine s1 (bld (l:=[i64 (3:Int),i64 0,i64 0,i64 (i30:Int)]) pl_50.h ti_50.h Qq ⟨_,_,_,(kI (x:=3) rfl),rfl,rfl,rfl,(szk (k:=1) rfl rfl),⟨_,_,_,rfl,rfl,rfl,rfl,(szk (k:=1) rfl rfl),rfl⟩⟩ rfl) ?_
     refine s1 (asg rfl (kLm (k:=3) Qd)) ?_
     refine z [34,1,8,12,10,12] ?_
     refine sU ?_
     refine z [12,10] ?_
     exact rt [(0,0)]
   refine z [2,33] ?_
   refine s1 (ldB [0] rfl (by exact rfl) Qjz.h (by exact rfl) (by exact rfl) rfl rfl (.inl rfl)) ?_
   refine s1 (mkIf Tryz.underlying340 rfl rfl) ?_
   refine z [32] ?_
   refine b fun r35 h36=>?_
   refine so (callI (em:=[(0,.bx 226 (Qo r35.2))]) (res':=bl r35.1) [(0,0)] [] [(0,0)] rfl Qzv (Qqs _ h36) (Zp (Ki (Ve rfl) (Wm))) ⟨⟨_,rfl,rn_id Jr⟩,trivial⟩ (MiF.get (mi:=[(0,_)]) ⟨⟨_,_,rfl,rfl,rc_bx (rn_id Kc)⟩,trivial⟩) ⟨⟨_,rfl⟩,trivial⟩ rfl trivial ⟨.inr rfl,trivial⟩ rfl ⟨.inl ⟨_,_,rfl,rfl,rc_bx (rn_id Kc)⟩,trivial⟩ ⟨⟨_,rfl⟩,trivial⟩ trivial (rn_id if_bl) rfl) ?_
   refine z [44,31,1] ?_
   refine c ?_ ?_
   · refine z [2,30] ?_
     refine s1 (bld (l:=[i64 (6:Int),i64 0,i64 0,i64 (i30:Int)]) pl_50.h ti_50.h Qq ⟨_,_,_,(kI (x:=6) rfl),rfl,rfl,rfl,(szk (k:=1) rfl rfl),⟨_,_,_,rfl,rfl,rfl,rfl,(szk (k:=1) rfl rfl),rfl⟩⟩ rfl) ?_
     refine s1 (asg rfl (kLm (k:=3) Qd)) ?_
     refine z [34,1,8,12,10,12] ?_
     refine sU ?_
     refine z [12,10] ?_
     exact rt [(0,0)]
   refine z [9,11,4,6,30,32] ?_
   refine so (bsl (y:=107) (ls:=List.map Qd ([r33.1]:List Qc)) Tryz.underlying46 ti_45.h rfl rfl rfl rfl rfl ⟨rfl,rfl,(by exact rfl),(by exact rfl),trivial⟩ rfl rfl) ?_
   refine b fun y37 h38=>?_
   refine o (app' 108) ?_
   refine z [31,3,11] ?_
   exact sgo (eR [(0,0),(100,100),(102,102),(103,103),(104,108)])
 intro s39
 refine z [13,4,2,30] ?_
 refine s1 (bld (l:=[i64 0,i64 0,i64 0,i64 0]) pl_50.h ti_50.h Qq rfl rfl) ?_
 refine z [31,34,1,8] ?_
 refine fz 104 [6,8,68] [] ?_
 exact rt [(0,0)]
theorem Q1k{n:Nat}{x0}{x1}{x2}:∀ r,Qkq n x0 x1 x2=some r->FnOk Tryz.prog 236 [Kl x0,Qb8 x1,i64 x2] [] (.tup [sli 3 (List.map Qd r.1),Qn r.2]) []:=by
 unfold Qkq
 refine fs Tryz.func236 fun w S0 γ hγ=>?_
 refine z [2] ?_
 refine o (bx' 100) ?_
 refine o (bx' 101) ?_
 refine s1 (asg rfl (kLm (k:=3) Qd)) ?_
 refine o (al' 102) ?_
 refine z [1,2,32] ?_
 refine cb (ca Qz3) fun r1=>?_
 refine z [34,1,2,30] ?_
 refine b fun r3 h4=>?_
 refine o (cG (Qr8 _ h4) [] [(103,50)] []) ?_
 refine s1 (bld (l:=[.own 103]) Q6y.h Qyc.h (Vg (Qk (c1:=[.pointer none]) Qtb (Km))) ⟨_,_,_,rfl,rfl,rfl,rfl,(szk (k:=1) rfl rfl),rfl⟩ rfl) ?_
 refine s1 (bld (l:=[.agg [.own 103]]) Q6z.h Qyd.h (Vg (Qk (c1:=[.pointer none]) (Vg (Qk (c1:=[.pointer none]) Qtb (Km))) (Km))) ⟨_,_,_,rfl,rfl,rfl,rfl,(szk (k:=1) rfl rfl),rfl⟩ rfl) ?_
 refine so (al (y:=104) (ly:=.agg [.agg [.por 0]]) Qyd.h (Vg (Qk (c1:=[.pointer none]) (Vg (Qk (c1:=[.pointer none]) Qtb (Km))) (Km))) rfl rfl) ?_
 refine z [34,1,2,32,32,33,36,33,36,33,36] ?_
 refine s1 (bld (l:=[Qd r1.T,sli 3 (List.map Qd r1.Y),sli 3 (List.map Qd r1.P)]) Q60.h Q2l.h Qli ⟨_,_,_,rfl,rfl,rfl,rfl,(szk (k:=3) rfl rfl),⟨_,_,_,rfl,rfl,rfl,rfl,(szk (k:=1) rfl rfl),⟨_,_,_,rfl,rfl,rfl,rfl,(szk (k:=1) rfl rfl),rfl⟩⟩⟩ rfl) ?_
 refine b fun r5 h6=>?_
 refine o (cG (Qd9 _ h6) [103] [] []) ?_
 refine z [35,35,31,34,1,8] ?_
 exact rt []
theorem Q1l{n:Nat}{x0}{x1}:∀ r,Qkr n x0 x1=some r->FnOk Tryz.prog 237 [Kl x0,sli 3 (List.map Qd x1)] [] (sli 3 (List.map Qd r)) []:=by
 unfold Qkr
 refine fs Tryz.func237 fun w S0 γ hγ=>?_
 refine z [2] ?_
 refine o (bx' 100) ?_
 refine s1 (asg rfl (kLm (k:=3) Qd)) ?_
 refine z [1,5] ?_
 refine sjq (fun s5=>[(1,sli 3 (List.map Qd x1)),(2,.own 100),(4,sli 3 (List.map Qd ([]:List Qc))),(18,bl s5)]) (fun s5=>[(100,.bx 55 (Kl x0))]) ?_ ?_
 · intro j3 hj4
   refine z [6,32] ?_
   refine cb (ca Qlq) fun r6=>?_
   refine z [44,30] ?_
   refine sifd 11 rfl ?_ ?_
   · refine z [23,23,23,23,23,23,38,1] ?_
     exact sj (hj4 _) (eR [(100,100)])
   refine z [22,22,22,22,22,22,37,1] ?_
   exact sj (hj4 _) (eR [(100,100)])
 intro s5
 refine c ?_ ?_
 · refine z [2] ?_
   refine s1 (asg rfl (kLm (k:=3) Qd)) ?_
   refine z [1,8,10] ?_
   exact rt []
 refine z [9,4,2] ?_
 refine so (asgN (y:=101) (E:=45) (k:=3) rfl rfl) ?_
 refine z [1,5,2,33,36,39,30,1,7] ?_
 refine srN (fun s29=>[(1,sli 3 (List.map Qd x1)),(4,sli 3 (List.map Qd ([]:List Qc))),(5,.own 101),(20,sli 1 (List.map i64 x0.Outs))]) (fun s29=>[(101,.sl 45 3 (List.map Qd s29))]) (rE (eR [(101,101)])) ?_ ?_
 · intro i30 x31 s29 hx32
   refine z [7,2,43,42,31,1,6,30,30,30] ?_
   refine b fun y33 h34=>?_
   refine z [43,42] ?_
   refine cb (ca Wh) fun r35=>?_
   refine so (bsl (y:=102) (ls:=List.map Qd ([r35]:List Qc)) Tryz.underlying46 ti_45.h rfl rfl rfl rfl rfl ⟨rfl,rfl,(by exact rfl),(by exact rfl),trivial⟩ rfl rfl) ?_
   refine b fun y37 h38=>?_
   refine o (app' 103) ?_
   refine z [31,3,11] ?_
   exact sgo (eR [(101,103)])
 intro s39
 refine z [13,4,2,30,31,1,8] ?_
 refine fz 101 [4,5,35] [] ?_
 exact rt []
theorem Qz4{n:Nat}{x0}{x1}{x2}:∀ r,Qgi n x0 x1 x2=some r->FnOk Tryz.prog 192 [Kl x0,Qb8 x1,i64 x2] [] (.tup [sli 3 (List.map Qd r.1),Qn r.2]) []:=by
 unfold Qgi
 refine fs Tryz.func192 fun w S0 γ hγ=>?_
 refine z [2] ?_
 refine o (bx' 100) ?_
 refine o (bx' 101) ?_
 refine s1 (asg rfl (kLm (k:=3) Qd)) ?_
 refine o (al' 102) ?_
 refine z [1,2,32,32,30] ?_
 refine cb (ca Q1k) fun r1=>?_
 refine z [30,35,35] ?_
 refine o (al' 103) ?_
 refine z [31,34,1,5,2,32] ?_
 refine s1 (bld (l:=[i64 0,i64 0,i64 0,i64 0]) pl_50.h ti_50.h Qq rfl rfl) ?_
 refine s1 (neA (p:=(r1.2:Qe)) (q:=((⟨0,0,0,0⟩:Qe):Qe)) K7 rfl eg_50 rfl rfl rfl) ?_
 refine z [1] ?_
 refine c ?_ ?_
 · refine z [5] ?_
   refine sd ?_
   refine zd [[103]] ?_
   refine dx [] [] (fun st mm _ _=>og (asg rfl (kLm (k:=3) Qd))) ?_
   refine zd [[102]] ?_
   refine de fol ?_
   refine z [4,8,10] ?_
   exact rt []
 refine z [9,4,5] ?_
 refine b fun r3 h4=>?_
 refine sd ?_
 refine zd [[100],[]] ?_
 refine dd [] (fun _ _ _ _=>c0 (Q1l _ h4)) ?_
 refine zd [[103],[],[102]] ?_
 refine de fol ?_
 refine z [4,8] ?_
 exact rt []
theorem Qnz{n:Nat}{x0_p}{x0_t}{x0_h}{x0_y}{x0_g}{x0_out_Ys}{x0_out_Ks}{x0_out_Next}{x0_out_Err}{x1}:∀ r,W3 n x0_p x0_t x0_h x0_y x0_g x0_out_Ys x0_out_Ks x0_out_Next x0_out_Err x1=some r->FnOk Tryz.prog 144 [.own 0,i64 x1] [(0,.bx 164 (.agg [Qz x0_p,Qd x0_t,Qd x0_h,sli 3 (List.map Qd x0_y),.own 1,.agg [.own 2,.own 3,sli 3 (List.map Qd x0_out_Next),sli 3 (List.map Qd x0_out_Err)]])),(1,.bx 226 (Qo x0_g)),(2,.sl 46 1 (List.map Qi x0_out_Ys)),(3,.sl 46 1 (List.map Qi x0_out_Ks))] (Qn r.1) [(0,.bx 164 (.agg [Qz r.2.1,Qd r.2.2.1,Qd r.2.2.2.1,sli 3 (List.map Qd r.2.2.2.2.1),.own 1,.agg [.own 62,.own 63,sli 3 (List.map Qd r.2.2.2.2.2.1),sli 3 (List.map Qd r.2.2.2.2.2.2.1)]])),(1,.bx 226 (Qo r.2.2.2.2.2.2.2.1)),(2,.gone),(3,.gone),(62,.sl 46 1 (List.map Qi r.2.2.2.2.2.2.2.2.1)),(63,.sl 46 1 (List.map Qi r.2.2.2.2.2.2.2.2.2))]:=by
 unfold W3
 refine fs Tryz.func144 fun w S0 γ hγ=>?_
 refine z [2] ?_
 refine o (al' 100) ?_
 refine z [1,2,30,30,48,33,45,45,36,30] ?_
 refine b fun y1 h2=>?_
 refine z [43,42] ?_
 refine b fun r3 h4=>?_
 refine o (cG (Qif _ h4) [0,1,2,3] [] [0,1,2,3]) ?_
 refine z [31,1,5,2,30,30,30] ?_
 refine b fun r5 h6=>?_
 refine o (cG (Qek _ h6) [0,1,2,3] [] [0,2,3]) ?_
 refine o (al' 101) ?_
 refine z [34,1,2,32] ?_
 refine s1 (bld (l:=[i64 0,i64 0,i64 0,i64 0]) pl_50.h ti_50.h Qq rfl rfl) ?_
 refine s1 (neA (p:=(r5.1:Qe)) (q:=((⟨0,0,0,0⟩:Qe):Qe)) K7 rfl eg_50 rfl rfl rfl) ?_
 refine z [1] ?_
 refine c ?_ ?_
 · refine z [2,32,34,1,8,10] ?_
   exact rt [(0,0),(1,1),(2,2),(3,3),(62,2),(63,3)]
 refine z [9,4,5] ?_
 refine b fun r7 h8=>?_
 refine b fun r9 h10=>?_
 refine b fun r11 h12=>?_
 refine sd ?_
 refine zd [[],[0],[0],[],[0],[],[0],[0],[0],[],[0],[0],[0],[],[0],[0],[0],[],[0],[0],[0],[]] ?_
 refine dd [] (fun _ _ _ _=>c0 (Qw5 _ h8)) ?_
 refine zd [[]] ?_
 refine dd [] (fun _ _ _ _=>c0 (Q2s _ h10)) ?_
 refine zd [[],[0],[0],[],[0]] ?_
 refine dd [] (fun _ _ _ _=>c0 (Qz4 _ h12)) ?_
 refine zd [[],[],[]] ?_
 refine dd [102] (fun _ _ _ _=>al' 102) ?_
 refine zd [[],[102]] ?_
 refine de fol ?_
 refine z [4,5,2,32] ?_
 refine s1 (bld (l:=[i64 0,i64 0,i64 0,i64 0]) pl_50.h ti_50.h Qq rfl rfl) ?_
 refine s1 (neA (p:=(r11.2:Qe)) (q:=((⟨0,0,0,0⟩:Qe):Qe)) K7 rfl eg_50 rfl rfl rfl) ?_
 refine z [1] ?_
 refine c ?_ ?_
 · refine z [2,30,33] ?_
   refine o (stP (Qn (⟨r11.2.Kind,r11.2.Step,x1,r11.2.At⟩:Qe)) [2]) ?_
   refine z [1,2,32,34,1,8,10] ?_
   exact rt [(0,0),(1,1),(2,2),(3,3),(62,2),(63,3)]
 refine z [9,4,2,30,30,48,33,45,36,30] ?_
 refine so (bsl (y:=103) (ls:=List.map Qi ([r3]:List (List Qc))) Tryz.underlying56 ti_46.h rfl rfl rfl rfl rfl ⟨rfl,rfl,(by exact rfl),(by exact rfl),trivial⟩ rfl rfl) ?_
 refine b fun y13 h14=>?_
 refine o (app' 104) ?_
 refine z [48,33,45] ?_
 refine o (stP (.agg [Qz x0_p,Qd x0_t,Qd x0_h,sli 3 (List.map Qd x0_y),.own 1,.agg [.own 104,.own 3,sli 3 (List.map Qd x0_out_Next),sli 3 (List.map Qd x0_out_Err)]]) [5,0]) ?_
 refine z [1,2,30,30,48,33,45,36,30] ?_
 refine so (bsl (y:=105) (ls:=List.map Qi ([r11.1]:List (List Qc))) Tryz.underlying56 ti_46.h rfl rfl rfl rfl rfl ⟨rfl,rfl,(by exact rfl),(by exact rfl),trivial⟩ rfl rfl) ?_
 refine b fun y15 h16=>?_
 refine o (app' 106) ?_
 refine z [48,33,45] ?_
 refine o (stP (.agg [Qz x0_p,Qd x0_t,Qd x0_h,sli 3 (List.map Qd x0_y),.own 1,.agg [.own 104,.own 106,sli 3 (List.map Qd x0_out_Next),sli 3 (List.map Qd x0_out_Err)]]) [5,1]) ?_
 refine z [1,2,32,34,1,8] ?_
 exact rt [(0,0),(1,1),(2,2),(3,3),(62,104),(63,106)]
theorem Q2t{n:Nat}{x0}{x1}:∀ r,Qmi n x0 x1=some r->FnOk Tryz.prog 197 [sli 3 (List.map Qd x0),sli 3 (List.map Qd x1)] [] (.tup [sli 3 (List.map Qd r.1),bl r.2]) []:=by
 unfold Qmi
 refine fs Tryz.func197 fun w S0 γ hγ=>?_
 refine z [2] ?_
 refine s1 (asg rfl (kLm (k:=3) Qd)) ?_
 refine z [31,1,2,30] ?_
 refine cb (ca Vv) fun r1=>?_
 refine z [30] ?_
 refine cb (ca Qju) fun r3=>?_
 refine so (bsl (y:=100) (ls:=List.map Qi ([x0,r3]:List (List Qc))) Tryz.underlying56 ti_46.h rfl rfl rfl rfl rfl ⟨rfl,rfl,(by exact rfl),(by exact rfl),rfl,rfl,(by exact rfl),(by exact rfl),trivial⟩ rfl rfl) ?_
 refine fz 100 [10] [] ?_
 refine cb (ca Qwb) fun r5=>?_
 refine z [35,35,31,31,1,8] ?_
 exact rt []
theorem Qyq{n:Nat}{x0}:∀ r,Qds n x0=some r->FnOk Tryz.prog 147 [Jh x0] [] (sli 3 (List.map Qd r)) []:=by
 unfold Qds
 refine fs Tryz.func147 fun w S0 γ hγ=>?_
 refine z [2] ?_
 refine o (bx' 100) ?_
 refine s1 (asg rfl (kLm (k:=3) Qd)) ?_
 refine z [1,5] ?_
 refine sjq (fun s5=>[(1,.own 100),(2,sli 3 (List.map Qd ([]:List Qc))),(13,bl s5)]) (fun s5=>[(100,.bx 58 (Jh x0))]) ?_ ?_
 · intro j3 hj4
   refine z [6,32] ?_
   refine cb (ca Qnx) fun r6=>?_
   refine z [44,30] ?_
   refine sifd 8 rfl ?_ ?_
   · refine z [23,23,23,23,38,1] ?_
     exact sj (hj4 _) (eR [(100,100)])
   refine z [22,22,22,22,37,1] ?_
   exact sj (hj4 _) (eR [(100,100)])
 intro s5
 refine c ?_ ?_
 · refine z [2] ?_
   refine s1 (asg rfl (kLm (k:=3) Qd)) ?_
   refine z [1,8,10] ?_
   exact rt []
 refine z [9,4,2,33,36,33,36] ?_
 refine cb (ca Q2t) fun r8=>?_
 refine z [30,35,35,31,31,1,2,30,31,1,8] ?_
 exact rt []
theorem Qp6{n:Nat}{x0_p}{x0_t}{x0_h}{x0_y}{x0_g}{x0_out_Ys}{x0_out_Ks}{x0_out_Next}{x0_out_Err}:∀ r,Qaq n x0_p x0_t x0_h x0_y x0_g x0_out_Ys x0_out_Ks x0_out_Next x0_out_Err=some r->FnOk Tryz.prog 87 [.own 0] [(0,.bx 164 (.agg [Qz x0_p,Qd x0_t,Qd x0_h,sli 3 (List.map Qd x0_y),.own 1,.agg [.own 2,.own 3,sli 3 (List.map Qd x0_out_Next),sli 3 (List.map Qd x0_out_Err)]])),(1,.bx 226 (Qo x0_g)),(2,.sl 46 1 (List.map Qi x0_out_Ys)),(3,.sl 46 1 (List.map Qi x0_out_Ks))] (Qn r.1) [(0,.bx 164 (.agg [Qz r.2.1,Qd r.2.2.1,Qd r.2.2.2.1,sli 3 (List.map Qd r.2.2.2.2.1),.own 1,.agg [.own 62,.own 63,sli 3 (List.map Qd r.2.2.2.2.2.1),sli 3 (List.map Qd r.2.2.2.2.2.2.1)]])),(1,.bx 226 (Qo r.2.2.2.2.2.2.2.1)),(2,.gone),(3,.gone),(62,.sl 46 1 (List.map Qi r.2.2.2.2.2.2.2.2.1)),(63,.sl 46 1 (List.map Qi r.2.2.2.2.2.2.2.2.2))]:=by
 unfold Qaq
 refine fs Tryz.func87 fun w S0 γ hγ=>?_
 refine z [2] ?_
 refine o (al' 100) ?_
 refine z [1,2,30,48,33,45,36] ?_
 refine o (al' 101) ?_
 refine z [34,1,5,2,33,36,39,30,1,7] ?_
 refine srN (fun s14=>[(0,.own 0),(2,.own 100),(3,.own 101)]) (fun s14=>[(2,.gone),(3,.gone),(0,.bx 164 (.agg [Qz s14.1,Qd s14.2.1,Qd s14.2.2.1,sli 3 (List.map Qd s14.2.2.2.1),.own 1,.agg [.own 102,.own 103,sli 3 (List.map Qd s14.2.2.2.2.2.2.2.1),sli 3 (List.map Qd s14.2.2.2.2.2.2.2.2)]])),(1,.bx 226 (Qo s14.2.2.2.2.1)),(102,.sl 46 1 (List.map Qi s14.2.2.2.2.2.1)),(103,.sl 46 1 (List.map Qi s14.2.2.2.2.2.2.1)),(100,.bx 50 (Qn (⟨0,0,0,0⟩:Qe))),(101,.bx 58 (Jh x0_p.Scheme))]) (rE (eR [(2,2),(3,3),(0,0),(1,1),(102,2),(103,3),(100,100),(101,101)])) ?_ ?_
 · intro i15 x16 s14 hx17
   refine z [7,2,30,31,1,2,30,30] ?_
   refine b fun r18 h19=>?_
   refine o (cG (Qnz _ h19) [0,1,102,103] [(104,62),(105,63)] []) ?_
   refine o (al' 106) ?_
   refine z [34,1,2,32] ?_
   refine s1 (bld (l:=[i64 0,i64 0,i64 0,i64 0]) pl_50.h ti_50.h Qq rfl rfl) ?_
   refine s1 (neA (p:=(r18.1:Qe)) (q:=((⟨0,0,0,0⟩:Qe):Qe)) K7 rfl eg_50 rfl rfl rfl) ?_
   refine z [1] ?_
   refine c ?_ ?_
   · refine z [2,32,34,1,8,12] ?_
     refine sU ?_
     refine z [12,10] ?_
     exact rt [(0,0),(1,1),(2,2),(3,3),(62,104),(63,105)]
   refine z [9,11] ?_
   exact sgo (eR [(2,2),(3,3),(0,0),(1,1),(102,104),(103,105),(100,100),(101,101)])
 intro s20
 refine z [13,4,2,30,30,33,36] ?_
 refine b fun r21 h22=>?_
 refine o (cG (Qif _ h22) [0,1,102,103] [] [0,1,102,103]) ?_
 refine z [48,33,45] ?_
 refine o (stP (.agg [Qz s20.1,Qd s20.2.1,Qd s20.2.2.1,sli 3 (List.map Qd s20.2.2.2.1),.own 1,.agg [.own 102,.own 103,sli 3 (List.map Qd r21),sli 3 (List.map Qd s20.2.2.2.2.2.2.2.2)]]) [5,2]) ?_
 refine z [1,5,5] ?_
 refine b fun r23 h24=>?_
 refine sd ?_
 refine zd [[],[],[0],[0],[],[0],[101],[101],[]] ?_
 refine dd [0,1,102,103] (fun _ _ _ _=>cG (Qek _ h24) [0,1,102,103] [] [0,102,103]) ?_
 refine dd [104] (fun _ _ _ _=>al' 104) ?_
 refine zd [[104]] ?_
 refine de fol ?_
 refine z [4,2,32] ?_
 refine s1 (bld (l:=[i64 0,i64 0,i64 0,i64 0]) pl_50.h ti_50.h Qq rfl rfl) ?_
 refine s1 (neA (p:=(r23.1:Qe)) (q:=((⟨0,0,0,0⟩:Qe):Qe)) K7 rfl eg_50 rfl rfl rfl) ?_
 refine z [1] ?_
 refine c ?_ ?_
 · refine z [2,32,34,1,8,10] ?_
   exact rt [(0,0),(1,1),(2,2),(3,3),(62,102),(63,103)]
 refine z [9,4] ?_
 refine sjq (fun s31=>[(0,.own 0),(2,.own 100),(3,.own 101)]) (fun s31=>[(2,.gone),(3,.gone),(0,.bx 164 (.agg [Qz s20.1,Qd s20.2.1,Qd s20.2.2.1,sli 3 (List.map Qd s20.2.2.2.1),.own 1,.agg [.own 102,.own 103,sli 3 (List.map Qd r21),sli 3 (List.map Qd s31)]])),(1,.bx 226 (Qo r23.2)),(102,.sl 46 1 (List.map Qi s20.2.2.2.2.2.1)),(103,.sl 46 1 (List.map Qi s20.2.2.2.2.2.2.1)),(100,.bx 50 (Qn (⟨0,0,0,0⟩:Qe))),(101,.bx 58 (Jh x0_p.Scheme))]) ?_ ?_
 · intro j29 hj30
   refine z [2,32] ?_
   refine cb (ca Qyq) fun r32=>?_
   refine z [31,1,2,30,39,47,1] ?_
   refine c ?_ ?_
   · refine z [6,30,30,30] ?_
     refine b fun r34 h35=>?_
     refine o (cG (Qgo _ h35) [0,1,102,103] [] [0,1,102,103]) ?_
     refine z [48,33,45] ?_
     refine o (stP (.agg [Qz s20.1,Qd s20.2.1,Qd s20.2.2.1,sli 3 (List.map Qd s20.2.2.2.1),.own 1,.agg [.own 102,.own 103,sli 3 (List.map Qd r21),sli 3 (List.map Qd r34)]]) [5,3]) ?_
     refine z [1] ?_
     exact sj (hj30 _) (eR [(2,2),(3,3),(0,0),(1,1),(102,102),(103,103),(100,100),(101,101)])
   refine z [9,4] ?_
   exact sj (hj30 _) (eR [(2,2),(3,3),(0,0),(1,1),(102,102),(103,103),(100,100),(101,101)])
 intro s31
 refine z [5] ?_
 refine b fun r36 h37=>?_
 refine sd ?_
 refine zd [[],[],[0],[0],[],[0],[101],[101],[],[]] ?_
 refine dd [0,1,102,103] (fun _ _ _ _=>cG (Qek _ h37) [0,1,102,103] [] [0,102,103]) ?_
 refine zd [[100]] ?_
 refine de fol ?_
 refine z [4,8] ?_
 exact rt [(0,0),(1,1),(2,2),(3,3),(62,102),(63,103)]
theorem Qwc{n:Nat}{x0}{x1}{x2}{x3}:∀ r,Qft n x0 x1 x2 x3=some r->FnOk Tryz.prog 45 [Qz x0,Qd x1,Qd x2,sli 3 (List.map Qd x3)] [] (.tup [Qjs r.1,Qn r.2]) []:=by
 unfold Qft
 refine fs Tryz.func45 fun w S0 γ hγ=>?_
 refine z [2] ?_
 refine o (bx' 100) ?_
 refine o (bx' 101) ?_
 refine o (bx' 102) ?_
 refine o (al' 103) ?_
 refine o (al' 104) ?_
 refine z [1,5] ?_
 refine sjq (fun s5=>[(3,sli 3 (List.map Qd x3)),(4,.own 100),(5,.own 101),(6,.own 102),(8,.own 103),(9,.own 104),(22,bl s5)]) (fun s5=>[(100,.bx 60 (Qz x0)),(101,.bx 45 (Qd x1)),(102,.bx 45 (Qd x2)),(103,.bx 108 (Qjs (⟨[],[],[],[]⟩:Z3))),(104,.bx 50 (Qn (⟨0,0,0,0⟩:Qe)))]) ?_ ?_
 · intro j3 hj4
   refine z [6,32] ?_
   refine cb (ca Qlr) fun r6=>?_
   refine z [44,30] ?_
   refine sifd 15 rfl ?_ ?_
   · refine z [23,23,23,23,23,23,38,1] ?_
     exact sj (hj4 _) (eR [(100,100),(101,101),(102,102),(103,103),(104,104)])
   refine z [22,22,22,22,22,22,37,1] ?_
   exact sj (hj4 _) (eR [(100,100),(101,101),(102,102),(103,103),(104,104)])
 intro s5
 refine c ?_ ?_
 · refine z [2] ?_
   refine s1 (bld (l:=[sli 1 (List.map Qi []),sli 1 (List.map Qi []),sli 3 (List.map Qd []),sli 3 (List.map Qd [])]) Q2j.h Qqj.h Qlh rfl rfl) ?_
   refine s1 (bld (l:=[i64 (2:Int),i64 0,i64 0,i64 0]) pl_50.h ti_50.h Qq ⟨_,_,_,(kI (x:=2) rfl),rfl,rfl,rfl,(szk (k:=1) rfl rfl),rfl⟩ rfl) ?_
   refine z [34,34,1,8,10] ?_
   exact rt []
 refine z [9,4,5] ?_
 refine b fun r8 h9=>?_
 refine sd ?_
 refine zd [[100],[101],[102],[],[100],[100]] ?_
 refine dd [105] (fun _ _ _ _=>cG (Qr8 _ h9) [] [(105,50)] []) ?_
 refine dx [25,26,27,28,31] [106,107] (fun st mm ⟨a25,a26,a27,a28,a31,_⟩ ⟨g106,g107,_⟩=>og (bldO (l:=[Qz x0,Qd x1,Qd x2,sli 3 (List.map Qd x3),.own 105,.agg [.own 106,.own 107,sli 3 (List.map Qd []),sli 3 (List.map Qd [])]]) [(106,46,1),(107,46,1)] Q6w.h Q6v.h (Qgc (Jx (c1:=[.slice none 0 0,.slice none 0 0,.int .i64 0,.int .i64 0,.string ⟨#[]⟩,.slice none 0 0,.slice none 0 0,.slice none 0 0,.slice none 0 0,.slice none 0 0,.int .i64 0]) (zo_of Qe9) (Jx (c1:=[.bool false,.slice none 0 0,.slice none 0 0]) (zo_of K2) (Jx (c1:=[.bool false,.slice none 0 0,.slice none 0 0]) (zo_of K2) (Jx (c1:=[.slice none 0 0]) (zo_of (Kd (k:=3))) (Jx (c1:=[.pointer none]) (zo_of Qtb) (Jx (c1:=[.slice none 0 0,.slice none 0 0,.slice none 0 0,.slice none 0 0]) (Qgc (Jx (c1:=[.slice none 0 0]) (Qen rfl) (Jx (c1:=[.slice none 0 0]) (Qen rfl) (Jx (c1:=[.slice none 0 0]) (zo_of (Kd (k:=3))) (Jx (c1:=[.slice none 0 0]) (zo_of (Kd (k:=3))) (Qew)))))) (Qew)))))))) ⟨(g106.trans rfl),(g107.trans rfl),trivial⟩ rfl ⟨_,_,_,(a25.trans rfl),rfl,rfl,rfl,(szk (k:=11) rfl rfl),⟨_,_,_,(a26.trans rfl),rfl,rfl,rfl,(szk (k:=3) rfl rfl),⟨_,_,_,(a27.trans rfl),rfl,rfl,rfl,(szk (k:=3) rfl rfl),⟨_,_,_,(a28.trans rfl),rfl,rfl,rfl,(szk (k:=1) rfl rfl),⟨_,_,_,(a31.trans rfl),rfl,rfl,rfl,(szk (k:=1) rfl rfl),rfl⟩⟩⟩⟩⟩ rfl)) ?_
 refine dd [108] (fun _ _ _ _=>bx' 108) ?_
 refine zd [[]] ?_
 refine de fol ?_
 refine z [4,5,2,30] ?_
 refine b fun r10 h11=>?_
 refine o (cG (Qp6 _ h11) [108,105,106,107] [(109,62),(110,63)] []) ?_
 refine o (al' 111) ?_
 refine z [34,1,2,32] ?_
 refine s1 (bld (l:=[i64 0,i64 0,i64 0,i64 0]) pl_50.h ti_50.h Qq rfl rfl) ?_
 refine s1 (neA (p:=(r10.1:Qe)) (q:=((⟨0,0,0,0⟩:Qe):Qe)) K7 rfl eg_50 rfl rfl rfl) ?_
 refine z [1] ?_
 refine c ?_ ?_
 · refine z [5] ?_
   refine sd ?_
   refine dx [] [] (fun st mm _ _=>og (bld (l:=[sli 1 (List.map Qi []),sli 1 (List.map Qi []),sli 3 (List.map Qd []),sli 3 (List.map Qd [])]) Q2j.h Qqj.h Qlh rfl rfl)) ?_
   refine zd [[111],[103],[104]] ?_
   refine de fol ?_
   refine z [4,8,10] ?_
   exact rt []
 refine z [9,4,2,30,48,33,36] ?_
 refine s1 (bld (l:=[i64 0,i64 0,i64 0,i64 0]) pl_50.h ti_50.h Qq rfl rfl) ?_
 refine z [34,34,1,8] ?_
 refine fz 109 [44] [103,108] ?_
 refine fz 110 [44] [103,108] ?_
 exact rt []
theorem Q1m{n:Nat}{x0}:∀ r,Qh7 n x0=some r->FnOk Tryz.prog 89 [Qd x0] [] (Qd r) []:=by
 unfold Qh7
 refine fs Tryz.func89 fun w S0 γ hγ=>?_
 refine z [2] ?_
 refine o (bx' 100) ?_
 refine o (al' 101) ?_
 refine z [1,2,32] ?_
 refine cb (ca Wh) fun r1=>?_
 refine o (al' 102) ?_
 refine z [34,1,2,33,45] ?_
 refine o (stP (Qd (⟨(⟨false,r1.Num.Abs⟩:Qf),r1.Den⟩:Qc)) [0,0]) ?_
 refine z [1,2,32,34,1,8] ?_
 exact rt []
theorem Q1n{n:Nat}{x0}:∀ r,Qh8 n x0=some r->FnOk Tryz.prog 88 [sli 3 (List.map Qd x0)] [] (Qd r) []:=by
 unfold Qh8
 refine fs Tryz.func88 fun w S0 γ hγ=>?_
 refine z [2] ?_
 refine o (al' 100) ?_
 refine z [1,2] ?_
 refine cb (ca Vv) fun r1=>?_
 refine o (al' 101) ?_
 refine z [34,1,5,2,30,39,30,1,7] ?_
 refine srN (fun s30=>[(2,.own 100),(3,.own 101),(7,sli 3 (List.map Qd x0))]) (fun s30=>[(100,.bx 45 (Qd (⟨(⟨false,[]⟩:Qf),[]⟩:Qc))),(101,.bx 45 (Qd s30))]) (rE (eR [(100,100),(101,101)])) ?_ ?_
 · intro i31 x32 s30 hx33
   refine z [7,2,30,43,42] ?_
   refine o (al' 102) ?_
   refine z [31,34,1] ?_
   refine sjq (fun s38=>[(2,.own 100),(3,.own 101),(5,.own 102),(7,sli 3 (List.map Qd x0)),(8,i64 (x0.length:Int)),(9,i64 (i31:Int)),(21,bl s38)]) (fun s38=>[(100,.bx 45 (Qd (⟨(⟨false,[]⟩:Qf),[]⟩:Qc))),(101,.bx 45 (Qd s30)),(102,.bx 45 (Qd x32))]) ?_ ?_
   · intro j36 hj37
     refine z [6,30,41,30] ?_
     refine sifd 16 rfl ?_ ?_
     · refine z [23,23,23,23,38,1] ?_
       exact sj (hj37 _) (eR [(100,100),(101,101),(102,102)])
     refine z [22,22] ?_
     refine b fun r39 h40=>?_
     refine og' (c0 (Qo5 _ h40)) ?_
     refine z [22,37,1] ?_
     exact sj (hj37 _) (eR [(100,100),(101,101),(102,102)])
   intro s38
   refine c ?_ ?_
   · refine z [6,32] ?_
     refine cb (ca Wh) fun r41=>?_
     refine z [34,3,11] ?_
     exact sgo (eR [(100,100),(101,101)])
   refine z [9,11] ?_
   exact sgo (eR [(100,100),(101,101)])
 intro s43
 refine z [13,4,2,32,34,1,8] ?_
 exact rt []
theorem Qtn{n:Nat}{x0}:∀ r,Qcw n x0=some r->FnOk Tryz.prog 46 [sli 3 (List.map Qd x0)] [] (Qd r) []:=by
 unfold Qcw
 refine fs Tryz.func46 fun w S0 γ hγ=>?_
 refine z [2] ?_
 refine o (al' 100) ?_
 refine z [1,2] ?_
 refine cb (ca Vv) fun r1=>?_
 refine o (al' 101) ?_
 refine z [34,1,5,2,30,39,30,1,7] ?_
 refine srN (fun s22=>[(2,.own 100),(3,.own 101),(7,sli 3 (List.map Qd x0))]) (fun s22=>[(100,.bx 45 (Qd (⟨(⟨false,[]⟩:Qf),[]⟩:Qc))),(101,.bx 45 (Qd s22))]) (rE (eR [(100,100),(101,101)])) ?_ ?_
 · intro i23 x24 s22 hx25
   refine z [7,2,43,42] ?_
   refine o (al' 102) ?_
   refine z [34,1] ?_
   refine b fun r26 h27=>?_
   refine b fun r28 h29=>?_
   refine sd ?_
   refine zd [[101],[102]] ?_
   refine dd [] (fun _ _ _ _=>c0 (Q1m _ h27)) ?_
   refine dx [13,15] [103] (fun st mm ⟨a13,a15,_⟩ ⟨g103,_⟩=>og (toV (bsl (y:=103) (ls:=List.map Qd ([s22,r26]:List Qc)) Tryz.underlying46 ti_45.h rfl rfl rfl rfl rfl ⟨rfl,(a13.trans rfl),(by exact rfl),(by exact rfl),rfl,(a15.trans rfl),(by exact rfl),(by exact rfl),trivial⟩ (g103.trans rfl) rfl) (Jk (f:=Qd) (fun _=>Jr) ([s22,r26]:List Qc)))) ?_
   refine dd [] (fun _ _ _ _=>c0 (Q1n _ h29)) ?_
   refine zd [[101]] ?_
   refine de fol ?_
   refine z [11] ?_
   exact sgo (eR [(100,100),(101,101)])
 intro s30
 refine z [13,4,2,32,34,1,8] ?_
 exact rt []
theorem Qpq{n:Nat}{x0}{x1}{x2}{x3}:∀ r,Qaj n x0 x1 x2 x3=some r->FnOk Tryz.prog 10 [Qz x0,Qd x1,sli 3 (List.map Qd x2),sli 3 (List.map Qd x3)] [] (.tup [Jw r.1,Qn r.2]) []:=by
 unfold Qaj
 refine fs Tryz.func10 fun w S0 γ hγ=>?_
 refine z [2] ?_
 refine o (bx' 100) ?_
 refine o (bx' 101) ?_
 refine o (al' 102) ?_
 refine o (al' 103) ?_
 refine z [1,5] ?_
 refine sjq (fun s7=>[(2,sli 3 (List.map Qd x2)),(3,sli 3 (List.map Qd x3)),(4,.own 100),(5,.own 101),(8,.own 102),(9,.own 103),(30,bl s7)]) (fun s7=>[(100,.bx 60 (Qz x0)),(101,.bx 45 (Qd x1)),(102,.bx 48 (Jw (⟨[],(⟨(⟨false,[]⟩:Qf),[]⟩:Qc),[]⟩:Jd))),(103,.bx 50 (Qn (⟨0,0,0,0⟩:Qe)))]) ?_ ?_
 · intro j5 hj6
   refine z [6,32] ?_
   refine cb (ca Qlr) fun r8=>?_
   refine z [44,30] ?_
   refine sifd 18 rfl ?_ ?_
   · refine z [23,23,23,23,23,23,38,30,23,23,23,38,1] ?_
     exact sj (hj6 _) (eR [(100,100),(101,101),(102,102),(103,103)])
   refine z [22,22,22,22,22,22,37,30] ?_
   refine sifd 26 rfl ?_ ?_
   · refine z [23,23,23,38,1] ?_
     exact sj (hj6 _) (eR [(100,100),(101,101),(102,102),(103,103)])
   refine z [22] ?_
   refine b fun r10 h11=>?_
   refine og' (c0 (Qr7 _ h11)) ?_
   refine z [22,37,1] ?_
   exact sj (hj6 _) (eR [(100,100),(101,101),(102,102),(103,103)])
 intro s7
 refine c ?_ ?_
 · refine z [2] ?_
   refine s1 (bld (l:=[sli 14 (List.map Zl []),Qd (⟨(⟨false,[]⟩:Qf),[]⟩:Qc),sli 3 (List.map Qd [])]) pl_48.h ti_48.h Qbb rfl rfl) ?_
   refine s1 (bld (l:=[i64 (2:Int),i64 0,i64 0,i64 0]) pl_50.h ti_50.h Qq ⟨_,_,_,(kI (x:=2) rfl),rfl,rfl,rfl,(szk (k:=1) rfl rfl),rfl⟩ rfl) ?_
   refine z [34,34,1,8,10] ?_
   exact rt []
 refine z [9,4,2,32] ?_
 refine cb (ca Wh) fun r12=>?_
 refine cb (ca Vv) fun r14=>?_
 refine z [30] ?_
 refine cb (ca Qju) fun r16=>?_
 refine so (bldO (l:=[.own 104,Qd r12,sli 3 (List.map Qd r16)]) [(104,113,14)] pl_48.h ti_48.h (Qgc (Jx (c1:=[.slice none 0 0]) (Qen rfl) (Jx (c1:=[.bool false,.slice none 0 0,.slice none 0 0]) (zo_of K2) (Jx (c1:=[.slice none 0 0]) (zo_of (Kd (k:=3))) (Qew))))) ⟨rfl,trivial⟩ rfl ⟨_,_,_,rfl,rfl,rfl,rfl,(szk (k:=3) rfl rfl),⟨_,_,_,rfl,rfl,rfl,rfl,(szk (k:=1) rfl rfl),rfl⟩⟩ rfl) ?_
 refine o (al' 105) ?_
 refine z [34,1,5,2,30,39,30,1,7] ?_
 refine srN (fun s47=>[(4,.own 100),(8,.own 102),(9,.own 103),(10,.own 105),(39,sli 3 (List.map Qd x3))]) (fun s47=>[(100,.bx 60 (Qz x0)),(102,.bx 48 (Jw (⟨[],(⟨(⟨false,[]⟩:Qf),[]⟩:Qc),[]⟩:Jd))),(103,.bx 50 (Qn (⟨0,0,0,0⟩:Qe))),(105,.bx 48 (.agg [.own 104,Qd s47.2.1,sli 3 (List.map Qd s47.2.2)])),(104,.sl 113 14 (List.map Zl s47.1))]) (rE (eR [(100,100),(102,102),(103,103),(105,105),(104,104)])) ?_ ?_
 · intro i48 x49 s47 hx50
   refine z [7,2,30,43,42] ?_
   refine o (al' 106) ?_
   refine z [31,34,1,2,32] ?_
   refine cb (ca Wh) fun r51=>?_
   refine z [34,1,2,32,33,36,32,33,36] ?_
   refine cb (ca Qwc) fun r53=>?_
   refine z [30,35,35] ?_
   refine o (al' 107) ?_
   refine o (al' 108) ?_
   refine z [34,34,1,5,2,32] ?_
   refine s1 (bld (l:=[i64 0,i64 0,i64 0,i64 0]) pl_50.h ti_50.h Qq rfl rfl) ?_
   refine s1 (neA (p:=(r53.2:Qe)) (q:=((⟨0,0,0,0⟩:Qe):Qe)) K7 rfl eg_50 rfl rfl rfl) ?_
   refine z [1] ?_
   refine c ?_ ?_
   · refine z [2,30,40,33] ?_
     refine o (stP (Qn (⟨r53.2.Kind,wrap64 ((i48:Int)+(1:Int)),r53.2.Stage,r53.2.At⟩:Qe)) [1]) ?_
     refine z [1,5] ?_
     refine sd ?_
     refine dx [] [] (fun st mm _ _=>og (bld (l:=[sli 14 (List.map Zl []),Qd (⟨(⟨false,[]⟩:Qf),[]⟩:Qc),sli 3 (List.map Qd [])]) pl_48.h ti_48.h Qbb rfl rfl)) ?_
     refine zd [[108],[102],[103]] ?_
     refine de fol ?_
     refine z [4,8,10,12] ?_
     refine sU ?_
     refine z [12,10] ?_
     exact rt []
   refine z [9,4,5] ?_
   refine b fun r55 h56=>?_
   refine b fun y57 h58=>?_
   refine sd ?_
   refine zd [[105],[105],[105],[105],[106],[106],[107],[107]] ?_
   refine dd [] (fun _ _ _ _=>c0 (Qtn _ h56)) ?_
   refine zd [[105],[105]] ?_
   refine dx [69,70,71,74,76] [] (fun st mm ⟨a69,a70,a71,a74,a76,_⟩ _=>og (bld (l:=[Qd s47.2.1,Qd r51,Qd r51,Qd r55,sli 3 (List.map Qd s47.2.2),bl true]) Q2n.h Qnu.h Qna ⟨_,_,_,(a69.trans rfl),rfl,rfl,rfl,(szk (k:=3) rfl rfl),⟨_,_,_,(a70.trans rfl),rfl,rfl,rfl,(szk (k:=3) rfl rfl),⟨_,_,_,(a71.trans rfl),rfl,rfl,rfl,(szk (k:=3) rfl rfl),⟨_,_,_,(a74.trans rfl),rfl,rfl,rfl,(szk (k:=3) rfl rfl),⟨_,_,_,(a76.trans rfl),rfl,rfl,rfl,(szk (k:=1) rfl rfl),⟨_,_,_,kB,rfl,rfl,rfl,(szk (k:=1) rfl rfl),rfl⟩⟩⟩⟩⟩⟩ rfl)) ?_
   refine dx [77] [109] (fun st mm ⟨a77,_⟩ ⟨g109,_⟩=>og (bsl (y:=109) (ls:=List.map Zl ([(⟨s47.2.1,r51,r51,r55,s47.2.2,true⟩:J5)]:List J5)) Tryz.underlying41 Qnu.h rfl rfl rfl rfl rfl ⟨rfl,(a77.trans rfl),(by exact rfl),(by exact rfl),trivial⟩ (g109.trans rfl) rfl)) ?_
   refine dd [104,109,110] (fun _ _ _ _=>app' 110) ?_
   refine zd [[105]] ?_
   refine dd [105] (fun _ _ _ _=>stP (.agg [.own 110,Qd s47.2.1,sli 3 (List.map Qd s47.2.2)]) [0]) ?_
   refine de fol ?_
   refine z [4] ?_
   refine b fun r59 h60=>?_
   refine sd ?_
   refine zd [[105],[105],[106]] ?_
   refine dd [] (fun _ _ _ _=>c0 (Qej _ h60)) ?_
   refine zd [[107],[107],[105]] ?_
   refine dd [105] (fun _ _ _ _=>stP (.agg [.own 110,Qd r59,sli 3 (List.map Qd s47.2.2)]) [1]) ?_
   refine zd [[105]] ?_
   refine dd [105] (fun _ _ _ _=>stP (.agg [.own 110,Qd r59,sli 3 (List.map Qd r53.1.Next)]) [2]) ?_
   refine de fol ?_
   refine z [11] ?_
   exact sgo (eR [(100,100),(102,102),(103,103),(105,105),(104,110)])
 intro s61
 refine z [13,4,2,32] ?_
 refine s1 (bld (l:=[i64 0,i64 0,i64 0,i64 0]) pl_50.h ti_50.h Qq rfl rfl) ?_
 refine z [34,34,1,8] ?_
 refine fz 104 [90] [102,105] ?_
 exact rt []
theorem Qw6{n:Nat}{x0}:∀ r,Qj7 n x0=some r->FnOk Tryz.prog 182 [u32 x0] [] (str r) []:=by
 unfold Qj7
 refine fs Tryz.func182 fun w S0 γ hγ=>?_
 refine z [2,31,1,2] ?_
 refine o (al' 100) ?_
 refine z [1,5,2,31,1,7] ?_
 refine sloopE 0 (fun t=>t) (fun s7=>[(0,u32 s7.1),(2,str ([]:List UInt8)),(3,.own 100),(4,i64 s7.2.2)]) (fun s7=>[(100,.bx 304 (Qk2 s7.2.1))]) (fun t5=>[(2,str ([]:List UInt8)),(3,.own 100)]) (fun t5=>[(100,.bx 304 (Qk2 t5))]) (eR [(100,100)]) ?_ ?_
 · intro hj6 s7
   refine z [5,2,30,57,1] ?_
   refine c ?_ ?_
   · refine z [9,4,5,7,2,30,30,81,61,60] ?_
     refine b fun y8 h9=>?_
     refine s1 (ixAO Tryz.underlying304 ti_5.h (Qx0 (n:=9) rfl h9) (.inr ⟨rfl,rfl,_,_,rfl⟩) rfl rfl rfl) ?_
     refine so (stB2 (ly:=.agg (List.map u8 ([s7.2.1.a0,s7.2.1.a1,s7.2.1.a2,s7.2.1.a3,s7.2.1.a4,s7.2.1.a5,s7.2.1.a6,s7.2.1.a7,s7.2.1.a8]:List Nat))) (ly2:=Qk2 (Qqf (List.set ([s7.2.1.a0,s7.2.1.a1,s7.2.1.a2,s7.2.1.a3,s7.2.1.a4,s7.2.1.a5,s7.2.1.a6,s7.2.1.a7,s7.2.1.a8]:List Nat) (Int.toNat s7.2.2) (((48+(s7.1%10))%4294967296)%256)))) (ln:=u8 (((48+(s7.1%10))%4294967296)%256)) [Int.toNat s7.2.2] (puA0 (f:=u8) h9 (Qye _ (List.length_set.trans rfl))) rfl (goA0 (f:=u8) (fun _=>rfl) h9) sh_5.h (by exact rfl) (by exact rfl) (by exact rfl) rfl (.inl rfl) rfl) ?_
     refine z [1,6,30,80,31,3,11,4,6,30,49,31,3] ?_
     exact sgo (eR [(100,100)])
   refine z [14,15] ?_
   exact su (sj (hj6 _) (eR [(100,100)]))
 intro t5
 refine z [13,4,2] ?_
 refine so (slA (f:=u8) (xs:=([t5.a0,t5.a1,t5.a2,t5.a3,t5.a4,t5.a5,t5.a6,t5.a7,t5.a8]:List Nat)) Tryz.underlying304 ti_5.h rfl rfl rfl (fun _=>if_u8) (fun _=>rfl) rfl rfl) ?_
 refine sbn (F:=(fun x=>sli 1 (List.map u8 x))) 17 rfl fun z10=>?_
 refine s1 (cvBS Tryz.underlying212 Tryz.underlying5 Tryz.underlying9 rfl rfl) ?_
 refine z [31,1,8] ?_
 exact rt []
theorem Qpr{n:Nat}{x0}:∀ r,Qgx n x0=some r->FnOk Tryz.prog 135 [sli 1 (List.map u32 x0)] [] (str r) []:=by
 unfold Qgx
 refine fs Tryz.func135 fun w S0 γ hγ=>?_
 refine z [2,31,1,5,2,30] ?_
 refine cb (ca Qid) fun r1=>?_
 refine z [1] ?_
 refine c ?_ ?_
 · refine z [2,31,1,8,10] ?_
   exact rt []
 refine z [9,4,2] ?_
 refine so (asgN (y:=100) (E:=9) (k:=1) rfl rfl) ?_
 refine z [1,5,7] ?_
 refine sloopE 0 (fun t=>t) (fun s23=>[(0,sli 1 (List.map u32 s23.1)),(2,str ([]:List UInt8)),(3,.own 100)]) (fun s23=>[(100,.sl 9 1 (List.map str s23.2))]) (fun t21=>[(2,str ([]:List UInt8)),(3,.own 100)]) (fun t21=>[(100,.sl 9 1 (List.map str t21))]) (eR [(100,100)]) ?_ ?_
 · intro hj22 s23
   refine z [5,2,30] ?_
   refine cb (ca Qid) fun r24=>?_
   refine z [44,1] ?_
   refine c ?_ ?_
   · refine z [9,4,7,2,30] ?_
     refine cb (ca Qr0) fun r26=>?_
     refine z [30,35,35,35,31,31,31,1,2,30,30] ?_
     refine cb (ca Qw6) fun r28=>?_
     refine so (bsl (y:=101) (ls:=List.map str ([r28]:List (List UInt8))) Tryz.underlying151 ti_9.h rfl rfl rfl rfl rfl ⟨rfl,rfl,(by exact rfl),(by exact rfl),trivial⟩ rfl rfl) ?_
     refine b fun y30 h31=>?_
     refine o (app' 102) ?_
     refine z [31,1,6,30,31,3,11] ?_
     exact sgo (eR [(100,102)])
   refine z [14,15] ?_
   exact su (sj (hj22 _) (eR [(100,100)]))
 intro t21
 refine z [13,4,2] ?_
 refine so (alOw (y:=101) (ly:=.agg [.por 101,.own 102]) [(102,5,1)] Q62.h (Qgc (Jx (c1:=[.pointer none]) Q6e (Jx (c1:=[.slice none 0 0]) (Qen rfl) Qew))) ⟨rfl,trivial⟩ rfl rfl rfl) ?_
 refine z [1,5,2,30,55,49,31,1,7] ?_
 refine sloopE 2 (fun t=>t) (fun s44=>[(2,str ([]:List UInt8)),(3,.own 100),(7,.own 101),(8,i64 s44.2)]) (fun s44=>[(100,.sl 9 1 (List.map str t21)),(101,.bx 214 (.agg [.por 101,.own 102])),(102,.sl 5 1 (List.map ub s44.1))]) (fun t42=>[(2,str ([]:List UInt8)),(7,.own 101)]) (fun t42=>[(101,.bx 214 (.agg [.por 101,.own 102])),(102,.sl 5 1 (List.map ub t42))]) (eR [(100,100),(101,101),(102,102)]) ?_ ?_
 · intro hj43 s44
   refine z [5,2,30,57,1] ?_
   refine c ?_ ?_
   · refine z [9,4,5,7,6,30,30] ?_
     refine b fun y45 h46=>?_
     refine z [50,51] ?_
     refine b fun y47 h48=>?_
     refine so (callG (em:=[(103,.sl 5 1 (List.map ub y47)),(101,.bx 214 (.agg [.por 101,.own 103])),(102,.gone)]) (res':=.tup [i64 (y45.length:Int),nilI]) [(0,101),(1,102)] [(103,52)] [(103,52),(101,0)] (Q6q h48) ⟨⟨_,rfl,Ve rfl⟩,⟨_,rfl,rn_id Qnr⟩,trivial⟩ (MiF.get (mi:=[(0,_),(1,_)]) ⟨⟨_,_,rfl,rfl,rc_bx (Zp (Ki (Qem rfl) (Ki (Ve rfl) Wm)))⟩,⟨_,_,rfl,rfl,rc_sl (Jk (f:=ub) (fun _=>if_ub) s44.1)⟩,trivial⟩) ⟨⟨_,rfl⟩,⟨_,rfl⟩,trivial⟩ rfl ⟨rfl,trivial⟩ ⟨.inl rfl,.inr rfl,trivial⟩ rfl ⟨.inl ⟨_,_,rfl,rfl,rc_sl (Jk (f:=ub) (fun _=>if_ub) y47)⟩,.inl ⟨_,_,rfl,rfl,rc_bx (Zp (Ki (Qem rfl) (Ki (Ve rfl) Wm)))⟩,.inr ⟨rfl,1,.tail _ (.head _)⟩,trivial⟩ ⟨⟨_,rfl⟩,⟨_,rfl⟩,trivial⟩ ⟨⟨_,rfl⟩,trivial⟩ (Qdl (Ki (rn_id Qb0) (Ki (rn_id Qul) Wm))) rfl) ?_
     refine z [3,11,4,6,30,49,31,3] ?_
     exact sgo (eR [(100,100),(101,101),(102,103)])
   refine z [14,15] ?_
   exact su (sj (hj43 _) (eR [(101,101),(102,102)]))
 intro t42
 refine z [13,4,2] ?_
 refine so (strOp (id:=101) (id2:=102) rfl rfl rfl rfl rfl) ?_
 refine cb (ca Qqc) fun r49=>?_
 refine z [31,1,8] ?_
 exact rt []
theorem Qyr{n:Nat}{x0}:∀ r,Qle n x0=some r->FnOk Tryz.prog 133 [Q1 x0] [] (str r) []:=by
 unfold Qle
 refine fs Tryz.func133 fun w S0 γ hγ=>?_
 refine z [2] ?_
 refine o (bx' 100) ?_
 refine z [31,1,2,33,36] ?_
 refine cb (ca Qpr) fun r1=>?_
 refine z [31,1,5,2,32] ?_
 refine cb (ca Qie) fun r3=>?_
 refine z [46,1] ?_
 refine c ?_ ?_
 · refine z [2,30] ?_
   refine b fun y5 h6=>?_
   refine z [91,31,1,8,10] ?_
   exact rt []
 refine z [9,4,2,30,31,1,8] ?_
 exact rt []
theorem Qw7{n:Nat}{x0}:∀ r,Qkd n x0=some r->FnOk Tryz.prog 78 [Qd x0] [] (str r) []:=by
 unfold Qkd
 refine fs Tryz.func78 fun w S0 γ hγ=>?_
 refine z [2] ?_
 refine o (bx' 100) ?_
 refine z [31,1,2,32] ?_
 refine cb (ca Wh) fun r1=>?_
 refine z [34,1,2,33,36] ?_
 refine cb (ca Qyr) fun r3=>?_
 refine z [31,1] ?_
 refine sjq (fun s17=>[(2,str ([]:List UInt8)),(3,str s17)]) (fun s17=>[]) ?_ ?_
 · intro j15 hj16
   refine z [5] ?_
   refine b fun r18 h19=>?_
   refine b fun r20 h21=>?_
   refine sd ?_
   refine zd [[100],[100]] ?_
   refine dd [] (fun _ _ _ _=>c0 (Qbi _ h19)) ?_
   refine dd [] (fun _ _ _ _=>c0 (Qhf _ h21)) ?_
   refine zd [[]] ?_
   refine de fol ?_
   refine z [4] ?_
   refine c ?_ ?_
   · refine z [6,30,33,36] ?_
     refine cb (ca Qpr) fun r22=>?_
     refine b fun y24 h25=>?_
     refine z [91] ?_
     refine b fun y26 h27=>?_
     refine z [91,31,1] ?_
     exact sj (hj16 _) (eR [])
   refine z [9,4] ?_
   exact sj (hj16 _) (eR [])
 intro s17
 refine z [2,30,31,1,8] ?_
 exact rt []
theorem Q1o{n:Nat}{x0}:∀ r,Qo0 n x0=some r->FnOk Tryz.prog 40 [sli 3 (List.map Qd x0)] [] (str r) []:=by
 unfold Qo0
 refine fs Tryz.func40 fun w S0 γ hγ=>?_
 refine z [2,31,1,2] ?_
 refine so (asgN (y:=100) (E:=9) (k:=1) rfl rfl) ?_
 refine z [1,5,2,30,39,30,1,7] ?_
 refine srN (fun s18=>[(2,str ([]:List UInt8)),(3,.own 100),(6,sli 3 (List.map Qd x0))]) (fun s18=>[(100,.sl 9 1 (List.map str s18))]) (rE (eR [(100,100)])) ?_ ?_
 · intro i19 x20 s18 hx21
   refine z [7,2,43,42] ?_
   refine o (al' 101) ?_
   refine z [34,1,6,30,32] ?_
   refine cb (ca Qw7) fun r22=>?_
   refine so (bsl (y:=102) (ls:=List.map str ([r22]:List (List UInt8))) Tryz.underlying151 ti_9.h rfl rfl rfl rfl rfl ⟨rfl,rfl,(by exact rfl),(by exact rfl),trivial⟩ rfl rfl) ?_
   refine b fun y24 h25=>?_
   refine o (app' 103) ?_
   refine z [31,3,11] ?_
   exact sgo (eR [(100,103)])
 intro s26
 refine z [13,4,2,30] ?_
 refine b fun r27 h28=>?_
 refine s1 (callL (em:=[]) [100] [] [] [] rfl (Qum _ h28) trivial (Q6c) ⟨.inr ⟨100,rfl,.inl ⟨rfl,.inl ⟨_,_,_,rfl,Jk (f:=str) (fun _=>Qnr) s26,rfl⟩⟩⟩,.inl ⟨_,(kS (s:=[44]) rfl),rn_id Qnr⟩,trivial⟩ (fun _ _ h=>by cases h) trivial rfl trivial trivial rfl trivial trivial trivial (rn_id (Qnr)) rfl) ?_
 refine z [31,1,8] ?_
 exact rt []
theorem Xk{n:Nat}:∀ r,Kk n =some r->FnOk Tryz.prog 9 [] [] (bl r) []:=by
 unfold Kk
 refine fs Tryz.func9 fun w S0 γ hγ=>?_
 refine z [2,31,1,2] ?_
 refine s1 (bld (l:=[i64 (3:Int),i64 0,i64 0,Qd (⟨(⟨false,[]⟩:Qf),[]⟩:Qc)]) pl_95.h ti_95.h Qlf ⟨_,_,_,(kI (x:=3) rfl),rfl,rfl,rfl,(szk (k:=1) rfl rfl),rfl⟩ rfl) ?_
 refine so (bsl (y:=100) (ls:=List.map Kz ([(⟨(3:Int),0,0,(⟨(⟨false,[]⟩:Qf),[]⟩:Qc)⟩:Q0)]:List Q0)) Tryz.underlying53 ti_95.h rfl rfl rfl rfl rfl ⟨rfl,rfl,(by exact rfl),(by exact rfl),trivial⟩ rfl rfl) ?_
 refine sbm (C:=fun x=>.sl 95 6 (List.map Kz x)) 100 rfl fun z1=>?_
 refine so (bsl (y:=101) (ls:=List.map i64 ([(0:Int)]:List Int)) Tryz.underlying23 ti_3.h rfl rfl rfl rfl rfl ⟨rfl,(kI (x:=0) rfl),(by exact rfl),(by exact rfl),trivial⟩ rfl rfl) ?_
 refine fz 100 [9] [] ?_
 refine fz 101 [10] [] ?_
 refine s1 (bld (l:=[sli 6 (List.map Kz z1),sli 1 (List.map i64 ([(0:Int)]:List Int)),i64 (1:Int),i64 0]) pl_55.h ti_55.h Qlg ⟨_,_,_,rfl,rfl,rfl,rfl,(szk (k:=1) rfl rfl),⟨_,_,_,rfl,rfl,rfl,rfl,(szk (k:=1) rfl rfl),⟨_,_,_,(kI (x:=1) rfl),rfl,rfl,rfl,(szk (k:=1) rfl rfl),rfl⟩⟩⟩ rfl) ?_
 refine o (al' 102) ?_
 refine z [34,1,2] ?_
 refine cb (ca Qz2) fun r2=>?_
 refine z [30,35,35] ?_
 refine o (al' 103) ?_
 refine z [34,31,1,2] ?_
 refine cb (ca Qyl) fun r4=>?_
 refine z [30,35,35] ?_
 refine o (al' 104) ?_
 refine z [34,31,1,5] ?_
 refine b fun r14 h15=>?_
 refine b fun r16 h17=>?_
 refine b fun r18 h19=>?_
 refine sd ?_
 refine zd [[102],[103]] ?_
 refine dx [21,22] [] (fun st mm ⟨a21,a22,_⟩ _=>og (bld (l:=[Kl (⟨z1,([(0:Int)]:List Int),(1:Int),0⟩:Qx),Jh r2.1,sli 3 (List.map Qd []),i64 (100:Int)]) pl_60.h ti_60.h Qe9 ⟨_,_,_,(a21.trans rfl),rfl,rfl,rfl,(szk (k:=4) rfl rfl),⟨_,_,_,(a22.trans rfl),rfl,rfl,rfl,(szk (k:=5) rfl rfl),⟨_,_,_,(kI (x:=100) rfl),rfl,rfl,rfl,(szk (k:=1) rfl rfl),rfl⟩⟩⟩ rfl)) ?_
 refine dd [] (fun _ _ _ _=>c0 (Vv _ h15)) ?_
 refine dd [] (fun _ _ _ _=>c0 (Vv _ h17)) ?_
 refine dx [25] [105] (fun st mm ⟨a25,_⟩ ⟨g105,_⟩=>og (toV (bsl (y:=105) (ls:=List.map Qd ([r16]:List Qc)) Tryz.underlying46 ti_45.h rfl rfl rfl rfl rfl ⟨rfl,(a25.trans rfl),(by exact rfl),(by exact rfl),trivial⟩ (g105.trans rfl) rfl) (Jk (f:=Qd) (fun _=>Jr) ([r16]:List Qc)))) ?_
 refine zd [[104],[104]] ?_
 refine dx [27,28] [106] (fun st mm ⟨a27,a28,_⟩ ⟨g106,_⟩=>og (toV (bsl (y:=106) (ls:=List.map Qd ([r4.1,r4.1]:List Qc)) Tryz.underlying46 ti_45.h rfl rfl rfl rfl rfl ⟨rfl,(a27.trans rfl),(by exact rfl),(by exact rfl),rfl,(a28.trans rfl),(by exact rfl),(by exact rfl),trivial⟩ (g106.trans rfl) rfl) (Jk (f:=Qd) (fun _=>Jr) ([r4.1,r4.1]:List Qc)))) ?_
 refine dd [] (fun _ _ _ _=>c0 (Qpq _ h19)) ?_
 refine zd [[],[],[]] ?_
 refine dd [107] (fun _ _ _ _=>al' 107) ?_
 refine dd [108] (fun _ _ _ _=>al' 108) ?_
 refine zd [[107],[108]] ?_
 refine de fol ?_
 refine z [4] ?_
 refine sjq (fun s32=>[(0,bl s32)]) (fun s32=>[]) ?_ ?_
 · intro j30 hj31
   refine sif (fun hb33=>?_) (fun hb33=>?_)
   · refine sif (fun hb34=>?_) (fun hb34=>?_)
     · refine sif (fun hb35=>?_) (fun hb35=>?_)
       · refine b fun r36 h37=>?_
         refine b fun r38 h39=>?_
         refine sif (fun hb40=>?_) (fun hb40=>?_)
         · refine b fun r41 h42=>?_
           refine sd ?_
           refine zd [[]] ?_
           refine dd [] (fun _ _ _ _=>obk hb33 ops) ?_
           refine zd [[108]] ?_
           refine dx [34] [] (fun st mm ⟨a34,_⟩ _=>ogG 34 rfl (a34.trans rfl) (bld (l:=[i64 0,i64 0,i64 0,i64 0]) pl_50.h ti_50.h Qq rfl rfl)) ?_
           refine dx [34,35,36] [] (fun st mm ⟨a34,a35,a36,_⟩ _=>ogG 34 rfl (a34.trans rfl) (eqA (p:=(r18.2:Qe)) (q:=((⟨0,0,0,0⟩:Qe):Qe)) K7 rfl eg_50 rfl (a35.trans rfl) (a36.trans rfl))) ?_
           refine zd [[]] ?_
           refine dd [] (fun _ _ _ _=>obk hb34 ops) ?_
           refine zd [[107],[107],[],[],[]] ?_
           refine dd [] (fun _ _ _ _=>obk hb35 ops) ?_
           refine zd [[107],[107]] ?_
           refine dG [] (fun _ _ _ _=>c0 (Vv _ h37)) ?_
           refine dG [] (fun _ _ _ _=>c0 (Qgn _ h39)) ?_
           refine zd [[]] ?_
           refine dd [] (fun _ _ _ _=>obk hb40 ops) ?_
           refine zd [[107],[107]] ?_
           refine dG [] (fun _ _ _ _=>c0 (Q1o _ h42)) ?_
           refine zd [[],[],[]] ?_
           refine de fol ?_
           refine z [4] ?_
           exact sj (hj31 _) (eR [])
         refine sd ?_
         refine zd [[]] ?_
         refine dd [] (fun _ _ _ _=>obk hb33 ops) ?_
         refine zd [[108]] ?_
         refine dx [34] [] (fun st mm ⟨a34,_⟩ _=>ogG 34 rfl (a34.trans rfl) (bld (l:=[i64 0,i64 0,i64 0,i64 0]) pl_50.h ti_50.h Qq rfl rfl)) ?_
         refine dx [34,35,36] [] (fun st mm ⟨a34,a35,a36,_⟩ _=>ogG 34 rfl (a34.trans rfl) (eqA (p:=(r18.2:Qe)) (q:=((⟨0,0,0,0⟩:Qe):Qe)) K7 rfl eg_50 rfl (a35.trans rfl) (a36.trans rfl))) ?_
         refine zd [[]] ?_
         refine dd [] (fun _ _ _ _=>obk hb34 ops) ?_
         refine zd [[107],[107],[],[],[]] ?_
         refine dd [] (fun _ _ _ _=>obk hb35 ops) ?_
         refine zd [[107],[107]] ?_
         refine dG [] (fun _ _ _ _=>c0 (Vv _ h37)) ?_
         refine dG [] (fun _ _ _ _=>c0 (Qgn _ h39)) ?_
         refine zd [[]] ?_
         refine dd [] (fun _ _ _ _=>obk hb40 ops) ?_
         refine zd [[],[],[],[],[],[]] ?_
         refine de fol ?_
         refine z [4] ?_
         exact sj (hj31 _) (eR [])
       refine sd ?_
       refine zd [[]] ?_
       refine dd [] (fun _ _ _ _=>obk hb33 ops) ?_
       refine zd [[108]] ?_
       refine dx [34] [] (fun st mm ⟨a34,_⟩ _=>ogG 34 rfl (a34.trans rfl) (bld (l:=[i64 0,i64 0,i64 0,i64 0]) pl_50.h ti_50.h Qq rfl rfl)) ?_
       refine dx [34,35,36] [] (fun st mm ⟨a34,a35,a36,_⟩ _=>ogG 34 rfl (a34.trans rfl) (eqA (p:=(r18.2:Qe)) (q:=((⟨0,0,0,0⟩:Qe):Qe)) K7 rfl eg_50 rfl (a35.trans rfl) (a36.trans rfl))) ?_
       refine zd [[]] ?_
       refine dd [] (fun _ _ _ _=>obk hb34 ops) ?_
       refine zd [[107],[107],[],[],[]] ?_
       refine dd [] (fun _ _ _ _=>obk hb35 ops) ?_
       refine zd [[],[],[],[],[],[],[],[],[],[],[],[]] ?_
       refine de fol ?_
       refine z [4] ?_
       exact sj (hj31 _) (eR [])
     refine sd ?_
     refine zd [[]] ?_
     refine dd [] (fun _ _ _ _=>obk hb33 ops) ?_
     refine zd [[108]] ?_
     refine dx [34] [] (fun st mm ⟨a34,_⟩ _=>ogG 34 rfl (a34.trans rfl) (bld (l:=[i64 0,i64 0,i64 0,i64 0]) pl_50.h ti_50.h Qq rfl rfl)) ?_
     refine dx [34,35,36] [] (fun st mm ⟨a34,a35,a36,_⟩ _=>ogG 34 rfl (a34.trans rfl) (eqA (p:=(r18.2:Qe)) (q:=((⟨0,0,0,0⟩:Qe):Qe)) K7 rfl eg_50 rfl (a35.trans rfl) (a36.trans rfl))) ?_
     refine zd [[]] ?_
     refine dd [] (fun _ _ _ _=>obk hb34 ops) ?_
     refine zd [[],[],[],[],[],[],[],[],[],[],[],[],[],[],[],[],[],[]] ?_
     refine de fol ?_
     refine z [4] ?_
     exact sj (hj31 _) (eR [])
   refine sd ?_
   refine zd [[]] ?_
   refine dd [] (fun _ _ _ _=>obk hb33 ops) ?_
   refine zd [[],[],[],[],[],[],[],[],[],[],[],[],[],[],[],[],[],[],[],[],[],[],[]] ?_
   refine de fol ?_
   refine z [4] ?_
   exact sj (hj31 _) (eR [])
 intro s32
 refine z [8] ?_
 exact rt []
theorem Qad{x0}:∀ r,K0 x0=some r->FnOk Tryz.prog 12 [Qb x0] [] (Qd r) []:=by
 unfold K0
 refine fs Tryz.func12 fun w S0 γ hγ=>?_
 refine z [2] ?_
 refine o (bx' 100) ?_
 refine o (al' 101) ?_
 refine z [1,2,33,36,33,36] ?_
 refine s1 (bld (l:=[bl x0.Neg,sli 1 (List.map u32 x0.N)]) pl_43.h ti_43.h Wn ⟨_,_,_,rfl,rfl,rfl,rfl,(szk (k:=1) rfl rfl),⟨_,_,_,rfl,rfl,rfl,rfl,(szk (k:=1) rfl rfl),rfl⟩⟩ rfl) ?_
 refine z [33,36] ?_
 refine s1 (bld (l:=[Q1 (⟨x0.Neg,x0.N⟩:Qf),sli 1 (List.map u32 x0.D)]) pl_45.h ti_45.h K2 ⟨_,_,_,rfl,rfl,rfl,rfl,(szk (k:=2) rfl rfl),⟨_,_,_,rfl,rfl,rfl,rfl,(szk (k:=1) rfl rfl),rfl⟩⟩ rfl) ?_
 refine z [34,1,8] ?_
 exact rt []
theorem Qo8{n:Nat}{x0}:∀ r,Z9 n x0=some r->FnOk Tryz.prog 48 [Jc x0] [] (Kl r) []:=by
 unfold Z9
 refine fs Tryz.func48 fun w S0 γ hγ=>?_
 refine z [2] ?_
 refine o (bx' 100) ?_
 refine o (al' 101) ?_
 refine z [1,5] ?_
 refine b fun y1 h2=>?_
 refine sd ?_
 refine zd [[100],[100],[100],[100]] ?_
 refine dx [] [102] (fun st mm _ ⟨g102,_⟩=>og (bsl (y:=102) (ls:=List.map i64 ([]:List Int)) Tryz.underlying23 ti_3.h rfl rfl rfl rfl rfl trivial (g102.trans rfl) rfl)) ?_
 refine zd [[100],[100]] ?_
 refine dd [102,103] (fun _ _ _ _=>tV (app' 103)) ?_
 refine dx [7,9,13] [104] (fun st mm ⟨a7,a9,a13,_⟩ ⟨g104,_⟩=>og (bldO (l:=[.own 104,sli 1 (List.map i64 y1),i64 x0.Dim,i64 x0.Par]) [(104,95,6)] pl_55.h ti_55.h (Qgc (Jx (c1:=[.slice none 0 0]) (Qen rfl) (Jx (c1:=[.slice none 0 0]) (zo_of (Kd (k:=1))) (Jx (c1:=[.int .i64 0]) (zo_of Vo) (Jx (c1:=[.int .i64 0]) (zo_of Vo) (Qew)))))) ⟨(g104.trans rfl),trivial⟩ rfl ⟨_,_,_,(a7.trans rfl),rfl,rfl,rfl,(szk (k:=1) rfl rfl),⟨_,_,_,(a9.trans rfl),rfl,rfl,rfl,(szk (k:=1) rfl rfl),⟨_,_,_,(a13.trans rfl),rfl,rfl,rfl,(szk (k:=1) rfl rfl),rfl⟩⟩⟩ rfl)) ?_
 refine dd [105] (fun _ _ _ _=>al' 105) ?_
 refine zd [[105]] ?_
 refine de fol ?_
 refine z [4,5,2,31,1,7] ?_
 refine sloopE 0 (fun t=>t) (fun s19=>[(1,.own 100),(2,.own 101),(3,.own 105),(4,i64 s19.2)]) (fun s19=>[(100,.bx 25 (Jc x0)),(101,.bx 55 (Kl (⟨[],[],0,0⟩:Qx))),(105,.bx 55 (.agg [.own 104,sli 1 (List.map i64 y1),i64 x0.Dim,i64 x0.Par])),(104,.sl 95 6 (List.map Kz s19.1))]) (fun t17=>[(2,.own 101),(3,.own 105)]) (fun t17=>[(101,.bx 55 (Kl (⟨[],[],0,0⟩:Qx))),(105,.bx 55 (.agg [.own 104,sli 1 (List.map i64 y1),i64 x0.Dim,i64 x0.Par])),(104,.sl 95 6 (List.map Kz t17))]) (eR [(100,100),(101,101),(105,105),(104,104)]) ?_ ?_
 · intro hj18 s19
   refine z [5,2,30,33,36,39,46,1] ?_
   refine c ?_ ?_
   · refine z [9,4,5,7,2,33,36,30] ?_
     refine b fun y20 h21=>?_
     refine z [43,42] ?_
     refine o (al' 106) ?_
     refine z [34,1] ?_
     refine b fun r22 h23=>?_
     refine b fun y24 h25=>?_
     refine sd ?_
     refine zd [[105],[105],[106],[106],[106],[106],[106],[106],[106],[106]] ?_
     refine dd [] (fun _ _ _ _=>c0 (Qad _ h23)) ?_
     refine dx [30,32,34,37] [] (fun st mm ⟨a30,a32,a34,a37,_⟩ _=>og (bld (l:=[i64 y20.Op,i64 y20.A,i64 y20.B,Qd r22]) pl_95.h ti_95.h Qlf ⟨_,_,_,(a30.trans rfl),rfl,rfl,rfl,(szk (k:=1) rfl rfl),⟨_,_,_,(a32.trans rfl),rfl,rfl,rfl,(szk (k:=1) rfl rfl),⟨_,_,_,(a34.trans rfl),rfl,rfl,rfl,(szk (k:=1) rfl rfl),⟨_,_,_,(a37.trans rfl),rfl,rfl,rfl,(szk (k:=3) rfl rfl),rfl⟩⟩⟩⟩ rfl)) ?_
     refine dx [38] [107] (fun st mm ⟨a38,_⟩ ⟨g107,_⟩=>og (bsl (y:=107) (ls:=List.map Kz ([(⟨y20.Op,y20.A,y20.B,r22⟩:Q0)]:List Q0)) Tryz.underlying53 ti_95.h rfl rfl rfl rfl rfl ⟨rfl,(a38.trans rfl),(by exact rfl),(by exact rfl),trivial⟩ (g107.trans rfl) rfl)) ?_
     refine dd [104,107,108] (fun _ _ _ _=>app' 108) ?_
     refine zd [[105]] ?_
     refine dd [105] (fun _ _ _ _=>stP (.agg [.own 108,sli 1 (List.map i64 y1),i64 x0.Dim,i64 x0.Par]) [0]) ?_
     refine de fol ?_
     refine z [11,4,6,30,40,31,3] ?_
     exact sgo (eR [(100,100),(101,101),(105,105),(104,108)])
   refine z [14,15] ?_
   exact su (sj (hj18 _) (eR [(101,101),(105,105),(104,104)]))
 intro t17
 refine z [13,4,2,32,34,1,8] ?_
 refine fz 104 [42] [101,105] ?_
 exact rt []
theorem Wq{n:Nat}{x0}:∀ r,Kh n x0=some r->FnOk Tryz.prog 13 [sli 3 (List.map Qb x0)] [] (sli 3 (List.map Qd r)) []:=by
 unfold Kh
 refine fs Tryz.func13 fun w S0 γ hγ=>?_
 refine z [2] ?_
 refine s1 (asg rfl (kLm (k:=3) Qd)) ?_
 refine z [1,2] ?_
 refine so (asgN (y:=100) (E:=45) (k:=3) rfl rfl) ?_
 refine z [1,5,2,31,1,7] ?_
 refine sloopE 0 (fun t=>t) (fun s17=>[(0,sli 3 (List.map Qb x0)),(2,sli 3 (List.map Qd ([]:List Qc))),(3,.own 100),(4,i64 s17.2)]) (fun s17=>[(100,.sl 45 3 (List.map Qd s17.1))]) (fun t15=>[(2,sli 3 (List.map Qd ([]:List Qc))),(3,.own 100)]) (fun t15=>[(100,.sl 45 3 (List.map Qd t15))]) (eR [(100,100)]) ?_ ?_
 · intro hj16 s17
   refine z [5,2,30,30,39,46,1] ?_
   refine c ?_ ?_
   · refine z [9,4,5,7,6,30,30,30] ?_
     refine b fun y18 h19=>?_
     refine z [43,42] ?_
     refine cb (ca Qad) fun r20=>?_
     refine so (bsl (y:=101) (ls:=List.map Qd ([r20]:List Qc)) Tryz.underlying46 ti_45.h rfl rfl rfl rfl rfl ⟨rfl,rfl,(by exact rfl),(by exact rfl),trivial⟩ rfl rfl) ?_
     refine b fun y22 h23=>?_
     refine o (app' 102) ?_
     refine z [31,3,11,4,6,30,40,31,3] ?_
     exact sgo (eR [(100,102)])
   refine z [14,15] ?_
   exact su (sj (hj16 _) (eR [(100,100)]))
 intro t15
 refine z [13,4,2,30,31,1,8] ?_
 refine fz 100 [2,3,19] [] ?_
 exact rt []
theorem Qo9{n:Nat}{x0}:∀ r,Z8 n x0=some r->FnOk Tryz.prog 93 [sli 1 (List.map Qh x0)] [] (sli 1 (List.map Qi r)) []:=by
 unfold Z8
 refine fs Tryz.func93 fun w S0 γ hγ=>?_
 refine z [2] ?_
 refine s1 (asg rfl (kLm (k:=1) Qi)) ?_
 refine z [1,2] ?_
 refine so (asgN (y:=100) (E:=46) (k:=1) rfl rfl) ?_
 refine z [1,5,2,31,1,7] ?_
 refine sloopE 0 (fun t=>t) (fun s17=>[(0,sli 1 (List.map Qh x0)),(2,sli 1 (List.map Qi ([]:List (List Qc)))),(3,.own 100),(4,i64 s17.2)]) (fun s17=>[(100,.sl 46 1 (List.map Qi s17.1))]) (fun t15=>[(2,sli 1 (List.map Qi ([]:List (List Qc)))),(3,.own 100)]) (fun t15=>[(100,.sl 46 1 (List.map Qi t15))]) (eR [(100,100)]) ?_ ?_
 · intro hj16 s17
   refine z [5,2,30,30,39,46,1] ?_
   refine c ?_ ?_
   · refine z [9,4,5,7,6,30,30,30] ?_
     refine b fun y18 h19=>?_
     refine z [43,42] ?_
     refine cb (ca Wq) fun r20=>?_
     refine so (bsl (y:=101) (ls:=List.map Qi ([r20]:List (List Qc))) Tryz.underlying56 ti_46.h rfl rfl rfl rfl rfl ⟨rfl,rfl,(by exact rfl),(by exact rfl),trivial⟩ rfl rfl) ?_
     refine b fun y22 h23=>?_
     refine o (app' 102) ?_
     refine z [31,3,11,4,6,30,40,31,3] ?_
     exact sgo (eR [(100,102)])
   refine z [14,15] ?_
   exact su (sj (hj16 _) (eR [(100,100)]))
 intro t15
 refine z [13,4,2,30,31,1,8] ?_
 refine fz 100 [2,3,19] [] ?_
 exact rt []
end Go.Proofs.YthbndkiddockmaaGreatDoor
