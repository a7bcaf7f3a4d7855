import Derived.Test.YthbndkiddockmaaGreatDoorGen2a
set_option maxRecDepth 100000
set_option maxHeartbeats 4000000
namespace Go.Proofs.YthbndkiddockmaaGreatDoor
open Go Go.RowKit
theorem Qpa{n:Nat}{x0}:∀ r,Qbp n x0=some r->FnOk Tryz.prog 49 [Q5 x0] [] (Jh r) []:=by
 unfold Qbp
 refine fs Tryz.func49 fun w S0 γ hγ=>?_
 refine z [2] ?_
 refine o (bx' 100) ?_
 refine o (al' 101) ?_
 refine z [1,5] ?_
 refine b fun r1 h2=>?_
 refine b fun r3 h4=>?_
 refine b fun r5 h6=>?_
 refine b fun r7 h8=>?_
 refine sd ?_
 refine zd [[100],[100],[100],[100]] ?_
 refine dd [] (fun _ _ _ _=>c0 (Wq _ h2)) ?_
 refine zd [[100],[100]] ?_
 refine dd [] (fun _ _ _ _=>c0 (Qo9 _ h4)) ?_
 refine zd [[100],[100]] ?_
 refine dd [] (fun _ _ _ _=>c0 (Wq _ h6)) ?_
 refine zd [[100],[100]] ?_
 refine dd [] (fun _ _ _ _=>c0 (Wq _ h8)) ?_
 refine dx [4,7,10,13,16] [] (fun st mm ⟨a4,a7,a10,a13,a16,_⟩ _=>og (bld (l:=[str x0.Name,sli 3 (List.map Qd r1),sli 1 (List.map Qi r3),sli 3 (List.map Qd r5),sli 3 (List.map Qd r7)]) pl_58.h ti_58.h Zo ⟨_,_,_,(a4.trans rfl),rfl,rfl,rfl,(szk (k:=1) rfl rfl),⟨_,_,_,(a7.trans rfl),rfl,rfl,rfl,(szk (k:=1) rfl rfl),⟨_,_,_,(a10.trans rfl),rfl,rfl,rfl,(szk (k:=1) rfl rfl),⟨_,_,_,(a13.trans rfl),rfl,rfl,rfl,(szk (k:=1) rfl rfl),⟨_,_,_,(a16.trans rfl),rfl,rfl,rfl,(szk (k:=1) rfl rfl),rfl⟩⟩⟩⟩⟩ rfl)) ?_
 refine zd [[101]] ?_
 refine de fol ?_
 refine z [4,8] ?_
 exact rt []
theorem Qig{n:Nat}{x0}:∀ r,Yv n x0=some r->FnOk Tryz.prog 11 [Qu x0] [] (Qz r) []:=by
 unfold Yv
 refine fs Tryz.func11 fun w S0 γ hγ=>?_
 refine z [2] ?_
 refine o (bx' 100) ?_
 refine o (al' 101) ?_
 refine z [1,5] ?_
 refine b fun r1 h2=>?_
 refine b fun r3 h4=>?_
 refine b fun r5 h6=>?_
 refine sd ?_
 refine zd [[100],[100]] ?_
 refine dd [] (fun _ _ _ _=>c0 (Qo8 _ h2)) ?_
 refine zd [[100],[100]] ?_
 refine dd [] (fun _ _ _ _=>c0 (Qpa _ h4)) ?_
 refine zd [[100],[100]] ?_
 refine dd [] (fun _ _ _ _=>c0 (Wq _ h6)) ?_
 refine zd [[100],[100]] ?_
 refine dx [5,8,11,13] [] (fun st mm ⟨a5,a8,a11,a13,_⟩ _=>og (bld (l:=[Kl r1,Jh r3,sli 3 (List.map Qd r5),i64 x0.Bits]) pl_60.h ti_60.h Qe9 ⟨_,_,_,(a5.trans rfl),rfl,rfl,rfl,(szk (k:=4) rfl rfl),⟨_,_,_,(a8.trans rfl),rfl,rfl,rfl,(szk (k:=5) rfl rfl),⟨_,_,_,(a11.trans rfl),rfl,rfl,rfl,(szk (k:=1) rfl rfl),⟨_,_,_,(a13.trans rfl),rfl,rfl,rfl,(szk (k:=1) rfl rfl),rfl⟩⟩⟩⟩ rfl)) ?_
 refine zd [[101]] ?_
 refine de fol ?_
 refine z [4,8] ?_
 exact rt []
theorem J3{n:Nat}{x0}:∀ r,Ji n x0=some r->FnOk Tryz.prog 56 [sli 1 (List.map u32 x0)] [] (.own 50) [(50,.sl 129 1 (List.map u32 r))]:=by
 unfold Ji
 refine fs Tryz.func56 fun w S0 γ hγ=>?_
 refine z [2] ?_
 refine s1 (asg rfl (kLm (k:=1) u32)) ?_
 refine z [1,2,30,39,31,1,5,7] ?_
 refine sloopE 0 (fun t=>t) (fun s19=>[(0,sli 1 (List.map u32 x0)),(2,sli 1 (List.map u32 ([]:List Nat))),(3,i64 s19)]) (fun s19=>[]) (fun t17=>[(0,sli 1 (List.map u32 x0)),(2,sli 1 (List.map u32 ([]:List Nat))),(3,i64 t17)]) (fun t17=>[]) eI ?_ ?_
 · intro hj18 s19
   refine z [5] ?_
   refine sjq (fun s24=>[(0,sli 1 (List.map u32 x0)),(2,sli 1 (List.map u32 ([]:List Nat))),(3,i64 s19),(15,bl s24)]) (fun s24=>[]) ?_ ?_
   · intro j22 hj23
     refine z [6,30,47,30] ?_
     refine sifd 8 rfl ?_ ?_
     · refine z [22,22,22] ?_
       refine b fun y25 h26=>?_
       refine z [22,22,22,38,1] ?_
       exact sj (hj23 _) eI
     refine z [23,23,23,23,23,23,37,1] ?_
     exact sj (hj23 _) eI
   intro s24
   refine c ?_ ?_
   · refine z [9,4,7,6,30,49,31,3,11] ?_
     exact sgo eI
   refine z [14,15] ?_
   exact su (sj (hj18 _) eI)
 intro t17
 refine z [13,4,2] ?_
 refine so (bsl (y:=100) (ls:=List.map u32 ([]:List Nat)) Tryz.underlying32 Kt.h rfl rfl rfl rfl rfl trivial rfl rfl) ?_
 refine z [30,30] ?_
 refine b fun y27 h28=>?_
 refine s1 (slR (f:=u32) h28 Tryz.underlying32 Kt.h rfl rfl bnd0 (bnd rfl)) ?_
 refine b fun y29 h30=>?_
 refine o (app' 101) ?_
 refine z [31,1,8] ?_
 exact rt [(50,101)]
theorem Qhi{x0}:∀ r,Yc x0=some r->FnOk Tryz.prog 57 [sli 1 (List.map u32 x0)] [] (bl r) []:=by
 unfold Yc
 refine fs Tryz.func57 fun w S0 γ hγ=>?_
 refine z [2,31,1] ?_
 refine sjq (fun s5=>[(2,bl s5)]) (fun s5=>[]) ?_ ?_
 · intro j3 hj4
   refine z [6,30,39,41,30] ?_
   refine sifd 6 rfl ?_ ?_
   · refine z [22] ?_
     refine b fun y6 h7=>?_
     refine z [22,22,22,38,31,1] ?_
     exact sj (hj4 _) eI
   refine z [23,23,23,23,37,31,1] ?_
   exact sj (hj4 _) eI
 intro s5
 refine z [8] ?_
 exact rt []
theorem Ql8{n:Nat}{x0}:∀ r,Xe n x0=some r->FnOk Tryz.prog 165 [u32 x0] [] (i64 r) []:=by
 unfold Xe
 refine fs Tryz.func165 fun w S0 γ hγ=>?_
 refine z [2,31,1,5,2,30,66,1] ?_
 refine c ?_ ?_
 · refine z [2,31,1,8,10] ?_
   exact rt []
 refine z [9,4,2,31,1,5,7] ?_
 refine sloopE 0 (fun t=>t) (fun s5=>[(0,u32 s5.1),(2,i64 (0:Int)),(3,i64 s5.2)]) (fun s5=>[]) (fun t3=>[(2,i64 (0:Int)),(3,i64 t3)]) (fun t3=>[]) eI ?_ ?_
 · intro hj4 s5
   refine z [5,2,30,81,66,1] ?_
   refine c ?_ ?_
   · refine z [9,4,7,2,30,80,31,1,6,30,40,31,3,11] ?_
     exact sgo eI
   refine z [14,15] ?_
   exact su (sj (hj4 _) eI)
 intro t3
 refine z [13,4,2,30,31,1,8] ?_
 exact rt []
theorem Qnf{n:Nat}{x0}{x0o}{x0l}{x1}:∀ r,Xv n x0 x0o x0l x1=some r->FnOk Tryz.prog 166 [.win 0 x0o x0l,i64 x1] [(0,.sl 129 1 (List.map u32 x0))] (.win 0 r.1 r.2.1) [(0,.sl 129 1 (List.map u32 r.2.2))]:=by
 unfold Xv
 refine fs Tryz.func166 fun w S0 γ hγ=>?_
 refine z [2] ?_
 refine s1 (asg rfl (kLm (k:=1) u32)) ?_
 refine z [1,5,2,31,1,7] ?_
 refine sloopE 0 (fun t=>t) (fun s41=>[(0,.win 0 x0o x0l),(1,i64 x1),(4,sli 1 (List.map u32 ([]:List Nat))),(5,i64 s41.2)]) (fun s41=>[(0,.sl 129 1 (List.map u32 s41.1))]) (fun t39=>[(0,.win 0 x0o x0l),(4,sli 1 (List.map u32 ([]:List Nat)))]) (fun t39=>[(0,.sl 129 1 (List.map u32 t39))]) (eR [(0,0)]) ?_ ?_
 · intro hj40 s41
   refine z [5,2,30,30,87,46,1] ?_
   refine c ?_ ?_
   · refine z [9,4,5,7,2,31,1] ?_
     refine sjq (fun s47=>[(0,.win 0 x0o x0l),(1,i64 x1),(4,sli 1 (List.map u32 ([]:List Nat))),(5,i64 s41.2),(6,u64 s47)]) (fun s47=>[(0,.sl 129 1 (List.map u32 s41.1))]) ?_ ?_
     · intro j45 hj46
       refine z [2,30,40,30,87,46,1] ?_
       refine c ?_ ?_
       · refine z [6,30,30,40] ?_
         refine b fun _ h50=>?_
         refine b fun y48 h49=>?_
         refine s1 (ixW (f:=u32) (Qar h50) rfl Tryz.underlying32 Kt.h h49 rfl rfl rfl) ?_
         refine z [51,59,31,1] ?_
         exact sj (hj46 _) (eR [(0,0)])
       refine z [9,4] ?_
       exact sj (hj46 _) (eR [(0,0)])
     intro s47
     refine z [6,30,30,30,63,30,30] ?_
     refine b fun _ h53=>?_
     refine b fun y51 h52=>?_
     refine s1 (ixW (f:=u32) (Qar h53) rfl Tryz.underlying32 Kt.h h52 rfl rfl rfl) ?_
     refine z [51,59,61] ?_
     refine sbn (F:=u64) 33 rfl fun z54=>?_
     refine z [30] ?_
     refine b fun _ h55=>?_
     refine s1 (shrU uk64 (ge0 h55) rfl rfl rfl) ?_
     refine z [60] ?_
     refine b fun _ h58=>?_
     refine b fun y56 h57=>?_
     refine s1 (ixW (f:=u32) (Qar h58) rfl Tryz.underlying32 Kt.h h57 rfl rfl rfl) ?_
     refine z [53] ?_
     refine sbm (C:=fun x=>.sl 129 1 (List.map u32 x)) 0 rfl fun z59=>?_
     refine z [3,11,4,6,30,40,31,3] ?_
     exact sgo (eR [(0,0)])
   refine z [14,15] ?_
   exact su (sj (hj40 _) (eR [(0,0)]))
 intro t39
 refine z [13,4,5,7] ?_
 refine sloopE 2 (fun t=>t) (fun s84=>[(0,.win 0 s84.1 s84.2),(4,sli 1 (List.map u32 ([]:List Nat)))]) (fun s84=>[(0,.sl 129 1 (List.map u32 t39))]) (fun t82=>[(0,.win 0 t82.1 t82.2),(4,sli 1 (List.map u32 ([]:List Nat)))]) (fun t82=>[(0,.sl 129 1 (List.map u32 t39))]) (eR [(0,0)]) ?_ ?_
 · intro hj83 s84
   refine z [5] ?_
   refine sjq (fun s90=>[(0,.win 0 s84.1 s84.2),(4,sli 1 (List.map u32 ([]:List Nat))),(49,bl s90)]) (fun s90=>[(0,.sl 129 1 (List.map u32 t39))]) ?_ ?_
   · intro j88 hj89
     refine z [6,30,87,47,30] ?_
     refine sifd 41 rfl ?_ ?_
     · refine z [22,22,22,22] ?_
       refine b fun _ h93=>?_
       refine b fun y91 h92=>?_
       refine sg 41 rfl rfl (ixW (f:=u32) (Qar h93) rfl Tryz.underlying32 Kt.h h92 rfl rfl rfl) ?_
       refine z [22,22,38,1] ?_
       exact sj (hj89 _) (eR [(0,0)])
     refine z [23,23,23,23,23,23,23,37,1] ?_
     exact sj (hj89 _) (eR [(0,0)])
   intro s90
   refine c ?_ ?_
   · refine z [9,4,7,6,30,30,87,49] ?_
     refine b fun _ h94=>?_
     refine s1 (slW (Qar h94) rfl Tryz.underlying32 Kt.h rfl rfl bnd0 (bnd rfl)) ?_
     refine z [31,3,11] ?_
     exact sgo (eR [(0,0)])
   refine z [14,15] ?_
   exact su (sj (hj83 _) (eR [(0,0)]))
 intro t82
 refine z [13,4,2,30,31,1,8] ?_
 exact rt [(0,0)]
theorem Qdx{n:Nat}{x0}{x0o}{x0l}:∀ r,Vj n x0 x0o x0l=some r->FnOk Tryz.prog 112 [.win 0 x0o x0l] [(0,.sl 129 1 (List.map u32 x0))] (.tup [.win 0 r.1 r.2.1,i64 r.2.2.1]) [(0,.sl 129 1 (List.map u32 r.2.2.2))]:=by
 unfold Vj
 refine fs Tryz.func112 fun w S0 γ hγ=>?_
 refine z [2] ?_
 refine s1 (asg rfl (kLm (k:=1) u32)) ?_
 refine z [31,1,2,31,1,5,7] ?_
 refine sloopE 0 (fun t=>t) (fun s13=>[(0,.win 0 s13.1 s13.2.1),(2,sli 1 (List.map u32 ([]:List Nat))),(3,i64 (0:Int)),(4,i64 s13.2.2)]) (fun s13=>[(0,.sl 129 1 (List.map u32 x0))]) (fun t11=>[(0,.win 0 t11.1 t11.2.1),(2,sli 1 (List.map u32 ([]:List Nat))),(3,i64 (0:Int)),(4,i64 t11.2.2)]) (fun t11=>[(0,.sl 129 1 (List.map u32 x0))]) (eR [(0,0)]) ?_ ?_
 · intro hj12 s13
   refine z [5,2,30] ?_
   refine b fun _ h16=>?_
   refine b fun y14 h15=>?_
   refine s1 (ixW (f:=u32) (Qar h16) rfl Tryz.underlying32 Kt.h h15 rfl rfl (kI (x:=0) rfl)) ?_
   refine z [51,66,1] ?_
   refine c ?_ ?_
   · refine z [9,4,7,2,30] ?_
     refine b fun _ h17=>?_
     refine s1 (slW (Qar h17) rfl Tryz.underlying32 Kt.h rfl rfl (bnd (kI (x:=1) rfl)) bnd0) ?_
     refine z [31,1,6,30,40,31,3,11] ?_
     exact sgo (eR [(0,0)])
   refine z [14,15] ?_
   exact su (sj (hj12 _) (eR [(0,0)]))
 intro t11
 refine z [13,4,2,30] ?_
 refine b fun _ h20=>?_
 refine b fun y18 h19=>?_
 refine s1 (ixW (f:=u32) (Qar h20) rfl Tryz.underlying32 Kt.h h19 rfl rfl (kI (x:=0) rfl)) ?_
 refine z [51] ?_
 refine cb (ca Ql8) fun r21=>?_
 refine z [31,1,2,30,30] ?_
 refine b fun r23 h24=>?_
 refine o (cG (Qnf _ h24) [0] [] []) ?_
 refine z [30,30,40,31,31,1,8] ?_
 exact rt [(0,0)]
theorem Xn{x0}{x1}:∀ r,K1 x0 x1=some r->FnOk Tryz.prog 120 [sli 1 (List.map u32 x0),i64 x1] [] (u32 r) []:=by
 unfold K1
 refine fs Tryz.func120 fun w S0 γ hγ=>?_
 refine z [2,31,1,5,2,30,30,39,46,1] ?_
 refine c ?_ ?_
 · refine z [2,30,30] ?_
   refine b fun y1 h2=>?_
   refine z [43,42,31,1,8,10] ?_
   exact rt []
 refine z [9,4,2,31,1,8] ?_
 exact rt []
theorem Qdy{n:Nat}{x0}{x1}:∀ r,W4 n x0 x1=some r->FnOk Tryz.prog 113 [sli 1 (List.map u32 x0),sli 1 (List.map u32 x1)] [] (i64 r) []:=by
 unfold W4
 refine fs Tryz.func113 fun w S0 γ hγ=>?_
 refine z [2,31,1,5,2,30,39,30,39,88,49,31,1,7] ?_
 refine sloopE 0 Lp.go (fun s15=>[(0,sli 1 (List.map u32 x0)),(1,sli 1 (List.map u32 x1)),(4,i64 (0:Int)),(5,i64 s15)]) (fun s15=>[]) (fun t13=>[(4,i64 (0:Int))]) (fun t13=>[]) eI ?_ ?_
 · intro hj14 s15
   refine z [5,2,30,57,1] ?_
   refine c ?_ ?_
   · refine z [9,4,5,7,2,30,30] ?_
     refine cb (ca Xn) fun r16=>?_
     refine z [31,1,2,30,30] ?_
     refine cb (ca Xn) fun r18=>?_
     refine z [31,1,5,2,30,30,68,1] ?_
     refine c ?_ ?_
     · refine z [2,31,1,8,10,12,10] ?_
       refine sU ?_
       refine z [12,10] ?_
       exact rt []
     refine z [9,4,2,30,30,69,1] ?_
     refine c ?_ ?_
     · refine z [2,31,1,8,12,10] ?_
       refine sU ?_
       refine z [12,10] ?_
       exact rt []
     refine z [9,11,4,6,30,49,31,3] ?_
     exact sgo eI
   refine z [14,15] ?_
   exact su (sj (hj14 _) eI)
 intro t13
 refine slpk ?_
 refine z [13,4,2,31,1,8] ?_
 exact rt []
theorem Qgp{n:Nat}{x0}{x0o}{x0l}{x1}:∀ r,Vu n x0 x0o x0l x1=some r->FnOk Tryz.prog 114 [.win 0 x0o x0l,sli 1 (List.map u32 x1)] [(0,.sl 129 1 (List.map u32 x0))] (.tup []) [(0,.sl 129 1 (List.map u32 r))]:=by
 unfold Vu
 refine fs Tryz.func114 fun w S0 γ hγ=>?_
 refine z [2,31,1,2,31,1,7] ?_
 refine sloopE 0 (fun t=>t) (fun s30=>[(0,.win 0 x0o x0l),(1,sli 1 (List.map u32 x1)),(4,u64 s30.2.1),(5,i64 s30.2.2)]) (fun s30=>[(0,.sl 129 1 (List.map u32 s30.1))]) (fun t28=>[]) (fun t28=>[(0,.sl 129 1 (List.map u32 t28))]) (eR [(0,0)]) ?_ ?_
 · intro hj29 s30
   refine z [5,2,30,30,87,46,1] ?_
   refine c ?_ ?_
   · refine z [9,4,5,7,2,30,30] ?_
     refine b fun _ h33=>?_
     refine b fun y31 h32=>?_
     refine s1 (ixW (f:=u32) (Qar h33) rfl Tryz.underlying32 Kt.h h32 rfl rfl rfl) ?_
     refine z [51,59,31,1,2,30,30] ?_
     refine cb (ca Xn) fun r34=>?_
     refine z [59,30,61,31,1,2,31,1] ?_
     refine sjq (fun s38=>[(0,.win 0 x0o x0l),(1,sli 1 (List.map u32 x1)),(4,u64 s38.1),(5,i64 s30.2.2),(6,u64 s38.2),(7,u64 ((r34+s30.2.1)%18446744073709551616))]) (fun s38=>[(0,.sl 129 1 (List.map u32 s30.1))]) ?_ ?_
     · intro j36 hj37
       refine z [2,30,30,68,1] ?_
       refine c ?_ ?_
       · refine z [2,30,61,31,1,6,31,1] ?_
         exact sj (hj37 _) (eR [(0,0)])
       refine z [9,4] ?_
       exact sj (hj37 _) (eR [(0,0)])
     intro s38
     refine z [6,30,30,30,30,62] ?_
     refine sbn (F:=u64) 34 rfl fun z39=>?_
     refine z [60] ?_
     refine b fun _ h42=>?_
     refine b fun y40 h41=>?_
     refine s1 (ixW (f:=u32) (Qar h42) rfl Tryz.underlying32 Kt.h h41 rfl rfl rfl) ?_
     refine z [53] ?_
     refine sbm (C:=fun x=>.sl 129 1 (List.map u32 x)) 0 rfl fun z43=>?_
     refine z [3,11,4,6,30,40,31,3] ?_
     exact sgo (eR [(0,0)])
   refine z [14,15] ?_
   exact su (sj (hj29 _) (eR [(0,0)]))
 intro t28
 refine z [13] ?_
 exact rt [(0,0)]
theorem We{n:Nat}{x0}{x1}:∀ r,J9 n x0 x1=some r->FnOk Tryz.prog 64 [sli 1 (List.map u32 x0),sli 1 (List.map u32 x1)] [] (sli 1 (List.map u32 r)) []:=by
 unfold J9
 refine fs Tryz.func64 fun w S0 γ hγ=>?_
 refine z [2] ?_
 refine s1 (asg rfl (kLm (k:=1) u32)) ?_
 refine z [1,2,30,39,30,39,40] ?_
 refine b fun y1 h2=>?_
 refine so (mks (y:=100) (f:=u32) h2 Tryz.underlying32 Kt.h Qb1 rfl rfl rfl rfl rfl rfl) ?_
 refine z [31,1,5,2,31,1,7] ?_
 refine sloopE 0 (fun t=>t) (fun s77=>[(0,sli 1 (List.map u32 x0)),(1,sli 1 (List.map u32 x1)),(4,sli 1 (List.map u32 ([]:List Nat))),(5,.own 100),(6,i64 s77.2)]) (fun s77=>[(100,.sl 129 1 (List.map u32 s77.1))]) (fun t75=>[(4,sli 1 (List.map u32 ([]:List Nat))),(5,.own 100)]) (fun t75=>[(100,.sl 129 1 (List.map u32 t75))]) (eR [(100,100)]) ?_ ?_
 · intro hj76 s77
   refine z [5,2,30,30,39,46,1] ?_
   refine c ?_ ?_
   · refine z [9,4,5,7,2,31,1,5,2,31,1,7] ?_
     refine sloopE 2 (fun t=>t) (fun s92=>[(0,sli 1 (List.map u32 x0)),(1,sli 1 (List.map u32 x1)),(4,sli 1 (List.map u32 ([]:List Nat))),(5,.own 100),(6,i64 s77.2),(7,u64 s92.2.1),(8,i64 s92.2.2)]) (fun s92=>[(100,.sl 129 1 (List.map u32 s92.1))]) (fun t90=>[(0,sli 1 (List.map u32 x0)),(1,sli 1 (List.map u32 x1)),(4,sli 1 (List.map u32 ([]:List Nat))),(5,.own 100),(6,i64 s77.2),(7,u64 t90.2)]) (fun t90=>[(100,.sl 129 1 (List.map u32 t90.1))]) (eR [(100,100)]) ?_ ?_
     · intro hj91 s92
       refine z [5,2,30,30,39,46,1] ?_
       refine c ?_ ?_
       · refine z [9,4,5,7,5] ?_
         refine b fun y93 h94=>?_
         refine b fun y95 h96=>?_
         refine b fun y97 h98=>?_
         refine sd ?_
         refine zd [[],[],[],[],[],[],[],[],[],[],[],[],[],[],[],[],[100],[100],[],[],[],[]] ?_
         refine de fol ?_
         refine sbn (F:=u64) 7 rfl fun z99=>?_
         refine sbn (F:=u64) 47 rfl fun z100=>?_
         refine z [4,2,30,30,30,40,30,81,60] ?_
         refine b fun y101 h102=>?_
         refine z [50,53] ?_
         refine sbm (C:=fun x=>.sl 129 1 (List.map u32 x)) 100 rfl fun z103=>?_
         refine z [1,6,30,80,31,3,11,4,6,30,40,31,3] ?_
         exact sgo (eR [(100,100)])
       refine z [14,15] ?_
       exact su (sj (hj91 _) (eR [(100,100)]))
     intro t90
     refine z [13,4,6,30,30,30,39,40,30,60] ?_
     refine b fun y104 h105=>?_
     refine z [50,53] ?_
     refine sbm (C:=fun x=>.sl 129 1 (List.map u32 x)) 100 rfl fun z106=>?_
     refine z [3,11,4,6,30,40,31,3] ?_
     exact sgo (eR [(100,100)])
   refine z [14,15] ?_
   exact su (sj (hj76 _) (eR [(100,100)]))
 intro t75
 refine z [13,4,2,30] ?_
 refine b fun r107 h108=>?_
 refine so (callL (em:=[(101,.sl 129 1 (List.map u32 r107))]) (res':=.own 101) [100] [] [(101,50)] [(101,50)] rfl (J3 _ h108) ⟨Qas (f:=u32) (fun _=>Qcq) _,trivial⟩ (Qdm) ⟨.inr ⟨100,rfl,.inl ⟨rfl,.inl ⟨_,_,_,rfl,Jk (f:=u32) (fun _=>K8) t75,rfl⟩⟩⟩,trivial⟩ (MiF.get (mi:=[]) trivial) trivial rfl ⟨rfl,trivial⟩ ⟨.inl rfl,trivial⟩ rfl ⟨.inl ⟨_,_,rfl,rfl,rc_sl (Jk (f:=u32) (fun _=>K8) r107)⟩,trivial⟩ trivial ⟨⟨_,rfl⟩,trivial⟩ (Ve rfl) rfl) ?_
 refine z [31,1,8] ?_
 refine fz 101 [4,67] [] ?_
 exact rt []
theorem Qls{n:Nat}{x0}{x1}:∀ r,Ym n x0 x1=some r->FnOk Tryz.prog 115 [sli 1 (List.map u32 x0),i64 x1] [] (sli 1 (List.map u32 r)) []:=by
 unfold Ym
 refine fs Tryz.func115 fun w S0 γ hγ=>?_
 refine z [2] ?_
 refine s1 (asg rfl (kLm (k:=1) u32)) ?_
 refine z [1,2,30,78] ?_
 refine b fun y1 h2=>?_
 refine so (mks (y:=100) (f:=u32) h2 Tryz.underlying32 Kt.h Qb1 rfl rfl rfl rfl rfl rfl) ?_
 refine z [30] ?_
 refine b fun y3 h4=>?_
 refine o (app' 101) ?_
 refine z [31,1,2,30,30,79] ?_
 refine b fun _ h5=>?_
 refine s1 (shlU uk32 (ge0 h5) rfl (k32 (x:=1) rfl) rfl) ?_
 refine so (bsl (y:=102) (ls:=List.map u32 ([((1*2 ^ (min (Int.toNat (Int.tmod x1 (32:Int))) 32))%4294967296)]:List Nat)) Tryz.underlying32 Kt.h rfl rfl rfl rfl rfl ⟨rfl,rfl,(by exact rfl),(by exact rfl),trivial⟩ rfl rfl) ?_
 refine sbm (C:=fun x=>.sl 129 1 (List.map u32 x)) 102 rfl fun z6=>?_
 refine fz 101 [5,10,11] [] ?_
 refine fz 102 [15] [] ?_
 refine cb (ca We) fun r7=>?_
 refine z [31,1,8] ?_
 exact rt []
theorem Qn0{n:Nat}{x0}{x1}:∀ r,Zt n x0 x1=some r->FnOk Tryz.prog 58 [sli 1 (List.map u32 x0),sli 1 (List.map u32 x1)] [] (sli 1 (List.map u32 r)) []:=by
 unfold Zt
 refine fs Tryz.func58 fun w S0 γ hγ=>?_
 refine z [2] ?_
 refine s1 (asg rfl (kLm (k:=1) u32)) ?_
 refine z [1,2,30] ?_
 refine b fun r1 h2=>?_
 refine o (cG (J3 _ h2) [] [(100,50)] []) ?_
 refine z [31,1,2,30] ?_
 refine b fun r3 h4=>?_
 refine o (cG (J3 _ h4) [] [(101,50)] []) ?_
 refine z [31,1,5,2,30,55,41,1] ?_
 refine c ?_ ?_
 · refine z [2,30,31,1,8,10] ?_
   refine fz 101 [4,6,14,18] [] ?_
   exact rt []
 refine z [9,4,5,2,30,55,41,1] ?_
 refine c ?_ ?_
 · refine z [2,30,31,1,8,10] ?_
   refine fz 100 [4,5,12,15,22] [] ?_
   exact rt []
 refine z [9,4,2,30] ?_
 refine owW 24 (n:=r1.length) rfl rfl (List.length_map _).symm ?_
 refine b fun r5 h6=>?_
 refine o (cG (Qdx _ h6) [100] [] []) ?_
 refine z [30,35,35,31,31,1,2,30] ?_
 refine owW 29 (n:=r3.length) rfl rfl (List.length_map _).symm ?_
 refine b fun r7 h8=>?_
 refine o (cG (Qdx _ h8) [101] [] []) ?_
 refine z [30,35,35,31,31,1,5,7] ?_
 refine sloopE 0 (fun t=>t) (fun s43=>[(4,sli 1 (List.map u32 ([]:List Nat))),(5,.win 100 s43.2.1 s43.2.2.1),(6,.win 101 s43.2.2.2.2.1 s43.2.2.2.2.2),(7,i64 r5.2.2.1),(8,i64 r7.2.2.1)]) (fun s43=>[(100,.sl 129 1 (List.map u32 s43.1)),(101,.sl 129 1 (List.map u32 s43.2.2.2.1))]) (fun t41=>[(4,sli 1 (List.map u32 ([]:List Nat))),(5,.win 100 t41.2.1 t41.2.2),(7,i64 r5.2.2.1),(8,i64 r7.2.2.1)]) (fun t41=>[(100,.sl 129 1 (List.map u32 t41.1))]) (eR [(100,100),(101,101)]) ?_ ?_
 · intro hj42 s43
   refine z [7,2,30,30] ?_
   refine b fun y44 h45=>?_
   refine b fun y46 h47=>?_
   refine b fun r48 h49=>?_
   refine s1 (callL (em:=[]) [100,101] [] [] [] rfl (Qdy _ h49) trivial (Qx1) ⟨.inr ⟨100,rfl,.inr ⟨_,_,_,_,rfl,rfl,Jk (f:=u32) (fun _=>K8) s43.1,Qow h45,Qox h45⟩⟩,.inr ⟨101,rfl,.inr ⟨_,_,_,_,rfl,rfl,Jk (f:=u32) (fun _=>K8) s43.2.2.2.1,Qow h47,Qox h47⟩⟩,trivial⟩ (fun _ _ h=>by cases h) trivial rfl trivial trivial rfl trivial trivial trivial (rn_id (Qb0)) rfl) ?_
   refine z [31,1,5,2,30,41,1] ?_
   refine c ?_ ?_
   · refine z [14,15,21] ?_
     exact su (sj (hj42 _) (eR [(100,100)]))
   refine z [9,4] ?_
   refine sjq (fun s52=>[(4,sli 1 (List.map u32 ([]:List Nat))),(5,.win 101 s52.2.1 s52.2.2.1),(6,.win 100 s52.2.2.2.2.1 s52.2.2.2.2.2),(7,i64 r5.2.2.1),(8,i64 r7.2.2.1)]) (fun s52=>[(101,.sl 129 1 (List.map u32 s52.1)),(100,.sl 129 1 (List.map u32 s52.2.2.2.1))]) ?_ ?_
   · intro j50 hj51
     refine z [2,30,46,1] ?_
     refine c ?_ ?_
     · refine z [2,30,31,1,2,30,31,1,6,30,31,1] ?_
       exact sj (hj51 _) (eR [(101,101),(100,100)])
     refine z [9,4] ?_
     exact sj (hj51 _) (eR [(101,100),(100,101)])
   intro s52
   refine z [2,30,30] ?_
   refine b fun y53 h54=>?_
   refine b fun r55 h56=>?_
   refine so (callL (em:=[(101,.sl 129 1 (List.map u32 r55))]) (res':=.tup []) [100] [(0,101)] [] [(101,0)] rfl (Qgp _ h56) ⟨Qas (f:=u32) (fun _=>Qcq) _,trivial⟩ (Q6d (Q0b)) ⟨.inl ⟨_,rfl,Qgd rfl⟩,.inr ⟨100,rfl,.inr ⟨_,_,_,_,rfl,rfl,Jk (f:=u32) (fun _=>K8) s52.2.2.2.1,Qow h54,Qox h54⟩⟩,trivial⟩ (MiF.get (mi:=[(0,_)]) ⟨⟨_,_,rfl,rfl,rc_sl (Jk (f:=u32) (fun _=>K8) s52.1)⟩,trivial⟩) ⟨⟨_,rfl⟩,trivial⟩ rfl trivial ⟨.inr rfl,trivial⟩ rfl ⟨.inl ⟨_,_,rfl,rfl,rc_sl (Jk (f:=u32) (fun _=>K8) r55)⟩,trivial⟩ ⟨⟨_,rfl⟩,trivial⟩ trivial (Qdl (Wm)) rfl) ?_
   refine z [1,6,30] ?_
   refine b fun r57 h58=>?_
   refine o (cG (Qdx _ h58) [101] [] []) ?_
   refine z [30,35,35,31,3,11] ?_
   exact sgo (eR [(100,101),(101,100)])
 intro t41
 refine z [13,4,2,30,30,30,89] ?_
 refine b fun y59 h60=>?_
 refine frzW 51 (f:=u32) h60 rfl rfl (Jk (f:=u32) (fun _=>K8) t41.1) ?_
 refine cb (ca Qls) fun r61=>?_
 refine z [31,1,8] ?_
 exact rt []
theorem Qn1{n:Nat}{x0}{x1}:∀ r,Zq n x0 x1=some r->FnOk Tryz.prog 207 [sli 1 (List.map u32 x0),i64 x1] [] (bl r) []:=by
 unfold Zq
 refine fs Tryz.func207 fun w S0 γ hγ=>?_
 refine z [2,31,1,5] ?_
 refine sjq (fun s3=>[(0,sli 1 (List.map u32 x0)),(1,i64 x1),(4,bl false),(15,bl s3)]) (fun s3=>[]) ?_ ?_
 · intro j1 hj2
   refine z [6,30,46,30] ?_
   refine sifd 9 rfl ?_ ?_
   · refine z [23,23,23,23,23,38,1] ?_
     exact sj (hj2 _) eI
   refine z [22,22,22,22,22,37,1] ?_
   exact sj (hj2 _) eI
 intro s3
 refine c ?_ ?_
 · refine z [2,31,1,8,10] ?_
   exact rt []
 refine z [9,4,2,30,30,78] ?_
 refine b fun y4 h5=>?_
 refine z [43,42,31,1,5,2,31,1,7] ?_
 refine sloopE 0 (fun t=>t) (fun s10=>[(1,i64 x1),(4,bl false),(5,u32 s10.1),(6,i64 s10.2)]) (fun s10=>[]) (fun t8=>[(4,bl false),(5,u32 t8)]) (fun t8=>[]) eI ?_ ?_
 · intro hj9 s10
   refine z [5,2,30,30,79,46,1] ?_
   refine c ?_ ?_
   · refine z [9,4,5,7,6,30,80,31,3,11,4,6,30,40,31,3] ?_
     exact sgo eI
   refine z [14,15] ?_
   exact su (sj (hj9 _) eI)
 intro t8
 refine z [13,4,2,30,81,66,31,1,8] ?_
 exact rt []
theorem Qdz{n:Nat}{x0}:∀ r,W5 n x0=some r->FnOk Tryz.prog 167 [sli 1 (List.map u32 x0)] [] (i64 r) []:=by
 unfold W5
 refine fs Tryz.func167 fun w S0 γ hγ=>?_
 refine z [2,31,1,2,30,39,76,31,1,5,7] ?_
 refine sloopE 0 (fun t=>t) (fun s19=>[(0,sli 1 (List.map u32 x0)),(2,i64 (0:Int)),(3,i64 s19)]) (fun s19=>[]) (fun t17=>[(2,i64 (0:Int)),(3,i64 t17)]) (fun t17=>[]) eI ?_ ?_
 · intro hj18 s19
   refine z [5] ?_
   refine sjq (fun s24=>[(0,sli 1 (List.map u32 x0)),(2,i64 (0:Int)),(3,i64 s19),(15,bl s24)]) (fun s24=>[]) ?_ ?_
   · intro j22 hj23
     refine z [6,30,47,30] ?_
     refine sifd 9 rfl ?_ ?_
     · refine z [22,22,22] ?_
       refine b fun r25 h26=>?_
       refine og' (c0 (Qn1 _ h26)) ?_
       refine z [22,38,1] ?_
       exact sj (hj23 _) eI
     refine z [23,23,23,23,23,37,1] ?_
     exact sj (hj23 _) eI
   intro s24
   refine c ?_ ?_
   · refine z [9,4,7,6,30,49,31,3,11] ?_
     exact sgo eI
   refine z [14,15] ?_
   exact su (sj (hj18 _) eI)
 intro t17
 refine z [13,4,2,30,31,1,8] ?_
 exact rt []
theorem Qfv{n:Nat}{x0}{x1}:∀ r,V5 n x0 x1=some r->FnOk Tryz.prog 168 [.own 0,bl x1] [(0,.sl 129 1 (List.map u32 x0))] (.tup []) [(0,.sl 129 1 (List.map u32 r))]:=by
 unfold V5
 refine fs Tryz.func168 fun w S0 γ hγ=>?_
 refine z [2,31,1] ?_
 refine sjq (fun s3=>[(0,.own 0),(4,u32 s3)]) (fun s3=>[(0,.sl 129 1 (List.map u32 x0))]) ?_ ?_
 · intro j1 hj2
   refine z [2,30,1] ?_
   refine c ?_ ?_
   · refine z [6,31,1] ?_
     exact sj (hj2 _) (eR [(0,0)])
   refine z [9,4] ?_
   exact sj (hj2 _) (eR [(0,0)])
 intro s3
 refine z [2,31,1,7] ?_
 refine sloopE 0 (fun t=>t) (fun s22=>[(0,.own 0),(4,u32 s22.2.1),(5,i64 s22.2.2)]) (fun s22=>[(0,.sl 129 1 (List.map u32 s22.1))]) (fun t20=>[]) (fun t20=>[(0,.sl 129 1 (List.map u32 t20))]) (eR [(0,0)]) ?_ ?_
 · intro hj21 s22
   refine z [5,2,30,30,55,46,1] ?_
   refine c ?_ ?_
   · refine z [9,4,5,7,2,30,30] ?_
     refine b fun y23 h24=>?_
     refine z [50,51,80,31,1,2,30,30,30,30] ?_
     refine b fun y25 h26=>?_
     refine z [50,51,63,30,61] ?_
     refine b fun y27 h28=>?_
     refine z [50,53] ?_
     refine sbm (C:=fun x=>.sl 129 1 (List.map u32 x)) 0 rfl fun z29=>?_
     refine z [1,6,30,31,3,11,4,6,30,40,31,3] ?_
     exact sgo (eR [(0,0)])
   refine z [14,15] ?_
   exact su (sj (hj21 _) (eR [(0,0)]))
 intro t20
 refine z [13] ?_
 exact rt [(0,0)]
theorem Qn2{n:Nat}{x0}{x1}:∀ r,Zs n x0 x1=some r->FnOk Tryz.prog 116 [sli 1 (List.map u32 x0),sli 1 (List.map u32 x1)] [] (.tup [sli 1 (List.map u32 r.1),sli 1 (List.map u32 r.2)]) []:=by
 unfold Zs
 refine fs Tryz.func116 fun w S0 γ hγ=>?_
 refine z [2] ?_
 refine s1 (asg rfl (kLm (k:=1) u32)) ?_
 refine s1 (asg rfl (kLm (k:=1) u32)) ?_
 refine z [1,2,30,39] ?_
 refine b fun y1 h2=>?_
 refine so (mks (y:=100) (f:=u32) h2 Tryz.underlying32 Kt.h Qb1 rfl rfl rfl rfl rfl rfl) ?_
 refine z [31,1,2,30,39,40] ?_
 refine b fun y3 h4=>?_
 refine so (mks (y:=101) (f:=u32) h4 Tryz.underlying32 Kt.h Qb1 rfl rfl rfl rfl rfl rfl) ?_
 refine z [31,1,5,2,30] ?_
 refine cb (ca Qdz) fun r5=>?_
 refine z [49,31,1,7] ?_
 refine sloopE 0 (fun t=>t) (fun s97=>[(0,sli 1 (List.map u32 x0)),(1,sli 1 (List.map u32 x1)),(4,sli 1 (List.map u32 ([]:List Nat))),(5,sli 1 (List.map u32 ([]:List Nat))),(6,.own 100),(7,.own 101),(8,i64 s97.2.2)]) (fun s97=>[(100,.sl 129 1 (List.map u32 s97.1)),(101,.sl 129 1 (List.map u32 s97.2.1))]) (fun t95=>[(4,sli 1 (List.map u32 ([]:List Nat))),(5,sli 1 (List.map u32 ([]:List Nat))),(6,.own 100),(7,.own 101)]) (fun t95=>[(100,.sl 129 1 (List.map u32 t95.1)),(101,.sl 129 1 (List.map u32 t95.2))]) (eR [(100,100),(101,101)]) ?_ ?_
 · intro hj96 s97
   refine z [5,2,30,57,1] ?_
   refine c ?_ ?_
   · refine z [9,4] ?_
     refine sjq (fun s120=>[(0,sli 1 (List.map u32 x0)),(1,sli 1 (List.map u32 x1)),(4,sli 1 (List.map u32 ([]:List Nat))),(5,sli 1 (List.map u32 ([]:List Nat))),(6,.own 100),(7,.own 101),(8,i64 s97.2.2)]) (fun s120=>[(100,.sl 129 1 (List.map u32 s120.1)),(101,.sl 129 1 (List.map u32 s120.2))]) ?_ ?_
     · intro j118 hj119
       refine z [7,5] ?_
       refine b fun y121 h122=>?_
       refine b fun _ h123=>?_
       refine b fun _ h124=>?_
       refine b fun r125 h126=>?_
       refine sd ?_
       refine zd [[],[],[],[],[],[],[],[]] ?_
       refine dx [30] [] (fun st mm ⟨a30,_⟩ _=>og (shlU uk32 (ge0 h123) rfl (k32 (x:=1) rfl) (a30.trans rfl))) ?_
       refine zd [[],[],[]] ?_
       refine dd [101] (fun _ _ _ _=>cG (Qfv _ h126) [101] [] []) ?_
       refine de fol ?_
       refine sbn (F:=u32) 31 rfl fun z127=>?_
       refine sbn (F:=u32) 32 rfl fun z128=>?_
       refine sbn (F:=u32) 33 rfl fun z129=>?_
       refine sbn (F:=bl) 34 rfl fun z130=>?_
       refine z [4,2,30] ?_
       refine b fun r131 h132=>?_
       refine o (cG (Qfv _ h132) [100] [] []) ?_
       refine z [1,2,30,30] ?_
       refine b fun r133 h134=>?_
       refine s1 (callL (em:=[]) [101] [] [] [] rfl (Qdy _ h134) trivial (Qx1) ⟨.inr ⟨101,rfl,.inl ⟨rfl,.inl ⟨_,_,_,rfl,Jk (f:=u32) (fun _=>K8) r125,rfl⟩⟩⟩,.inl ⟨_,rfl,rn_id Qap⟩,trivial⟩ (fun _ _ h=>by cases h) trivial rfl trivial trivial rfl trivial trivial trivial (rn_id (Qb0)) rfl) ?_
       refine z [57,1] ?_
       refine c ?_ ?_
       · refine z [2,30,30] ?_
         refine owW 42 (n:=r125.length) rfl rfl (List.length_map _).symm ?_
         refine b fun r135 h136=>?_
         refine o (cG (Qgp _ h136) [101] [] []) ?_
         refine z [1,6,30] ?_
         refine b fun y137 h138=>?_
         refine z [50,51,61] ?_
         refine b fun y139 h140=>?_
         refine z [50,53,3,11,4] ?_
         exact sj (hj119 _) (eR [(100,100),(101,101)])
       refine z [9,11,4] ?_
       exact sj (hj119 _) (eR [(100,100),(101,101)])
     intro s120
     refine z [6,30,49,31,3] ?_
     exact sgo (eR [(100,100),(101,101)])
   refine z [14,15] ?_
   exact su (sj (hj96 _) (eR [(100,100),(101,101)]))
 intro t95
 refine z [13,4,2,30] ?_
 refine b fun r141 h142=>?_
 refine so (callL (em:=[(102,.sl 129 1 (List.map u32 r141))]) (res':=.own 102) [100] [] [(102,50)] [(102,50)] rfl (J3 _ h142) ⟨Qas (f:=u32) (fun _=>Qcq) _,trivial⟩ (Qdm) ⟨.inr ⟨100,rfl,.inl ⟨rfl,.inl ⟨_,_,_,rfl,Jk (f:=u32) (fun _=>K8) t95.1,rfl⟩⟩⟩,trivial⟩ (MiF.get (mi:=[]) trivial) trivial rfl ⟨rfl,trivial⟩ ⟨.inl rfl,trivial⟩ rfl ⟨.inl ⟨_,_,rfl,rfl,rc_sl (Jk (f:=u32) (fun _=>K8) r141)⟩,trivial⟩ trivial ⟨⟨_,rfl⟩,trivial⟩ (Ve rfl) rfl) ?_
 refine z [30] ?_
 refine b fun r143 h144=>?_
 refine so (callL (em:=[(103,.sl 129 1 (List.map u32 r143))]) (res':=.own 103) [101] [] [(103,50)] [(103,50)] rfl (J3 _ h144) ⟨Qas (f:=u32) (fun _=>Qcq) _,trivial⟩ (Qdm) ⟨.inr ⟨101,rfl,.inl ⟨rfl,.inl ⟨_,_,_,rfl,Jk (f:=u32) (fun _=>K8) t95.2,rfl⟩⟩⟩,trivial⟩ (MiF.get (mi:=[]) trivial) trivial rfl ⟨rfl,trivial⟩ ⟨.inl rfl,trivial⟩ rfl ⟨.inl ⟨_,_,rfl,rfl,rc_sl (Jk (f:=u32) (fun _=>K8) r143)⟩,trivial⟩ trivial ⟨⟨_,rfl⟩,trivial⟩ (Ve rfl) rfl) ?_
 refine z [31,31,1,8] ?_
 refine fz 102 [4,51] [] ?_
 refine fz 103 [5,53] [] ?_
 exact rt []
theorem Qgq{n:Nat}{x0}{x1}:∀ r,Xw n x0 x1=some r->FnOk Tryz.prog 59 [sli 1 (List.map u32 x0),sli 1 (List.map u32 x1)] [] (sli 1 (List.map u32 r)) []:=by
 unfold Xw
 refine fs Tryz.func59 fun w S0 γ hγ=>?_
 refine z [2] ?_
 refine s1 (asg rfl (kLm (k:=1) u32)) ?_
 refine z [1,5,2,30] ?_
 refine cb (ca Qhi) fun r1=>?_
 refine z [1] ?_
 refine c ?_ ?_
 · refine z [2,30] ?_
   refine b fun r3 h4=>?_
   refine o (cG (J3 _ h4) [] [(100,50)] []) ?_
   refine z [31,1,8,10] ?_
   refine fz 100 [4,10] [] ?_
   exact rt []
 refine z [9,4,2,30,30] ?_
 refine cb (ca Qn2) fun r5=>?_
 refine z [30,35,35,31,31,1,2,30,31,1,8] ?_
 exact rt []
theorem Js{n:Nat}{x0}:∀ r,Jb n x0=some r->FnOk Tryz.prog 17 [Qb x0] [] (Qb r) []:=by
 unfold Jb
 refine fs Tryz.func17 fun w S0 γ hγ=>?_
 refine z [2] ?_
 refine o (bx' 100) ?_
 refine o (al' 101) ?_
 refine z [1,2,33,36] ?_
 refine b fun r1 h2=>?_
 refine o (cG (J3 _ h2) [] [(102,50)] []) ?_
 refine z [31,1,2,33,36] ?_
 refine b fun r3 h4=>?_
 refine o (cG (J3 _ h4) [] [(103,50)] []) ?_
 refine z [31,1,5] ?_
 refine sjq (fun s7=>[(1,.own 100),(2,.own 101),(3,.own 102),(4,.own 103),(19,bl s7)]) (fun s7=>[(100,.bx 34 (Qb x0)),(101,.bx 34 (Qb (⟨false,[],[]⟩:Qa))),(102,.sl 129 1 (List.map u32 r1)),(103,.sl 129 1 (List.map u32 r3))]) ?_ ?_
 · intro j5 hj6
   refine z [6,30,55,41,30] ?_
   refine sifd 15 rfl ?_ ?_
   · refine z [23,23,23,38,1] ?_
     exact sj (hj6 _) (eR [(100,100),(101,101),(102,102),(103,103)])
   refine z [22,22,22,37,1] ?_
   exact sj (hj6 _) (eR [(100,100),(101,101),(102,102),(103,103)])
 intro s7
 refine c ?_ ?_
 · refine z [2] ?_
   refine so (bsl (y:=104) (ls:=List.map u32 ([]:List Nat)) Tryz.underlying32 Kt.h rfl rfl rfl rfl rfl trivial rfl rfl) ?_
   refine so (bsl (y:=105) (ls:=List.map u32 ([1]:List Nat)) Tryz.underlying32 Kt.h rfl rfl rfl rfl rfl ⟨rfl,(k32 (x:=1) rfl),(by exact rfl),(by exact rfl),trivial⟩ rfl rfl) ?_
   refine fz 104 [20] [] ?_
   refine fz 105 [21] [] ?_
   refine s1 (bld (l:=[bl false,sli 1 (List.map u32 ([]:List Nat)),sli 1 (List.map u32 ([1]:List Nat))]) pl_34.h ti_34.h Q2 ⟨_,_,_,rfl,rfl,rfl,rfl,(szk (k:=1) rfl rfl),⟨_,_,_,rfl,rfl,rfl,rfl,(szk (k:=1) rfl rfl),rfl⟩⟩ rfl) ?_
   refine z [34,1,8,10] ?_
   exact rt []
 refine z [9,4] ?_
 refine sjq (fun s34=>[(1,.own 100),(2,.own 101),(3,sli 1 (List.map u32 s34.1)),(4,sli 1 (List.map u32 s34.2))]) (fun s34=>[(100,.bx 34 (Qb x0)),(101,.bx 34 (Qb (⟨false,[],[]⟩:Qa)))]) ?_ ?_
 · intro j32 hj33
   refine z [2,30] ?_
   refine b fun r35 h36=>?_
   refine s1 (callL (em:=[]) [102] [] [] [] rfl (Qhi _ h36) trivial (pl_bl) ⟨.inr ⟨102,rfl,.inl ⟨rfl,.inl ⟨_,_,_,rfl,Jk (f:=u32) (fun _=>K8) r1,rfl⟩⟩⟩,trivial⟩ (fun _ _ h=>by cases h) trivial rfl trivial trivial rfl trivial trivial trivial (rn_id (if_bl)) rfl) ?_
   refine z [44,1] ?_
   refine c ?_ ?_
   · refine z [2,30,30] ?_
     refine fz 103 [4,26] [] ?_
     refine fz 102 [3,23,27] [] ?_
     refine cb (ca Qn0) fun r37=>?_
     refine z [31,1,2,30,30] ?_
     refine cb (ca Qgq) fun r39=>?_
     refine z [31,1,6,30,30] ?_
     refine cb (ca Qgq) fun r41=>?_
     refine z [31,1] ?_
     exact sj (hj33 _) (eR [(100,100),(101,101)])
   refine z [9] ?_
   refine fz 102 [3,23] [] ?_
   refine fz 103 [4] [] ?_
   refine z [4] ?_
   exact sj (hj33 _) (eR [(100,100),(101,101)])
 intro s34
 refine z [2,33,36,30,30] ?_
 refine s1 (bld (l:=[bl x0.Neg,sli 1 (List.map u32 s34.2),sli 1 (List.map u32 s34.1)]) pl_34.h ti_34.h Q2 ⟨_,_,_,rfl,rfl,rfl,rfl,(szk (k:=1) rfl rfl),⟨_,_,_,rfl,rfl,rfl,rfl,(szk (k:=1) rfl rfl),⟨_,_,_,rfl,rfl,rfl,rfl,(szk (k:=1) rfl rfl),rfl⟩⟩⟩ rfl) ?_
 refine z [34,1,8] ?_
 exact rt []
theorem Qc7{x0}:∀ r,Wu x0=some r->FnOk Tryz.prog 24 [Qb x0] [] (i64 r) []:=by
 unfold Wu
 refine fs Tryz.func24 fun w S0 γ hγ=>?_
 refine z [2] ?_
 refine o (bx' 100) ?_
 refine z [31,1,5,2,33,36,39,41,1] ?_
 refine c ?_ ?_
 · refine z [2,31,1,8,10] ?_
   exact rt []
 refine z [9,4,5,2,33,36,1] ?_
 refine c ?_ ?_
 · refine z [2,31,1,8,10] ?_
   exact rt []
 refine z [9,4,2,31,1,8] ?_
 exact rt []
theorem J1{x0}{x1}{x2}:∀ r,Jf x0 x1 x2=some r->FnOk Tryz.prog 153 [i64 x0,i64 x1,i64 x2] [] (bl r) []:=by
 unfold Jf
 refine fs Tryz.func153 fun w S0 γ hγ=>?_
 refine z [2,31,1] ?_
 refine sjq (fun s3=>[(6,bl s3)]) (fun s3=>[]) ?_ ?_
 · intro j1 hj2
   refine z [6,30,30,57,30] ?_
   refine sifd 10 rfl ?_ ?_
   · refine z [22,22,22,38,31,1] ?_
     exact sj (hj2 _) eI
   refine z [23,23,23,37,31,1] ?_
   exact sj (hj2 _) eI
 intro s3
 refine z [8] ?_
 exact rt []
theorem Qgr{n:Nat}{x0}{x1}:∀ r,Xs n x0 x1=some r->FnOk Tryz.prog 158 [sli 1 (List.map u32 x0),sli 1 (List.map u32 x1)] [] (bl r) []:=by
 unfold Xs
 refine fs Tryz.func158 fun w S0 γ hγ=>?_
 refine z [2,31,1,5,2,30,39,30,39,56,1] ?_
 refine c ?_ ?_
 · refine z [2,31,1,8,10] ?_
   exact rt []
 refine z [9,4,5,2,31,1,7] ?_
 refine sloopE 0 Lp.go (fun s13=>[(0,sli 1 (List.map u32 x0)),(1,sli 1 (List.map u32 x1)),(4,bl false),(5,i64 s13)]) (fun s13=>[]) (fun t11=>[(4,bl false)]) (fun t11=>[]) eI ?_ ?_
 · intro hj12 s13
   refine z [5,2,30,30,39,46,1] ?_
   refine c ?_ ?_
   · refine z [9,4,5,7,5] ?_
     refine b fun y14 h15=>?_
     refine b fun y16 h17=>?_
     refine sd ?_
     refine zd [[],[],[],[],[],[],[],[],[]] ?_
     refine de fol ?_
     refine z [4] ?_
     refine c ?_ ?_
     · refine z [2,31,1,8,12,10] ?_
       refine sU ?_
       refine z [12,10] ?_
       exact rt []
     refine z [9,11,4,6,30,40,31,3] ?_
     exact sgo eI
   refine z [14,15] ?_
   exact su (sj (hj12 _) eI)
 intro t11
 refine slpk ?_
 refine z [13,4,2,31,1,8] ?_
 exact rt []
theorem Vw{n:Nat}{x0}{x1}:∀ r,Jm n x0 x1=some r->FnOk Tryz.prog 96 [Qb x0,Qb x1] [] (bl r) []:=by
 unfold Jm
 refine fs Tryz.func96 fun w S0 γ hγ=>?_
 refine z [2] ?_
 refine o (bx' 100) ?_
 refine o (bx' 101) ?_
 refine z [31,1] ?_
 refine sjq (fun s7=>[(4,bl s7)]) (fun s7=>[]) ?_ ?_
 · intro j5 hj6
   refine z [6,33,36,33,36,74,30] ?_
   refine sifd 10 rfl ?_ ?_
   · refine z [22,22,22,22] ?_
     refine b fun r8 h9=>?_
     refine og' (c0 (Qgr _ h9)) ?_
     refine z [38,30] ?_
     refine sifd 17 rfl ?_ ?_
     · refine z [22,22,22,22] ?_
       refine b fun r10 h11=>?_
       refine og' (c0 (Qgr _ h11)) ?_
       refine z [38,31,1] ?_
       exact sj (hj6 _) (eR [])
     refine z [23,23,23,23,23,37,31,1] ?_
     exact sj (hj6 _) (eR [])
   refine z [23,23,23,23,23,37,30,23,23,23,23,23,37,31,1] ?_
   exact sj (hj6 _) (eR [])
 intro s7
 refine z [8] ?_
 exact rt []
theorem Qn3{n:Nat}{x0}{x1}{x2}{x3}:∀ r,Ye n x0 x1 x2 x3=some r->FnOk Tryz.prog 154 [Jo x0,i64 x1,i64 x2,i64 x3] [] (bl r) []:=by
 unfold Ye
 refine fs Tryz.func154 fun w S0 γ hγ=>?_
 refine z [2] ?_
 refine o (bx' 100) ?_
 refine z [31,1,5,2,33,36,41,1] ?_
 refine c ?_ ?_
 · refine sjq (fun s9=>[(1,i64 x1),(2,i64 x2),(3,i64 x3),(4,.own 100),(8,bl s9)]) (fun s9=>[(100,.bx 144 (Jo x0))]) ?_ ?_
   · intro j7 hj8
     refine sif (fun hb10=>?_) (fun hb10=>?_)
     · refine sif (fun hb11=>?_) (fun hb11=>?_)
       · refine b fun r12 h13=>?_
         refine b fun r14 h15=>?_
         refine sd ?_
         refine zd [[100],[100],[]] ?_
         refine dd [] (fun _ _ _ _=>obk hb10 ops) ?_
         refine zd [[100],[100],[],[]] ?_
         refine dd [] (fun _ _ _ _=>obk hb11 ops) ?_
         refine zd [[100],[100]] ?_
         refine dG [] (fun _ _ _ _=>c0 (Js _ h13)) ?_
         refine zd [[100],[100]] ?_
         refine dG [] (fun _ _ _ _=>c0 (Vw _ h15)) ?_
         refine zd [[],[]] ?_
         refine de fol ?_
         refine z [4] ?_
         exact sj (hj8 _) (eR [(100,100)])
       refine sd ?_
       refine zd [[100],[100],[]] ?_
       refine dd [] (fun _ _ _ _=>obk hb10 ops) ?_
       refine zd [[100],[100],[],[]] ?_
       refine dd [] (fun _ _ _ _=>obk hb11 ops) ?_
       refine zd [[],[],[],[],[],[],[],[]] ?_
       refine de fol ?_
       refine z [4] ?_
       exact sj (hj8 _) (eR [(100,100)])
     refine sd ?_
     refine zd [[100],[100],[]] ?_
     refine dd [] (fun _ _ _ _=>obk hb10 ops) ?_
     refine zd [[],[],[],[],[],[],[],[],[],[],[],[],[]] ?_
     refine de fol ?_
     refine z [4] ?_
     exact sj (hj8 _) (eR [(100,100)])
   intro s9
   refine z [8,10] ?_
   exact rt []
 refine z [9,4,5] ?_
 refine sjq (fun s18=>[(1,i64 x1),(2,i64 x2),(3,i64 x3),(4,.own 100),(8,bl false),(44,bl s18)]) (fun s18=>[(100,.bx 144 (Jo x0))]) ?_ ?_
 · intro j16 hj17
   refine z [6,33,45,36,30] ?_
   refine sifd 31 rfl ?_ ?_
   · refine z [23,23,23,23,23,38,30,23,23,23,23,23,38,1] ?_
     exact sj (hj17 _) (eR [(100,100)])
   refine z [22,22,22,22,22,37,30] ?_
   refine sifd 38 rfl ?_ ?_
   · refine z [23,23,23,23,23,38,1] ?_
     exact sj (hj17 _) (eR [(100,100)])
   refine z [22,22,22,22,22,37,1] ?_
   exact sj (hj17 _) (eR [(100,100)])
 intro s18
 refine c ?_ ?_
 · refine z [2,31,1,8,10] ?_
   exact rt []
 refine z [9,4,5,2,33,36,41,1] ?_
 refine c ?_ ?_
 · refine sjq (fun s21=>[(1,i64 x1),(2,i64 x2),(3,i64 x3),(4,.own 100),(8,bl s21)]) (fun s21=>[(100,.bx 144 (Jo x0))]) ?_ ?_
   · intro j19 hj20
     refine z [6,33,36,41,30] ?_
     refine sifd 51 rfl ?_ ?_
     · refine z [22,22,22,38,31,1] ?_
       exact sj (hj20 _) (eR [(100,100)])
     refine z [23,23,23,37,31,1] ?_
     exact sj (hj20 _) (eR [(100,100)])
   intro s21
   refine z [8,10] ?_
   exact rt []
 refine z [9,4,5,2,33,36,41,1] ?_
 refine c ?_ ?_
 · refine sjq (fun s26=>[(1,i64 x1),(3,i64 x3),(4,.own 100),(8,bl s26)]) (fun s26=>[(100,.bx 144 (Jo x0))]) ?_ ?_
   · intro j24 hj25
     refine z [6,33,36,30,49] ?_
     refine cb (ca J1) fun r27=>?_
     refine z [30] ?_
     refine sifd 64 rfl ?_ ?_
     · refine z [22,22,22,38,31,1] ?_
       exact sj (hj25 _) (eR [(100,100)])
     refine z [23,23,23,37,31,1] ?_
     exact sj (hj25 _) (eR [(100,100)])
   intro s26
   refine z [8,10] ?_
   exact rt []
 refine z [9,4,5,2,33,36,41,1] ?_
 refine c ?_ ?_
 · refine sjq (fun s33=>[(1,i64 x1),(4,.own 100),(8,bl s33)]) (fun s33=>[(100,.bx 144 (Jo x0))]) ?_ ?_
   · intro j31 hj32
     refine z [6,33,36,30,49] ?_
     refine cb (ca J1) fun r34=>?_
     refine z [30] ?_
     refine sifd 77 rfl ?_ ?_
     · refine z [22,22,22,38,31,1] ?_
       exact sj (hj32 _) (eR [(100,100)])
     refine z [23,23,23,37,31,1] ?_
     exact sj (hj32 _) (eR [(100,100)])
   intro s33
   refine z [8,10] ?_
   exact rt []
 refine z [9,4,5,2,33,36,41,1] ?_
 refine c ?_ ?_
 · refine sjq (fun s40=>[(1,i64 x1),(4,.own 100),(8,bl s40)]) (fun s40=>[(100,.bx 144 (Jo x0))]) ?_ ?_
   · intro j38 hj39
     refine z [6,33,36,30,49] ?_
     refine cb (ca J1) fun r41=>?_
     refine z [30] ?_
     refine sifd 90 rfl ?_ ?_
     · refine z [22,22,22,38,31,1] ?_
       exact sj (hj39 _) (eR [(100,100)])
     refine z [23,23,23,37,31,1] ?_
     exact sj (hj39 _) (eR [(100,100)])
   intro s40
   refine z [8,10] ?_
   exact rt []
 refine z [9,4,5,2,33,36,41,1] ?_
 refine c ?_ ?_
 · refine sjq (fun s49=>[(1,i64 x1),(4,.own 100),(8,bl s49)]) (fun s49=>[(100,.bx 144 (Jo x0))]) ?_ ?_
   · intro j47 hj48
     refine z [6,33,36,30,49] ?_
     refine cb (ca J1) fun r50=>?_
     refine z [30] ?_
     refine sifd 103 rfl ?_ ?_
     · refine z [22,22] ?_
       refine b fun r52 h53=>?_
       refine og' (c0 (J1 _ h53)) ?_
       refine z [38,31,1] ?_
       exact sj (hj48 _) (eR [(100,100)])
     refine z [23,23,23,37,31,1] ?_
     exact sj (hj48 _) (eR [(100,100)])
   intro s49
   refine z [8,10] ?_
   exact rt []
 refine z [9,4] ?_
 refine sjq (fun s62=>[(8,bl s62)]) (fun s62=>[]) ?_ ?_
 · intro j60 hj61
   refine z [6,33,36] ?_
   refine cb (ca J1) fun r63=>?_
   refine z [30] ?_
   refine sifd 111 rfl ?_ ?_
   · refine z [22,22,22,22] ?_
     refine b fun r65 h66=>?_
     refine og' (c0 (J1 _ h66)) ?_
     refine z [38,30] ?_
     refine sifd 118 rfl ?_ ?_
     · refine z [22,22,22,22] ?_
       refine b fun r67 h68=>?_
       refine og' (c0 (J1 _ h68)) ?_
       refine z [38,31,1] ?_
       exact sj (hj61 _) (eR [])
     refine z [23,23,23,23,23,37,31,1] ?_
     exact sj (hj61 _) (eR [])
   refine z [23,23,23,23,23,37,30,23,23,23,23,23,37,31,1] ?_
   exact sj (hj61 _) (eR [])
 intro s62
 refine z [8] ?_
 exact rt []
theorem Ql9{n:Nat}{x0}:∀ r,Y3 n x0=some r->FnOk Tryz.prog 94 [Jc x0] [] (i64 r) []:=by
 unfold Y3
 refine fs Tryz.func94 fun w S0 γ hγ=>?_
 refine z [2] ?_
 refine o (bx' 100) ?_
 refine z [31,1,5] ?_
 refine sjq (fun s7=>[(1,.own 100),(2,i64 (0:Int)),(28,bl s7)]) (fun s7=>[(100,.bx 25 (Jc x0))]) ?_ ?_
 · intro j5 hj6
   refine z [6,33,36] ?_
   refine cb (ca J1) fun r8=>?_
   refine z [44,30] ?_
   refine sifd 9 rfl ?_ ?_
   · refine z [23,23,23,23,38,30,23,23,23,23,23,23,38,30,23,23,23,23,38,1] ?_
     exact sj (hj6 _) (eR [(100,100)])
   refine z [22,22] ?_
   refine b fun r10 h11=>?_
   refine og' (c0 (J1 _ h11)) ?_
   refine z [22,37,30] ?_
   refine sifd 15 rfl ?_ ?_
   · refine z [23,23,23,23,23,23,38,30,23,23,23,23,38,1] ?_
     exact sj (hj6 _) (eR [(100,100)])
   refine z [22,22,22,22,22,22,37,30] ?_
   refine sifd 23 rfl ?_ ?_
   · refine z [23,23,23,23,38,1] ?_
     exact sj (hj6 _) (eR [(100,100)])
   refine z [22,22,22,22,37,1] ?_
   exact sj (hj6 _) (eR [(100,100)])
 intro s7
 refine c ?_ ?_
 · refine z [2,31,1,8,10] ?_
   exact rt []
 refine z [9,4,5,2,31,1,7] ?_
 refine sloopE 0 Lp.go (fun s24=>[(1,.own 100),(2,i64 (0:Int)),(3,i64 s24)]) (fun s24=>[(100,.bx 25 (Jc x0))]) (fun t22=>[(1,.own 100),(2,i64 (0:Int))]) (fun t22=>[(100,.bx 25 (Jc x0))]) (eR [(100,100)]) ?_ ?_
 · intro hj23 s24
   refine z [5,2,30,33,36,39,46,1] ?_
   refine c ?_ ?_
   · refine z [9,4,5,7,5] ?_
     refine b fun y25 h26=>?_
     refine b fun r27 h28=>?_
     refine sd ?_
     refine zd [[100],[100],[],[],[],[],[100],[100],[100],[100]] ?_
     refine dd [] (fun _ _ _ _=>c0 (Qn3 _ h28)) ?_
     refine zd [[]] ?_
     refine de fol ?_
     refine z [4] ?_
     refine c ?_ ?_
     · refine z [2,30,31,1,8,12,10] ?_
       refine sU ?_
       refine z [12,10] ?_
       exact rt []
     refine z [9,11,4,6,30,40,31,3] ?_
     exact sgo (eR [(100,100)])
   refine z [14,15] ?_
   exact su (sj (hj23 _) (eR [(100,100)]))
 intro t22
 refine slpk ?_
 refine z [13,4,5,2,31,1,7] ?_
 refine sloopE 2 Lp.go (fun s41=>[(1,.own 100),(2,i64 (0:Int)),(4,i64 s41)]) (fun s41=>[(100,.bx 25 (Jc x0))]) (fun t39=>[(2,i64 (0:Int))]) (fun t39=>[]) (eR [(100,100)]) ?_ ?_
 · intro hj40 s41
   refine z [5,2,30,33,36,39,46,1] ?_
   refine c ?_ ?_
   · refine z [9,4,5,7,5] ?_
     refine b fun y42 h43=>?_
     refine b fun r44 h45=>?_
     refine sd ?_
     refine zd [[100],[100],[],[],[],[100],[100],[],[]] ?_
     refine dd [] (fun _ _ _ _=>c0 (J1 _ h45)) ?_
     refine zd [[]] ?_
     refine de fol ?_
     refine z [4] ?_
     refine c ?_ ?_
     · refine z [2,33,36,39,31,1,8,12,10] ?_
       refine sU ?_
       refine z [12,10] ?_
       exact rt []
     refine z [9,11,4,6,30,40,31,3] ?_
     exact sgo (eR [(100,100)])
   refine z [14,15] ?_
   exact su (sj (hj40 _) (eR []))
 intro t39
 refine slpk ?_
 refine z [13,4,2,31,1,8] ?_
 exact rt []
theorem Qam{x0}:∀ r,Vm x0=some r->FnOk Tryz.prog 269 [u8 x0] [] (bl r) []:=by
 unfold Vm
 refine fs Tryz.func269 fun w S0 γ hγ=>?_
 refine z [2,31,1] ?_
 refine sjq (fun s3=>[(2,bl s3)]) (fun s3=>[]) ?_ ?_
 · intro j1 hj2
   refine z [6,30,71,30] ?_
   refine sifd 5 rfl ?_ ?_
   · refine z [22,22,38,31,1] ?_
     exact sj (hj2 _) eI
   refine z [23,23,37,31,1] ?_
   exact sj (hj2 _) eI
 intro s3
 refine z [8] ?_
 exact rt []
theorem Qcb{x0}:∀ r,V6 x0=some r->FnOk Tryz.prog 270 [u8 x0] [] (bl r) []:=by
 unfold V6
 refine fs Tryz.func270 fun w S0 γ hγ=>?_
 refine z [2,31,1] ?_
 refine sjq (fun s3=>[(2,bl s3)]) (fun s3=>[]) ?_ ?_
 · intro j1 hj2
   refine z [6,30,71,30] ?_
   refine sifd 5 rfl ?_ ?_
   · refine z [22,22,38,30] ?_
     refine sifd 9 rfl ?_ ?_
     · refine z [23,23,23,24,24,23,38,30,23,23,38,31,1] ?_
       exact sj (hj2 _) eI
     refine z [22,22,22] ?_
     refine sifd 12 rfl ?_ ?_
     · refine z [22,22,22,37,30] ?_
       refine sifd 17 rfl ?_ ?_
       · refine z [23,23,38,31,1] ?_
         exact sj (hj2 _) eI
       refine z [22,22,37,31,1] ?_
       exact sj (hj2 _) eI
     refine z [23,23,22,37,30,22,22,37,31,1] ?_
     exact sj (hj2 _) eI
   refine z [23,23,37,30,22,22,22] ?_
   refine sifd 12 rfl ?_ ?_
   · refine z [22,22,22,37,30] ?_
     refine sifd 17 rfl ?_ ?_
     · refine z [23,23,38,31,1] ?_
       exact sj (hj2 _) eI
     refine z [22,22,37,31,1] ?_
     exact sj (hj2 _) eI
   refine z [23,23,22,37,30,22,22,37,31,1] ?_
   exact sj (hj2 _) eI
 intro s3
 refine z [8] ?_
 exact rt []
theorem Qng{x0}{x1}:∀ r,Zf x0 x1=some r->FnOk Tryz.prog 243 [i64 x0,u8 x1] [] (bl r) []:=by
 unfold Zf
 refine fs Tryz.func243 fun w S0 γ hγ=>?_
 refine z [2,31,1] ?_
 refine sjq (fun s13=>[(4,bl s13)]) (fun s13=>[]) ?_ ?_
 · intro j11 hj12
   refine z [6,30,41,30] ?_
   refine sifd 7 rfl ?_ ?_
   · refine z [22] ?_
     refine b fun r14 h15=>?_
     refine og' (c0 (Qam _ h15)) ?_
     refine z [38,30] ?_
     refine sifd 11 rfl ?_ ?_
     · refine z [23,23,23,24,24,24,24,24,24,23,38,31,1] ?_
       exact sj (hj12 _) eI
     refine z [22,22,22] ?_
     refine sifd 14 rfl ?_ ?_
     · refine z [22] ?_
       refine b fun r16 h17=>?_
       refine og' (c0 (Qam _ h17)) ?_
       refine z [22] ?_
       refine sifd 17 rfl ?_ ?_
       · refine z [23,23,22,22,37,31,1] ?_
         exact sj (hj12 _) eI
       refine z [22] ?_
       refine b fun r18 h19=>?_
       refine og' (c0 (Qcb _ h19)) ?_
       refine z [22,22,37,31,1] ?_
       exact sj (hj12 _) eI
     refine z [23,23,23,24,24,23,22,37,31,1] ?_
     exact sj (hj12 _) eI
   refine z [23,23,37,30,22,22,22] ?_
   refine sifd 14 rfl ?_ ?_
   · refine z [22] ?_
     refine b fun r20 h21=>?_
     refine og' (c0 (Qam _ h21)) ?_
     refine z [22] ?_
     refine sifd 17 rfl ?_ ?_
     · refine z [23,23,22,22,37,31,1] ?_
       exact sj (hj12 _) eI
     refine z [22] ?_
     refine b fun r22 h23=>?_
     refine og' (c0 (Qcb _ h23)) ?_
     refine z [22,22,37,31,1] ?_
     exact sj (hj12 _) eI
   refine z [23,23,23,24,24,23,22,37,31,1] ?_
   exact sj (hj12 _) eI
 intro s13
 refine z [8] ?_
 exact rt []
theorem Qnh{n:Nat}{x0}:∀ r,Zd n x0=some r->FnOk Tryz.prog 244 [u8 x0] [] (i64 r) []:=by
 unfold Zd
 refine fs Tryz.func244 fun w S0 γ hγ=>?_
 refine z [2,31,1,5,2,30] ?_
 refine cb (ca Qam) fun r1=>?_
 refine z [1] ?_
 refine c ?_ ?_
 · refine z [2,31,1,8,10] ?_
   exact rt []
 refine z [9,4,5,2,30] ?_
 refine cb (ca Qcb) fun r3=>?_
 refine z [1] ?_
 refine c ?_ ?_
 · refine z [2,31,1,8,10] ?_
   exact rt []
 refine z [9,4,2,31,1,5,2,31,1,7] ?_
 refine sloopE 0 Lp.go (fun s15=>[(0,u8 x0),(2,i64 (0:Int)),(3,str ([43,45,42,47,94,40,41,91,93,44,59,61]:List UInt8)),(4,i64 s15)]) (fun s15=>[]) (fun t13=>[(2,i64 (0:Int))]) (fun t13=>[]) eI ?_ ?_
 · intro hj14 s15
   refine z [5,2,30,30,54] ?_
   refine sbn (F:=i64) 11 rfl fun z16=>?_
   refine z [46,1] ?_
   refine c ?_ ?_
   · refine z [9,4,5,7,2,30,30] ?_
     refine b fun y17 h18=>?_
     refine z [90,30,66,1] ?_
     refine c ?_ ?_
     · refine z [2,31,1,8,12,10] ?_
       refine sU ?_
       refine z [12,10] ?_
       exact rt []
     refine z [9,11,4,6,30,40,31,3] ?_
     exact sgo eI
   refine z [14,15] ?_
   exact su (sj (hj14 _) eI)
 intro t13
 refine slpk ?_
 refine z [13,4,2,31,1,8] ?_
 exact rt []
theorem Qni{x0}:∀ r,Ze x0=some r->FnOk Tryz.prog 245 [i64 x0] [] (i64 r) []:=by
 unfold Ze
 refine fs Tryz.func245 fun w S0 γ hγ=>?_
 refine z [2,31,1,5,2,30,41,1] ?_
 refine c ?_ ?_
 · refine z [2,31,1,8,10] ?_
   exact rt []
 refine z [9,4,5,2,30,41,1] ?_
 refine c ?_ ?_
 · refine z [2,31,1,8,10] ?_
   exact rt []
 refine z [9,4,2,31,1,8] ?_
 exact rt []
theorem Qnj{n:Nat}{x0}:∀ r,Xz n x0=some r->FnOk Tryz.prog 203 [str x0] [] (.tup [sli 3 (List.map Qj r.1),i64 r.2]) []:=by
 unfold Xz
 refine fs Tryz.func203 fun w S0 γ hγ=>?_
 refine z [2] ?_
 refine s1 (asg rfl (kLm (k:=3) Qj)) ?_
 refine z [31,1,5,2,30,54,47,1] ?_
 refine c ?_ ?_
 · refine z [2] ?_
   refine so (bsl (y:=100) (ls:=List.map Qj ([]:List Qg)) Tryz.underlying285 Qbk.h rfl rfl rfl rfl rfl trivial rfl rfl) ?_
   refine z [31,31,1,8,10] ?_
   refine fz 100 [2,13] [] ?_
   exact rt []
 refine z [9,4,2] ?_
 refine so (asgN (y:=100) (E:=237) (k:=3) rfl rfl) ?_
 refine z [1,2,31,1,5,2,31,1,7] ?_
 refine sloopE 0 Lp.go (fun s407=>[(0,str x0),(2,sli 3 (List.map Qj ([]:List Qg))),(3,i64 (0:Int)),(4,.own 100),(5,bl s407.2.1),(6,i64 s407.2.2)]) (fun s407=>[(100,.sl 237 3 (List.map Qj s407.1))]) (fun t405=>[(2,sli 3 (List.map Qj ([]:List Qg))),(3,i64 (0:Int)),(4,.own 100)]) (fun t405=>[(100,.sl 237 3 (List.map Qj t405))]) (eR [(100,100)]) ?_ ?_
 · intro hj406 s407
   refine z [5,2,30,30,54,46,1] ?_
   refine c ?_ ?_
   · refine z [9,4] ?_
     refine sjq (fun s509=>[(0,str x0),(2,sli 3 (List.map Qj ([]:List Qg))),(3,i64 (0:Int)),(4,.own 100),(5,bl s509.2),(6,i64 s407.2.2)]) (fun s509=>[(100,.sl 237 3 (List.map Qj s509.1))]) ?_ ?_
     · intro j507 hj508
       refine z [7,2,30,30] ?_
       refine b fun y510 h511=>?_
       refine z [90,31,1] ?_
       refine sjq (fun s514=>[(0,str x0),(2,sli 3 (List.map Qj ([]:List Qg))),(3,i64 (0:Int)),(4,.own 100),(5,bl s514),(6,i64 s407.2.2),(7,u8 y510)]) (fun s514=>[(100,.sl 237 3 (List.map Qj s407.1))]) ?_ ?_
       · intro j512 hj513
         refine z [2,30,66,1] ?_
         refine c ?_ ?_
         · refine z [6,31,1] ?_
           exact sj (hj513 _) (eR [(100,100)])
         refine z [9,4] ?_
         exact sj (hj513 _) (eR [(100,100)])
       intro s514
       refine sjq (fun s517=>[(0,str x0),(2,sli 3 (List.map Qj ([]:List Qg))),(3,i64 (0:Int)),(4,.own 100),(5,bl s517),(6,i64 s407.2.2),(7,u8 y510)]) (fun s517=>[(100,.sl 237 3 (List.map Qj s407.1))]) ?_ ?_
       · intro j515 hj516
         refine z [2,30,66,1] ?_
         refine c ?_ ?_
         · refine z [6,31,1] ?_
           exact sj (hj516 _) (eR [(100,100)])
         refine z [9,4] ?_
         exact sj (hj516 _) (eR [(100,100)])
       intro s517
       refine z [5] ?_
       refine sjq (fun s520=>[(0,str x0),(2,sli 3 (List.map Qj ([]:List Qg))),(3,i64 (0:Int)),(4,.own 100),(5,bl s517),(6,i64 s407.2.2),(7,u8 y510),(43,bl s520)]) (fun s520=>[(100,.sl 237 3 (List.map Qj s407.1))]) ?_ ?_
       · intro j518 hj519
         refine z [6,30,30] ?_
         refine sifd 28 rfl ?_ ?_
         · refine z [23,23,38,30,23,23,38,30,23,23,38,30,23,23,38,1] ?_
           exact sj (hj519 _) (eR [(100,100)])
         refine z [22,22,37,30] ?_
         refine sifd 32 rfl ?_ ?_
         · refine z [23,23,38,30,23,23,38,30,23,23,38,1] ?_
           exact sj (hj519 _) (eR [(100,100)])
         refine z [22,22,37,30] ?_
         refine sifd 36 rfl ?_ ?_
         · refine z [23,23,38,30,23,23,38,1] ?_
           exact sj (hj519 _) (eR [(100,100)])
         refine z [22,22,37,30] ?_
         refine sifd 40 rfl ?_ ?_
         · refine z [23,23,38,1] ?_
           exact sj (hj519 _) (eR [(100,100)])
         refine z [22,22,37,1] ?_
         exact sj (hj519 _) (eR [(100,100)])
       intro s520
       refine c ?_ ?_
       · refine z [14,15,13,4] ?_
         exact sj (hj508 _) (eR [(100,100)])
       refine z [9,4,2,30,55,31,1] ?_
       refine sjq (fun s560=>[(0,str x0),(2,sli 3 (List.map Qj ([]:List Qg))),(3,i64 (0:Int)),(4,.own 100),(5,bl s517),(6,i64 s407.2.2)]) (fun s560=>[(100,.sl 237 3 (List.map Qj s560))]) ?_ ?_
       · intro j558 hj559
         refine sjq (fun s573=>[(0,str x0),(2,sli 3 (List.map Qj ([]:List Qg))),(3,i64 (0:Int)),(4,.own 100),(5,bl s517),(6,i64 s407.2.2),(7,u8 y510),(8,i64 (s407.1.length:Int)),(75,bl s573)]) (fun s573=>[(100,.sl 237 3 (List.map Qj s407.1))]) ?_ ?_
         · intro j571 hj572
           refine sif (fun hb574=>?_) (fun hb574=>?_)
           · refine b fun y575 h576=>?_
             refine b fun y577 h578=>?_
             refine sif (fun hb579=>?_) (fun hb579=>?_)
             · refine b fun y580 h581=>?_
               refine b fun r582 h583=>?_
               refine sd ?_
               refine zd [[],[]] ?_
               refine dd [] (fun _ _ _ _=>obk hb574 ops) ?_
               refine zd [[],[],[]] ?_
               refine dx [48,49,51] [100] (fun st mm ⟨a48,a49,a51,_⟩ ⟨g100,_⟩=>ogG 48 rfl (a48.trans rfl) (ixO (f:=Qj) (g100.trans rfl) Tryz.underlying285 Qbk.h h576 rfl (a49.trans rfl) (a51.trans rfl))) ?_
               refine zd [[]] ?_
               refine dx [48,53] [100] (fun st mm ⟨a48,a53,_⟩ ⟨g100,_⟩=>ogG 48 rfl (a48.trans rfl) (ldO (f:=Qj) [2] (g100.trans rfl) (Qah h576) (by exact rfl) (by exact rfl) sh_3.h (by exact rfl) (by exact rfl) rfl (a53.trans rfl))) ?_
               refine zd [[],[],[]] ?_
               refine dx [48,55,57] [100] (fun st mm ⟨a48,a55,a57,_⟩ ⟨g100,_⟩=>ogG 48 rfl (a48.trans rfl) (ixO (f:=Qj) (g100.trans rfl) Tryz.underlying285 Qbk.h h578 rfl (a55.trans rfl) (a57.trans rfl))) ?_
               refine zd [[]] ?_
               refine dx [48,59] [100] (fun st mm ⟨a48,a59,_⟩ ⟨g100,_⟩=>ogG 48 rfl (a48.trans rfl) (ldO (f:=Qj) [1] (g100.trans rfl) (Qah h578) (by exact rfl) (by exact rfl) sh_9.h (by exact rfl) (by exact rfl) rfl (a59.trans rfl))) ?_
               refine zd [[],[],[],[],[]] ?_
               refine dd [] (fun _ _ _ _=>obk hb579 ops) ?_
               refine zd [[],[],[]] ?_
               refine dx [66,67,69] [100] (fun st mm ⟨a66,a67,a69,_⟩ ⟨g100,_⟩=>ogG 66 rfl (a66.trans rfl) (ixO (f:=Qj) (g100.trans rfl) Tryz.underlying285 Qbk.h h581 rfl (a67.trans rfl) (a69.trans rfl))) ?_
               refine zd [[]] ?_
               refine dx [66,71] [100] (fun st mm ⟨a66,a71,_⟩ ⟨g100,_⟩=>ogG 66 rfl (a66.trans rfl) (ldO (f:=Qj) [0] (g100.trans rfl) (Qah h581) (by exact rfl) (by exact rfl) sh_3.h (by exact rfl) (by exact rfl) rfl (a71.trans rfl))) ?_
               refine zd [[]] ?_
               refine dG [] (fun _ _ _ _=>c0 (Qng _ h583)) ?_
               refine zd [[]] ?_
               refine de fol ?_
               refine z [4] ?_
               exact sj (hj572 _) (eR [(100,100)])
             refine sd ?_
             refine zd [[],[]] ?_
             refine dd [] (fun _ _ _ _=>obk hb574 ops) ?_
             refine zd [[],[],[]] ?_
             refine dx [48,49,51] [100] (fun st mm ⟨a48,a49,a51,_⟩ ⟨g100,_⟩=>ogG 48 rfl (a48.trans rfl) (ixO (f:=Qj) (g100.trans rfl) Tryz.underlying285 Qbk.h h576 rfl (a49.trans rfl) (a51.trans rfl))) ?_
             refine zd [[]] ?_
             refine dx [48,53] [100] (fun st mm ⟨a48,a53,_⟩ ⟨g100,_⟩=>ogG 48 rfl (a48.trans rfl) (ldO (f:=Qj) [2] (g100.trans rfl) (Qah h576) (by exact rfl) (by exact rfl) sh_3.h (by exact rfl) (by exact rfl) rfl (a53.trans rfl))) ?_
             refine zd [[],[],[]] ?_
             refine dx [48,55,57] [100] (fun st mm ⟨a48,a55,a57,_⟩ ⟨g100,_⟩=>ogG 48 rfl (a48.trans rfl) (ixO (f:=Qj) (g100.trans rfl) Tryz.underlying285 Qbk.h h578 rfl (a55.trans rfl) (a57.trans rfl))) ?_
             refine zd [[]] ?_
             refine dx [48,59] [100] (fun st mm ⟨a48,a59,_⟩ ⟨g100,_⟩=>ogG 48 rfl (a48.trans rfl) (ldO (f:=Qj) [1] (g100.trans rfl) (Qah h578) (by exact rfl) (by exact rfl) sh_9.h (by exact rfl) (by exact rfl) rfl (a59.trans rfl))) ?_
             refine zd [[],[],[],[],[]] ?_
             refine dd [] (fun _ _ _ _=>obk hb579 ops) ?_
             refine zd [[],[],[],[],[],[],[],[],[]] ?_
             refine de fol ?_
             refine z [4] ?_
             exact sj (hj572 _) (eR [(100,100)])
           refine sd ?_
           refine zd [[],[]] ?_
           refine dd [] (fun _ _ _ _=>obk hb574 ops) ?_
           refine zd [[],[],[],[],[],[],[],[],[],[],[],[],[],[],[],[],[],[],[],[],[],[],[],[],[],[],[]] ?_
           refine de fol ?_
           refine z [4] ?_
           exact sj (hj572 _) (eR [(100,100)])
         intro s573
         refine c ?_ ?_
         · refine b fun y584 h585=>?_
           refine b fun y586 h587=>?_
           refine b fun y588 h589=>?_
           refine b fun y590 h591=>?_
           refine sd ?_
           refine zd [[],[],[]] ?_
           refine dx [76,78] [100] (fun st mm ⟨a76,a78,_⟩ ⟨g100,_⟩=>og (ixO (f:=Qj) (g100.trans rfl) Tryz.underlying285 Qbk.h h585 rfl (a76.trans rfl) (a78.trans rfl))) ?_
           refine zd [[]] ?_
           refine dx [80] [100] (fun st mm ⟨a80,_⟩ ⟨g100,_⟩=>og (ldO (f:=Qj) [1] (g100.trans rfl) (Qah h585) (by exact rfl) (by exact rfl) sh_9.h (by exact rfl) (by exact rfl) rfl (a80.trans rfl))) ?_
           refine zd [[],[],[],[]] ?_
           refine dx [82,83,85] [] (fun st mm ⟨a82,a83,a85,_⟩ _=>og (slS h587 Tryz.underlying9 rfl (a82.trans rfl) (bnd (a83.trans rfl)) (bnd (a85.trans rfl)))) ?_
           refine zd [[]] ?_
           refine dx [76,78] [100] (fun st mm ⟨a76,a78,_⟩ ⟨g100,_⟩=>og (ixO (f:=Qj) (g100.trans rfl) Tryz.underlying285 Qbk.h h591 rfl (a76.trans rfl) (a78.trans rfl))) ?_
           refine zd [[]] ?_
           refine dx [89,87] [100] (fun st mm ⟨a89,a87,_⟩ ⟨g100,_⟩=>og (stO (f:=Qj) (⟨y590.Kind,y588,y590.At⟩:Qg) [1] (g100.trans rfl) (Qah h591) (by exact rfl) (by exact rfl) (by exact rfl) (by exact rfl) sh_9.h (by exact rfl) (by exact rfl) (by exact rfl) (a89.trans rfl) (a87.trans rfl))) ?_
           refine de fol ?_
           refine z [4] ?_
           exact sj (hj559 _) (eR [(100,100)])
         refine b fun r592 h593=>?_
         refine b fun y594 h595=>?_
         refine b fun y596 h597=>?_
         refine sd ?_
         refine zd [[],[]] ?_
         refine dd [] (fun _ _ _ _=>c0 (Qnh _ h593)) ?_
         refine zd [[],[],[],[]] ?_
         refine dx [93,94,96] [] (fun st mm ⟨a93,a94,a96,_⟩ _=>og (slS h595 Tryz.underlying9 rfl (a93.trans rfl) (bnd (a94.trans rfl)) (bnd (a96.trans rfl)))) ?_
         refine zd [[]] ?_
         refine dx [92,97,98] [] (fun st mm ⟨a92,a97,a98,_⟩ _=>og (bld (l:=[i64 r592,str y594,i64 s407.2.2]) Q2o.h Qbk.h Qci ⟨_,_,_,(a92.trans rfl),rfl,rfl,rfl,(szk (k:=1) rfl rfl),⟨_,_,_,(a97.trans rfl),rfl,rfl,rfl,(szk (k:=1) rfl rfl),⟨_,_,_,(a98.trans rfl),rfl,rfl,rfl,(szk (k:=1) rfl rfl),rfl⟩⟩⟩ rfl)) ?_
         refine dx [99] [101] (fun st mm ⟨a99,_⟩ ⟨g101,_⟩=>og (bsl (y:=101) (ls:=List.map Qj ([(⟨r592,y594,s407.2.2⟩:Qg)]:List Qg)) Tryz.underlying285 Qbk.h rfl rfl rfl rfl rfl ⟨rfl,(a99.trans rfl),(by exact rfl),(by exact rfl),trivial⟩ (g101.trans rfl) rfl)) ?_
         refine dd [100,101,102] (fun _ _ _ _=>app' 102) ?_
         refine zd [[]] ?_
         refine de fol ?_
         refine z [4] ?_
         exact sj (hj559 _) (eR [(100,102)])
       intro s560
       refine z [2,30,30,55,49] ?_
       refine b fun y598 h599=>?_
       refine z [50,51] ?_
       refine o (al' 103) ?_
       refine z [34,1] ?_
       refine sjq (fun s605=>[(0,str x0),(2,sli 3 (List.map Qj ([]:List Qg))),(3,i64 (0:Int)),(4,.own 100),(5,bl s517),(6,i64 s407.2.2),(119,bl s605)]) (fun s605=>[(100,.sl 237 3 (List.map Qj s560))]) ?_ ?_
       · intro j603 hj604
         refine sif (fun hb606=>?_) (fun hb606=>?_)
         · refine sd ?_
           refine zd [[103],[103],[]] ?_
           refine dd [] (fun _ _ _ _=>obk hb606 ops) ?_
           refine zd [[],[],[],[],[],[],[],[]] ?_
           refine de fol ?_
           refine z [4] ?_
           exact sj (hj604 _) (eR [(100,100)])
         refine b fun r607 h608=>?_
         refine sd ?_
         refine zd [[103],[103],[]] ?_
         refine dd [] (fun _ _ _ _=>obk hb606 ops) ?_
         refine zd [[103],[103],[],[103],[103]] ?_
         refine dG [] (fun _ _ _ _=>c0 (Qni _ h608)) ?_
         refine zd [[],[]] ?_
         refine de fol ?_
         refine z [4] ?_
         exact sj (hj604 _) (eR [(100,100)])
       intro s605
       refine c ?_ ?_
       · refine z [2] ?_
         refine so (bsl (y:=104) (ls:=List.map Qj ([]:List Qg)) Tryz.underlying285 Qbk.h rfl rfl rfl rfl rfl trivial rfl rfl) ?_
         refine z [30,31,31,1,8,12,10] ?_
         refine sU ?_
         refine z [12,10] ?_
         refine fz 104 [2,120] [] ?_
         exact rt []
       refine z [9,11,4] ?_
       exact sj (hj508 _) (eR [(100,100)])
     intro s509
     refine z [6,30,40,31,3] ?_
     exact sgo (eR [(100,100)])
   refine z [14,15] ?_
   exact su (sj (hj406 _) (eR [(100,100)]))
 intro t405
 refine slpk ?_
 refine z [13,4,2,30,31,31,1,8] ?_
 refine fz 100 [2,4,122] [] ?_
 exact rt []
theorem Qma{n:Nat}{x0}:∀ r,Y2 n x0=some r->FnOk Tryz.prog 155 [Qj x0] [] (bl r) []:=by
 unfold Y2
 refine fs Tryz.func155 fun w S0 γ hγ=>?_
 refine z [2] ?_
 refine o (bx' 100) ?_
 refine z [31,1,2,33,36] ?_
 refine cb (ca Qnj) fun r1=>?_
 refine z [30,35,35,31,31,1] ?_
 refine sjq (fun s12=>[(2,bl s12)]) (fun s12=>[]) ?_ ?_
 · intro j10 hj11
   refine sif (fun hb13=>?_) (fun hb13=>?_)
   · refine sif (fun hb14=>?_) (fun hb14=>?_)
     · refine b fun y15 h16=>?_
       refine sif (fun hb17=>?_) (fun hb17=>?_)
       · refine b fun y18 h19=>?_
         refine sd ?_
         refine zd [[],[]] ?_
         refine dd [] (fun _ _ _ _=>obk hb13 ops) ?_
         refine zd [[],[],[],[]] ?_
         refine dd [] (fun _ _ _ _=>obk hb14 ops) ?_
         refine zd [[]] ?_
         refine dx [18,19] [] (fun st mm ⟨a18,a19,_⟩ _=>ogG 18 rfl (a18.trans rfl) (ixR (f:=Qj) Tryz.underlying285 Qbk.h h16 rfl (a19.trans rfl) (kI (x:=0) rfl))) ?_
         refine zd [[],[],[100],[100],[],[]] ?_
         refine dd [] (fun _ _ _ _=>obk hb17 ops) ?_
         refine zd [[]] ?_
         refine dx [27,28] [] (fun st mm ⟨a27,a28,_⟩ _=>ogG 27 rfl (a27.trans rfl) (ixR (f:=Qj) Tryz.underlying285 Qbk.h h19 rfl (a28.trans rfl) (kI (x:=0) rfl))) ?_
         refine zd [[],[],[100],[100],[],[],[]] ?_
         refine de fol ?_
         refine z [4] ?_
         exact sj (hj11 _) (eR [])
       refine sd ?_
       refine zd [[],[]] ?_
       refine dd [] (fun _ _ _ _=>obk hb13 ops) ?_
       refine zd [[],[],[],[]] ?_
       refine dd [] (fun _ _ _ _=>obk hb14 ops) ?_
       refine zd [[],[],[],[],[100],[100],[],[]] ?_
       refine dd [] (fun _ _ _ _=>obk hb17 ops) ?_
       refine zd [[],[],[],[],[],[],[],[],[]] ?_
       refine de fol ?_
       refine z [4] ?_
       exact sj (hj11 _) (eR [])
     refine sd ?_
     refine zd [[],[]] ?_
     refine dd [] (fun _ _ _ _=>obk hb13 ops) ?_
     refine zd [[],[],[],[]] ?_
     refine dd [] (fun _ _ _ _=>obk hb14 ops) ?_
     refine zd [[],[],[],[],[],[],[],[],[],[],[],[],[],[],[],[],[],[]] ?_
     refine de fol ?_
     refine z [4] ?_
     exact sj (hj11 _) (eR [])
   refine sd ?_
   refine zd [[],[]] ?_
   refine dd [] (fun _ _ _ _=>obk hb13 ops) ?_
   refine zd [[],[],[],[],[],[],[],[],[],[],[],[],[],[],[],[],[],[],[],[],[],[],[]] ?_
   refine de fol ?_
   refine z [4] ?_
   exact sj (hj11 _) (eR [])
 intro s12
 refine z [8] ?_
 exact rt []
theorem Qgs{n:Nat}{x0}:∀ r,Xx n x0=some r->FnOk Tryz.prog 204 [Qb x0] [] (i64 r) []:=by
 unfold Xx
 refine fs Tryz.func204 fun w S0 γ hγ=>?_
 refine z [2] ?_
 refine o (bx' 100) ?_
 refine z [31,1,5] ?_
 refine b fun r1 h2=>?_
 refine b fun r3 h4=>?_
 refine sd ?_
 refine zd [[100],[100]] ?_
 refine dd [] (fun _ _ _ _=>c0 (Qdz _ h2)) ?_
 refine zd [[100],[100]] ?_
 refine dd [] (fun _ _ _ _=>c0 (Qdz _ h4)) ?_
 refine zd [[],[]] ?_
 refine de fol ?_
 refine z [4,8] ?_
 exact rt []
theorem Qbc{n:Nat}{x0}:∀ r,Wc n x0=some r->FnOk Tryz.prog 156 [sli 3 (List.map Qb x0)] [] (bl r) []:=by
 unfold Wc
 refine fs Tryz.func156 fun w S0 γ hγ=>?_
 refine z [2,31,1,5,2,31,1,7] ?_
 refine sloopE 0 Lp.go (fun s63=>[(0,sli 3 (List.map Qb x0)),(2,bl false),(3,i64 s63)]) (fun s63=>[]) (fun t61=>[(2,bl false)]) (fun t61=>[]) eI ?_ ?_
 · intro hj62 s63
   refine z [5,2,30,30,39,46,1] ?_
   refine c ?_ ?_
   · refine z [9,4,5,7] ?_
     refine sjq (fun s79=>[(0,sli 3 (List.map Qb x0)),(2,bl false),(3,i64 s63),(28,bl s79)]) (fun s79=>[]) ?_ ?_
     · intro j77 hj78
       refine b fun y80 h81=>?_
       refine b fun r82 h83=>?_
       refine b fun y84 h85=>?_
       refine b fun r86 h87=>?_
       refine sif (fun hb88=>?_) (fun hb88=>?_)
       · refine sd ?_
         refine zd [[],[]] ?_
         refine dx [10,11] [] (fun st mm ⟨a10,a11,_⟩ _=>og (ixR (f:=Qb) Tryz.underlying26 ti_34.h h81 rfl (a10.trans rfl) (a11.trans rfl))) ?_
         refine zd [[]] ?_
         refine dd [] (fun _ _ _ _=>c0 (Js _ h83)) ?_
         refine zd [[],[]] ?_
         refine dx [15,16] [] (fun st mm ⟨a15,a16,_⟩ _=>og (ixR (f:=Qb) Tryz.underlying26 ti_34.h h85 rfl (a15.trans rfl) (a16.trans rfl))) ?_
         refine zd [[]] ?_
         refine dd [] (fun _ _ _ _=>c0 (Vw _ h87)) ?_
         refine zd [[]] ?_
         refine dd [] (fun _ _ _ _=>obk hb88 ops) ?_
         refine zd [[],[],[],[],[],[],[]] ?_
         refine de fol ?_
         refine z [4] ?_
         exact sj (hj78 _) eI
       refine b fun y89 h90=>?_
       refine b fun r91 h92=>?_
       refine sd ?_
       refine zd [[],[]] ?_
       refine dx [10,11] [] (fun st mm ⟨a10,a11,_⟩ _=>og (ixR (f:=Qb) Tryz.underlying26 ti_34.h h81 rfl (a10.trans rfl) (a11.trans rfl))) ?_
       refine zd [[]] ?_
       refine dd [] (fun _ _ _ _=>c0 (Js _ h83)) ?_
       refine zd [[],[]] ?_
       refine dx [15,16] [] (fun st mm ⟨a15,a16,_⟩ _=>og (ixR (f:=Qb) Tryz.underlying26 ti_34.h h85 rfl (a15.trans rfl) (a16.trans rfl))) ?_
       refine zd [[]] ?_
       refine dd [] (fun _ _ _ _=>c0 (Vw _ h87)) ?_
       refine zd [[]] ?_
       refine dd [] (fun _ _ _ _=>obk hb88 ops) ?_
       refine zd [[],[]] ?_
       refine dx [21,22,23] [] (fun st mm ⟨a21,a22,a23,_⟩ _=>ogG 21 rfl (a21.trans rfl) (ixR (f:=Qb) Tryz.underlying26 ti_34.h h90 rfl (a22.trans rfl) (a23.trans rfl))) ?_
       refine zd [[]] ?_
       refine dG [] (fun _ _ _ _=>c0 (Qgs _ h92)) ?_
       refine zd [[],[]] ?_
       refine de fol ?_
       refine z [4] ?_
       exact sj (hj78 _) eI
     intro s79
     refine c ?_ ?_
     · refine z [2,31,1,8,12,10] ?_
       refine sU ?_
       refine z [12,10] ?_
       exact rt []
     refine z [9,11,4,6,30,40,31,3] ?_
     exact sgo eI
   refine z [14,15] ?_
   exact su (sj (hj62 _) eI)
 intro t61
 refine slpk ?_
 refine z [13,4,2,31,1,8] ?_
 exact rt []
end Go.Proofs.YthbndkiddockmaaGreatDoor
