import Derived.Test.YthbndkiddockmaaGreatDoorGen1a
set_option maxRecDepth 100000
set_option maxHeartbeats 4000000
namespace Go.Proofs.YthbndkiddockmaaGreatDoor
open Go Go.RowKit
theorem Qo2{x0}{x1}{x2}{x3}{x4}:∀ r,Qcs x0 x1 x2 x3 x4=some r->FnOk Tryz.prog 151 [.own 0,i64 x1,sli 1 (List.map u32 x2),u32 x3,u32 x4] [(0,.sl 129 1 (List.map u32 x0))] (.tup []) [(0,.sl 129 1 (List.map u32 r))]:=by
 unfold Qcs
 refine fs Tryz.func151 fun w S0 γ hγ=>?_
 refine z [5,2,30,39,30,1,7] ?_
 refine srN (fun s22=>[(0,.own 0),(1,i64 x1),(2,sli 1 (List.map u32 x2)),(3,u32 x3),(4,u32 s22.2),(12,sli 1 (List.map u32 x2))]) (fun s22=>[(0,.sl 129 1 (List.map u32 s22.1))]) (rE (eR [(0,0)])) ?_ ?_
 · intro i23 x24 s22 hx25
   refine z [7,2,30,43,42,31,31,1,6,30,30,30,40,30,30,30,30,30,40] ?_
   refine b fun y26 h27=>?_
   refine z [50,51,30] ?_
   refine cb (ca Qku) fun r28=>?_
   refine z [30,35,35,31] ?_
   refine b fun y30 h31=>?_
   refine z [50,53,3,11] ?_
   exact sgo (eR [(0,0)])
 intro s32
 refine z [13,4,6,30,30,30,39,40,30] ?_
 refine b fun y33 h34=>?_
 refine z [50,53,3] ?_
 exact rt [(0,0)]
theorem Qac{n:Nat}{x0}:∀ r,W0 n x0=some r->FnOk Tryz.prog 132 [sli 1 (List.map u32 x0)] [] (sli 1 (List.map u32 r)) []:=by
 unfold W0
 refine fs Tryz.func132 fun w S0 γ hγ=>?_
 refine z [2] ?_
 refine s1 (asg rfl (kLm (k:=1) u32)) ?_
 refine z [1,2,30,39,31,1,5,7] ?_
 refine sloopE 0 (fun t=>t) (fun s19=>[(0,sli 1 (List.map u32 x0)),(2,sli 1 (List.map u32 ([]:List Nat))),(3,i64 s19)]) (fun s19=>[]) (fun t17=>[(0,sli 1 (List.map u32 x0)),(2,sli 1 (List.map u32 ([]:List Nat))),(3,i64 t17)]) (fun t17=>[]) eI ?_ ?_
 · intro hj18 s19
   refine z [5] ?_
   refine sjq (fun s24=>[(0,sli 1 (List.map u32 x0)),(2,sli 1 (List.map u32 ([]:List Nat))),(3,i64 s19),(15,bl s24)]) (fun s24=>[]) ?_ ?_
   · intro j22 hj23
     refine z [6,30,47,30] ?_
     refine sifd 8 rfl ?_ ?_
     · refine z [22,22,22] ?_
       refine b fun y25 h26=>?_
       refine z [22,22,22,38,1] ?_
       exact sj (hj23 _) eI
     refine z [23,23,23,23,23,23,37,1] ?_
     exact sj (hj23 _) eI
   intro s24
   refine c ?_ ?_
   · refine z [9,4,7,6,30,49,31,3,11] ?_
     exact sgo eI
   refine z [14,15] ?_
   exact su (sj (hj18 _) eI)
 intro t17
 refine z [13,4,2,30,30] ?_
 refine b fun y27 h28=>?_
 refine s1 (slR (f:=u32) h28 Tryz.underlying32 Kt.h rfl rfl bnd0 (bnd rfl)) ?_
 refine z [31,1,8] ?_
 exact rt []
theorem Qnd{x0}{x1}:∀ r,Qc4 x0 x1=some r->FnOk Tryz.prog 202 [sli 1 (List.map u32 x0),i64 x1] [] (.own 50) [(50,.sl 129 1 (List.map u32 r))]:=by
 unfold Qc4
 refine fs Tryz.func202 fun w S0 γ hγ=>?_
 refine z [2] ?_
 refine s1 (asg rfl (kLm (k:=1) u32)) ?_
 refine z [1,2,30,39,30,40] ?_
 refine b fun y1 h2=>?_
 refine so (mks (y:=100) (f:=u32) h2 Tryz.underlying32 Kt.h Qb1 rfl rfl rfl rfl rfl rfl) ?_
 refine z [31,1,2,30,30] ?_
 refine so (cpy (f:=u32) rfl Tryz.underlying32 Kt.h rfl rfl (.inl rfl) rfl) ?_
 refine z [1,2,30,31,1,8] ?_
 exact rt [(50,100)]
theorem W1{n:Nat}{x0}:∀ r,Vh n x0=some r->FnOk Tryz.prog 152 [sli 1 (List.map u32 x0)] [] (.own 50) [(50,.sl 129 1 (List.map u32 r))]:=by
 unfold Vh
 refine fs Tryz.func152 fun w S0 γ hγ=>?_
 refine z [2] ?_
 refine s1 (asg rfl (kLm (k:=1) u32)) ?_
 refine z [1,2,30] ?_
 refine cb (ca Qac) fun r1=>?_
 refine b fun r3 h4=>?_
 refine o (cG (Qnd _ h4) [] [(100,50)] []) ?_
 refine z [31,1,8] ?_
 exact rt [(50,100)]
theorem Qzw{n:Nat}{x0}{x1}{x2}:∀ r,Qm8 n x0 x1 x2=some r->FnOk Tryz.prog 295 [sli 1 (List.map u32 x0),u32 x1,u32 x2] [] (sli 1 (List.map u32 r)) []:=by
 unfold Qm8
 refine fs Tryz.func295 fun w S0 γ hγ=>?_
 refine z [2] ?_
 refine s1 (asg rfl (kLm (k:=1) u32)) ?_
 refine z [1,2,30,39,40] ?_
 refine b fun y1 h2=>?_
 refine so (mks (y:=100) (f:=u32) h2 Tryz.underlying32 Kt.h Qb1 rfl rfl rfl rfl rfl rfl) ?_
 refine z [31,1,2,30,30,30,30] ?_
 refine b fun r3 h4=>?_
 refine o (cG (Qo2 _ h4) [100] [] []) ?_
 refine z [1,2,30] ?_
 refine b fun r5 h6=>?_
 refine so (callL (em:=[(101,.sl 129 1 (List.map u32 r5))]) (res':=.own 101) [100] [] [(101,50)] [(101,50)] rfl (W1 _ h6) ⟨Qas (f:=u32) (fun _=>Qcq) _,trivial⟩ (Qdm) ⟨.inr ⟨100,rfl,.inl ⟨rfl,.inl ⟨_,_,_,rfl,Jk (f:=u32) (fun _=>K8) r3,rfl⟩⟩⟩,trivial⟩ (MiF.get (mi:=[]) trivial) trivial rfl ⟨rfl,trivial⟩ ⟨.inl rfl,trivial⟩ rfl ⟨.inl ⟨_,_,rfl,rfl,rc_sl (Jk (f:=u32) (fun _=>K8) r5)⟩,trivial⟩ trivial ⟨⟨_,rfl⟩,trivial⟩ (Ve rfl) rfl) ?_
 refine z [31,1,8] ?_
 refine fz 101 [6,18] [] ?_
 exact rt []
theorem Qpo{n:Nat}{x0}:∀ r,Qgw n x0=some r->FnOk Tryz.prog 286 [str x0] [] (.tup [sli 1 (List.map u32 r.1),Qn r.2]) []:=by
 unfold Qgw
 refine fs Tryz.func286 fun w S0 γ hγ=>?_
 refine z [2] ?_
 refine s1 (asg rfl (kLm (k:=1) u32)) ?_
 refine o (al' 100) ?_
 refine z [1,5,2,30] ?_
 refine cb (ca Qus) fun r1=>?_
 refine z [31,1,2,30,57,1] ?_
 refine c ?_ ?_
 · refine z [2,30] ?_
   refine s1 (bld (l:=[i64 (1:Int),i64 0,i64 0,i64 r1]) pl_50.h ti_50.h Qq ⟨_,_,_,(kI (x:=1) rfl),rfl,rfl,rfl,(szk (k:=1) rfl rfl),⟨_,_,_,rfl,rfl,rfl,rfl,(szk (k:=1) rfl rfl),rfl⟩⟩ rfl) ?_
   refine s1 (asg rfl (kLm (k:=1) u32)) ?_
   refine z [34,1,8,10] ?_
   exact rt []
 refine z [9,4,2] ?_
 refine s1 (asg rfl (kLm (k:=1) u32)) ?_
 refine z [1,5,2,31,1,7] ?_
 refine sloopE 0 (fun t=>t) (fun s49=>[(0,str x0),(2,sli 1 (List.map u32 ([]:List Nat))),(3,.own 100),(5,sli 1 (List.map u32 s49.1)),(6,i64 s49.2)]) (fun s49=>[(100,.bx 50 (Qn (⟨0,0,0,0⟩:Qe)))]) (fun t47=>[(2,sli 1 (List.map u32 ([]:List Nat))),(3,.own 100),(5,sli 1 (List.map u32 t47))]) (fun t47=>[(100,.bx 50 (Qn (⟨0,0,0,0⟩:Qe)))]) (eR [(100,100)]) ?_ ?_
 · intro hj48 s49
   refine z [5,2,30,30,54,46,1] ?_
   refine c ?_ ?_
   · refine z [9,4,7,2,31,31,1,5,2,31,1,7] ?_
     refine sloopE 2 (fun t=>t) (fun s59=>[(0,str x0),(2,sli 1 (List.map u32 ([]:List Nat))),(3,.own 100),(5,sli 1 (List.map u32 s49.1)),(6,i64 s59.1),(7,u32 s59.2.1),(8,u32 s59.2.2.1),(9,i64 s59.2.2.2)]) (fun s59=>[(100,.bx 50 (Qn (⟨0,0,0,0⟩:Qe)))]) (fun t57=>[(0,str x0),(2,sli 1 (List.map u32 ([]:List Nat))),(3,.own 100),(5,sli 1 (List.map u32 s49.1)),(6,i64 t57.1),(7,u32 t57.2.1),(8,u32 t57.2.2)]) (fun t57=>[(100,.bx 50 (Qn (⟨0,0,0,0⟩:Qe)))]) (eR [(100,100)]) ?_ ?_
     · intro hj58 s59
       refine z [5] ?_
       refine sjq (fun s62=>[(0,str x0),(2,sli 1 (List.map u32 ([]:List Nat))),(3,.own 100),(5,sli 1 (List.map u32 s49.1)),(6,i64 s59.1),(7,u32 s59.2.1),(8,u32 s59.2.2.1),(9,i64 s59.2.2.2),(27,bl s62)]) (fun s62=>[(100,.bx 50 (Qn (⟨0,0,0,0⟩:Qe)))]) ?_ ?_
       · intro j60 hj61
         refine z [6,30,46,30] ?_
         refine sifd 22 rfl ?_ ?_
         · refine z [22,22,22,22,38,1] ?_
           exact sj (hj61 _) (eR [(100,100)])
         refine z [23,23,23,23,37,1] ?_
         exact sj (hj61 _) (eR [(100,100)])
       intro s62
       refine c ?_ ?_
       · refine z [9,4,5,7,2,30,63,30,30] ?_
         refine b fun y63 h64=>?_
         refine z [90,62,59,61] ?_
         refine sbn (F:=u32) 37 rfl fun z65=>?_
         refine z [31,1,2,30,63,31,1,6,30,40,31,3,11,4,6,30,40,31,3] ?_
         exact sgo (eR [(100,100)])
       refine z [14,15] ?_
       exact su (sj (hj58 _) (eR [(100,100)]))
     intro t57
     refine z [13,4,6,30,30,30] ?_
     refine cb (ca Qzw) fun r66=>?_
     refine z [31,3,11] ?_
     exact sgo (eR [(100,100)])
   refine z [14,15] ?_
   exact su (sj (hj48 _) (eR [(100,100)]))
 intro t47
 refine z [13,4,2,30] ?_
 refine s1 (bld (l:=[i64 0,i64 0,i64 0,i64 0]) pl_50.h ti_50.h Qq rfl rfl) ?_
 refine z [31,34,1,8] ?_
 exact rt []
theorem Yy{x0}{x1}:∀ r,Vy x0 x1=some r->FnOk Tryz.prog 131 [bl x0,sli 1 (List.map u32 x1)] [] (Q1 r) []:=by
 unfold Vy
 refine fs Tryz.func131 fun w S0 γ hγ=>?_
 refine z [2] ?_
 refine o (al' 100) ?_
 refine z [1] ?_
 refine sjq (fun s3=>[(4,.own 100)]) (fun s3=>[(100,.bx 43 (Q1 s3))]) ?_ ?_
 · intro j1 hj2
   refine z [6,30,30] ?_
   refine sifd 6 rfl ?_ ?_
   · refine z [22,22,22,38,30] ?_
     refine s1 (bld (l:=[bl (decide ((0:Int)<(x1.length:Int))),sli 1 (List.map u32 x1)]) pl_43.h ti_43.h Wn ⟨_,_,_,rfl,rfl,rfl,rfl,(szk (k:=1) rfl rfl),⟨_,_,_,rfl,rfl,rfl,rfl,(szk (k:=1) rfl rfl),rfl⟩⟩ rfl) ?_
     refine z [34,1] ?_
     exact sj (hj2 _) (eR [(100,100)])
   refine z [23,23,23,37,30] ?_
   refine s1 (bld (l:=[bl false,sli 1 (List.map u32 x1)]) pl_43.h ti_43.h Wn ⟨_,_,_,rfl,rfl,rfl,rfl,(szk (k:=1) rfl rfl),⟨_,_,_,rfl,rfl,rfl,rfl,(szk (k:=1) rfl rfl),rfl⟩⟩ rfl) ?_
   refine z [34,1] ?_
   exact sj (hj2 _) (eR [(100,100)])
 intro s3
 refine z [8] ?_
 exact rt []
theorem Qyh{n:Nat}{x0}:∀ r,Qlc n x0=some r->FnOk Tryz.prog 274 [str x0] [] (.tup [Q1 r.1,Qn r.2]) []:=by
 unfold Qlc
 refine fs Tryz.func274 fun w S0 γ hγ=>?_
 refine z [2] ?_
 refine o (al' 100) ?_
 refine o (al' 101) ?_
 refine z [1,2,30] ?_
 refine cb (ca Qiz) fun r1=>?_
 refine z [30,35,35,31,31,1,2,30] ?_
 refine cb (ca Qpo) fun r3=>?_
 refine z [30,35,35] ?_
 refine o (al' 102) ?_
 refine z [31,34,1,5,2,32] ?_
 refine s1 (bld (l:=[i64 0,i64 0,i64 0,i64 0]) pl_50.h ti_50.h Qq rfl rfl) ?_
 refine s1 (neA (p:=(r3.2:Qe)) (q:=((⟨0,0,0,0⟩:Qe):Qe)) K7 rfl eg_50 rfl rfl rfl) ?_
 refine z [1] ?_
 refine c ?_ ?_
 · refine z [2,33,36,30,54,30,54,49,40,33] ?_
   refine o (stP (Qn (⟨r3.2.Kind,r3.2.Step,r3.2.Stage,wrap64 (r3.2.At+(wrap64 ((x0.length:Int) - (r1.1.length:Int))))⟩:Qe)) [3]) ?_
   refine z [1,5] ?_
   refine sd ?_
   refine dx [] [] (fun st mm _ _=>og (bld (l:=[bl false,sli 1 (List.map u32 [])]) pl_43.h ti_43.h Wn rfl rfl)) ?_
   refine zd [[102],[100],[101]] ?_
   refine de fol ?_
   refine z [4,8,10] ?_
   exact rt []
 refine z [9,4,2,30,30] ?_
 refine cb (ca Yy) fun r5=>?_
 refine s1 (bld (l:=[i64 0,i64 0,i64 0,i64 0]) pl_50.h ti_50.h Qq rfl rfl) ?_
 refine z [34,34,1,8] ?_
 exact rt []
theorem Qbi{n:Nat}{x0}:∀ r,Y7 n x0=some r->FnOk Tryz.prog 77 [u64 x0] [] (sli 1 (List.map u32 r)) []:=by
 unfold Y7
 refine fs Tryz.func77 fun w S0 γ hγ=>?_
 refine z [2] ?_
 refine s1 (asg rfl (kLm (k:=1) u32)) ?_
 refine z [1,2,30,60,30] ?_
 refine s1 (shrU uk64 rfl rfl rfl (k64 (x:=32) rfl)) ?_
 refine z [60] ?_
 refine so (bsl (y:=100) (ls:=List.map u32 ([(x0%4294967296),((x0 / 2 ^ 32)%4294967296)]:List Nat)) Tryz.underlying32 Kt.h rfl rfl rfl rfl rfl ⟨rfl,rfl,(by exact rfl),(by exact rfl),rfl,rfl,(by exact rfl),(by exact rfl),trivial⟩ rfl rfl) ?_
 refine fz 100 [8] [] ?_
 refine cb (ca Qac) fun r1=>?_
 refine z [31,1,8] ?_
 exact rt []
theorem Q1c{n:Nat}{x0}:∀ r,Qhx n x0=some r->FnOk Tryz.prog 76 [i64 x0] [] (Q1 r) []:=by
 unfold Qhx
 refine fs Tryz.func76 fun w S0 γ hγ=>?_
 refine z [2] ?_
 refine o (al' 100) ?_
 refine z [1,5,2,30,46,1] ?_
 refine c ?_ ?_
 · refine z [2,30,83] ?_
   refine s1 (negU uk64 rfl rfl) ?_
   refine sbn (F:=u64) 7 rfl fun z1=>?_
   refine cb (ca Qbi) fun r2=>?_
   refine cb (ca Yy) fun r4=>?_
   refine z [34,1,8,10] ?_
   exact rt []
 refine z [9,4,2,30,83] ?_
 refine cb (ca Qbi) fun r6=>?_
 refine cb (ca Yy) fun r8=>?_
 refine z [34,1,8] ?_
 exact rt []
theorem Vv{n:Nat}{x0}:∀ r,Kv n x0=some r->FnOk Tryz.prog 38 [i64 x0] [] (Qd r) []:=by
 unfold Kv
 refine fs Tryz.func38 fun w S0 γ hγ=>?_
 refine z [2] ?_
 refine o (al' 100) ?_
 refine z [1,2,30] ?_
 refine cb (ca Q1c) fun r1=>?_
 refine cb (ca Qbi) fun r3=>?_
 refine s1 (bld (l:=[Q1 r1,sli 1 (List.map u32 r3)]) pl_45.h ti_45.h K2 ⟨_,_,_,rfl,rfl,rfl,rfl,(szk (k:=2) rfl rfl),⟨_,_,_,rfl,rfl,rfl,rfl,(szk (k:=1) rfl rfl),rfl⟩⟩ rfl) ?_
 refine z [34,1,8] ?_
 exact rt []
theorem Qid{n:Nat}{x0}:∀ r,Qbm n x0=some r->FnOk Tryz.prog 142 [sli 1 (List.map u32 x0)] [] (bl r) []:=by
 unfold Qbm
 refine fs Tryz.func142 fun w S0 γ hγ=>?_
 refine z [2,31,1,2,30] ?_
 refine cb (ca Qac) fun r1=>?_
 refine z [39,41,31,1,8] ?_
 exact rt []
theorem Qhf{n:Nat}{x0}{x1}:∀ r,Qbt n x0 x1=some r->FnOk Tryz.prog 134 [sli 1 (List.map u32 x0),sli 1 (List.map u32 x1)] [] (i64 r) []:=by
 unfold Qbt
 refine fs Tryz.func134 fun w S0 γ hγ=>?_
 refine z [2,31,1,2,30] ?_
 refine cb (ca Qac) fun r1=>?_
 refine z [30] ?_
 refine cb (ca Qac) fun r3=>?_
 refine z [31,31,1,5,7,2,30,39,30,39,46,31,1] ?_
 refine c ?_ ?_
 · refine z [2,31,1,8,12,10] ?_
   exact rt []
 refine z [2,30,39,30,39,47,31,1] ?_
 refine c ?_ ?_
 · refine z [2,31,1,8,12,10] ?_
   exact rt []
 refine z [9,11,4,5,2,30,39,49,31,1,7] ?_
 refine sloopE 1 Lp.go (fun s25=>[(0,sli 1 (List.map u32 r1)),(1,sli 1 (List.map u32 r3)),(4,i64 (0:Int)),(5,i64 s25)]) (fun s25=>[]) (fun t23=>[(4,i64 (0:Int))]) (fun t23=>[]) eI ?_ ?_
 · intro hj24 s25
   refine z [5,2,30,57,1] ?_
   refine c ?_ ?_
   · refine z [9,4,5,7,7,5] ?_
     refine b fun y26 h27=>?_
     refine b fun y28 h29=>?_
     refine sd ?_
     refine zd [[],[],[],[],[],[],[],[],[],[]] ?_
     refine de fol ?_
     refine z [4] ?_
     refine c ?_ ?_
     · refine z [2,31,1,8,12,12,10] ?_
       refine sU ?_
       refine z [12,10] ?_
       exact rt []
     refine z [5] ?_
     refine b fun y30 h31=>?_
     refine b fun y32 h33=>?_
     refine sd ?_
     refine zd [[],[],[],[],[],[],[],[],[],[]] ?_
     refine de fol ?_
     refine z [4] ?_
     refine c ?_ ?_
     · refine z [2,31,1,8,12,12,10] ?_
       refine sU ?_
       refine z [12,10] ?_
       exact rt []
     refine z [9,11,11,4,6,30,49,31,3] ?_
     exact sgo eI
   refine z [14,15] ?_
   exact su (sj (hj24 _) eI)
 intro t23
 refine slpk ?_
 refine z [13,4,2,31,1,8] ?_
 exact rt []
theorem Qth{x0}{x1}{x2}:∀ r,Qct x0 x1 x2=some r->FnOk Tryz.prog 220 [u32 x0,u32 x1,u32 x2] [] (.tup [u32 r.1,u32 r.2.1,bl r.2.2]) []:=by
 unfold Qct
 refine fs Tryz.func220 fun w S0 γ hγ=>?_
 refine z [2,31,31,31,1,5,2,30,30,71,1] ?_
 refine c ?_ ?_
 · refine z [2,31,31,31,1,8,10] ?_
   exact rt []
 refine z [9,4,2,30,59] ?_
 refine s1 (shlU uk64 rfl rfl rfl (k64 (x:=32) rfl)) ?_
 refine z [30,59,64,31,1,5] ?_
 refine b fun _ h1=>?_
 refine b fun _ h2=>?_
 refine sd ?_
 refine zd [[],[],[]] ?_
 refine dx [19,21] [] (fun st mm ⟨a19,a21,_⟩ _=>og (quoU uk64 (nzU h1) rfl (a19.trans rfl) (a21.trans rfl))) ?_
 refine zd [[],[],[],[]] ?_
 refine dx [24,26] [] (fun st mm ⟨a24,a26,_⟩ _=>og (remU uk64 (nzU h2) rfl (a24.trans rfl) (a26.trans rfl))) ?_
 refine zd [[],[],[],[]] ?_
 refine de fol ?_
 refine z [4,8] ?_
 exact rt []
theorem Qr0{n:Nat}{x0}{x1}:∀ r,Qez n x0 x1=some r->FnOk Tryz.prog 181 [sli 1 (List.map u32 x0),u32 x1] [] (.tup [sli 1 (List.map u32 r.1),u32 r.2.1,bl r.2.2]) []:=by
 unfold Qez
 refine fs Tryz.func181 fun w S0 γ hγ=>?_
 refine z [2] ?_
 refine s1 (asg rfl (kLm (k:=1) u32)) ?_
 refine z [31,31,1,5,2,30,66,1] ?_
 refine c ?_ ?_
 · refine z [2] ?_
   refine s1 (asg rfl (kLm (k:=1) u32)) ?_
   refine z [31,31,1,8,10] ?_
   exact rt []
 refine z [9,4,2,30,39] ?_
 refine b fun y1 h2=>?_
 refine so (mks (y:=100) (f:=u32) h2 Tryz.underlying32 Kt.h Qb1 rfl rfl rfl rfl rfl rfl) ?_
 refine z [31,1,5,2,30,39,49,31,1,7] ?_
 refine sloopE 0 (fun t=>t) (fun s20=>[(0,sli 1 (List.map u32 x0)),(1,u32 x1),(4,.own 100),(5,u32 s20.2.1),(6,bl false),(7,i64 s20.2.2)]) (fun s20=>[(100,.sl 129 1 (List.map u32 s20.1))]) (fun t18=>[(4,.own 100),(5,u32 t18.2),(6,bl false)]) (fun t18=>[(100,.sl 129 1 (List.map u32 t18.1))]) (eR [(100,100)]) ?_ ?_
 · intro hj19 s20
   refine z [5,2,30,57,1] ?_
   refine c ?_ ?_
   · refine z [9,4,5,7,6,30,30,30,30,30] ?_
     refine b fun y21 h22=>?_
     refine z [43,42,30] ?_
     refine cb (ca Qth) fun r23=>?_
     refine z [30,35,35,35] ?_
     refine b fun y25 h26=>?_
     refine z [50,53,31,3,11,4,6,30,49,31,3] ?_
     exact sgo (eR [(100,100)])
   refine z [14,15] ?_
   exact su (sj (hj19 _) (eR [(100,100)]))
 intro t18
 refine z [13,4,2,30] ?_
 refine b fun r27 h28=>?_
 refine so (callL (em:=[(101,.sl 129 1 (List.map u32 r27))]) (res':=.own 101) [100] [] [(101,50)] [(101,50)] rfl (W1 _ h28) ⟨Qas (f:=u32) (fun _=>Qcq) _,trivial⟩ (Qdm) ⟨.inr ⟨100,rfl,.inl ⟨rfl,.inl ⟨_,_,_,rfl,Jk (f:=u32) (fun _=>K8) t18.1,rfl⟩⟩⟩,trivial⟩ (MiF.get (mi:=[]) trivial) trivial rfl ⟨rfl,trivial⟩ ⟨.inl rfl,trivial⟩ rfl ⟨.inl ⟨_,_,rfl,rfl,rc_sl (Jk (f:=u32) (fun _=>K8) r27)⟩,trivial⟩ trivial ⟨⟨_,rfl⟩,trivial⟩ (Ve rfl) rfl) ?_
 refine z [30,31,31,31,1,8] ?_
 refine fz 101 [4,35] [] ?_
 exact rt []
theorem Qti{n:Nat}{x0}:∀ r,Qf1 n x0=some r->FnOk Tryz.prog 232 [u32 x0] [] (i64 r) []:=by
 unfold Qf1
 refine fs Tryz.func232 fun w S0 γ hγ=>?_
 refine z [2,31,1,2,31,1,5,2,31,1,7] ?_
 refine sloopE 0 (fun t=>t) (fun s15=>[(0,u32 s15.1),(2,i64 (0:Int)),(3,i64 s15.2.1),(4,i64 s15.2.2)]) (fun s15=>[]) (fun t13=>[(0,u32 t13.1),(2,i64 (0:Int)),(3,i64 t13.2)]) (fun t13=>[]) eI ?_ ?_
 · intro hj14 s15
   refine z [5,2,30,47,1] ?_
   refine c ?_ ?_
   · refine z [9,4] ?_
     refine sjq (fun s20=>[(0,u32 s20.1),(2,i64 (0:Int)),(3,i64 s20.2),(4,i64 s15.2.2)]) (fun s20=>[]) ?_ ?_
     · intro j18 hj19
       refine z [7,2,30,30] ?_
       refine b fun _ h21=>?_
       refine s1 (shrU uk32 (ge0 h21) rfl rfl rfl) ?_
       refine z [67,1] ?_
       refine c ?_ ?_
       · refine z [2,30,30] ?_
         refine b fun _ h22=>?_
         refine s1 (shrU uk32 (ge0 h22) rfl rfl rfl) ?_
         refine z [31,1,6,30,30,40,31,3,11,4] ?_
         exact sj (hj19 _) eI
       refine z [9,11,4] ?_
       exact sj (hj19 _) eI
     intro s20
     refine z [6,30,78,31,3] ?_
     exact sgo eI
   refine z [14,15] ?_
   exact su (sj (hj14 _) eI)
 intro t13
 refine z [13,4,2,30,30,85,40,31,1,8] ?_
 exact rt []
theorem Qqm{n:Nat}{x0}{x1}:∀ r,Qfm n x0 x1=some r->FnOk Tryz.prog 233 [sli 1 (List.map u32 x0),i64 x1] [] (.own 50) [(50,.sl 129 1 (List.map u32 r))]:=by
 unfold Qfm
 refine fs Tryz.func233 fun w S0 γ hγ=>?_
 refine z [2] ?_
 refine s1 (asg rfl (kLm (k:=1) u32)) ?_
 refine z [1,2,30,88,89,31,1,2,30,78,30,79,31,31,1,2,30,30,39,40] ?_
 refine sbn (F:=i64) 21 rfl fun z1=>?_
 refine z [40] ?_
 refine b fun y2 h3=>?_
 refine so (mks (y:=100) (f:=u32) h3 Tryz.underlying32 Kt.h Qb1 rfl rfl rfl rfl rfl rfl) ?_
 refine z [31,1,5,2,30,39,30,1,7] ?_
 refine srN (fun s35=>[(4,sli 1 (List.map u32 ([]:List Nat))),(5,i64 (wrap64 (Int.tdiv (min (max x1 (0:Int)) (4096:Int)) (32:Int)))),(6,i64 (Int.tmod (min (max x1 (0:Int)) (4096:Int)) (32:Int))),(7,.own 100),(24,sli 1 (List.map u32 x0))]) (fun s35=>[(100,.sl 129 1 (List.map u32 s35))]) (rE (eR [(100,100)])) ?_ ?_
 · intro i36 x37 s35 hx38
   refine z [7,2,30,43,42,31,31,1,2,30,59,30] ?_
   refine b fun _ h39=>?_
   refine s1 (shlU uk64 (ge0 h39) rfl rfl rfl) ?_
   refine sbn (F:=u64) 34 rfl fun z40=>?_
   refine z [31,1,2,30,30,30,40] ?_
   refine sbn (F:=i64) 38 rfl fun z41=>?_
   refine b fun y42 h43=>?_
   refine z [50,51,30,60,64] ?_
   refine b fun y44 h45=>?_
   refine z [50,53,1,6,30,30,30,40] ?_
   refine sbn (F:=i64) 48 rfl fun z46=>?_
   refine z [40,30] ?_
   refine s1 (shrU uk64 rfl rfl rfl (k64 (x:=32) rfl)) ?_
   refine z [60] ?_
   refine b fun y47 h48=>?_
   refine z [50,53] ?_
   refine sbm (C:=fun x=>.sl 129 1 (List.map u32 x)) 100 rfl fun z49=>?_
   refine z [3,11] ?_
   exact sgo (eR [(100,100)])
 intro s50
 refine z [13,4,2,30] ?_
 refine b fun r51 h52=>?_
 refine so (callL (em:=[(101,.sl 129 1 (List.map u32 r51))]) (res':=.own 101) [100] [] [(101,50)] [(101,50)] rfl (W1 _ h52) ⟨Qas (f:=u32) (fun _=>Qcq) _,trivial⟩ (Qdm) ⟨.inr ⟨100,rfl,.inl ⟨rfl,.inl ⟨_,_,_,rfl,Jk (f:=u32) (fun _=>K8) s50,rfl⟩⟩⟩,trivial⟩ (MiF.get (mi:=[]) trivial) trivial rfl ⟨rfl,trivial⟩ ⟨.inl rfl,trivial⟩ rfl ⟨.inl ⟨_,_,rfl,rfl,rc_sl (Jk (f:=u32) (fun _=>K8) r51)⟩,trivial⟩ trivial ⟨⟨_,rfl⟩,trivial⟩ (Ve rfl) rfl) ?_
 refine z [31,1,8] ?_
 exact rt [(50,101)]
theorem Qkv{x0}{x1}{x2}:∀ r,Yt x0 x1 x2=some r->FnOk Tryz.prog 241 [u32 x0,u32 x1,u32 x2] [] (.tup [u32 r.1,u32 r.2]) []:=by
 unfold Yt
 refine fs Tryz.func241 fun w S0 γ hγ=>?_
 refine z [2,31,31,1,2,30,30,61,31,1] ?_
 refine sjq (fun s3=>[(2,u32 x2),(6,u32 ((x0+x1)%4294967296)),(7,u32 s3)]) (fun s3=>[]) ?_ ?_
 · intro j1 hj2
   refine z [2,30,30,68,1] ?_
   refine c ?_ ?_
   · refine z [6,30,61,31,1] ?_
     exact sj (hj2 _) eI
   refine z [9,4] ?_
   exact sj (hj2 _) eI
 intro s3
 refine z [2,30,30,61,31,1] ?_
 refine sjq (fun s6=>[(6,u32 ((((x0+x1)%4294967296)+x2)%4294967296)),(7,u32 s6)]) (fun s6=>[]) ?_ ?_
 · intro j4 hj5
   refine z [2,30,30,68,1] ?_
   refine c ?_ ?_
   · refine z [6,30,61,31,1] ?_
     exact sj (hj5 _) eI
   refine z [9,4] ?_
   exact sj (hj5 _) eI
 intro s6
 refine z [2,30,30,31,31,1,8] ?_
 exact rt []
theorem Qyi{n:Nat}{x0}{x1}{x2}{x3}{x4}:∀ r,Qdn n x0 x1 x2 x3 x4=some r->FnOk Tryz.prog 263 [u32 x0,u32 x1,u32 x2,u32 x3,u32 x4] [] (u32 r) []:=by
 unfold Qdn
 refine fs Tryz.func263 fun w S0 γ hγ=>?_
 refine z [2,31,1,16,2,30,30,30] ?_
 refine cb (ca Qth) fun r1=>?_
 refine z [30,35,35,35,31,31,31,1] ?_
 refine sjq (fun s10=>[(2,u32 x2),(3,u32 x3),(4,u32 x4),(10,u32 0),(11,u32 s10.1),(12,u32 s10.2)]) (fun s10=>[]) ?_ ?_
 · intro j8 hj9
   refine z [2,30,44,1] ?_
   refine c ?_ ?_
   · refine z [2,31,1,2,30,30] ?_
     refine cb (ca Qkv) fun r11=>?_
     refine z [30,35,35,31,31,1,5] ?_
     refine sjq (fun s15=>[(2,u32 x2),(3,u32 x3),(4,u32 x4),(10,u32 0),(11,u32 4294967295),(12,u32 r1.2.1),(14,u32 r11.1),(42,bl s15)]) (fun s15=>[]) ?_ ?_
     · intro j13 hj14
       refine z [6,30,30,69,30] ?_
       refine sifd 39 rfl ?_ ?_
       · refine z [23,23,38,1] ?_
         exact sj (hj14 _) eI
       refine z [22,22,37,1] ?_
       exact sj (hj14 _) eI
     intro s15
     refine c ?_ ?_
     · refine z [2,30,31,1,8,10,10,18] ?_
       exact rt []
     refine z [9,4,6,30,31,1] ?_
     exact sj (hj9 _) eI
   refine z [9,4] ?_
   exact sj (hj9 _) eI
 intro s10
 refine z [5,20,4,5,7] ?_
 refine sloopE 0 (fun t=>t) (fun s34=>[(2,u32 x2),(3,u32 x3),(4,u32 x4),(10,u32 0),(11,u32 s34.1),(12,u32 s34.2)]) (fun s34=>[]) (fun t32=>[(10,u32 0),(11,u32 t32)]) (fun t32=>[]) eI ?_ ?_
 · intro hj33 s34
   refine z [7,2,30,30] ?_
   refine cb (ca Qku) fun r35=>?_
   refine z [30,35,35,31,31,1,5] ?_
   refine sjq (fun s39=>[(2,u32 x2),(3,u32 x3),(4,u32 x4),(10,u32 0),(11,u32 s34.1),(12,u32 s34.2),(63,bl s39)]) (fun s39=>[]) ?_ ?_
   · intro j37 hj38
     refine z [6,30,30,68,30] ?_
     refine sifd 54 rfl ?_ ?_
     · refine z [23,23,23,23,24,24,24,23,38,1] ?_
       exact sj (hj38 _) eI
     refine z [22,22,22,22] ?_
     refine sifd 58 rfl ?_ ?_
     · refine z [22,22,22,22,37,1] ?_
       exact sj (hj38 _) eI
     refine z [23,23,23,22,37,1] ?_
     exact sj (hj38 _) eI
   intro s39
   refine c ?_ ?_
   · refine z [14,15,21] ?_
     exact su (sj (hj33 _) eI)
   refine z [9,4,2,30,62,31,1,2,30,30] ?_
   refine cb (ca Qkv) fun r40=>?_
   refine z [30,35,35,31,31,1,5,2,30,69,1] ?_
   refine c ?_ ?_
   · refine z [14,15,21] ?_
     exact su (sj (hj33 _) eI)
   refine z [9,4,6,30,31,3,11] ?_
   exact sgo eI
 intro t32
 refine z [13,4,2,30,31,1,8,18] ?_
 exact rt []
theorem Qo3{x0}{x1}{x2}:∀ r,Qed x0 x1 x2=some r->FnOk Tryz.prog 242 [u32 x0,u32 x1,u32 x2] [] (.tup [u32 r.1,u32 r.2]) []:=by
 unfold Qed
 refine fs Tryz.func242 fun w S0 γ hγ=>?_
 refine z [2,31,31,1,2,30,30,62,31,1] ?_
 refine sjq (fun s3=>[(2,u32 x2),(6,u32 ((x0+4294967296 - x1)%4294967296)),(7,u32 s3)]) (fun s3=>[]) ?_ ?_
 · intro j1 hj2
   refine z [2,30,30,68,1] ?_
   refine c ?_ ?_
   · refine z [6,30,61,31,1] ?_
     exact sj (hj2 _) eI
   refine z [9,4] ?_
   exact sj (hj2 _) eI
 intro s3
 refine sjq (fun s6=>[(2,u32 x2),(6,u32 ((x0+4294967296 - x1)%4294967296)),(7,u32 s6)]) (fun s6=>[]) ?_ ?_
 · intro j4 hj5
   refine z [2,30,30,68,1] ?_
   refine c ?_ ?_
   · refine z [6,30,61,31,1] ?_
     exact sj (hj5 _) eI
   refine z [9,4] ?_
   exact sj (hj5 _) eI
 intro s6
 refine z [2,30,30,62] ?_
 refine sbn (F:=u32) 23 rfl fun z7=>?_
 refine z [30,31,31,1,8] ?_
 exact rt []
theorem Qzx{x0}{x1}{x2}{x3}:∀ r,Qbu x0 x1 x2 x3=some r->FnOk Tryz.prog 264 [.own 0,i64 x1,sli 1 (List.map u32 x2),u32 x3] [(0,.sl 129 1 (List.map u32 x0))] (bl r.1) [(0,.sl 129 1 (List.map u32 r.2))]:=by
 unfold Qbu
 refine fs Tryz.func264 fun w S0 γ hγ=>?_
 refine z [2,31,1,2,31,31,1,5,2,30,39,30,1,7] ?_
 refine srN (fun s26=>[(0,.own 0),(1,i64 x1),(2,sli 1 (List.map u32 x2)),(3,u32 x3),(8,bl false),(9,u32 s26.2.1),(10,u32 s26.2.2),(15,sli 1 (List.map u32 x2))]) (fun s26=>[(0,.sl 129 1 (List.map u32 s26.1))]) (rE (eR [(0,0)])) ?_ ?_
 · intro i27 x28 s26 hx29
   refine z [7,2,30,43,42,31,31,1,2,31,1,2,30,30,30] ?_
   refine cb (ca Qku) fun r30=>?_
   refine z [30,35,35,31,31,1,6,30,30,30,40,30,30,30,40] ?_
   refine b fun y32 h33=>?_
   refine z [50,51,30,30] ?_
   refine cb (ca Qo3) fun r34=>?_
   refine z [30,35,35] ?_
   refine b fun y36 h37=>?_
   refine z [50,53,31,3,11] ?_
   exact sgo (eR [(0,0)])
 intro s38
 refine z [13,4,2,30,30,39,40,31,1,2,30,30,30,30] ?_
 refine b fun y39 h40=>?_
 refine z [50,51,30,30] ?_
 refine cb (ca Qo3) fun r41=>?_
 refine z [30,35,35] ?_
 refine b fun y43 h44=>?_
 refine z [50,53,31,1,2,30,69,31,1,8] ?_
 exact rt [(0,0)]
theorem Qzy{x0}{x1}{x2}:∀ r,Qc5 x0 x1 x2=some r->FnOk Tryz.prog 265 [.own 0,i64 x1,sli 1 (List.map u32 x2)] [(0,.sl 129 1 (List.map u32 x0))] (.tup []) [(0,.sl 129 1 (List.map u32 r))]:=by
 unfold Qc5
 refine fs Tryz.func265 fun w S0 γ hγ=>?_
 refine z [2,31,1,5,2,30,39,30,1,7] ?_
 refine srN (fun s22=>[(0,.own 0),(1,i64 x1),(2,sli 1 (List.map u32 x2)),(6,u32 s22.2),(9,sli 1 (List.map u32 x2))]) (fun s22=>[(0,.sl 129 1 (List.map u32 s22.1))]) (rE (eR [(0,0)])) ?_ ?_
 · intro i23 x24 s22 hx25
   refine z [7,2,30,43,42,31,31,1,6,30,30,30,40,30,30,30,40] ?_
   refine b fun y26 h27=>?_
   refine z [50,51,30,30] ?_
   refine cb (ca Qkv) fun r28=>?_
   refine z [30,35,35] ?_
   refine b fun y30 h31=>?_
   refine z [50,53,31,3,11] ?_
   exact sgo (eR [(0,0)])
 intro s32
 refine z [13,4,6,30,30,30,39,40] ?_
 refine b fun y33 h34=>?_
 refine z [50,51,30,61] ?_
 refine b fun y35 h36=>?_
 refine z [50,53] ?_
 refine sbm (C:=fun x=>.sl 129 1 (List.map u32 x)) 0 rfl fun z37=>?_
 refine z [3] ?_
 exact rt [(0,0)]
theorem Qzz{n:Nat}{x0}{x1}:∀ r,Qgg n x0 x1=some r->FnOk Tryz.prog 234 [.own 0,sli 1 (List.map u32 x1)] [(0,.sl 129 1 (List.map u32 x0))] (sli 1 (List.map u32 r.1)) [(0,.sl 129 1 (List.map u32 r.2))]:=by
 unfold Qgg
 refine fs Tryz.func234 fun w S0 γ hγ=>?_
 refine z [2] ?_
 refine s1 (asg rfl (kLm (k:=1) u32)) ?_
 refine z [1,2,30,39,31,1,2,30,55,30,49] ?_
 refine b fun y1 h2=>?_
 refine so (mks (y:=100) (f:=u32) h2 Tryz.underlying32 Kt.h Qb1 rfl rfl rfl rfl rfl rfl) ?_
 refine z [31,1,5,2,30,55,49,31,1,7] ?_
 refine sloopE 0 (fun t=>t) (fun s60=>[(0,.own 0),(1,sli 1 (List.map u32 x1)),(4,sli 1 (List.map u32 ([]:List Nat))),(5,i64 (x1.length:Int)),(6,.own 100),(7,i64 s60.2.2)]) (fun s60=>[(0,.sl 129 1 (List.map u32 s60.1)),(100,.sl 129 1 (List.map u32 s60.2.1))]) (fun t58=>[(4,sli 1 (List.map u32 ([]:List Nat))),(6,.own 100)]) (fun t58=>[(0,.sl 129 1 (List.map u32 t58.1)),(100,.sl 129 1 (List.map u32 t58.2))]) (eR [(0,0),(100,100)]) ?_ ?_
 · intro hj59 s60
   refine z [5,2,30,57,1] ?_
   refine c ?_ ?_
   · refine z [9,4,5,7,5] ?_
     refine b fun y61 h62=>?_
     refine b fun y63 h64=>?_
     refine b fun y65 h66=>?_
     refine b fun y67 h68=>?_
     refine b fun y69 h70=>?_
     refine b fun r71 h72=>?_
     refine sd ?_
     refine zd [[],[],[],[],[0],[0],[],[],[],[],[],[0],[0],[],[],[],[],[],[0],[0],[],[],[],[],[],[],[],[],[],[]] ?_
     refine dd [] (fun _ _ _ _=>c0 (Qyi _ h72)) ?_
     refine zd [[]] ?_
     refine de fol ?_
     refine z [4] ?_
     refine sjq (fun s79=>[(0,.own 0),(1,sli 1 (List.map u32 x1)),(4,sli 1 (List.map u32 ([]:List Nat))),(5,i64 (x1.length:Int)),(6,.own 100),(7,i64 s60.2.2),(8,u32 s79.2)]) (fun s79=>[(0,.sl 129 1 (List.map u32 s79.1)),(100,.sl 129 1 (List.map u32 s60.2.1))]) ?_ ?_
     · intro j77 hj78
       refine z [2,30,30,30,30] ?_
       refine b fun r80 h81=>?_
       refine o (cG (Qzx _ h81) [0] [] []) ?_
       refine z [1] ?_
       refine c ?_ ?_
       · refine z [2,30,62,31,1,6,30,30,30] ?_
         refine b fun r82 h83=>?_
         refine o (cG (Qzy _ h83) [0] [] []) ?_
         refine z [1] ?_
         exact sj (hj78 _) (eR [(0,0),(100,100)])
       refine z [9,4] ?_
       exact sj (hj78 _) (eR [(0,0),(100,100)])
     intro s79
     refine z [6,30,30,30] ?_
     refine b fun y84 h85=>?_
     refine z [50,53,3,11,4,6,30,49,31,3] ?_
     exact sgo (eR [(0,0),(100,100)])
   refine z [14,15] ?_
   exact su (sj (hj59 _) (eR [(0,0),(100,100)]))
 intro t58
 refine z [13,4,2,30,31,1,8] ?_
 refine fz 100 [4,6,69] [] ?_
 exact rt [(0,0)]
theorem Qz0{n:Nat}{x0}{x1}:∀ r,Qgh n x0 x1=some r->FnOk Tryz.prog 235 [sli 1 (List.map u32 x0),i64 x1] [] (sli 1 (List.map u32 r)) []:=by
 unfold Qgh
 refine fs Tryz.func235 fun w S0 γ hγ=>?_
 refine z [2] ?_
 refine s1 (asg rfl (kLm (k:=1) u32)) ?_
 refine z [1,2,30,88,31,1,2,30,78,30,79,31,31,1,5,2,30,30,39,57] ?_
 refine sbn (F:=bl) 19 rfl fun z1=>?_
 refine z [1] ?_
 refine c ?_ ?_
 · refine z [2] ?_
   refine s1 (asg rfl (kLm (k:=1) u32)) ?_
   refine z [1,8,10] ?_
   exact rt []
 refine z [9,4,2,30,39,30,49] ?_
 refine sbn (F:=i64) 23 rfl fun z2=>?_
 refine b fun y3 h4=>?_
 refine so (mks (y:=100) (f:=u32) h4 Tryz.underlying32 Kt.h Qb1 rfl rfl rfl rfl rfl rfl) ?_
 refine z [31,1,5,2,30,55,30,1,7] ?_
 refine srN (fun s48=>[(0,sli 1 (List.map u32 x0)),(4,sli 1 (List.map u32 ([]:List Nat))),(5,i64 (wrap64 (Int.tdiv (max x1 (0:Int)) (32:Int)))),(6,i64 (Int.tmod (max x1 (0:Int)) (32:Int))),(7,.own 100)]) (fun s48=>[(100,.sl 129 1 (List.map u32 s48))]) (rE (eR [(100,100)])) ?_ ?_
 · intro i49 x50 s48 hx51
   refine z [7,2,30,31,1,2,30,30,30,40] ?_
   refine sbn (F:=i64) 33 rfl fun z52=>?_
   refine b fun y53 h54=>?_
   refine z [43,42,59,31,1] ?_
   refine sjq (fun s61=>[(0,sli 1 (List.map u32 x0)),(4,sli 1 (List.map u32 ([]:List Nat))),(5,i64 (wrap64 (Int.tdiv (max x1 (0:Int)) (32:Int)))),(6,i64 (Int.tmod (max x1 (0:Int)) (32:Int))),(7,.own 100),(8,i64 (i49:Int)),(9,u64 s61),(26,i64 (y3.length:Int)),(27,i64 (i49:Int))]) (fun s61=>[(100,.sl 129 1 (List.map u32 s48))]) ?_ ?_
   · intro j59 hj60
     refine z [2,30,30,40] ?_
     refine sbn (F:=i64) 39 rfl fun z62=>?_
     refine z [40,30,39,46,1] ?_
     refine c ?_ ?_
     · refine z [6,30,30,30,30,40] ?_
       refine sbn (F:=i64) 48 rfl fun z63=>?_
       refine z [40] ?_
       refine b fun y64 h65=>?_
       refine z [43,42,59] ?_
       refine s1 (shlU uk64 rfl rfl rfl (k64 (x:=32) rfl)) ?_
       refine z [64,31,1] ?_
       exact sj (hj60 _) (eR [(100,100)])
     refine z [9,4] ?_
     exact sj (hj60 _) (eR [(100,100)])
   intro s61
   refine z [6,30,30,30,30] ?_
   refine b fun _ h66=>?_
   refine s1 (shrU uk64 (ge0 h66) rfl rfl rfl) ?_
   refine sbn (F:=u64) 59 rfl fun z67=>?_
   refine z [60] ?_
   refine b fun y68 h69=>?_
   refine z [50,53,3,11] ?_
   exact sgo (eR [(100,100)])
 intro s70
 refine z [13,4,2,30] ?_
 refine b fun r71 h72=>?_
 refine so (callL (em:=[(101,.sl 129 1 (List.map u32 r71))]) (res':=.own 101) [100] [] [(101,50)] [(101,50)] rfl (W1 _ h72) ⟨Qas (f:=u32) (fun _=>Qcq) _,trivial⟩ (Qdm) ⟨.inr ⟨100,rfl,.inl ⟨rfl,.inl ⟨_,_,_,rfl,Jk (f:=u32) (fun _=>K8) s70,rfl⟩⟩⟩,trivial⟩ (MiF.get (mi:=[]) trivial) trivial rfl ⟨rfl,trivial⟩ ⟨.inl rfl,trivial⟩ rfl ⟨.inl ⟨_,_,rfl,rfl,rc_sl (Jk (f:=u32) (fun _=>K8) r71)⟩,trivial⟩ trivial ⟨⟨_,rfl⟩,trivial⟩ (Ve rfl) rfl) ?_
 refine z [31,1,8] ?_
 refine fz 101 [4,64] [] ?_
 exact rt []
theorem Qkw{n:Nat}{x0}{x1}:∀ r,Qcu n x0 x1=some r->FnOk Tryz.prog 191 [sli 1 (List.map u32 x0),sli 1 (List.map u32 x1)] [] (.tup [sli 1 (List.map u32 r.1),sli 1 (List.map u32 r.2.1),bl r.2.2]) []:=by
 unfold Qcu
 refine fs Tryz.func191 fun w S0 γ hγ=>?_
 refine z [2] ?_
 refine s1 (asg rfl (kLm (k:=1) u32)) ?_
 refine s1 (asg rfl (kLm (k:=1) u32)) ?_
 refine z [31,1,2,30] ?_
 refine b fun r1 h2=>?_
 refine o (cG (W1 _ h2) [] [(100,50)] []) ?_
 refine z [31,1,5,7,2,30,55,41,31,1] ?_
 refine c ?_ ?_
 · refine z [2] ?_
   refine s1 (asg rfl (kLm (k:=1) u32)) ?_
   refine s1 (asg rfl (kLm (k:=1) u32)) ?_
   refine z [31,1,8,12,10] ?_
   exact rt []
 refine z [2,30,30] ?_
 refine b fun r3 h4=>?_
 refine s1 (callL (em:=[]) [100] [] [] [] rfl (Qhf _ h4) trivial (Qx1) ⟨.inl ⟨_,rfl,rn_id Qap⟩,.inr ⟨100,rfl,.inl ⟨rfl,.inl ⟨_,_,_,rfl,Jk (f:=u32) (fun _=>K8) r1,rfl⟩⟩⟩,trivial⟩ (fun _ _ h=>by cases h) trivial rfl trivial trivial rfl trivial trivial trivial (rn_id (Qb0)) rfl) ?_
 refine z [46,31,1] ?_
 refine c ?_ ?_
 · refine z [2,30] ?_
   refine b fun r5 h6=>?_
   refine o (cG (W1 _ h6) [] [(101,50)] []) ?_
   refine s1 (asg rfl (kLm (k:=1) u32)) ?_
   refine z [31,31,1,8,12,10] ?_
   refine fz 101 [5,24] [] ?_
   exact rt []
 refine z [2,30,55,41,31,1] ?_
 refine c ?_ ?_
 · refine z [2,30,30] ?_
   refine b fun y7 h8=>?_
   refine z [50,51] ?_
   refine cb (ca Qr0) fun r9=>?_
   refine z [30,35,35,35,31,31,31,1,2,30,30,59] ?_
   refine cb (ca Qbi) fun r11=>?_
   refine z [31,31,31,1,8,12,10] ?_
   exact rt []
 refine z [9,11,4,2,30,30,55,49] ?_
 refine b fun y13 h14=>?_
 refine z [50,51] ?_
 refine cb (ca Qti) fun r15=>?_
 refine z [49,31,1,2,30,30] ?_
 refine b fun r17 h18=>?_
 refine o (cG (Qqm _ h18) [] [(101,50)] []) ?_
 refine so (bsl (y:=102) (ls:=List.map u32 ([0]:List Nat)) Tryz.underlying32 Kt.h rfl rfl rfl rfl rfl ⟨rfl,(k32 (x:=0) rfl),(by exact rfl),(by exact rfl),trivial⟩ rfl rfl) ?_
 refine b fun y19 h20=>?_
 refine o (app' 103) ?_
 refine z [31,1,2,30,30,30] ?_
 refine b fun r21 h22=>?_
 refine so (callL (em:=[(104,.sl 129 1 (List.map u32 r21))]) (res':=.own 104) [100] [] [(104,50)] [(104,50)] rfl (Qqm _ h22) ⟨Qas (f:=u32) (fun _=>Qcq) _,trivial⟩ (Qdm) ⟨.inr ⟨100,rfl,.inl ⟨rfl,.inl ⟨_,_,_,rfl,Jk (f:=u32) (fun _=>K8) r1,rfl⟩⟩⟩,.inl ⟨_,rfl,rn_id Qb0⟩,trivial⟩ (MiF.get (mi:=[]) trivial) trivial rfl ⟨rfl,trivial⟩ ⟨.inl rfl,trivial⟩ rfl ⟨.inl ⟨_,_,rfl,rfl,rc_sl (Jk (f:=u32) (fun _=>K8) r21)⟩,trivial⟩ trivial ⟨⟨_,rfl⟩,trivial⟩ (Ve rfl) rfl) ?_
 refine fz 104 [58] [] ?_
 refine b fun r23 h24=>?_
 refine o (cG (Qzz _ h24) [103] [] []) ?_
 refine z [31,1,2,30] ?_
 refine b fun r25 h26=>?_
 refine o (cG (W1 _ h26) [] [(105,50)] []) ?_
 refine z [30,30] ?_
 refine fz 103 [11,54,55,62] [] ?_
 refine cb (ca Qz0) fun r27=>?_
 refine z [31,31,31,1,8] ?_
 refine fz 105 [4,61] [] ?_
 exact rt []
theorem Qr1{n:Nat}{x0}:∀ r,Qe0 n x0=some r->FnOk Tryz.prog 230 [sli 1 (List.map u32 x0)] [] (.tup [u64 r.1,bl r.2]) []:=by
 unfold Qe0
 refine fs Tryz.func230 fun w S0 γ hγ=>?_
 refine z [2,31,31,1,2,30] ?_
 refine cb (ca Qac) fun r1=>?_
 refine z [31,1,5,2,30,39,47,1] ?_
 refine c ?_ ?_
 · refine z [2,31,31,1,8,10] ?_
   exact rt []
 refine z [9,4,2,31,1,5,2,30,39,30,1,7] ?_
 refine srN (fun s16=>[(2,u64 0),(3,bl false),(4,u64 s16),(12,sli 1 (List.map u32 r1))]) (fun s16=>[]) (rE eI) ?_ ?_
 · intro i17 x18 s16 hx19
   refine z [7,2,30,43,42,31,31,1,6,30,30,59,30,76] ?_
   refine b fun _ h20=>?_
   refine s1 (shlU uk64 (ge0 h20) rfl rfl rfl) ?_
   refine sbn (F:=u64) 24 rfl fun z21=>?_
   refine z [64,31,3,11] ?_
   exact sgo eI
 intro s22
 refine z [13,4,2,30,31,31,1,8] ?_
 exact rt []
theorem Qut{n:Nat}{x0}{x1}:∀ r,Qdo n x0 x1=some r->FnOk Tryz.prog 231 [u64 x0,u64 x1] [] (u64 r) []:=by
 unfold Qdo
 refine fs Tryz.func231 fun w S0 γ hγ=>?_
 refine z [2,31,1,5,7] ?_
 refine sloopE 0 (fun t=>t) (fun s7=>[(0,u64 s7.1),(1,u64 s7.2),(4,u64 0)]) (fun s7=>[]) (fun t5=>[(0,u64 t5),(4,u64 0)]) (fun t5=>[]) eI ?_ ?_
 · intro hj6 s7
   refine z [5,2,30,67,1] ?_
   refine c ?_ ?_
   · refine z [9,4,7] ?_
     refine b fun _ h8=>?_
     refine sd ?_
     refine zd [[],[],[],[],[],[]] ?_
     refine de fol ?_
     refine z [11] ?_
     exact sgo eI
   refine z [14,15] ?_
   exact su (sj (hj6 _) eI)
 intro t5
 refine z [13,4,2,30,31,1,8] ?_
 exact rt []
theorem Qyj{n:Nat}{x0}{x1}:∀ r,Qfn n x0 x1=some r->FnOk Tryz.prog 189 [sli 1 (List.map u32 x0),sli 1 (List.map u32 x1)] [] (sli 1 (List.map u32 r)) []:=by
 unfold Qfn
 refine fs Tryz.func189 fun w S0 γ hγ=>?_
 refine z [2] ?_
 refine s1 (asg rfl (kLm (k:=1) u32)) ?_
 refine z [1,2,30] ?_
 refine b fun r1 h2=>?_
 refine o (cG (W1 _ h2) [] [(100,50)] []) ?_
 refine z [30] ?_
 refine b fun r3 h4=>?_
 refine o (cG (W1 _ h4) [] [(101,50)] []) ?_
 refine z [31,31,1,5,7] ?_
 refine fz 100 [0,16] [] ?_
 refine fz 101 [1,18] [] ?_
 refine sloopE 0 (fun t=>t) (fun s19=>[(0,sli 1 (List.map u32 s19.1)),(1,sli 1 (List.map u32 s19.2)),(4,sli 1 (List.map u32 ([]:List Nat)))]) (fun s19=>[]) (fun t17=>[(0,sli 1 (List.map u32 t17.1)),(1,sli 1 (List.map u32 t17.2)),(4,sli 1 (List.map u32 ([]:List Nat)))]) (fun t17=>[]) (eR []) ?_ ?_
 · intro hj18 s19
   refine z [5,2,30,39,47,1] ?_
   refine c ?_ ?_
   · refine z [9,4,7,2,30,30] ?_
     refine cb (ca Qkw) fun r20=>?_
     refine z [30,35,35,35,31,31,31,1,6,30,30,31,31,3,11] ?_
     exact sgo eI
   refine z [14,15] ?_
   exact su (sj (hj18 _) eI)
 intro t17
 refine z [13,4,5,2,30,39,41,1] ?_
 refine c ?_ ?_
 · refine z [2,30,31,1,8,10] ?_
   exact rt []
 refine z [9,4,2,30,30] ?_
 refine cb (ca Qkw) fun r22=>?_
 refine z [30,35,35,35,31,31,31,1,2,30] ?_
 refine cb (ca Qr1) fun r24=>?_
 refine z [30,35,35,31,31,1,2,30] ?_
 refine cb (ca Qr1) fun r26=>?_
 refine z [30,35,35,31,31,1,2,30,30] ?_
 refine cb (ca Qut) fun r28=>?_
 refine cb (ca Qbi) fun r30=>?_
 refine z [31,1,8] ?_
 exact rt []
theorem Qyk{x0}:∀ r,Qfo x0=some r->FnOk Tryz.prog 190 [sli 1 (List.map u32 x0)] [] (bl r) []:=by
 unfold Qfo
 refine fs Tryz.func190 fun w S0 γ hγ=>?_
 refine z [2,31,1] ?_
 refine sjq (fun s5=>[(2,bl s5)]) (fun s5=>[]) ?_ ?_
 · intro j3 hj4
   refine z [6,30,39,41,30] ?_
   refine sifd 6 rfl ?_ ?_
   · refine z [22] ?_
     refine b fun y6 h7=>?_
     refine z [22,22,22,38,31,1] ?_
     exact sj (hj4 _) eI
   refine z [23,23,23,23,37,31,1] ?_
   exact sj (hj4 _) eI
 intro s5
 refine z [8] ?_
 exact rt []
theorem Qtj{n:Nat}{x0}{x1}:∀ r,Qcv n x0 x1=some r->FnOk Tryz.prog 140 [sli 1 (List.map u32 x0),sli 1 (List.map u32 x1)] [] (.tup [sli 1 (List.map u32 r.1),sli 1 (List.map u32 r.2)]) []:=by
 unfold Qcv
 refine fs Tryz.func140 fun w S0 γ hγ=>?_
 refine z [2] ?_
 refine s1 (asg rfl (kLm (k:=1) u32)) ?_
 refine s1 (asg rfl (kLm (k:=1) u32)) ?_
 refine z [1,2,30,30] ?_
 refine cb (ca Qyj) fun r1=>?_
 refine z [31,1,5,7,2,30,39,41,31,1] ?_
 refine c ?_ ?_
 · refine z [2] ?_
   refine s1 (asg rfl (kLm (k:=1) u32)) ?_
   refine s1 (asg rfl (kLm (k:=1) u32)) ?_
   refine z [1,8,12,10] ?_
   exact rt []
 refine z [2,30] ?_
 refine cb (ca Qyk) fun r3=>?_
 refine z [31,1] ?_
 refine c ?_ ?_
 · refine z [2,30] ?_
   refine b fun r5 h6=>?_
   refine o (cG (W1 _ h6) [] [(100,50)] []) ?_
   refine z [30] ?_
   refine b fun r7 h8=>?_
   refine o (cG (W1 _ h8) [] [(101,50)] []) ?_
   refine z [31,31,1,8,12,10] ?_
   refine fz 100 [4,18] [] ?_
   refine fz 101 [5,20] [] ?_
   exact rt []
 refine z [9,11,4,2,30,30] ?_
 refine cb (ca Qkw) fun r9=>?_
 refine z [30,35,35,35,31,1,2,30,30] ?_
 refine cb (ca Qkw) fun r11=>?_
 refine z [30,35,35,35,31,1,2,30,30,31,31,1,8] ?_
 exact rt []
theorem Qln{n:Nat}{x0}:∀ r,Z6 n x0=some r->FnOk Tryz.prog 141 [Q1 x0] [] (Q1 r) []:=by
 unfold Z6
 refine fs Tryz.func141 fun w S0 γ hγ=>?_
 refine z [2] ?_
 refine o (bx' 100) ?_
 refine o (al' 101) ?_
 refine z [1,5] ?_
 refine b fun r3 h4=>?_
 refine b fun r5 h6=>?_
 refine sd ?_
 refine zd [[100],[100],[100],[100]] ?_
 refine dd [102] (fun _ _ _ _=>tV (cG (W1 _ h4) [] [(102,50)] [])) ?_
 refine dd [] (fun _ _ _ _=>c0 (Yy _ h6)) ?_
 refine zd [[101]] ?_
 refine de fol ?_
 refine z [4,8] ?_
 exact rt []
theorem Qck{n:Nat}{x0}{x1}:∀ r,Yr n x0 x1=some r->FnOk Tryz.prog 83 [Q1 x0,sli 1 (List.map u32 x1)] [] (Qd r) []:=by
 unfold Yr
 refine fs Tryz.func83 fun w S0 γ hγ=>?_
 refine z [2] ?_
 refine o (bx' 100) ?_
 refine o (al' 101) ?_
 refine z [1,2,33,36,30] ?_
 refine cb (ca Qtj) fun r1=>?_
 refine z [30,35,35,31,31,1,2,33,36,30] ?_
 refine s1 (bld (l:=[bl x0.Neg,sli 1 (List.map u32 r1.1)]) pl_43.h ti_43.h Wn ⟨_,_,_,rfl,rfl,rfl,rfl,(szk (k:=1) rfl rfl),⟨_,_,_,rfl,rfl,rfl,rfl,(szk (k:=1) rfl rfl),rfl⟩⟩ rfl) ?_
 refine cb (ca Qln) fun r3=>?_
 refine z [30] ?_
 refine s1 (bld (l:=[Q1 r3,sli 1 (List.map u32 r1.2)]) pl_45.h ti_45.h K2 ⟨_,_,_,rfl,rfl,rfl,rfl,(szk (k:=2) rfl rfl),⟨_,_,_,rfl,rfl,rfl,rfl,(szk (k:=1) rfl rfl),rfl⟩⟩ rfl) ?_
 refine z [34,1,8] ?_
 exact rt []
theorem Qo4{n:Nat}{x0}{x1}:∀ r,Qh9 n x0 x1=some r->FnOk Tryz.prog 275 [Q1 x0,sli 1 (List.map u32 x1)] [] (.tup [Qd r.1,bl r.2]) []:=by
 unfold Qh9
 refine fs Tryz.func275 fun w S0 γ hγ=>?_
 refine z [2] ?_
 refine o (bx' 100) ?_
 refine o (al' 101) ?_
 refine z [31,1,5,2,30] ?_
 refine cb (ca Qid) fun r1=>?_
 refine z [1] ?_
 refine c ?_ ?_
 · refine z [2] ?_
   refine cb (ca Vv) fun r3=>?_
   refine z [34,31,1,8,10] ?_
   exact rt []
 refine z [9,4,2,32,30] ?_
 refine cb (ca Qck) fun r5=>?_
 refine z [34,31,1,8] ?_
 exact rt []
theorem Qhg{n:Nat}{x0}{x1}:∀ r,Qba n x0 x1=some r->FnOk Tryz.prog 287 [str x0,i64 x1] [] (.tup [sli 1 (List.map u32 r.1),Qn r.2]) []:=by
 unfold Qba
 refine fs Tryz.func287 fun w S0 γ hγ=>?_
 refine z [2] ?_
 refine s1 (asg rfl (kLm (k:=1) u32)) ?_
 refine o (al' 100) ?_
 refine z [1,2,30,30] ?_
 refine b fun y1 h2=>?_
 refine s1 (slS h2 Tryz.underlying9 rfl rfl (bnd rfl) bnd0) ?_
 refine cb (ca Qpo) fun r3=>?_
 refine z [30,35,35] ?_
 refine o (al' 101) ?_
 refine z [31,34,1] ?_
 refine sjq (fun s7=>[(4,sli 1 (List.map u32 ([]:List Nat))),(5,.own 100),(6,sli 1 (List.map u32 r3.1)),(7,.own 101)]) (fun s7=>[(100,.bx 50 (Qn (⟨0,0,0,0⟩:Qe))),(101,.bx 50 (Qn s7))]) ?_ ?_
 · intro j5 hj6
   refine z [2,32] ?_
   refine s1 (bld (l:=[i64 0,i64 0,i64 0,i64 0]) pl_50.h ti_50.h Qq rfl rfl) ?_
   refine s1 (neA (p:=(r3.2:Qe)) (q:=((⟨0,0,0,0⟩:Qe):Qe)) K7 rfl eg_50 rfl rfl rfl) ?_
   refine z [1] ?_
   refine c ?_ ?_
   · refine z [6,33,36,30,40,33] ?_
     refine o (stP (Qn (⟨r3.2.Kind,r3.2.Step,r3.2.Stage,wrap64 (r3.2.At+x1)⟩:Qe)) [3]) ?_
     refine z [1] ?_
     exact sj (hj6 _) (eR [(100,100),(101,101)])
   refine z [9,4] ?_
   exact sj (hj6 _) (eR [(100,100),(101,101)])
 intro s7
 refine z [5] ?_
 refine sd ?_
 refine zd [[],[101],[],[100]] ?_
 refine de fol ?_
 refine z [4,8] ?_
 exact rt []
theorem Qw0{n:Nat}{x0}{x1}{x2}:∀ r,Qj9 n x0 x1 x2=some r->FnOk Tryz.prog 276 [Q1 x0,str x1,i64 x2] [] (.tup [Qd r.1,Qn r.2]) []:=by
 unfold Qj9
 refine fs Tryz.func276 fun w S0 γ hγ=>?_
 refine z [2] ?_
 refine o (bx' 100) ?_
 refine o (al' 101) ?_
 refine o (al' 102) ?_
 refine z [1,2,30,30] ?_
 refine cb (ca Qhg) fun r1=>?_
 refine z [30,35,35] ?_
 refine o (al' 103) ?_
 refine z [31,34,1,5,2,32] ?_
 refine s1 (bld (l:=[i64 0,i64 0,i64 0,i64 0]) pl_50.h ti_50.h Qq rfl rfl) ?_
 refine s1 (neA (p:=(r1.2:Qe)) (q:=((⟨0,0,0,0⟩:Qe):Qe)) K7 rfl eg_50 rfl rfl rfl) ?_
 refine z [1] ?_
 refine c ?_ ?_
 · refine z [5] ?_
   refine b fun r3 h4=>?_
   refine sd ?_
   refine dd [] (fun _ _ _ _=>c0 (Vv _ h4)) ?_
   refine zd [[103],[101],[102]] ?_
   refine de fol ?_
   refine z [4,8,10] ?_
   exact rt []
 refine z [9,4,2,32,30] ?_
 refine cb (ca Qo4) fun r5=>?_
 refine z [30,35,35] ?_
 refine o (al' 104) ?_
 refine z [34,31,1,5,2,30,44,1] ?_
 refine c ?_ ?_
 · refine z [2,32,30] ?_
   refine s1 (bld (l:=[i64 (2:Int),i64 0,i64 0,i64 x2]) pl_50.h ti_50.h Qq ⟨_,_,_,(kI (x:=2) rfl),rfl,rfl,rfl,(szk (k:=1) rfl rfl),⟨_,_,_,rfl,rfl,rfl,rfl,(szk (k:=1) rfl rfl),rfl⟩⟩ rfl) ?_
   refine z [34,34,1,8,10] ?_
   exact rt []
 refine z [9,4,2,32] ?_
 refine s1 (bld (l:=[i64 0,i64 0,i64 0,i64 0]) pl_50.h ti_50.h Qq rfl rfl) ?_
 refine z [34,34,1,8] ?_
 exact rt []
theorem Qp5{x0}{x1}:∀ r,Qe8 x0 x1=some r->FnOk Tryz.prog 278 [str x0,str x1] [] (bl r) []:=by
 unfold Qe8
 refine fs Tryz.func278 fun w S0 γ hγ=>?_
 refine z [2,31,1,2,30,30] ?_
 refine cb (ca Qb9) fun r1=>?_
 refine z [31,1,8] ?_
 exact rt []
theorem Qkx{n:Nat}{x0}:∀ r,Qcr n x0=some r->FnOk Tryz.prog 259 [sli 1 (List.map u32 x0)] [] (i64 r) []:=by
 unfold Qcr
 refine fs Tryz.func259 fun w S0 γ hγ=>?_
 refine z [2,31,1,2,30] ?_
 refine b fun r1 h2=>?_
 refine o (cG (W1 _ h2) [] [(100,50)] []) ?_
 refine z [31,1,2,30,55,31,1,5,2,30,41,1] ?_
 refine c ?_ ?_
 · refine z [2,31,1,8,10] ?_
   exact rt []
 refine z [9,4,2,30,49,76,30,30,49] ?_
 refine b fun y3 h4=>?_
 refine z [50,51] ?_
 refine cb (ca Qti) fun r5=>?_
 refine z [40] ?_
 refine sbn (F:=i64) 19 rfl fun z7=>?_
 refine z [31,1,8] ?_
 exact rt []
theorem Q1d{n:Nat}{x0}{x1}:∀ r,Qee n x0 x1=some r->FnOk Tryz.prog 199 [sli 1 (List.map u32 x0),sli 1 (List.map u32 x1)] [] (sli 1 (List.map u32 r)) []:=by
 unfold Qee
 refine fs Tryz.func199 fun w S0 γ hγ=>?_
 refine z [2] ?_
 refine s1 (asg rfl (kLm (k:=1) u32)) ?_
 refine z [1] ?_
 refine sjq (fun s3=>[(0,sli 1 (List.map u32 s3.1)),(1,sli 1 (List.map u32 s3.2)),(4,sli 1 (List.map u32 ([]:List Nat)))]) (fun s3=>[]) ?_ ?_
 · intro j1 hj2
   refine z [2,30,39,30,39,46,1] ?_
   refine c ?_ ?_
   · refine z [6,30,30,31,31,1] ?_
     exact sj (hj2 _) eI
   refine z [9,4] ?_
   exact sj (hj2 _) eI
 intro s3
 refine z [2,30] ?_
 refine b fun r4 h5=>?_
 refine o (cG (Qnd _ h5) [] [(100,50)] []) ?_
 refine z [31,1,2,31,1,5,2,30,39,30,1,7] ?_
 refine srN (fun s37=>[(0,sli 1 (List.map u32 s3.1)),(1,sli 1 (List.map u32 s3.2)),(4,sli 1 (List.map u32 ([]:List Nat))),(5,.own 100),(6,u32 s37.2)]) (fun s37=>[(100,.sl 129 1 (List.map u32 s37.1))]) (rE (eR [(100,100)])) ?_ ?_
 · intro i38 x39 s37 hx40
   refine z [7,2,30,31,1,2,31,1] ?_
   refine sjq (fun s45=>[(0,sli 1 (List.map u32 s3.1)),(1,sli 1 (List.map u32 s3.2)),(4,sli 1 (List.map u32 ([]:List Nat))),(5,.own 100),(6,u32 s37.2),(7,i64 (i38:Int)),(8,u32 s45),(19,i64 (s3.1.length:Int)),(20,i64 (i38:Int))]) (fun s45=>[(100,.sl 129 1 (List.map u32 s37.1))]) ?_ ?_
   · intro j43 hj44
     refine z [2,30,30,39,46,1] ?_
     refine c ?_ ?_
     · refine z [6,30,30] ?_
       refine b fun y46 h47=>?_
       refine z [43,42,31,1] ?_
       exact sj (hj44 _) (eR [(100,100)])
     refine z [9,4] ?_
     exact sj (hj44 _) (eR [(100,100)])
   intro s45
   refine z [6,30,30,30,30,43,42,30,30] ?_
   refine cb (ca Qkv) fun r48=>?_
   refine z [30,35,35] ?_
   refine b fun y50 h51=>?_
   refine z [50,53,31,3,11] ?_
   exact sgo (eR [(100,100)])
 intro s52
 refine z [13,4,2,30,30,39,30] ?_
 refine b fun y53 h54=>?_
 refine z [50,53,1,2,30] ?_
 refine fz 100 [5,45,50] [] ?_
 refine cb (ca Qac) fun r55=>?_
 refine z [31,1,8] ?_
 exact rt []
theorem Qqn{n:Nat}{x0}:∀ r,Qfp n x0=some r->FnOk Tryz.prog 149 [sli 1 (List.map Qav x0)] [] (sli 1 (List.map u32 r)) []:=by
 unfold Qfp
 refine fs Tryz.func149 fun w S0 γ hγ=>?_
 refine z [2] ?_
 refine s1 (asg rfl (kLm (k:=1) u32)) ?_
 refine z [1,2] ?_
 refine s1 (asg rfl (kLm (k:=1) u32)) ?_
 refine z [1,5,2,30,39,30,1,7] ?_
 refine srN (fun s18=>[(2,sli 1 (List.map u32 ([]:List Nat))),(3,sli 1 (List.map u32 s18)),(6,sli 1 (List.map Qav x0))]) (fun s18=>[]) (rE eI) ?_ ?_
 · intro i19 x20 s18 hx21
   refine z [7,2,43,42,31,1,6,30,30] ?_
   refine cb (ca Qac) fun r22=>?_
   refine cb (ca Q1d) fun r24=>?_
   refine z [31,3,11] ?_
   exact sgo eI
 intro s26
 refine z [13,4,2,30,31,1,8] ?_
 exact rt []
theorem Qw1{n:Nat}{x0}:∀ r,Qka n x0=some r->FnOk Tryz.prog 299 [sli 1 (List.map u32 x0)] [] (sli 1 (List.map u32 r)) []:=by
 unfold Qka
 refine fs Tryz.func299 fun w S0 γ hγ=>?_
 refine z [2] ?_
 refine s1 (asg rfl (kLm (k:=1) u32)) ?_
 refine z [1,2,30,39,76,40] ?_
 refine b fun y1 h2=>?_
 refine so (mks (y:=100) (f:=u32) h2 Tryz.underlying32 Kt.h Qb1 rfl rfl rfl rfl rfl rfl) ?_
 refine z [31,1,5,2,30,39,30,1,7] ?_
 refine srN (fun s20=>[(0,sli 1 (List.map u32 x0)),(2,sli 1 (List.map u32 ([]:List Nat))),(3,.own 100),(15,sli 1 (List.map u32 x0))]) (fun s20=>[(100,.sl 129 1 (List.map u32 s20))]) (rE (eR [(100,100)])) ?_ ?_
 · intro i21 x22 s20 hx23
   refine z [7,2,30,43,42,31,31,1,6,30,30,76,40,30,30,40] ?_
   refine b fun y24 h25=>?_
   refine s1 (slR (f:=u32) h25 Tryz.underlying32 Kt.h rfl rfl (bnd rfl) bnd0) ?_
   refine z [30] ?_
   refine b fun r26 h27=>?_
   refine o (cG (Qo2 _ h27) [100] [] []) ?_
   refine z [3,11] ?_
   exact sgo (eR [(100,100)])
 intro s28
 refine z [13,4,2,30] ?_
 refine b fun r29 h30=>?_
 refine so (callL (em:=[(101,.sl 129 1 (List.map u32 r29))]) (res':=.own 101) [100] [] [(101,50)] [(101,50)] rfl (Qqm _ h30) ⟨Qas (f:=u32) (fun _=>Qcq) _,trivial⟩ (Qdm) ⟨.inr ⟨100,rfl,.inl ⟨rfl,.inl ⟨_,_,_,rfl,Jk (f:=u32) (fun _=>K8) s28,rfl⟩⟩⟩,.inl ⟨_,(kI (x:=1) rfl),rn_id Qb0⟩,trivial⟩ (MiF.get (mi:=[]) trivial) trivial rfl ⟨rfl,trivial⟩ ⟨.inl rfl,trivial⟩ rfl ⟨.inl ⟨_,_,rfl,rfl,rc_sl (Jk (f:=u32) (fun _=>K8) r29)⟩,trivial⟩ trivial ⟨⟨_,rfl⟩,trivial⟩ (Ve rfl) rfl) ?_
 refine z [31,1,2,30,39,76] ?_
 refine b fun y31 h32=>?_
 refine so (mks (y:=102) (f:=u32) h32 Tryz.underlying32 Kt.h Qb1 rfl rfl rfl rfl rfl rfl) ?_
 refine z [31,1,5,2,30,39,30,1,7] ?_
 refine srN (fun s56=>[(2,sli 1 (List.map u32 ([]:List Nat))),(6,.own 101),(7,.own 102),(39,sli 1 (List.map u32 x0))]) (fun s56=>[(101,.sl 129 1 (List.map u32 r29)),(102,.sl 129 1 (List.map u32 s56))]) (rE (eR [(101,101),(102,102)])) ?_ ?_
 · intro i57 x58 s56 hx59
   refine z [7,2,30,43,42,31,31,1,6,30,30,76,40,30,30,76,30,30] ?_
   refine cb (ca Qku) fun r60=>?_
   refine z [30,35,35] ?_
   refine b fun y62 h63=>?_
   refine z [50,53] ?_
   refine sbm (C:=fun x=>.sl 129 1 (List.map u32 x)) 102 rfl fun z64=>?_
   refine b fun y65 h66=>?_
   refine z [50,53,3,11] ?_
   exact sgo (eR [(101,101),(102,102)])
 intro s67
 refine z [13,4,2,30,30] ?_
 refine fz 101 [6,62] [] ?_
 refine fz 102 [7,63] [] ?_
 refine so (bsl (y:=103) (ls:=List.map Qav ([r29,s67]:List (List Nat))) Tryz.underlying280 ti_32.h rfl rfl rfl rfl rfl ⟨rfl,rfl,(by exact rfl),(by exact rfl),rfl,rfl,(by exact rfl),(by exact rfl),trivial⟩ rfl rfl) ?_
 refine fz 103 [64] [] ?_
 refine cb (ca Qqn) fun r68=>?_
 refine z [31,1,8] ?_
 exact rt []
theorem Qcx{n:Nat}{x0}{x1}:∀ r,Zj n x0 x1=some r->FnOk Tryz.prog 92 [sli 1 (List.map u32 x0),sli 1 (List.map u32 x1)] [] (sli 1 (List.map u32 r)) []:=by
 unfold Zj
 refine fs Tryz.func92 fun w S0 γ hγ=>?_
 refine z [2] ?_
 refine s1 (asg rfl (kLm (k:=1) u32)) ?_
 refine z [1,2,30,39,30,39,40,40] ?_
 refine b fun y1 h2=>?_
 refine so (mks (y:=100) (f:=u32) h2 Tryz.underlying32 Kt.h Qb1 rfl rfl rfl rfl rfl rfl) ?_
 refine z [31,1,5,2,30,39,30,1,7] ?_
 refine srN (fun s16=>[(0,sli 1 (List.map u32 x0)),(4,sli 1 (List.map u32 ([]:List Nat))),(5,.own 100),(15,sli 1 (List.map u32 x1))]) (fun s16=>[(100,.sl 129 1 (List.map u32 s16))]) (rE (eR [(100,100)])) ?_ ?_
 · intro i17 x18 s16 hx19
   refine z [7,2,30,43,42,31,31,1,6,30,30,30,30] ?_
   refine b fun r20 h21=>?_
   refine o (cG (Qo2 _ h21) [100] [] []) ?_
   refine z [3,11] ?_
   exact sgo (eR [(100,100)])
 intro s22
 refine z [13,4,2,30] ?_
 refine b fun r23 h24=>?_
 refine so (callL (em:=[(101,.sl 129 1 (List.map u32 r23))]) (res':=.own 101) [100] [] [(101,50)] [(101,50)] rfl (W1 _ h24) ⟨Qas (f:=u32) (fun _=>Qcq) _,trivial⟩ (Qdm) ⟨.inr ⟨100,rfl,.inl ⟨rfl,.inl ⟨_,_,_,rfl,Jk (f:=u32) (fun _=>K8) s22,rfl⟩⟩⟩,trivial⟩ (MiF.get (mi:=[]) trivial) trivial rfl ⟨rfl,trivial⟩ ⟨.inl rfl,trivial⟩ rfl ⟨.inl ⟨_,_,rfl,rfl,rc_sl (Jk (f:=u32) (fun _=>K8) r23)⟩,trivial⟩ trivial ⟨⟨_,rfl⟩,trivial⟩ (Ve rfl) rfl) ?_
 refine z [31,1,8] ?_
 refine fz 101 [4,29] [] ?_
 exact rt []
theorem Q1e{n:Nat}{x0}{x1}:∀ r,Qoz n x0 x1=some r->FnOk Tryz.prog 296 [sli 1 (List.map u32 x0),i64 x1] [] (.tup [sli 1 (List.map u32 r.1),bl r.2]) []:=by
 unfold Qoz
 refine fs Tryz.func296 fun w S0 γ hγ=>?_
 refine z [2] ?_
 refine s1 (asg rfl (kLm (k:=1) u32)) ?_
 refine z [31,1,2,30] ?_
 refine cb (ca Qkx) fun r1=>?_
 refine z [31,1,5] ?_
 refine sjq (fun s6=>[(0,sli 1 (List.map u32 x0)),(1,i64 x1),(4,sli 1 (List.map u32 ([]:List Nat))),(5,bl false),(6,i64 r1),(22,bl s6)]) (fun s6=>[]) ?_ ?_
 · intro j4 hj5
   refine z [6,30,46,30] ?_
   refine sifd 13 rfl ?_ ?_
   · refine z [23,23,23,24,24,24,24,23,38,1] ?_
     exact sj (hj5 _) eI
   refine z [22,22,22] ?_
   refine sifd 16 rfl ?_ ?_
   · refine z [22,22] ?_
     refine b fun _ h7=>?_
     refine z [22,22,22,37,1] ?_
     exact sj (hj5 _) eI
   refine z [23,23,23,23,22,37,1] ?_
   exact sj (hj5 _) eI
 intro s6
 refine c ?_ ?_
 · refine z [2] ?_
   refine s1 (asg rfl (kLm (k:=1) u32)) ?_
   refine z [31,1,8,10] ?_
   exact rt []
 refine z [9,4,2] ?_
 refine cb (ca Qbi) fun r8=>?_
 refine z [31,1,5,2,30,46,1] ?_
 refine c ?_ ?_
 · refine sjq (fun s16=>[(0,sli 1 (List.map u32 x0)),(1,i64 x1),(4,sli 1 (List.map u32 ([]:List Nat))),(5,bl false),(7,sli 1 (List.map u32 s16))]) (fun s16=>[]) ?_ ?_
   · intro j14 hj15
     refine z [2,30,47,1] ?_
     refine c ?_ ?_
     · refine z [6,30] ?_
       refine b fun r17 h18=>?_
       refine o (cG (W1 _ h18) [] [(100,50)] []) ?_
       refine z [31,3] ?_
       refine fz 100 [7,29] [] ?_
       refine z [4] ?_
       exact sj (hj15 _) (eR [])
     refine z [9,4] ?_
     exact sj (hj15 _) eI
   intro s16
   refine z [2,30,31,31,1,8,10] ?_
   exact rt []
 refine z [9,4,5,2,30,83] ?_
 refine cb (ca Qbi) fun r19=>?_
 refine cb (ca Qkx) fun r21=>?_
 refine z [49,31,1,7] ?_
 refine sloopE 0 (fun t=>t) (fun s57=>[(0,sli 1 (List.map u32 x0)),(1,i64 x1),(4,sli 1 (List.map u32 ([]:List Nat))),(5,bl false),(7,sli 1 (List.map u32 s57.1)),(8,i64 s57.2)]) (fun s57=>[]) (fun t55=>[(4,sli 1 (List.map u32 ([]:List Nat))),(5,bl false),(7,sli 1 (List.map u32 t55))]) (fun t55=>[]) eI ?_ ?_
 · intro hj56 s57
   refine z [5,2,30,57,1] ?_
   refine c ?_ ?_
   · refine z [9,4] ?_
     refine sjq (fun s66=>[(0,sli 1 (List.map u32 x0)),(1,i64 x1),(4,sli 1 (List.map u32 ([]:List Nat))),(5,bl false),(7,sli 1 (List.map u32 s66)),(8,i64 s57.2)]) (fun s66=>[]) ?_ ?_
     · intro j64 hj65
       refine z [7,2,30] ?_
       refine cb (ca Qw1) fun r67=>?_
       refine z [31,1,2,30,30] ?_
       refine b fun _ h69=>?_
       refine s1 (shrI (ge0 h69) rfl rfl rfl) ?_
       refine z [77,41] ?_
       refine sbn (F:=bl) 46 rfl fun z70=>?_
       refine z [1] ?_
       refine c ?_ ?_
       · refine z [6,30,30] ?_
         refine cb (ca Qcx) fun r71=>?_
         refine z [31,3,11,4] ?_
         exact sj (hj65 _) eI
       refine z [9,11,4] ?_
       exact sj (hj65 _) eI
     intro s66
     refine z [6,30,49,31,3] ?_
     exact sgo eI
   refine z [14,15] ?_
   exact su (sj (hj56 _) eI)
 intro t55
 refine z [13,4,2,30,31,31,1,8] ?_
 exact rt []
theorem Qw2{n:Nat}{x0}:∀ r,Qkb n x0=some r->FnOk Tryz.prog 288 [i64 x0] [] (sli 1 (List.map u32 r)) []:=by
 unfold Qkb
 refine fs Tryz.func288 fun w S0 γ hγ=>?_
 refine z [2] ?_
 refine s1 (asg rfl (kLm (k:=1) u32)) ?_
 refine z [1,2] ?_
 refine cb (ca Qbi) fun r1=>?_
 refine z [30] ?_
 refine cb (ca Q1e) fun r3=>?_
 refine z [30,35,35,31,31,1,2,30,31,1,8] ?_
 exact rt []
theorem Qtk{n:Nat}{x0}{x1}{x2}{x3}:∀ r,Qia n x0 x1 x2 x3=some r->FnOk Tryz.prog 277 [Q1 x0,bl x1,str x2,i64 x3] [] (.tup [Qd r.1,Qn r.2]) []:=by
 unfold Qia
 refine fs Tryz.func277 fun w S0 γ hγ=>?_
 refine z [2] ?_
 refine o (bx' 100) ?_
 refine o (al' 101) ?_
 refine o (al' 102) ?_
 refine z [1,2,30,30] ?_
 refine cb (ca Qhg) fun r1=>?_
 refine z [30,35,35] ?_
 refine o (al' 103) ?_
 refine z [31,34,1,5,2,32] ?_
 refine s1 (bld (l:=[i64 0,i64 0,i64 0,i64 0]) pl_50.h ti_50.h Qq rfl rfl) ?_
 refine s1 (neA (p:=(r1.2:Qe)) (q:=((⟨0,0,0,0⟩:Qe):Qe)) K7 rfl eg_50 rfl rfl rfl) ?_
 refine z [1] ?_
 refine c ?_ ?_
 · refine z [5] ?_
   refine b fun r3 h4=>?_
   refine sd ?_
   refine dd [] (fun _ _ _ _=>c0 (Vv _ h4)) ?_
   refine zd [[103],[101],[102]] ?_
   refine de fol ?_
   refine z [4,8,10] ?_
   exact rt []
 refine z [9,4,2,30,54,30,49] ?_
 refine cb (ca Qw2) fun r5=>?_
 refine z [31,1,2,33,36,30] ?_
 refine cb (ca Qcx) fun r7=>?_
 refine z [30] ?_
 refine so (bsl (y:=104) (ls:=List.map Qav ([r7,r1.1]:List (List Nat))) Tryz.underlying280 ti_32.h rfl rfl rfl rfl rfl ⟨rfl,rfl,(by exact rfl),(by exact rfl),rfl,rfl,(by exact rfl),(by exact rfl),trivial⟩ rfl rfl) ?_
 refine fz 104 [37] [] ?_
 refine cb (ca Qqn) fun r9=>?_
 refine z [31,1,2,30,30] ?_
 refine s1 (bld (l:=[bl x1,sli 1 (List.map u32 r9)]) pl_43.h ti_43.h Wn ⟨_,_,_,rfl,rfl,rfl,rfl,(szk (k:=1) rfl rfl),⟨_,_,_,rfl,rfl,rfl,rfl,(szk (k:=1) rfl rfl),rfl⟩⟩ rfl) ?_
 refine z [30] ?_
 refine cb (ca Qo4) fun r11=>?_
 refine z [30,35,35] ?_
 refine o (al' 105) ?_
 refine z [34,31,1,2,32] ?_
 refine s1 (bld (l:=[i64 0,i64 0,i64 0,i64 0]) pl_50.h ti_50.h Qq rfl rfl) ?_
 refine z [34,34,1,8] ?_
 exact rt []
theorem Qpp{n:Nat}{x0}:∀ r,Qgy n x0=some r->FnOk Tryz.prog 256 [str x0] [] (.tup [Qd r.1,Qn r.2]) []:=by
 unfold Qgy
 refine fs Tryz.func256 fun w S0 γ hγ=>?_
 refine z [2] ?_
 refine o (al' 100) ?_
 refine o (al' 101) ?_
 refine z [1,2,30] ?_
 refine cb (ca Qqd) fun r1=>?_
 refine z [31,1,2,30,31,1] ?_
 refine sjq (fun s7=>[(0,str x0),(2,.own 100),(3,.own 101),(4,i64 r1),(5,str s7)]) (fun s7=>[(100,.bx 45 (Qd (⟨(⟨false,[]⟩:Qf),[]⟩:Qc))),(101,.bx 50 (Qn (⟨0,0,0,0⟩:Qe)))]) ?_ ?_
 · intro j5 hj6
   refine z [2,30,57,1] ?_
   refine c ?_ ?_
   · refine z [6,30,30] ?_
     refine b fun y8 h9=>?_
     refine s1 (slS h9 Tryz.underlying9 rfl rfl bnd0 (bnd rfl)) ?_
     refine z [31,1] ?_
     exact sj (hj6 _) (eR [(100,100),(101,101)])
   refine z [9,4] ?_
   exact sj (hj6 _) (eR [(100,100),(101,101)])
 intro s7
 refine z [2,30] ?_
 refine cb (ca Qyh) fun r10=>?_
 refine z [30,35,35] ?_
 refine o (al' 102) ?_
 refine o (al' 103) ?_
 refine z [34,34,1,5,7,2,32] ?_
 refine s1 (bld (l:=[i64 0,i64 0,i64 0,i64 0]) pl_50.h ti_50.h Qq rfl rfl) ?_
 refine s1 (neA (p:=(r10.2:Qe)) (q:=((⟨0,0,0,0⟩:Qe):Qe)) K7 rfl eg_50 rfl rfl rfl) ?_
 refine z [31,1] ?_
 refine c ?_ ?_
 · refine z [5] ?_
   refine b fun r12 h13=>?_
   refine sd ?_
   refine dd [] (fun _ _ _ _=>c0 (Vv _ h13)) ?_
   refine zd [[103],[100],[101]] ?_
   refine de fol ?_
   refine z [4,8,12,10] ?_
   exact rt []
 refine z [2,30,46,31,1] ?_
 refine c ?_ ?_
 · refine z [5] ?_
   refine b fun r14 h15=>?_
   refine b fun r16 h17=>?_
   refine sd ?_
   refine zd [[102]] ?_
   refine dd [] (fun _ _ _ _=>c0 (Qbi _ h15)) ?_
   refine dd [] (fun _ _ _ _=>c0 (Qo4 _ h17)) ?_
   refine zd [[],[],[]] ?_
   refine dd [104] (fun _ _ _ _=>al' 104) ?_
   refine zd [[104],[]] ?_
   refine de fol ?_
   refine z [4,2,32] ?_
   refine s1 (bld (l:=[i64 0,i64 0,i64 0,i64 0]) pl_50.h ti_50.h Qq rfl rfl) ?_
   refine z [34,34,1,8,12,10] ?_
   exact rt []
 refine z [2,30,30] ?_
 refine b fun y18 h19=>?_
 refine z [90,66,31,1] ?_
 refine c ?_ ?_
 · refine z [2,32,30,30,40] ?_
   refine cb (ca Qw0) fun r20=>?_
   refine z [35,35,34,34,1,8,12,10] ?_
   exact rt []
 refine z [9,11,4,5] ?_
 refine b fun r22 h23=>?_
 refine b fun r24 h25=>?_
 refine sd ?_
 refine zd [[102],[]] ?_
 refine dd [] (fun _ _ _ _=>c0 (Qp5 _ h23)) ?_
 refine zd [[],[],[]] ?_
 refine dd [] (fun _ _ _ _=>c0 (Qtk _ h25)) ?_
 refine zd [[],[],[100],[101]] ?_
 refine de fol ?_
 refine z [4,8] ?_
 exact rt []
theorem Qjc{x0}{x1}:∀ r,Qdt x0 x1=some r->FnOk Tryz.prog 218 [Qn x0,i64 x1] [] (Qn r) []:=by
 unfold Qdt
 refine fs Tryz.func218 fun w S0 γ hγ=>?_
 refine z [2] ?_
 refine o (bx' 100) ?_
 refine o (al' 101) ?_
 refine z [1] ?_
 refine sjq (fun s3=>[(2,.own 100),(4,.own 101)]) (fun s3=>[(100,.bx 50 (Qn s3)),(101,.bx 50 (Qn (⟨0,0,0,0⟩:Qe)))]) ?_ ?_
 · intro j1 hj2
   refine z [2,32] ?_
   refine s1 (bld (l:=[i64 0,i64 0,i64 0,i64 0]) pl_50.h ti_50.h Qq rfl rfl) ?_
   refine s1 (neA (p:=(x0:Qe)) (q:=((⟨0,0,0,0⟩:Qe):Qe)) K7 rfl eg_50 rfl rfl rfl) ?_
   refine z [1] ?_
   refine c ?_ ?_
   · refine z [6,33,36,30,40,33] ?_
     refine o (stP (Qn (⟨x0.Kind,x0.Step,x0.Stage,wrap64 (x0.At+x1)⟩:Qe)) [3]) ?_
     refine z [1] ?_
     exact sj (hj2 _) (eR [(100,100),(101,101)])
   refine z [9,4] ?_
   exact sj (hj2 _) (eR [(100,100),(101,101)])
 intro s3
 refine z [2,32,34,1,8] ?_
 exact rt []
theorem Qtl{n:Nat}{x0}:∀ r,Qks n x0=some r->FnOk Tryz.prog 217 [str x0] [] (.tup [sli 3 (List.map Qd r.1),Qn r.2]) []:=by
 unfold Qks
 refine fs Tryz.func217 fun w S0 γ hγ=>?_
 refine z [2] ?_
 refine s1 (asg rfl (kLm (k:=3) Qd)) ?_
 refine o (al' 100) ?_
 refine z [1,5,2,30,72,1] ?_
 refine c ?_ ?_
 · refine z [2] ?_
   refine s1 (bld (l:=[i64 0,i64 0,i64 0,i64 0]) pl_50.h ti_50.h Qq rfl rfl) ?_
   refine s1 (asg rfl (kLm (k:=3) Qd)) ?_
   refine z [34,1,8,10] ?_
   exact rt []
 refine z [9,4,2] ?_
 refine so (asgN (y:=101) (E:=45) (k:=3) rfl rfl) ?_
 refine z [1,2,31,1,5,2,30] ?_
 refine cb (ca Qtd) fun r1=>?_
 refine z [39,30,1,7] ?_
 refine srN (fun s20=>[(2,sli 3 (List.map Qd ([]:List Qc))),(3,.own 100),(4,.own 101),(5,i64 s20.2),(14,sli 1 (List.map str r1))]) (fun s20=>[(100,.bx 50 (Qn (⟨0,0,0,0⟩:Qe))),(101,.sl 45 3 (List.map Qd s20.1))]) (rE (eR [(100,100),(101,101)])) ?_ ?_
 · intro i21 x22 s20 hx23
   refine z [7,2,43,42,31,1,2,30] ?_
   refine cb (ca Qpp) fun r24=>?_
   refine z [30,35,35] ?_
   refine o (al' 102) ?_
   refine o (al' 103) ?_
   refine z [34,34,1,5,2,32] ?_
   refine s1 (bld (l:=[i64 0,i64 0,i64 0,i64 0]) pl_50.h ti_50.h Qq rfl rfl) ?_
   refine s1 (neA (p:=(r24.2:Qe)) (q:=((⟨0,0,0,0⟩:Qe):Qe)) K7 rfl eg_50 rfl rfl rfl) ?_
   refine z [1] ?_
   refine c ?_ ?_
   · refine z [2,33,36,30,40,33] ?_
     refine o (stP (Qn (⟨r24.2.Kind,r24.2.Step,r24.2.Stage,wrap64 (r24.2.At+s20.2)⟩:Qe)) [3]) ?_
     refine z [1,5] ?_
     refine sd ?_
     refine zd [[103]] ?_
     refine dx [] [] (fun st mm _ _=>og (asg rfl (kLm (k:=3) Qd))) ?_
     refine zd [[100]] ?_
     refine de fol ?_
     refine z [4,8,10,12] ?_
     refine sU ?_
     refine z [12,10] ?_
     exact rt []
   refine z [9,4,2,30,32] ?_
   refine so (bsl (y:=104) (ls:=List.map Qd ([r24.1]:List Qc)) Tryz.underlying46 ti_45.h rfl rfl rfl rfl rfl ⟨rfl,rfl,(by exact rfl),(by exact rfl),trivial⟩ rfl rfl) ?_
   refine b fun y26 h27=>?_
   refine o (app' 105) ?_
   refine z [31,1,6,30,30,54,40,40,31,3,11] ?_
   exact sgo (eR [(100,100),(101,105)])
 intro s28
 refine z [13,4,2,30] ?_
 refine s1 (bld (l:=[i64 0,i64 0,i64 0,i64 0]) pl_50.h ti_50.h Qq rfl rfl) ?_
 refine z [31,34,1,8] ?_
 refine fz 101 [2,4,44] [] ?_
 exact rt []
theorem Quu{n:Nat}{x0}{x1}:∀ r,Qi6 n x0 x1=some r->FnOk Tryz.prog 215 [str x0,i64 x1] [] (.tup [Qd r.1,sli 3 (List.map Qd r.2.1),Qn r.2.2]) []:=by
 unfold Qi6
 refine fs Tryz.func215 fun w S0 γ hγ=>?_
 refine z [2] ?_
 refine o (al' 100) ?_
 refine s1 (asg rfl (kLm (k:=3) Qd)) ?_
 refine o (al' 101) ?_
 refine z [1,2,30] ?_
 refine cb (ca Qj6) fun r1=>?_
 refine z [30,35,35,35,31,31,31,1,2,30] ?_
 refine cb (ca Qpp) fun r3=>?_
 refine z [30,35,35] ?_
 refine o (al' 102) ?_
 refine o (al' 103) ?_
 refine z [34,34,1,5,2,32] ?_
 refine s1 (bld (l:=[i64 0,i64 0,i64 0,i64 0]) pl_50.h ti_50.h Qq rfl rfl) ?_
 refine s1 (neA (p:=(r3.2:Qe)) (q:=((⟨0,0,0,0⟩:Qe):Qe)) K7 rfl eg_50 rfl rfl rfl) ?_
 refine z [1] ?_
 refine c ?_ ?_
 · refine z [5] ?_
   refine b fun r5 h6=>?_
   refine sd ?_
   refine zd [[102],[103],[]] ?_
   refine dd [] (fun _ _ _ _=>c0 (Qjc _ h6)) ?_
   refine zd [[100]] ?_
   refine dx [] [] (fun st mm _ _=>og (asg rfl (kLm (k:=3) Qd))) ?_
   refine zd [[101]] ?_
   refine de fol ?_
   refine z [4,8,10] ?_
   exact rt []
 refine z [9,4,2,30] ?_
 refine cb (ca Qtl) fun r7=>?_
 refine z [30,35,35,31,34,1,5] ?_
 refine b fun r9 h10=>?_
 refine sd ?_
 refine zd [[102],[],[103],[],[],[],[],[]] ?_
 refine dd [] (fun _ _ _ _=>c0 (Qjc _ h10)) ?_
 refine zd [[100],[],[101]] ?_
 refine de fol ?_
 refine z [4,8] ?_
 exact rt []
theorem Qky{n:Nat}{x0}{x1}{x2_Name}{x2_C}{x2_A}{x2_B}{x2_E}:∀ r,Qbq n x0 x1 x2_Name x2_C x2_A x2_B x2_E=some r->FnOk Tryz.prog 175 [.own 0,str x1,.own 1] [(0,.bx 251 (Ju x0)),(1,.bx 58 (.agg [str x2_Name,.own 2,.own 3,sli 3 (List.map Qd x2_B),sli 3 (List.map Qd x2_E)])),(2,.sl 45 3 (List.map Qd x2_C)),(3,.sl 46 1 (List.map Qi x2_A))] (Qn r.1) [(0,.bx 251 (Ju r.2.1)),(1,.bx 58 (.agg [str r.2.2.1,.own 62,.own 63,sli 3 (List.map Qd r.2.2.2.1),sli 3 (List.map Qd r.2.2.2.2.1)])),(2,.gone),(3,.gone),(62,.sl 45 3 (List.map Qd r.2.2.2.2.2.1)),(63,.sl 46 1 (List.map Qi r.2.2.2.2.2.2))]:=by
 unfold Qbq
 refine fs Tryz.func175 fun w S0 γ hγ=>?_
 refine z [2] ?_
 refine o (al' 100) ?_
 refine z [1,7] ?_
 refine Q6b (fun s29=>[(0,.own 0),(1,str x1),(2,.own 1),(6,.own 100)]) (fun s29=>[(2,.gone),(3,.gone),(0,.bx 251 (Ju s29.1)),(1,.bx 58 (.agg [str x2_Name,.own 101,.own 102,sli 3 (List.map Qd x2_B),sli 3 (List.map Qd x2_E)])),(101,.sl 45 3 (List.map Qd s29.2.1)),(102,.sl 46 1 (List.map Qi s29.2.2)),(100,.bx 50 (Qn (⟨0,0,0,0⟩:Qe)))]) (eR [(2,2),(3,3),(0,0),(1,1),(101,2),(102,3),(100,100)]) ?_
 intro s29
 refine z [7,2,30] ?_
 refine b fun r30 h31=>?_
 refine o (cG (Qcj _ h31) [0] [] []) ?_
 refine z [30,35,35,35,31,31,31,1,5,2,30,44,1] ?_
 refine c ?_ ?_
 · refine z [2] ?_
   refine s1 (bld (l:=[i64 0,i64 0,i64 0,i64 0]) pl_50.h ti_50.h Qq rfl rfl) ?_
   refine z [34,1,8,10,12] ?_
   refine sU ?_
   refine z [12] ?_
   exact rt [(0,0),(1,1),(2,2),(3,3),(62,101),(63,102)]
 refine z [9,4,5,2,30] ?_
 refine cb (ca Qqe) fun r32=>?_
 refine z [44,1] ?_
 refine c ?_ ?_
 · refine z [2,30,30,30] ?_
   refine b fun r34 h35=>?_
   refine o (cG (Ql7 _ h35) [0] [] []) ?_
   refine z [1,2] ?_
   refine s1 (bld (l:=[i64 0,i64 0,i64 0,i64 0]) pl_50.h ti_50.h Qq rfl rfl) ?_
   refine z [34,1,8,10,12] ?_
   refine sU ?_
   refine z [12] ?_
   exact rt [(0,0),(1,1),(2,2),(3,3),(62,101),(63,102)]
 refine z [9,4,2,30,30] ?_
 refine cb (ca Quu) fun r36=>?_
 refine z [30,35,35,35] ?_
 refine o (al' 103) ?_
 refine o (al' 104) ?_
 refine z [34,31,34,1,5,2,32] ?_
 refine s1 (bld (l:=[i64 0,i64 0,i64 0,i64 0]) pl_50.h ti_50.h Qq rfl rfl) ?_
 refine s1 (neA (p:=(r36.2.2:Qe)) (q:=((⟨0,0,0,0⟩:Qe):Qe)) K7 rfl eg_50 rfl rfl rfl) ?_
 refine z [1] ?_
 refine c ?_ ?_
 · refine z [2,32,34,1,8,10,12] ?_
   refine sU ?_
   refine z [12] ?_
   exact rt [(0,0),(1,1),(2,2),(3,3),(62,101),(63,102)]
 refine z [9,4,5] ?_
 refine b fun y38 h39=>?_
 refine sd ?_
 refine zd [[],[],[1],[1],[1],[103]] ?_
 refine dx [46] [105] (fun st mm ⟨a46,_⟩ ⟨g105,_⟩=>og (bsl (y:=105) (ls:=List.map Qd ([r36.1]:List Qc)) Tryz.underlying46 ti_45.h rfl rfl rfl rfl rfl ⟨rfl,(a46.trans rfl),(by exact rfl),(by exact rfl),trivial⟩ (g105.trans rfl) rfl)) ?_
 refine dd [101,105,106] (fun _ _ _ _=>app' 106) ?_
 refine zd [[1],[1]] ?_
 refine dd [1] (fun _ _ _ _=>stP (.agg [str x2_Name,.own 106,.own 102,sli 3 (List.map Qd x2_B),sli 3 (List.map Qd x2_E)]) [1]) ?_
 refine de fol ?_
 refine z [4,6,30,30,48,33,36,30] ?_
 refine so (bsl (y:=107) (ls:=List.map Qi ([r36.2.1]:List (List Qc))) Tryz.underlying56 ti_46.h rfl rfl rfl rfl rfl ⟨rfl,rfl,(by exact rfl),(by exact rfl),trivial⟩ rfl rfl) ?_
 refine b fun y40 h41=>?_
 refine o (app' 108) ?_
 refine z [48,33] ?_
 refine o (stP (.agg [str x2_Name,.own 106,.own 108,sli 3 (List.map Qd x2_B),sli 3 (List.map Qd x2_E)]) [2]) ?_
 refine z [3,11] ?_
 exact sgo (eR [(2,2),(3,3),(0,0),(1,1),(101,106),(102,108),(100,100)])
theorem Qer{n:Nat}{x0}{x1}:∀ r,Zk n x0 x1=some r->FnOk Tryz.prog 176 [.own 0,str x1] [(0,.bx 251 (Ju x0))] (.tup [sli 3 (List.map Qd r.1),Qn r.2.1]) [(0,.bx 251 (Ju r.2.2))]:=by
 unfold Zk
 refine fs Tryz.func176 fun w S0 γ hγ=>?_
 refine z [2] ?_
 refine s1 (asg rfl (kLm (k:=3) Qd)) ?_
 refine o (al' 100) ?_
 refine z [1,2,30] ?_
 refine b fun r1 h2=>?_
 refine o (cG (Qcj _ h2) [0] [] []) ?_
 refine z [30,35,35,35,31,31,31,1,2,30,30] ?_
 refine b fun y3 h4=>?_
 refine z [91] ?_
 refine cb (ca Qiz) fun r5=>?_
 refine z [30,35,35,31,31,1,5,2,30,44,1] ?_
 refine c ?_ ?_
 · refine z [2,30] ?_
   refine s1 (bld (l:=[i64 (1:Int),i64 0,i64 0,i64 r1.2.1]) pl_50.h ti_50.h Qq ⟨_,_,_,(kI (x:=1) rfl),rfl,rfl,rfl,(szk (k:=1) rfl rfl),⟨_,_,_,rfl,rfl,rfl,rfl,(szk (k:=1) rfl rfl),rfl⟩⟩ rfl) ?_
   refine s1 (asg rfl (kLm (k:=3) Qd)) ?_
   refine z [34,1,8,10] ?_
   exact rt [(0,0)]
 refine z [9,4,2,30] ?_
 refine cb (ca Qtl) fun r7=>?_
 refine z [30,35,35] ?_
 refine o (al' 101) ?_
 refine z [31,34,1,2,30,32,30,30,54,40,40] ?_
 refine cb (ca Qjc) fun r9=>?_
 refine z [31,34,1,8] ?_
 exact rt [(0,0)]
theorem Qw3{n:Nat}{x0}:∀ r,Qkc n x0=some r->FnOk Tryz.prog 129 [str x0] [] (.tup [Jh r.1,Qn r.2]) []:=by
 unfold Qkc
 refine fs Tryz.func129 fun w S0 γ hγ=>?_
 refine z [2] ?_
 refine o (al' 100) ?_
 refine o (al' 101) ?_
 refine z [1,2] ?_
 refine so (alOw (y:=102) (ly:=.agg [str [],.own 103,.own 104,sli 3 (List.map Qd []),sli 3 (List.map Qd [])]) [(103,45,3),(104,46,1)] ti_58.h (Qgc (Jx (c1:=[.string ⟨#[]⟩]) (zo_of Qff) (Jx (c1:=[.slice none 0 0]) (Qen rfl) (Jx (c1:=[.slice none 0 0]) (Qen rfl) (Jx (c1:=[.slice none 0 0]) (zo_of (Kd (k:=3))) (Jx (c1:=[.slice none 0 0]) (zo_of (Kd (k:=3))) (Qew))))))) ⟨rfl,rfl,trivial⟩ rfl rfl rfl) ?_
 refine z [1,2,30] ?_
 refine s1 (bld (l:=[str x0,i64 0,bl false]) Q6s.h Q6r.h Qsi ⟨_,_,_,rfl,rfl,rfl,rfl,(szk (k:=1) rfl rfl),rfl⟩ rfl) ?_
 refine o (bx' 105) ?_
 refine z [31,1,2,30] ?_
 refine b fun r1 h2=>?_
 refine o (cG (Qcj _ h2) [105] [] []) ?_
 refine z [30,35,35,35,33] ?_
 refine o (stP (.agg [str r1.1,.own 103,.own 104,sli 3 (List.map Qd []),sli 3 (List.map Qd [])]) [0]) ?_
 refine z [1,5,2,33,36] ?_
 refine s1 (bld (l:=[i64 (2:Int),str r1.1,i64 0]) Q2h.h Q2g.h Qrx ⟨_,_,_,(kI (x:=2) rfl),rfl,rfl,rfl,(szk (k:=1) rfl rfl),⟨_,_,_,rfl,rfl,rfl,rfl,(szk (k:=1) rfl rfl),rfl⟩⟩ rfl) ?_
 refine cb (ca Qrz) fun r3=>?_
 refine z [44,1] ?_
 refine c ?_ ?_
 · refine z [2,32] ?_
   refine s1 (bld (l:=[i64 (1:Int),i64 0,i64 0,i64 0]) pl_50.h ti_50.h Qq ⟨_,_,_,(kI (x:=1) rfl),rfl,rfl,rfl,(szk (k:=1) rfl rfl),rfl⟩ rfl) ?_
   refine z [34,34,1,8,10] ?_
   refine fz 103 [22] [100,102] ?_
   refine fz 104 [22] [100,102] ?_
   exact rt []
 refine z [9,4,2,30,30] ?_
 refine b fun r5 h6=>?_
 refine o (cG (Qky _ h6) [105,102,103,104] [(106,62),(107,63)] []) ?_
 refine o (al' 108) ?_
 refine z [34,1,5,2,32] ?_
 refine s1 (bld (l:=[i64 0,i64 0,i64 0,i64 0]) pl_50.h ti_50.h Qq rfl rfl) ?_
 refine s1 (neA (p:=(r5.1:Qe)) (q:=((⟨0,0,0,0⟩:Qe):Qe)) K7 rfl eg_50 rfl rfl rfl) ?_
 refine z [1] ?_
 refine c ?_ ?_
 · refine z [5] ?_
   refine sd ?_
   refine zd [[102],[108],[100],[101]] ?_
   refine de fol ?_
   refine z [4,8,10] ?_
   refine fz 106 [30] [100,102] ?_
   refine fz 107 [30] [100,102] ?_
   exact rt []
 refine z [9,4,5,2,30] ?_
 refine b fun r7 h8=>?_
 refine o (cG (Qer _ h8) [105] [] []) ?_
 refine z [30,35,35,33] ?_
 refine o (stP (.agg [str r5.2.2.1,.own 106,.own 107,sli 3 (List.map Qd r7.1),sli 3 (List.map Qd r5.2.2.2.2.1)]) [3]) ?_
 refine z [34,1] ?_
 refine sjq (fun s11=>[(2,.own 100),(3,.own 101),(4,.own 102),(5,.own 105),(6,.own 108),(46,bl s11)]) (fun s11=>[(100,.bx 58 (Jh (⟨[],[],[],[],[]⟩:Qr))),(101,.bx 50 (Qn (⟨0,0,0,0⟩:Qe))),(102,.bx 58 (.agg [str r5.2.2.1,.own 106,.own 107,sli 3 (List.map Qd r7.1),sli 3 (List.map Qd r5.2.2.2.2.1)])),(106,.sl 45 3 (List.map Qd r5.2.2.2.2.2.1)),(107,.sl 46 1 (List.map Qi r5.2.2.2.2.2.2)),(105,.bx 251 (Ju r7.2.2)),(108,.bx 50 (Qn r7.2.1))]) ?_ ?_
 · intro j9 hj10
   refine z [6,32] ?_
   refine s1 (bld (l:=[i64 0,i64 0,i64 0,i64 0]) pl_50.h ti_50.h Qq rfl rfl) ?_
   refine s1 (neA (p:=(r7.2.1:Qe)) (q:=((⟨0,0,0,0⟩:Qe):Qe)) K7 rfl eg_50 rfl rfl rfl) ?_
   refine z [30] ?_
   refine sifd 41 rfl ?_ ?_
   · refine z [23,23,23,23,38,1] ?_
     exact sj (hj10 _) (eR [(100,100),(101,101),(102,102),(106,106),(107,107),(105,105),(108,108)])
   refine z [22,22,22,22,37,1] ?_
   exact sj (hj10 _) (eR [(100,100),(101,101),(102,102),(106,106),(107,107),(105,105),(108,108)])
 intro s11
 refine c ?_ ?_
 · refine z [5] ?_
   refine sd ?_
   refine zd [[102],[108],[100],[101]] ?_
   refine de fol ?_
   refine z [4,8,10] ?_
   refine fz 106 [47] [100,102] ?_
   refine fz 107 [47] [100,102] ?_
   exact rt []
 refine z [9,4,5,2,30] ?_
 refine b fun r12 h13=>?_
 refine o (cG (Qer _ h13) [105] [] []) ?_
 refine z [30,35,35,33] ?_
 refine o (stP (.agg [str r5.2.2.1,.own 106,.own 107,sli 3 (List.map Qd r7.1),sli 3 (List.map Qd r12.1)]) [4]) ?_
 refine z [34,1] ?_
 refine sjq (fun s16=>[(2,.own 100),(3,.own 101),(4,.own 102),(5,.own 105),(6,.own 108),(63,bl s16)]) (fun s16=>[(100,.bx 58 (Jh (⟨[],[],[],[],[]⟩:Qr))),(101,.bx 50 (Qn (⟨0,0,0,0⟩:Qe))),(102,.bx 58 (.agg [str r5.2.2.1,.own 106,.own 107,sli 3 (List.map Qd r7.1),sli 3 (List.map Qd r12.1)])),(106,.sl 45 3 (List.map Qd r5.2.2.2.2.2.1)),(107,.sl 46 1 (List.map Qi r5.2.2.2.2.2.2)),(105,.bx 251 (Ju r12.2.2)),(108,.bx 50 (Qn r12.2.1))]) ?_ ?_
 · intro j14 hj15
   refine z [6,32] ?_
   refine s1 (bld (l:=[i64 0,i64 0,i64 0,i64 0]) pl_50.h ti_50.h Qq rfl rfl) ?_
   refine s1 (neA (p:=(r12.2.1:Qe)) (q:=((⟨0,0,0,0⟩:Qe):Qe)) K7 rfl eg_50 rfl rfl rfl) ?_
   refine z [30] ?_
   refine sifd 58 rfl ?_ ?_
   · refine z [23,23,23,23,38,1] ?_
     exact sj (hj15 _) (eR [(100,100),(101,101),(102,102),(106,106),(107,107),(105,105),(108,108)])
   refine z [22,22,22,22,37,1] ?_
   exact sj (hj15 _) (eR [(100,100),(101,101),(102,102),(106,106),(107,107),(105,105),(108,108)])
 intro s16
 refine c ?_ ?_
 · refine z [5] ?_
   refine sd ?_
   refine zd [[102],[108],[100],[101]] ?_
   refine de fol ?_
   refine z [4,8,10] ?_
   refine fz 106 [64] [100,102] ?_
   refine fz 107 [64] [100,102] ?_
   exact rt []
 refine z [9,4,5] ?_
 refine sd ?_
 refine zd [[102],[],[105],[105],[105]] ?_
 refine dx [70] [] (fun st mm ⟨a70,_⟩ _=>og (bld (l:=[i64 (1:Int),i64 0,i64 0,i64 r12.2.2.at_]) pl_50.h ti_50.h Qq ⟨_,_,_,(kI (x:=1) rfl),rfl,rfl,rfl,(szk (k:=1) rfl rfl),⟨_,_,_,(a70.trans rfl),rfl,rfl,rfl,(szk (k:=1) rfl rfl),rfl⟩⟩ rfl)) ?_
 refine zd [[100],[101]] ?_
 refine de fol ?_
 refine z [4,8] ?_
 refine fz 106 [66] [100,102] ?_
 refine fz 107 [66] [100,102] ?_
 exact rt []
end Go.Proofs.YthbndkiddockmaaGreatDoor
