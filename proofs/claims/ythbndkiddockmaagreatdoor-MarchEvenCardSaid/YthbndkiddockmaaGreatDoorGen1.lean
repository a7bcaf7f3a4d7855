import Derived.Test.YthbndkiddockmaaGreatDoorGen1b
set_option maxRecDepth 100000
set_option maxHeartbeats 4000000
namespace Go.Proofs.YthbndkiddockmaaGreatDoor
open Go Go.RowKit
theorem Quv{x0}:∀ r,Qdr x0=some r->FnOk Tryz.prog 177 [Jh x0] [] (bl r) []:=by
 unfold Qdr
 refine fs Tryz.func177 fun w S0 γ hγ=>?_
 refine z [2] ?_
 refine o (bx' 100) ?_
 refine z [31,1,2,33,36,39,31,1,5] ?_
 refine sjq (fun s3=>[(1,.own 100),(2,bl false),(41,bl s3)]) (fun s3=>[(100,.bx 58 (Jh x0))]) ?_ ?_
 · intro j1 hj2
   refine z [6,30,46,30] ?_
   refine sifd 11 rfl ?_ ?_
   · refine z [23,23,38,30,23,23,23,23,23,38,30,23,23,23,23,23,38,30,23,23,23,23,23,23,24,24,24,24,23,38,1] ?_
     exact sj (hj2 _) (eR [(100,100)])
   refine z [22,22,37,30] ?_
   refine sifd 15 rfl ?_ ?_
   · refine z [23,23,23,23,23,38,30,23,23,23,23,23,38,30,23,23,23,23,23,23,24,24,24,24,23,38,1] ?_
     exact sj (hj2 _) (eR [(100,100)])
   refine z [22,22,22,22,22,37,30] ?_
   refine sifd 22 rfl ?_ ?_
   · refine z [23,23,23,23,23,38,30,23,23,23,23,23,23,24,24,24,24,23,38,1] ?_
     exact sj (hj2 _) (eR [(100,100)])
   refine z [22,22,22,22,22,37,30] ?_
   refine sifd 29 rfl ?_ ?_
   · refine z [23,23,23,23,23,23,24,24,24,24,23,38,1] ?_
     exact sj (hj2 _) (eR [(100,100)])
   refine z [22,22,22,22,22,22] ?_
   refine sifd 35 rfl ?_ ?_
   · refine z [22,22,22,22,22,37,1] ?_
     exact sj (hj2 _) (eR [(100,100)])
   refine z [23,23,23,23,22,37,1] ?_
   exact sj (hj2 _) (eR [(100,100)])
 intro s3
 refine c ?_ ?_
 · refine z [2,31,1,8,10] ?_
   exact rt []
 refine z [9,4,5,2,33,36,39,30,1,7] ?_
 refine srN (fun s9=>[(2,bl false),(43,sli 1 (List.map Qi x0.A))]) (fun s9=>[]) (rE (eR [])) ?_ ?_
 · intro i10 x11 s9 hx12
   refine z [7,2,30,43,42,31,31,1,2,30,39,30,56,1] ?_
   refine c ?_ ?_
   · refine z [2,31,1,8,12] ?_
     refine sU ?_
     refine z [12,10] ?_
     exact rt []
   refine z [9,11] ?_
   exact sgo eI
 intro s13
 refine z [13,4,2,31,1,8] ?_
 exact rt []
theorem Xp{n:Nat}{x0}:∀ r,Vc n x0=some r->FnOk Tryz.prog 84 [Qd x0] [] (.tup [Q1 r.1,sli 1 (List.map u32 r.2)]) []:=by
 unfold Vc
 refine fs Tryz.func84 fun w S0 γ hγ=>?_
 refine z [2] ?_
 refine o (bx' 100) ?_
 refine o (al' 101) ?_
 refine s1 (asg rfl (kLm (k:=1) u32)) ?_
 refine z [1,5,2,33,36] ?_
 refine cb (ca Qid) fun r1=>?_
 refine z [1] ?_
 refine c ?_ ?_
 · refine z [2] ?_
   refine s1 (bld (l:=[bl false,sli 1 (List.map u32 [])]) pl_43.h ti_43.h Wn rfl rfl) ?_
   refine cb (ca Qbi) fun r3=>?_
   refine z [34,31,1,8,10] ?_
   exact rt []
 refine z [9,4,5] ?_
 refine sd ?_
 refine zd [[100],[100],[100],[100],[101],[]] ?_
 refine de fol ?_
 refine z [4,8] ?_
 exact rt []
theorem Wh{n:Nat}{x0}:∀ r,Kw n x0=some r->FnOk Tryz.prog 43 [Qd x0] [] (Qd r) []:=by
 unfold Kw
 refine fs Tryz.func43 fun w S0 γ hγ=>?_
 refine z [2] ?_
 refine o (bx' 100) ?_
 refine o (al' 101) ?_
 refine z [1,2,32] ?_
 refine cb (ca Xp) fun r1=>?_
 refine z [35,35] ?_
 refine cb (ca Qck) fun r3=>?_
 refine z [34,1,8] ?_
 exact rt []
theorem Qqo{n:Nat}{x0}:∀ r,Yl n x0=some r->FnOk Tryz.prog 208 [Qd x0] [] (bl r) []:=by
 unfold Yl
 refine fs Tryz.func208 fun w S0 γ hγ=>?_
 refine z [2] ?_
 refine o (bx' 100) ?_
 refine z [31,1,2,32] ?_
 refine cb (ca Wh) fun r1=>?_
 refine o (al' 101) ?_
 refine z [34,1] ?_
 refine sjq (fun s9=>[(2,bl s9)]) (fun s9=>[]) ?_ ?_
 · intro j7 hj8
   refine z [6,33,45,36,33,45,36,74,30] ?_
   refine sifd 13 rfl ?_ ?_
   · refine z [22,22,22,22,22,22,22,22,22,38,30] ?_
     refine sifd 24 rfl ?_ ?_
     · refine z [22,22,22,22,22,22,22,38,30] ?_
       refine sifd 33 rfl ?_ ?_
       · refine z [22,22,22,22,22,22] ?_
         refine b fun r10 h11=>?_
         refine og' (c0 (Qhf _ h11)) ?_
         refine z [22,38,30] ?_
         refine sifd 43 rfl ?_ ?_
         · refine z [22,22,22,22] ?_
           refine b fun r12 h13=>?_
           refine og' (c0 (Qhf _ h13)) ?_
           refine z [22,38,31,1] ?_
           exact sj (hj8 _) (eR [])
         refine z [23,23,23,23,23,23,37,31,1] ?_
         exact sj (hj8 _) (eR [])
       refine z [23,23,23,23,23,23,23,23,37,30,23,23,23,23,23,23,37,31,1] ?_
       exact sj (hj8 _) (eR [])
     refine z [23,23,23,23,23,23,23,37,30,23,23,23,23,23,23,23,23,37,30,23,23,23,23,23,23,37,31,1] ?_
     exact sj (hj8 _) (eR [])
   refine z [23,23,23,23,23,23,23,23,23,37,30,23,23,23,23,23,23,23,37,30,23,23,23,23,23,23,23,23,37,30,23,23,23,23,23,23,37,31,1] ?_
   exact sj (hj8 _) (eR [])
 intro s9
 refine z [8] ?_
 exact rt []
theorem Qr2{n:Nat}{x0}:∀ r,Xr n x0=some r->FnOk Tryz.prog 219 [Qd x0] [] (i64 r) []:=by
 unfold Xr
 refine fs Tryz.func219 fun w S0 γ hγ=>?_
 refine z [2] ?_
 refine o (bx' 100) ?_
 refine z [31,1,5] ?_
 refine b fun r1 h2=>?_
 refine b fun r3 h4=>?_
 refine sd ?_
 refine zd [[100],[],[100]] ?_
 refine dd [] (fun _ _ _ _=>c0 (Qkx _ h2)) ?_
 refine zd [[100],[100]] ?_
 refine dd [] (fun _ _ _ _=>c0 (Qkx _ h4)) ?_
 refine zd [[],[]] ?_
 refine de fol ?_
 refine z [4,8] ?_
 exact rt []
theorem Qlo{n:Nat}{x0}:∀ r,Qau n x0=some r->FnOk Tryz.prog 178 [sli 1 (List.map Qi x0)] [] (bl r) []:=by
 unfold Qau
 refine fs Tryz.func178 fun w S0 γ hγ=>?_
 refine z [2,31,1,5,2,30,39,30,1,7] ?_
 refine srN (fun s38=>[(2,bl false),(7,sli 1 (List.map Qi x0))]) (fun s38=>[]) (rE eI) ?_ ?_
 · intro i39 x40 s38 hx41
   refine z [7,2,43,42,31,1,2,30,39,30,1,7] ?_
   refine srN (fun s58=>[(2,bl false),(7,sli 1 (List.map Qi x0)),(8,i64 (x0.length:Int)),(9,i64 (i39:Int)),(13,sli 3 (List.map Qd x40))]) (fun s58=>[]) (rE eI) ?_ ?_
   · intro i59 x60 s58 hx61
     refine z [7,2,43,42] ?_
     refine o (al' 100) ?_
     refine z [34,1] ?_
     refine sjq (fun s68=>[(2,bl false),(7,sli 1 (List.map Qi x0)),(8,i64 (x0.length:Int)),(9,i64 (i39:Int)),(13,sli 3 (List.map Qd x40)),(14,i64 (x40.length:Int)),(15,i64 (i59:Int)),(26,bl s68)]) (fun s68=>[]) ?_ ?_
     · intro j66 hj67
       refine z [6,32] ?_
       refine cb (ca Qqo) fun r69=>?_
       refine z [44,30] ?_
       refine sifd 22 rfl ?_ ?_
       · refine z [23,23,23,38,1] ?_
         exact sj (hj67 _) (eR [])
       refine z [22] ?_
       refine b fun r71 h72=>?_
       refine og' (c0 (Qr2 _ h72)) ?_
       refine z [22,37,1] ?_
       exact sj (hj67 _) (eR [])
     intro s68
     refine c ?_ ?_
     · refine z [2,31,1,8,12] ?_
       refine sU ?_
       refine z [12,12] ?_
       refine sU ?_
       refine z [12,10] ?_
       exact rt []
     refine z [9,11] ?_
     exact sgo eI
   intro s73
   refine z [13,11] ?_
   exact sgo eI
 intro s74
 refine z [13,4,2,31,1,8] ?_
 exact rt []
theorem Qr3{n:Nat}{x0}{x1}:∀ r,Qey n x0 x1=some r->FnOk Tryz.prog 143 [Q1 x0,Q1 x1] [] (Q1 r) []:=by
 unfold Qey
 refine fs Tryz.func143 fun w S0 γ hγ=>?_
 refine z [2] ?_
 refine o (bx' 100) ?_
 refine o (bx' 101) ?_
 refine o (al' 102) ?_
 refine z [1,5] ?_
 refine b fun r1 h2=>?_
 refine b fun r3 h4=>?_
 refine sd ?_
 refine zd [[100],[100],[101],[101],[],[100],[100],[101],[101]] ?_
 refine dd [] (fun _ _ _ _=>c0 (Qcx _ h2)) ?_
 refine dd [] (fun _ _ _ _=>c0 (Yy _ h4)) ?_
 refine zd [[102]] ?_
 refine de fol ?_
 refine z [4,8] ?_
 exact rt []
theorem Qca{n:Nat}{x0}{x1}:∀ r,Yj n x0 x1=some r->FnOk Tryz.prog 91 [Q1 x0,sli 1 (List.map u32 x1)] [] (Q1 r) []:=by
 unfold Yj
 refine fs Tryz.func91 fun w S0 γ hγ=>?_
 refine z [2] ?_
 refine o (bx' 100) ?_
 refine o (al' 101) ?_
 refine z [1,2,32,30] ?_
 refine s1 (bld (l:=[bl false,sli 1 (List.map u32 x1)]) pl_43.h ti_43.h Wn ⟨_,_,_,rfl,rfl,rfl,rfl,(szk (k:=1) rfl rfl),rfl⟩ rfl) ?_
 refine cb (ca Qr3) fun r1=>?_
 refine z [34,1,8] ?_
 exact rt []
theorem Q2q{n:Nat}{x0}{x1}:∀ r,Qjx n x0 x1=some r->FnOk Tryz.prog 200 [sli 1 (List.map u32 x0),sli 1 (List.map u32 x1)] [] (.tup [sli 1 (List.map u32 r.1),bl r.2]) []:=by
 unfold Qjx
 refine fs Tryz.func200 fun w S0 γ hγ=>?_
 refine z [2] ?_
 refine s1 (asg rfl (kLm (k:=1) u32)) ?_
 refine z [31,1,2,30] ?_
 refine cb (ca Qac) fun r1=>?_
 refine z [30] ?_
 refine cb (ca Qac) fun r3=>?_
 refine z [31,31,1,5,2,30,30] ?_
 refine cb (ca Qhf) fun r5=>?_
 refine z [46,1] ?_
 refine c ?_ ?_
 · refine z [2] ?_
   refine s1 (asg rfl (kLm (k:=1) u32)) ?_
   refine z [31,1,8,10] ?_
   exact rt []
 refine z [9,4,2,30] ?_
 refine b fun r7 h8=>?_
 refine o (cG (Qnd _ h8) [] [(100,50)] []) ?_
 refine z [31,1,2,31,1,5,2,30,39,30,1,7] ?_
 refine srN (fun s40=>[(0,sli 1 (List.map u32 r1)),(1,sli 1 (List.map u32 r3)),(4,sli 1 (List.map u32 ([]:List Nat))),(5,bl false),(6,.own 100),(7,u32 s40.2)]) (fun s40=>[(100,.sl 129 1 (List.map u32 s40.1))]) (rE (eR [(100,100)])) ?_ ?_
 · intro i41 x42 s40 hx43
   refine z [7,2,30,31,1,2,31,1] ?_
   refine sjq (fun s48=>[(0,sli 1 (List.map u32 r1)),(1,sli 1 (List.map u32 r3)),(4,sli 1 (List.map u32 ([]:List Nat))),(5,bl false),(6,.own 100),(7,u32 s40.2),(8,i64 (i41:Int)),(9,u32 s48),(21,i64 (r1.length:Int)),(22,i64 (i41:Int))]) (fun s48=>[(100,.sl 129 1 (List.map u32 s40.1))]) ?_ ?_
   · intro j46 hj47
     refine z [2,30,30,39,46,1] ?_
     refine c ?_ ?_
     · refine z [6,30,30] ?_
       refine b fun y49 h50=>?_
       refine z [43,42,31,1] ?_
       exact sj (hj47 _) (eR [(100,100)])
     refine z [9,4] ?_
     exact sj (hj47 _) (eR [(100,100)])
   intro s48
   refine z [6,30,30,30,30,43,42,30,30] ?_
   refine cb (ca Qo3) fun r51=>?_
   refine z [30,35,35] ?_
   refine b fun y53 h54=>?_
   refine z [50,53,31,3,11] ?_
   exact sgo (eR [(100,100)])
 intro s55
 refine z [13,4,2,30] ?_
 refine fz 100 [6,47] [] ?_
 refine cb (ca Qac) fun r56=>?_
 refine z [31,31,1,8] ?_
 exact rt []
theorem Q2r{n:Nat}{x0}{x1}:∀ r,Qjy n x0 x1=some r->FnOk Tryz.prog 150 [sli 1 (List.map u32 x0),sli 1 (List.map u32 x1)] [] (.tup [sli 1 (List.map u32 r.1),i64 r.2]) []:=by
 unfold Qjy
 refine fs Tryz.func150 fun w S0 γ hγ=>?_
 refine z [2] ?_
 refine s1 (asg rfl (kLm (k:=1) u32)) ?_
 refine z [31,1,2,30,30] ?_
 refine cb (ca Qhf) fun r1=>?_
 refine z [31,1] ?_
 refine sjq (fun s5=>[(0,sli 1 (List.map u32 s5.1)),(1,sli 1 (List.map u32 s5.2)),(4,sli 1 (List.map u32 ([]:List Nat))),(5,i64 (0:Int)),(6,i64 r1)]) (fun s5=>[]) ?_ ?_
 · intro j3 hj4
   refine z [2,30,46,1] ?_
   refine c ?_ ?_
   · refine z [6,30,30,31,31,1] ?_
     exact sj (hj4 _) eI
   refine z [9,4] ?_
   exact sj (hj4 _) eI
 intro s5
 refine z [2,30,30] ?_
 refine cb (ca Q2q) fun r6=>?_
 refine z [30,35,35,31,31,1,2,30,30,31,31,1,8] ?_
 exact rt []
theorem Qr4{n:Nat}{x0}{x1}:∀ r,Qe1 n x0 x1=some r->FnOk Tryz.prog 90 [Q1 x0,Q1 x1] [] (Q1 r) []:=by
 unfold Qe1
 refine fs Tryz.func90 fun w S0 γ hγ=>?_
 refine z [2] ?_
 refine o (bx' 100) ?_
 refine o (bx' 101) ?_
 refine o (al' 102) ?_
 refine z [1,5,2,33,36,33,36,74,1] ?_
 refine c ?_ ?_
 · refine z [5] ?_
   refine b fun r1 h2=>?_
   refine b fun r3 h4=>?_
   refine sd ?_
   refine zd [[100],[100],[100],[100],[101],[101]] ?_
   refine dx [15,17] [103] (fun st mm ⟨a15,a17,_⟩ ⟨g103,_⟩=>og (toV (bsl (y:=103) (ls:=List.map Qav ([x0.Abs,x1.Abs]:List (List Nat))) Tryz.underlying280 ti_32.h rfl rfl rfl rfl rfl ⟨rfl,(a15.trans rfl),(by exact rfl),(by exact rfl),rfl,(a17.trans rfl),(by exact rfl),(by exact rfl),trivial⟩ (g103.trans rfl) rfl) (Jk (f:=Qav) (fun _=>Qap) ([x0.Abs,x1.Abs]:List (List Nat))))) ?_
   refine dd [] (fun _ _ _ _=>c0 (Qqn _ h2)) ?_
   refine dd [] (fun _ _ _ _=>c0 (Yy _ h4)) ?_
   refine zd [[102]] ?_
   refine de fol ?_
   refine z [4,8,10] ?_
   exact rt []
 refine z [9,4,2,33,36,33,36] ?_
 refine cb (ca Q2r) fun r5=>?_
 refine z [30,35,35,31,31,1,5,2,30,46,1] ?_
 refine c ?_ ?_
 · refine z [2,33,36,30] ?_
   refine cb (ca Yy) fun r7=>?_
   refine z [34,1,8,10] ?_
   exact rt []
 refine z [9,4,2,33,36,30] ?_
 refine cb (ca Yy) fun r9=>?_
 refine z [34,1,8] ?_
 exact rt []
theorem Qej{n:Nat}{x0}{x1}:∀ r,X9 n x0 x1=some r->FnOk Tryz.prog 47 [Qd x0,Qd x1] [] (Qd r) []:=by
 unfold X9
 refine fs Tryz.func47 fun w S0 γ hγ=>?_
 refine z [2] ?_
 refine o (bx' 100) ?_
 refine o (bx' 101) ?_
 refine o (al' 102) ?_
 refine z [1,2,32] ?_
 refine cb (ca Xp) fun r1=>?_
 refine z [30,35,35] ?_
 refine o (al' 103) ?_
 refine z [34,31,1,2,32] ?_
 refine cb (ca Xp) fun r3=>?_
 refine z [30,35,35] ?_
 refine o (al' 104) ?_
 refine z [34,31,1,5] ?_
 refine b fun r5 h6=>?_
 refine b fun r7 h8=>?_
 refine b fun r9 h10=>?_
 refine b fun r11 h12=>?_
 refine b fun r13 h14=>?_
 refine sd ?_
 refine zd [[103],[]] ?_
 refine dd [] (fun _ _ _ _=>c0 (Qca _ h6)) ?_
 refine zd [[104],[]] ?_
 refine dd [] (fun _ _ _ _=>c0 (Qca _ h8)) ?_
 refine dd [] (fun _ _ _ _=>c0 (Qr4 _ h10)) ?_
 refine zd [[],[]] ?_
 refine dd [] (fun _ _ _ _=>c0 (Qcx _ h12)) ?_
 refine dd [] (fun _ _ _ _=>c0 (Qck _ h14)) ?_
 refine zd [[102]] ?_
 refine de fol ?_
 refine z [4,8] ?_
 exact rt []
theorem Qlp{n:Nat}{x0}:∀ r,Qa7 n x0=some r->FnOk Tryz.prog 180 [sli 3 (List.map Qd x0)] [] (Qd r) []:=by
 unfold Qa7
 refine fs Tryz.func180 fun w S0 γ hγ=>?_
 refine z [2] ?_
 refine o (al' 100) ?_
 refine z [1,2] ?_
 refine cb (ca Vv) fun r1=>?_
 refine o (al' 101) ?_
 refine z [34,1,5,2,30,39,30,1,7] ?_
 refine srN (fun s16=>[(2,.own 100),(3,.own 101),(7,sli 3 (List.map Qd x0))]) (fun s16=>[(100,.bx 45 (Qd (⟨(⟨false,[]⟩:Qf),[]⟩:Qc))),(101,.bx 45 (Qd s16))]) (rE (eR [(100,100),(101,101)])) ?_ ?_
 · intro i17 x18 s16 hx19
   refine z [7,2,43,42] ?_
   refine o (al' 102) ?_
   refine z [34,1,6,32,32] ?_
   refine cb (ca Qej) fun r20=>?_
   refine z [34,3,11] ?_
   exact sgo (eR [(100,100),(101,101)])
 intro s22
 refine z [13,4,2,32,34,1,8] ?_
 exact rt []
theorem Qr5{n:Nat}{x0}:∀ r,Qe3 n x0=some r->FnOk Tryz.prog 169 [Q1 x0] [] (Q1 r) []:=by
 unfold Qe3
 refine fs Tryz.func169 fun w S0 γ hγ=>?_
 refine z [2] ?_
 refine o (bx' 100) ?_
 refine o (al' 101) ?_
 refine z [1,5] ?_
 refine b fun r3 h4=>?_
 refine b fun r5 h6=>?_
 refine sd ?_
 refine zd [[100],[100],[],[100],[100]] ?_
 refine dd [102] (fun _ _ _ _=>tV (cG (W1 _ h4) [] [(102,50)] [])) ?_
 refine dd [] (fun _ _ _ _=>c0 (Yy _ h6)) ?_
 refine zd [[101]] ?_
 refine de fol ?_
 refine z [4,8] ?_
 exact rt []
theorem Qr6{n:Nat}{x0}{x1}:∀ r,Qe4 n x0 x1=some r->FnOk Tryz.prog 119 [Q1 x0,Q1 x1] [] (Q1 r) []:=by
 unfold Qe4
 refine fs Tryz.func119 fun w S0 γ hγ=>?_
 refine z [2] ?_
 refine o (bx' 100) ?_
 refine o (bx' 101) ?_
 refine o (al' 102) ?_
 refine z [1,5] ?_
 refine b fun r1 h2=>?_
 refine b fun r3 h4=>?_
 refine sd ?_
 refine zd [[100],[101]] ?_
 refine dd [] (fun _ _ _ _=>c0 (Qr5 _ h2)) ?_
 refine dd [] (fun _ _ _ _=>c0 (Qr4 _ h4)) ?_
 refine zd [[102]] ?_
 refine de fol ?_
 refine z [4,8] ?_
 exact rt []
theorem Qie{n:Nat}{x0}:∀ r,Qa5 n x0=some r->FnOk Tryz.prog 118 [Q1 x0] [] (i64 r) []:=by
 unfold Qa5
 refine fs Tryz.func118 fun w S0 γ hγ=>?_
 refine z [2] ?_
 refine o (bx' 100) ?_
 refine z [31,1,5,7,2,33,36] ?_
 refine cb (ca Qid) fun r1=>?_
 refine z [31,1] ?_
 refine c ?_ ?_
 · refine z [2,31,1,8,12,10] ?_
   exact rt []
 refine z [2,33,36,31,1] ?_
 refine c ?_ ?_
 · refine z [2,31,1,8,12,10] ?_
   exact rt []
 refine z [9,11,4,2,31,1,8] ?_
 exact rt []
theorem Qz1{n:Nat}{x0}{x1}:∀ r,Qgk n x0 x1=some r->FnOk Tryz.prog 117 [Q1 x0,Q1 x1] [] (i64 r) []:=by
 unfold Qgk
 refine fs Tryz.func117 fun w S0 γ hγ=>?_
 refine z [2] ?_
 refine o (bx' 100) ?_
 refine o (bx' 101) ?_
 refine z [31,1,2,32,32] ?_
 refine cb (ca Qr6) fun r1=>?_
 refine cb (ca Qie) fun r3=>?_
 refine z [31,1,8] ?_
 exact rt []
theorem Qo5{n:Nat}{x0}{x1}:∀ r,Qeh n x0 x1=some r->FnOk Tryz.prog 60 [Qd x0,Qd x1] [] (i64 r) []:=by
 unfold Qeh
 refine fs Tryz.func60 fun w S0 γ hγ=>?_
 refine z [2] ?_
 refine o (bx' 100) ?_
 refine o (bx' 101) ?_
 refine z [31,1,2,32] ?_
 refine cb (ca Xp) fun r1=>?_
 refine z [30,35,35] ?_
 refine o (al' 102) ?_
 refine z [34,31,1,2,32] ?_
 refine cb (ca Xp) fun r3=>?_
 refine z [30,35,35] ?_
 refine o (al' 103) ?_
 refine z [34,31,1,5] ?_
 refine b fun r5 h6=>?_
 refine b fun r7 h8=>?_
 refine b fun r9 h10=>?_
 refine sd ?_
 refine zd [[102],[]] ?_
 refine dd [] (fun _ _ _ _=>c0 (Qca _ h6)) ?_
 refine zd [[103],[]] ?_
 refine dd [] (fun _ _ _ _=>c0 (Qca _ h8)) ?_
 refine dd [] (fun _ _ _ _=>c0 (Qz1 _ h10)) ?_
 refine zd [[]] ?_
 refine de fol ?_
 refine z [4,8] ?_
 exact rt []
theorem Qgn{n:Nat}{x0}{x1}:∀ r,Qa1 n x0 x1=some r->FnOk Tryz.prog 39 [Qd x0,Qd x1] [] (bl r) []:=by
 unfold Qa1
 refine fs Tryz.func39 fun w S0 γ hγ=>?_
 refine z [2] ?_
 refine o (bx' 100) ?_
 refine o (bx' 101) ?_
 refine z [31,1,2,32,32] ?_
 refine cb (ca Qo5) fun r1=>?_
 refine z [41,31,1,8] ?_
 exact rt []
theorem Qw4{n:Nat}{x0}:∀ r,Qeq n x0=some r->FnOk Tryz.prog 179 [Jh x0] [] (bl r) []:=by
 unfold Qeq
 refine fs Tryz.func179 fun w S0 γ hγ=>?_
 refine z [2] ?_
 refine o (bx' 100) ?_
 refine z [31,1,5,2,33,36,39,30,1,7] ?_
 refine srN (fun s12=>[(1,.own 100),(2,bl false),(6,sli 1 (List.map Qi x0.A))]) (fun s12=>[(100,.bx 58 (Jh x0))]) (rE (eR [(100,100)])) ?_ ?_
 · intro i13 x14 s12 hx15
   refine z [7,2,30,43,42,31,31,1,5] ?_
   refine b fun r16 h17=>?_
   refine b fun y18 h19=>?_
   refine b fun r20 h21=>?_
   refine sd ?_
   refine zd [[]] ?_
   refine dd [] (fun _ _ _ _=>c0 (Qlp _ h17)) ?_
   refine zd [[100],[100],[],[],[]] ?_
   refine dd [] (fun _ _ _ _=>c0 (Qgn _ h21)) ?_
   refine zd [[]] ?_
   refine de fol ?_
   refine z [4] ?_
   refine c ?_ ?_
   · refine z [2,31,1,8,12] ?_
     refine sU ?_
     refine z [12,10] ?_
     exact rt []
   refine z [9,11] ?_
   exact sgo (eR [(100,100)])
 intro s22
 refine z [13,4,2,31,1,8] ?_
 exact rt []
theorem Qnw{n:Nat}{x0}:∀ r,Qbx n x0=some r->FnOk Tryz.prog 130 [Jh x0] [] (i64 r) []:=by
 unfold Qbx
 refine fs Tryz.func130 fun w S0 γ hγ=>?_
 refine z [2] ?_
 refine o (bx' 100) ?_
 refine z [31,1,2] ?_
 refine cb (ca Vv) fun r1=>?_
 refine o (al' 101) ?_
 refine z [34,1,5,7,2,33,36] ?_
 refine s1 (bld (l:=[i64 (2:Int),str x0.Name,i64 0]) Q2h.h Q2g.h Qrx ⟨_,_,_,(kI (x:=2) rfl),rfl,rfl,rfl,(szk (k:=1) rfl rfl),⟨_,_,_,rfl,rfl,rfl,rfl,(szk (k:=1) rfl rfl),rfl⟩⟩ rfl) ?_
 refine cb (ca Qrz) fun r3=>?_
 refine z [44,31,1] ?_
 refine c ?_ ?_
 · refine z [2,31,1,8,12,10] ?_
   exact rt []
 refine z [2,32] ?_
 refine cb (ca Quv) fun r5=>?_
 refine z [44,31,1] ?_
 refine c ?_ ?_
 · refine z [2,31,1,8,12,10] ?_
   exact rt []
 refine sjq (fun s13=>[(1,.own 100),(2,i64 (0:Int)),(3,.own 101),(15,bl s13)]) (fun s13=>[(100,.bx 58 (Jh x0)),(101,.bx 45 (Qd r1))]) ?_ ?_
 · intro j11 hj12
   refine z [6,33,36] ?_
   refine cb (ca Qlo) fun r14=>?_
   refine z [44,30] ?_
   refine sifd 20 rfl ?_ ?_
   · refine z [23,23,23,23,23,23,23,23,23,38,31,1] ?_
     exact sj (hj12 _) (eR [(100,100),(101,101)])
   refine z [22,22,22,22,22,22] ?_
   refine sg 20 rfl rfl (bsl (y:=102) (ls:=List.map Qi ([x0.B,x0.C,x0.E]:List (List Qc))) Tryz.underlying56 ti_46.h rfl rfl rfl rfl rfl ⟨rfl,rfl,(by exact rfl),(by exact rfl),rfl,rfl,(by exact rfl),(by exact rfl),rfl,rfl,(by exact rfl),(by exact rfl),trivial⟩ rfl rfl) ?_
   refine b fun r16 h17=>?_
   refine sg 20 rfl rfl (callL (em:=[]) [102] [] [] [] rfl (Qlo _ h17) trivial (pl_bl) ⟨.inr ⟨102,rfl,.inl ⟨rfl,.inl ⟨_,_,_,rfl,Jk (f:=Qi) (fun _=>Qap) ([x0.B,x0.C,x0.E]:List (List Qc)),rfl⟩⟩⟩,trivial⟩ (fun _ _ h=>by cases h) trivial rfl trivial trivial rfl trivial trivial trivial (rn_id (if_bl)) rfl) ?_
   refine z [22,37,31,1] ?_
   exact sj (hj12 _) (eR [(100,100),(101,101)])
 intro s13
 refine c ?_ ?_
 · refine z [2,31,1,8,12,10] ?_
   exact rt []
 refine z [2,32] ?_
 refine cb (ca Qw4) fun r18=>?_
 refine z [44,31,1] ?_
 refine c ?_ ?_
 · refine z [2,31,1,8,12,10] ?_
   exact rt []
 refine z [5] ?_
 refine b fun r20 h21=>?_
 refine b fun r22 h23=>?_
 refine sd ?_
 refine zd [[100],[100]] ?_
 refine dd [] (fun _ _ _ _=>c0 (Qlp _ h21)) ?_
 refine zd [[101]] ?_
 refine dd [] (fun _ _ _ _=>c0 (Qgn _ h23)) ?_
 refine zd [[],[]] ?_
 refine de fol ?_
 refine z [4] ?_
 refine c ?_ ?_
 · refine z [2,31,1,8,12,10] ?_
   exact rt []
 refine sjq (fun s31=>[(2,i64 (0:Int)),(42,bl s31)]) (fun s31=>[]) ?_ ?_
 · intro j29 hj30
   refine sif (fun hb32=>?_) (fun hb32=>?_)
   · refine b fun r33 h34=>?_
     refine b fun r35 h36=>?_
     refine sd ?_
     refine zd [[100],[100],[],[]] ?_
     refine dd [] (fun _ _ _ _=>obk hb32 ops) ?_
     refine zd [[100],[100]] ?_
     refine dG [] (fun _ _ _ _=>c0 (Qlp _ h34)) ?_
     refine zd [[101]] ?_
     refine dG [] (fun _ _ _ _=>c0 (Qgn _ h36)) ?_
     refine zd [[],[],[]] ?_
     refine de fol ?_
     refine z [4] ?_
     exact sj (hj30 _) (eR [])
   refine sd ?_
   refine zd [[100],[100],[],[]] ?_
   refine dd [] (fun _ _ _ _=>obk hb32 ops) ?_
   refine zd [[],[],[],[],[],[],[],[]] ?_
   refine de fol ?_
   refine z [4] ?_
   exact sj (hj30 _) (eR [])
 intro s31
 refine c ?_ ?_
 · refine z [2,31,1,8,12,10] ?_
   exact rt []
 refine z [9,11,4,2,31,1,8] ?_
 exact rt []
theorem Quw{n:Nat}{x0}:∀ r,Qi7 n x0=some r->FnOk Tryz.prog 75 [str x0] [] (.tup [Jh r.1,Qn r.2]) []:=by
 unfold Qi7
 refine fs Tryz.func75 fun w S0 γ hγ=>?_
 refine z [2] ?_
 refine o (al' 100) ?_
 refine o (al' 101) ?_
 refine z [1,5,2,30,54,47,1] ?_
 refine c ?_ ?_
 · refine z [2] ?_
   refine s1 (bld (l:=[str [],sli 3 (List.map Qd []),sli 1 (List.map Qi []),sli 3 (List.map Qd []),sli 3 (List.map Qd [])]) pl_58.h ti_58.h Zo rfl rfl) ?_
   refine s1 (bld (l:=[i64 (1:Int),i64 0,i64 0,i64 (4000:Int)]) pl_50.h ti_50.h Qq ⟨_,_,_,(kI (x:=1) rfl),rfl,rfl,rfl,(szk (k:=1) rfl rfl),⟨_,_,_,(kI (x:=4000) rfl),rfl,rfl,rfl,(szk (k:=1) rfl rfl),rfl⟩⟩ rfl) ?_
   refine z [34,34,1,8,10] ?_
   exact rt []
 refine z [9,4,2,30] ?_
 refine cb (ca Qw3) fun r1=>?_
 refine z [30,35,35] ?_
 refine o (al' 102) ?_
 refine o (al' 103) ?_
 refine z [34,34,1,5,2,32] ?_
 refine s1 (bld (l:=[i64 0,i64 0,i64 0,i64 0]) pl_50.h ti_50.h Qq rfl rfl) ?_
 refine s1 (neA (p:=(r1.2:Qe)) (q:=((⟨0,0,0,0⟩:Qe):Qe)) K7 rfl eg_50 rfl rfl rfl) ?_
 refine z [1] ?_
 refine c ?_ ?_
 · refine z [5] ?_
   refine sd ?_
   refine dx [] [] (fun st mm _ _=>og (bld (l:=[str [],sli 3 (List.map Qd []),sli 1 (List.map Qi []),sli 3 (List.map Qd []),sli 3 (List.map Qd [])]) pl_58.h ti_58.h Zo rfl rfl)) ?_
   refine zd [[103],[100],[101]] ?_
   refine de fol ?_
   refine z [4,8,10] ?_
   exact rt []
 refine z [9,4,5,2,32] ?_
 refine cb (ca Qnw) fun r3=>?_
 refine z [31,1,2,30,56,1] ?_
 refine c ?_ ?_
 · refine z [2] ?_
   refine s1 (bld (l:=[str [],sli 3 (List.map Qd []),sli 1 (List.map Qi []),sli 3 (List.map Qd []),sli 3 (List.map Qd [])]) pl_58.h ti_58.h Zo rfl rfl) ?_
   refine z [30] ?_
   refine s1 (bld (l:=[i64 (2:Int),i64 0,i64 0,i64 r3]) pl_50.h ti_50.h Qq ⟨_,_,_,(kI (x:=2) rfl),rfl,rfl,rfl,(szk (k:=1) rfl rfl),⟨_,_,_,rfl,rfl,rfl,rfl,(szk (k:=1) rfl rfl),rfl⟩⟩ rfl) ?_
   refine z [34,34,1,8,10] ?_
   exact rt []
 refine z [9,4,5] ?_
 refine sd ?_
 refine zd [[102],[103],[100],[101]] ?_
 refine de fol ?_
 refine z [4,8] ?_
 exact rt []
theorem Qz2{n:Nat}{x0}:∀ r,Qm9 n x0=some r->FnOk Tryz.prog 36 [str x0] [] (.tup [Jh r.1,bl r.2]) []:=by
 unfold Qm9
 refine fs Tryz.func36 fun w S0 γ hγ=>?_
 refine z [2] ?_
 refine o (al' 100) ?_
 refine z [31,1,5,2] ?_
 refine cb (ca Qwz) fun r1=>?_
 refine z [30,1,7] ?_
 refine sloopE 0 Lp.go (fun s17=>[(0,str x0),(2,.own 100),(3,bl false),(8,Qjr r1),(9,i64 s17)]) (fun s17=>[(100,.bx 58 (Jh (⟨[],[],[],[],[]⟩:Qr)))]) (fun t15=>[(2,.own 100),(3,bl false)]) (fun t15=>[(100,.bx 58 (Jh (⟨[],[],[],[],[]⟩:Qr)))]) (eR [(100,100)]) ?_ ?_
 · intro hj16 s17
   refine z [2,46,1,5] ?_
   refine c ?_ ?_
   · refine z [9,4,5,7,2] ?_
     refine b fun y18 h19=>?_
     refine s1 (ixV (f:=str) (xs:=([r1.a0,r1.a1,r1.a2,r1.a3,r1.a4,r1.a5]:List (List UInt8))) (y:=y18) Tryz.underlying145 sh_9.h rfl h19 (fun _=>rfl) (fun _=>rfl) rfl rfl rfl) ?_
     refine z [31,1,2,30] ?_
     refine cb (ca Qyg) fun r20=>?_
     refine z [30,72,1] ?_
     refine c ?_ ?_
     · refine z [2,30] ?_
       refine cb (ca Quw) fun r22=>?_
       refine z [30,35,35] ?_
       refine o (al' 101) ?_
       refine o (al' 102) ?_
       refine z [34,34,1,2,32,34,31,1,8,12,10] ?_
       refine sU ?_
       refine z [12,10] ?_
       exact rt []
     refine z [9,11,4,6,40,30,3] ?_
     exact sgo (eR [(100,100)])
   refine z [14,15] ?_
   exact su (sj (hj16 _) (eR [(100,100)]))
 intro t15
 refine slpk ?_
 refine z [13,4,2] ?_
 refine s1 (bld (l:=[str [],sli 3 (List.map Qd []),sli 1 (List.map Qi []),sli 3 (List.map Qd []),sli 3 (List.map Qd [])]) pl_58.h ti_58.h Zo rfl rfl) ?_
 refine z [34,31,1,8] ?_
 exact rt []
theorem Qo6{n:Nat}{x0}{x1}:∀ r,Qef n x0 x1=some r->FnOk Tryz.prog 61 [Qd x0,Qd x1] [] (.tup [Qd r.1,bl r.2]) []:=by
 unfold Qef
 refine fs Tryz.func61 fun w S0 γ hγ=>?_
 refine z [2] ?_
 refine o (bx' 100) ?_
 refine o (bx' 101) ?_
 refine o (al' 102) ?_
 refine z [31,1,2,32] ?_
 refine cb (ca Xp) fun r1=>?_
 refine z [30,35,35] ?_
 refine o (al' 103) ?_
 refine z [34,31,1,2,32] ?_
 refine cb (ca Xp) fun r3=>?_
 refine z [30,35,35] ?_
 refine o (al' 104) ?_
 refine z [34,31,1,5,2,32] ?_
 refine cb (ca Qie) fun r5=>?_
 refine z [41,1] ?_
 refine c ?_ ?_
 · refine z [2] ?_
   refine cb (ca Vv) fun r7=>?_
   refine z [34,31,1,8,10] ?_
   exact rt []
 refine z [9,4,2,32,30] ?_
 refine cb (ca Qca) fun r9=>?_
 refine o (al' 105) ?_
 refine z [34,1,2,33,36,33,36,75,33] ?_
 refine o (stP (Q1 (⟨(r9.Neg != r3.1.Neg),r9.Abs⟩:Qf)) [0]) ?_
 refine z [1,5] ?_
 refine b fun r11 h12=>?_
 refine b fun r13 h14=>?_
 refine sd ?_
 refine zd [[105],[],[104],[104]] ?_
 refine dd [] (fun _ _ _ _=>c0 (Qcx _ h12)) ?_
 refine dd [] (fun _ _ _ _=>c0 (Qck _ h14)) ?_
 refine zd [[102],[]] ?_
 refine de fol ?_
 refine z [4,8] ?_
 exact rt []
theorem Qyl{n:Nat}{x0}{x1}:∀ r,Qld n x0 x1=some r->FnOk Tryz.prog 37 [i64 x0,i64 x1] [] (.tup [Qd r.1,bl r.2]) []:=by
 unfold Qld
 refine fs Tryz.func37 fun w S0 γ hγ=>?_
 refine z [2] ?_
 refine o (al' 100) ?_
 refine z [31,1,2,30] ?_
 refine cb (ca Vv) fun r1=>?_
 refine z [30] ?_
 refine cb (ca Vv) fun r3=>?_
 refine cb (ca Qo6) fun r5=>?_
 refine z [35,35,34,31,1,8] ?_
 exact rt []
theorem Qdu{x0}{x1}:∀ r,Yk x0 x1=some r->FnOk Tryz.prog 188 [i64 x0,i64 x1] [] (bl r) []:=by
 unfold Yk
 refine fs Tryz.func188 fun w S0 γ hγ=>?_
 refine z [2,31,1] ?_
 refine sjq (fun s3=>[(4,bl s3)]) (fun s3=>[]) ?_ ?_
 · intro j1 hj2
   refine z [6,30,57,30] ?_
   refine sifd 7 rfl ?_ ?_
   · refine z [22,22,22,38,31,1] ?_
     exact sj (hj2 _) eI
   refine z [23,23,23,37,31,1] ?_
   exact sj (hj2 _) eI
 intro s3
 refine z [8] ?_
 exact rt []
theorem Qym{x0}:∀ r,Qfr x0=some r->FnOk Tryz.prog 186 [Kl x0] [] (bl r) []:=by
 unfold Qfr
 refine fs Tryz.func186 fun w S0 γ hγ=>?_
 refine z [2] ?_
 refine o (bx' 100) ?_
 refine z [31,1] ?_
 refine sjq (fun s7=>[(2,bl s7)]) (fun s7=>[]) ?_ ?_
 · intro j5 hj6
   refine z [6,33,36,49] ?_
   refine cb (ca Qdu) fun r8=>?_
   refine z [30] ?_
   refine sifd 7 rfl ?_ ?_
   · refine z [22,22] ?_
     refine b fun r10 h11=>?_
     refine og' (c0 (Qdu _ h11)) ?_
     refine z [38,30] ?_
     refine sifd 12 rfl ?_ ?_
     · refine z [22,22,22,22,22,22,38,30] ?_
       refine sifd 20 rfl ?_ ?_
       · refine z [22,22,22,22,38,31,1] ?_
         exact sj (hj6 _) (eR [])
       refine z [23,23,23,23,37,31,1] ?_
       exact sj (hj6 _) (eR [])
     refine z [23,23,23,23,23,23,37,30,23,23,23,23,37,31,1] ?_
     exact sj (hj6 _) (eR [])
   refine z [23,23,23,37,30,23,23,23,23,23,23,37,30,23,23,23,23,37,31,1] ?_
   exact sj (hj6 _) (eR [])
 intro s7
 refine z [8] ?_
 exact rt []
theorem Qwa{x0}:∀ r,Qhd x0=some r->FnOk Tryz.prog 227 [Kz x0] [] (Qi9 r) []:=by
 unfold Qhd
 refine fs Tryz.func227 fun w S0 γ hγ=>?_
 refine z [2] ?_
 refine o (bx' 100) ?_
 refine o (al' 101) ?_
 refine z [1,2,33,36,33,36,33,36] ?_
 refine s1 (bld (l:=[i64 x0.Op,i64 x0.A,i64 x0.B]) Qx9.h Qqi.h Qfa ⟨_,_,_,rfl,rfl,rfl,rfl,(szk (k:=1) rfl rfl),⟨_,_,_,rfl,rfl,rfl,rfl,(szk (k:=1) rfl rfl),⟨_,_,_,rfl,rfl,rfl,rfl,(szk (k:=1) rfl rfl),rfl⟩⟩⟩ rfl) ?_
 refine z [34,1,8] ?_
 exact rt []
theorem Qyn{x0}:∀ r,Qfs x0=some r->FnOk Tryz.prog 228 [Qd x0] [] (bl r) []:=by
 unfold Qfs
 refine fs Tryz.func228 fun w S0 γ hγ=>?_
 refine z [2] ?_
 refine o (bx' 100) ?_
 refine z [31,1] ?_
 refine sjq (fun s3=>[(2,bl s3)]) (fun s3=>[]) ?_ ?_
 · intro j1 hj2
   refine z [6,33,45,36,44,30] ?_
   refine sifd 7 rfl ?_ ?_
   · refine z [22,22,22,22,22,38,30] ?_
     refine sifd 14 rfl ?_ ?_
     · refine z [22,22,22,22,38,31,1] ?_
       exact sj (hj2 _) (eR [])
     refine z [23,23,23,23,37,31,1] ?_
     exact sj (hj2 _) (eR [])
   refine z [23,23,23,23,23,37,30,23,23,23,23,37,31,1] ?_
   exact sj (hj2 _) (eR [])
 intro s3
 refine z [8] ?_
 exact rt []
theorem Qqp{x0}:∀ r,Qdp x0=some r->FnOk Tryz.prog 229 [Kz x0] [] (sli 1 (List.map i64 r)) []:=by
 unfold Qdp
 refine fs Tryz.func229 fun w S0 γ hγ=>?_
 refine z [2] ?_
 refine o (bx' 100) ?_
 refine s1 (asg rfl (kLm (k:=1) i64)) ?_
 refine z [1,5,2,33,36,1,7] ?_
 refine sjq (fun s3=>[(1,.own 100),(2,sli 1 (List.map i64 ([]:List Int))),(4,i64 x0.Op),(5,bl s3)]) (fun s3=>[(100,.bx 95 (Kz x0))]) ?_ ?_
 · intro j1 hj2
   refine z [2,41,31,1] ?_
   refine c ?_ ?_
   · refine z [9,4] ?_
     exact sj (hj2 _) (eR [(100,100)])
   refine z [6,41,31,1] ?_
   exact sj (hj2 _) (eR [(100,100)])
 intro s3
 refine c ?_ ?_
 · refine z [2,33,36] ?_
   refine so (bsl (y:=101) (ls:=List.map i64 ([x0.A]:List Int)) Tryz.underlying23 ti_3.h rfl rfl rfl rfl rfl ⟨rfl,rfl,(by exact rfl),(by exact rfl),trivial⟩ rfl rfl) ?_
   refine z [31,1,8,12,10] ?_
   refine fz 101 [2,10] [] ?_
   exact rt []
 refine sjq (fun s6=>[(1,.own 100),(2,sli 1 (List.map i64 ([]:List Int))),(11,bl s6)]) (fun s6=>[(100,.bx 95 (Kz x0))]) ?_ ?_
 · intro j4 hj5
   refine z [2,41,31,1] ?_
   refine c ?_ ?_
   · refine z [9,4] ?_
     exact sj (hj5 _) (eR [(100,100)])
   refine z [2,41,31,1] ?_
   refine c ?_ ?_
   · refine z [9,4] ?_
     exact sj (hj5 _) (eR [(100,100)])
   refine z [2,41,31,1] ?_
   refine c ?_ ?_
   · refine z [9,4] ?_
     exact sj (hj5 _) (eR [(100,100)])
   refine z [6,41,31,1] ?_
   exact sj (hj5 _) (eR [(100,100)])
 intro s6
 refine c ?_ ?_
 · refine z [2,33,36,33,36] ?_
   refine so (bsl (y:=101) (ls:=List.map i64 ([x0.A,x0.B]:List Int)) Tryz.underlying23 ti_3.h rfl rfl rfl rfl rfl ⟨rfl,rfl,(by exact rfl),(by exact rfl),rfl,rfl,(by exact rfl),(by exact rfl),trivial⟩ rfl rfl) ?_
   refine z [31,1,8,12,10] ?_
   refine fz 101 [2,20] [] ?_
   exact rt []
 refine z [9,11,4,2] ?_
 refine s1 (asg rfl (kLm (k:=1) i64)) ?_
 refine z [1,8] ?_
 exact rt []
theorem Q1f{n:Nat}{x0}{x1}:∀ r,Qf3 n x0 x1=some r->FnOk Tryz.prog 187 [Kl x0,i64 x1] [] (bl r) []:=by
 unfold Qf3
 refine fs Tryz.func187 fun w S0 γ hγ=>?_
 refine z [2] ?_
 refine o (bx' 100) ?_
 refine z [31,1,2,33,36,30] ?_
 refine b fun y1 h2=>?_
 refine z [43,42] ?_
 refine o (al' 101) ?_
 refine z [34,1,5,2,33,36,41,1] ?_
 refine c ?_ ?_
 · refine sjq (fun s9=>[(1,i64 x1),(2,.own 100),(4,bl s9),(5,.own 101)]) (fun s9=>[(100,.bx 55 (Kl x0)),(101,.bx 95 (Kz y1))]) ?_ ?_
   · intro j7 hj8
     refine z [6,32] ?_
     refine cb (ca Qwa) fun r10=>?_
     refine s1 (bld (l:=[i64 (1:Int),i64 0,i64 0]) Qx9.h Qqi.h Qfa ⟨_,_,_,(kI (x:=1) rfl),rfl,rfl,rfl,(szk (k:=1) rfl rfl),rfl⟩ rfl) ?_
     refine s1 (eqA (p:=(r10:J4)) (q:=((⟨(1:Int),0,0⟩:J4):J4)) Qya rfl Q2i rfl rfl rfl) ?_
     refine z [30] ?_
     refine sifd 20 rfl ?_ ?_
     · refine z [22,22] ?_
       refine b fun r12 h13=>?_
       refine og' (c0 (Qqo _ h13)) ?_
       refine z [38,31,1] ?_
       exact sj (hj8 _) (eR [(100,100),(101,101)])
     refine z [23,23,23,37,31,1] ?_
     exact sj (hj8 _) (eR [(100,100),(101,101)])
   intro s9
   refine z [8,10] ?_
   exact rt []
 refine z [9,4,5,2,33,36] ?_
 refine cb (ca Qyn) fun r14=>?_
 refine z [44,1] ?_
 refine c ?_ ?_
 · refine z [2,31,1,8,10] ?_
   exact rt []
 refine z [9,4,5,2,32] ?_
 refine cb (ca Qqp) fun r16=>?_
 refine z [39,30,1,7] ?_
 refine srN (fun s25=>[(1,i64 x1),(2,.own 100),(4,bl false),(5,.own 101),(30,sli 1 (List.map i64 r16))]) (fun s25=>[(100,.bx 55 (Kl x0)),(101,.bx 95 (Kz y1))]) (rE (eR [(100,100),(101,101)])) ?_ ?_
 · intro i26 x27 s25 hx28
   refine z [7,2,43,42,31,1,2,30,30] ?_
   refine cb (ca Qdu) fun r29=>?_
   refine z [44,1] ?_
   refine c ?_ ?_
   · refine z [2,31,1,8,12] ?_
     refine sU ?_
     refine z [12,10] ?_
     exact rt []
   refine z [9,11] ?_
   exact sgo (eR [(100,100),(101,101)])
 intro s31
 refine z [13,4,5,2,33,36,1,7,2,41,31,1] ?_
 refine c ?_ ?_
 · refine z [2,32] ?_
   refine cb (ca Qwa) fun r32=>?_
   refine s1 (bld (l:=[i64 (2:Int),i64 0,i64 0]) Qx9.h Qqi.h Qfa ⟨_,_,_,(kI (x:=2) rfl),rfl,rfl,rfl,(szk (k:=1) rfl rfl),rfl⟩ rfl) ?_
   refine s1 (eqA (p:=(r32:J4)) (q:=((⟨(2:Int),0,0⟩:J4):J4)) Qya rfl Q2i rfl rfl rfl) ?_
   refine z [31,1,8,12,10] ?_
   exact rt []
 refine z [2,41,31,1] ?_
 refine c ?_ ?_
 · refine sjq (fun s38=>[(4,bl s38),(5,.own 101)]) (fun s38=>[(101,.bx 95 (Kz y1))]) ?_ ?_
   · intro j36 hj37
     refine z [6,33,36,33,36] ?_
     refine cb (ca Qdu) fun r39=>?_
     refine z [30] ?_
     refine sifd 56 rfl ?_ ?_
     · refine z [22,22,22,38,31,1] ?_
       exact sj (hj37 _) (eR [(101,101)])
     refine z [23,23,23,37,31,1] ?_
     exact sj (hj37 _) (eR [(101,101)])
   intro s38
   refine z [8,12,10] ?_
   exact rt []
 refine z [2,41,31,1] ?_
 refine c ?_ ?_
 · refine sjq (fun s45=>[(4,bl s45),(5,.own 101)]) (fun s45=>[(101,.bx 95 (Kz y1))]) ?_ ?_
   · intro j43 hj44
     refine z [6,33,36,33,36] ?_
     refine cb (ca Qdu) fun r46=>?_
     refine z [30] ?_
     refine sifd 68 rfl ?_ ?_
     · refine z [22,22,22,38,31,1] ?_
       exact sj (hj44 _) (eR [(101,101)])
     refine z [23,23,23,37,31,1] ?_
     exact sj (hj44 _) (eR [(101,101)])
   intro s45
   refine z [8,12,10] ?_
   exact rt []
 refine z [2,41,31,1] ?_
 refine c ?_ ?_
 · refine z [2,33,36,41,31,1,8,12,10] ?_
   exact rt []
 refine z [2,41,31,1] ?_
 refine c ?_ ?_
 · refine sjq (fun s50=>[(4,bl s50),(5,.own 101)]) (fun s50=>[(101,.bx 95 (Kz y1))]) ?_ ?_
   · intro j48 hj49
     refine z [6,33,36,57,30] ?_
     refine sifd 83 rfl ?_ ?_
     · refine z [22,22,22,38,31,1] ?_
       exact sj (hj49 _) (eR [(101,101)])
     refine z [23,23,23,37,31,1] ?_
     exact sj (hj49 _) (eR [(101,101)])
   intro s50
   refine z [8,12,10] ?_
   exact rt []
 refine z [9,11,4,2,32] ?_
 refine cb (ca Qqp) fun r51=>?_
 refine z [39,41,31,1,8] ?_
 exact rt []
theorem Qyo{n:Nat}{x0}:∀ r,Qh0 n x0=some r->FnOk Tryz.prog 139 [Kl x0] [] (i64 r) []:=by
 unfold Qh0
 refine fs Tryz.func139 fun w S0 γ hγ=>?_
 refine z [2] ?_
 refine o (bx' 100) ?_
 refine z [31,1,5,2,32] ?_
 refine cb (ca Qym) fun r1=>?_
 refine z [44,1] ?_
 refine c ?_ ?_
 · refine z [2,31,1,8,10] ?_
   exact rt []
 refine z [9,4,5,2,33,36,39,30,1,7] ?_
 refine srN (fun s10=>[(1,.own 100),(2,i64 (0:Int))]) (fun s10=>[(100,.bx 55 (Kl x0))]) (rE (eR [(100,100)])) ?_ ?_
 · intro i11 x12 s10 hx13
   refine z [7,2,30,31,1,2,32,30] ?_
   refine cb (ca Q1f) fun r14=>?_
   refine z [44,1] ?_
   refine c ?_ ?_
   · refine z [2,30,31,1,8,12] ?_
     refine sU ?_
     refine z [12,10] ?_
     exact rt []
   refine z [9,11] ?_
   exact sgo (eR [(100,100)])
 intro s16
 refine z [13,4,5,2,33,36,39,30,1,7] ?_
 refine srN (fun s24=>[(1,.own 100),(2,i64 (0:Int)),(22,sli 1 (List.map i64 x0.Outs))]) (fun s24=>[(100,.bx 55 (Kl x0))]) (rE (eR [(100,100)])) ?_ ?_
 · intro i25 x26 s24 hx27
   refine z [7,2,43,42,31,1,2,30,33,36,39] ?_
   refine cb (ca Qdu) fun r28=>?_
   refine z [44,1] ?_
   refine c ?_ ?_
   · refine z [2,33,36,39,31,1,8,12] ?_
     refine sU ?_
     refine z [12,10] ?_
     exact rt []
   refine z [9,11] ?_
   exact sgo (eR [(100,100)])
 intro s30
 refine z [13,4,2,31,1,8] ?_
 exact rt []
theorem Qlq{n:Nat}{x0}:∀ r,Z7 n x0=some r->FnOk Tryz.prog 80 [Kl x0] [] (bl r) []:=by
 unfold Z7
 refine fs Tryz.func80 fun w S0 γ hγ=>?_
 refine z [2] ?_
 refine o (bx' 100) ?_
 refine z [31,1,2,32] ?_
 refine cb (ca Qyo) fun r1=>?_
 refine z [41,31,1,8] ?_
 exact rt []
theorem Qnx{n:Nat}{x0}:∀ r,Qby n x0=some r->FnOk Tryz.prog 81 [Jh x0] [] (bl r) []:=by
 unfold Qby
 refine fs Tryz.func81 fun w S0 γ hγ=>?_
 refine z [2] ?_
 refine o (bx' 100) ?_
 refine z [31,1,2,32] ?_
 refine cb (ca Qnw) fun r1=>?_
 refine z [41,31,1,8] ?_
 exact rt []
theorem Qlr{n:Nat}{x0}:∀ r,Qa8 n x0=some r->FnOk Tryz.prog 41 [Qz x0] [] (bl r) []:=by
 unfold Qa8
 refine fs Tryz.func41 fun w S0 γ hγ=>?_
 refine z [2] ?_
 refine o (bx' 100) ?_
 refine z [31,1] ?_
 refine sjq (fun s7=>[(2,bl s7)]) (fun s7=>[]) ?_ ?_
 · intro j5 hj6
   refine z [6,33,36] ?_
   refine cb (ca Qlq) fun r8=>?_
   refine z [30] ?_
   refine sifd 6 rfl ?_ ?_
   · refine z [22,22] ?_
     refine b fun r10 h11=>?_
     refine og' (c0 (Qnx _ h11)) ?_
     refine z [38,30] ?_
     refine sifd 11 rfl ?_ ?_
     · refine z [22,22,22,22,22,22,22,38,31,1] ?_
       exact sj (hj6 _) (eR [])
     refine z [23,23,23,23,23,23,23,37,31,1] ?_
     exact sj (hj6 _) (eR [])
   refine z [23,23,23,37,30,23,23,23,23,23,23,23,37,31,1] ?_
   exact sj (hj6 _) (eR [])
 intro s7
 refine z [8] ?_
 exact rt []
theorem Qne{n:Nat}{x0}:∀ r,Qbs n x0=some r->FnOk Tryz.prog 82 [Qd x0] [] (i64 r) []:=by
 unfold Qbs
 refine fs Tryz.func82 fun w S0 γ hγ=>?_
 refine z [2] ?_
 refine o (bx' 100) ?_
 refine z [31,1,2,32] ?_
 refine cb (ca Xp) fun r1=>?_
 refine z [30,35,35] ?_
 refine o (al' 101) ?_
 refine z [34,31,1,2,32] ?_
 refine cb (ca Qie) fun r3=>?_
 refine z [31,1,8] ?_
 exact rt []
theorem Qr7{n:Nat}{x0}:∀ r,Qe6 n x0=some r->FnOk Tryz.prog 42 [sli 3 (List.map Qd x0)] [] (bl r) []:=by
 unfold Qe6
 refine fs Tryz.func42 fun w S0 γ hγ=>?_
 refine z [2,31,1,5,2,30,39,30,1,7] ?_
 refine srN (fun s8=>[(0,sli 3 (List.map Qd x0)),(2,bl false),(5,sli 3 (List.map Qd x0))]) (fun s8=>[]) (rE eI) ?_ ?_
 · intro i9 x10 s8 hx11
   refine z [7,2,43,42] ?_
   refine o (al' 100) ?_
   refine z [34,1,2,32] ?_
   refine cb (ca Qne) fun r12=>?_
   refine z [58,1] ?_
   refine c ?_ ?_
   · refine z [2,31,1,8,12] ?_
     refine sU ?_
     refine z [12,10] ?_
     exact rt []
   refine z [9,11] ?_
   exact sgo (eR [])
 intro s14
 refine z [13,4,2,30,39,58,31,1,8] ?_
 exact rt []
theorem Qkz{n:Nat}{x0}{x1}:∀ r,Qbo n x0 x1=some r->FnOk Tryz.prog 85 [Qd x0,Qd x1] [] (Qd r) []:=by
 unfold Qbo
 refine fs Tryz.func85 fun w S0 γ hγ=>?_
 refine z [2] ?_
 refine o (bx' 100) ?_
 refine o (bx' 101) ?_
 refine o (al' 102) ?_
 refine z [1,2,32] ?_
 refine cb (ca Xp) fun r1=>?_
 refine z [30,35,35] ?_
 refine o (al' 103) ?_
 refine z [34,31,1,2,32] ?_
 refine cb (ca Xp) fun r3=>?_
 refine z [30,35,35] ?_
 refine o (al' 104) ?_
 refine z [34,31,1,2,32,32] ?_
 refine cb (ca Qr3) fun r5=>?_
 refine z [30,30] ?_
 refine cb (ca Qcx) fun r7=>?_
 refine cb (ca Qck) fun r9=>?_
 refine z [34,1,8] ?_
 exact rt []
theorem Qju{n:Nat}{x0}{x1}:∀ r,Qbv n x0 x1=some r->FnOk Tryz.prog 44 [Qd x0,sli 3 (List.map Qd x1)] [] (sli 3 (List.map Qd r)) []:=by
 unfold Qbv
 refine fs Tryz.func44 fun w S0 γ hγ=>?_
 refine z [2] ?_
 refine o (bx' 100) ?_
 refine s1 (asg rfl (kLm (k:=3) Qd)) ?_
 refine z [1,2] ?_
 refine so (asgN (y:=101) (E:=45) (k:=3) rfl rfl) ?_
 refine z [1,5,2,30,39,30,1,7] ?_
 refine srN (fun s18=>[(2,.own 100),(4,sli 3 (List.map Qd ([]:List Qc))),(5,.own 101),(8,sli 3 (List.map Qd x1))]) (fun s18=>[(100,.bx 45 (Qd x0)),(101,.sl 45 3 (List.map Qd s18))]) (rE (eR [(100,100),(101,101)])) ?_ ?_
 · intro i19 x20 s18 hx21
   refine z [7,2,43,42] ?_
   refine o (al' 102) ?_
   refine z [34,1,6,30,32,32] ?_
   refine cb (ca Qkz) fun r22=>?_
   refine so (bsl (y:=103) (ls:=List.map Qd ([r22]:List Qc)) Tryz.underlying46 ti_45.h rfl rfl rfl rfl rfl ⟨rfl,rfl,(by exact rfl),(by exact rfl),trivial⟩ rfl rfl) ?_
   refine b fun y24 h25=>?_
   refine o (app' 104) ?_
   refine z [31,3,11] ?_
   exact sgo (eR [(100,100),(101,104)])
 intro s26
 refine z [13,4,2,30,31,1,8] ?_
 refine fz 101 [4,5,21] [] ?_
 exact rt []
theorem Qr8{x0}:∀ r,Qe2 x0=some r->FnOk Tryz.prog 86 [i64 x0] [] (.own 50) [(50,.bx 226 (Qo r))]:=by
 unfold Qe2
 refine fs Tryz.func86 fun w S0 γ hγ=>?_
 refine z [2,31,1,2,30,88,89] ?_
 refine s1 (bld (l:=[Qke (⟨0,0⟩:Zi),i64 (min (max x0 (0:Int)) (4096:Int))]) Q6u.h Q6t.h Qur ⟨_,_,_,rfl,rfl,rfl,rfl,(szk (k:=1) rfl rfl),rfl⟩ rfl) ?_
 refine o (bx' 100) ?_
 refine z [31,1,8] ?_
 exact rt [(50,100)]
theorem Q1g{n:Nat}{x0}:∀ r,Qf2 n x0=some r->FnOk Tryz.prog 240 [i64 x0] [] (.own 50) [(50,.sl 45 3 (List.map Qd r))]:=by
 unfold Qf2
 refine fs Tryz.func240 fun w S0 γ hγ=>?_
 refine z [2] ?_
 refine s1 (asg rfl (kLm (k:=3) Qd)) ?_
 refine z [1,2,30,88,89,31,1,2,30] ?_
 refine b fun y1 h2=>?_
 refine so (mks (y:=100) (f:=Qd) h2 Tryz.underlying46 ti_45.h K2 rfl rfl rfl rfl rfl rfl) ?_
 refine z [31,1,5,2,30,30,1,7] ?_
 refine sloopE 0 (fun t=>t) (fun s15=>[(2,sli 3 (List.map Qd ([]:List Qc))),(3,.own 100),(10,i64 (min (max x0 (0:Int)) (300:Int))),(11,i64 s15.2)]) (fun s15=>[(100,.sl 45 3 (List.map Qd s15.1))]) (fun t13=>[(2,sli 3 (List.map Qd ([]:List Qc))),(3,.own 100)]) (fun t13=>[(100,.sl 45 3 (List.map Qd t13))]) (eR [(100,100)]) ?_ ?_
 · intro hj14 s15
   refine z [2,46,1,5] ?_
   refine c ?_ ?_
   · refine z [9,4,5,7,2,30,31,1,6,30,30] ?_
     refine cb (ca Vv) fun r16=>?_
     refine b fun y18 h19=>?_
     refine z [50,53,3,11,4,6,40,30,3] ?_
     exact sgo (eR [(100,100)])
   refine z [14,15] ?_
   exact su (sj (hj14 _) (eR [(100,100)]))
 intro t13
 refine z [13,4,2,30,31,1,8] ?_
 exact rt [(50,100)]
theorem Qyp{n:Nat}{x0}{x1}{x2}:∀ r,Qhy n x0 x1 x2=some r->FnOk Tryz.prog 198 [sli 3 (List.map Qd x0),.own 0,i64 x2] [(0,.sl 46 1 (List.map Qi x1))] (.tup [sli 3 (List.map Qd r.1),bl r.2]) [(0,.sl 46 1 (List.map Qi x1))]:=by
 unfold Qhy
 refine fs Tryz.func198 fun w S0 γ hγ=>?_
 refine z [2] ?_
 refine s1 (asg rfl (kLm (k:=3) Qd)) ?_
 refine z [31,1,5] ?_
 refine sjq (fun s3=>[(0,sli 3 (List.map Qd x0)),(1,.own 0),(2,i64 x2),(6,sli 3 (List.map Qd ([]:List Qc))),(7,bl false),(27,bl s3)]) (fun s3=>[(0,.sl 46 1 (List.map Qi x1))]) ?_ ?_
 · intro j1 hj2
   refine z [6,30,39,30,55,56,30] ?_
   refine sifd 20 rfl ?_ ?_
   · refine z [23,23,38,30,23,23,38,1] ?_
     exact sj (hj2 _) (eR [(0,0)])
   refine z [22,22,37,30] ?_
   refine sifd 24 rfl ?_ ?_
   · refine z [23,23,38,1] ?_
     exact sj (hj2 _) (eR [(0,0)])
   refine z [22,22,37,1] ?_
   exact sj (hj2 _) (eR [(0,0)])
 intro s3
 refine c ?_ ?_
 · refine z [2] ?_
   refine s1 (asg rfl (kLm (k:=3) Qd)) ?_
   refine z [31,1,8,10] ?_
   exact rt [(0,0)]
 refine z [9,4,5,2,30,55,30,1,7] ?_
 refine srN (fun s9=>[(0,sli 3 (List.map Qd x0)),(1,.own 0),(2,i64 x2),(6,sli 3 (List.map Qd ([]:List Qc))),(7,bl false),(28,.own 0)]) (fun s9=>[(0,.sl 46 1 (List.map Qi x1))]) (rE (eR [(0,0)])) ?_ ?_
 · intro i10 x11 s9 hx12
   refine z [7,2,50,51,31,1,2,30,39,30,56,1] ?_
   refine c ?_ ?_
   · refine z [2] ?_
     refine s1 (asg rfl (kLm (k:=3) Qd)) ?_
     refine z [31,1,8,12] ?_
     refine sU ?_
     refine z [12,10] ?_
     exact rt [(0,0)]
   refine z [9,11] ?_
   exact sgo (eR [(0,0)])
 intro s13
 refine z [13,4,2,30] ?_
 refine b fun r14 h15=>?_
 refine o (cG (Q1g _ h15) [] [(100,50)] []) ?_
 refine z [31,1,5,2,30,55,30,1,7] ?_
 refine srN (fun s107=>[(0,sli 3 (List.map Qd x0)),(6,sli 3 (List.map Qd ([]:List Qc))),(7,bl false),(10,.own 100),(41,.own 0)]) (fun s107=>[(0,.sl 46 1 (List.map Qi x1)),(100,.sl 45 3 (List.map Qd s107))]) (rE (eR [(0,0),(100,100)])) ?_ ?_
 · intro i108 x109 s107 hx110
   refine z [7,2,30,50,51,31,31,1,5,2,30,30] ?_
   refine b fun y111 h112=>?_
   refine z [43,42] ?_
   refine cb (ca Qne) fun r113=>?_
   refine z [41,1] ?_
   refine c ?_ ?_
   · refine z [14,15,13] ?_
     exact sgo (eR [(0,0),(100,100)])
   refine z [9,4,2,30,39,30,1,7] ?_
   refine srN (fun s130=>[(0,sli 3 (List.map Qd x0)),(6,sli 3 (List.map Qd ([]:List Qc))),(7,bl false),(10,.own 100),(11,i64 (i108:Int)),(41,.own 0),(42,i64 (x1.length:Int)),(43,i64 (i108:Int)),(54,sli 3 (List.map Qd x109))]) (fun s130=>[(0,.sl 46 1 (List.map Qi x1)),(100,.sl 45 3 (List.map Qd s130))]) (rE (eR [(0,0),(100,100)])) ?_ ?_
   · intro i131 x132 s130 hx133
     refine z [7,2,30,43,42] ?_
     refine o (al' 101) ?_
     refine z [31,34,1] ?_
     refine b fun y134 h135=>?_
     refine b fun y136 h137=>?_
     refine b fun r138 h139=>?_
     refine b fun r140 h141=>?_
     refine b fun y142 h143=>?_
     refine sd ?_
     refine zd [[],[],[],[]] ?_
     refine dx [63,64] [100] (fun st mm ⟨a63,a64,_⟩ ⟨g100,_⟩=>og (ixO (f:=Qd) (g100.trans rfl) Tryz.underlying46 ti_45.h h135 rfl (a63.trans rfl) (a64.trans rfl))) ?_
     refine dx [65] [100] (fun st mm ⟨a65,_⟩ ⟨g100,_⟩=>og (ldO (f:=Qd) [] (g100.trans rfl) (Qah h135) (by exact rfl) off0 sh_45.h (by exact rfl) (by exact rfl) rfl (a65.trans rfl))) ?_
     refine zd [[],[],[],[],[101]] ?_
     refine dd [] (fun _ _ _ _=>c0 (Qkz _ h139)) ?_
     refine dd [] (fun _ _ _ _=>c0 (Qej _ h141)) ?_
     refine dx [61,62] [100] (fun st mm ⟨a61,a62,_⟩ ⟨g100,_⟩=>og (ixO (f:=Qd) (g100.trans rfl) Tryz.underlying46 ti_45.h h143 rfl (a61.trans rfl) (a62.trans rfl))) ?_
     refine dx [74,73] [100] (fun st mm ⟨a74,a73,_⟩ ⟨g100,_⟩=>og (stO (f:=Qd) r140 [] (g100.trans rfl) (Qah h143) (by exact rfl) off0 (by exact rfl) (by exact rfl) sh_45.h (by exact rfl) (by exact rfl) (by exact rfl) (a74.trans rfl) (a73.trans rfl))) ?_
     refine de fol ?_
     refine z [11] ?_
     exact sgo (eR [(0,0),(100,100)])
   intro s144
   refine z [13,11] ?_
   exact sgo (eR [(0,0),(100,100)])
 intro s145
 refine z [13,4,2,30,31,31,1,8] ?_
 refine fz 100 [6,10,77] [] ?_
 exact rt [(0,0)]
theorem Qgo{n:Nat}{x0_p}{x0_t}{x0_h}{x0_y}{x0_g}{x0_out_Ys}{x0_out_Ks}{x0_out_Next}{x0_out_Err}{x1}:∀ r,K9 n x0_p x0_t x0_h x0_y x0_g x0_out_Ys x0_out_Ks x0_out_Next x0_out_Err x1=some r->FnOk Tryz.prog 148 [.own 0,sli 3 (List.map Qd x1)] [(0,.bx 164 (.agg [Qz x0_p,Qd x0_t,Qd x0_h,sli 3 (List.map Qd x0_y),.own 1,.agg [.own 2,.own 3,sli 3 (List.map Qd x0_out_Next),sli 3 (List.map Qd x0_out_Err)]])),(1,.bx 226 (Qo x0_g)),(2,.sl 46 1 (List.map Qi x0_out_Ys)),(3,.sl 46 1 (List.map Qi x0_out_Ks))] (sli 3 (List.map Qd r)) [(0,.bx 164 (.agg [Qz x0_p,Qd x0_t,Qd x0_h,sli 3 (List.map Qd x0_y),.own 1,.agg [.own 2,.own 3,sli 3 (List.map Qd x0_out_Next),sli 3 (List.map Qd x0_out_Err)]])),(1,.bx 226 (Qo x0_g)),(2,.sl 46 1 (List.map Qi x0_out_Ys)),(3,.sl 46 1 (List.map Qi x0_out_Ks))]:=by
 unfold K9
 refine fs Tryz.func148 fun w S0 γ hγ=>?_
 refine z [2] ?_
 refine s1 (asg rfl (kLm (k:=3) Qd)) ?_
 refine z [1,5] ?_
 refine b fun r1 h2=>?_
 refine sd ?_
 refine zd [[],[],[0],[0],[],[0],[],[0],[0],[0],[]] ?_
 refine dd [3] (fun _ _ _ _=>cG (Qyp _ h2) [3] [] [3]) ?_
 refine zd [[],[],[],[],[]] ?_
 refine de fol ?_
 refine z [4,2,30,48,33,36,30] ?_
 refine cb (ca Qju) fun r3=>?_
 refine z [31,1,8] ?_
 exact rt [(0,0),(1,1),(2,2),(3,3)]
theorem Q1h{n:Nat}{x0}:∀ r,Qhz n x0=some r->FnOk Tryz.prog 238 [sli 3 (List.map Qd x0)] [] (.own 50) [(50,.sl 45 3 (List.map Qd r))]:=by
 unfold Qhz
 refine fs Tryz.func238 fun w S0 γ hγ=>?_
 refine z [2] ?_
 refine s1 (asg rfl (kLm (k:=3) Qd)) ?_
 refine z [1,2] ?_
 refine so (asgN (y:=100) (E:=45) (k:=3) rfl rfl) ?_
 refine z [1,5,2,30,39,30,1,7] ?_
 refine srN (fun s18=>[(2,sli 3 (List.map Qd ([]:List Qc))),(3,.own 100),(6,sli 3 (List.map Qd x0))]) (fun s18=>[(100,.sl 45 3 (List.map Qd s18))]) (rE (eR [(100,100)])) ?_ ?_
 · intro i19 x20 s18 hx21
   refine z [7,2,43,42] ?_
   refine o (al' 101) ?_
   refine z [34,1,6,30,32] ?_
   refine cb (ca Wh) fun r22=>?_
   refine so (bsl (y:=102) (ls:=List.map Qd ([r22]:List Qc)) Tryz.underlying46 ti_45.h rfl rfl rfl rfl rfl ⟨rfl,rfl,(by exact rfl),(by exact rfl),trivial⟩ rfl rfl) ?_
   refine b fun y24 h25=>?_
   refine o (app' 103) ?_
   refine z [31,3,11] ?_
   exact sgo (eR [(100,103)])
 intro s26
 refine z [13,4,2,30,31,1,8] ?_
 exact rt [(50,100)]
theorem Qwb{n:Nat}{x0}:∀ r,Qhc n x0=some r->FnOk Tryz.prog 195 [sli 1 (List.map Qi x0)] [] (.tup [sli 3 (List.map Qd r.1),bl r.2]) []:=by
 unfold Qhc
 refine fs Tryz.func195 fun w S0 γ hγ=>?_
 refine z [2] ?_
 refine s1 (asg rfl (kLm (k:=3) Qd)) ?_
 refine z [31,1,5,2,30,39,41,1] ?_
 refine c ?_ ?_
 · refine z [2] ?_
   refine s1 (asg rfl (kLm (k:=3) Qd)) ?_
   refine z [31,1,8,10] ?_
   exact rt []
 refine z [9,4,2,30] ?_
 refine b fun y1 h2=>?_
 refine z [43,42] ?_
 refine b fun r3 h4=>?_
 refine o (cG (Q1h _ h4) [] [(100,50)] []) ?_
 refine z [31,1,5,2,30] ?_
 refine b fun y5 h6=>?_
 refine s1 (slR (f:=Qi) h6 Tryz.underlying56 ti_46.h rfl rfl (bnd (kI (x:=1) rfl)) bnd0) ?_
 refine z [39,30,1,7] ?_
 refine srN (fun s70=>[(2,sli 3 (List.map Qd ([]:List Qc))),(3,bl false),(4,.own 100),(17,sli 1 (List.map Qi y5))]) (fun s70=>[(100,.sl 45 3 (List.map Qd s70))]) (rE (eR [(100,100)])) ?_ ?_
 · intro i71 x72 s70 hx73
   refine z [7,2,43,42,31,1,5,2,30,39,30,55,56,1] ?_
   refine c ?_ ?_
   · refine z [2] ?_
     refine s1 (asg rfl (kLm (k:=3) Qd)) ?_
     refine z [31,1,8,10,12] ?_
     refine sU ?_
     refine z [12,10] ?_
     exact rt []
   refine z [9,4,2,30,39,30,1,7] ?_
   refine srN (fun s85=>[(2,sli 3 (List.map Qd ([]:List Qc))),(3,bl false),(4,.own 100),(17,sli 1 (List.map Qi y5)),(18,i64 (y5.length:Int)),(19,i64 (i71:Int)),(28,sli 3 (List.map Qd x72))]) (fun s85=>[(100,.sl 45 3 (List.map Qd s85))]) (rE (eR [(100,100)])) ?_ ?_
   · intro i86 x87 s85 hx88
     refine z [7,2,30,43,42] ?_
     refine o (al' 101) ?_
     refine z [31,34,1] ?_
     refine b fun y89 h90=>?_
     refine b fun r91 h92=>?_
     refine b fun y93 h94=>?_
     refine sd ?_
     refine zd [[],[],[],[]] ?_
     refine dx [37,38] [100] (fun st mm ⟨a37,a38,_⟩ ⟨g100,_⟩=>og (ixO (f:=Qd) (g100.trans rfl) Tryz.underlying46 ti_45.h h90 rfl (a37.trans rfl) (a38.trans rfl))) ?_
     refine dx [39] [100] (fun st mm ⟨a39,_⟩ ⟨g100,_⟩=>og (ldO (f:=Qd) [] (g100.trans rfl) (Qah h90) (by exact rfl) off0 sh_45.h (by exact rfl) (by exact rfl) rfl (a39.trans rfl))) ?_
     refine zd [[101]] ?_
     refine dd [] (fun _ _ _ _=>c0 (Qej _ h92)) ?_
     refine dx [35,36] [100] (fun st mm ⟨a35,a36,_⟩ ⟨g100,_⟩=>og (ixO (f:=Qd) (g100.trans rfl) Tryz.underlying46 ti_45.h h94 rfl (a35.trans rfl) (a36.trans rfl))) ?_
     refine dx [43,42] [100] (fun st mm ⟨a43,a42,_⟩ ⟨g100,_⟩=>og (stO (f:=Qd) r91 [] (g100.trans rfl) (Qah h94) (by exact rfl) off0 (by exact rfl) (by exact rfl) sh_45.h (by exact rfl) (by exact rfl) (by exact rfl) (a43.trans rfl) (a42.trans rfl))) ?_
     refine de fol ?_
     refine z [11] ?_
     exact sgo (eR [(100,100)])
   intro s95
   refine z [13,11] ?_
   exact sgo (eR [(100,100)])
 intro s96
 refine z [13,4,2,30,31,31,1,8] ?_
 refine fz 100 [2,4,46] [] ?_
 exact rt []
theorem Qif{n:Nat}{x0_p}{x0_t}{x0_h}{x0_y}{x0_g}{x0_out_Ys}{x0_out_Ks}{x0_out_Next}{x0_out_Err}{x1}:∀ r,Xl n x0_p x0_t x0_h x0_y x0_g x0_out_Ys x0_out_Ks x0_out_Next x0_out_Err x1=some r->FnOk Tryz.prog 145 [.own 0,sli 3 (List.map Qd x1)] [(0,.bx 164 (.agg [Qz x0_p,Qd x0_t,Qd x0_h,sli 3 (List.map Qd x0_y),.own 1,.agg [.own 2,.own 3,sli 3 (List.map Qd x0_out_Next),sli 3 (List.map Qd x0_out_Err)]])),(1,.bx 226 (Qo x0_g)),(2,.sl 46 1 (List.map Qi x0_out_Ys)),(3,.sl 46 1 (List.map Qi x0_out_Ks))] (sli 3 (List.map Qd r)) [(0,.bx 164 (.agg [Qz x0_p,Qd x0_t,Qd x0_h,sli 3 (List.map Qd x0_y),.own 1,.agg [.own 2,.own 3,sli 3 (List.map Qd x0_out_Next),sli 3 (List.map Qd x0_out_Err)]])),(1,.bx 226 (Qo x0_g)),(2,.sl 46 1 (List.map Qi x0_out_Ys)),(3,.sl 46 1 (List.map Qi x0_out_Ks))]:=by
 unfold Xl
 refine fs Tryz.func145 fun w S0 γ hγ=>?_
 refine z [2] ?_
 refine s1 (asg rfl (kLm (k:=3) Qd)) ?_
 refine z [1,5] ?_
 refine b fun r3 h4=>?_
 refine b fun r5 h6=>?_
 refine sd ?_
 refine zd [[],[0],[0],[0],[],[]] ?_
 refine dd [0,1,2,3] (fun _ _ _ _=>cG (Qgo _ h4) [0,1,2,3] [] [0,1,2,3]) ?_
 refine dx [11,14] [100] (fun st mm ⟨a11,a14,_⟩ ⟨g100,_⟩=>og (toV (bsl (y:=100) (ls:=List.map Qi ([x0_y,r3]:List (List Qc))) Tryz.underlying56 ti_46.h rfl rfl rfl rfl rfl ⟨rfl,(a11.trans rfl),(by exact rfl),(by exact rfl),rfl,(a14.trans rfl),(by exact rfl),(by exact rfl),trivial⟩ (g100.trans rfl) rfl) (Jk (f:=Qi) (fun _=>Qap) ([x0_y,r3]:List (List Qc))))) ?_
 refine dd [] (fun _ _ _ _=>c0 (Qwb _ h6)) ?_
 refine zd [[],[],[],[],[]] ?_
 refine de fol ?_
 refine z [4,2,30,31,1,8] ?_
 exact rt [(0,0),(1,1),(2,2),(3,3)]
theorem Qny{x0}{x1}:∀ r,Qa9 x0 x1=some r->FnOk Tryz.prog 268 [.ptr 0 0,i64 x1] [(0,.bx 226 (Qo x0))] (.tup []) [(0,.bx 226 (Qo r))]:=by
 unfold Qa9
 refine fs Tryz.func268 fun w S0 γ hγ=>?_
 refine z [2,30,48,45,36,40,48,45] ?_
 refine o (stP (Qo (⟨(⟨wrap64 (x0.Count.Seen+(1:Int)),x0.Count.Peak⟩:Zi),x0.limit⟩:Ql)) [0,0]) ?_
 refine z [1,6,30,30,48,45,36,30,88,48,45] ?_
 refine o (stP (Qo (⟨(⟨wrap64 (x0.Count.Seen+(1:Int)),max x0.Count.Peak x1⟩:Zi),x0.limit⟩:Ql)) [0,1]) ?_
 refine z [3] ?_
 exact rt [(0,0)]
theorem Qhh{n:Nat}{x0}{x1}:∀ r,W2 n x0 x1=some r->FnOk Tryz.prog 239 [.own 0,Qd x1] [(0,.bx 226 (Qo x0))] (bl r.1) [(0,.bx 226 (Qo r.2))]:=by
 unfold W2
 refine fs Tryz.func239 fun w S0 γ hγ=>?_
 refine z [2] ?_
 refine o (bx' 100) ?_
 refine z [31,1,2,32] ?_
 refine cb (ca Qr2) fun r1=>?_
 refine z [31,1,2,30,48,33,30] ?_
 refine b fun r3 h4=>?_
 refine o (cG (Qny _ h4) [0] [] []) ?_
 refine z [1,2,30,30,48,33,36,58,31,1,8] ?_
 exact rt [(0,0)]
theorem Qo7{n:Nat}{x0}{x1}:∀ r,Z5 n x0 x1=some r->FnOk Tryz.prog 196 [.own 0,sli 3 (List.map Qd x1)] [(0,.bx 226 (Qo x0))] (.tup [i64 r.1,bl r.2.1]) [(0,.bx 226 (Qo r.2.2))]:=by
 unfold Z5
 refine fs Tryz.func196 fun w S0 γ hγ=>?_
 refine z [2,31,31,1,5,2,30,39,30,1,7] ?_
 refine srN (fun s14=>[(0,.own 0),(1,sli 3 (List.map Qd x1)),(4,i64 (0:Int)),(5,bl false),(8,sli 3 (List.map Qd x1))]) (fun s14=>[(0,.bx 226 (Qo s14))]) (rE (eR [(0,0)])) ?_ ?_
 · intro i15 x16 s14 hx17
   refine z [7,2,30,43,42] ?_
   refine o (al' 100) ?_
   refine z [31,34,1,2,30,32] ?_
   refine b fun r18 h19=>?_
   refine o (cG (Qhh _ h19) [0] [] []) ?_
   refine z [44,1] ?_
   refine c ?_ ?_
   · refine z [2,30,31,31,1,8,12] ?_
     refine sU ?_
     refine z [12,10] ?_
     exact rt [(0,0)]
   refine z [9,11] ?_
   exact sgo (eR [(0,0)])
 intro s20
 refine z [13,4,2,30,39,31,31,1,8] ?_
 exact rt [(0,0)]
theorem Qek{n:Nat}{x0_p}{x0_t}{x0_h}{x0_y}{x0_g}{x0_out_Ys}{x0_out_Ks}{x0_out_Next}{x0_out_Err}{x1}{x2}:∀ r,Vq n x0_p x0_t x0_h x0_y x0_g x0_out_Ys x0_out_Ks x0_out_Next x0_out_Err x1 x2=some r->FnOk Tryz.prog 146 [.own 0,sli 3 (List.map Qd x1),i64 x2] [(0,.bx 164 (.agg [Qz x0_p,Qd x0_t,Qd x0_h,sli 3 (List.map Qd x0_y),.own 1,.agg [.own 2,.own 3,sli 3 (List.map Qd x0_out_Next),sli 3 (List.map Qd x0_out_Err)]])),(1,.bx 226 (Qo x0_g)),(2,.sl 46 1 (List.map Qi x0_out_Ys)),(3,.sl 46 1 (List.map Qi x0_out_Ks))] (Qn r.1) [(0,.bx 164 (.agg [Qz x0_p,Qd x0_t,Qd x0_h,sli 3 (List.map Qd x0_y),.own 1,.agg [.own 2,.own 3,sli 3 (List.map Qd x0_out_Next),sli 3 (List.map Qd x0_out_Err)]])),(1,.bx 226 (Qo r.2)),(2,.sl 46 1 (List.map Qi x0_out_Ys)),(3,.sl 46 1 (List.map Qi x0_out_Ks))]:=by
 unfold Vq
 refine fs Tryz.func146 fun w S0 γ hγ=>?_
 refine z [2] ?_
 refine o (al' 100) ?_
 refine z [1,5,2,30,48,33,36,30] ?_
 refine b fun r1 h2=>?_
 refine o (cG (Qo7 _ h2) [1] [] []) ?_
 refine z [30,35,35,31,31,1,2,30,44,1] ?_
 refine c ?_ ?_
 · refine z [2,30,30,40] ?_
   refine s1 (bld (l:=[i64 (6:Int),i64 0,i64 x2,i64 (wrap64 ((300:Int)+r1.1))]) pl_50.h ti_50.h Qq ⟨_,_,_,(kI (x:=6) rfl),rfl,rfl,rfl,(szk (k:=1) rfl rfl),⟨_,_,_,rfl,rfl,rfl,rfl,(szk (k:=1) rfl rfl),⟨_,_,_,rfl,rfl,rfl,rfl,(szk (k:=1) rfl rfl),rfl⟩⟩⟩ rfl) ?_
   refine z [34,1,8,10] ?_
   exact rt [(0,0),(1,1),(2,2),(3,3)]
 refine z [9,4,2] ?_
 refine s1 (bld (l:=[i64 0,i64 0,i64 0,i64 0]) pl_50.h ti_50.h Qq rfl rfl) ?_
 refine z [34,1,8] ?_
 exact rt [(0,0),(1,1),(2,2),(3,3)]
theorem Qw5{n:Nat}{x0}{x1}{x2}{x3}:∀ r,Qep n x0 x1 x2 x3=some r->FnOk Tryz.prog 194 [Qz x0,Qd x1,Qd x2,i64 x3] [] (Qd r) []:=by
 unfold Qep
 refine fs Tryz.func194 fun w S0 γ hγ=>?_
 refine z [2] ?_
 refine o (bx' 100) ?_
 refine o (bx' 101) ?_
 refine o (bx' 102) ?_
 refine o (al' 103) ?_
 refine z [1,5] ?_
 refine sjq (fun s3=>[(3,i64 x3),(4,.own 100),(5,.own 101),(6,.own 102),(8,.own 103),(18,bl s3)]) (fun s3=>[(100,.bx 60 (Qz x0)),(101,.bx 45 (Qd x1)),(102,.bx 45 (Qd x2)),(103,.bx 45 (Qd (⟨(⟨false,[]⟩:Qf),[]⟩:Qc)))]) ?_ ?_
 · intro j1 hj2
   refine z [6,30,46,30] ?_
   refine sifd 11 rfl ?_ ?_
   · refine z [23,23,23,23,23,23,38,1] ?_
     exact sj (hj2 _) (eR [(100,100),(101,101),(102,102),(103,103)])
   refine z [22,22,22,22,22,22,37,1] ?_
   exact sj (hj2 _) (eR [(100,100),(101,101),(102,102),(103,103)])
 intro s3
 refine c ?_ ?_
 · refine z [2,32] ?_
   refine cb (ca Wh) fun r4=>?_
   refine z [34,1,8,10] ?_
   exact rt []
 refine z [9,4,5] ?_
 refine b fun y6 h7=>?_
 refine b fun r8 h9=>?_
 refine b fun r10 h11=>?_
 refine sd ?_
 refine zd [[101],[102],[100],[],[100],[],[],[]] ?_
 refine dd [] (fun _ _ _ _=>c0 (Qkz _ h9)) ?_
 refine dd [] (fun _ _ _ _=>c0 (Qej _ h11)) ?_
 refine zd [[103]] ?_
 refine de fol ?_
 refine z [4,8] ?_
 exact rt []
theorem Q2s{x0}{x1}{x2}:∀ r,Qmh x0 x1 x2=some r->FnOk Tryz.prog 193 [Qz x0,Qd x1,sli 3 (List.map Qd x2)] [] (Qb8 r) []:=by
 unfold Qmh
 refine fs Tryz.func193 fun w S0 γ hγ=>?_
 refine z [2] ?_
 refine o (bx' 100) ?_
 refine o (bx' 101) ?_
 refine o (al' 102) ?_
 refine z [1,2,32,30,33,36] ?_
 refine s1 (bld (l:=[Qd x1,sli 3 (List.map Qd x2),sli 3 (List.map Qd x0.P)]) Q2k.h Qtg.h Qkf ⟨_,_,_,rfl,rfl,rfl,rfl,(szk (k:=3) rfl rfl),⟨_,_,_,rfl,rfl,rfl,rfl,(szk (k:=1) rfl rfl),⟨_,_,_,rfl,rfl,rfl,rfl,(szk (k:=1) rfl rfl),rfl⟩⟩⟩ rfl) ?_
 refine z [34,1,8] ?_
 exact rt []
theorem Qqq{n:Nat}{x0}:∀ r,Qfq n x0=some r->FnOk Tryz.prog 283 [sli 3 (List.map Qd x0)] [] (sli 3 (List.map Qd r)) []:=by
 unfold Qfq
 refine fs Tryz.func283 fun w S0 γ hγ=>?_
 refine z [2] ?_
 refine s1 (asg rfl (kLm (k:=3) Qd)) ?_
 refine z [1,2] ?_
 refine so (asgN (y:=100) (E:=45) (k:=3) rfl rfl) ?_
 refine z [1,5,2,30,39,30,1,7] ?_
 refine srN (fun s18=>[(2,sli 3 (List.map Qd ([]:List Qc))),(3,.own 100),(6,sli 3 (List.map Qd x0))]) (fun s18=>[(100,.sl 45 3 (List.map Qd s18))]) (rE (eR [(100,100)])) ?_ ?_
 · intro i19 x20 s18 hx21
   refine z [7,2,43,42] ?_
   refine o (al' 101) ?_
   refine z [34,1,6,30,32] ?_
   refine cb (ca Wh) fun r22=>?_
   refine so (bsl (y:=102) (ls:=List.map Qd ([r22]:List Qc)) Tryz.underlying46 ti_45.h rfl rfl rfl rfl rfl ⟨rfl,rfl,(by exact rfl),(by exact rfl),trivial⟩ rfl rfl) ?_
   refine b fun y24 h25=>?_
   refine o (app' 103) ?_
   refine z [31,3,11] ?_
   exact sgo (eR [(100,103)])
 intro s26
 refine z [13,4,2,30,31,1,8] ?_
 refine fz 100 [2,3,18] [] ?_
 exact rt []
theorem Qz3{n:Nat}{x0}:∀ r,Qjq n x0=some r->FnOk Tryz.prog 266 [Qb8 x0] [] (Qb8 r) []:=by
 unfold Qjq
 refine fs Tryz.func266 fun w S0 γ hγ=>?_
 refine z [2] ?_
 refine o (bx' 100) ?_
 refine o (al' 101) ?_
 refine z [1,5] ?_
 refine b fun r1 h2=>?_
 refine b fun r3 h4=>?_
 refine b fun r5 h6=>?_
 refine sd ?_
 refine zd [[100],[100]] ?_
 refine dd [] (fun _ _ _ _=>c0 (Wh _ h2)) ?_
 refine zd [[100],[100]] ?_
 refine dd [] (fun _ _ _ _=>c0 (Qqq _ h4)) ?_
 refine zd [[100],[100]] ?_
 refine dd [] (fun _ _ _ _=>c0 (Qqq _ h6)) ?_
 refine dx [5,8,11] [] (fun st mm ⟨a5,a8,a11,_⟩ _=>og (bld (l:=[Qd r1,sli 3 (List.map Qd r3),sli 3 (List.map Qd r5)]) Q2k.h Qtg.h Qkf ⟨_,_,_,(a5.trans rfl),rfl,rfl,rfl,(szk (k:=3) rfl rfl),⟨_,_,_,(a8.trans rfl),rfl,rfl,rfl,(szk (k:=1) rfl rfl),⟨_,_,_,(a11.trans rfl),rfl,rfl,rfl,(szk (k:=1) rfl rfl),rfl⟩⟩⟩ rfl)) ?_
 refine zd [[101]] ?_
 refine de fol ?_
 refine z [4,8] ?_
 exact rt []
theorem Q1i{n:Nat}{x0}:∀ r,Qh1 n x0=some r->FnOk Tryz.prog 325 [Qd x0] [] (Qd r) []:=by
 unfold Qh1
 refine fs Tryz.func325 fun w S0 γ hγ=>?_
 refine z [2] ?_
 refine o (bx' 100) ?_
 refine o (al' 101) ?_
 refine z [1,2,32] ?_
 refine cb (ca Wh) fun r1=>?_
 refine o (al' 102) ?_
 refine z [34,1,2,33,36] ?_
 refine cb (ca Qr5) fun r3=>?_
 refine z [33] ?_
 refine o (stP (Qd (⟨r3,r1.Den⟩:Qc)) [0]) ?_
 refine z [1,2,32,34,1,8] ?_
 exact rt []
theorem Qrl{n:Nat}{x0_g}{x1}:∀ r,Qde n x0_g x1=some r->FnOk Tryz.prog 320 [.agg [.own 0],Qd x1] [(0,.bx 226 (Qo x0_g))] (Qd r) [(0,.bx 226 (Qo x0_g))]:=by
 unfold Qde
 refine fs Tryz.func320 fun w S0 γ hγ=>?_
 refine z [2] ?_
 refine o (bx' 100) ?_
 refine o (bx' 101) ?_
 refine o (al' 102) ?_
 refine z [1,2,32] ?_
 refine cb (ca Q1i) fun r1=>?_
 refine z [34,1,8] ?_
 exact rt [(0,0)]
theorem Qqr{n:Nat}{x0}{x1}:∀ r,Qdq n x0 x1=some r->FnOk Tryz.prog 327 [sli 1 (List.map u32 x0),i64 x1] [] (sli 1 (List.map u32 r)) []:=by
 unfold Qdq
 refine fs Tryz.func327 fun w S0 γ hγ=>?_
 refine z [2] ?_
 refine s1 (asg rfl (kLm (k:=1) u32)) ?_
 refine z [1,2] ?_
 refine cb (ca Qbi) fun r1=>?_
 refine z [31,1,5,2,30,30,1,7] ?_
 refine sloopE 0 (fun t=>t) (fun s11=>[(0,sli 1 (List.map u32 x0)),(4,sli 1 (List.map u32 ([]:List Nat))),(5,sli 1 (List.map u32 s11.1)),(7,i64 x1),(8,i64 s11.2)]) (fun s11=>[]) (fun t9=>[(4,sli 1 (List.map u32 ([]:List Nat))),(5,sli 1 (List.map u32 t9))]) (fun t9=>[]) eI ?_ ?_
 · intro hj10 s11
   refine z [2,46,1,5] ?_
   refine c ?_ ?_
   · refine z [9,4,5,7,6,30,30] ?_
     refine cb (ca Qcx) fun r12=>?_
     refine z [31,3,11,4,6,40,30,3] ?_
     exact sgo eI
   refine z [14,15] ?_
   exact su (sj (hj10 _) eI)
 intro t9
 refine z [13,4,2,30,31,1,8] ?_
 exact rt []
theorem Q1j{n:Nat}{x0}{x1}:∀ r,Qh2 n x0 x1=some r->FnOk Tryz.prog 326 [Qd x0,i64 x1] [] (.tup [Qd r.1,bl r.2]) []:=by
 unfold Qh2
 refine fs Tryz.func326 fun w S0 γ hγ=>?_
 refine z [2] ?_
 refine o (bx' 100) ?_
 refine o (al' 101) ?_
 refine z [31,1,5] ?_
 refine sjq (fun s5=>[(1,i64 x1),(2,.own 100),(4,.own 101),(5,bl false),(24,bl s5)]) (fun s5=>[(100,.bx 45 (Qd x0)),(101,.bx 45 (Qd (⟨(⟨false,[]⟩:Qf),[]⟩:Qc)))]) ?_ ?_
 · intro j3 hj4
   refine z [6,30,46,30] ?_
   refine sifd 12 rfl ?_ ?_
   · refine z [23,23,38,30,23,23,23,24,24,24,23,38,1] ?_
     exact sj (hj4 _) (eR [(100,100),(101,101)])
   refine z [22,22,37,30] ?_
   refine sifd 16 rfl ?_ ?_
   · refine z [23,23,23,24,24,24,23,38,1] ?_
     exact sj (hj4 _) (eR [(100,100),(101,101)])
   refine z [22,22,22] ?_
   refine sifd 19 rfl ?_ ?_
   · refine z [22] ?_
     refine b fun r6 h7=>?_
     refine og' (c0 (Qne _ h7)) ?_
     refine z [22,22,37,1] ?_
     exact sj (hj4 _) (eR [(100,100),(101,101)])
   refine z [23,23,23,22,37,1] ?_
   exact sj (hj4 _) (eR [(100,100),(101,101)])
 intro s5
 refine c ?_ ?_
 · refine z [2] ?_
   refine cb (ca Vv) fun r8=>?_
   refine z [34,31,1,8,10] ?_
   exact rt []
 refine z [9,4,2,32] ?_
 refine cb (ca Wh) fun r10=>?_
 refine o (al' 102) ?_
 refine z [34,1,2,30,30,82,88,31,1,5] ?_
 refine b fun r12 h13=>?_
 refine b fun r14 h15=>?_
 refine sd ?_
 refine zd [[102],[],[102],[]] ?_
 refine dd [] (fun _ _ _ _=>c0 (Qqr _ h13)) ?_
 refine zd [[102],[102],[]] ?_
 refine dd [] (fun _ _ _ _=>c0 (Qqr _ h15)) ?_
 refine zd [[],[]] ?_
 refine de fol ?_
 refine z [4] ?_
 refine sjq (fun s18=>[(4,.own 101),(5,bl false),(6,.own 102),(7,i64 (max x1 (wrap64 (-x1)))),(8,sli 1 (List.map u32 s18.1)),(9,sli 1 (List.map u32 s18.2))]) (fun s18=>[(101,.bx 45 (Qd (⟨(⟨false,[]⟩:Qf),[]⟩:Qc))),(102,.bx 45 (Qd r10))]) ?_ ?_
 · intro j16 hj17
   refine z [2,30,46,1] ?_
   refine c ?_ ?_
   · refine z [6,30,30,31,31,1] ?_
     exact sj (hj17 _) (eR [(101,101),(102,102)])
   refine z [9,4] ?_
   exact sj (hj17 _) (eR [(101,101),(102,102)])
 intro s18
 refine sjq (fun s25=>[(4,.own 101),(5,bl true)]) (fun s25=>[(101,.bx 45 (Qd s25))]) ?_ ?_
 · intro j23 hj24
   refine z [6,33,45,36,30] ?_
   refine sifd 48 rfl ?_ ?_
   · refine z [22,22,22,38,30] ?_
     refine s1 (bld (l:=[bl (decide ((Int.tmod (max x1 (wrap64 (-x1))) (2:Int))=(1:Int))),sli 1 (List.map u32 s18.1)]) pl_43.h ti_43.h Wn ⟨_,_,_,rfl,rfl,rfl,rfl,(szk (k:=1) rfl rfl),⟨_,_,_,rfl,rfl,rfl,rfl,(szk (k:=1) rfl rfl),rfl⟩⟩ rfl) ?_
     refine cb (ca Qln) fun r26=>?_
     refine z [30] ?_
     refine s1 (bld (l:=[Q1 r26,sli 1 (List.map u32 s18.2)]) pl_45.h ti_45.h K2 ⟨_,_,_,rfl,rfl,rfl,rfl,(szk (k:=2) rfl rfl),⟨_,_,_,rfl,rfl,rfl,rfl,(szk (k:=1) rfl rfl),rfl⟩⟩ rfl) ?_
     refine z [34,31,1] ?_
     exact sj (hj24 _) (eR [(101,101)])
   refine z [23,23,23,37,30] ?_
   refine s1 (bld (l:=[bl false,sli 1 (List.map u32 s18.1)]) pl_43.h ti_43.h Wn ⟨_,_,_,rfl,rfl,rfl,rfl,(szk (k:=1) rfl rfl),⟨_,_,_,rfl,rfl,rfl,rfl,(szk (k:=1) rfl rfl),rfl⟩⟩ rfl) ?_
   refine cb (ca Qln) fun r28=>?_
   refine z [30] ?_
   refine s1 (bld (l:=[Q1 r28,sli 1 (List.map u32 s18.2)]) pl_45.h ti_45.h K2 ⟨_,_,_,rfl,rfl,rfl,rfl,(szk (k:=2) rfl rfl),⟨_,_,_,rfl,rfl,rfl,rfl,(szk (k:=1) rfl rfl),rfl⟩⟩ rfl) ?_
   refine z [34,31,1] ?_
   exact sj (hj24 _) (eR [(101,101)])
 intro s25
 refine z [8] ?_
 exact rt []
end Go.Proofs.YthbndkiddockmaaGreatDoor
