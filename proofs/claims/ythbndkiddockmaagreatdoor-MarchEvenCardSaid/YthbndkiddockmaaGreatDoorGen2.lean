import Derived.Test.YthbndkiddockmaaGreatDoorGen2b
set_option maxRecDepth 100000
set_option maxHeartbeats 4000000
namespace Go.Proofs.YthbndkiddockmaaGreatDoor
open Go Go.RowKit
theorem Qih{n:Nat}{x0}:∀ r,Yw n x0=some r->FnOk Tryz.prog 66 [u64 x0] [] (sli 1 (List.map u32 r)) []:=by
 unfold Yw
 refine fs Tryz.func66 fun w S0 γ hγ=>?_
 refine z [2] ?_
 refine s1 (asg rfl (kLm (k:=1) u32)) ?_
 refine z [1,2,30,81,60,30,80,60] ?_
 refine so (bsl (y:=100) (ls:=List.map u32 ([((x0%4294967296)%4294967296),((x0 / 4294967296)%4294967296)]:List Nat)) Tryz.underlying32 Kt.h rfl rfl rfl rfl rfl ⟨rfl,rfl,(by exact rfl),(by exact rfl),rfl,rfl,(by exact rfl),(by exact rfl),trivial⟩ rfl rfl) ?_
 refine sbm (C:=fun x=>.sl 129 1 (List.map u32 x)) 100 rfl fun z1=>?_
 refine b fun r2 h3=>?_
 refine so (callL (em:=[(101,.sl 129 1 (List.map u32 r2))]) (res':=.own 101) [100] [] [(101,50)] [(101,50)] rfl (J3 _ h3) ⟨Qas (f:=u32) (fun _=>Qcq) _,trivial⟩ (Qdm) ⟨.inr ⟨100,rfl,.inl ⟨rfl,.inl ⟨_,_,_,rfl,Jk (f:=u32) (fun _=>K8) z1,rfl⟩⟩⟩,trivial⟩ (MiF.get (mi:=[]) trivial) trivial rfl ⟨rfl,trivial⟩ ⟨.inl rfl,trivial⟩ rfl ⟨.inl ⟨_,_,rfl,rfl,rc_sl (Jk (f:=u32) (fun _=>K8) r2)⟩,trivial⟩ trivial ⟨⟨_,rfl⟩,trivial⟩ (Ve rfl) rfl) ?_
 refine z [31,1,8] ?_
 refine fz 101 [2,10] [] ?_
 exact rt []
theorem Qhj{n:Nat}{x0}{x1}:∀ r,Yb n x0 x1=some r->FnOk Tryz.prog 65 [sli 1 (List.map u32 x0),sli 1 (List.map u32 x1)] [] (sli 1 (List.map u32 r)) []:=by
 unfold Yb
 refine fs Tryz.func65 fun w S0 γ hγ=>?_
 refine z [2] ?_
 refine s1 (asg rfl (kLm (k:=1) u32)) ?_
 refine z [1,2,30,39,30,39,88,40,31,1,2,30] ?_
 refine b fun y1 h2=>?_
 refine so (mks (y:=100) (f:=u32) h2 Tryz.underlying32 Kt.h Qb1 rfl rfl rfl rfl rfl rfl) ?_
 refine z [31,1,2,31,1,5,2,31,1,7] ?_
 refine sloopE 0 (fun t=>t) (fun s24=>[(0,sli 1 (List.map u32 x0)),(1,sli 1 (List.map u32 x1)),(4,sli 1 (List.map u32 ([]:List Nat))),(5,i64 (wrap64 ((max (x0.length:Int) (x1.length:Int))+(1:Int)))),(6,.own 100),(7,u64 s24.2.1),(8,i64 s24.2.2)]) (fun s24=>[(100,.sl 129 1 (List.map u32 s24.1))]) (fun t22=>[(4,sli 1 (List.map u32 ([]:List Nat))),(6,.own 100)]) (fun t22=>[(100,.sl 129 1 (List.map u32 t22))]) (eR [(100,100)]) ?_ ?_
 · intro hj23 s24
   refine z [5,2,30,30,46] ?_
   refine sbn (F:=bl) 19 rfl fun z25=>?_
   refine z [1] ?_
   refine c ?_ ?_
   · refine z [9,4,5,7,2,30,30,30] ?_
     refine cb (ca Xn) fun r26=>?_
     refine z [59,30,30] ?_
     refine cb (ca Xn) fun r28=>?_
     refine z [59,61,61] ?_
     refine sbn (F:=u64) 32 rfl fun z30=>?_
     refine z [31,1,2,30,30,30,81,60] ?_
     refine b fun y31 h32=>?_
     refine z [50,53,1,6,30,80,31,3,11,4,6,30,40,31,3] ?_
     exact sgo (eR [(100,100)])
   refine z [14,15] ?_
   exact su (sj (hj23 _) (eR [(100,100)]))
 intro t22
 refine z [13,4,2,30] ?_
 refine b fun r33 h34=>?_
 refine so (callL (em:=[(101,.sl 129 1 (List.map u32 r33))]) (res':=.own 101) [100] [] [(101,50)] [(101,50)] rfl (J3 _ h34) ⟨Qas (f:=u32) (fun _=>Qcq) _,trivial⟩ (Qdm) ⟨.inr ⟨100,rfl,.inl ⟨rfl,.inl ⟨_,_,_,rfl,Jk (f:=u32) (fun _=>K8) t22,rfl⟩⟩⟩,trivial⟩ (MiF.get (mi:=[]) trivial) trivial rfl ⟨rfl,trivial⟩ ⟨.inl rfl,trivial⟩ rfl ⟨.inl ⟨_,_,rfl,rfl,rc_sl (Jk (f:=u32) (fun _=>K8) r33)⟩,trivial⟩ trivial ⟨⟨_,rfl⟩,trivial⟩ (Ve rfl) rfl) ?_
 refine z [31,1,8] ?_
 refine fz 101 [4,42] [] ?_
 exact rt []
theorem Wf{n:Nat}{x0}:∀ r,Jl n x0=some r->FnOk Tryz.prog 23 [i64 x0] [] (Qb r) []:=by
 unfold Jl
 refine fs Tryz.func23 fun w S0 γ hγ=>?_
 refine z [2] ?_
 refine o (al' 100) ?_
 refine z [1,5,2,30,46,1] ?_
 refine c ?_ ?_
 · refine z [2,30,40,82,83] ?_
   refine sbn (F:=u64) 8 rfl fun z1=>?_
   refine cb (ca Qih) fun r2=>?_
   refine so (bsl (y:=101) (ls:=List.map u32 ([1]:List Nat)) Tryz.underlying32 Kt.h rfl rfl rfl rfl rfl ⟨rfl,(k32 (x:=1) rfl),(by exact rfl),(by exact rfl),trivial⟩ rfl rfl) ?_
   refine fz 101 [10] [] ?_
   refine cb (ca Qhj) fun r4=>?_
   refine so (bsl (y:=102) (ls:=List.map u32 ([1]:List Nat)) Tryz.underlying32 Kt.h rfl rfl rfl rfl rfl ⟨rfl,(k32 (x:=1) rfl),(by exact rfl),(by exact rfl),trivial⟩ rfl rfl) ?_
   refine fz 102 [12] [] ?_
   refine s1 (bld (l:=[bl true,sli 1 (List.map u32 r4),sli 1 (List.map u32 ([1]:List Nat))]) pl_34.h ti_34.h Q2 ⟨_,_,_,kB,rfl,rfl,rfl,(szk (k:=1) rfl rfl),⟨_,_,_,rfl,rfl,rfl,rfl,(szk (k:=1) rfl rfl),⟨_,_,_,rfl,rfl,rfl,rfl,(szk (k:=1) rfl rfl),rfl⟩⟩⟩ rfl) ?_
   refine cb (ca Js) fun r6=>?_
   refine z [34,1,8,10] ?_
   exact rt []
 refine z [9,4,2,30,83] ?_
 refine cb (ca Qih) fun r8=>?_
 refine so (bsl (y:=101) (ls:=List.map u32 ([1]:List Nat)) Tryz.underlying32 Kt.h rfl rfl rfl rfl rfl ⟨rfl,(k32 (x:=1) rfl),(by exact rfl),(by exact rfl),trivial⟩ rfl rfl) ?_
 refine fz 101 [18] [] ?_
 refine s1 (bld (l:=[bl false,sli 1 (List.map u32 r8),sli 1 (List.map u32 ([1]:List Nat))]) pl_34.h ti_34.h Q2 ⟨_,_,_,rfl,rfl,rfl,rfl,(szk (k:=1) rfl rfl),⟨_,_,_,rfl,rfl,rfl,rfl,(szk (k:=1) rfl rfl),rfl⟩⟩ rfl) ?_
 refine cb (ca Js) fun r10=>?_
 refine z [34,1,8] ?_
 exact rt []
theorem Qc8{n:Nat}{x0}:∀ r,Kx n x0=some r->FnOk Tryz.prog 163 [Vn x0] [] (Vn r) []:=by
 unfold Kx
 refine fs Tryz.func163 fun w S0 γ hγ=>?_
 refine z [2] ?_
 refine o (bx' 100) ?_
 refine o (al' 101) ?_
 refine z [1,2,33,36] ?_
 refine b fun r1 h2=>?_
 refine o (cG (J3 _ h2) [] [(102,50)] []) ?_
 refine z [31,1] ?_
 refine sjq (fun s5=>[(2,.own 101)]) (fun s5=>[(101,.bx 189 (Vn s5))]) ?_ ?_
 · intro j3 hj4
   refine z [6,33,36,30] ?_
   refine sifd 9 rfl ?_ ?_
   · refine z [22,22,22,38,30] ?_
     refine fz 102 [3,6,10,14] [] ?_
     refine s1 (bld (l:=[bl (decide ((0:Int)<(r1.length:Int))),sli 1 (List.map u32 r1)]) Qlj.h Qic.h Vd ⟨_,_,_,rfl,rfl,rfl,rfl,(szk (k:=1) rfl rfl),⟨_,_,_,rfl,rfl,rfl,rfl,(szk (k:=1) rfl rfl),rfl⟩⟩ rfl) ?_
     refine z [34,1] ?_
     exact sj (hj4 _) (eR [(101,101)])
   refine z [23,23,23,37,30] ?_
   refine fz 102 [3,6,14] [] ?_
   refine s1 (bld (l:=[bl false,sli 1 (List.map u32 r1)]) Qlj.h Qic.h Vd ⟨_,_,_,rfl,rfl,rfl,rfl,(szk (k:=1) rfl rfl),⟨_,_,_,rfl,rfl,rfl,rfl,(szk (k:=1) rfl rfl),rfl⟩⟩ rfl) ?_
   refine z [34,1] ?_
   exact sj (hj4 _) (eR [(101,101)])
 intro s5
 refine z [8] ?_
 exact rt []
theorem Qhk{n:Nat}{x0}{x1}:∀ r,V9 n x0 x1=some r->FnOk Tryz.prog 164 [sli 1 (List.map u32 x0),sli 1 (List.map u32 x1)] [] (sli 1 (List.map u32 r)) []:=by
 unfold V9
 refine fs Tryz.func164 fun w S0 γ hγ=>?_
 refine z [2] ?_
 refine s1 (asg rfl (kLm (k:=1) u32)) ?_
 refine z [1,2,30,39,30,39,88,31,1,2,30] ?_
 refine b fun y1 h2=>?_
 refine so (mks (y:=100) (f:=u32) h2 Tryz.underlying32 Kt.h Qb1 rfl rfl rfl rfl rfl rfl) ?_
 refine z [31,1,2,31,1,5,2,31,1,7] ?_
 refine sloopE 0 (fun t=>t) (fun s27=>[(0,sli 1 (List.map u32 x0)),(1,sli 1 (List.map u32 x1)),(4,sli 1 (List.map u32 ([]:List Nat))),(5,i64 (max (x0.length:Int) (x1.length:Int))),(6,.own 100),(7,u64 s27.2.1),(8,i64 s27.2.2)]) (fun s27=>[(100,.sl 129 1 (List.map u32 s27.1))]) (fun t25=>[(4,sli 1 (List.map u32 ([]:List Nat))),(6,.own 100)]) (fun t25=>[(100,.sl 129 1 (List.map u32 t25))]) (eR [(100,100)]) ?_ ?_
 · intro hj26 s27
   refine z [5,2,30,30,46,1] ?_
   refine c ?_ ?_
   · refine z [9,4,5,7,2,30,30] ?_
     refine cb (ca Xn) fun r28=>?_
     refine z [59,31,1,2,30,30] ?_
     refine cb (ca Xn) fun r30=>?_
     refine z [59,30,61,31,1,2,31,1] ?_
     refine sjq (fun s34=>[(0,sli 1 (List.map u32 x0)),(1,sli 1 (List.map u32 x1)),(4,sli 1 (List.map u32 ([]:List Nat))),(5,i64 (max (x0.length:Int) (x1.length:Int))),(6,.own 100),(7,u64 s34.1),(8,i64 s27.2.2),(9,u64 s34.2),(10,u64 ((r30+s27.2.1)%18446744073709551616))]) (fun s34=>[(100,.sl 129 1 (List.map u32 s27.1))]) ?_ ?_
     · intro j32 hj33
       refine z [2,30,30,68,1] ?_
       refine c ?_ ?_
       · refine z [2,30,61,31,1,6,31,1] ?_
         exact sj (hj33 _) (eR [(100,100)])
       refine z [9,4] ?_
       exact sj (hj33 _) (eR [(100,100)])
     intro s34
     refine z [6,30,30,30,30,62] ?_
     refine sbn (F:=u64) 42 rfl fun z35=>?_
     refine z [60] ?_
     refine b fun y36 h37=>?_
     refine z [50,53,3,11,4,6,30,40,31,3] ?_
     exact sgo (eR [(100,100)])
   refine z [14,15] ?_
   exact su (sj (hj26 _) (eR [(100,100)]))
 intro t25
 refine z [13,4,2,30] ?_
 refine b fun r38 h39=>?_
 refine so (callL (em:=[(101,.sl 129 1 (List.map u32 r38))]) (res':=.own 101) [100] [] [(101,50)] [(101,50)] rfl (J3 _ h39) ⟨Qas (f:=u32) (fun _=>Qcq) _,trivial⟩ (Qdm) ⟨.inr ⟨100,rfl,.inl ⟨rfl,.inl ⟨_,_,_,rfl,Jk (f:=u32) (fun _=>K8) t25,rfl⟩⟩⟩,trivial⟩ (MiF.get (mi:=[]) trivial) trivial rfl ⟨rfl,trivial⟩ ⟨.inl rfl,trivial⟩ rfl ⟨.inl ⟨_,_,rfl,rfl,rc_sl (Jk (f:=u32) (fun _=>K8) r38)⟩,trivial⟩ trivial ⟨⟨_,rfl⟩,trivial⟩ (Ve rfl) rfl) ?_
 refine z [31,1,8] ?_
 refine fz 101 [4,46] [] ?_
 exact rt []
theorem Qn4{n:Nat}{x0}{x1}:∀ r,Zu n x0 x1=some r->FnOk Tryz.prog 111 [Vn x0,Vn x1] [] (Vn r) []:=by
 unfold Zu
 refine fs Tryz.func111 fun w S0 γ hγ=>?_
 refine z [2] ?_
 refine o (bx' 100) ?_
 refine o (bx' 101) ?_
 refine o (al' 102) ?_
 refine z [1,5,2,33,36,33,36,74,1] ?_
 refine c ?_ ?_
 · refine z [5] ?_
   refine b fun r1 h2=>?_
   refine b fun r3 h4=>?_
   refine sd ?_
   refine zd [[100],[100],[100],[100],[101],[101]] ?_
   refine dd [] (fun _ _ _ _=>c0 (Qhj _ h2)) ?_
   refine dx [11,16] [] (fun st mm ⟨a11,a16,_⟩ _=>og (bld (l:=[bl x0.Neg,sli 1 (List.map u32 r1)]) Qlj.h Qic.h Vd ⟨_,_,_,(a11.trans rfl),rfl,rfl,rfl,(szk (k:=1) rfl rfl),⟨_,_,_,(a16.trans rfl),rfl,rfl,rfl,(szk (k:=1) rfl rfl),rfl⟩⟩ rfl)) ?_
   refine dd [] (fun _ _ _ _=>c0 (Qc8 _ h4)) ?_
   refine zd [[102]] ?_
   refine de fol ?_
   refine z [4,8,10] ?_
   exact rt []
 refine z [9,4,5,2,33,36,33,36] ?_
 refine cb (ca Qdy) fun r5=>?_
 refine z [46,1] ?_
 refine c ?_ ?_
 · refine z [5] ?_
   refine b fun r7 h8=>?_
   refine b fun r9 h10=>?_
   refine sd ?_
   refine zd [[101],[101],[101],[101],[100],[100]] ?_
   refine dd [] (fun _ _ _ _=>c0 (Qhk _ h8)) ?_
   refine dx [26,31] [] (fun st mm ⟨a26,a31,_⟩ _=>og (bld (l:=[bl x1.Neg,sli 1 (List.map u32 r7)]) Qlj.h Qic.h Vd ⟨_,_,_,(a26.trans rfl),rfl,rfl,rfl,(szk (k:=1) rfl rfl),⟨_,_,_,(a31.trans rfl),rfl,rfl,rfl,(szk (k:=1) rfl rfl),rfl⟩⟩ rfl)) ?_
   refine dd [] (fun _ _ _ _=>c0 (Qc8 _ h10)) ?_
   refine zd [[102]] ?_
   refine de fol ?_
   refine z [4,8,10] ?_
   exact rt []
 refine z [9,4,5] ?_
 refine b fun r11 h12=>?_
 refine b fun r13 h14=>?_
 refine sd ?_
 refine zd [[100],[100],[100],[100],[101],[101]] ?_
 refine dd [] (fun _ _ _ _=>c0 (Qhk _ h12)) ?_
 refine dx [35,40] [] (fun st mm ⟨a35,a40,_⟩ _=>og (bld (l:=[bl x0.Neg,sli 1 (List.map u32 r11)]) Qlj.h Qic.h Vd ⟨_,_,_,(a35.trans rfl),rfl,rfl,rfl,(szk (k:=1) rfl rfl),⟨_,_,_,(a40.trans rfl),rfl,rfl,rfl,(szk (k:=1) rfl rfl),rfl⟩⟩ rfl)) ?_
 refine dd [] (fun _ _ _ _=>c0 (Qc8 _ h14)) ?_
 refine zd [[102]] ?_
 refine de fol ?_
 refine z [4,8] ?_
 exact rt []
theorem W9{n:Nat}{x0}{x1}:∀ r,Ka n x0 x1=some r->FnOk Tryz.prog 55 [Qb x0,Qb x1] [] (Qb r) []:=by
 unfold Ka
 refine fs Tryz.func55 fun w S0 γ hγ=>?_
 refine z [2] ?_
 refine o (bx' 100) ?_
 refine o (bx' 101) ?_
 refine o (al' 102) ?_
 refine z [1,5] ?_
 refine b fun r1 h2=>?_
 refine sd ?_
 refine zd [[100],[100],[100],[100],[101],[101]] ?_
 refine dd [] (fun _ _ _ _=>c0 (We _ h2)) ?_
 refine dx [9,14] [] (fun st mm ⟨a9,a14,_⟩ _=>og (bld (l:=[bl x0.Neg,sli 1 (List.map u32 r1)]) Qlj.h Qic.h Vd ⟨_,_,_,(a9.trans rfl),rfl,rfl,rfl,(szk (k:=1) rfl rfl),⟨_,_,_,(a14.trans rfl),rfl,rfl,rfl,(szk (k:=1) rfl rfl),rfl⟩⟩ rfl)) ?_
 refine dd [103] (fun _ _ _ _=>al' 103) ?_
 refine zd [[103]] ?_
 refine de fol ?_
 refine z [4,5] ?_
 refine b fun r3 h4=>?_
 refine sd ?_
 refine zd [[101],[101],[101],[101],[100],[100]] ?_
 refine dd [] (fun _ _ _ _=>c0 (We _ h4)) ?_
 refine dx [17,22] [] (fun st mm ⟨a17,a22,_⟩ _=>og (bld (l:=[bl x1.Neg,sli 1 (List.map u32 r3)]) Qlj.h Qic.h Vd ⟨_,_,_,(a17.trans rfl),rfl,rfl,rfl,(szk (k:=1) rfl rfl),⟨_,_,_,(a22.trans rfl),rfl,rfl,rfl,(szk (k:=1) rfl rfl),rfl⟩⟩ rfl)) ?_
 refine dd [104] (fun _ _ _ _=>al' 104) ?_
 refine zd [[104]] ?_
 refine de fol ?_
 refine z [4,2,32,32] ?_
 refine cb (ca Qn4) fun r5=>?_
 refine o (al' 105) ?_
 refine z [34,1,5] ?_
 refine b fun r7 h8=>?_
 refine b fun r9 h10=>?_
 refine sd ?_
 refine zd [[105],[105],[105],[105],[100],[100],[101],[101]] ?_
 refine dd [] (fun _ _ _ _=>c0 (We _ h8)) ?_
 refine dx [28,30,35] [] (fun st mm ⟨a28,a30,a35,_⟩ _=>og (bld (l:=[bl r5.Neg,sli 1 (List.map u32 r5.Abs),sli 1 (List.map u32 r7)]) pl_34.h ti_34.h Q2 ⟨_,_,_,(a28.trans rfl),rfl,rfl,rfl,(szk (k:=1) rfl rfl),⟨_,_,_,(a30.trans rfl),rfl,rfl,rfl,(szk (k:=1) rfl rfl),⟨_,_,_,(a35.trans rfl),rfl,rfl,rfl,(szk (k:=1) rfl rfl),rfl⟩⟩⟩ rfl)) ?_
 refine dd [] (fun _ _ _ _=>c0 (Js _ h10)) ?_
 refine zd [[102]] ?_
 refine de fol ?_
 refine z [4,8] ?_
 exact rt []
theorem Qd0{n:Nat}{x0}:∀ r,Wb n x0=some r->FnOk Tryz.prog 157 [sli 3 (List.map Qb x0)] [] (Qb r) []:=by
 unfold Wb
 refine fs Tryz.func157 fun w S0 γ hγ=>?_
 refine z [2] ?_
 refine o (al' 100) ?_
 refine z [1,2] ?_
 refine cb (ca Wf) fun r1=>?_
 refine o (al' 101) ?_
 refine z [34,1,5,2,31,1,7] ?_
 refine sloopE 0 (fun t=>t) (fun s15=>[(0,sli 3 (List.map Qb x0)),(2,.own 100),(3,.own 101),(4,i64 s15.2)]) (fun s15=>[(100,.bx 34 (Qb (⟨false,[],[]⟩:Qa))),(101,.bx 34 (Qb s15.1))]) (fun t13=>[(2,.own 100),(3,.own 101)]) (fun t13=>[(100,.bx 34 (Qb (⟨false,[],[]⟩:Qa))),(101,.bx 34 (Qb t13))]) (eR [(100,100),(101,101)]) ?_ ?_
 · intro hj14 s15
   refine z [5,2,30,30,39,46,1] ?_
   refine c ?_ ?_
   · refine z [9,4,5,7] ?_
     refine b fun y16 h17=>?_
     refine b fun r18 h19=>?_
     refine sd ?_
     refine zd [[101],[],[],[],[]] ?_
     refine dd [] (fun _ _ _ _=>c0 (W9 _ h19)) ?_
     refine zd [[101]] ?_
     refine de fol ?_
     refine z [11,4,6,30,40,31,3] ?_
     exact sgo (eR [(100,100),(101,101)])
   refine z [14,15] ?_
   exact su (sj (hj14 _) (eR [(100,100),(101,101)]))
 intro t13
 refine z [13,4,2,32,34,1,8] ?_
 exact rt []
theorem Qmb{n:Nat}{x0}:∀ r,Y4 n x0=some r->FnOk Tryz.prog 95 [Q5 x0] [] (i64 r) []:=by
 unfold Y4
 refine fs Tryz.func95 fun w S0 γ hγ=>?_
 refine z [2] ?_
 refine o (bx' 100) ?_
 refine z [31,1,2,33,36,39,31,1,5,2,33,36] ?_
 refine s1 (bld (l:=[i64 (2:Int),str x0.Name,i64 0]) Q2o.h Qbk.h Qci ⟨_,_,_,(kI (x:=2) rfl),rfl,rfl,rfl,(szk (k:=1) rfl rfl),⟨_,_,_,rfl,rfl,rfl,rfl,(szk (k:=1) rfl rfl),rfl⟩⟩ rfl) ?_
 refine cb (ca Qma) fun r1=>?_
 refine z [44,1] ?_
 refine c ?_ ?_
 · refine z [2,31,1,8,10] ?_
   exact rt []
 refine z [9,4,5] ?_
 refine sjq (fun s5=>[(1,.own 100),(2,i64 (0:Int)),(3,i64 (x0.B.length:Int)),(48,bl s5)]) (fun s5=>[(100,.bx 29 (Q5 x0))]) ?_ ?_
 · intro j3 hj4
   refine z [6,30,46,30] ?_
   refine sifd 18 rfl ?_ ?_
   · refine z [23,23,38,30,23,23,23,23,23,38,30,23,23,23,23,23,38,30,23,23,23,23,23,24,24,24,24,24,23,38,1] ?_
     exact sj (hj4 _) (eR [(100,100)])
   refine z [22,22,37,30] ?_
   refine sifd 22 rfl ?_ ?_
   · refine z [23,23,23,23,23,38,30,23,23,23,23,23,38,30,23,23,23,23,23,24,24,24,24,24,23,38,1] ?_
     exact sj (hj4 _) (eR [(100,100)])
   refine z [22,22,22,22,22,37,30] ?_
   refine sifd 29 rfl ?_ ?_
   · refine z [23,23,23,23,23,38,30,23,23,23,23,23,24,24,24,24,24,23,38,1] ?_
     exact sj (hj4 _) (eR [(100,100)])
   refine z [22,22,22,22,22,37,30] ?_
   refine sifd 36 rfl ?_ ?_
   · refine z [23,23,23,23,23,24,24,24,24,24,23,38,1] ?_
     exact sj (hj4 _) (eR [(100,100)])
   refine z [22,22,22,22,22] ?_
   refine sifd 41 rfl ?_ ?_
   · refine z [22,22,22,22,22,22,37,1] ?_
     exact sj (hj4 _) (eR [(100,100)])
   refine z [23,23,23,23,23,22,37,1] ?_
   exact sj (hj4 _) (eR [(100,100)])
 intro s5
 refine c ?_ ?_
 · refine z [2,31,1,8,10] ?_
   exact rt []
 refine z [9,4,5,2,31,1,7] ?_
 refine sloopE 0 Lp.go (fun s14=>[(1,.own 100),(2,i64 (0:Int)),(3,i64 (x0.B.length:Int)),(4,i64 s14)]) (fun s14=>[(100,.bx 29 (Q5 x0))]) (fun t12=>[(1,.own 100),(2,i64 (0:Int)),(3,i64 (x0.B.length:Int))]) (fun t12=>[(100,.bx 29 (Q5 x0))]) (eR [(100,100)]) ?_ ?_
 · intro hj13 s14
   refine z [5,2,30,30,46,1] ?_
   refine c ?_ ?_
   · refine z [9,4,5,7,2,33,36,30] ?_
     refine b fun y15 h16=>?_
     refine z [43,42,39,30,56,1] ?_
     refine c ?_ ?_
     · refine z [2,31,1,8,12,10] ?_
       refine sU ?_
       refine z [12,10] ?_
       exact rt []
     refine z [9,11,4,6,30,40,31,3] ?_
     exact sgo (eR [(100,100)])
   refine z [14,15] ?_
   exact su (sj (hj13 _) (eR [(100,100)]))
 intro t12
 refine slpk ?_
 refine z [13,4,5,2,31,1,7] ?_
 refine sloopE 2 Lp.go (fun s29=>[(1,.own 100),(2,i64 (0:Int)),(3,i64 (x0.B.length:Int)),(5,i64 s29)]) (fun s29=>[(100,.bx 29 (Q5 x0))]) (fun t27=>[(1,.own 100),(2,i64 (0:Int)),(3,i64 (x0.B.length:Int))]) (fun t27=>[(100,.bx 29 (Q5 x0))]) (eR [(100,100)]) ?_ ?_
 · intro hj28 s29
   refine z [5,2,30,30,46,1] ?_
   refine c ?_ ?_
   · refine z [9,4,5,7,2,33,36,30] ?_
     refine b fun y30 h31=>?_
     refine z [43,42] ?_
     refine cb (ca Qbc) fun r32=>?_
     refine z [1] ?_
     refine c ?_ ?_
     · refine z [2,31,1,8,12,10] ?_
       refine sU ?_
       refine z [12,10] ?_
       exact rt []
     refine z [9,11,4,6,30,40,31,3] ?_
     exact sgo (eR [(100,100)])
   refine z [14,15] ?_
   exact su (sj (hj28 _) (eR [(100,100)]))
 intro t27
 refine slpk ?_
 refine z [13,4,5] ?_
 refine sjq (fun s42=>[(1,.own 100),(2,i64 (0:Int)),(3,i64 (x0.B.length:Int)),(85,bl s42)]) (fun s42=>[(100,.bx 29 (Q5 x0))]) ?_ ?_
 · intro j40 hj41
   refine z [6,33,36] ?_
   refine cb (ca Qbc) fun r43=>?_
   refine z [30] ?_
   refine sifd 76 rfl ?_ ?_
   · refine z [23,23,23,38,30,23,23,23,38,1] ?_
     exact sj (hj41 _) (eR [(100,100)])
   refine z [22,22] ?_
   refine b fun r45 h46=>?_
   refine og' (c0 (Qbc _ h46)) ?_
   refine z [37,30] ?_
   refine sifd 81 rfl ?_ ?_
   · refine z [23,23,23,38,1] ?_
     exact sj (hj41 _) (eR [(100,100)])
   refine z [22,22] ?_
   refine b fun r47 h48=>?_
   refine og' (c0 (Qbc _ h48)) ?_
   refine z [37,1] ?_
   exact sj (hj41 _) (eR [(100,100)])
 intro s42
 refine c ?_ ?_
 · refine z [2,31,1,8,10] ?_
   exact rt []
 refine z [9,4,5,2,31,1,7] ?_
 refine sloopE 4 Lp.go (fun s69=>[(1,.own 100),(2,i64 (0:Int)),(3,i64 (x0.B.length:Int)),(6,i64 s69)]) (fun s69=>[(100,.bx 29 (Q5 x0))]) (fun t67=>[(1,.own 100),(2,i64 (0:Int))]) (fun t67=>[(100,.bx 29 (Q5 x0))]) (eR [(100,100)]) ?_ ?_
 · intro hj68 s69
   refine z [5,2,30,30,46,1] ?_
   refine c ?_ ?_
   · refine z [9,4,5,7,5] ?_
     refine b fun y70 h71=>?_
     refine b fun r72 h73=>?_
     refine b fun y74 h75=>?_
     refine b fun r76 h77=>?_
     refine sd ?_
     refine zd [[100],[100],[],[],[]] ?_
     refine dd [] (fun _ _ _ _=>c0 (Qd0 _ h73)) ?_
     refine zd [[100],[100],[],[],[]] ?_
     refine dd [] (fun _ _ _ _=>c0 (Vw _ h77)) ?_
     refine zd [[]] ?_
     refine de fol ?_
     refine z [4] ?_
     refine c ?_ ?_
     · refine z [2,31,1,8,12,10] ?_
       refine sU ?_
       refine z [12,10] ?_
       exact rt []
     refine z [9,11,4,6,30,40,31,3] ?_
     exact sgo (eR [(100,100)])
   refine z [14,15] ?_
   exact su (sj (hj68 _) (eR [(100,100)]))
 intro t67
 refine slpk ?_
 refine z [13,4,2] ?_
 refine cb (ca Wf) fun r78=>?_
 refine o (al' 101) ?_
 refine z [34,1,5,5] ?_
 refine b fun r80 h81=>?_
 refine b fun r82 h83=>?_
 refine sd ?_
 refine zd [[100],[100]] ?_
 refine dd [] (fun _ _ _ _=>c0 (Qd0 _ h81)) ?_
 refine zd [[101]] ?_
 refine dd [] (fun _ _ _ _=>c0 (Vw _ h83)) ?_
 refine zd [[]] ?_
 refine de fol ?_
 refine z [4] ?_
 refine c ?_ ?_
 · refine z [2,31,1,8,10] ?_
   exact rt []
 refine z [9,4,5] ?_
 refine sjq (fun s91=>[(2,i64 (0:Int)),(122,bl s91)]) (fun s91=>[]) ?_ ?_
 · intro j89 hj90
   refine sif (fun hb92=>?_) (fun hb92=>?_)
   · refine b fun r93 h94=>?_
     refine b fun r95 h96=>?_
     refine sd ?_
     refine zd [[100],[100],[],[]] ?_
     refine dd [] (fun _ _ _ _=>obk hb92 ops) ?_
     refine zd [[100],[100]] ?_
     refine dG [] (fun _ _ _ _=>c0 (Qd0 _ h94)) ?_
     refine zd [[101]] ?_
     refine dG [] (fun _ _ _ _=>c0 (Vw _ h96)) ?_
     refine zd [[],[]] ?_
     refine de fol ?_
     refine z [4] ?_
     exact sj (hj90 _) (eR [])
   refine sd ?_
   refine zd [[100],[100],[],[]] ?_
   refine dd [] (fun _ _ _ _=>obk hb92 ops) ?_
   refine zd [[],[],[],[],[],[],[]] ?_
   refine de fol ?_
   refine z [4] ?_
   exact sj (hj90 _) (eR [])
 intro s91
 refine c ?_ ?_
 · refine z [2,31,1,8,10] ?_
   exact rt []
 refine z [9,4,2,31,1,8] ?_
 exact rt []
theorem Qmc{n:Nat}{x0}:∀ r,Y5 n x0=some r->FnOk Tryz.prog 50 [Qu x0] [] (bl r) []:=by
 unfold Y5
 refine fs Tryz.func50 fun w S0 γ hγ=>?_
 refine z [2] ?_
 refine o (bx' 100) ?_
 refine z [31,1] ?_
 refine sjq (fun s7=>[(2,bl s7)]) (fun s7=>[]) ?_ ?_
 · intro j5 hj6
   refine z [6,33,36] ?_
   refine cb (ca Ql9) fun r8=>?_
   refine z [41,30] ?_
   refine sifd 7 rfl ?_ ?_
   · refine z [22,22] ?_
     refine b fun r10 h11=>?_
     refine og' (c0 (Qmb _ h11)) ?_
     refine z [22,38,30] ?_
     refine sifd 13 rfl ?_ ?_
     · refine z [22,22,22,22,22,22,22,38,31,1] ?_
       exact sj (hj6 _) (eR [])
     refine z [23,23,23,23,23,23,23,37,31,1] ?_
     exact sj (hj6 _) (eR [])
   refine z [23,23,23,23,37,30,23,23,23,23,23,23,23,37,31,1] ?_
   exact sj (hj6 _) (eR [])
 intro s7
 refine z [8] ?_
 exact rt []
theorem Qhl{n:Nat}{x0}{x1}{x2}:∀ r,Yg n x0 x1 x2=some r->FnOk Tryz.prog 14 [Qu x0,sli 3 (List.map Qb x1),sli 3 (List.map Qb x2)] [] (bl r) []:=by
 unfold Yg
 refine fs Tryz.func14 fun w S0 γ hγ=>?_
 refine z [2] ?_
 refine o (bx' 100) ?_
 refine z [31,1,5,2,31,1,7] ?_
 refine sloopE 0 Lp.go (fun s17=>[(1,sli 3 (List.map Qb x1)),(2,sli 3 (List.map Qb x2)),(3,.own 100),(6,bl false),(7,i64 s17)]) (fun s17=>[(100,.bx 31 (Qu x0))]) (fun t15=>[(1,sli 3 (List.map Qb x1)),(2,sli 3 (List.map Qb x2)),(3,.own 100),(6,bl false)]) (fun t15=>[(100,.bx 31 (Qu x0))]) (eR [(100,100)]) ?_ ?_
 · intro hj16 s17
   refine z [5,2,30,30,39,46,1] ?_
   refine c ?_ ?_
   · refine z [9,4,5,7,2,30,30] ?_
     refine b fun y18 h19=>?_
     refine z [43,42] ?_
     refine cb (ca Js) fun r20=>?_
     refine cb (ca Qc7) fun r22=>?_
     refine z [58,1] ?_
     refine c ?_ ?_
     · refine z [2,31,1,8,12,10] ?_
       refine sU ?_
       refine z [12,10] ?_
       exact rt []
     refine z [9,11,4,6,30,40,31,3] ?_
     exact sgo (eR [(100,100)])
   refine z [14,15] ?_
   exact su (sj (hj16 _) (eR [(100,100)]))
 intro t15
 refine slpk ?_
 refine z [13,4] ?_
 refine sjq (fun s28=>[(6,bl s28)]) (fun s28=>[]) ?_ ?_
 · intro j26 hj27
   refine z [6,32] ?_
   refine cb (ca Qmc) fun r29=>?_
   refine z [30] ?_
   refine sifd 23 rfl ?_ ?_
   · refine z [22,22,22,22,22,22,38,30] ?_
     refine sifd 31 rfl ?_ ?_
     · refine z [22,22,22,38,31,1] ?_
       exact sj (hj27 _) (eR [])
     refine z [23,23,23,37,31,1] ?_
     exact sj (hj27 _) (eR [])
   refine z [23,23,23,23,23,23,37,30,23,23,23,37,31,1] ?_
   exact sj (hj27 _) (eR [])
 intro s28
 refine z [8] ?_
 exact rt []
theorem Yz{x0}:∀ r,Vr x0=some r->FnOk Tryz.prog 98 [Qd x0] [] (Qb r) []:=by
 unfold Vr
 refine fs Tryz.func98 fun w S0 γ hγ=>?_
 refine z [2] ?_
 refine o (bx' 100) ?_
 refine o (al' 101) ?_
 refine z [1,2,33,45,36,33,45,36,33,36] ?_
 refine s1 (bld (l:=[bl x0.Num.Neg,sli 1 (List.map u32 x0.Num.Abs),sli 1 (List.map u32 x0.Den)]) pl_34.h ti_34.h Q2 ⟨_,_,_,rfl,rfl,rfl,rfl,(szk (k:=1) rfl rfl),⟨_,_,_,rfl,rfl,rfl,rfl,(szk (k:=1) rfl rfl),⟨_,_,_,rfl,rfl,rfl,rfl,(szk (k:=1) rfl rfl),rfl⟩⟩⟩ rfl) ?_
 refine z [34,1,8] ?_
 exact rt []
theorem Qii{n:Nat}{x0}:∀ r,Yu n x0=some r->FnOk Tryz.prog 99 [sli 3 (List.map Qd x0)] [] (sli 3 (List.map Qb r)) []:=by
 unfold Yu
 refine fs Tryz.func99 fun w S0 γ hγ=>?_
 refine z [2] ?_
 refine s1 (asg rfl (kLm (k:=3) Qb)) ?_
 refine z [1,2] ?_
 refine so (asgN (y:=100) (E:=34) (k:=3) rfl rfl) ?_
 refine z [1,5,2,31,1,7] ?_
 refine sloopE 0 (fun t=>t) (fun s17=>[(0,sli 3 (List.map Qd x0)),(2,sli 3 (List.map Qb ([]:List Qa))),(3,.own 100),(4,i64 s17.2)]) (fun s17=>[(100,.sl 34 3 (List.map Qb s17.1))]) (fun t15=>[(2,sli 3 (List.map Qb ([]:List Qa))),(3,.own 100)]) (fun t15=>[(100,.sl 34 3 (List.map Qb t15))]) (eR [(100,100)]) ?_ ?_
 · intro hj16 s17
   refine z [5,2,30,30,39,46,1] ?_
   refine c ?_ ?_
   · refine z [9,4,5,7,6,30,30,30] ?_
     refine b fun y18 h19=>?_
     refine z [43,42] ?_
     refine cb (ca Yz) fun r20=>?_
     refine so (bsl (y:=101) (ls:=List.map Qb ([r20]:List Qa)) Tryz.underlying26 ti_34.h rfl rfl rfl rfl rfl ⟨rfl,rfl,(by exact rfl),(by exact rfl),trivial⟩ rfl rfl) ?_
     refine b fun y22 h23=>?_
     refine o (app' 102) ?_
     refine z [31,3,11,4,6,30,40,31,3] ?_
     exact sgo (eR [(100,102)])
   refine z [14,15] ?_
   exact su (sj (hj16 _) (eR [(100,100)]))
 intro t15
 refine z [13,4,2,30,31,1,8] ?_
 refine fz 100 [2,3,19] [] ?_
 exact rt []
theorem Qpb{n:Nat}{x0}:∀ r,Qab n x0=some r->FnOk Tryz.prog 52 [Jw x0] [] (Q8 r) []:=by
 unfold Qab
 refine fs Tryz.func52 fun w S0 γ hγ=>?_
 refine z [2] ?_
 refine o (bx' 100) ?_
 refine o (al' 101) ?_
 refine z [1,5] ?_
 refine b fun r1 h2=>?_
 refine b fun r3 h4=>?_
 refine sd ?_
 refine zd [[100],[100]] ?_
 refine dd [] (fun _ _ _ _=>c0 (Yz _ h2)) ?_
 refine zd [[100],[100]] ?_
 refine dd [] (fun _ _ _ _=>c0 (Qii _ h4)) ?_
 refine dx [8,11] [102] (fun st mm ⟨a8,a11,_⟩ ⟨g102,_⟩=>og (bldO (l:=[.own 102,Qb r1,sli 3 (List.map Qb r3)]) [(102,127,14)] pl_68.h ti_68.h (Qgc (Jx (c1:=[.slice none 0 0]) (Qen rfl) (Jx (c1:=[.bool false,.slice none 0 0,.slice none 0 0]) (zo_of Q2) (Jx (c1:=[.slice none 0 0]) (zo_of (Kd (k:=3))) (Qew))))) ⟨(g102.trans rfl),trivial⟩ rfl ⟨_,_,_,(a8.trans rfl),rfl,rfl,rfl,(szk (k:=3) rfl rfl),⟨_,_,_,(a11.trans rfl),rfl,rfl,rfl,(szk (k:=1) rfl rfl),rfl⟩⟩ rfl)) ?_
 refine dd [103] (fun _ _ _ _=>al' 103) ?_
 refine zd [[103]] ?_
 refine de fol ?_
 refine z [4,5,2,31,1,7] ?_
 refine sloopE 0 (fun t=>t) (fun s37=>[(1,.own 100),(2,.own 101),(3,.own 103),(4,i64 s37.2)]) (fun s37=>[(100,.bx 48 (Jw x0)),(101,.bx 68 (Q8 (⟨[],(⟨false,[],[]⟩:Qa),[]⟩:Qt))),(103,.bx 68 (.agg [.own 102,Qb r1,sli 3 (List.map Qb r3)])),(102,.sl 127 14 (List.map J0 s37.1))]) (fun t35=>[(2,.own 101),(3,.own 103)]) (fun t35=>[(101,.bx 68 (Q8 (⟨[],(⟨false,[],[]⟩:Qa),[]⟩:Qt))),(103,.bx 68 (.agg [.own 102,Qb r1,sli 3 (List.map Qb r3)])),(102,.sl 127 14 (List.map J0 t35))]) (eR [(100,100),(101,101),(103,103),(102,102)]) ?_ ?_
 · intro hj36 s37
   refine z [5,2,30,33,36,39,46,1] ?_
   refine c ?_ ?_
   · refine z [9,4,5,7,2,33,36,30] ?_
     refine b fun y38 h39=>?_
     refine z [43,42] ?_
     refine o (al' 104) ?_
     refine z [34,1] ?_
     refine b fun r40 h41=>?_
     refine b fun r42 h43=>?_
     refine b fun r44 h45=>?_
     refine b fun r46 h47=>?_
     refine b fun r48 h49=>?_
     refine b fun y50 h51=>?_
     refine sd ?_
     refine zd [[103],[103],[104],[104]] ?_
     refine dd [] (fun _ _ _ _=>c0 (Yz _ h41)) ?_
     refine zd [[104],[104]] ?_
     refine dd [] (fun _ _ _ _=>c0 (Yz _ h43)) ?_
     refine zd [[104],[104]] ?_
     refine dd [] (fun _ _ _ _=>c0 (Yz _ h45)) ?_
     refine zd [[104],[104]] ?_
     refine dd [] (fun _ _ _ _=>c0 (Yz _ h47)) ?_
     refine zd [[104],[104]] ?_
     refine dd [] (fun _ _ _ _=>c0 (Qii _ h49)) ?_
     refine zd [[104],[104]] ?_
     refine dx [29,32,35,38,41,43] [] (fun st mm ⟨a29,a32,a35,a38,a41,a43,_⟩ _=>og (bld (l:=[Qb r40,Qb r42,Qb r44,Qb r46,sli 3 (List.map Qb r48),bl y38.Ok]) Q2p.h Qnv.h Qc6 ⟨_,_,_,(a29.trans rfl),rfl,rfl,rfl,(szk (k:=3) rfl rfl),⟨_,_,_,(a32.trans rfl),rfl,rfl,rfl,(szk (k:=3) rfl rfl),⟨_,_,_,(a35.trans rfl),rfl,rfl,rfl,(szk (k:=3) rfl rfl),⟨_,_,_,(a38.trans rfl),rfl,rfl,rfl,(szk (k:=3) rfl rfl),⟨_,_,_,(a41.trans rfl),rfl,rfl,rfl,(szk (k:=1) rfl rfl),⟨_,_,_,(a43.trans rfl),rfl,rfl,rfl,(szk (k:=1) rfl rfl),rfl⟩⟩⟩⟩⟩⟩ rfl)) ?_
     refine dx [44] [105] (fun st mm ⟨a44,_⟩ ⟨g105,_⟩=>og (bsl (y:=105) (ls:=List.map J0 ([(⟨r40,r42,r44,r46,r48,y38.Ok⟩:Qv)]:List Qv)) Tryz.underlying66 Qnv.h rfl rfl rfl rfl rfl ⟨rfl,(a44.trans rfl),(by exact rfl),(by exact rfl),trivial⟩ (g105.trans rfl) rfl)) ?_
     refine dd [102,105,106] (fun _ _ _ _=>app' 106) ?_
     refine zd [[103]] ?_
     refine dd [103] (fun _ _ _ _=>stP (.agg [.own 106,Qb r1,sli 3 (List.map Qb r3)]) [0]) ?_
     refine de fol ?_
     refine z [11,4,6,30,40,31,3] ?_
     exact sgo (eR [(100,100),(101,101),(103,103),(102,106)])
   refine z [14,15] ?_
   exact su (sj (hj36 _) (eR [(101,101),(103,103),(102,102)]))
 intro t35
 refine z [13,4,2,32,34,1,8] ?_
 refine fz 102 [48] [101,103] ?_
 exact rt []
theorem Qa3{n:Nat}{x0}{x1}:∀ r,Vt n x0 x1=some r->FnOk Tryz.prog 97 [sli 3 (List.map Qb x0),sli 3 (List.map Qb x1)] [] (bl r) []:=by
 unfold Vt
 refine fs Tryz.func97 fun w S0 γ hγ=>?_
 refine z [2,31,1,5,2,30,39,30,39,56,1] ?_
 refine c ?_ ?_
 · refine z [2,31,1,8,10] ?_
   exact rt []
 refine z [9,4,5,2,31,1,7] ?_
 refine sloopE 0 Lp.go (fun s17=>[(0,sli 3 (List.map Qb x0)),(1,sli 3 (List.map Qb x1)),(4,bl false),(5,i64 s17)]) (fun s17=>[]) (fun t15=>[(4,bl false)]) (fun t15=>[]) eI ?_ ?_
 · intro hj16 s17
   refine z [5,2,30,30,39,46,1] ?_
   refine c ?_ ?_
   · refine z [9,4,5,7,5] ?_
     refine b fun y18 h19=>?_
     refine b fun y20 h21=>?_
     refine b fun r22 h23=>?_
     refine sd ?_
     refine zd [[],[],[],[],[],[],[],[]] ?_
     refine dd [] (fun _ _ _ _=>c0 (Vw _ h23)) ?_
     refine zd [[]] ?_
     refine de fol ?_
     refine z [4] ?_
     refine c ?_ ?_
     · refine z [2,31,1,8,12,10] ?_
       refine sU ?_
       refine z [12,10] ?_
       exact rt []
     refine z [9,11,4,6,30,40,31,3] ?_
     exact sgo eI
   refine z [14,15] ?_
   exact su (sj (hj16 _) eI)
 intro t15
 refine slpk ?_
 refine z [13,4,2,31,1,8] ?_
 exact rt []
theorem Z2{x0}:∀ r,Ya x0=some r->FnOk Tryz.prog 67 [J0 x0] [] (sli 3 (List.map Qb r)) []:=by
 unfold Ya
 refine fs Tryz.func67 fun w S0 γ hγ=>?_
 refine z [2] ?_
 refine o (bx' 100) ?_
 refine s1 (asg rfl (kLm (k:=3) Qb)) ?_
 refine z [1,2,33,36,33,36,33,36,33,36] ?_
 refine so (bsl (y:=101) (ls:=List.map Qb ([x0.T,x0.Want,x0.H,x0.Err]:List Qa)) Tryz.underlying26 ti_34.h rfl rfl rfl rfl rfl ⟨rfl,rfl,(by exact rfl),(by exact rfl),rfl,rfl,(by exact rfl),(by exact rfl),rfl,rfl,(by exact rfl),(by exact rfl),rfl,rfl,(by exact rfl),(by exact rfl),trivial⟩ rfl rfl) ?_
 refine z [31,1,8] ?_
 refine fz 101 [2,11] [] ?_
 exact rt []
theorem Qnk{n:Nat}{x0}{x1}:∀ r,Zg n x0 x1=some r->FnOk Tryz.prog 51 [Q8 x0,Q8 x1] [] (bl r) []:=by
 unfold Zg
 refine fs Tryz.func51 fun w S0 γ hγ=>?_
 refine z [2] ?_
 refine o (bx' 100) ?_
 refine o (bx' 101) ?_
 refine z [31,1,5] ?_
 refine sjq (fun s7=>[(2,.own 100),(3,.own 101),(4,bl false),(30,bl s7)]) (fun s7=>[(100,.bx 68 (Q8 x0)),(101,.bx 68 (Q8 x1))]) ?_ ?_
 · intro j5 hj6
   refine z [6,33,36,39,33,36,39,56,30] ?_
   refine sifd 15 rfl ?_ ?_
   · refine z [23,23,23,23,23,23,38,30,23,23,23,23,23,23,38,1] ?_
     exact sj (hj6 _) (eR [(100,100),(101,101)])
   refine z [22,22,22,22] ?_
   refine b fun r8 h9=>?_
   refine og' (c0 (Vw _ h9)) ?_
   refine z [22,37,30] ?_
   refine sifd 23 rfl ?_ ?_
   · refine z [23,23,23,23,23,23,38,1] ?_
     exact sj (hj6 _) (eR [(100,100),(101,101)])
   refine z [22,22,22,22] ?_
   refine b fun r10 h11=>?_
   refine og' (c0 (Qa3 _ h11)) ?_
   refine z [22,37,1] ?_
   exact sj (hj6 _) (eR [(100,100),(101,101)])
 intro s7
 refine c ?_ ?_
 · refine z [2,31,1,8,10] ?_
   exact rt []
 refine z [9,4,5,2,31,1,7] ?_
 refine sloopE 0 Lp.go (fun s70=>[(2,.own 100),(3,.own 101),(4,bl false),(5,i64 s70)]) (fun s70=>[(100,.bx 68 (Q8 x0)),(101,.bx 68 (Q8 x1))]) (fun t68=>[(4,bl false)]) (fun t68=>[]) (eR [(100,100),(101,101)]) ?_ ?_
 · intro hj69 s70
   refine z [5,2,30,33,36,39,46,1] ?_
   refine c ?_ ?_
   · refine z [9,4,5,7,2,33,36,30] ?_
     refine b fun y71 h72=>?_
     refine z [43,42] ?_
     refine o (al' 102) ?_
     refine z [34,1,2,33,36,30] ?_
     refine b fun y73 h74=>?_
     refine z [43,42] ?_
     refine o (al' 103) ?_
     refine z [34,1] ?_
     refine sjq (fun s87=>[(2,.own 100),(3,.own 101),(4,bl false),(5,i64 s70),(68,bl s87)]) (fun s87=>[(100,.bx 68 (Q8 x0)),(101,.bx 68 (Q8 x1))]) ?_ ?_
     · intro j85 hj86
       refine sif (fun hb88=>?_) (fun hb88=>?_)
       · refine sd ?_
         refine zd [[102],[102],[103],[103],[]] ?_
         refine dd [] (fun _ _ _ _=>obk hb88 ops) ?_
         refine zd [[],[],[],[],[],[],[],[],[],[],[],[],[],[],[]] ?_
         refine de fol ?_
         refine z [4] ?_
         exact sj (hj86 _) (eR [(100,100),(101,101)])
       refine b fun r89 h90=>?_
       refine b fun r91 h92=>?_
       refine b fun r93 h94=>?_
       refine sif (fun hb95=>?_) (fun hb95=>?_)
       · refine sd ?_
         refine zd [[102],[102],[103],[103],[]] ?_
         refine dd [] (fun _ _ _ _=>obk hb88 ops) ?_
         refine zd [[102]] ?_
         refine dG [] (fun _ _ _ _=>c0 (Z2 _ h90)) ?_
         refine zd [[103]] ?_
         refine dG [] (fun _ _ _ _=>c0 (Z2 _ h92)) ?_
         refine dG [] (fun _ _ _ _=>c0 (Qa3 _ h94)) ?_
         refine zd [[],[]] ?_
         refine dd [] (fun _ _ _ _=>obk hb95 ops) ?_
         refine zd [[],[],[],[],[],[],[]] ?_
         refine de fol ?_
         refine z [4] ?_
         exact sj (hj86 _) (eR [(100,100),(101,101)])
       refine b fun r96 h97=>?_
       refine sd ?_
       refine zd [[102],[102],[103],[103],[]] ?_
       refine dd [] (fun _ _ _ _=>obk hb88 ops) ?_
       refine zd [[102]] ?_
       refine dG [] (fun _ _ _ _=>c0 (Z2 _ h90)) ?_
       refine zd [[103]] ?_
       refine dG [] (fun _ _ _ _=>c0 (Z2 _ h92)) ?_
       refine dG [] (fun _ _ _ _=>c0 (Qa3 _ h94)) ?_
       refine zd [[],[]] ?_
       refine dd [] (fun _ _ _ _=>obk hb95 ops) ?_
       refine zd [[102],[102],[103],[103]] ?_
       refine dG [] (fun _ _ _ _=>c0 (Qa3 _ h97)) ?_
       refine zd [[],[]] ?_
       refine de fol ?_
       refine z [4] ?_
       exact sj (hj86 _) (eR [(100,100),(101,101)])
     intro s87
     refine c ?_ ?_
     · refine z [2,31,1,8,12,10] ?_
       refine sU ?_
       refine z [12,10] ?_
       exact rt []
     refine z [9,11,4,6,30,40,31,3] ?_
     exact sgo (eR [(100,100),(101,101)])
   refine z [14,15] ?_
   exact su (sj (hj69 _) (eR []))
 intro t68
 refine slpk ?_
 refine z [13,4,2,31,1,8] ?_
 exact rt []
theorem Wr{n:Nat}{x0}{x1}:∀ r,J6 n x0 x1=some r->FnOk Tryz.prog 15 [Jw x0,Q8 x1] [] (bl r) []:=by
 unfold J6
 refine fs Tryz.func15 fun w S0 γ hγ=>?_
 refine z [2] ?_
 refine o (bx' 100) ?_
 refine o (bx' 101) ?_
 refine z [31,1,5] ?_
 refine b fun r1 h2=>?_
 refine b fun r3 h4=>?_
 refine sd ?_
 refine zd [[100]] ?_
 refine dd [] (fun _ _ _ _=>c0 (Qpb _ h2)) ?_
 refine zd [[101]] ?_
 refine dd [] (fun _ _ _ _=>c0 (Qnk _ h4)) ?_
 refine zd [[]] ?_
 refine de fol ?_
 refine z [4,8] ?_
 exact rt []
theorem Qan{n:Nat}{x0}:∀ r,K5 n x0=some r->FnOk Tryz.prog 18 [sli 3 (List.map Qb x0)] [] (sli 3 (List.map Qb r)) []:=by
 unfold K5
 refine fs Tryz.func18 fun w S0 γ hγ=>?_
 refine z [2] ?_
 refine s1 (asg rfl (kLm (k:=3) Qb)) ?_
 refine z [1,2] ?_
 refine so (asgN (y:=100) (E:=34) (k:=3) rfl rfl) ?_
 refine z [1,5,2,31,1,7] ?_
 refine sloopE 0 (fun t=>t) (fun s17=>[(0,sli 3 (List.map Qb x0)),(2,sli 3 (List.map Qb ([]:List Qa))),(3,.own 100),(4,i64 s17.2)]) (fun s17=>[(100,.sl 34 3 (List.map Qb s17.1))]) (fun t15=>[(2,sli 3 (List.map Qb ([]:List Qa))),(3,.own 100)]) (fun t15=>[(100,.sl 34 3 (List.map Qb t15))]) (eR [(100,100)]) ?_ ?_
 · intro hj16 s17
   refine z [5,2,30,30,39,46,1] ?_
   refine c ?_ ?_
   · refine z [9,4,5,7,6,30,30,30] ?_
     refine b fun y18 h19=>?_
     refine z [43,42] ?_
     refine cb (ca Js) fun r20=>?_
     refine so (bsl (y:=101) (ls:=List.map Qb ([r20]:List Qa)) Tryz.underlying26 ti_34.h rfl rfl rfl rfl rfl ⟨rfl,rfl,(by exact rfl),(by exact rfl),trivial⟩ rfl rfl) ?_
     refine b fun y22 h23=>?_
     refine o (app' 102) ?_
     refine z [31,3,11,4,6,30,40,31,3] ?_
     exact sgo (eR [(100,102)])
   refine z [14,15] ?_
   exact su (sj (hj16 _) (eR [(100,100)]))
 intro t15
 refine z [13,4,2,30,31,1,8] ?_
 refine fz 100 [2,3,19] [] ?_
 exact rt []
theorem Qmd{x0}:∀ r,Qal x0=some r->FnOk Tryz.prog 100 [i64 x0] [] (i64 r) []:=by
 unfold Qal
 refine fs Tryz.func100 fun w S0 γ hγ=>?_
 refine z [2,31,1,2,30,88,89,31,1,8] ?_
 exact rt []
theorem Qc9{x0}:∀ r,Wv x0=some r->FnOk Tryz.prog 205 [Qb x0] [] (bl r) []:=by
 unfold Wv
 refine fs Tryz.func205 fun w S0 γ hγ=>?_
 refine z [2] ?_
 refine o (bx' 100) ?_
 refine z [31,1,2,33,36,39,41,31,1,8] ?_
 exact rt []
theorem Zy{n:Nat}{x0}{x1}:∀ r,K3 n x0 x1=some r->FnOk Tryz.prog 162 [Qb x0,Qb x1] [] (Qb r) []:=by
 unfold K3
 refine fs Tryz.func162 fun w S0 γ hγ=>?_
 refine z [2] ?_
 refine o (bx' 100) ?_
 refine o (bx' 101) ?_
 refine o (al' 102) ?_
 refine z [1,5] ?_
 refine b fun r1 h2=>?_
 refine b fun r3 h4=>?_
 refine b fun r5 h6=>?_
 refine sd ?_
 refine zd [[100],[100],[101],[101],[],[100],[100],[101],[101]] ?_
 refine dd [] (fun _ _ _ _=>c0 (We _ h2)) ?_
 refine zd [[100],[100],[101],[101]] ?_
 refine dd [] (fun _ _ _ _=>c0 (We _ h4)) ?_
 refine dx [9,14,19] [] (fun st mm ⟨a9,a14,a19,_⟩ _=>og (bld (l:=[bl (x0.Neg != x1.Neg),sli 1 (List.map u32 r1),sli 1 (List.map u32 r3)]) pl_34.h ti_34.h Q2 ⟨_,_,_,(a9.trans rfl),rfl,rfl,rfl,(szk (k:=1) rfl rfl),⟨_,_,_,(a14.trans rfl),rfl,rfl,rfl,(szk (k:=1) rfl rfl),⟨_,_,_,(a19.trans rfl),rfl,rfl,rfl,(szk (k:=1) rfl rfl),rfl⟩⟩⟩ rfl)) ?_
 refine dd [] (fun _ _ _ _=>c0 (Js _ h6)) ?_
 refine zd [[102]] ?_
 refine de fol ?_
 refine z [4,8] ?_
 exact rt []
theorem Qgt{n:Nat}{x0}{x1}:∀ r,Ky n x0 x1=some r->FnOk Tryz.prog 160 [Qb x0,i64 x1] [] (bl r) []:=by
 unfold Ky
 refine fs Tryz.func160 fun w S0 γ hγ=>?_
 refine z [2] ?_
 refine o (bx' 100) ?_
 refine z [31,1,2,32] ?_
 refine cb (ca Qgs) fun r1=>?_
 refine z [30,58,31,1,8] ?_
 exact rt []
theorem Qd1{n:Nat}{x0}{x1}:∀ r,Kn n x0 x1=some r->FnOk Tryz.prog 102 [sli 3 (List.map Qb x0),i64 x1] [] (i64 r) []:=by
 unfold Kn
 refine fs Tryz.func102 fun w S0 γ hγ=>?_
 refine z [2,31,1,5,2,31,1,7] ?_
 refine sloopE 0 Lp.go (fun s13=>[(0,sli 3 (List.map Qb x0)),(1,i64 x1),(4,i64 (0:Int)),(5,i64 s13)]) (fun s13=>[]) (fun t11=>[(0,sli 3 (List.map Qb x0)),(4,i64 (0:Int))]) (fun t11=>[]) eI ?_ ?_
 · intro hj12 s13
   refine z [5,2,30,30,39,46,1] ?_
   refine c ?_ ?_
   · refine z [9,4,5,7,2,30,30] ?_
     refine b fun y14 h15=>?_
     refine z [43,42,30] ?_
     refine cb (ca Qgt) fun r16=>?_
     refine z [44,1] ?_
     refine c ?_ ?_
     · refine z [2,30,31,1,8,12,10] ?_
       refine sU ?_
       refine z [12,10] ?_
       exact rt []
     refine z [9,11,4,6,30,40,31,3] ?_
     exact sgo eI
   refine z [14,15] ?_
   exact su (sj (hj12 _) eI)
 intro t11
 refine slpk ?_
 refine z [13,4,2,30,39,31,1,8] ?_
 exact rt []
theorem Qlt{n:Nat}{x0}{x1}{x2}{x3}:∀ r,W7 n x0 x1 x2 x3=some r->FnOk Tryz.prog 105 [Qu x0,Qb x1,Qb x2,i64 x3] [] (Qb r) []:=by
 unfold W7
 refine fs Tryz.func105 fun w S0 γ hγ=>?_
 refine z [2] ?_
 refine o (bx' 100) ?_
 refine o (bx' 101) ?_
 refine o (bx' 102) ?_
 refine o (al' 103) ?_
 refine z [1,5] ?_
 refine b fun y1 h2=>?_
 refine b fun r3 h4=>?_
 refine b fun r5 h6=>?_
 refine sd ?_
 refine zd [[101],[102],[100],[],[100],[],[],[]] ?_
 refine dd [] (fun _ _ _ _=>c0 (Zy _ h4)) ?_
 refine dd [] (fun _ _ _ _=>c0 (W9 _ h6)) ?_
 refine zd [[103]] ?_
 refine de fol ?_
 refine z [4,8] ?_
 exact rt []
theorem Qme{n:Nat}{x0}{x1}{x2}:∀ r,Xf n x0 x1 x2=some r->FnOk Tryz.prog 104 [Qu x0,Qb x1,sli 3 (List.map Qb x2)] [] (Xj r) []:=by
 unfold Xf
 refine fs Tryz.func104 fun w S0 γ hγ=>?_
 refine z [2] ?_
 refine o (bx' 100) ?_
 refine o (bx' 101) ?_
 refine o (al' 102) ?_
 refine z [1,5] ?_
 refine b fun r1 h2=>?_
 refine sd ?_
 refine zd [[101],[],[100],[100]] ?_
 refine dd [] (fun _ _ _ _=>c0 (Qan _ h2)) ?_
 refine dx [7,8,11] [] (fun st mm ⟨a7,a8,a11,_⟩ _=>og (bld (l:=[Qb x1,sli 3 (List.map Qb x2),sli 3 (List.map Qb r1)]) Q63.h Qyf.h Qfu ⟨_,_,_,(a7.trans rfl),rfl,rfl,rfl,(szk (k:=3) rfl rfl),⟨_,_,_,(a8.trans rfl),rfl,rfl,rfl,(szk (k:=1) rfl rfl),⟨_,_,_,(a11.trans rfl),rfl,rfl,rfl,(szk (k:=1) rfl rfl),rfl⟩⟩⟩ rfl)) ?_
 refine zd [[102]] ?_
 refine de fol ?_
 refine z [4,8] ?_
 exact rt []
theorem Qhm{n:Nat}{x0}:∀ r,Yd n x0=some r->FnOk Tryz.prog 63 [Qb x0] [] (Qb r) []:=by
 unfold Yd
 refine fs Tryz.func63 fun w S0 γ hγ=>?_
 refine z [2] ?_
 refine o (bx' 100) ?_
 refine o (al' 101) ?_
 refine z [1,2,33,36,44,33,36,33,36] ?_
 refine s1 (bld (l:=[bl (!x0.Neg),sli 1 (List.map u32 x0.N),sli 1 (List.map u32 x0.D)]) pl_34.h ti_34.h Q2 ⟨_,_,_,rfl,rfl,rfl,rfl,(szk (k:=1) rfl rfl),⟨_,_,_,rfl,rfl,rfl,rfl,(szk (k:=1) rfl rfl),⟨_,_,_,rfl,rfl,rfl,rfl,(szk (k:=1) rfl rfl),rfl⟩⟩⟩ rfl) ?_
 refine cb (ca Js) fun r1=>?_
 refine z [34,1,8] ?_
 exact rt []
theorem Qbd{n:Nat}{x0}{x1}:∀ r,Wa n x0 x1=some r->FnOk Tryz.prog 21 [Qb x0,Qb x1] [] (Qb r) []:=by
 unfold Wa
 refine fs Tryz.func21 fun w S0 γ hγ=>?_
 refine z [2] ?_
 refine o (bx' 100) ?_
 refine o (bx' 101) ?_
 refine o (al' 102) ?_
 refine z [1,5] ?_
 refine b fun r1 h2=>?_
 refine b fun r3 h4=>?_
 refine sd ?_
 refine zd [[100],[101]] ?_
 refine dd [] (fun _ _ _ _=>c0 (Qhm _ h2)) ?_
 refine dd [] (fun _ _ _ _=>c0 (W9 _ h4)) ?_
 refine zd [[102]] ?_
 refine de fol ?_
 refine z [4,8] ?_
 exact rt []
theorem Qd2{n:Nat}{x0}{x1}:∀ r,K4 n x0 x1=some r->FnOk Tryz.prog 22 [Qb x0,Qb x1] [] (Qb r) []:=by
 unfold K4
 refine fs Tryz.func22 fun w S0 γ hγ=>?_
 refine z [2] ?_
 refine o (bx' 100) ?_
 refine o (bx' 101) ?_
 refine o (al' 102) ?_
 refine z [1,5] ?_
 refine b fun r1 h2=>?_
 refine b fun r3 h4=>?_
 refine b fun r5 h6=>?_
 refine sd ?_
 refine zd [[100],[100],[101],[101],[],[100],[100],[101],[101]] ?_
 refine dd [] (fun _ _ _ _=>c0 (We _ h2)) ?_
 refine zd [[100],[100],[101],[101]] ?_
 refine dd [] (fun _ _ _ _=>c0 (We _ h4)) ?_
 refine dx [9,14,19] [] (fun st mm ⟨a9,a14,a19,_⟩ _=>og (bld (l:=[bl (x0.Neg != x1.Neg),sli 1 (List.map u32 r1),sli 1 (List.map u32 r3)]) pl_34.h ti_34.h Q2 ⟨_,_,_,(a9.trans rfl),rfl,rfl,rfl,(szk (k:=1) rfl rfl),⟨_,_,_,(a14.trans rfl),rfl,rfl,rfl,(szk (k:=1) rfl rfl),⟨_,_,_,(a19.trans rfl),rfl,rfl,rfl,(szk (k:=1) rfl rfl),rfl⟩⟩⟩ rfl)) ?_
 refine dd [] (fun _ _ _ _=>c0 (Js _ h6)) ?_
 refine zd [[102]] ?_
 refine de fol ?_
 refine z [4,8] ?_
 exact rt []
theorem Qn5{n:Nat}{x0}{x1}:∀ r,Zx n x0 x1=some r->FnOk Tryz.prog 246 [Qb x0,i64 x1] [] (.tup [Qb r.1,bl r.2]) []:=by
 unfold Zx
 refine fs Tryz.func246 fun w S0 γ hγ=>?_
 refine z [2] ?_
 refine o (bx' 100) ?_
 refine o (al' 101) ?_
 refine z [31,1,5] ?_
 refine sjq (fun s5=>[(1,i64 x1),(2,.own 100),(4,.own 101),(5,bl false),(22,bl s5)]) (fun s5=>[(100,.bx 34 (Qb x0)),(101,.bx 34 (Qb (⟨false,[],[]⟩:Qa)))]) ?_ ?_
 · intro j3 hj4
   refine z [6,30,46,30] ?_
   refine sifd 11 rfl ?_ ?_
   · refine z [23,23,38,30,23,23,23,24,24,23,38,1] ?_
     exact sj (hj4 _) (eR [(100,100),(101,101)])
   refine z [22,22,37,30] ?_
   refine sifd 15 rfl ?_ ?_
   · refine z [23,23,23,24,24,23,38,1] ?_
     exact sj (hj4 _) (eR [(100,100),(101,101)])
   refine z [22,22,22] ?_
   refine sifd 18 rfl ?_ ?_
   · refine z [22] ?_
     refine b fun r6 h7=>?_
     refine og' (c0 (Qc9 _ h7)) ?_
     refine z [22,37,1] ?_
     exact sj (hj4 _) (eR [(100,100),(101,101)])
   refine z [23,23,22,37,1] ?_
   exact sj (hj4 _) (eR [(100,100),(101,101)])
 intro s5
 refine c ?_ ?_
 · refine z [2] ?_
   refine cb (ca Wf) fun r8=>?_
   refine z [34,31,1,8,10] ?_
   exact rt []
 refine z [9,4,2] ?_
 refine cb (ca Wf) fun r10=>?_
 refine o (al' 102) ?_
 refine z [34,1,5,2,31,1,7] ?_
 refine sloopE 0 (fun t=>t) (fun s20=>[(1,i64 x1),(2,.own 100),(4,.own 101),(5,bl false),(6,.own 102),(7,i64 s20.2)]) (fun s20=>[(100,.bx 34 (Qb x0)),(101,.bx 34 (Qb (⟨false,[],[]⟩:Qa))),(102,.bx 34 (Qb s20.1))]) (fun t18=>[(1,i64 x1),(2,.own 100),(4,.own 101),(5,bl false),(6,.own 102)]) (fun t18=>[(100,.bx 34 (Qb x0)),(101,.bx 34 (Qb (⟨false,[],[]⟩:Qa))),(102,.bx 34 (Qb t18))]) (eR [(100,100),(101,101),(102,102)]) ?_ ?_
 · intro hj19 s20
   refine z [5,2,30,30,46,1] ?_
   refine c ?_ ?_
   · refine z [9,4,5,7,6,32,32] ?_
     refine cb (ca Zy) fun r21=>?_
     refine z [34,3,11,4,6,30,40,31,3] ?_
     exact sgo (eR [(100,100),(101,101),(102,102)])
   refine z [14,15] ?_
   exact su (sj (hj19 _) (eR [(100,100),(101,101),(102,102)]))
 intro t18
 refine z [13,4,5,2,31,1,7] ?_
 refine sloopE 2 (fun t=>t) (fun s31=>[(1,i64 x1),(2,.own 100),(4,.own 101),(5,bl false),(6,.own 102),(8,i64 s31.2)]) (fun s31=>[(100,.bx 34 (Qb x0)),(101,.bx 34 (Qb (⟨false,[],[]⟩:Qa))),(102,.bx 34 (Qb s31.1))]) (fun t29=>[(4,.own 101),(5,bl false),(6,.own 102)]) (fun t29=>[(101,.bx 34 (Qb (⟨false,[],[]⟩:Qa))),(102,.bx 34 (Qb t29))]) (eR [(100,100),(101,101),(102,102)]) ?_ ?_
 · intro hj30 s31
   refine z [5,2,30,30,47,1] ?_
   refine c ?_ ?_
   · refine z [9,4,5,7,6,32,32] ?_
     refine cb (ca Qd2) fun r32=>?_
     refine z [34,3,11,4,6,30,49,31,3] ?_
     exact sgo (eR [(100,100),(101,101),(102,102)])
   refine z [14,15] ?_
   exact su (sj (hj30 _) (eR [(101,101),(102,102)]))
 intro t29
 refine z [13,4,2,32,34,31,1,8] ?_
 exact rt []
theorem Qij{n:Nat}{x0}{x1}{x2}{x3}:∀ r,Qaa n x0 x1 x2 x3=some r->FnOk Tryz.prog 206 [i64 x0,i64 x1,Qb x2,Qb x3] [] (.tup [Qb r.1,bl r.2]) []:=by
 unfold Qaa
 refine fs Tryz.func206 fun w S0 γ hγ=>?_
 refine z [2] ?_
 refine o (bx' 100) ?_
 refine o (bx' 101) ?_
 refine o (al' 102) ?_
 refine z [31,1,5,2,30,41,1] ?_
 refine c ?_ ?_
 · refine z [2,32] ?_
   refine cb (ca Qhm) fun r1=>?_
   refine z [34,31,1,8,10] ?_
   exact rt []
 refine z [9,4,5,2,30,41,1] ?_
 refine c ?_ ?_
 · refine z [2,32,32] ?_
   refine cb (ca W9) fun r3=>?_
   refine z [34,31,1,8,10] ?_
   exact rt []
 refine z [9,4,5,2,30,41,1] ?_
 refine c ?_ ?_
 · refine z [2,32,32] ?_
   refine cb (ca Qbd) fun r5=>?_
   refine z [34,31,1,8,10] ?_
   exact rt []
 refine z [9,4,5,2,30,41,1] ?_
 refine c ?_ ?_
 · refine z [2,32,32] ?_
   refine cb (ca Zy) fun r7=>?_
   refine z [34,31,1,8,10] ?_
   exact rt []
 refine z [9,4,5,2,30,41,1] ?_
 refine c ?_ ?_
 · refine z [2,32,30] ?_
   refine cb (ca Qn5) fun r9=>?_
   refine z [35,35,34,31,1,8,10] ?_
   exact rt []
 refine z [9,4,5,2,32] ?_
 refine cb (ca Qc9) fun r11=>?_
 refine z [1] ?_
 refine c ?_ ?_
 · refine z [2,32,34,31,1,8,10] ?_
   exact rt []
 refine z [9,4,2,32,32] ?_
 refine cb (ca Qd2) fun r13=>?_
 refine z [34,31,1,8] ?_
 exact rt []
theorem Qnl{n:Nat}{x0}{x1}{x2}:∀ r,X0 n x0 x1 x2=some r->FnOk Tryz.prog 161 [Jo x0,Xj x1,.own 0] [(0,.sl 34 3 (List.map Qb x2))] (.tup [Qb r.1,bl r.2]) [(0,.sl 34 3 (List.map Qb x2))]:=by
 unfold X0
 refine fs Tryz.func161 fun w S0 γ hγ=>?_
 refine z [2] ?_
 refine o (bx' 100) ?_
 refine o (bx' 101) ?_
 refine o (al' 102) ?_
 refine z [31,1,5,2,33,36,41,1] ?_
 refine c ?_ ?_
 · refine z [2,33,36,34,31,1,8,10] ?_
   exact rt [(0,0)]
 refine z [9,4,5,2,33,36,41,1] ?_
 refine c ?_ ?_
 · refine z [2,33,36,34,31,1,8,10] ?_
   exact rt [(0,0)]
 refine z [9,4,5,2,33,36,41,1] ?_
 refine c ?_ ?_
 · refine z [2,33,36,33,36] ?_
   refine b fun y1 h2=>?_
   refine z [43,42,34,31,1,8,10] ?_
   exact rt [(0,0)]
 refine z [9,4,5,2,33,36,41,1] ?_
 refine c ?_ ?_
 · refine z [2,33,36,33,36] ?_
   refine b fun y3 h4=>?_
   refine z [43,42,34,31,1,8,10] ?_
   exact rt [(0,0)]
 refine z [9,4,5] ?_
 refine sjq (fun s7=>[(2,.own 0),(3,.own 100),(6,.own 102),(7,bl false),(43,bl s7)]) (fun s7=>[(0,.sl 34 3 (List.map Qb x2)),(100,.bx 144 (Jo x0)),(102,.bx 34 (Qb (⟨false,[],[]⟩:Qa)))]) ?_ ?_
 · intro j5 hj6
   refine z [6,33,36,41,30] ?_
   refine sifd 39 rfl ?_ ?_
   · refine z [23,23,23,38,1] ?_
     exact sj (hj6 _) (eR [(0,0),(100,100),(102,102)])
   refine z [22,22,22,37,1] ?_
   exact sj (hj6 _) (eR [(0,0),(100,100),(102,102)])
 intro s7
 refine c ?_ ?_
 · refine z [5] ?_
   refine b fun y8 h9=>?_
   refine b fun y10 h11=>?_
   refine b fun r12 h13=>?_
   refine sd ?_
   refine zd [[100],[100],[100],[100],[],[100],[100]] ?_
   refine dx [48,50] [0] (fun st mm ⟨a48,a50,_⟩ ⟨g0,_⟩=>og (ixO (f:=Qb) (g0.trans rfl) Tryz.underlying26 ti_34.h h9 rfl (a48.trans rfl) (a50.trans rfl))) ?_
   refine dx [51] [0] (fun st mm ⟨a51,_⟩ ⟨g0,_⟩=>og (ldO (f:=Qb) [] (g0.trans rfl) (Qah h9) (by exact rfl) off0 sh_34.h (by exact rfl) (by exact rfl) rfl (a51.trans rfl))) ?_
   refine zd [[],[100],[100]] ?_
   refine dx [53,55] [0] (fun st mm ⟨a53,a55,_⟩ ⟨g0,_⟩=>og (ixO (f:=Qb) (g0.trans rfl) Tryz.underlying26 ti_34.h h11 rfl (a53.trans rfl) (a55.trans rfl))) ?_
   refine dx [56] [0] (fun st mm ⟨a56,_⟩ ⟨g0,_⟩=>og (ldO (f:=Qb) [] (g0.trans rfl) (Qah h11) (by exact rfl) off0 sh_34.h (by exact rfl) (by exact rfl) rfl (a56.trans rfl))) ?_
   refine dd [] (fun _ _ _ _=>c0 (Qij _ h13)) ?_
   refine zd [[],[],[102],[]] ?_
   refine de fol ?_
   refine z [4,8,10] ?_
   exact rt [(0,0)]
 refine z [9,4,5] ?_
 refine b fun y14 h15=>?_
 refine b fun y16 h17=>?_
 refine b fun r18 h19=>?_
 refine sd ?_
 refine zd [[100],[100],[],[100],[100],[0],[0],[],[100],[100],[0],[0]] ?_
 refine dd [] (fun _ _ _ _=>c0 (Qij _ h19)) ?_
 refine zd [[],[],[102],[]] ?_
 refine de fol ?_
 refine z [4,8] ?_
 exact rt [(0,0)]
theorem Qnm{n:Nat}{x0}{x1}{x2}:∀ r,X5 n x0 x1 x2=some r->FnOk Tryz.prog 103 [Jc x0,Xj x1,i64 x2] [] (.tup [sli 3 (List.map Qb r.1),i64 r.2.1,i64 r.2.2]) []:=by
 unfold X5
 refine fs Tryz.func103 fun w S0 γ hγ=>?_
 refine z [2] ?_
 refine o (bx' 100) ?_
 refine o (bx' 101) ?_
 refine s1 (asg rfl (kLm (k:=3) Qb)) ?_
 refine z [31,31,1,2] ?_
 refine so (asgN (y:=102) (E:=34) (k:=3) rfl rfl) ?_
 refine z [1,5,2,31,1,7] ?_
 refine sloopE 0 Lp.go (fun s21=>[(2,i64 x2),(3,.own 100),(4,.own 101),(6,sli 3 (List.map Qb ([]:List Qa))),(7,i64 (0:Int)),(8,i64 (0:Int)),(9,.own 102),(10,i64 s21.2)]) (fun s21=>[(100,.bx 25 (Jc x0)),(101,.bx 182 (Xj x1)),(102,.sl 34 3 (List.map Qb s21.1))]) (fun t19=>[(6,sli 3 (List.map Qb ([]:List Qa))),(7,i64 (0:Int)),(8,i64 (0:Int)),(9,.own 102)]) (fun t19=>[(102,.sl 34 3 (List.map Qb t19))]) (eR [(100,100),(101,101),(102,102)]) ?_ ?_
 · intro hj20 s21
   refine z [5,2,30,33,36,39,46,1] ?_
   refine c ?_ ?_
   · refine z [9,4,5,7,5] ?_
     refine b fun y22 h23=>?_
     refine b fun r24 h25=>?_
     refine sd ?_
     refine zd [[100],[100],[],[],[],[101],[]] ?_
     refine dd [102] (fun _ _ _ _=>cG (Qnl _ h25) [102] [] [102]) ?_
     refine zd [[],[],[]] ?_
     refine dd [103] (fun _ _ _ _=>al' 103) ?_
     refine zd [[103],[]] ?_
     refine de fol ?_
     refine z [4,5,2,30,44,1] ?_
     refine c ?_ ?_
     · refine z [2] ?_
       refine so (bsl (y:=104) (ls:=List.map Qb ([]:List Qa)) Tryz.underlying26 ti_34.h rfl rfl rfl rfl rfl trivial rfl rfl) ?_
       refine z [30,31,31,31,1,8,10,12,10] ?_
       refine sU ?_
       refine z [12,10] ?_
       refine fz 104 [6,33] [] ?_
       exact rt []
     refine z [9,4,5,2,32,30] ?_
     refine cb (ca Qgt) fun r26=>?_
     refine z [44,1] ?_
     refine c ?_ ?_
     · refine z [2] ?_
       refine so (bsl (y:=104) (ls:=List.map Qb ([]:List Qa)) Tryz.underlying26 ti_34.h rfl rfl rfl rfl rfl trivial rfl rfl) ?_
       refine z [30,31,31,31,1,8,10,12,10] ?_
       refine sU ?_
       refine z [12,10] ?_
       refine fz 104 [6,39] [] ?_
       exact rt []
     refine z [9,4,6,30,32] ?_
     refine so (bsl (y:=104) (ls:=List.map Qb ([r24.1]:List Qa)) Tryz.underlying26 ti_34.h rfl rfl rfl rfl rfl ⟨rfl,rfl,(by exact rfl),(by exact rfl),trivial⟩ rfl rfl) ?_
     refine b fun y28 h29=>?_
     refine o (app' 105) ?_
     refine z [31,3,11,4,6,30,40,31,3] ?_
     exact sgo (eR [(100,100),(101,101),(102,105)])
   refine z [14,15] ?_
   exact su (sj (hj20 _) (eR [(102,102)]))
 intro t19
 refine slpk ?_
 refine z [13,4,2,30,31,31,31,1,8] ?_
 refine fz 102 [6,9,45] [] ?_
 exact rt []
theorem Qnn{n:Nat}{x0}{x1}:∀ r,X4 n x0 x1=some r->FnOk Tryz.prog 106 [Jc x0,sli 3 (List.map Qb x1)] [] (sli 3 (List.map Qb r)) []:=by
 unfold X4
 refine fs Tryz.func106 fun w S0 γ hγ=>?_
 refine z [2] ?_
 refine o (bx' 100) ?_
 refine s1 (asg rfl (kLm (k:=3) Qb)) ?_
 refine z [1,2] ?_
 refine so (asgN (y:=101) (E:=34) (k:=3) rfl rfl) ?_
 refine z [1,5,2,31,1,7] ?_
 refine sloopE 0 (fun t=>t) (fun s17=>[(1,sli 3 (List.map Qb x1)),(2,.own 100),(4,sli 3 (List.map Qb ([]:List Qa))),(5,.own 101),(6,i64 s17.2)]) (fun s17=>[(100,.bx 25 (Jc x0)),(101,.sl 34 3 (List.map Qb s17.1))]) (fun t15=>[(4,sli 3 (List.map Qb ([]:List Qa))),(5,.own 101)]) (fun t15=>[(101,.sl 34 3 (List.map Qb t15))]) (eR [(100,100),(101,101)]) ?_ ?_
 · intro hj16 s17
   refine z [5,2,30,33,36,39,46,1] ?_
   refine c ?_ ?_
   · refine z [9,4,5,7,6,30,30,33,36,30] ?_
     refine b fun y18 h19=>?_
     refine z [43,42] ?_
     refine b fun y20 h21=>?_
     refine z [43,42] ?_
     refine so (bsl (y:=102) (ls:=List.map Qb ([y20]:List Qa)) Tryz.underlying26 ti_34.h rfl rfl rfl rfl rfl ⟨rfl,rfl,(by exact rfl),(by exact rfl),trivial⟩ rfl rfl) ?_
     refine b fun y22 h23=>?_
     refine o (app' 103) ?_
     refine z [31,3,11,4,6,30,40,31,3] ?_
     exact sgo (eR [(100,100),(101,103)])
   refine z [14,15] ?_
   exact su (sj (hj16 _) (eR [(101,101)]))
 intro t15
 refine z [13,4,2,30,31,1,8] ?_
 refine fz 101 [4,5,25] [] ?_
 exact rt []
theorem Qlu{n:Nat}{x0}{x1}{x2}{x3}:∀ r,Yn n x0 x1 x2 x3=some r->FnOk Tryz.prog 159 [sli 3 (List.map Qb x0),.own 0,i64 x2,Qb x3] [(0,.sl 26 1 (List.map Qh x1))] (Qb r) [(0,.sl 26 1 (List.map Qh x1))]:=by
 unfold Yn
 refine fs Tryz.func159 fun w S0 γ hγ=>?_
 refine z [2] ?_
 refine o (bx' 100) ?_
 refine o (al' 101) ?_
 refine z [1,2] ?_
 refine cb (ca Wf) fun r1=>?_
 refine o (al' 102) ?_
 refine z [34,1,5,2,31,1,7] ?_
 refine sloopE 0 (fun t=>t) (fun s69=>[(0,sli 3 (List.map Qb x0)),(1,.own 0),(2,i64 x2),(7,.own 100),(8,.own 101),(9,.own 102),(10,i64 s69.2)]) (fun s69=>[(0,.sl 26 1 (List.map Qh x1)),(100,.bx 34 (Qb x3)),(101,.bx 34 (Qb (⟨false,[],[]⟩:Qa))),(102,.bx 34 (Qb s69.1))]) (fun t67=>[(7,.own 100),(8,.own 101),(9,.own 102)]) (fun t67=>[(0,.sl 26 1 (List.map Qh x1)),(100,.bx 34 (Qb x3)),(101,.bx 34 (Qb (⟨false,[],[]⟩:Qa))),(102,.bx 34 (Qb t67))]) (eR [(0,0),(100,100),(101,101),(102,102)]) ?_ ?_
 · intro hj68 s69
   refine z [5,2,30,30,39,46,1] ?_
   refine c ?_ ?_
   · refine z [9,4] ?_
     refine sjq (fun s86=>[(0,sli 3 (List.map Qb x0)),(1,.own 0),(2,i64 x2),(7,.own 100),(8,.own 101),(9,.own 102),(10,i64 s69.2)]) (fun s86=>[(0,.sl 26 1 (List.map Qh x1)),(100,.bx 34 (Qb x3)),(101,.bx 34 (Qb (⟨false,[],[]⟩:Qa))),(102,.bx 34 (Qb s86))]) ?_ ?_
     · intro j84 hj85
       refine z [7,2,30,30] ?_
       refine b fun y87 h88=>?_
       refine z [43,42] ?_
       refine cb (ca Qc9) fun r89=>?_
       refine z [44,1] ?_
       refine c ?_ ?_
       · refine b fun y91 h92=>?_
         refine b fun y93 h94=>?_
         refine b fun y95 h96=>?_
         refine b fun r97 h98=>?_
         refine b fun r99 h100=>?_
         refine sd ?_
         refine zd [[102],[],[],[],[],[],[],[0],[0],[],[],[]] ?_
         refine dd [] (fun _ _ _ _=>c0 (Zy _ h98)) ?_
         refine dd [] (fun _ _ _ _=>c0 (W9 _ h100)) ?_
         refine zd [[102]] ?_
         refine de fol ?_
         refine z [11,4] ?_
         exact sj (hj85 _) (eR [(0,0),(100,100),(101,101),(102,102)])
       refine z [9,11,4] ?_
       exact sj (hj85 _) (eR [(0,0),(100,100),(101,101),(102,102)])
     intro s86
     refine z [6,30,40,31,3] ?_
     exact sgo (eR [(0,0),(100,100),(101,101),(102,102)])
   refine z [14,15] ?_
   exact su (sj (hj68 _) (eR [(0,0),(100,100),(101,101),(102,102)]))
 intro t67
 refine z [13,4,2,32,32] ?_
 refine cb (ca Zy) fun r101=>?_
 refine z [34,1,8] ?_
 exact rt [(0,0)]
theorem Qbr{n:Nat}{x0}{x1}{x2}{x3}:∀ r,J8 n x0 x1 x2 x3=some r->FnOk Tryz.prog 101 [sli 3 (List.map Qb x0),sli 3 (List.map Qb x1),.own 0,Qb x3] [(0,.sl 26 1 (List.map Qh x2))] (sli 3 (List.map Qb r)) [(0,.sl 26 1 (List.map Qh x2))]:=by
 unfold J8
 refine fs Tryz.func101 fun w S0 γ hγ=>?_
 refine z [2] ?_
 refine o (bx' 100) ?_
 refine s1 (asg rfl (kLm (k:=3) Qb)) ?_
 refine z [1,2] ?_
 refine so (asgN (y:=101) (E:=34) (k:=3) rfl rfl) ?_
 refine z [1,5,2,31,1,7] ?_
 refine sloopE 0 (fun t=>t) (fun s21=>[(0,sli 3 (List.map Qb x0)),(1,sli 3 (List.map Qb x1)),(2,.own 0),(7,.own 100),(8,sli 3 (List.map Qb ([]:List Qa))),(9,.own 101),(10,i64 s21.2)]) (fun s21=>[(0,.sl 26 1 (List.map Qh x2)),(100,.bx 34 (Qb x3)),(101,.sl 34 3 (List.map Qb s21.1))]) (fun t19=>[(8,sli 3 (List.map Qb ([]:List Qa))),(9,.own 101)]) (fun t19=>[(0,.sl 26 1 (List.map Qh x2)),(101,.sl 34 3 (List.map Qb t19))]) (eR [(0,0),(100,100),(101,101)]) ?_ ?_
 · intro hj20 s21
   refine z [5,2,30,30,39,46,1] ?_
   refine c ?_ ?_
   · refine z [9,4,5,7] ?_
     refine b fun y22 h23=>?_
     refine b fun r24 h25=>?_
     refine b fun r26 h27=>?_
     refine b fun y28 h29=>?_
     refine sd ?_
     refine zd [[],[],[],[],[],[],[],[],[100]] ?_
     refine dd [0] (fun _ _ _ _=>cG (Qlu _ h25) [0] [] [0]) ?_
     refine dd [] (fun _ _ _ _=>c0 (W9 _ h27)) ?_
     refine dx [27] [102] (fun st mm ⟨a27,_⟩ ⟨g102,_⟩=>og (bsl (y:=102) (ls:=List.map Qb ([r26]:List Qa)) Tryz.underlying26 ti_34.h rfl rfl rfl rfl rfl ⟨rfl,(a27.trans rfl),(by exact rfl),(by exact rfl),trivial⟩ (g102.trans rfl) rfl)) ?_
     refine dd [101,102,103] (fun _ _ _ _=>app' 103) ?_
     refine zd [[]] ?_
     refine de fol ?_
     refine z [11,4,6,30,40,31,3] ?_
     exact sgo (eR [(0,0),(100,100),(101,103)])
   refine z [14,15] ?_
   exact su (sj (hj20 _) (eR [(0,0),(101,101)]))
 intro t19
 refine z [13,4,2,30,31,1,8] ?_
 refine fz 101 [8,9,30] [] ?_
 exact rt [(0,0)]
theorem Qno{n:Nat}{x0}:∀ r,Xy n x0=some r->FnOk Tryz.prog 107 [i64 x0] [] (.own 50) [(50,.sl 34 3 (List.map Qb r))]:=by
 unfold Xy
 refine fs Tryz.func107 fun w S0 γ hγ=>?_
 refine z [2] ?_
 refine s1 (asg rfl (kLm (k:=3) Qb)) ?_
 refine z [1,2] ?_
 refine so (asgN (y:=100) (E:=34) (k:=3) rfl rfl) ?_
 refine z [1,5,2,31,1,7] ?_
 refine sloopE 0 (fun t=>t) (fun s19=>[(0,i64 x0),(2,sli 3 (List.map Qb ([]:List Qa))),(3,.own 100),(4,i64 s19.2)]) (fun s19=>[(100,.sl 34 3 (List.map Qb s19.1))]) (fun t17=>[(2,sli 3 (List.map Qb ([]:List Qa))),(3,.own 100)]) (fun t17=>[(100,.sl 34 3 (List.map Qb t17))]) (eR [(100,100)]) ?_ ?_
 · intro hj18 s19
   refine z [5] ?_
   refine sjq (fun s22=>[(0,i64 x0),(2,sli 3 (List.map Qb ([]:List Qa))),(3,.own 100),(4,i64 s19.2),(11,bl s22)]) (fun s22=>[(100,.sl 34 3 (List.map Qb s19.1))]) ?_ ?_
   · intro j20 hj21
     refine z [6,30,30,46,30] ?_
     refine sifd 8 rfl ?_ ?_
     · refine z [22,22,38,1] ?_
       exact sj (hj21 _) (eR [(100,100)])
     refine z [23,23,37,1] ?_
     exact sj (hj21 _) (eR [(100,100)])
   intro s22
   refine c ?_ ?_
   · refine z [9,4,5,7,6,30] ?_
     refine cb (ca Wf) fun r23=>?_
     refine so (bsl (y:=101) (ls:=List.map Qb ([r23]:List Qa)) Tryz.underlying26 ti_34.h rfl rfl rfl rfl rfl ⟨rfl,rfl,(by exact rfl),(by exact rfl),trivial⟩ rfl rfl) ?_
     refine b fun y25 h26=>?_
     refine o (app' 102) ?_
     refine z [31,3,11,4,6,30,40,31,3] ?_
     exact sgo (eR [(100,102)])
   refine z [14,15] ?_
   exact su (sj (hj18 _) (eR [(100,100)]))
 intro t17
 refine z [13,4,2,30,31,1,8] ?_
 exact rt [(50,100)]
theorem Qn6{n:Nat}{x0}:∀ r,Yf n x0=some r->FnOk Tryz.prog 108 [Q5 x0] [] (sli 3 (List.map Qb r)) []:=by
 unfold Yf
 refine fs Tryz.func108 fun w S0 γ hγ=>?_
 refine z [2] ?_
 refine o (bx' 100) ?_
 refine s1 (asg rfl (kLm (k:=3) Qb)) ?_
 refine z [1,2] ?_
 refine so (asgN (y:=101) (E:=34) (k:=3) rfl rfl) ?_
 refine z [1,5,2,31,1,7] ?_
 refine sloopE 0 (fun t=>t) (fun s27=>[(1,.own 100),(2,sli 3 (List.map Qb ([]:List Qa))),(3,.own 101),(4,i64 s27.2)]) (fun s27=>[(100,.bx 29 (Q5 x0)),(101,.sl 34 3 (List.map Qb s27.1))]) (fun t25=>[(2,sli 3 (List.map Qb ([]:List Qa))),(3,.own 101)]) (fun t25=>[(101,.sl 34 3 (List.map Qb t25))]) (eR [(100,100),(101,101)]) ?_ ?_
 · intro hj26 s27
   refine z [5] ?_
   refine sjq (fun s30=>[(1,.own 100),(2,sli 3 (List.map Qb ([]:List Qa))),(3,.own 101),(4,i64 s27.2),(16,bl s30)]) (fun s30=>[(100,.bx 29 (Q5 x0)),(101,.sl 34 3 (List.map Qb s27.1))]) ?_ ?_
   · intro j28 hj29
     refine z [6,30,33,36,39,46,30] ?_
     refine sifd 10 rfl ?_ ?_
     · refine z [22,22,22,22,22,38,1] ?_
       exact sj (hj29 _) (eR [(100,100),(101,101)])
     refine z [23,23,23,23,23,37,1] ?_
     exact sj (hj29 _) (eR [(100,100),(101,101)])
   intro s30
   refine c ?_ ?_
   · refine z [9,4,5,7] ?_
     refine b fun y31 h32=>?_
     refine b fun y33 h34=>?_
     refine b fun r35 h36=>?_
     refine b fun y37 h38=>?_
     refine sd ?_
     refine zd [[],[100],[100],[],[],[],[100],[100],[],[],[]] ?_
     refine dd [] (fun _ _ _ _=>c0 (Qbd _ h36)) ?_
     refine dx [30] [102] (fun st mm ⟨a30,_⟩ ⟨g102,_⟩=>og (bsl (y:=102) (ls:=List.map Qb ([r35]:List Qa)) Tryz.underlying26 ti_34.h rfl rfl rfl rfl rfl ⟨rfl,(a30.trans rfl),(by exact rfl),(by exact rfl),trivial⟩ (g102.trans rfl) rfl)) ?_
     refine dd [101,102,103] (fun _ _ _ _=>app' 103) ?_
     refine zd [[]] ?_
     refine de fol ?_
     refine z [11,4,6,30,40,31,3] ?_
     exact sgo (eR [(100,100),(101,103)])
   refine z [14,15] ?_
   exact su (sj (hj26 _) (eR [(101,101)]))
 intro t25
 refine z [13,4,2,30,31,1,8] ?_
 refine fz 101 [2,3,33] [] ?_
 exact rt []
end Go.Proofs.YthbndkiddockmaaGreatDoor
