import Derived.Test.YtlihkcaoachkdaaGreatDoorGen0
import Derived.Test.YtlihkcaoachkdaaGreatDoorGenR1
set_option maxRecDepth 100000
set_option maxHeartbeats 4000000
namespace Go.Proofs.YtlihkcaoachkdaaGreatDoor
open Go Go.RowKit
theorem Qmv{n:Nat}{x0}:∀ r,Yz n x0=some r->FnOk Tryz.prog 182 [Qm x0] [] (bl r) []:=by
 unfold Yz
 refine fs Tryz.func182 λw S0 γ hγ=>?_;refine z [2] ?_;refine o (bx' 100) ?_;refine z [31,1,2,33,36] ?_;refine cb (ca Qn7) λr1=>?_;refine z [30,35,35,31,31,1] ?_;refine sjq (λs12=>[(2,bl s12)]) (λs12=>[]) ?_ ?_
 . intro j10 hj11
   refine sif (λhb13=>?_) (λhb13=>?_)
   . refine sif (λhb14=>?_) (λhb14=>?_)
     . refine b λy15 h16=>?_;refine sif (λhb17=>?_) (λhb17=>?_)
       . refine b λy18 h19=>?_;refine sd ?_;refine zd [[],[]] ?_;refine dd [] (λ_ _ _ _=>obk hb13 ops) ?_;refine zd [[],[],[],[]] ?_;refine dd [] (λ_ _ _ _=>obk hb14 ops) ?_;refine zd [[]] ?_;refine dx [18,19] [] (λst mm ⟨a18,a19,_⟩ _=>ogG 18 rfl (a18.trans rfl) (ixR (f:=Qm) Tryz.underlying307 Qbk.h h16 rfl (a19.trans rfl) (kI (x:=0) rfl))) ?_;refine zd [[],[],[100],[100],[],[]] ?_;refine dd [] (λ_ _ _ _=>obk hb17 ops) ?_;refine zd [[]] ?_;refine dx [27,28] [] (λst mm ⟨a27,a28,_⟩ _=>ogG 27 rfl (a27.trans rfl) (ixR (f:=Qm) Tryz.underlying307 Qbk.h h19 rfl (a28.trans rfl) (kI (x:=0) rfl))) ?_;refine zd [[],[],[100],[100],[],[],[]] ?_;refine de fol ?_;refine z [4] ?_;exact sj (hj11 _) (eR [])
       refine sd ?_;refine zd [[],[]] ?_;refine dd [] (λ_ _ _ _=>obk hb13 ops) ?_;refine zd [[],[],[],[]] ?_;refine dd [] (λ_ _ _ _=>obk hb14 ops) ?_;refine zd [[],[],[],[],[100],[100],[],[]] ?_;refine dd [] (λ_ _ _ _=>obk hb17 ops) ?_;refine zd [[],[],[],[],[],[],[],[],[]] ?_;refine de fol ?_;refine z [4] ?_;exact sj (hj11 _) (eR [])
     refine sd ?_;refine zd [[],[]] ?_;refine dd [] (λ_ _ _ _=>obk hb13 ops) ?_;refine zd [[],[],[],[]] ?_;refine dd [] (λ_ _ _ _=>obk hb14 ops) ?_;refine zd [[],[],[],[],[],[],[],[],[],[],[],[],[],[],[],[],[],[]] ?_;refine de fol ?_;refine z [4] ?_;exact sj (hj11 _) (eR [])
   refine sd ?_;refine zd [[],[]] ?_;refine dd [] (λ_ _ _ _=>obk hb13 ops) ?_;refine zd [[],[],[],[],[],[],[],[],[],[],[],[],[],[],[],[],[],[],[],[],[],[],[]] ?_;refine de fol ?_;refine z [4] ?_;exact sj (hj11 _) (eR [])
 intro s12
 refine z [8] ?_;exact rt []
theorem Qg4{n:Nat}{x0}:∀ r,Xx n x0=some r->FnOk Tryz.prog 187 [Qc x0] [] (i64 r) []:=by
 unfold Xx
 refine fs Tryz.func187 λw S0 γ hγ=>?_;refine z [2] ?_;refine o (bx' 100) ?_;refine z [31,1,5] ?_;refine b λr1 h2=>?_;refine b λr3 h4=>?_;refine sd ?_;refine zd [[100],[100]] ?_;refine dd [] (λ_ _ _ _=>c0 (Qd1 _ h2)) ?_;refine zd [[100],[100]] ?_;refine dd [] (λ_ _ _ _=>c0 (Qd1 _ h4)) ?_;refine zd [[],[]] ?_;refine de fol ?_;refine z [4,8] ?_;exact rt []
theorem Qba{n:Nat}{x0}:∀ r,Wa n x0=some r->FnOk Tryz.prog 183 [sli 3 (List.map Qc x0)] [] (bl r) []:=by
 unfold Wa
 refine fs Tryz.func183 λw S0 γ hγ=>?_;refine z [2,31,1,5,2,31,1,7] ?_;refine sloopE 0 Lp.go (λs63=>[(0,sli 3 (List.map Qc x0)),(2,bl false),(3,i64 s63)]) (λs63=>[]) (λt61=>[(2,bl false)]) (λt61=>[]) eI ?_ ?_
 . intro hj62 s63
   refine z [5,2,30,30,39,46,1] ?_;refine c ?_ ?_
   . refine z [9,4,5,7] ?_;refine sjq (λs79=>[(0,sli 3 (List.map Qc x0)),(2,bl false),(3,i64 s63),(28,bl s79)]) (λs79=>[]) ?_ ?_
     . intro j77 hj78
       refine b λy80 h81=>?_;refine b λr82 h83=>?_;refine b λy84 h85=>?_;refine b λr86 h87=>?_;refine sif (λhb88=>?_) (λhb88=>?_)
       . refine sd ?_;refine zd [[],[]] ?_;refine dx [10,11] [] (λst mm ⟨a10,a11,_⟩ _=>og (ixR (f:=Qc) Tryz.underlying26 ti_34.h h81 rfl (a10.trans rfl) (a11.trans rfl))) ?_;refine zd [[]] ?_;refine dd [] (λ_ _ _ _=>c0 (J5 _ h83)) ?_;refine zd [[],[]] ?_;refine dx [15,16] [] (λst mm ⟨a15,a16,_⟩ _=>og (ixR (f:=Qc) Tryz.underlying26 ti_34.h h85 rfl (a15.trans rfl) (a16.trans rfl))) ?_;refine zd [[]] ?_;refine dd [] (λ_ _ _ _=>c0 (Vx _ h87)) ?_;refine zd [[]] ?_;refine dd [] (λ_ _ _ _=>obk hb88 ops) ?_;refine zd [[],[],[],[],[],[],[]] ?_;refine de fol ?_;refine z [4] ?_;exact sj (hj78 _) eI
       refine b λy89 h90=>?_;refine b λr91 h92=>?_;refine sd ?_;refine zd [[],[]] ?_;refine dx [10,11] [] (λst mm ⟨a10,a11,_⟩ _=>og (ixR (f:=Qc) Tryz.underlying26 ti_34.h h81 rfl (a10.trans rfl) (a11.trans rfl))) ?_;refine zd [[]] ?_;refine dd [] (λ_ _ _ _=>c0 (J5 _ h83)) ?_;refine zd [[],[]] ?_;refine dx [15,16] [] (λst mm ⟨a15,a16,_⟩ _=>og (ixR (f:=Qc) Tryz.underlying26 ti_34.h h85 rfl (a15.trans rfl) (a16.trans rfl))) ?_;refine zd [[]] ?_;refine dd [] (λ_ _ _ _=>c0 (Vx _ h87)) ?_;refine zd [[]] ?_;refine dd [] (λ_ _ _ _=>obk hb88 ops) ?_;refine zd [[],[]] ?_;refine dx [21,22,23] [] (λst mm ⟨a21,a22,a23,_⟩ _=>ogG 21 rfl (a21.trans rfl) (ixR (f:=Qc) Tryz.underlying26 ti_34.h h90 rfl (a22.trans rfl) (a23.trans rfl))) ?_;refine zd [[]] ?_;refine dG [] (λ_ _ _ _=>c0 (Qg4 _ h92)) ?_;refine zd [[],[]] ?_;refine de fol ?_;refine z [4] ?_;exact sj (hj78 _) eI
     intro s79
     refine c ?_ ?_
     . refine z [2,31,1,8,12,10] ?_;refine sU ?_;refine z [12,10] ?_;exact rt []
     refine z [9,11,4,6,30,40,31,3] ?_;exact sgo eI
   refine z [14,15] ?_;exact su (sj (hj62 _) eI)
 intro t61
 refine slpk ?_;refine z [13,4,2,31,1,8] ?_;exact rt []
theorem Qiy{n:Nat}{x0}:∀ r,Yp n x0=some r->FnOk Tryz.prog 186 [u64 x0] [] (sli 1 (List.map u32 r)) []:=by
 unfold Yp
 refine fs Tryz.func186 λw S0 γ hγ=>?_;refine z [2] ?_;refine s1 (asg rfl (kLm (k:=1) u32)) ?_;refine z [1,2,30,81,60,30,80,60] ?_
 refine so (bsl (y:=100) (ls:=List.map u32 ([((x0%4294967296)%4294967296),((x0 / 4294967296)%4294967296)]:List Nat)) Tryz.underlying32 Kr.h rfl rfl rfl rfl rfl ⟨rfl,rfl,(by exact rfl),(by exact rfl),rfl,rfl,(by exact rfl),(by exact rfl),trivial⟩ rfl rfl) ?_
 refine sbm (C:=λx=>.sl 189 1 (List.map u32 x)) 100 rfl λz1=>?_;refine b λr2 h3=>?_;refine so (callL (em:=[(101,.sl 189 1 (List.map u32 r2))]) (res':=.own 101) [100] [] [(101,50)] [(101,50)] rfl (J4 _ h3) ⟨Qaq (f:=u32) (λ_=>Qco) _,trivial⟩ (Qdl) ⟨.inr ⟨100,rfl,.inl ⟨rfl,.inl ⟨_,_,_,rfl,Jn (f:=u32) (λ_=>K8) z1,rfl⟩⟩⟩,trivial⟩ (MiF.get (mi:=[]) trivial) trivial rfl ⟨rfl,trivial⟩ ⟨.inl rfl,trivial⟩ rfl ⟨.inl ⟨_,_,rfl,rfl,rc_sl (Jn (f:=u32) (λ_=>K8) r2)⟩,trivial⟩ trivial ⟨⟨_,rfl⟩,trivial⟩ (Vd rfl) rfl) ?_;refine z [31,1,8] ?_;refine fz 101 [2,10] [] ?_;exact rt []
theorem Qhw{n:Nat}{x0}{x1}:∀ r,Yb n x0 x1=some r->FnOk Tryz.prog 185 [sli 1 (List.map u32 x0),sli 1 (List.map u32 x1)] [] (sli 1 (List.map u32 r)) []:=by
 unfold Yb
 refine fs Tryz.func185 λw S0 γ hγ=>?_;refine z [2] ?_;refine s1 (asg rfl (kLm (k:=1) u32)) ?_;refine z [1,2,30,39,30,39,88,40,31,1,2,30] ?_;refine b λy1 h2=>?_;refine so (mks (y:=100) (f:=u32) h2 Tryz.underlying32 Kr.h Qb3 rfl rfl rfl rfl rfl rfl) ?_;refine z [31,1,2,31,1,5,2,31,1,7] ?_;refine sloopE 0 (λt=>t) (λs24=>[(0,sli 1 (List.map u32 x0)),(1,sli 1 (List.map u32 x1)),(4,sli 1 (List.map u32 ([]:List Nat))),(5,i64 (wrap64 ((max (x0.length:Int) (x1.length:Int))+(1:Int)))),(6,.own 100),(7,u64 s24.2.1),(8,i64 s24.2.2)]) (λs24=>[(100,.sl 189 1 (List.map u32 s24.1))]) (λt22=>[(4,sli 1 (List.map u32 ([]:List Nat))),(6,.own 100)]) (λt22=>[(100,.sl 189 1 (List.map u32 t22))]) (eR [(100,100)]) ?_ ?_
 . intro hj23 s24
   refine z [5,2,30,30,46] ?_;refine sbn (F:=bl) 19 rfl λz25=>?_;refine z [1] ?_;refine c ?_ ?_
   . refine z [9,4,5,7,2,30,30,30] ?_;refine cb (ca Xn) λr26=>?_;refine z [59,30,30] ?_;refine cb (ca Xn) λr28=>?_;refine z [59,61,61] ?_;refine sbn (F:=u64) 32 rfl λz30=>?_;refine z [31,1,2,30,30,30,81,60] ?_;refine b λy31 h32=>?_;refine z [50,53,1,6,30,80,31,3,11,4,6,30,40,31,3] ?_;exact sgo (eR [(100,100)])
   refine z [14,15] ?_;exact su (sj (hj23 _) (eR [(100,100)]))
 intro t22
 refine z [13,4,2,30] ?_;refine b λr33 h34=>?_;refine so (callL (em:=[(101,.sl 189 1 (List.map u32 r33))]) (res':=.own 101) [100] [] [(101,50)] [(101,50)] rfl (J4 _ h34) ⟨Qaq (f:=u32) (λ_=>Qco) _,trivial⟩ (Qdl) ⟨.inr ⟨100,rfl,.inl ⟨rfl,.inl ⟨_,_,_,rfl,Jn (f:=u32) (λ_=>K8) t22,rfl⟩⟩⟩,trivial⟩ (MiF.get (mi:=[]) trivial) trivial rfl ⟨rfl,trivial⟩ ⟨.inl rfl,trivial⟩ rfl ⟨.inl ⟨_,_,rfl,rfl,rc_sl (Jn (f:=u32) (λ_=>K8) r33)⟩,trivial⟩ trivial ⟨⟨_,rfl⟩,trivial⟩ (Vd rfl) rfl) ?_;refine z [31,1,8] ?_;refine fz 101 [4,42] [] ?_;exact rt []
theorem W9{n:Nat}{x0}:∀ r,J1 n x0=some r->FnOk Tryz.prog 115 [i64 x0] [] (Qc r) []:=by
 unfold J1
 refine fs Tryz.func115 λw S0 γ hγ=>?_;refine z [2] ?_;refine o (al' 100) ?_;refine z [1,5,2,30,46,1] ?_;refine c ?_ ?_
 . refine z [2,30,40,82,83] ?_;refine sbn (F:=u64) 8 rfl λz1=>?_;refine cb (ca Qiy) λr2=>?_
   refine so (bsl (y:=101) (ls:=List.map u32 ([1]:List Nat)) Tryz.underlying32 Kr.h rfl rfl rfl rfl rfl ⟨rfl,(k32 (x:=1) rfl),(by exact rfl),(by exact rfl),trivial⟩ rfl rfl) ?_
   refine fz 101 [10] [] ?_;refine cb (ca Qhw) λr4=>?_
   refine so (bsl (y:=102) (ls:=List.map u32 ([1]:List Nat)) Tryz.underlying32 Kr.h rfl rfl rfl rfl rfl ⟨rfl,(k32 (x:=1) rfl),(by exact rfl),(by exact rfl),trivial⟩ rfl rfl) ?_
   refine fz 102 [12] [] ?_;refine s1 (bld (l:=[bl true,sli 1 (List.map u32 r4),sli 1 (List.map u32 ([1]:List Nat))]) pl_34.h ti_34.h Q3 ⟨_,_,_,kB,rfl,rfl,rfl,(szk (k:=1) rfl rfl),⟨_,_,_,rfl,rfl,rfl,rfl,(szk (k:=1) rfl rfl),⟨_,_,_,rfl,rfl,rfl,rfl,(szk (k:=1) rfl rfl),rfl⟩⟩⟩ rfl) ?_;refine cb (ca J5) λr6=>?_;refine z [34,1,8,10] ?_;exact rt []
 refine z [9,4,2,30,83] ?_;refine cb (ca Qiy) λr8=>?_
 refine so (bsl (y:=101) (ls:=List.map u32 ([1]:List Nat)) Tryz.underlying32 Kr.h rfl rfl rfl rfl rfl ⟨rfl,(k32 (x:=1) rfl),(by exact rfl),(by exact rfl),trivial⟩ rfl rfl) ?_
 refine fz 101 [18] [] ?_;refine s1 (bld (l:=[bl false,sli 1 (List.map u32 r8),sli 1 (List.map u32 ([1]:List Nat))]) pl_34.h ti_34.h Q3 ⟨_,_,_,rfl,rfl,rfl,rfl,(szk (k:=1) rfl rfl),⟨_,_,_,rfl,rfl,rfl,rfl,(szk (k:=1) rfl rfl),rfl⟩⟩ rfl) ?_;refine cb (ca J5) λr10=>?_;refine z [34,1,8] ?_;exact rt []
theorem Qc7{n:Nat}{x0}:∀ r,Kv n x0=some r->FnOk Tryz.prog 142 [Vm x0] [] (Vm r) []:=by
 unfold Kv
 refine fs Tryz.func142 λw S0 γ hγ=>?_;refine z [2] ?_;refine o (bx' 100) ?_;refine o (al' 101) ?_;refine z [1,2,33,36] ?_;refine b λr1 h2=>?_;refine o (cG (J4 _ h2) [] [(102,50)] []) ?_;refine z [31,1] ?_;refine sjq (λs5=>[(2,.own 101)]) (λs5=>[(101,.bx 216 (Vm s5))]) ?_ ?_
 . intro j3 hj4
   refine z [6,33,36,30] ?_;refine sifd 9 rfl ?_ ?_
   . refine z [22,22,22,38,30] ?_;refine fz 102 [3,6,10,14] [] ?_;refine s1 (bld (l:=[bl (decide ((0:Int)<(r1.length:Int))),sli 1 (List.map u32 r1)]) Ql2.h Qiu.h Vc ⟨_,_,_,rfl,rfl,rfl,rfl,(szk (k:=1) rfl rfl),⟨_,_,_,rfl,rfl,rfl,rfl,(szk (k:=1) rfl rfl),rfl⟩⟩ rfl) ?_;refine z [34,1] ?_;exact sj (hj4 _) (eR [(101,101)])
   refine z [23,23,23,37,30] ?_;refine fz 102 [3,6,14] [] ?_;refine s1 (bld (l:=[bl false,sli 1 (List.map u32 r1)]) Ql2.h Qiu.h Vc ⟨_,_,_,rfl,rfl,rfl,rfl,(szk (k:=1) rfl rfl),⟨_,_,_,rfl,rfl,rfl,rfl,(szk (k:=1) rfl rfl),rfl⟩⟩ rfl) ?_;refine z [34,1] ?_;exact sj (hj4 _) (eR [(101,101)])
 intro s5
 refine z [8] ?_;exact rt []
theorem Qhx{n:Nat}{x0}{x1}:∀ r,V9 n x0 x1=some r->FnOk Tryz.prog 196 [sli 1 (List.map u32 x0),sli 1 (List.map u32 x1)] [] (sli 1 (List.map u32 r)) []:=by
 unfold V9
 refine fs Tryz.func196 λw S0 γ hγ=>?_;refine z [2] ?_;refine s1 (asg rfl (kLm (k:=1) u32)) ?_;refine z [1,2,30,39,30,39,88,31,1,2,30] ?_;refine b λy1 h2=>?_;refine so (mks (y:=100) (f:=u32) h2 Tryz.underlying32 Kr.h Qb3 rfl rfl rfl rfl rfl rfl) ?_;refine z [31,1,2,31,1,5,2,31,1,7] ?_;refine sloopE 0 (λt=>t) (λs27=>[(0,sli 1 (List.map u32 x0)),(1,sli 1 (List.map u32 x1)),(4,sli 1 (List.map u32 ([]:List Nat))),(5,i64 (max (x0.length:Int) (x1.length:Int))),(6,.own 100),(7,u64 s27.2.1),(8,i64 s27.2.2)]) (λs27=>[(100,.sl 189 1 (List.map u32 s27.1))]) (λt25=>[(4,sli 1 (List.map u32 ([]:List Nat))),(6,.own 100)]) (λt25=>[(100,.sl 189 1 (List.map u32 t25))]) (eR [(100,100)]) ?_ ?_
 . intro hj26 s27
   refine z [5,2,30,30,46,1] ?_;refine c ?_ ?_
   . refine z [9,4,5,7,2,30,30] ?_;refine cb (ca Xn) λr28=>?_;refine z [59,31,1,2,30,30] ?_;refine cb (ca Xn) λr30=>?_;refine z [59,30,61,31,1,2,31,1] ?_;refine sjq (λs34=>[(0,sli 1 (List.map u32 x0)),(1,sli 1 (List.map u32 x1)),(4,sli 1 (List.map u32 ([]:List Nat))),(5,i64 (max (x0.length:Int) (x1.length:Int))),(6,.own 100),(7,u64 s34.1),(8,i64 s27.2.2),(9,u64 s34.2),(10,u64 ((r30+s27.2.1)%18446744073709551616))]) (λs34=>[(100,.sl 189 1 (List.map u32 s27.1))]) ?_ ?_
     . intro j32 hj33
       refine z [2,30,30,68,1] ?_;refine c ?_ ?_
       . refine z [2,30,61,31,1,6,31,1] ?_;exact sj (hj33 _) (eR [(100,100)])
       refine z [9,4] ?_;exact sj (hj33 _) (eR [(100,100)])
     intro s34
     refine z [6,30,30,30,30,62] ?_;refine sbn (F:=u64) 42 rfl λz35=>?_;refine z [60] ?_;refine b λy36 h37=>?_;refine z [50,53,3,11,4,6,30,40,31,3] ?_;exact sgo (eR [(100,100)])
   refine z [14,15] ?_;exact su (sj (hj26 _) (eR [(100,100)]))
 intro t25
 refine z [13,4,2,30] ?_;refine b λr38 h39=>?_;refine so (callL (em:=[(101,.sl 189 1 (List.map u32 r38))]) (res':=.own 101) [100] [] [(101,50)] [(101,50)] rfl (J4 _ h39) ⟨Qaq (f:=u32) (λ_=>Qco) _,trivial⟩ (Qdl) ⟨.inr ⟨100,rfl,.inl ⟨rfl,.inl ⟨_,_,_,rfl,Jn (f:=u32) (λ_=>K8) t25,rfl⟩⟩⟩,trivial⟩ (MiF.get (mi:=[]) trivial) trivial rfl ⟨rfl,trivial⟩ ⟨.inl rfl,trivial⟩ rfl ⟨.inl ⟨_,_,rfl,rfl,rc_sl (Jn (f:=u32) (λ_=>K8) r38)⟩,trivial⟩ trivial ⟨⟨_,rfl⟩,trivial⟩ (Vd rfl) rfl) ?_;refine z [31,1,8] ?_;refine fz 101 [4,46] [] ?_;exact rt []
theorem Qos{n:Nat}{x0}{x1}:∀ r,Zs n x0 x1=some r->FnOk Tryz.prog 138 [Vm x0,Vm x1] [] (Vm r) []:=by
 unfold Zs
 refine fs Tryz.func138 λw S0 γ hγ=>?_;refine z [2] ?_;refine o (bx' 100) ?_;refine o (bx' 101) ?_;refine o (al' 102) ?_;refine z [1,5,2,33,36,33,36,74,1] ?_;refine c ?_ ?_
 . refine z [5] ?_;refine b λr1 h2=>?_;refine b λr3 h4=>?_;refine sd ?_;refine zd [[100],[100],[100],[100],[101],[101]] ?_;refine dd [] (λ_ _ _ _=>c0 (Qhw _ h2)) ?_;refine dx [11,16] [] (λst mm ⟨a11,a16,_⟩ _=>og (bld (l:=[bl x0.Neg,sli 1 (List.map u32 r1)]) Ql2.h Qiu.h Vc ⟨_,_,_,(a11.trans rfl),rfl,rfl,rfl,(szk (k:=1) rfl rfl),⟨_,_,_,(a16.trans rfl),rfl,rfl,rfl,(szk (k:=1) rfl rfl),rfl⟩⟩ rfl)) ?_;refine dd [] (λ_ _ _ _=>c0 (Qc7 _ h4)) ?_;refine zd [[102]] ?_;refine de fol ?_;refine z [4,8,10] ?_;exact rt []
 refine z [9,4,5,2,33,36,33,36] ?_;refine cb (ca Qd0) λr5=>?_;refine z [46,1] ?_;refine c ?_ ?_
 . refine z [5] ?_;refine b λr7 h8=>?_;refine b λr9 h10=>?_;refine sd ?_;refine zd [[101],[101],[101],[101],[100],[100]] ?_;refine dd [] (λ_ _ _ _=>c0 (Qhx _ h8)) ?_;refine dx [26,31] [] (λst mm ⟨a26,a31,_⟩ _=>og (bld (l:=[bl x1.Neg,sli 1 (List.map u32 r7)]) Ql2.h Qiu.h Vc ⟨_,_,_,(a26.trans rfl),rfl,rfl,rfl,(szk (k:=1) rfl rfl),⟨_,_,_,(a31.trans rfl),rfl,rfl,rfl,(szk (k:=1) rfl rfl),rfl⟩⟩ rfl)) ?_;refine dd [] (λ_ _ _ _=>c0 (Qc7 _ h10)) ?_;refine zd [[102]] ?_;refine de fol ?_;refine z [4,8,10] ?_;exact rt []
 refine z [9,4,5] ?_;refine b λr11 h12=>?_;refine b λr13 h14=>?_;refine sd ?_;refine zd [[100],[100],[100],[100],[101],[101]] ?_;refine dd [] (λ_ _ _ _=>c0 (Qhx _ h12)) ?_;refine dx [35,40] [] (λst mm ⟨a35,a40,_⟩ _=>og (bld (l:=[bl x0.Neg,sli 1 (List.map u32 r11)]) Ql2.h Qiu.h Vc ⟨_,_,_,(a35.trans rfl),rfl,rfl,rfl,(szk (k:=1) rfl rfl),⟨_,_,_,(a40.trans rfl),rfl,rfl,rfl,(szk (k:=1) rfl rfl),rfl⟩⟩ rfl)) ?_;refine dd [] (λ_ _ _ _=>c0 (Qc7 _ h14)) ?_;refine zd [[102]] ?_;refine de fol ?_;refine z [4,8] ?_;exact rt []
theorem Xa{n:Nat}{x0}{x1}:∀ r,Kb n x0 x1=some r->FnOk Tryz.prog 73 [Qc x0,Qc x1] [] (Qc r) []:=by
 unfold Kb
 refine fs Tryz.func73 λw S0 γ hγ=>?_;refine z [2] ?_;refine o (bx' 100) ?_;refine o (bx' 101) ?_;refine o (al' 102) ?_;refine z [1,5] ?_;refine b λr1 h2=>?_;refine sd ?_;refine zd [[100],[100],[100],[100],[101],[101]] ?_;refine dd [] (λ_ _ _ _=>c0 (We _ h2)) ?_;refine dx [9,14] [] (λst mm ⟨a9,a14,_⟩ _=>og (bld (l:=[bl x0.Neg,sli 1 (List.map u32 r1)]) Ql2.h Qiu.h Vc ⟨_,_,_,(a9.trans rfl),rfl,rfl,rfl,(szk (k:=1) rfl rfl),⟨_,_,_,(a14.trans rfl),rfl,rfl,rfl,(szk (k:=1) rfl rfl),rfl⟩⟩ rfl)) ?_;refine dd [103] (λ_ _ _ _=>al' 103) ?_;refine zd [[103]] ?_;refine de fol ?_;refine z [4,5] ?_;refine b λr3 h4=>?_;refine sd ?_;refine zd [[101],[101],[101],[101],[100],[100]] ?_;refine dd [] (λ_ _ _ _=>c0 (We _ h4)) ?_;refine dx [17,22] [] (λst mm ⟨a17,a22,_⟩ _=>og (bld (l:=[bl x1.Neg,sli 1 (List.map u32 r3)]) Ql2.h Qiu.h Vc ⟨_,_,_,(a17.trans rfl),rfl,rfl,rfl,(szk (k:=1) rfl rfl),⟨_,_,_,(a22.trans rfl),rfl,rfl,rfl,(szk (k:=1) rfl rfl),rfl⟩⟩ rfl)) ?_;refine dd [104] (λ_ _ _ _=>al' 104) ?_;refine zd [[104]] ?_;refine de fol ?_;refine z [4,2,32,32] ?_;refine cb (ca Qos) λr5=>?_;refine o (al' 105) ?_;refine z [34,1,5] ?_;refine b λr7 h8=>?_;refine b λr9 h10=>?_;refine sd ?_;refine zd [[105],[105],[105],[105],[100],[100],[101],[101]] ?_;refine dd [] (λ_ _ _ _=>c0 (We _ h8)) ?_;refine dx [28,30,35] [] (λst mm ⟨a28,a30,a35,_⟩ _=>og (bld (l:=[bl r5.Neg,sli 1 (List.map u32 r5.Abs),sli 1 (List.map u32 r7)]) pl_34.h ti_34.h Q3 ⟨_,_,_,(a28.trans rfl),rfl,rfl,rfl,(szk (k:=1) rfl rfl),⟨_,_,_,(a30.trans rfl),rfl,rfl,rfl,(szk (k:=1) rfl rfl),⟨_,_,_,(a35.trans rfl),rfl,rfl,rfl,(szk (k:=1) rfl rfl),rfl⟩⟩⟩ rfl)) ?_;refine dd [] (λ_ _ _ _=>c0 (J5 _ h10)) ?_;refine zd [[102]] ?_;refine de fol ?_;refine z [4,8] ?_;exact rt []
theorem Qd2{n:Nat}{x0}:∀ r,Wb n x0=some r->FnOk Tryz.prog 184 [sli 3 (List.map Qc x0)] [] (Qc r) []:=by
 unfold Wb
 refine fs Tryz.func184 λw S0 γ hγ=>?_;refine z [2] ?_;refine o (al' 100) ?_;refine z [1,2] ?_;refine cb (ca W9) λr1=>?_;refine o (al' 101) ?_;refine z [34,1,5,2,31,1,7] ?_;refine sloopE 0 (λt=>t) (λs15=>[(0,sli 3 (List.map Qc x0)),(2,.own 100),(3,.own 101),(4,i64 s15.2)]) (λs15=>[(100,.bx 34 (Qc (⟨false,[],[]⟩:Qa))),(101,.bx 34 (Qc s15.1))]) (λt13=>[(2,.own 100),(3,.own 101)]) (λt13=>[(100,.bx 34 (Qc (⟨false,[],[]⟩:Qa))),(101,.bx 34 (Qc t13))]) (eR [(100,100),(101,101)]) ?_ ?_
 . intro hj14 s15
   refine z [5,2,30,30,39,46,1] ?_;refine c ?_ ?_
   . refine z [9,4,5,7] ?_;refine b λy16 h17=>?_;refine b λr18 h19=>?_;refine sd ?_;refine zd [[101],[],[],[],[]] ?_;refine dd [] (λ_ _ _ _=>c0 (Xa _ h19)) ?_;refine zd [[101]] ?_;refine de fol ?_;refine z [11,4,6,30,40,31,3] ?_;exact sgo (eR [(100,100),(101,101)])
   refine z [14,15] ?_;exact su (sj (hj14 _) (eR [(100,100),(101,101)]))
 intro t13
 refine z [13,4,2,32,34,1,8] ?_;exact rt []
theorem Qmw{n:Nat}{x0}:∀ r,Y0 n x0=some r->FnOk Tryz.prog 114 [Q8 x0] [] (i64 r) []:=by
 unfold Y0
 refine fs Tryz.func114 λw S0 γ hγ=>?_;refine z [2] ?_;refine o (bx' 100) ?_;refine z [31,1,2,33,36,39,31,1,5,2,33,36] ?_;refine s1 (bld (l:=[i64 (2:Int),str x0.Name,i64 0]) Q3x.h Qbk.h Qch ⟨_,_,_,(kI (x:=2) rfl),rfl,rfl,rfl,(szk (k:=1) rfl rfl),⟨_,_,_,rfl,rfl,rfl,rfl,(szk (k:=1) rfl rfl),rfl⟩⟩ rfl) ?_;refine cb (ca Qmv) λr1=>?_;refine z [44,1] ?_;refine c ?_ ?_
 . refine z [2,31,1,8,10] ?_;exact rt []
 refine z [9,4,5] ?_;refine sjq (λs5=>[(1,.own 100),(2,i64 (0:Int)),(3,i64 (x0.B.length:Int)),(48,bl s5)]) (λs5=>[(100,.bx 29 (Q8 x0))]) ?_ ?_
 . intro j3 hj4
   refine z [6,30,46,30] ?_;refine sifd 18 rfl ?_ ?_
   . refine z [23,23,38,30,23,23,23,23,23,38,30,23,23,23,23,23,38,30,23,23,23,23,23,24,24,24,24,24,23,38,1] ?_;exact sj (hj4 _) (eR [(100,100)])
   refine z [22,22,37,30] ?_;refine sifd 22 rfl ?_ ?_
   . refine z [23,23,23,23,23,38,30,23,23,23,23,23,38,30,23,23,23,23,23,24,24,24,24,24,23,38,1] ?_;exact sj (hj4 _) (eR [(100,100)])
   refine z [22,22,22,22,22,37,30] ?_;refine sifd 29 rfl ?_ ?_
   . refine z [23,23,23,23,23,38,30,23,23,23,23,23,24,24,24,24,24,23,38,1] ?_;exact sj (hj4 _) (eR [(100,100)])
   refine z [22,22,22,22,22,37,30] ?_;refine sifd 36 rfl ?_ ?_
   . refine z [23,23,23,23,23,24,24,24,24,24,23,38,1] ?_;exact sj (hj4 _) (eR [(100,100)])
   refine z [22,22,22,22,22] ?_;refine sifd 41 rfl ?_ ?_
   . refine z [22,22,22,22,22,22,37,1] ?_;exact sj (hj4 _) (eR [(100,100)])
   refine z [23,23,23,23,23,22,37,1] ?_;exact sj (hj4 _) (eR [(100,100)])
 intro s5
 refine c ?_ ?_
 . refine z [2,31,1,8,10] ?_;exact rt []
 refine z [9,4,5,2,31,1,7] ?_;refine sloopE 0 Lp.go (λs14=>[(1,.own 100),(2,i64 (0:Int)),(3,i64 (x0.B.length:Int)),(4,i64 s14)]) (λs14=>[(100,.bx 29 (Q8 x0))]) (λt12=>[(1,.own 100),(2,i64 (0:Int)),(3,i64 (x0.B.length:Int))]) (λt12=>[(100,.bx 29 (Q8 x0))]) (eR [(100,100)]) ?_ ?_
 . intro hj13 s14
   refine z [5,2,30,30,46,1] ?_;refine c ?_ ?_
   . refine z [9,4,5,7,2,33,36,30] ?_;refine b λy15 h16=>?_;refine z [43,42,39,30,56,1] ?_;refine c ?_ ?_
     . refine z [2,31,1,8,12,10] ?_;refine sU ?_;refine z [12,10] ?_;exact rt []
     refine z [9,11,4,6,30,40,31,3] ?_;exact sgo (eR [(100,100)])
   refine z [14,15] ?_;exact su (sj (hj13 _) (eR [(100,100)]))
 intro t12
 refine slpk ?_;refine z [13,4,5,2,31,1,7] ?_;refine sloopE 2 Lp.go (λs29=>[(1,.own 100),(2,i64 (0:Int)),(3,i64 (x0.B.length:Int)),(5,i64 s29)]) (λs29=>[(100,.bx 29 (Q8 x0))]) (λt27=>[(1,.own 100),(2,i64 (0:Int)),(3,i64 (x0.B.length:Int))]) (λt27=>[(100,.bx 29 (Q8 x0))]) (eR [(100,100)]) ?_ ?_
 . intro hj28 s29
   refine z [5,2,30,30,46,1] ?_;refine c ?_ ?_
   . refine z [9,4,5,7,2,33,36,30] ?_;refine b λy30 h31=>?_;refine z [43,42] ?_;refine cb (ca Qba) λr32=>?_;refine z [1] ?_;refine c ?_ ?_
     . refine z [2,31,1,8,12,10] ?_;refine sU ?_;refine z [12,10] ?_;exact rt []
     refine z [9,11,4,6,30,40,31,3] ?_;exact sgo (eR [(100,100)])
   refine z [14,15] ?_;exact su (sj (hj28 _) (eR [(100,100)]))
 intro t27
 refine slpk ?_;refine z [13,4,5] ?_;refine sjq (λs42=>[(1,.own 100),(2,i64 (0:Int)),(3,i64 (x0.B.length:Int)),(85,bl s42)]) (λs42=>[(100,.bx 29 (Q8 x0))]) ?_ ?_
 . intro j40 hj41
   refine z [6,33,36] ?_;refine cb (ca Qba) λr43=>?_;refine z [30] ?_;refine sifd 76 rfl ?_ ?_
   . refine z [23,23,23,38,30,23,23,23,38,1] ?_;exact sj (hj41 _) (eR [(100,100)])
   refine z [22,22] ?_;refine b λr45 h46=>?_;refine og' (c0 (Qba _ h46)) ?_;refine z [37,30] ?_;refine sifd 81 rfl ?_ ?_
   . refine z [23,23,23,38,1] ?_;exact sj (hj41 _) (eR [(100,100)])
   refine z [22,22] ?_;refine b λr47 h48=>?_;refine og' (c0 (Qba _ h48)) ?_;refine z [37,1] ?_;exact sj (hj41 _) (eR [(100,100)])
 intro s42
 refine c ?_ ?_
 . refine z [2,31,1,8,10] ?_;exact rt []
 refine z [9,4,5,2,31,1,7] ?_;refine sloopE 4 Lp.go (λs69=>[(1,.own 100),(2,i64 (0:Int)),(3,i64 (x0.B.length:Int)),(6,i64 s69)]) (λs69=>[(100,.bx 29 (Q8 x0))]) (λt67=>[(1,.own 100),(2,i64 (0:Int))]) (λt67=>[(100,.bx 29 (Q8 x0))]) (eR [(100,100)]) ?_ ?_
 . intro hj68 s69
   refine z [5,2,30,30,46,1] ?_;refine c ?_ ?_
   . refine z [9,4,5,7,5] ?_;refine b λy70 h71=>?_;refine b λr72 h73=>?_;refine b λy74 h75=>?_;refine b λr76 h77=>?_;refine sd ?_;refine zd [[100],[100],[],[],[]] ?_;refine dd [] (λ_ _ _ _=>c0 (Qd2 _ h73)) ?_;refine zd [[100],[100],[],[],[]] ?_;refine dd [] (λ_ _ _ _=>c0 (Vx _ h77)) ?_;refine zd [[]] ?_;refine de fol ?_;refine z [4] ?_;refine c ?_ ?_
     . refine z [2,31,1,8,12,10] ?_;refine sU ?_;refine z [12,10] ?_;exact rt []
     refine z [9,11,4,6,30,40,31,3] ?_;exact sgo (eR [(100,100)])
   refine z [14,15] ?_;exact su (sj (hj68 _) (eR [(100,100)]))
 intro t67
 refine slpk ?_;refine z [13,4,2] ?_;refine cb (ca W9) λr78=>?_;refine o (al' 101) ?_;refine z [34,1,5,5] ?_;refine b λr80 h81=>?_;refine b λr82 h83=>?_;refine sd ?_;refine zd [[100],[100]] ?_;refine dd [] (λ_ _ _ _=>c0 (Qd2 _ h81)) ?_;refine zd [[101]] ?_;refine dd [] (λ_ _ _ _=>c0 (Vx _ h83)) ?_;refine zd [[]] ?_;refine de fol ?_;refine z [4] ?_;refine c ?_ ?_
 . refine z [2,31,1,8,10] ?_;exact rt []
 refine z [9,4,5] ?_;refine sjq (λs91=>[(2,i64 (0:Int)),(122,bl s91)]) (λs91=>[]) ?_ ?_
 . intro j89 hj90
   refine sif (λhb92=>?_) (λhb92=>?_)
   . refine b λr93 h94=>?_;refine b λr95 h96=>?_;refine sd ?_;refine zd [[100],[100],[],[]] ?_;refine dd [] (λ_ _ _ _=>obk hb92 ops) ?_;refine zd [[100],[100]] ?_;refine dG [] (λ_ _ _ _=>c0 (Qd2 _ h94)) ?_;refine zd [[101]] ?_;refine dG [] (λ_ _ _ _=>c0 (Vx _ h96)) ?_;refine zd [[],[]] ?_;refine de fol ?_;refine z [4] ?_;exact sj (hj90 _) (eR [])
   refine sd ?_;refine zd [[100],[100],[],[]] ?_;refine dd [] (λ_ _ _ _=>obk hb92 ops) ?_;refine zd [[],[],[],[],[],[],[]] ?_;refine de fol ?_;refine z [4] ?_;exact sj (hj90 _) (eR [])
 intro s91
 refine c ?_ ?_
 . refine z [2,31,1,8,10] ?_;exact rt []
 refine z [9,4,2,31,1,8] ?_;exact rt []
theorem Qmx{n:Nat}{x0}:∀ r,Y1 n x0=some r->FnOk Tryz.prog 59 [Jb x0] [] (bl r) []:=by
 unfold Y1
 refine fs Tryz.func59 λw S0 γ hγ=>?_;refine z [2] ?_;refine o (bx' 100) ?_;refine z [31,1] ?_;refine sjq (λs7=>[(2,bl s7)]) (λs7=>[]) ?_ ?_
 . intro j5 hj6
   refine z [6,33,36] ?_;refine cb (ca Qmu) λr8=>?_;refine z [41,30] ?_;refine sifd 7 rfl ?_ ?_
   . refine z [22,22] ?_;refine b λr10 h11=>?_;refine og' (c0 (Qmw _ h11)) ?_;refine z [22,38,30] ?_;refine sifd 13 rfl ?_ ?_
     . refine z [22,22,22,22,22,22,22,38,31,1] ?_;exact sj (hj6 _) (eR [])
     refine z [23,23,23,23,23,23,23,37,31,1] ?_;exact sj (hj6 _) (eR [])
   refine z [23,23,23,23,37,30,23,23,23,23,23,23,23,37,31,1] ?_;exact sj (hj6 _) (eR [])
 intro s7
 refine z [8] ?_;exact rt []
theorem Qot{n:Nat}{x0}{x1}{x2}:∀ r,Zt n x0 x1 x2=some r->FnOk Tryz.prog 38 [Jb x0,sli 3 (List.map Qc x1),sli 3 (List.map Qc x2)] [] (bl r) []:=by
 unfold Zt
 refine fs Tryz.func38 λw S0 γ hγ=>?_;refine z [2] ?_;refine o (bx' 100) ?_;refine z [31,1,5,2,31,1,7] ?_;refine sloopE 0 Lp.go (λs17=>[(1,sli 3 (List.map Qc x1)),(2,sli 3 (List.map Qc x2)),(3,.own 100),(6,bl false),(7,i64 s17)]) (λs17=>[(100,.bx 31 (Jb x0))]) (λt15=>[(1,sli 3 (List.map Qc x1)),(2,sli 3 (List.map Qc x2)),(3,.own 100),(6,bl false)]) (λt15=>[(100,.bx 31 (Jb x0))]) (eR [(100,100)]) ?_ ?_
 . intro hj16 s17
   refine z [5,2,30,30,39,46,1] ?_;refine c ?_ ?_
   . refine z [9,4,5,7,2,30,30] ?_;refine b λy18 h19=>?_;refine z [43,42] ?_;refine cb (ca J5) λr20=>?_;refine cb (ca Qg2) λr22=>?_;refine z [58,1] ?_;refine c ?_ ?_
     . refine z [2,31,1,8,12,10] ?_;refine sU ?_;refine z [12,10] ?_;exact rt []
     refine z [9,11,4,6,30,40,31,3] ?_;exact sgo (eR [(100,100)])
   refine z [14,15] ?_;exact su (sj (hj16 _) (eR [(100,100)]))
 intro t15
 refine slpk ?_;refine z [13,4] ?_;refine sjq (λs28=>[(6,bl s28)]) (λs28=>[]) ?_ ?_
 . intro j26 hj27
   refine z [6,32] ?_;refine cb (ca Qmx) λr29=>?_;refine z [30] ?_;refine sifd 23 rfl ?_ ?_
   . refine z [22,22,22,22,22,22,38,30] ?_;refine sifd 31 rfl ?_ ?_
     . refine z [22,22,22,38,31,1] ?_;exact sj (hj27 _) (eR [])
     refine z [23,23,23,37,31,1] ?_;exact sj (hj27 _) (eR [])
   refine z [23,23,23,23,23,23,37,30,23,23,23,37,31,1] ?_;exact sj (hj27 _) (eR [])
 intro s28
 refine z [8] ?_;exact rt []
theorem Qa0{n:Nat}{x0}{x1}:∀ r,Vu n x0 x1=some r->FnOk Tryz.prog 118 [sli 3 (List.map Qc x0),sli 3 (List.map Qc x1)] [] (bl r) []:=by
 unfold Vu
 refine fs Tryz.func118 λw S0 γ hγ=>?_;refine z [2,31,1,5,2,30,39,30,39,56,1] ?_;refine c ?_ ?_
 . refine z [2,31,1,8,10] ?_;exact rt []
 refine z [9,4,5,2,31,1,7] ?_;refine sloopE 0 Lp.go (λs17=>[(0,sli 3 (List.map Qc x0)),(1,sli 3 (List.map Qc x1)),(4,bl false),(5,i64 s17)]) (λs17=>[]) (λt15=>[(4,bl false)]) (λt15=>[]) eI ?_ ?_
 . intro hj16 s17
   refine z [5,2,30,30,39,46,1] ?_;refine c ?_ ?_
   . refine z [9,4,5,7,5] ?_;refine b λy18 h19=>?_;refine b λy20 h21=>?_;refine b λr22 h23=>?_;refine sd ?_;refine zd [[],[],[],[],[],[],[],[]] ?_;refine dd [] (λ_ _ _ _=>c0 (Vx _ h23)) ?_;refine zd [[]] ?_;refine de fol ?_;refine z [4] ?_;refine c ?_ ?_
     . refine z [2,31,1,8,12,10] ?_;refine sU ?_;refine z [12,10] ?_;exact rt []
     refine z [9,11,4,6,30,40,31,3] ?_;exact sgo eI
   refine z [14,15] ?_;exact su (sj (hj16 _) eI)
 intro t15
 refine slpk ?_;refine z [13,4,2,31,1,8] ?_;exact rt []
theorem Qn8{n:Nat}{x0}{x1}:∀ r,Y8 n x0 x1=some r->FnOk Tryz.prog 63 [Ql x0,Ql x1] [] (bl r) []:=by
 unfold Y8
 refine fs Tryz.func63 λw S0 γ hγ=>?_;refine z [2] ?_;refine o (bx' 100) ?_;refine o (bx' 101) ?_;refine z [31,1,5] ?_;refine sjq (λs7=>[(2,.own 100),(3,.own 101),(4,bl false),(30,bl s7)]) (λs7=>[(100,.bx 70 (Ql x0)),(101,.bx 70 (Ql x1))]) ?_ ?_
 . intro j5 hj6
   refine z [6,33,36,39,33,36,39,56,30] ?_;refine sifd 15 rfl ?_ ?_
   . refine z [23,23,23,23,23,23,38,30,23,23,23,23,23,23,38,1] ?_;exact sj (hj6 _) (eR [(100,100),(101,101)])
   refine z [22,22,22,22] ?_;refine b λr8 h9=>?_;refine og' (c0 (Vx _ h9)) ?_;refine z [22,37,30] ?_;refine sifd 23 rfl ?_ ?_
   . refine z [23,23,23,23,23,23,38,1] ?_;exact sj (hj6 _) (eR [(100,100),(101,101)])
   refine z [22,22,22,22] ?_;refine b λr10 h11=>?_;refine og' (c0 (Qa0 _ h11)) ?_;refine z [22,37,1] ?_;exact sj (hj6 _) (eR [(100,100),(101,101)])
 intro s7
 refine c ?_ ?_
 . refine z [2,31,1,8,10] ?_;exact rt []
 refine z [9,4,5,2,31,1,7] ?_;refine sloopE 0 Lp.go (λs70=>[(2,.own 100),(3,.own 101),(4,bl false),(5,i64 s70)]) (λs70=>[(100,.bx 70 (Ql x0)),(101,.bx 70 (Ql x1))]) (λt68=>[(4,bl false)]) (λt68=>[]) (eR [(100,100),(101,101)]) ?_ ?_
 . intro hj69 s70
   refine z [5,2,30,33,36,39,46,1] ?_;refine c ?_ ?_
   . refine z [9,4,5,7,2,33,36,30] ?_;refine b λy71 h72=>?_;refine z [43,42] ?_;refine o (al' 102) ?_;refine z [34,1,2,33,36,30] ?_;refine b λy73 h74=>?_;refine z [43,42] ?_;refine o (al' 103) ?_;refine z [34,1] ?_;refine sjq (λs87=>[(2,.own 100),(3,.own 101),(4,bl false),(5,i64 s70),(68,bl s87)]) (λs87=>[(100,.bx 70 (Ql x0)),(101,.bx 70 (Ql x1))]) ?_ ?_
     . intro j85 hj86
       refine sif (λhb88=>?_) (λhb88=>?_)
       . refine sd ?_;refine zd [[102],[102],[103],[103],[]] ?_;refine dd [] (λ_ _ _ _=>obk hb88 ops) ?_;refine zd [[],[],[],[],[],[],[],[],[],[],[],[],[],[],[]] ?_;refine de fol ?_;refine z [4] ?_;exact sj (hj86 _) (eR [(100,100),(101,101)])
       refine b λr89 h90=>?_;refine b λr91 h92=>?_;refine b λr93 h94=>?_;refine sif (λhb95=>?_) (λhb95=>?_)
       . refine sd ?_;refine zd [[102],[102],[103],[103],[]] ?_;refine dd [] (λ_ _ _ _=>obk hb88 ops) ?_;refine zd [[102]] ?_;refine dG [] (λ_ _ _ _=>c0 (Wv _ h90)) ?_;refine zd [[103]] ?_;refine dG [] (λ_ _ _ _=>c0 (Wv _ h92)) ?_;refine dG [] (λ_ _ _ _=>c0 (Qa0 _ h94)) ?_;refine zd [[],[]] ?_;refine dd [] (λ_ _ _ _=>obk hb95 ops) ?_;refine zd [[],[],[],[],[],[],[]] ?_;refine de fol ?_;refine z [4] ?_;exact sj (hj86 _) (eR [(100,100),(101,101)])
       refine b λr96 h97=>?_;refine sd ?_;refine zd [[102],[102],[103],[103],[]] ?_;refine dd [] (λ_ _ _ _=>obk hb88 ops) ?_;refine zd [[102]] ?_;refine dG [] (λ_ _ _ _=>c0 (Wv _ h90)) ?_;refine zd [[103]] ?_;refine dG [] (λ_ _ _ _=>c0 (Wv _ h92)) ?_;refine dG [] (λ_ _ _ _=>c0 (Qa0 _ h94)) ?_;refine zd [[],[]] ?_;refine dd [] (λ_ _ _ _=>obk hb95 ops) ?_;refine zd [[102],[102],[103],[103]] ?_;refine dG [] (λ_ _ _ _=>c0 (Qa0 _ h97)) ?_;refine zd [[],[]] ?_;refine de fol ?_;refine z [4] ?_;exact sj (hj86 _) (eR [(100,100),(101,101)])
     intro s87
     refine c ?_ ?_
     . refine z [2,31,1,8,12,10] ?_;refine sU ?_;refine z [12,10] ?_;exact rt []
     refine z [9,11,4,6,30,40,31,3] ?_;exact sgo (eR [(100,100),(101,101)])
   refine z [14,15] ?_;exact su (sj (hj69 _) (eR []))
 intro t68
 refine slpk ?_;refine z [13,4,2,31,1,8] ?_;exact rt []
theorem Qmy{x0}:∀ r,Qak x0=some r->FnOk Tryz.prog 127 [i64 x0] [] (i64 r) []:=by
 unfold Qak
 refine fs Tryz.func127 λw S0 γ hγ=>?_;refine z [2,31,1,2,30,88,89,31,1,8] ?_;exact rt []
theorem Qc8{x0}:∀ r,Wt x0=some r->FnOk Tryz.prog 139 [Qc x0] [] (bl r) []:=by
 unfold Wt
 refine fs Tryz.func139 λw S0 γ hγ=>?_;refine z [2] ?_;refine o (bx' 100) ?_;refine z [31,1,2,33,36,39,41,31,1,8] ?_;exact rt []
theorem Zx{n:Nat}{x0}{x1}:∀ r,K5 n x0 x1=some r->FnOk Tryz.prog 74 [Qc x0,Qc x1] [] (Qc r) []:=by
 unfold K5
 refine fs Tryz.func74 λw S0 γ hγ=>?_;refine z [2] ?_;refine o (bx' 100) ?_;refine o (bx' 101) ?_;refine o (al' 102) ?_;refine z [1,5] ?_;refine b λr1 h2=>?_;refine b λr3 h4=>?_;refine b λr5 h6=>?_;refine sd ?_;refine zd [[100],[100],[101],[101],[],[100],[100],[101],[101]] ?_;refine dd [] (λ_ _ _ _=>c0 (We _ h2)) ?_;refine zd [[100],[100],[101],[101]] ?_;refine dd [] (λ_ _ _ _=>c0 (We _ h4)) ?_;refine dx [9,14,19] [] (λst mm ⟨a9,a14,a19,_⟩ _=>og (bld (l:=[bl (x0.Neg != x1.Neg),sli 1 (List.map u32 r1),sli 1 (List.map u32 r3)]) pl_34.h ti_34.h Q3 ⟨_,_,_,(a9.trans rfl),rfl,rfl,rfl,(szk (k:=1) rfl rfl),⟨_,_,_,(a14.trans rfl),rfl,rfl,rfl,(szk (k:=1) rfl rfl),⟨_,_,_,(a19.trans rfl),rfl,rfl,rfl,(szk (k:=1) rfl rfl),rfl⟩⟩⟩ rfl)) ?_;refine dd [] (λ_ _ _ _=>c0 (J5 _ h6)) ?_;refine zd [[102]] ?_;refine de fol ?_;refine z [4,8] ?_;exact rt []
theorem Qg5{n:Nat}{x0}{x1}:∀ r,Kw n x0 x1=some r->FnOk Tryz.prog 194 [Qc x0,i64 x1] [] (bl r) []:=by
 unfold Kw
 refine fs Tryz.func194 λw S0 γ hγ=>?_;refine z [2] ?_;refine o (bx' 100) ?_;refine z [31,1,2,32] ?_;refine cb (ca Qg4) λr1=>?_;refine z [30,58,31,1,8] ?_;exact rt []
theorem Qd3{n:Nat}{x0}{x1}:∀ r,Kl n x0 x1=some r->FnOk Tryz.prog 129 [sli 3 (List.map Qc x0),i64 x1] [] (i64 r) []:=by
 unfold Kl
 refine fs Tryz.func129 λw S0 γ hγ=>?_;refine z [2,31,1,5,2,31,1,7] ?_;refine sloopE 0 Lp.go (λs13=>[(0,sli 3 (List.map Qc x0)),(1,i64 x1),(4,i64 (0:Int)),(5,i64 s13)]) (λs13=>[]) (λt11=>[(0,sli 3 (List.map Qc x0)),(4,i64 (0:Int))]) (λt11=>[]) eI ?_ ?_
 . intro hj12 s13
   refine z [5,2,30,30,39,46,1] ?_;refine c ?_ ?_
   . refine z [9,4,5,7,2,30,30] ?_;refine b λy14 h15=>?_;refine z [43,42,30] ?_;refine cb (ca Qg5) λr16=>?_;refine z [44,1] ?_;refine c ?_ ?_
     . refine z [2,30,31,1,8,12,10] ?_;refine sU ?_;refine z [12,10] ?_;exact rt []
     refine z [9,11,4,6,30,40,31,3] ?_;exact sgo eI
   refine z [14,15] ?_;exact su (sj (hj12 _) eI)
 intro t11
 refine slpk ?_;refine z [13,4,2,30,39,31,1,8] ?_;exact rt []
theorem Qmc{n:Nat}{x0}{x1}{x2}{x3}:∀ r,W7 n x0 x1 x2 x3=some r->FnOk Tryz.prog 132 [Jb x0,Qc x1,Qc x2,i64 x3] [] (Qc r) []:=by
 unfold W7
 refine fs Tryz.func132 λw S0 γ hγ=>?_;refine z [2] ?_;refine o (bx' 100) ?_;refine o (bx' 101) ?_;refine o (bx' 102) ?_;refine o (al' 103) ?_;refine z [1,5] ?_;refine b λy1 h2=>?_;refine b λr3 h4=>?_;refine b λr5 h6=>?_;refine sd ?_;refine zd [[101],[102],[100],[],[100],[],[],[]] ?_;refine dd [] (λ_ _ _ _=>c0 (Zx _ h4)) ?_;refine dd [] (λ_ _ _ _=>c0 (Xa _ h6)) ?_;refine zd [[103]] ?_;refine de fol ?_;refine z [4,8] ?_;exact rt []
theorem Qmz{n:Nat}{x0}{x1}{x2}:∀ r,Xg n x0 x1 x2=some r->FnOk Tryz.prog 131 [Jb x0,Qc x1,sli 3 (List.map Qc x2)] [] (Xi r) []:=by
 unfold Xg
 refine fs Tryz.func131 λw S0 γ hγ=>?_;refine z [2] ?_;refine o (bx' 100) ?_;refine o (bx' 101) ?_;refine o (al' 102) ?_;refine z [1,5] ?_;refine b λr1 h2=>?_;refine sd ?_;refine zd [[101],[],[100],[100]] ?_;refine dd [] (λ_ _ _ _=>c0 (Qam _ h2)) ?_;refine dx [7,8,11] [] (λst mm ⟨a7,a8,a11,_⟩ _=>og (bld (l:=[Qc x1,sli 3 (List.map Qc x2),sli 3 (List.map Qc r1)]) Q8u.h Qzj.h Qfz ⟨_,_,_,(a7.trans rfl),rfl,rfl,rfl,(szk (k:=3) rfl rfl),⟨_,_,_,(a8.trans rfl),rfl,rfl,rfl,(szk (k:=1) rfl rfl),⟨_,_,_,(a11.trans rfl),rfl,rfl,rfl,(szk (k:=1) rfl rfl),rfl⟩⟩⟩ rfl)) ?_;refine zd [[102]] ?_;refine de fol ?_;refine z [4,8] ?_;exact rt []
theorem Qhy{n:Nat}{x0}:∀ r,Ya n x0=some r->FnOk Tryz.prog 188 [Qc x0] [] (Qc r) []:=by
 unfold Ya
 refine fs Tryz.func188 λw S0 γ hγ=>?_;refine z [2] ?_;refine o (bx' 100) ?_;refine o (al' 101) ?_;refine z [1,2,33,36,44,33,36,33,36] ?_;refine s1 (bld (l:=[bl (!x0.Neg),sli 1 (List.map u32 x0.N),sli 1 (List.map u32 x0.D)]) pl_34.h ti_34.h Q3 ⟨_,_,_,rfl,rfl,rfl,rfl,(szk (k:=1) rfl rfl),⟨_,_,_,rfl,rfl,rfl,rfl,(szk (k:=1) rfl rfl),⟨_,_,_,rfl,rfl,rfl,rfl,(szk (k:=1) rfl rfl),rfl⟩⟩⟩ rfl) ?_;refine cb (ca J5) λr1=>?_;refine z [34,1,8] ?_;exact rt []
theorem Qd4{n:Nat}{x0}{x1}:∀ r,W5 n x0 x1=some r->FnOk Tryz.prog 117 [Qc x0,Qc x1] [] (Qc r) []:=by
 unfold W5
 refine fs Tryz.func117 λw S0 γ hγ=>?_;refine z [2] ?_;refine o (bx' 100) ?_;refine o (bx' 101) ?_;refine o (al' 102) ?_;refine z [1,5] ?_;refine b λr1 h2=>?_;refine b λr3 h4=>?_;refine sd ?_;refine zd [[100],[101]] ?_;refine dd [] (λ_ _ _ _=>c0 (Qhy _ h2)) ?_;refine dd [] (λ_ _ _ _=>c0 (Xa _ h4)) ?_;refine zd [[102]] ?_;refine de fol ?_;refine z [4,8] ?_;exact rt []
theorem Qhz{n:Nat}{x0}{x1}:∀ r,W6 n x0 x1=some r->FnOk Tryz.prog 140 [Qc x0,Qc x1] [] (Qc r) []:=by
 unfold W6
 refine fs Tryz.func140 λw S0 γ hγ=>?_;refine z [2] ?_;refine o (bx' 100) ?_;refine o (bx' 101) ?_;refine o (al' 102) ?_;refine z [1,5] ?_;refine b λr1 h2=>?_;refine b λr3 h4=>?_;refine b λr5 h6=>?_;refine sd ?_;refine zd [[100],[100],[101],[101],[],[100],[100],[101],[101]] ?_;refine dd [] (λ_ _ _ _=>c0 (We _ h2)) ?_;refine zd [[100],[100],[101],[101]] ?_;refine dd [] (λ_ _ _ _=>c0 (We _ h4)) ?_;refine dx [9,14,19] [] (λst mm ⟨a9,a14,a19,_⟩ _=>og (bld (l:=[bl (x0.Neg != x1.Neg),sli 1 (List.map u32 r1),sli 1 (List.map u32 r3)]) pl_34.h ti_34.h Q3 ⟨_,_,_,(a9.trans rfl),rfl,rfl,rfl,(szk (k:=1) rfl rfl),⟨_,_,_,(a14.trans rfl),rfl,rfl,rfl,(szk (k:=1) rfl rfl),⟨_,_,_,(a19.trans rfl),rfl,rfl,rfl,(szk (k:=1) rfl rfl),rfl⟩⟩⟩ rfl)) ?_;refine dd [] (λ_ _ _ _=>c0 (J5 _ h6)) ?_;refine zd [[102]] ?_;refine de fol ?_;refine z [4,8] ?_;exact rt []
theorem Qou{n:Nat}{x0}{x1}:∀ r,Zu n x0 x1=some r->FnOk Tryz.prog 280 [Qc x0,i64 x1] [] (.tup [Qc r.1,bl r.2]) []:=by
 unfold Zu
 refine fs Tryz.func280 λw S0 γ hγ=>?_;refine z [2] ?_;refine o (bx' 100) ?_;refine o (al' 101) ?_;refine z [31,1,5] ?_;refine sjq (λs5=>[(1,i64 x1),(2,.own 100),(4,.own 101),(5,bl false),(22,bl s5)]) (λs5=>[(100,.bx 34 (Qc x0)),(101,.bx 34 (Qc (⟨false,[],[]⟩:Qa)))]) ?_ ?_
 . intro j3 hj4
   refine z [6,30,46,30] ?_;refine sifd 11 rfl ?_ ?_
   . refine z [23,23,38,30,23,23,23,24,24,23,38,1] ?_;exact sj (hj4 _) (eR [(100,100),(101,101)])
   refine z [22,22,37,30] ?_;refine sifd 15 rfl ?_ ?_
   . refine z [23,23,23,24,24,23,38,1] ?_;exact sj (hj4 _) (eR [(100,100),(101,101)])
   refine z [22,22,22] ?_;refine sifd 18 rfl ?_ ?_
   . refine z [22] ?_;refine b λr6 h7=>?_;refine og' (c0 (Qc8 _ h7)) ?_;refine z [22,37,1] ?_;exact sj (hj4 _) (eR [(100,100),(101,101)])
   refine z [23,23,22,37,1] ?_;exact sj (hj4 _) (eR [(100,100),(101,101)])
 intro s5
 refine c ?_ ?_
 . refine z [2] ?_;refine cb (ca W9) λr8=>?_;refine z [34,31,1,8,10] ?_;exact rt []
 refine z [9,4,2] ?_;refine cb (ca W9) λr10=>?_;refine o (al' 102) ?_;refine z [34,1,5,2,31,1,7] ?_;refine sloopE 0 (λt=>t) (λs20=>[(1,i64 x1),(2,.own 100),(4,.own 101),(5,bl false),(6,.own 102),(7,i64 s20.2)]) (λs20=>[(100,.bx 34 (Qc x0)),(101,.bx 34 (Qc (⟨false,[],[]⟩:Qa))),(102,.bx 34 (Qc s20.1))]) (λt18=>[(1,i64 x1),(2,.own 100),(4,.own 101),(5,bl false),(6,.own 102)]) (λt18=>[(100,.bx 34 (Qc x0)),(101,.bx 34 (Qc (⟨false,[],[]⟩:Qa))),(102,.bx 34 (Qc t18))]) (eR [(100,100),(101,101),(102,102)]) ?_ ?_
 . intro hj19 s20
   refine z [5,2,30,30,46,1] ?_;refine c ?_ ?_
   . refine z [9,4,5,7,6,32,32] ?_;refine cb (ca Zx) λr21=>?_;refine z [34,3,11,4,6,30,40,31,3] ?_;exact sgo (eR [(100,100),(101,101),(102,102)])
   refine z [14,15] ?_;exact su (sj (hj19 _) (eR [(100,100),(101,101),(102,102)]))
 intro t18
 refine z [13,4,5,2,31,1,7] ?_;refine sloopE 2 (λt=>t) (λs31=>[(1,i64 x1),(2,.own 100),(4,.own 101),(5,bl false),(6,.own 102),(8,i64 s31.2)]) (λs31=>[(100,.bx 34 (Qc x0)),(101,.bx 34 (Qc (⟨false,[],[]⟩:Qa))),(102,.bx 34 (Qc s31.1))]) (λt29=>[(4,.own 101),(5,bl false),(6,.own 102)]) (λt29=>[(101,.bx 34 (Qc (⟨false,[],[]⟩:Qa))),(102,.bx 34 (Qc t29))]) (eR [(100,100),(101,101),(102,102)]) ?_ ?_
 . intro hj30 s31
   refine z [5,2,30,30,47,1] ?_;refine c ?_ ?_
   . refine z [9,4,5,7,6,32,32] ?_;refine cb (ca Qhz) λr32=>?_;refine z [34,3,11,4,6,30,49,31,3] ?_;exact sgo (eR [(100,100),(101,101),(102,102)])
   refine z [14,15] ?_;exact su (sj (hj30 _) (eR [(101,101),(102,102)]))
 intro t29
 refine z [13,4,2,32,34,31,1,8] ?_;exact rt []
theorem Qi0{n:Nat}{x0}{x1}{x2}{x3}:∀ r,Qac n x0 x1 x2 x3=some r->FnOk Tryz.prog 240 [i64 x0,i64 x1,Qc x2,Qc x3] [] (.tup [Qc r.1,bl r.2]) []:=by
 unfold Qac
 refine fs Tryz.func240 λw S0 γ hγ=>?_;refine z [2] ?_;refine o (bx' 100) ?_;refine o (bx' 101) ?_;refine o (al' 102) ?_;refine z [31,1,5,2,30,41,1] ?_;refine c ?_ ?_
 . refine z [2,32] ?_;refine cb (ca Qhy) λr1=>?_;refine z [34,31,1,8,10] ?_;exact rt []
 refine z [9,4,5,2,30,41,1] ?_;refine c ?_ ?_
 . refine z [2,32,32] ?_;refine cb (ca Xa) λr3=>?_;refine z [34,31,1,8,10] ?_;exact rt []
 refine z [9,4,5,2,30,41,1] ?_;refine c ?_ ?_
 . refine z [2,32,32] ?_;refine cb (ca Qd4) λr5=>?_;refine z [34,31,1,8,10] ?_;exact rt []
 refine z [9,4,5,2,30,41,1] ?_;refine c ?_ ?_
 . refine z [2,32,32] ?_;refine cb (ca Zx) λr7=>?_;refine z [34,31,1,8,10] ?_;exact rt []
 refine z [9,4,5,2,30,41,1] ?_;refine c ?_ ?_
 . refine z [2,32,30] ?_;refine cb (ca Qou) λr9=>?_;refine z [35,35,34,31,1,8,10] ?_;exact rt []
 refine z [9,4,5,2,32] ?_;refine cb (ca Qc8) λr11=>?_;refine z [1] ?_;refine c ?_ ?_
 . refine z [2,32,34,31,1,8,10] ?_;exact rt []
 refine z [9,4,2,32,32] ?_;refine cb (ca Qhz) λr13=>?_;refine z [34,31,1,8] ?_;exact rt []
theorem Qn9{n:Nat}{x0}{x1}{x2}:∀ r,Xy n x0 x1 x2=some r->FnOk Tryz.prog 195 [Jt x0,Xi x1,.own 0] [(0,.sl 34 3 (List.map Qc x2))] (.tup [Qc r.1,bl r.2]) [(0,.sl 34 3 (List.map Qc x2))]:=by
 unfold Xy
 refine fs Tryz.func195 λw S0 γ hγ=>?_;refine z [2] ?_;refine o (bx' 100) ?_;refine o (bx' 101) ?_;refine o (al' 102) ?_;refine z [31,1,5,2,33,36,41,1] ?_;refine c ?_ ?_
 . refine z [2,33,36,34,31,1,8,10] ?_;exact rt [(0,0)]
 refine z [9,4,5,2,33,36,41,1] ?_;refine c ?_ ?_
 . refine z [2,33,36,34,31,1,8,10] ?_;exact rt [(0,0)]
 refine z [9,4,5,2,33,36,41,1] ?_;refine c ?_ ?_
 . refine z [2,33,36,33,36] ?_;refine b λy1 h2=>?_;refine z [43,42,34,31,1,8,10] ?_;exact rt [(0,0)]
 refine z [9,4,5,2,33,36,41,1] ?_;refine c ?_ ?_
 . refine z [2,33,36,33,36] ?_;refine b λy3 h4=>?_;refine z [43,42,34,31,1,8,10] ?_;exact rt [(0,0)]
 refine z [9,4,5] ?_;refine sjq (λs7=>[(2,.own 0),(3,.own 100),(6,.own 102),(7,bl false),(43,bl s7)]) (λs7=>[(0,.sl 34 3 (List.map Qc x2)),(100,.bx 232 (Jt x0)),(102,.bx 34 (Qc (⟨false,[],[]⟩:Qa)))]) ?_ ?_
 . intro j5 hj6
   refine z [6,33,36,41,30] ?_;refine sifd 39 rfl ?_ ?_
   . refine z [23,23,23,38,1] ?_;exact sj (hj6 _) (eR [(0,0),(100,100),(102,102)])
   refine z [22,22,22,37,1] ?_;exact sj (hj6 _) (eR [(0,0),(100,100),(102,102)])
 intro s7
 refine c ?_ ?_
 . refine z [5] ?_;refine b λy8 h9=>?_;refine b λy10 h11=>?_;refine b λr12 h13=>?_;refine sd ?_;refine zd [[100],[100],[100],[100],[],[100],[100]] ?_;refine dx [48,50] [0] (λst mm ⟨a48,a50,_⟩ ⟨g0,_⟩=>og (ixO (f:=Qc) (g0.trans rfl) Tryz.underlying26 ti_34.h h9 rfl (a48.trans rfl) (a50.trans rfl))) ?_
   refine dx [51] [0] (λst mm ⟨a51,_⟩ ⟨g0,_⟩=>og (ldO (f:=Qc) [] (g0.trans rfl) (Qah h9) (by exact rfl) off0 sh_34.h (by exact rfl) (by exact rfl) rfl (a51.trans rfl))) ?_
   refine zd [[],[100],[100]] ?_;refine dx [53,55] [0] (λst mm ⟨a53,a55,_⟩ ⟨g0,_⟩=>og (ixO (f:=Qc) (g0.trans rfl) Tryz.underlying26 ti_34.h h11 rfl (a53.trans rfl) (a55.trans rfl))) ?_
   refine dx [56] [0] (λst mm ⟨a56,_⟩ ⟨g0,_⟩=>og (ldO (f:=Qc) [] (g0.trans rfl) (Qah h11) (by exact rfl) off0 sh_34.h (by exact rfl) (by exact rfl) rfl (a56.trans rfl))) ?_
   refine dd [] (λ_ _ _ _=>c0 (Qi0 _ h13)) ?_;refine zd [[],[],[102],[]] ?_;refine de fol ?_;refine z [4,8,10] ?_;exact rt [(0,0)]
 refine z [9,4,5] ?_;refine b λy14 h15=>?_;refine b λy16 h17=>?_;refine b λr18 h19=>?_;refine sd ?_;refine zd [[100],[100],[],[100],[100],[0],[0],[],[100],[100],[0],[0]] ?_;refine dd [] (λ_ _ _ _=>c0 (Qi0 _ h19)) ?_;refine zd [[],[],[102],[]] ?_;refine de fol ?_;refine z [4,8] ?_;exact rt [(0,0)]
theorem Qoa{n:Nat}{x0}{x1}{x2}:∀ r,Xz n x0 x1 x2=some r->FnOk Tryz.prog 130 [Je x0,Xi x1,i64 x2] [] (.tup [sli 3 (List.map Qc r.1),i64 r.2.1,i64 r.2.2]) []:=by
 unfold Xz
 refine fs Tryz.func130 λw S0 γ hγ=>?_;refine z [2] ?_;refine o (bx' 100) ?_;refine o (bx' 101) ?_;refine s1 (asg rfl (kLm (k:=3) Qc)) ?_;refine z [31,31,1,2] ?_;refine so (asgN (y:=102) (E:=34) (k:=3) rfl rfl) ?_;refine z [1,5,2,31,1,7] ?_;refine sloopE 0 Lp.go (λs21=>[(2,i64 x2),(3,.own 100),(4,.own 101),(6,sli 3 (List.map Qc ([]:List Qa))),(7,i64 (0:Int)),(8,i64 (0:Int)),(9,.own 102),(10,i64 s21.2)]) (λs21=>[(100,.bx 25 (Je x0)),(101,.bx 210 (Xi x1)),(102,.sl 34 3 (List.map Qc s21.1))]) (λt19=>[(6,sli 3 (List.map Qc ([]:List Qa))),(7,i64 (0:Int)),(8,i64 (0:Int)),(9,.own 102)]) (λt19=>[(102,.sl 34 3 (List.map Qc t19))]) (eR [(100,100),(101,101),(102,102)]) ?_ ?_
 . intro hj20 s21
   refine z [5,2,30,33,36,39,46,1] ?_;refine c ?_ ?_
   . refine z [9,4,5,7,5] ?_;refine b λy22 h23=>?_;refine b λr24 h25=>?_;refine sd ?_;refine zd [[100],[100],[],[],[],[101],[]] ?_;refine dd [102] (λ_ _ _ _=>cG (Qn9 _ h25) [102] [] [102]) ?_;refine zd [[],[],[]] ?_;refine dd [103] (λ_ _ _ _=>al' 103) ?_;refine zd [[103],[]] ?_;refine de fol ?_;refine z [4,5,2,30,44,1] ?_;refine c ?_ ?_
     . refine z [2] ?_;refine so (bsl (y:=104) (ls:=List.map Qc ([]:List Qa)) Tryz.underlying26 ti_34.h rfl rfl rfl rfl rfl trivial rfl rfl) ?_;refine z [30,31,31,31,1,8,10,12,10] ?_;refine sU ?_;refine z [12,10] ?_;refine fz 104 [6,33] [] ?_;exact rt []
     refine z [9,4,5,2,32,30] ?_;refine cb (ca Qg5) λr26=>?_;refine z [44,1] ?_;refine c ?_ ?_
     . refine z [2] ?_;refine so (bsl (y:=104) (ls:=List.map Qc ([]:List Qa)) Tryz.underlying26 ti_34.h rfl rfl rfl rfl rfl trivial rfl rfl) ?_;refine z [30,31,31,31,1,8,10,12,10] ?_;refine sU ?_;refine z [12,10] ?_;refine fz 104 [6,39] [] ?_;exact rt []
     refine z [9,4,6,30,32] ?_
     refine so (bsl (y:=104) (ls:=List.map Qc ([r24.1]:List Qa)) Tryz.underlying26 ti_34.h rfl rfl rfl rfl rfl ⟨rfl,rfl,(by exact rfl),(by exact rfl),trivial⟩ rfl rfl) ?_
     refine b λy28 h29=>?_;refine o (app' 105) ?_;refine z [31,3,11,4,6,30,40,31,3] ?_;exact sgo (eR [(100,100),(101,101),(102,105)])
   refine z [14,15] ?_;exact su (sj (hj20 _) (eR [(102,102)]))
 intro t19
 refine slpk ?_;refine z [13,4,2,30,31,31,31,1,8] ?_;refine fz 102 [6,9,45] [] ?_;exact rt []
theorem Qob{n:Nat}{x0}{x1}:∀ r,X0 n x0 x1=some r->FnOk Tryz.prog 133 [Je x0,sli 3 (List.map Qc x1)] [] (sli 3 (List.map Qc r)) []:=by
 unfold X0
 refine fs Tryz.func133 λw S0 γ hγ=>?_;refine z [2] ?_;refine o (bx' 100) ?_;refine s1 (asg rfl (kLm (k:=3) Qc)) ?_;refine z [1,2] ?_;refine so (asgN (y:=101) (E:=34) (k:=3) rfl rfl) ?_;refine z [1,5,2,31,1,7] ?_;refine sloopE 0 (λt=>t) (λs17=>[(1,sli 3 (List.map Qc x1)),(2,.own 100),(4,sli 3 (List.map Qc ([]:List Qa))),(5,.own 101),(6,i64 s17.2)]) (λs17=>[(100,.bx 25 (Je x0)),(101,.sl 34 3 (List.map Qc s17.1))]) (λt15=>[(4,sli 3 (List.map Qc ([]:List Qa))),(5,.own 101)]) (λt15=>[(101,.sl 34 3 (List.map Qc t15))]) (eR [(100,100),(101,101)]) ?_ ?_
 . intro hj16 s17
   refine z [5,2,30,33,36,39,46,1] ?_;refine c ?_ ?_
   . refine z [9,4,5,7,6,30,30,33,36,30] ?_;refine b λy18 h19=>?_;refine z [43,42] ?_;refine b λy20 h21=>?_;refine z [43,42] ?_
     refine so (bsl (y:=102) (ls:=List.map Qc ([y20]:List Qa)) Tryz.underlying26 ti_34.h rfl rfl rfl rfl rfl ⟨rfl,rfl,(by exact rfl),(by exact rfl),trivial⟩ rfl rfl) ?_
     refine b λy22 h23=>?_;refine o (app' 103) ?_;refine z [31,3,11,4,6,30,40,31,3] ?_;exact sgo (eR [(100,100),(101,103)])
   refine z [14,15] ?_;exact su (sj (hj16 _) (eR [(101,101)]))
 intro t15
 refine z [13,4,2,30,31,1,8] ?_;refine fz 101 [4,5,25] [] ?_;exact rt []
theorem Qmd{n:Nat}{x0}{x1}{x2}{x3}:∀ r,Yi n x0 x1 x2 x3=some r->FnOk Tryz.prog 193 [sli 3 (List.map Qc x0),.own 0,i64 x2,Qc x3] [(0,.sl 26 1 (List.map Qg x1))] (Qc r) [(0,.sl 26 1 (List.map Qg x1))]:=by
 unfold Yi
 refine fs Tryz.func193 λw S0 γ hγ=>?_;refine z [2] ?_;refine o (bx' 100) ?_;refine o (al' 101) ?_;refine z [1,2] ?_;refine cb (ca W9) λr1=>?_;refine o (al' 102) ?_;refine z [34,1,5,2,31,1,7] ?_;refine sloopE 0 (λt=>t) (λs69=>[(0,sli 3 (List.map Qc x0)),(1,.own 0),(2,i64 x2),(7,.own 100),(8,.own 101),(9,.own 102),(10,i64 s69.2)]) (λs69=>[(0,.sl 26 1 (List.map Qg x1)),(100,.bx 34 (Qc x3)),(101,.bx 34 (Qc (⟨false,[],[]⟩:Qa))),(102,.bx 34 (Qc s69.1))]) (λt67=>[(7,.own 100),(8,.own 101),(9,.own 102)]) (λt67=>[(0,.sl 26 1 (List.map Qg x1)),(100,.bx 34 (Qc x3)),(101,.bx 34 (Qc (⟨false,[],[]⟩:Qa))),(102,.bx 34 (Qc t67))]) (eR [(0,0),(100,100),(101,101),(102,102)]) ?_ ?_
 . intro hj68 s69
   refine z [5,2,30,30,39,46,1] ?_;refine c ?_ ?_
   . refine z [9,4] ?_;refine sjq (λs86=>[(0,sli 3 (List.map Qc x0)),(1,.own 0),(2,i64 x2),(7,.own 100),(8,.own 101),(9,.own 102),(10,i64 s69.2)]) (λs86=>[(0,.sl 26 1 (List.map Qg x1)),(100,.bx 34 (Qc x3)),(101,.bx 34 (Qc (⟨false,[],[]⟩:Qa))),(102,.bx 34 (Qc s86))]) ?_ ?_
     . intro j84 hj85
       refine z [7,2,30,30] ?_;refine b λy87 h88=>?_;refine z [43,42] ?_;refine cb (ca Qc8) λr89=>?_;refine z [44,1] ?_;refine c ?_ ?_
       . refine b λy91 h92=>?_;refine b λy93 h94=>?_;refine b λy95 h96=>?_;refine b λr97 h98=>?_;refine b λr99 h100=>?_;refine sd ?_;refine zd [[102],[],[],[],[],[],[],[0],[0],[],[],[]] ?_;refine dd [] (λ_ _ _ _=>c0 (Zx _ h98)) ?_;refine dd [] (λ_ _ _ _=>c0 (Xa _ h100)) ?_;refine zd [[102]] ?_;refine de fol ?_;refine z [11,4] ?_;exact sj (hj85 _) (eR [(0,0),(100,100),(101,101),(102,102)])
       refine z [9,11,4] ?_;exact sj (hj85 _) (eR [(0,0),(100,100),(101,101),(102,102)])
     intro s86
     refine z [6,30,40,31,3] ?_;exact sgo (eR [(0,0),(100,100),(101,101),(102,102)])
   refine z [14,15] ?_;exact su (sj (hj68 _) (eR [(0,0),(100,100),(101,101),(102,102)]))
 intro t67
 refine z [13,4,2,32,32] ?_;refine cb (ca Zx) λr101=>?_;refine z [34,1,8] ?_;exact rt [(0,0)]
theorem Qbr{n:Nat}{x0}{x1}{x2}{x3}:∀ r,J9 n x0 x1 x2 x3=some r->FnOk Tryz.prog 128 [sli 3 (List.map Qc x0),sli 3 (List.map Qc x1),.own 0,Qc x3] [(0,.sl 26 1 (List.map Qg x2))] (sli 3 (List.map Qc r)) [(0,.sl 26 1 (List.map Qg x2))]:=by
 unfold J9
 refine fs Tryz.func128 λw S0 γ hγ=>?_;refine z [2] ?_;refine o (bx' 100) ?_;refine s1 (asg rfl (kLm (k:=3) Qc)) ?_;refine z [1,2] ?_;refine so (asgN (y:=101) (E:=34) (k:=3) rfl rfl) ?_;refine z [1,5,2,31,1,7] ?_;refine sloopE 0 (λt=>t) (λs21=>[(0,sli 3 (List.map Qc x0)),(1,sli 3 (List.map Qc x1)),(2,.own 0),(7,.own 100),(8,sli 3 (List.map Qc ([]:List Qa))),(9,.own 101),(10,i64 s21.2)]) (λs21=>[(0,.sl 26 1 (List.map Qg x2)),(100,.bx 34 (Qc x3)),(101,.sl 34 3 (List.map Qc s21.1))]) (λt19=>[(8,sli 3 (List.map Qc ([]:List Qa))),(9,.own 101)]) (λt19=>[(0,.sl 26 1 (List.map Qg x2)),(101,.sl 34 3 (List.map Qc t19))]) (eR [(0,0),(100,100),(101,101)]) ?_ ?_
 . intro hj20 s21
   refine z [5,2,30,30,39,46,1] ?_;refine c ?_ ?_
   . refine z [9,4,5,7] ?_;refine b λy22 h23=>?_;refine b λr24 h25=>?_;refine b λr26 h27=>?_;refine b λy28 h29=>?_;refine sd ?_;refine zd [[],[],[],[],[],[],[],[],[100]] ?_;refine dd [0] (λ_ _ _ _=>cG (Qmd _ h25) [0] [] [0]) ?_;refine dd [] (λ_ _ _ _=>c0 (Xa _ h27)) ?_
     refine dx [27] [102] (λst mm ⟨a27,_⟩ ⟨g102,_⟩=>og (bsl (y:=102) (ls:=List.map Qc ([r26]:List Qa)) Tryz.underlying26 ti_34.h rfl rfl rfl rfl rfl ⟨rfl,(a27.trans rfl),(by exact rfl),(by exact rfl),trivial⟩ (g102.trans rfl) rfl)) ?_
     refine dd [101,102,103] (λ_ _ _ _=>app' 103) ?_;refine zd [[]] ?_;refine de fol ?_;refine z [11,4,6,30,40,31,3] ?_;exact sgo (eR [(0,0),(100,100),(101,103)])
   refine z [14,15] ?_;exact su (sj (hj20 _) (eR [(0,0),(101,101)]))
 intro t19
 refine z [13,4,2,30,31,1,8] ?_;refine fz 101 [8,9,30] [] ?_;exact rt [(0,0)]
theorem Qoc{n:Nat}{x0}:∀ r,X4 n x0=some r->FnOk Tryz.prog 134 [i64 x0] [] (.own 50) [(50,.sl 34 3 (List.map Qc r))]:=by
 unfold X4
 refine fs Tryz.func134 λw S0 γ hγ=>?_;refine z [2] ?_;refine s1 (asg rfl (kLm (k:=3) Qc)) ?_;refine z [1,2] ?_;refine so (asgN (y:=100) (E:=34) (k:=3) rfl rfl) ?_;refine z [1,5,2,31,1,7] ?_;refine sloopE 0 (λt=>t) (λs19=>[(0,i64 x0),(2,sli 3 (List.map Qc ([]:List Qa))),(3,.own 100),(4,i64 s19.2)]) (λs19=>[(100,.sl 34 3 (List.map Qc s19.1))]) (λt17=>[(2,sli 3 (List.map Qc ([]:List Qa))),(3,.own 100)]) (λt17=>[(100,.sl 34 3 (List.map Qc t17))]) (eR [(100,100)]) ?_ ?_
 . intro hj18 s19
   refine z [5] ?_;refine sjq (λs22=>[(0,i64 x0),(2,sli 3 (List.map Qc ([]:List Qa))),(3,.own 100),(4,i64 s19.2),(11,bl s22)]) (λs22=>[(100,.sl 34 3 (List.map Qc s19.1))]) ?_ ?_
   . intro j20 hj21
     refine z [6,30,30,46,30] ?_;refine sifd 8 rfl ?_ ?_
     . refine z [22,22,38,1] ?_;exact sj (hj21 _) (eR [(100,100)])
     refine z [23,23,37,1] ?_;exact sj (hj21 _) (eR [(100,100)])
   intro s22
   refine c ?_ ?_
   . refine z [9,4,5,7,6,30] ?_;refine cb (ca W9) λr23=>?_
     refine so (bsl (y:=101) (ls:=List.map Qc ([r23]:List Qa)) Tryz.underlying26 ti_34.h rfl rfl rfl rfl rfl ⟨rfl,rfl,(by exact rfl),(by exact rfl),trivial⟩ rfl rfl) ?_
     refine b λy25 h26=>?_;refine o (app' 102) ?_;refine z [31,3,11,4,6,30,40,31,3] ?_;exact sgo (eR [(100,102)])
   refine z [14,15] ?_;exact su (sj (hj18 _) (eR [(100,100)]))
 intro t17
 refine z [13,4,2,30,31,1,8] ?_;exact rt [(50,100)]
theorem Qov{n:Nat}{x0}:∀ r,Yd n x0=some r->FnOk Tryz.prog 135 [Q8 x0] [] (sli 3 (List.map Qc r)) []:=by
 unfold Yd
 refine fs Tryz.func135 λw S0 γ hγ=>?_;refine z [2] ?_;refine o (bx' 100) ?_;refine s1 (asg rfl (kLm (k:=3) Qc)) ?_;refine z [1,2] ?_;refine so (asgN (y:=101) (E:=34) (k:=3) rfl rfl) ?_;refine z [1,5,2,31,1,7] ?_;refine sloopE 0 (λt=>t) (λs27=>[(1,.own 100),(2,sli 3 (List.map Qc ([]:List Qa))),(3,.own 101),(4,i64 s27.2)]) (λs27=>[(100,.bx 29 (Q8 x0)),(101,.sl 34 3 (List.map Qc s27.1))]) (λt25=>[(2,sli 3 (List.map Qc ([]:List Qa))),(3,.own 101)]) (λt25=>[(101,.sl 34 3 (List.map Qc t25))]) (eR [(100,100),(101,101)]) ?_ ?_
 . intro hj26 s27
   refine z [5] ?_;refine sjq (λs30=>[(1,.own 100),(2,sli 3 (List.map Qc ([]:List Qa))),(3,.own 101),(4,i64 s27.2),(16,bl s30)]) (λs30=>[(100,.bx 29 (Q8 x0)),(101,.sl 34 3 (List.map Qc s27.1))]) ?_ ?_
   . intro j28 hj29
     refine z [6,30,33,36,39,46,30] ?_;refine sifd 10 rfl ?_ ?_
     . refine z [22,22,22,22,22,38,1] ?_;exact sj (hj29 _) (eR [(100,100),(101,101)])
     refine z [23,23,23,23,23,37,1] ?_;exact sj (hj29 _) (eR [(100,100),(101,101)])
   intro s30
   refine c ?_ ?_
   . refine z [9,4,5,7] ?_;refine b λy31 h32=>?_;refine b λy33 h34=>?_;refine b λr35 h36=>?_;refine b λy37 h38=>?_;refine sd ?_;refine zd [[],[100],[100],[],[],[],[100],[100],[],[],[]] ?_;refine dd [] (λ_ _ _ _=>c0 (Qd4 _ h36)) ?_
     refine dx [30] [102] (λst mm ⟨a30,_⟩ ⟨g102,_⟩=>og (bsl (y:=102) (ls:=List.map Qc ([r35]:List Qa)) Tryz.underlying26 ti_34.h rfl rfl rfl rfl rfl ⟨rfl,(a30.trans rfl),(by exact rfl),(by exact rfl),trivial⟩ (g102.trans rfl) rfl)) ?_
     refine dd [101,102,103] (λ_ _ _ _=>app' 103) ?_;refine zd [[]] ?_;refine de fol ?_;refine z [11,4,6,30,40,31,3] ?_;exact sgo (eR [(100,100),(101,103)])
   refine z [14,15] ?_;exact su (sj (hj26 _) (eR [(101,101)]))
 intro t25
 refine z [13,4,2,30,31,1,8] ?_;refine fz 101 [2,3,33] [] ?_;exact rt []
theorem Qpz{n:Nat}{x0}{x1}{x2}{x3}:∀ r,Yq n x0 x1 x2 x3=some r->FnOk Tryz.prog 71 [Jb x0,Qc x1,Qc x2,sli 3 (List.map Qc x3)] [] (.tup [X5 r.1,Qjr r.2]) []:=by
 unfold Yq
 refine fs Tryz.func71 λw S0 γ hγ=>?_;refine z [2] ?_;refine o (bx' 100) ?_;refine o (bx' 101) ?_;refine o (bx' 102) ?_;refine o (al' 103) ?_;refine o (al' 104) ?_;refine z [1,2,33,36] ?_;refine cb (ca Qmy) λr1=>?_;refine z [31,1,2] ?_;refine so (bldO (l:=[.own 105,.own 106,sli 3 (List.map Qc []),sli 3 (List.map Qc [])]) [(105,26,1),(106,26,1)] Qq8.h Ql3.h (Qfi (Jv (c1:=[.slice none 0 0]) (Qdm rfl) (Jv (c1:=[.slice none 0 0]) (Qdm rfl) (Jv (c1:=[.slice none 0 0]) (zo_of (J7 (k:=3))) (Jv (c1:=[.slice none 0 0]) (zo_of (J7 (k:=3))) (Qdn)))))) ⟨rfl,rfl,trivial⟩ rfl rfl rfl) ?_;refine o (al' 107) ?_;refine z [34,1,2,33,45,36,39,31,1,5,2,31,1,7] ?_;refine sloopE 0 Lp.go (λs43=>[(3,sli 3 (List.map Qc x3)),(4,.own 100),(5,.own 101),(6,.own 102),(8,.own 103),(9,.own 104),(10,i64 r1),(11,.own 107),(12,i64 (x0.Scheme.B.length:Int)),(13,i64 s43.2.2)]) (λs43=>[(100,.bx 31 (Jb x0)),(101,.bx 34 (Qc x1)),(102,.bx 34 (Qc x2)),(103,.bx 137 (X5 (⟨[],[],[],[]⟩:Q6))),(104,.bx 138 (Qjr (⟨0,0,0⟩:X8))),(107,.bx 137 (.agg [.own 105,.own 106,sli 3 (List.map Qc []),sli 3 (List.map Qc [])])),(105,.sl 26 1 (List.map Qg s43.1)),(106,.sl 26 1 (List.map Qg s43.2.1))]) (λt41=>[(3,sli 3 (List.map Qc x3)),(4,.own 100),(6,.own 102),(8,.own 103),(9,.own 104),(10,i64 r1),(11,.own 107),(12,i64 (x0.Scheme.B.length:Int))]) (λt41=>[(100,.bx 31 (Jb x0)),(102,.bx 34 (Qc x2)),(103,.bx 137 (X5 (⟨[],[],[],[]⟩:Q6))),(104,.bx 138 (Qjr (⟨0,0,0⟩:X8))),(107,.bx 137 (.agg [.own 105,.own 106,sli 3 (List.map Qc []),sli 3 (List.map Qc [])])),(105,.sl 26 1 (List.map Qg t41.1)),(106,.sl 26 1 (List.map Qg t41.2))]) (eR [(100,100),(101,101),(102,102),(103,103),(104,104),(107,107),(105,105),(106,106)]) ?_ ?_
 . intro hj42 s43
   refine z [5,2,30,30,46,1] ?_;refine c ?_ ?_
   . refine z [9,4,5,7,5] ?_;refine b λy44 h45=>?_;refine b λr46 h47=>?_;refine sd ?_;refine zd [[],[100],[],[100],[],[],[],[107],[107],[102]] ?_;refine dd [106] (λ_ _ _ _=>cG (Qbr _ h47) [106] [] [106]) ?_;refine zd [[]] ?_;refine de fol ?_;refine z [4,2,30,30] ?_;refine cb (ca Qd3) λr48=>?_;refine z [31,1,5,2,30,30,39,46,1] ?_;refine c ?_ ?_
     . refine z [2] ?_;refine s1 (bld (l:=[sli 1 (List.map Qg []),sli 1 (List.map Qg []),sli 3 (List.map Qc []),sli 3 (List.map Qc [])]) Qq8.h Ql3.h Y5 rfl rfl) ?_;refine z [30,30,40] ?_;refine s1 (bldA (l:=[i64 (6:Int),i64 s43.2.2,i64 (wrap64 ((300:Int)+r48))]) Tryz.underlying138 Ql4.h ti_3.h Qhr rfl ⟨_,_,_,(kI (x:=6) rfl),rfl,rfl,rfl,rfl,rfl,⟨_,_,_,rfl,rfl,rfl,rfl,rfl,rfl,⟨_,_,_,rfl,rfl,rfl,rfl,rfl,rfl,rfl⟩⟩⟩ rfl) ?_;refine z [34,34,1,8,10,12,10] ?_;refine sU ?_;refine z [12,10] ?_;exact rt []
     refine z [9,4,5] ?_;refine b λr50 h51=>?_;refine b λr52 h53=>?_;refine b λr54 h55=>?_;refine sd ?_;refine zd [[100],[100],[100],[100],[101],[102],[]] ?_;refine dd [] (λ_ _ _ _=>c0 (Qmc _ h51)) ?_;refine zd [[]] ?_;refine dd [] (λ_ _ _ _=>c0 (Qmz _ h53)) ?_;refine zd [[]] ?_;refine dd [] (λ_ _ _ _=>c0 (Qoa _ h55)) ?_;refine zd [[],[],[],[],[],[],[]] ?_;refine de fol ?_;refine z [4,5,2,30,56,1] ?_;refine c ?_ ?_
     . refine z [2] ?_;refine s1 (bld (l:=[sli 1 (List.map Qg []),sli 1 (List.map Qg []),sli 3 (List.map Qc []),sli 3 (List.map Qc [])]) Qq8.h Ql3.h Y5 rfl rfl) ?_;refine z [30,30,30] ?_;refine s1 (bldA (l:=[i64 r54.2.1,i64 s43.2.2,i64 r54.2.2]) Tryz.underlying138 Ql4.h ti_3.h Qhr rfl ⟨_,_,_,rfl,rfl,rfl,rfl,rfl,rfl,⟨_,_,_,rfl,rfl,rfl,rfl,rfl,rfl,⟨_,_,_,rfl,rfl,rfl,rfl,rfl,rfl,rfl⟩⟩⟩ rfl) ?_;refine z [34,34,1,8,10,12,10] ?_;refine sU ?_;refine z [12,10] ?_;exact rt []
     refine z [9,4,2,33,36,30] ?_
     refine so (bsl (y:=108) (ls:=List.map Qg ([r46]:List (List Qa))) Tryz.underlying27 ti_26.h rfl rfl rfl rfl rfl ⟨rfl,rfl,(by exact rfl),(by exact rfl),trivial⟩ rfl rfl) ?_
     refine b λy56 h57=>?_;refine o (app' 109) ?_;refine z [33] ?_;refine o (stP (.agg [.own 109,.own 106,sli 3 (List.map Qc []),sli 3 (List.map Qc [])]) [0]) ?_;refine z [1] ?_;refine b λr58 h59=>?_;refine b λy60 h61=>?_;refine sd ?_;refine zd [[107],[107],[100],[100],[]] ?_;refine dd [] (λ_ _ _ _=>c0 (Qob _ h59)) ?_
     refine dx [90] [110] (λst mm ⟨a90,_⟩ ⟨g110,_⟩=>og (bsl (y:=110) (ls:=List.map Qg ([r58]:List (List Qa))) Tryz.underlying27 ti_26.h rfl rfl rfl rfl rfl ⟨rfl,(a90.trans rfl),(by exact rfl),(by exact rfl),trivial⟩ (g110.trans rfl) rfl)) ?_
     refine dd [106,110,111] (λ_ _ _ _=>app' 111) ?_;refine zd [[107]] ?_;refine dd [107] (λ_ _ _ _=>stP (.agg [.own 109,.own 111,sli 3 (List.map Qc []),sli 3 (List.map Qc [])]) [1]) ?_;refine de fol ?_;refine z [11,4,6,30,40,31,3] ?_;exact sgo (eR [(100,100),(101,101),(102,102),(103,103),(104,104),(107,107),(105,109),(106,111)])
   refine z [14,15] ?_;exact su (sj (hj42 _) (eR [(100,100),(102,102),(103,103),(104,104),(107,107),(105,105),(106,106)]))
 intro t41
 refine slpk ?_;refine z [13,4,2,30,33,45,36,33,36,32] ?_;refine b λr62 h63=>?_;refine o (cG (Qbr _ h63) [106] [] [106]) ?_;refine z [33] ?_;refine o (stP (.agg [.own 105,.own 106,sli 3 (List.map Qc r62),sli 3 (List.map Qc [])]) [2]) ?_;refine z [1,2,33,36,30] ?_;refine cb (ca Qd3) λr64=>?_;refine z [31,1,5,2,30,33,36,39,46,1] ?_;refine c ?_ ?_
 . refine z [2] ?_;refine s1 (bld (l:=[sli 1 (List.map Qg []),sli 1 (List.map Qg []),sli 3 (List.map Qc []),sli 3 (List.map Qc [])]) Qq8.h Ql3.h Y5 rfl rfl) ?_;refine z [30,30,40] ?_;refine s1 (bldA (l:=[i64 (6:Int),i64 (x0.Scheme.B.length:Int),i64 (wrap64 ((300:Int)+r64))]) Tryz.underlying138 Ql4.h ti_3.h Qhr rfl ⟨_,_,_,(kI (x:=6) rfl),rfl,rfl,rfl,rfl,rfl,⟨_,_,_,rfl,rfl,rfl,rfl,rfl,rfl,⟨_,_,_,rfl,rfl,rfl,rfl,rfl,rfl,rfl⟩⟩⟩ rfl) ?_;refine z [34,34,1,8,10] ?_;exact rt []
 refine z [9,4] ?_;refine sjq (λs78=>[(8,.own 103),(9,.own 104),(10,i64 r1),(11,.own 107),(12,i64 (x0.Scheme.B.length:Int))]) (λs78=>[(103,.bx 137 (X5 (⟨[],[],[],[]⟩:Q6))),(104,.bx 138 (Qjr (⟨0,0,0⟩:X8))),(107,.bx 137 (.agg [.own 105,.own 106,sli 3 (List.map Qc r62),sli 3 (List.map Qc s78)])),(105,.sl 26 1 (List.map Qg t41.1)),(106,.sl 26 1 (List.map Qg t41.2))]) ?_ ?_
 . intro j76 hj77
   refine z [2,33,45,36,39,47,1] ?_;refine c ?_ ?_
   . refine b λr79 h80=>?_;refine b λr81 h82=>?_;refine b λr83 h84=>?_;refine sd ?_;refine zd [[],[]] ?_;refine dd [108] (λ_ _ _ _=>tV (cG (Qoc _ h80) [] [(108,50)] [])) ?_;refine zd [[100],[100]] ?_;refine dd [] (λ_ _ _ _=>c0 (Qov _ h82)) ?_;refine zd [[107],[107],[102]] ?_;refine dd [106] (λ_ _ _ _=>cG (Qbr _ h84) [106] [] [106]) ?_;refine zd [[107]] ?_;refine dd [107] (λ_ _ _ _=>stP (.agg [.own 105,.own 106,sli 3 (List.map Qc r62),sli 3 (List.map Qc r83)]) [3]) ?_;refine de fol ?_;refine z [4] ?_;exact sj (hj77 _) (eR [(103,103),(104,104),(107,107),(105,105),(106,106)])
   refine z [9,4] ?_;exact sj (hj77 _) (eR [(103,103),(104,104),(107,107),(105,105),(106,106)])
 intro s78
 refine z [2,33,36,30] ?_;refine cb (ca Qd3) λr85=>?_;refine z [31,1,5,2,30,33,36,39,46,1] ?_;refine c ?_ ?_
 . refine z [2] ?_;refine s1 (bld (l:=[sli 1 (List.map Qg []),sli 1 (List.map Qg []),sli 3 (List.map Qc []),sli 3 (List.map Qc [])]) Qq8.h Ql3.h Y5 rfl rfl) ?_;refine z [30,40,30,40] ?_;refine s1 (bldA (l:=[i64 (6:Int),i64 (wrap64 ((x0.Scheme.B.length:Int)+(1:Int))),i64 (wrap64 ((300:Int)+r85))]) Tryz.underlying138 Ql4.h ti_3.h Qhr rfl ⟨_,_,_,(kI (x:=6) rfl),rfl,rfl,rfl,rfl,rfl,⟨_,_,_,rfl,rfl,rfl,rfl,rfl,rfl,⟨_,_,_,rfl,rfl,rfl,rfl,rfl,rfl,rfl⟩⟩⟩ rfl) ?_;refine z [34,34,1,8,10] ?_;exact rt []
 refine z [9,4,2,32] ?_;refine s1 (bldA (l:=[i64 0,i64 0,i64 0]) Tryz.underlying138 Ql4.h ti_3.h Qhr rfl rfl rfl) ?_;refine z [34,34,1,8] ?_;refine fz 105 [148] [103,107] ?_;refine fz 106 [148] [103,107] ?_;exact rt []
theorem Qow{x0}:∀ r,Zv x0=some r->FnOk Tryz.prog 136 [Qc x0] [] (Qc r) []:=by
 unfold Zv
 refine fs Tryz.func136 λw S0 γ hγ=>?_;refine z [2] ?_;refine o (bx' 100) ?_;refine o (al' 101) ?_;refine z [1,2,33,36,33,36] ?_;refine s1 (bld (l:=[bl false,sli 1 (List.map u32 x0.N),sli 1 (List.map u32 x0.D)]) pl_34.h ti_34.h Q3 ⟨_,_,_,rfl,rfl,rfl,rfl,(szk (k:=1) rfl rfl),⟨_,_,_,rfl,rfl,rfl,rfl,(szk (k:=1) rfl rfl),rfl⟩⟩ rfl) ?_;refine z [34,1,8] ?_;exact rt []
theorem Qox{n:Nat}{x0}{x1}:∀ r,Zw n x0 x1=some r->FnOk Tryz.prog 61 [Qc x0,Qc x1] [] (i64 r) []:=by
 unfold Zw
 refine fs Tryz.func61 λw S0 γ hγ=>?_;refine z [2] ?_;refine o (bx' 100) ?_;refine o (bx' 101) ?_;refine z [31,1,2,32,32] ?_;refine cb (ca Qd4) λr1=>?_;refine cb (ca Qg2) λr3=>?_;refine z [31,1,8] ?_;exact rt []
theorem Qoy{n:Nat}{x0}:∀ r,W8 n x0=some r->FnOk Tryz.prog 72 [sli 3 (List.map Qc x0)] [] (Qc r) []:=by
 unfold W8
 refine fs Tryz.func72 λw S0 γ hγ=>?_;refine z [2] ?_;refine o (al' 100) ?_;refine z [1,2] ?_;refine cb (ca W9) λr1=>?_;refine o (al' 101) ?_;refine z [34,1,5,2,31,1,7] ?_;refine sloopE 0 (λt=>t) (λs37=>[(0,sli 3 (List.map Qc x0)),(2,.own 100),(3,.own 101),(4,i64 s37.2)]) (λs37=>[(100,.bx 34 (Qc (⟨false,[],[]⟩:Qa))),(101,.bx 34 (Qc s37.1))]) (λt35=>[(2,.own 100),(3,.own 101)]) (λt35=>[(100,.bx 34 (Qc (⟨false,[],[]⟩:Qa))),(101,.bx 34 (Qc t35))]) (eR [(100,100),(101,101)]) ?_ ?_
 . intro hj36 s37
   refine z [5,2,30,30,39,46,1] ?_;refine c ?_ ?_
   . refine z [9,4] ?_;refine sjq (λs46=>[(0,sli 3 (List.map Qc x0)),(2,.own 100),(3,.own 101),(4,i64 s37.2)]) (λs46=>[(100,.bx 34 (Qc (⟨false,[],[]⟩:Qa))),(101,.bx 34 (Qc s46))]) ?_ ?_
     . intro j44 hj45
       refine z [7,2,30,30] ?_;refine b λy47 h48=>?_;refine z [43,42] ?_;refine cb (ca Qow) λr49=>?_;refine o (al' 102) ?_;refine z [34,1,2,32,32] ?_;refine cb (ca Qox) λr51=>?_;refine z [47,1] ?_;refine c ?_ ?_
       . refine z [6,32,34,3,11,4] ?_;exact sj (hj45 _) (eR [(100,100),(101,101)])
       refine z [9,11,4] ?_;exact sj (hj45 _) (eR [(100,100),(101,101)])
     intro s46
     refine z [6,30,40,31,3] ?_;exact sgo (eR [(100,100),(101,101)])
   refine z [14,15] ?_;exact su (sj (hj36 _) (eR [(100,100),(101,101)]))
 intro t35
 refine z [13,4,2,32,34,1,8] ?_;exact rt []
theorem Qm0{n:Nat}{x0}{x1}{x2}{x3}:∀ r,Y2 n x0 x1 x2 x3=some r->FnOk Tryz.prog 39 [Jb x0,Qc x1,sli 3 (List.map Qc x2),sli 3 (List.map Qc x3)] [] (.tup [Ql r.1,Qjq r.2]) []:=by
 unfold Y2
 refine fs Tryz.func39 λw S0 γ hγ=>?_;refine z [2] ?_;refine o (bx' 100) ?_;refine o (bx' 101) ?_;refine o (al' 102) ?_;refine o (al' 103) ?_;refine z [1,2,32,30] ?_;refine so (bldO (l:=[.own 104,Qc x1,sli 3 (List.map Qc x2)]) [(104,143,14)] pl_70.h ti_70.h (Qfi (Jv (c1:=[.slice none 0 0]) (Qdm rfl) (Jv (c1:=[.bool false,.slice none 0 0,.slice none 0 0]) (zo_of Q3) (Jv (c1:=[.slice none 0 0]) (zo_of (J7 (k:=3))) (Qdn))))) ⟨rfl,trivial⟩ rfl ⟨_,_,_,rfl,rfl,rfl,rfl,(szk (k:=3) rfl rfl),⟨_,_,_,rfl,rfl,rfl,rfl,(szk (k:=1) rfl rfl),rfl⟩⟩ rfl) ?_;refine o (al' 105) ?_;refine z [34,1,5,2,31,1,7] ?_;refine sloopE 0 Lp.go (λs37=>[(3,sli 3 (List.map Qc x3)),(4,.own 100),(8,.own 102),(9,.own 103),(10,.own 105),(11,i64 s37.2.2.2)]) (λs37=>[(100,.bx 31 (Jb x0)),(102,.bx 70 (Ql (⟨[],(⟨false,[],[]⟩:Qa),[]⟩:Qi))),(103,.bx 72 (Qjq (⟨0,0,0,0⟩:Qb4))),(105,.bx 70 (.agg [.own 104,Qc s37.2.1,sli 3 (List.map Qc s37.2.2.1)])),(104,.sl 143 14 (List.map Jo s37.1))]) (λt35=>[(8,.own 102),(9,.own 103),(10,.own 105)]) (λt35=>[(102,.bx 70 (Ql (⟨[],(⟨false,[],[]⟩:Qa),[]⟩:Qi))),(103,.bx 72 (Qjq (⟨0,0,0,0⟩:Qb4))),(105,.bx 70 (.agg [.own 104,Qc t35.2.1,sli 3 (List.map Qc t35.2.2)])),(104,.sl 143 14 (List.map Jo t35.1))]) (eR [(100,100),(102,102),(103,103),(105,105),(104,104)]) ?_ ?_
 . intro hj36 s37
   refine z [5,2,30,30,39,46,1] ?_;refine c ?_ ?_
   . refine z [9,4,5,7,5] ?_;refine b λy38 h39=>?_;refine b λr40 h41=>?_;refine sd ?_;refine zd [[100],[105],[105],[],[],[],[],[105],[105]] ?_;refine dd [] (λ_ _ _ _=>c0 (Qpz _ h41)) ?_;refine zd [[],[],[]] ?_;refine dd [106] (λ_ _ _ _=>al' 106) ?_;refine dd [107] (λ_ _ _ _=>al' 107) ?_;refine zd [[106],[107]] ?_;refine de fol ?_;refine z [4,5,2] ?_;refine s1 (ixAO Tryz.underlying138 ti_3.h rfl (.inr ⟨rfl,rfl,_,_,rfl⟩) rfl rfl (kI (x:=0) rfl)) ?_;refine z [36,56,1] ?_;refine c ?_ ?_
     . refine z [5] ?_;refine sd ?_;refine dx [] [] (λst mm _ _=>og (bld (l:=[sli 14 (List.map Jo []),Qc (⟨false,[],[]⟩:Qa),sli 3 (List.map Qc [])]) pl_70.h ti_70.h Qbf rfl rfl)) ?_;refine dx [13] [107] (λst mm ⟨a13,_⟩ ⟨g107,_⟩=>og (ixAO (id:=107) (k:=1) (off:=0) (p:=0) Tryz.underlying138 ti_3.h rfl (.inr ⟨rfl,rfl,_,_,(g107.trans rfl)⟩) rfl (a13.trans rfl) (kI (x:=0) rfl))) ?_;refine zd [[107],[],[]] ?_;refine dx [13] [107] (λst mm ⟨a13,_⟩ ⟨g107,_⟩=>og (ixAO (id:=107) (k:=1) (off:=0) (p:=1) Tryz.underlying138 ti_3.h rfl (.inr ⟨rfl,rfl,_,_,(g107.trans rfl)⟩) rfl (a13.trans rfl) (kI (x:=1) rfl))) ?_;refine zd [[107]] ?_;refine dx [13] [107] (λst mm ⟨a13,_⟩ ⟨g107,_⟩=>og (ixAO (id:=107) (k:=1) (off:=0) (p:=2) Tryz.underlying138 ti_3.h rfl (.inr ⟨rfl,rfl,_,_,(g107.trans rfl)⟩) rfl (a13.trans rfl) (kI (x:=2) rfl))) ?_;refine zd [[107]] ?_;refine dx [41,43,45,47] [] (λst mm ⟨a41,a43,a45,a47,_⟩ _=>og (bldA (l:=[i64 r40.2.a0,i64 (wrap64 (s37.2.2.2+(1:Int))),i64 r40.2.a1,i64 r40.2.a2]) Tryz.underlying72 ti_72.h ti_3.h Qq7 rfl ⟨_,_,_,(a41.trans rfl),rfl,rfl,rfl,rfl,rfl,⟨_,_,_,(a43.trans rfl),rfl,rfl,rfl,rfl,rfl,⟨_,_,_,(a45.trans rfl),rfl,rfl,rfl,rfl,rfl,⟨_,_,_,(a47.trans rfl),rfl,rfl,rfl,rfl,rfl,rfl⟩⟩⟩⟩ rfl)) ?_;refine zd [[102],[103]] ?_;refine de fol ?_;refine z [4,8,10,12,10] ?_;refine sU ?_;refine z [12,10] ?_;exact rt []
     refine z [9,4,5] ?_;refine b λy42 h43=>?_;refine b λy44 h45=>?_;refine b λr46 h47=>?_;refine b λy48 h49=>?_;refine sd ?_;refine zd [[105],[105],[105],[105],[],[]] ?_;refine dx [53,54] [] (λst mm ⟨a53,a54,_⟩ _=>og (ixR (f:=Qc) Tryz.underlying26 ti_34.h h43 rfl (a53.trans rfl) (a54.trans rfl))) ?_;refine zd [[],[],[]] ?_;refine dx [57,58] [] (λst mm ⟨a57,a58,_⟩ _=>og (ixR (f:=Qc) Tryz.underlying26 ti_34.h h45 rfl (a57.trans rfl) (a58.trans rfl))) ?_;refine zd [[],[106],[106]] ?_;refine dd [] (λ_ _ _ _=>c0 (Qoy _ h47)) ?_;refine zd [[105],[105]] ?_;refine dx [52,56,60,63,65] [] (λst mm ⟨a52,a56,a60,a63,a65,_⟩ _=>og (bld (l:=[Qc s37.2.1,Qc y42,Qc y44,Qc r46,sli 3 (List.map Qc s37.2.2.1),bl true]) Qzi.h Qke.h Qay ⟨_,_,_,(a52.trans rfl),rfl,rfl,rfl,(szk (k:=3) rfl rfl),⟨_,_,_,(a56.trans rfl),rfl,rfl,rfl,(szk (k:=3) rfl rfl),⟨_,_,_,(a60.trans rfl),rfl,rfl,rfl,(szk (k:=3) rfl rfl),⟨_,_,_,(a63.trans rfl),rfl,rfl,rfl,(szk (k:=3) rfl rfl),⟨_,_,_,(a65.trans rfl),rfl,rfl,rfl,(szk (k:=1) rfl rfl),⟨_,_,_,kB,rfl,rfl,rfl,(szk (k:=1) rfl rfl),rfl⟩⟩⟩⟩⟩⟩ rfl)) ?_
     refine dx [66] [108] (λst mm ⟨a66,_⟩ ⟨g108,_⟩=>og (bsl (y:=108) (ls:=List.map Jo ([(⟨s37.2.1,y42,y44,r46,s37.2.2.1,true⟩:Qk)]:List Qk)) Tryz.underlying68 Qke.h rfl rfl rfl rfl rfl ⟨rfl,(a66.trans rfl),(by exact rfl),(by exact rfl),trivial⟩ (g108.trans rfl) rfl)) ?_
     refine dd [104,108,109] (λ_ _ _ _=>app' 109) ?_;refine zd [[105]] ?_;refine dd [105] (λ_ _ _ _=>stP (.agg [.own 109,Qc s37.2.1,sli 3 (List.map Qc s37.2.2.1)]) [0]) ?_;refine de fol ?_;refine z [4,5] ?_;refine b λy50 h51=>?_;refine b λr52 h53=>?_;refine sd ?_;refine zd [[105],[105],[],[],[],[]] ?_;refine dd [] (λ_ _ _ _=>c0 (Xa _ h53)) ?_;refine zd [[105]] ?_;refine dd [105] (λ_ _ _ _=>stP (.agg [.own 109,Qc r52,sli 3 (List.map Qc s37.2.2.1)]) [1]) ?_;refine de fol ?_;refine z [4,6,33,36,33] ?_;refine o (stP (.agg [.own 109,Qc r52,sli 3 (List.map Qc r40.1.Next)]) [2]) ?_;refine z [3,11,4,6,30,40,31,3] ?_;exact sgo (eR [(100,100),(102,102),(103,103),(105,105),(104,109)])
   refine z [14,15] ?_;exact su (sj (hj36 _) (eR [(102,102),(103,103),(105,105),(104,104)]))
 intro t35
 refine slpk ?_;refine z [13,4,2,32] ?_;refine s1 (bldA (l:=[i64 0,i64 0,i64 0,i64 0]) Tryz.underlying72 ti_72.h ti_3.h Qq7 rfl rfl rfl) ?_;refine z [34,34,1,8] ?_;refine fz 104 [81] [102,105] ?_;exact rt []
end Go.Proofs.YtlihkcaoachkdaaGreatDoor
