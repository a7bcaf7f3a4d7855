import Derived.Test.YtlihkcaoachkdaaGreatDoorGen0
import Derived.Test.YtlihkcaoachkdaaGreatDoorGenR1
set_option maxRecDepth 100000
set_option maxHeartbeats 4000000
namespace Go.Proofs.YtlihkcaoachkdaaGreatDoor
open Go Go.RowKit
theorem Qi2{n:Nat}{x0}{x1}:∀ r,Ws n x0 x1=some r->FnOk Tryz.prog 196 [sli 1 (List.map u32 x0),sli 1 (List.map u32 x1)] [] (sli 1 (List.map u32 r)) []:=by
 unfold Ws
 refine fs Tryz.func196 λw S0 γ hγ=>?_;refine z [2] ?_;refine s1 (asg rfl (kLm (k:=1) u32)) ?_;refine z [1,2,30,39,30,39,88,31,1,2,30] ?_;refine b λy1 h2=>?_;refine so (mks (y:=100) (f:=u32) h2 Tryz.underlying32 K6.h Qc4 rfl rfl rfl rfl rfl rfl) ?_;refine z [31,1,2,31,1,5,2,31,1,7] ?_;refine sloopE 0 (λt=>t) (λs27=>[(0,sli 1 (List.map u32 x0)),(1,sli 1 (List.map u32 x1)),(4,sli 1 (List.map u32 ([]:List Nat))),(5,i64 (max (x0.length:Int) (x1.length:Int))),(6,.own 100),(7,u64 s27.2.1),(8,i64 s27.2.2)]) (λs27=>[(100,.sl 189 1 (List.map u32 s27.1))]) (λt25=>[(4,sli 1 (List.map u32 ([]:List Nat))),(6,.own 100)]) (λt25=>[(100,.sl 189 1 (List.map u32 t25))]) (eR [(100,100)]) ?_ ?_
 . intro hj26 s27
   refine z [5,2,30,30,46,1] ?_;refine c ?_ ?_
   . refine z [9,4,5,7,2,30,30] ?_;refine cb (ca Yb) λr28=>?_;refine z [59,31,1,2,30,30] ?_;refine cb (ca Yb) λr30=>?_;refine z [59,30,61,31,1,2,31,1] ?_;refine sjq (λs34=>[(0,sli 1 (List.map u32 x0)),(1,sli 1 (List.map u32 x1)),(4,sli 1 (List.map u32 ([]:List Nat))),(5,i64 (max (x0.length:Int) (x1.length:Int))),(6,.own 100),(7,u64 s34.1),(8,i64 s27.2.2),(9,u64 s34.2),(10,u64 ((r30+s27.2.1)%18446744073709551616))]) (λs34=>[(100,.sl 189 1 (List.map u32 s27.1))]) ?_ ?_
     . intro j32 hj33
       refine z [2,30,30,68,1] ?_;refine c ?_ ?_
       . refine z [2,30,61,31,1,6,31,1] ?_;exact sj (hj33 _) (eR [(100,100)])
       refine z [9,4] ?_;exact sj (hj33 _) (eR [(100,100)])
     intro s34
     refine z [6,30,30,30,30,62] ?_;refine sbn (F:=u64) 42 rfl λz35=>?_;refine z [60] ?_;refine b λy36 h37=>?_;refine z [50,53,3,11,4,6,30,40,31,3] ?_;exact sgo (eR [(100,100)])
   refine z [14,15] ?_;exact su (sj (hj26 _) (eR [(100,100)]))
 intro t25
 refine z [13,4,2,30] ?_;refine b λr38 h39=>?_;refine so (callL (em:=[(101,.sl 189 1 (List.map u32 r38))]) (res':=.own 101) [100] [] [(101,50)] [(101,50)] rfl (Kn _ h39) ⟨Qbt (f:=u32) (λ_=>Qdv) _,trivial⟩ (Qes) ⟨.inr ⟨100,rfl,.inl ⟨rfl,.inl ⟨_,_,_,rfl,J7 (f:=u32) (λ_=>Vn) t25,rfl⟩⟩⟩,trivial⟩ (MiF.get (mi:=[]) trivial) trivial rfl ⟨rfl,trivial⟩ ⟨.inl rfl,trivial⟩ rfl ⟨.inl ⟨_,_,rfl,rfl,rc_sl (J7 (f:=u32) (λ_=>Vn) r38)⟩,trivial⟩ trivial ⟨⟨_,rfl⟩,trivial⟩ (W1 rfl) rfl) ?_;refine z [31,1,8] ?_;refine fz 101 [4,46] [] ?_;exact rt []
theorem Qi3{n:Nat}{x0}{x1}:∀ r,Yy n x0 x1=some r->FnOk Tryz.prog 138 [Qx x0,Qx x1] [] (Qx r) []:=by
 unfold Yy
 refine fs Tryz.func138 λw S0 γ hγ=>?_;refine z [2] ?_;refine o (bx' 100) ?_;refine o (bx' 101) ?_;refine o (al' 102) ?_;refine z [1,5,2,33,36,33,36,74,1] ?_;refine c ?_ ?_
 . refine z [5] ?_;refine b λr1 h2=>?_;refine b λr3 h4=>?_;refine sd ?_;refine zd [[100],[100],[100],[100],[101],[101]] ?_;refine dd [] (λ_ _ _ _=>c0 (Qe9 _ h2)) ?_;refine dx [11,16] [] (λst mm ⟨a11,a16,_⟩ _=>og (bld (l:=[bl x0.Neg,sli 1 (List.map u32 r1)]) Qf0.h Qd4.h J0 ⟨_,_,_,(a11.trans rfl),rfl,rfl,rfl,(szk (k:=1) rfl rfl),⟨_,_,_,(a16.trans rfl),rfl,rfl,rfl,(szk (k:=1) rfl rfl),rfl⟩⟩ rfl)) ?_;refine dd [] (λ_ _ _ _=>c0 (Xe _ h4)) ?_;refine zd [[102]] ?_;refine de fol ?_;refine z [4,8,10] ?_;exact rt []
 refine z [9,4,5,2,33,36,33,36] ?_;refine cb (ca Qe7) λr5=>?_;refine z [46,1] ?_;refine c ?_ ?_
 . refine z [5] ?_;refine b λr7 h8=>?_;refine b λr9 h10=>?_;refine sd ?_;refine zd [[101],[101],[101],[101],[100],[100]] ?_;refine dd [] (λ_ _ _ _=>c0 (Qi2 _ h8)) ?_;refine dx [26,31] [] (λst mm ⟨a26,a31,_⟩ _=>og (bld (l:=[bl x1.Neg,sli 1 (List.map u32 r7)]) Qf0.h Qd4.h J0 ⟨_,_,_,(a26.trans rfl),rfl,rfl,rfl,(szk (k:=1) rfl rfl),⟨_,_,_,(a31.trans rfl),rfl,rfl,rfl,(szk (k:=1) rfl rfl),rfl⟩⟩ rfl)) ?_;refine dd [] (λ_ _ _ _=>c0 (Xe _ h10)) ?_;refine zd [[102]] ?_;refine de fol ?_;refine z [4,8,10] ?_;exact rt []
 refine z [9,4,5] ?_;refine b λr11 h12=>?_;refine b λr13 h14=>?_;refine sd ?_;refine zd [[100],[100],[100],[100],[101],[101]] ?_;refine dd [] (λ_ _ _ _=>c0 (Qi2 _ h12)) ?_;refine dx [35,40] [] (λst mm ⟨a35,a40,_⟩ _=>og (bld (l:=[bl x0.Neg,sli 1 (List.map u32 r11)]) Qf0.h Qd4.h J0 ⟨_,_,_,(a35.trans rfl),rfl,rfl,rfl,(szk (k:=1) rfl rfl),⟨_,_,_,(a40.trans rfl),rfl,rfl,rfl,(szk (k:=1) rfl rfl),rfl⟩⟩ rfl)) ?_;refine dd [] (λ_ _ _ _=>c0 (Xe _ h14)) ?_;refine zd [[102]] ?_;refine de fol ?_;refine z [4,8] ?_;exact rt []
theorem Wx{n:Nat}{x0}{x1}:∀ r,Kk n x0 x1=some r->FnOk Tryz.prog 73 [Qc x0,Qc x1] [] (Qc r) []:=by
 unfold Kk
 refine fs Tryz.func73 λw S0 γ hγ=>?_;refine z [2] ?_;refine o (bx' 100) ?_;refine o (bx' 101) ?_;refine o (al' 102) ?_;refine z [1,5] ?_;refine b λr1 h2=>?_;refine sd ?_;refine zd [[100],[100],[100],[100],[101],[101]] ?_;refine dd [] (λ_ _ _ _=>c0 (V3 _ h2)) ?_;refine dx [9,14] [] (λst mm ⟨a9,a14,_⟩ _=>og (bld (l:=[bl x0.Neg,sli 1 (List.map u32 r1)]) Qf0.h Qd4.h J0 ⟨_,_,_,(a9.trans rfl),rfl,rfl,rfl,(szk (k:=1) rfl rfl),⟨_,_,_,(a14.trans rfl),rfl,rfl,rfl,(szk (k:=1) rfl rfl),rfl⟩⟩ rfl)) ?_;refine dd [103] (λ_ _ _ _=>al' 103) ?_;refine zd [[103]] ?_;refine de fol ?_;refine z [4,5] ?_;refine b λr3 h4=>?_;refine sd ?_;refine zd [[101],[101],[101],[101],[100],[100]] ?_;refine dd [] (λ_ _ _ _=>c0 (V3 _ h4)) ?_;refine dx [17,22] [] (λst mm ⟨a17,a22,_⟩ _=>og (bld (l:=[bl x1.Neg,sli 1 (List.map u32 r3)]) Qf0.h Qd4.h J0 ⟨_,_,_,(a17.trans rfl),rfl,rfl,rfl,(szk (k:=1) rfl rfl),⟨_,_,_,(a22.trans rfl),rfl,rfl,rfl,(szk (k:=1) rfl rfl),rfl⟩⟩ rfl)) ?_;refine dd [104] (λ_ _ _ _=>al' 104) ?_;refine zd [[104]] ?_;refine de fol ?_;refine z [4,2,32,32] ?_;refine cb (ca Qi3) λr5=>?_;refine o (al' 105) ?_;refine z [34,1,5] ?_;refine b λr7 h8=>?_;refine b λr9 h10=>?_;refine sd ?_;refine zd [[105],[105],[105],[105],[100],[100],[101],[101]] ?_;refine dd [] (λ_ _ _ _=>c0 (V3 _ h8)) ?_;refine dx [28,30,35] [] (λst mm ⟨a28,a30,a35,_⟩ _=>og (bld (l:=[bl r5.Neg,sli 1 (List.map u32 r5.Abs),sli 1 (List.map u32 r7)]) pl_34.h ti_34.h Qu ⟨_,_,_,(a28.trans rfl),rfl,rfl,rfl,(szk (k:=1) rfl rfl),⟨_,_,_,(a30.trans rfl),rfl,rfl,rfl,(szk (k:=1) rfl rfl),⟨_,_,_,(a35.trans rfl),rfl,rfl,rfl,(szk (k:=1) rfl rfl),rfl⟩⟩⟩ rfl)) ?_;refine dd [] (λ_ _ _ _=>c0 (Jp _ h10)) ?_;refine zd [[102]] ?_;refine de fol ?_;refine z [4,8] ?_;exact rt []
theorem Qfa{n:Nat}{x0}:∀ r,Wv n x0=some r->FnOk Tryz.prog 184 [sli 3 (List.map Qc x0)] [] (Qc r) []:=by
 unfold Wv
 refine fs Tryz.func184 λw S0 γ hγ=>?_;refine z [2] ?_;refine o (al' 100) ?_;refine z [1,2] ?_;refine cb (ca V4) λr1=>?_;refine o (al' 101) ?_;refine z [34,1,5,2,31,1,7] ?_;refine sloopE 0 (λt=>t) (λs15=>[(0,sli 3 (List.map Qc x0)),(2,.own 100),(3,.own 101),(4,i64 s15.2)]) (λs15=>[(100,.bx 34 (Qc (⟨false,[],[]⟩:Qa))),(101,.bx 34 (Qc s15.1))]) (λt13=>[(2,.own 100),(3,.own 101)]) (λt13=>[(100,.bx 34 (Qc (⟨false,[],[]⟩:Qa))),(101,.bx 34 (Qc t13))]) (eR [(100,100),(101,101)]) ?_ ?_
 . intro hj14 s15
   refine z [5,2,30,30,39,46,1] ?_;refine c ?_ ?_
   . refine z [9,4,5,7] ?_;refine b λy16 h17=>?_;refine b λr18 h19=>?_;refine sd ?_;refine zd [[101],[],[],[],[]] ?_;refine dd [] (λ_ _ _ _=>c0 (Wx _ h19)) ?_;refine zd [[101]] ?_;refine de fol ?_;refine z [11,4,6,30,40,31,3] ?_;exact sgo (eR [(100,100),(101,101)])
   refine z [14,15] ?_;exact su (sj (hj14 _) (eR [(100,100),(101,101)]))
 intro t13
 refine z [13,4,2,32,34,1,8] ?_;exact rt []
theorem Qn5{n:Nat}{x0}:∀ r,Zp n x0=some r->FnOk Tryz.prog 114 [Q8 x0] [] (i64 r) []:=by
 unfold Zp
 refine fs Tryz.func114 λw S0 γ hγ=>?_;refine z [2] ?_;refine o (bx' 100) ?_;refine z [31,1,2,33,36,39,31,1,5,2,33,36] ?_;refine s1 (bld (l:=[i64 (2:Int),str x0.Name,i64 0]) Q40.h Qck.h Qdi ⟨_,_,_,(kI (x:=2) rfl),rfl,rfl,rfl,(szk (k:=1) rfl rfl),⟨_,_,_,rfl,rfl,rfl,rfl,(szk (k:=1) rfl rfl),rfl⟩⟩ rfl) ?_;refine cb (ca Qn4) λr1=>?_;refine z [44,1] ?_;refine c ?_ ?_
 . refine z [2,31,1,8,10] ?_;exact rt []
 refine z [9,4,5] ?_;refine sjq (λs5=>[(1,.own 100),(2,i64 (0:Int)),(3,i64 (x0.B.length:Int)),(48,bl s5)]) (λs5=>[(100,.bx 29 (Q8 x0))]) ?_ ?_
 . intro j3 hj4
   refine z [6,30,46,30] ?_;refine sifd 18 rfl ?_ ?_
   . refine z [23,23,38,30,23,23,23,23,23,38,30,23,23,23,23,23,38,30,23,23,23,23,23,24,24,24,24,24,23,38,1] ?_;exact sj (hj4 _) (eR [(100,100)])
   refine z [22,22,37,30] ?_;refine sifd 22 rfl ?_ ?_
   . refine z [23,23,23,23,23,38,30,23,23,23,23,23,38,30,23,23,23,23,23,24,24,24,24,24,23,38,1] ?_;exact sj (hj4 _) (eR [(100,100)])
   refine z [22,22,22,22,22,37,30] ?_;refine sifd 29 rfl ?_ ?_
   . refine z [23,23,23,23,23,38,30,23,23,23,23,23,24,24,24,24,24,23,38,1] ?_;exact sj (hj4 _) (eR [(100,100)])
   refine z [22,22,22,22,22,37,30] ?_;refine sifd 36 rfl ?_ ?_
   . refine z [23,23,23,23,23,24,24,24,24,24,23,38,1] ?_;exact sj (hj4 _) (eR [(100,100)])
   refine z [22,22,22,22,22] ?_;refine sifd 41 rfl ?_ ?_
   . refine z [22,22,22,22,22,22,37,1] ?_;exact sj (hj4 _) (eR [(100,100)])
   refine z [23,23,23,23,23,22,37,1] ?_;exact sj (hj4 _) (eR [(100,100)])
 intro s5
 refine c ?_ ?_
 . refine z [2,31,1,8,10] ?_;exact rt []
 refine z [9,4,5,2,31,1,7] ?_;refine sloopE 0 Lp.go (λs14=>[(1,.own 100),(2,i64 (0:Int)),(3,i64 (x0.B.length:Int)),(4,i64 s14)]) (λs14=>[(100,.bx 29 (Q8 x0))]) (λt12=>[(1,.own 100),(2,i64 (0:Int)),(3,i64 (x0.B.length:Int))]) (λt12=>[(100,.bx 29 (Q8 x0))]) (eR [(100,100)]) ?_ ?_
 . intro hj13 s14
   refine z [5,2,30,30,46,1] ?_;refine c ?_ ?_
   . refine z [9,4,5,7,2,33,36,30] ?_;refine b λy15 h16=>?_;refine z [43,42,39,30,56,1] ?_;refine c ?_ ?_
     . refine z [2,31,1,8,12,10] ?_;refine sU ?_;refine z [12,10] ?_;exact rt []
     refine z [9,11,4,6,30,40,31,3] ?_;exact sgo (eR [(100,100)])
   refine z [14,15] ?_;exact su (sj (hj13 _) (eR [(100,100)]))
 intro t12
 refine slpk ?_;refine z [13,4,5,2,31,1,7] ?_;refine sloopE 2 Lp.go (λs29=>[(1,.own 100),(2,i64 (0:Int)),(3,i64 (x0.B.length:Int)),(5,i64 s29)]) (λs29=>[(100,.bx 29 (Q8 x0))]) (λt27=>[(1,.own 100),(2,i64 (0:Int)),(3,i64 (x0.B.length:Int))]) (λt27=>[(100,.bx 29 (Q8 x0))]) (eR [(100,100)]) ?_ ?_
 . intro hj28 s29
   refine z [5,2,30,30,46,1] ?_;refine c ?_ ?_
   . refine z [9,4,5,7,2,33,36,30] ?_;refine b λy30 h31=>?_;refine z [43,42] ?_;refine cb (ca Qca) λr32=>?_;refine z [1] ?_;refine c ?_ ?_
     . refine z [2,31,1,8,12,10] ?_;refine sU ?_;refine z [12,10] ?_;exact rt []
     refine z [9,11,4,6,30,40,31,3] ?_;exact sgo (eR [(100,100)])
   refine z [14,15] ?_;exact su (sj (hj28 _) (eR [(100,100)]))
 intro t27
 refine slpk ?_;refine z [13,4,5] ?_;refine sjq (λs42=>[(1,.own 100),(2,i64 (0:Int)),(3,i64 (x0.B.length:Int)),(85,bl s42)]) (λs42=>[(100,.bx 29 (Q8 x0))]) ?_ ?_
 . intro j40 hj41
   refine z [6,33,36] ?_;refine cb (ca Qca) λr43=>?_;refine z [30] ?_;refine sifd 76 rfl ?_ ?_
   . refine z [23,23,23,38,30,23,23,23,38,1] ?_;exact sj (hj41 _) (eR [(100,100)])
   refine z [22,22] ?_;refine b λr45 h46=>?_;refine og' (c0 (Qca _ h46)) ?_;refine z [37,30] ?_;refine sifd 81 rfl ?_ ?_
   . refine z [23,23,23,38,1] ?_;exact sj (hj41 _) (eR [(100,100)])
   refine z [22,22] ?_;refine b λr47 h48=>?_;refine og' (c0 (Qca _ h48)) ?_;refine z [37,1] ?_;exact sj (hj41 _) (eR [(100,100)])
 intro s42
 refine c ?_ ?_
 . refine z [2,31,1,8,10] ?_;exact rt []
 refine z [9,4,5,2,31,1,7] ?_;refine sloopE 4 Lp.go (λs69=>[(1,.own 100),(2,i64 (0:Int)),(3,i64 (x0.B.length:Int)),(6,i64 s69)]) (λs69=>[(100,.bx 29 (Q8 x0))]) (λt67=>[(1,.own 100),(2,i64 (0:Int))]) (λt67=>[(100,.bx 29 (Q8 x0))]) (eR [(100,100)]) ?_ ?_
 . intro hj68 s69
   refine z [5,2,30,30,46,1] ?_;refine c ?_ ?_
   . refine z [9,4,5,7,5] ?_;refine b λy70 h71=>?_;refine b λr72 h73=>?_;refine b λy74 h75=>?_;refine b λr76 h77=>?_;refine sd ?_;refine zd [[100],[100],[],[],[]] ?_;refine dd [] (λ_ _ _ _=>c0 (Qfa _ h73)) ?_;refine zd [[100],[100],[],[],[]] ?_;refine dd [] (λ_ _ _ _=>c0 (K2 _ h77)) ?_;refine zd [[]] ?_;refine de fol ?_;refine z [4] ?_;refine c ?_ ?_
     . refine z [2,31,1,8,12,10] ?_;refine sU ?_;refine z [12,10] ?_;exact rt []
     refine z [9,11,4,6,30,40,31,3] ?_;exact sgo (eR [(100,100)])
   refine z [14,15] ?_;exact su (sj (hj68 _) (eR [(100,100)]))
 intro t67
 refine slpk ?_;refine z [13,4,2] ?_;refine cb (ca V4) λr78=>?_;refine o (al' 101) ?_;refine z [34,1,5,5] ?_;refine b λr80 h81=>?_;refine b λr82 h83=>?_;refine sd ?_;refine zd [[100],[100]] ?_;refine dd [] (λ_ _ _ _=>c0 (Qfa _ h81)) ?_;refine zd [[101]] ?_;refine dd [] (λ_ _ _ _=>c0 (K2 _ h83)) ?_;refine zd [[]] ?_;refine de fol ?_;refine z [4] ?_;refine c ?_ ?_
 . refine z [2,31,1,8,10] ?_;exact rt []
 refine z [9,4,5] ?_;refine sjq (λs91=>[(2,i64 (0:Int)),(122,bl s91)]) (λs91=>[]) ?_ ?_
 . intro j89 hj90
   refine sif (λhb92=>?_) (λhb92=>?_)
   . refine b λr93 h94=>?_;refine b λr95 h96=>?_;refine sd ?_;refine zd [[100],[100],[],[]] ?_;refine dd [] (λ_ _ _ _=>obk hb92 ops) ?_;refine zd [[100],[100]] ?_;refine dG [] (λ_ _ _ _=>c0 (Qfa _ h94)) ?_;refine zd [[101]] ?_;refine dG [] (λ_ _ _ _=>c0 (K2 _ h96)) ?_;refine zd [[],[]] ?_;refine de fol ?_;refine z [4] ?_;exact sj (hj90 _) (eR [])
   refine sd ?_;refine zd [[100],[100],[],[]] ?_;refine dd [] (λ_ _ _ _=>obk hb92 ops) ?_;refine zd [[],[],[],[],[],[],[]] ?_;refine de fol ?_;refine z [4] ?_;exact sj (hj90 _) (eR [])
 intro s91
 refine c ?_ ?_
 . refine z [2,31,1,8,10] ?_;exact rt []
 refine z [9,4,2,31,1,8] ?_;exact rt []
theorem Qn6{n:Nat}{x0}:∀ r,Zq n x0=some r->FnOk Tryz.prog 59 [Kd x0] [] (bl r) []:=by
 unfold Zq
 refine fs Tryz.func59 λw S0 γ hγ=>?_;refine z [2] ?_;refine o (bx' 100) ?_;refine z [31,1] ?_;refine sjq (λs7=>[(2,bl s7)]) (λs7=>[]) ?_ ?_
 . intro j5 hj6
   refine z [6,33,36] ?_;refine cb (ca Qn3) λr8=>?_;refine z [41,30] ?_;refine sifd 7 rfl ?_ ?_
   . refine z [22,22] ?_;refine b λr10 h11=>?_;refine og' (c0 (Qn5 _ h11)) ?_;refine z [22,38,30] ?_;refine sifd 13 rfl ?_ ?_
     . refine z [22,22,22,22,22,22,22,38,31,1] ?_;exact sj (hj6 _) (eR [])
     refine z [23,23,23,23,23,23,23,37,31,1] ?_;exact sj (hj6 _) (eR [])
   refine z [23,23,23,23,37,30,23,23,23,23,23,23,23,37,31,1] ?_;exact sj (hj6 _) (eR [])
 intro s7
 refine z [8] ?_;exact rt []
theorem Qaq{n:Nat}{x0}:∀ r,Vl n x0=some r->FnOk Tryz.prog 116 [Qc x0] [] (bl r) []:=by
 unfold Vl
 refine fs Tryz.func116 λw S0 γ hγ=>?_;refine z [2] ?_;refine o (bx' 100) ?_;refine z [31,1] ?_;refine sjq (λs10=>[(2,bl s10)]) (λs10=>[]) ?_ ?_
 . intro j8 hj9
   refine b λr11 h12=>?_;refine b λr13 h14=>?_;refine sif (λhb15=>?_) (λhb15=>?_)
   . refine sd ?_;refine zd [[100]] ?_;refine dd [] (λ_ _ _ _=>c0 (Jp _ h12)) ?_;refine zd [[100]] ?_;refine dd [] (λ_ _ _ _=>c0 (K2 _ h14)) ?_;refine zd [[]] ?_;refine dd [] (λ_ _ _ _=>obk hb15 ops) ?_;refine zd [[],[],[],[],[]] ?_;refine de fol ?_;refine z [4] ?_;exact sj (hj9 _) (eR [])
   refine b λr16 h17=>?_;refine sd ?_;refine zd [[100]] ?_;refine dd [] (λ_ _ _ _=>c0 (Jp _ h12)) ?_;refine zd [[100]] ?_;refine dd [] (λ_ _ _ _=>c0 (K2 _ h14)) ?_;refine zd [[]] ?_;refine dd [] (λ_ _ _ _=>obk hb15 ops) ?_;refine zd [[100]] ?_;refine dG [] (λ_ _ _ _=>c0 (Qeh _ h17)) ?_;refine zd [[],[],[]] ?_;refine de fol ?_;refine z [4] ?_;exact sj (hj9 _) (eR [])
 intro s10
 refine z [8] ?_;exact rt []
theorem Yp{x0}:∀ r,J2 x0=some r->FnOk Tryz.prog 62 [Qc x0] [] (i64 r) []:=by
 unfold J2
 refine fs Tryz.func62 λw S0 γ hγ=>?_;refine z [2] ?_;refine o (bx' 100) ?_;refine z [31,1,5,2,33,36,39,41,1] ?_;refine c ?_ ?_
 . refine z [2,31,1,8,10] ?_;exact rt []
 refine z [9,4,5,2,33,36,1] ?_;refine c ?_ ?_
 . refine z [2,31,1,8,10] ?_;exact rt []
 refine z [9,4,2,31,1,8] ?_;exact rt []
theorem Qi4{n:Nat}{x0}:∀ r,Yx n x0=some r->FnOk Tryz.prog 188 [Qc x0] [] (Qc r) []:=by
 unfold Yx
 refine fs Tryz.func188 λw S0 γ hγ=>?_;refine z [2] ?_;refine o (bx' 100) ?_;refine o (al' 101) ?_;refine z [1,2,33,36,44,33,36,33,36] ?_;refine s1 (bld (l:=[bl (!x0.Neg),sli 1 (List.map u32 x0.N),sli 1 (List.map u32 x0.D)]) pl_34.h ti_34.h Qu ⟨_,_,_,rfl,rfl,rfl,rfl,(szk (k:=1) rfl rfl),⟨_,_,_,rfl,rfl,rfl,rfl,(szk (k:=1) rfl rfl),⟨_,_,_,rfl,rfl,rfl,rfl,(szk (k:=1) rfl rfl),rfl⟩⟩⟩ rfl) ?_;refine cb (ca Jp) λr1=>?_;refine z [34,1,8] ?_;exact rt []
theorem Qcb{n:Nat}{x0}{x1}:∀ r,Wt n x0 x1=some r->FnOk Tryz.prog 117 [Qc x0,Qc x1] [] (Qc r) []:=by
 unfold Wt
 refine fs Tryz.func117 λw S0 γ hγ=>?_;refine z [2] ?_;refine o (bx' 100) ?_;refine o (bx' 101) ?_;refine o (al' 102) ?_;refine z [1,5] ?_;refine b λr1 h2=>?_;refine b λr3 h4=>?_;refine sd ?_;refine zd [[100],[101]] ?_;refine dd [] (λ_ _ _ _=>c0 (Qi4 _ h2)) ?_;refine dd [] (λ_ _ _ _=>c0 (Wx _ h4)) ?_;refine zd [[102]] ?_;refine de fol ?_;refine z [4,8] ?_;exact rt []
theorem Vm{n:Nat}{x0}{x1}:∀ r,Q4 n x0 x1=some r->FnOk Tryz.prog 61 [Qc x0,Qc x1] [] (i64 r) []:=by
 unfold Q4
 refine fs Tryz.func61 λw S0 γ hγ=>?_;refine z [2] ?_;refine o (bx' 100) ?_;refine o (bx' 101) ?_;refine z [31,1,2,32,32] ?_;refine cb (ca Qcb) λr1=>?_;refine cb (ca Yp) λr3=>?_;refine z [31,1,8] ?_;exact rt []
theorem Qn7{n:Nat}{x0}:∀ r,Zt n x0=some r->FnOk Tryz.prog 60 [Kg x0] [] (i64 r) []:=by
 unfold Zt
 refine fs Tryz.func60 λw S0 γ hγ=>?_;refine z [2] ?_;refine o (bx' 100) ?_;refine z [31,1,2] ?_;refine cb (ca V4) λr1=>?_;refine o (al' 101) ?_;refine z [34,1,5] ?_;refine sjq (λs15=>[(1,.own 100),(2,i64 (0:Int)),(3,.own 101),(27,bl s15)]) (λs15=>[(100,.bx 36 (Kg x0)),(101,.bx 34 (Qc r1))]) ?_ ?_
 . intro j13 hj14
   refine z [6,33,36] ?_;refine cb (ca Qaq) λr16=>?_;refine z [30] ?_;refine sifd 8 rfl ?_ ?_
   . refine z [23,23,23,38,30,23,23,23,38,30,23,23,23,38,30,23,23,23,38,1] ?_;exact sj (hj14 _) (eR [(100,100),(101,101)])
   refine z [22,22] ?_;refine b λr18 h19=>?_;refine og' (c0 (Qaq _ h19)) ?_;refine z [37,30] ?_;refine sifd 13 rfl ?_ ?_
   . refine z [23,23,23,38,30,23,23,23,38,30,23,23,23,38,1] ?_;exact sj (hj14 _) (eR [(100,100),(101,101)])
   refine z [22,22] ?_;refine b λr20 h21=>?_;refine og' (c0 (Qaq _ h21)) ?_;refine z [37,30] ?_;refine sifd 18 rfl ?_ ?_
   . refine z [23,23,23,38,30,23,23,23,38,1] ?_;exact sj (hj14 _) (eR [(100,100),(101,101)])
   refine z [22,22] ?_;refine b λr22 h23=>?_;refine og' (c0 (Qaq _ h23)) ?_;refine z [37,30] ?_;refine sifd 23 rfl ?_ ?_
   . refine z [23,23,23,38,1] ?_;exact sj (hj14 _) (eR [(100,100),(101,101)])
   refine z [22,22] ?_;refine b λr24 h25=>?_;refine og' (c0 (Qaq _ h25)) ?_;refine z [37,1] ?_;exact sj (hj14 _) (eR [(100,100),(101,101)])
 intro s15
 refine c ?_ ?_
 . refine z [2,31,1,8,10] ?_;exact rt []
 refine z [9,4,5,2,33,36] ?_;refine cb (ca Yp) λr26=>?_;refine z [46,1] ?_;refine c ?_ ?_
 . refine z [2,31,1,8,10] ?_;exact rt []
 refine z [9,4,5] ?_;refine sjq (λs34=>[(1,.own 100),(2,i64 (0:Int)),(3,.own 101),(42,bl s34)]) (λs34=>[(100,.bx 36 (Kg x0)),(101,.bx 34 (Qc r1))]) ?_ ?_
 . intro j32 hj33
   refine z [6,33,36] ?_;refine cb (ca Yp) λr35=>?_;refine z [58,30] ?_;refine sifd 36 rfl ?_ ?_
   . refine z [23,23,23,23,23,38,1] ?_;exact sj (hj33 _) (eR [(100,100),(101,101)])
   refine z [22,22,22] ?_;refine b λr37 h38=>?_;refine og' (c0 (Vm _ h38)) ?_;refine z [22,37,1] ?_;exact sj (hj33 _) (eR [(100,100),(101,101)])
 intro s34
 refine c ?_ ?_
 . refine z [2,31,1,8,10] ?_;exact rt []
 refine z [9,4,5] ?_;refine sjq (λs45=>[(1,.own 100),(2,i64 (0:Int)),(3,.own 101),(53,bl s45)]) (λs45=>[(100,.bx 36 (Kg x0)),(101,.bx 34 (Qc r1))]) ?_ ?_
 . intro j43 hj44
   refine z [6,33,36] ?_;refine cb (ca Yp) λr46=>?_;refine z [58,30] ?_;refine sifd 47 rfl ?_ ?_
   . refine z [23,23,23,23,23,38,1] ?_;exact sj (hj44 _) (eR [(100,100),(101,101)])
   refine z [22,22,22] ?_;refine b λr48 h49=>?_;refine og' (c0 (Vm _ h49)) ?_;refine z [22,37,1] ?_;exact sj (hj44 _) (eR [(100,100),(101,101)])
 intro s45
 refine c ?_ ?_
 . refine z [2,31,1,8,10] ?_;exact rt []
 refine z [9,4,5,2,33,36,32] ?_;refine cb (ca Vm) λr50=>?_;refine z [46,1] ?_;refine c ?_ ?_
 . refine z [2,31,1,8,10] ?_;exact rt []
 refine z [9,4,5,2,33,36] ?_;refine cb (ca Yp) λr52=>?_;refine z [58,1] ?_;refine c ?_ ?_
 . refine z [2,31,1,8,10] ?_;exact rt []
 refine z [9,4,5] ?_;refine sjq (λs56=>[(1,.own 100),(2,i64 (0:Int)),(70,bl s56)]) (λs56=>[(100,.bx 36 (Kg x0))]) ?_ ?_
 . intro j54 hj55
   refine z [6,33,36,46,30] ?_;refine sifd 66 rfl ?_ ?_
   . refine z [23,23,23,38,1] ?_;exact sj (hj55 _) (eR [(100,100)])
   refine z [22,22,22,37,1] ?_;exact sj (hj55 _) (eR [(100,100)])
 intro s56
 refine c ?_ ?_
 . refine z [2,31,1,8,10] ?_;exact rt []
 refine z [9,4,5] ?_;refine sjq (λs59=>[(2,i64 (0:Int)),(78,bl s59)]) (λs59=>[]) ?_ ?_
 . intro j57 hj58
   refine z [6,33,36,46,30] ?_;refine sifd 74 rfl ?_ ?_
   . refine z [23,23,23,38,1] ?_;exact sj (hj58 _) (eR [])
   refine z [22,22,22,37,1] ?_;exact sj (hj58 _) (eR [])
 intro s59
 refine c ?_ ?_
 . refine z [2,31,1,8,10] ?_;exact rt []
 refine z [9,4,2,31,1,8] ?_;exact rt []
theorem Qn8{n:Nat}{x0}:∀ r,Zu n x0=some r->FnOk Tryz.prog 14 [Jo x0] [] (bl r) []:=by
 unfold Zu
 refine fs Tryz.func14 λw S0 γ hγ=>?_;refine z [2] ?_;refine o (bx' 100) ?_;refine z [31,1] ?_;refine sjq (λs11=>[(2,bl s11)]) (λs11=>[]) ?_ ?_
 . intro j9 hj10
   refine z [6,33,36] ?_;refine cb (ca Qn6) λr12=>?_;refine z [30] ?_;refine sifd 6 rfl ?_ ?_
   . refine z [22,22] ?_;refine b λr14 h15=>?_;refine og' (c0 (Qn7 _ h15)) ?_;refine z [22,38,30] ?_;refine sifd 12 rfl ?_ ?_
     . refine z [22,22,22,22,22,22,22,22,38,30] ?_;refine sifd 22 rfl ?_ ?_
       . refine z [22,22,22,22] ?_;refine b λr16 h17=>?_;refine og' (c0 (Vm _ h17)) ?_;refine z [22,38,30] ?_;refine sifd 30 rfl ?_ ?_
         . refine z [22,22] ?_;refine b λr18 h19=>?_;refine og' (c0 (Yp _ h19)) ?_;refine z [22,38,31,1] ?_;exact sj (hj10 _) (eR [])
         refine z [23,23,23,23,37,31,1] ?_;exact sj (hj10 _) (eR [])
       refine z [23,23,23,23,23,23,37,30,23,23,23,23,37,31,1] ?_;exact sj (hj10 _) (eR [])
     refine z [23,23,23,23,23,23,23,23,37,30,23,23,23,23,23,23,37,30,23,23,23,23,37,31,1] ?_;exact sj (hj10 _) (eR [])
   refine z [23,23,23,23,37,30,23,23,23,23,23,23,23,23,37,30,23,23,23,23,23,23,37,30,23,23,23,23,37,31,1] ?_;exact sj (hj10 _) (eR [])
 intro s11
 refine z [8] ?_;exact rt []
theorem Qbz{n:Nat}{x0}{x1}:∀ r,We n x0 x1=some r->FnOk Tryz.prog 118 [sli 3 (List.map Qc x0),sli 3 (List.map Qc x1)] [] (bl r) []:=by
 unfold We
 refine fs Tryz.func118 λw S0 γ hγ=>?_;refine z [2,31,1,5,2,30,39,30,39,56,1] ?_;refine c ?_ ?_
 . refine z [2,31,1,8,10] ?_;exact rt []
 refine z [9,4,5,2,31,1,7] ?_;refine sloopE 0 Lp.go (λs17=>[(0,sli 3 (List.map Qc x0)),(1,sli 3 (List.map Qc x1)),(4,bl false),(5,i64 s17)]) (λs17=>[]) (λt15=>[(4,bl false)]) (λt15=>[]) eI ?_ ?_
 . intro hj16 s17
   refine z [5,2,30,30,39,46,1] ?_;refine c ?_ ?_
   . refine z [9,4,5,7,5] ?_;refine b λy18 h19=>?_;refine b λy20 h21=>?_;refine b λr22 h23=>?_;refine sd ?_;refine zd [[],[],[],[],[],[],[],[]] ?_;refine dd [] (λ_ _ _ _=>c0 (K2 _ h23)) ?_;refine zd [[]] ?_;refine de fol ?_;refine z [4] ?_;refine c ?_ ?_
     . refine z [2,31,1,8,12,10] ?_;refine sU ?_;refine z [12,10] ?_;exact rt []
     refine z [9,11,4,6,30,40,31,3] ?_;exact sgo eI
   refine z [14,15] ?_;exact su (sj (hj16 _) eI)
 intro t15
 refine slpk ?_;refine z [13,4,2,31,1,8] ?_;exact rt []
theorem Qax{x0}:∀ r,Yt x0=some r->FnOk Tryz.prog 91 [Jy x0] [] (sli 3 (List.map Qc r)) []:=by
 unfold Yt
 refine fs Tryz.func91 λw S0 γ hγ=>?_;refine z [2] ?_;refine o (bx' 100) ?_;refine s1 (asg rfl (kLm (k:=3) Qc)) ?_;refine z [1,2,33,36,33,36,33,36,33,36] ?_
 refine so (bsl (y:=101) (ls:=List.map Qc ([x0.T,x0.Want,x0.H,x0.Err]:List Qa)) Tryz.underlying26 ti_34.h rfl rfl rfl rfl rfl ⟨rfl,rfl,(by exact rfl),(by exact rfl),rfl,rfl,(by exact rfl),(by exact rfl),rfl,rfl,(by exact rfl),(by exact rfl),rfl,rfl,(by exact rfl),(by exact rfl),trivial⟩ rfl rfl) ?_
 refine z [31,1,8] ?_;refine fz 101 [2,11] [] ?_;exact rt []
theorem Qpo{n:Nat}{x0}{x1}:∀ r,Z0 n x0 x1=some r->FnOk Tryz.prog 63 [Qz x0,Qz x1] [] (bl r) []:=by
 unfold Z0
 refine fs Tryz.func63 λw S0 γ hγ=>?_;refine z [2] ?_;refine o (bx' 100) ?_;refine o (bx' 101) ?_;refine z [31,1,5] ?_;refine sjq (λs7=>[(2,.own 100),(3,.own 101),(4,bl false),(30,bl s7)]) (λs7=>[(100,.bx 70 (Qz x0)),(101,.bx 70 (Qz x1))]) ?_ ?_
 . intro j5 hj6
   refine z [6,33,36,39,33,36,39,56,30] ?_;refine sifd 15 rfl ?_ ?_
   . refine z [23,23,23,23,23,23,38,30,23,23,23,23,23,23,38,1] ?_;exact sj (hj6 _) (eR [(100,100),(101,101)])
   refine z [22,22,22,22] ?_;refine b λr8 h9=>?_;refine og' (c0 (K2 _ h9)) ?_;refine z [22,37,30] ?_;refine sifd 23 rfl ?_ ?_
   . refine z [23,23,23,23,23,23,38,1] ?_;exact sj (hj6 _) (eR [(100,100),(101,101)])
   refine z [22,22,22,22] ?_;refine b λr10 h11=>?_;refine og' (c0 (Qbz _ h11)) ?_;refine z [22,37,1] ?_;exact sj (hj6 _) (eR [(100,100),(101,101)])
 intro s7
 refine c ?_ ?_
 . refine z [2,31,1,8,10] ?_;exact rt []
 refine z [9,4,5,2,31,1,7] ?_;refine sloopE 0 Lp.go (λs70=>[(2,.own 100),(3,.own 101),(4,bl false),(5,i64 s70)]) (λs70=>[(100,.bx 70 (Qz x0)),(101,.bx 70 (Qz x1))]) (λt68=>[(4,bl false)]) (λt68=>[]) (eR [(100,100),(101,101)]) ?_ ?_
 . intro hj69 s70
   refine z [5,2,30,33,36,39,46,1] ?_;refine c ?_ ?_
   . refine z [9,4,5,7,2,33,36,30] ?_;refine b λy71 h72=>?_;refine z [43,42] ?_;refine o (al' 102) ?_;refine z [34,1,2,33,36,30] ?_;refine b λy73 h74=>?_;refine z [43,42] ?_;refine o (al' 103) ?_;refine z [34,1] ?_;refine sjq (λs87=>[(2,.own 100),(3,.own 101),(4,bl false),(5,i64 s70),(68,bl s87)]) (λs87=>[(100,.bx 70 (Qz x0)),(101,.bx 70 (Qz x1))]) ?_ ?_
     . intro j85 hj86
       refine sif (λhb88=>?_) (λhb88=>?_)
       . refine sd ?_;refine zd [[102],[102],[103],[103],[]] ?_;refine dd [] (λ_ _ _ _=>obk hb88 ops) ?_;refine zd [[],[],[],[],[],[],[],[],[],[],[],[],[],[],[]] ?_;refine de fol ?_;refine z [4] ?_;exact sj (hj86 _) (eR [(100,100),(101,101)])
       refine b λr89 h90=>?_;refine b λr91 h92=>?_;refine b λr93 h94=>?_;refine sif (λhb95=>?_) (λhb95=>?_)
       . refine sd ?_;refine zd [[102],[102],[103],[103],[]] ?_;refine dd [] (λ_ _ _ _=>obk hb88 ops) ?_;refine zd [[102]] ?_;refine dG [] (λ_ _ _ _=>c0 (Qax _ h90)) ?_;refine zd [[103]] ?_;refine dG [] (λ_ _ _ _=>c0 (Qax _ h92)) ?_;refine dG [] (λ_ _ _ _=>c0 (Qbz _ h94)) ?_;refine zd [[],[]] ?_;refine dd [] (λ_ _ _ _=>obk hb95 ops) ?_;refine zd [[],[],[],[],[],[],[]] ?_;refine de fol ?_;refine z [4] ?_;exact sj (hj86 _) (eR [(100,100),(101,101)])
       refine b λr96 h97=>?_;refine sd ?_;refine zd [[102],[102],[103],[103],[]] ?_;refine dd [] (λ_ _ _ _=>obk hb88 ops) ?_;refine zd [[102]] ?_;refine dG [] (λ_ _ _ _=>c0 (Qax _ h90)) ?_;refine zd [[103]] ?_;refine dG [] (λ_ _ _ _=>c0 (Qax _ h92)) ?_;refine dG [] (λ_ _ _ _=>c0 (Qbz _ h94)) ?_;refine zd [[],[]] ?_;refine dd [] (λ_ _ _ _=>obk hb95 ops) ?_;refine zd [[102],[102],[103],[103]] ?_;refine dG [] (λ_ _ _ _=>c0 (Qbz _ h97)) ?_;refine zd [[],[]] ?_;refine de fol ?_;refine z [4] ?_;exact sj (hj86 _) (eR [(100,100),(101,101)])
     intro s87
     refine c ?_ ?_
     . refine z [2,31,1,8,12,10] ?_;refine sU ?_;refine z [12,10] ?_;exact rt []
     refine z [9,11,4,6,30,40,31,3] ?_;exact sgo (eR [(100,100),(101,101)])
   refine z [14,15] ?_;exact su (sj (hj69 _) (eR []))
 intro t68
 refine slpk ?_;refine z [13,4,2,31,1,8] ?_;exact rt []
theorem Qqa{n:Nat}{x0}{x1}{x2}:∀ r,Y3 n x0 x1 x2=some r->FnOk Tryz.prog 70 [Qc x0,Qc x1,Qc x2] [] (Qc r) []:=by
 unfold Y3
 refine fs Tryz.func70 λw S0 γ hγ=>?_;refine z [2] ?_;refine o (bx' 100) ?_;refine o (bx' 101) ?_;refine o (bx' 102) ?_;refine o (al' 103) ?_;refine z [1,5,5] ?_;refine b λr1 h2=>?_;refine b λr3 h4=>?_;refine sd ?_;refine zd [[100],[102]] ?_;refine dd [] (λ_ _ _ _=>c0 (Wx _ h2)) ?_;refine zd [[101]] ?_;refine dd [] (λ_ _ _ _=>c0 (Vm _ h4)) ?_;refine zd [[]] ?_;refine de fol ?_;refine z [4] ?_;refine c ?_ ?_
 . refine z [2,32,32] ?_;refine cb (ca Qcb) λr5=>?_;refine z [34,1,8,10] ?_;exact rt []
 refine z [9,4,2,32,34,1,8] ?_;exact rt []
theorem Qn9{x0}:∀ r,Qbl x0=some r->FnOk Tryz.prog 127 [i64 x0] [] (i64 r) []:=by
 unfold Qbl
 refine fs Tryz.func127 λw S0 γ hγ=>?_;refine z [2,31,1,2,30,88,89,31,1,8] ?_;exact rt []
theorem Qb0{x0}:∀ r,Wg x0=some r->FnOk Tryz.prog 139 [Qc x0] [] (bl r) []:=by
 unfold Wg
 refine fs Tryz.func139 λw S0 γ hγ=>?_;refine z [2] ?_;refine o (bx' 100) ?_;refine z [31,1,2,33,36,39,41,31,1,8] ?_;exact rt []
theorem Wy{n:Nat}{x0}{x1}:∀ r,Jx n x0 x1=some r->FnOk Tryz.prog 74 [Qc x0,Qc x1] [] (Qc r) []:=by
 unfold Jx
 refine fs Tryz.func74 λw S0 γ hγ=>?_;refine z [2] ?_;refine o (bx' 100) ?_;refine o (bx' 101) ?_;refine o (al' 102) ?_;refine z [1,5] ?_;refine b λr1 h2=>?_;refine b λr3 h4=>?_;refine b λr5 h6=>?_;refine sd ?_;refine zd [[100],[100],[101],[101],[],[100],[100],[101],[101]] ?_;refine dd [] (λ_ _ _ _=>c0 (V3 _ h2)) ?_;refine zd [[100],[100],[101],[101]] ?_;refine dd [] (λ_ _ _ _=>c0 (V3 _ h4)) ?_;refine dx [9,14,19] [] (λst mm ⟨a9,a14,a19,_⟩ _=>og (bld (l:=[bl (x0.Neg != x1.Neg),sli 1 (List.map u32 r1),sli 1 (List.map u32 r3)]) pl_34.h ti_34.h Qu ⟨_,_,_,(a9.trans rfl),rfl,rfl,rfl,(szk (k:=1) rfl rfl),⟨_,_,_,(a14.trans rfl),rfl,rfl,rfl,(szk (k:=1) rfl rfl),⟨_,_,_,(a19.trans rfl),rfl,rfl,rfl,(szk (k:=1) rfl rfl),rfl⟩⟩⟩ rfl)) ?_;refine dd [] (λ_ _ _ _=>c0 (Jp _ h6)) ?_;refine zd [[102]] ?_;refine de fol ?_;refine z [4,8] ?_;exact rt []
theorem Qia{n:Nat}{x0}{x1}:∀ r,Vf n x0 x1=some r->FnOk Tryz.prog 194 [Qc x0,i64 x1] [] (bl r) []:=by
 unfold Vf
 refine fs Tryz.func194 λw S0 γ hγ=>?_;refine z [2] ?_;refine o (bx' 100) ?_;refine z [31,1,2,32] ?_;refine cb (ca Qeh) λr1=>?_;refine z [30,58,31,1,8] ?_;exact rt []
theorem Qfb{n:Nat}{x0}{x1}:∀ r,Va n x0 x1=some r->FnOk Tryz.prog 129 [sli 3 (List.map Qc x0),i64 x1] [] (i64 r) []:=by
 unfold Va
 refine fs Tryz.func129 λw S0 γ hγ=>?_;refine z [2,31,1,5,2,31,1,7] ?_;refine sloopE 0 Lp.go (λs13=>[(0,sli 3 (List.map Qc x0)),(1,i64 x1),(4,i64 (0:Int)),(5,i64 s13)]) (λs13=>[]) (λt11=>[(0,sli 3 (List.map Qc x0)),(4,i64 (0:Int))]) (λt11=>[]) eI ?_ ?_
 . intro hj12 s13
   refine z [5,2,30,30,39,46,1] ?_;refine c ?_ ?_
   . refine z [9,4,5,7,2,30,30] ?_;refine b λy14 h15=>?_;refine z [43,42,30] ?_;refine cb (ca Qia) λr16=>?_;refine z [44,1] ?_;refine c ?_ ?_
     . refine z [2,30,31,1,8,12,10] ?_;refine sU ?_;refine z [12,10] ?_;exact rt []
     refine z [9,11,4,6,30,40,31,3] ?_;exact sgo eI
   refine z [14,15] ?_;exact su (sj (hj12 _) eI)
 intro t11
 refine slpk ?_;refine z [13,4,2,30,39,31,1,8] ?_;exact rt []
theorem Qng{n:Nat}{x0}{x1}{x2}{x3}:∀ r,Xs n x0 x1 x2 x3=some r->FnOk Tryz.prog 132 [Kd x0,Qc x1,Qc x2,i64 x3] [] (Qc r) []:=by
 unfold Xs
 refine fs Tryz.func132 λw S0 γ hγ=>?_;refine z [2] ?_;refine o (bx' 100) ?_;refine o (bx' 101) ?_;refine o (bx' 102) ?_;refine o (al' 103) ?_;refine z [1,5] ?_;refine b λy1 h2=>?_;refine b λr3 h4=>?_;refine b λr5 h6=>?_;refine sd ?_;refine zd [[101],[102],[100],[],[100],[],[],[]] ?_;refine dd [] (λ_ _ _ _=>c0 (Wy _ h4)) ?_;refine dd [] (λ_ _ _ _=>c0 (Wx _ h6)) ?_;refine zd [[103]] ?_;refine de fol ?_;refine z [4,8] ?_;exact rt []
theorem Qoa{n:Nat}{x0}{x1}{x2}:∀ r,Xz n x0 x1 x2=some r->FnOk Tryz.prog 131 [Kd x0,Qc x1,sli 3 (List.map Qc x2)] [] (X4 r) []:=by
 unfold Xz
 refine fs Tryz.func131 λw S0 γ hγ=>?_;refine z [2] ?_;refine o (bx' 100) ?_;refine o (bx' 101) ?_;refine o (al' 102) ?_;refine z [1,5] ?_;refine b λr1 h2=>?_;refine sd ?_;refine zd [[101],[],[100],[100]] ?_;refine dd [] (λ_ _ _ _=>c0 (Qhq _ h2)) ?_;refine dx [7,8,11] [] (λst mm ⟨a7,a8,a11,_⟩ _=>og (bld (l:=[Qc x1,sli 3 (List.map Qc x2),sli 3 (List.map Qc r1)]) Q9y.h Q0q.h Qg2 ⟨_,_,_,(a7.trans rfl),rfl,rfl,rfl,(szk (k:=3) rfl rfl),⟨_,_,_,(a8.trans rfl),rfl,rfl,rfl,(szk (k:=1) rfl rfl),⟨_,_,_,(a11.trans rfl),rfl,rfl,rfl,(szk (k:=1) rfl rfl),rfl⟩⟩⟩ rfl)) ?_;refine zd [[102]] ?_;refine de fol ?_;refine z [4,8] ?_;exact rt []
theorem Qcc{n:Nat}{x0}{x1}:∀ r,V0 n x0 x1=some r->FnOk Tryz.prog 140 [Qc x0,Qc x1] [] (Qc r) []:=by
 unfold V0
 refine fs Tryz.func140 λw S0 γ hγ=>?_;refine z [2] ?_;refine o (bx' 100) ?_;refine o (bx' 101) ?_;refine o (al' 102) ?_;refine z [1,5] ?_;refine b λr1 h2=>?_;refine b λr3 h4=>?_;refine b λr5 h6=>?_;refine sd ?_;refine zd [[100],[100],[101],[101],[],[100],[100],[101],[101]] ?_;refine dd [] (λ_ _ _ _=>c0 (V3 _ h2)) ?_;refine zd [[100],[100],[101],[101]] ?_;refine dd [] (λ_ _ _ _=>c0 (V3 _ h4)) ?_;refine dx [9,14,19] [] (λst mm ⟨a9,a14,a19,_⟩ _=>og (bld (l:=[bl (x0.Neg != x1.Neg),sli 1 (List.map u32 r1),sli 1 (List.map u32 r3)]) pl_34.h ti_34.h Qu ⟨_,_,_,(a9.trans rfl),rfl,rfl,rfl,(szk (k:=1) rfl rfl),⟨_,_,_,(a14.trans rfl),rfl,rfl,rfl,(szk (k:=1) rfl rfl),⟨_,_,_,(a19.trans rfl),rfl,rfl,rfl,(szk (k:=1) rfl rfl),rfl⟩⟩⟩ rfl)) ?_;refine dd [] (λ_ _ _ _=>c0 (Jp _ h6)) ?_;refine zd [[102]] ?_;refine de fol ?_;refine z [4,8] ?_;exact rt []
theorem Qqb{n:Nat}{x0}{x1}:∀ r,Qao n x0 x1=some r->FnOk Tryz.prog 280 [Qc x0,i64 x1] [] (.tup [Qc r.1,bl r.2]) []:=by
 unfold Qao
 refine fs Tryz.func280 λw S0 γ hγ=>?_;refine z [2] ?_;refine o (bx' 100) ?_;refine o (al' 101) ?_;refine z [31,1,5] ?_;refine sjq (λs5=>[(1,i64 x1),(2,.own 100),(4,.own 101),(5,bl false),(22,bl s5)]) (λs5=>[(100,.bx 34 (Qc x0)),(101,.bx 34 (Qc (⟨false,[],[]⟩:Qa)))]) ?_ ?_
 . intro j3 hj4
   refine z [6,30,46,30] ?_;refine sifd 11 rfl ?_ ?_
   . refine z [23,23,38,30,23,23,23,24,24,23,38,1] ?_;exact sj (hj4 _) (eR [(100,100),(101,101)])
   refine z [22,22,37,30] ?_;refine sifd 15 rfl ?_ ?_
   . refine z [23,23,23,24,24,23,38,1] ?_;exact sj (hj4 _) (eR [(100,100),(101,101)])
   refine z [22,22,22] ?_;refine sifd 18 rfl ?_ ?_
   . refine z [22] ?_;refine b λr6 h7=>?_;refine og' (c0 (Qb0 _ h7)) ?_;refine z [22,37,1] ?_;exact sj (hj4 _) (eR [(100,100),(101,101)])
   refine z [23,23,22,37,1] ?_;exact sj (hj4 _) (eR [(100,100),(101,101)])
 intro s5
 refine c ?_ ?_
 . refine z [2] ?_;refine cb (ca V4) λr8=>?_;refine z [34,31,1,8,10] ?_;exact rt []
 refine z [9,4,2] ?_;refine cb (ca V4) λr10=>?_;refine o (al' 102) ?_;refine z [34,1,5,2,31,1,7] ?_;refine sloopE 0 (λt=>t) (λs20=>[(1,i64 x1),(2,.own 100),(4,.own 101),(5,bl false),(6,.own 102),(7,i64 s20.2)]) (λs20=>[(100,.bx 34 (Qc x0)),(101,.bx 34 (Qc (⟨false,[],[]⟩:Qa))),(102,.bx 34 (Qc s20.1))]) (λt18=>[(1,i64 x1),(2,.own 100),(4,.own 101),(5,bl false),(6,.own 102)]) (λt18=>[(100,.bx 34 (Qc x0)),(101,.bx 34 (Qc (⟨false,[],[]⟩:Qa))),(102,.bx 34 (Qc t18))]) (eR [(100,100),(101,101),(102,102)]) ?_ ?_
 . intro hj19 s20
   refine z [5,2,30,30,46,1] ?_;refine c ?_ ?_
   . refine z [9,4,5,7,6,32,32] ?_;refine cb (ca Wy) λr21=>?_;refine z [34,3,11,4,6,30,40,31,3] ?_;exact sgo (eR [(100,100),(101,101),(102,102)])
   refine z [14,15] ?_;exact su (sj (hj19 _) (eR [(100,100),(101,101),(102,102)]))
 intro t18
 refine z [13,4,5,2,31,1,7] ?_;refine sloopE 2 (λt=>t) (λs31=>[(1,i64 x1),(2,.own 100),(4,.own 101),(5,bl false),(6,.own 102),(8,i64 s31.2)]) (λs31=>[(100,.bx 34 (Qc x0)),(101,.bx 34 (Qc (⟨false,[],[]⟩:Qa))),(102,.bx 34 (Qc s31.1))]) (λt29=>[(4,.own 101),(5,bl false),(6,.own 102)]) (λt29=>[(101,.bx 34 (Qc (⟨false,[],[]⟩:Qa))),(102,.bx 34 (Qc t29))]) (eR [(100,100),(101,101),(102,102)]) ?_ ?_
 . intro hj30 s31
   refine z [5,2,30,30,47,1] ?_;refine c ?_ ?_
   . refine z [9,4,5,7,6,32,32] ?_;refine cb (ca Qcc) λr32=>?_;refine z [34,3,11,4,6,30,49,31,3] ?_;exact sgo (eR [(100,100),(101,101),(102,102)])
   refine z [14,15] ?_;exact su (sj (hj30 _) (eR [(101,101),(102,102)]))
 intro t29
 refine z [13,4,2,32,34,31,1,8] ?_;exact rt []
theorem Qj1{n:Nat}{x0}{x1}{x2}{x3}:∀ r,Qba n x0 x1 x2 x3=some r->FnOk Tryz.prog 240 [i64 x0,i64 x1,Qc x2,Qc x3] [] (.tup [Qc r.1,bl r.2]) []:=by
 unfold Qba
 refine fs Tryz.func240 λw S0 γ hγ=>?_;refine z [2] ?_;refine o (bx' 100) ?_;refine o (bx' 101) ?_;refine o (al' 102) ?_;refine z [31,1,5,2,30,41,1] ?_;refine c ?_ ?_
 . refine z [2,32] ?_;refine cb (ca Qi4) λr1=>?_;refine z [34,31,1,8,10] ?_;exact rt []
 refine z [9,4,5,2,30,41,1] ?_;refine c ?_ ?_
 . refine z [2,32,32] ?_;refine cb (ca Wx) λr3=>?_;refine z [34,31,1,8,10] ?_;exact rt []
 refine z [9,4,5,2,30,41,1] ?_;refine c ?_ ?_
 . refine z [2,32,32] ?_;refine cb (ca Qcb) λr5=>?_;refine z [34,31,1,8,10] ?_;exact rt []
 refine z [9,4,5,2,30,41,1] ?_;refine c ?_ ?_
 . refine z [2,32,32] ?_;refine cb (ca Wy) λr7=>?_;refine z [34,31,1,8,10] ?_;exact rt []
 refine z [9,4,5,2,30,41,1] ?_;refine c ?_ ?_
 . refine z [2,32,30] ?_;refine cb (ca Qqb) λr9=>?_;refine z [35,35,34,31,1,8,10] ?_;exact rt []
 refine z [9,4,5,2,32] ?_;refine cb (ca Qb0) λr11=>?_;refine z [1] ?_;refine c ?_ ?_
 . refine z [2,32,34,31,1,8,10] ?_;exact rt []
 refine z [9,4,2,32,32] ?_;refine cb (ca Qcc) λr13=>?_;refine z [34,31,1,8] ?_;exact rt []
theorem Qpp{n:Nat}{x0}{x1}{x2}:∀ r,Yj n x0 x1 x2=some r->FnOk Tryz.prog 195 [J3 x0,X4 x1,.own 0] [(0,.sl 34 3 (List.map Qc x2))] (.tup [Qc r.1,bl r.2]) [(0,.sl 34 3 (List.map Qc x2))]:=by
 unfold Yj
 refine fs Tryz.func195 λw S0 γ hγ=>?_;refine z [2] ?_;refine o (bx' 100) ?_;refine o (bx' 101) ?_;refine o (al' 102) ?_;refine z [31,1,5,2,33,36,41,1] ?_;refine c ?_ ?_
 . refine z [2,33,36,34,31,1,8,10] ?_;exact rt [(0,0)]
 refine z [9,4,5,2,33,36,41,1] ?_;refine c ?_ ?_
 . refine z [2,33,36,34,31,1,8,10] ?_;exact rt [(0,0)]
 refine z [9,4,5,2,33,36,41,1] ?_;refine c ?_ ?_
 . refine z [2,33,36,33,36] ?_;refine b λy1 h2=>?_;refine z [43,42,34,31,1,8,10] ?_;exact rt [(0,0)]
 refine z [9,4,5,2,33,36,41,1] ?_;refine c ?_ ?_
 . refine z [2,33,36,33,36] ?_;refine b λy3 h4=>?_;refine z [43,42,34,31,1,8,10] ?_;exact rt [(0,0)]
 refine z [9,4,5] ?_;refine sjq (λs7=>[(2,.own 0),(3,.own 100),(6,.own 102),(7,bl false),(43,bl s7)]) (λs7=>[(0,.sl 34 3 (List.map Qc x2)),(100,.bx 232 (J3 x0)),(102,.bx 34 (Qc (⟨false,[],[]⟩:Qa)))]) ?_ ?_
 . intro j5 hj6
   refine z [6,33,36,41,30] ?_;refine sifd 39 rfl ?_ ?_
   . refine z [23,23,23,38,1] ?_;exact sj (hj6 _) (eR [(0,0),(100,100),(102,102)])
   refine z [22,22,22,37,1] ?_;exact sj (hj6 _) (eR [(0,0),(100,100),(102,102)])
 intro s7
 refine c ?_ ?_
 . refine z [5] ?_;refine b λy8 h9=>?_;refine b λy10 h11=>?_;refine b λr12 h13=>?_;refine sd ?_;refine zd [[100],[100],[100],[100],[],[100],[100]] ?_;refine dx [48,50] [0] (λst mm ⟨a48,a50,_⟩ ⟨g0,_⟩=>og (ixO (f:=Qc) (g0.trans rfl) Tryz.underlying26 ti_34.h h9 rfl (a48.trans rfl) (a50.trans rfl))) ?_
   refine dx [51] [0] (λst mm ⟨a51,_⟩ ⟨g0,_⟩=>og (ldO (f:=Qc) [] (g0.trans rfl) (Qbh h9) (by exact rfl) off0 sh_34.h (by exact rfl) (by exact rfl) rfl (a51.trans rfl))) ?_
   refine zd [[],[100],[100]] ?_;refine dx [53,55] [0] (λst mm ⟨a53,a55,_⟩ ⟨g0,_⟩=>og (ixO (f:=Qc) (g0.trans rfl) Tryz.underlying26 ti_34.h h11 rfl (a53.trans rfl) (a55.trans rfl))) ?_
   refine dx [56] [0] (λst mm ⟨a56,_⟩ ⟨g0,_⟩=>og (ldO (f:=Qc) [] (g0.trans rfl) (Qbh h11) (by exact rfl) off0 sh_34.h (by exact rfl) (by exact rfl) rfl (a56.trans rfl))) ?_
   refine dd [] (λ_ _ _ _=>c0 (Qj1 _ h13)) ?_;refine zd [[],[],[102],[]] ?_;refine de fol ?_;refine z [4,8,10] ?_;exact rt [(0,0)]
 refine z [9,4,5] ?_;refine b λy14 h15=>?_;refine b λy16 h17=>?_;refine b λr18 h19=>?_;refine sd ?_;refine zd [[100],[100],[],[100],[100],[0],[0],[],[100],[100],[0],[0]] ?_;refine dd [] (λ_ _ _ _=>c0 (Qj1 _ h19)) ?_;refine zd [[],[],[102],[]] ?_;refine de fol ?_;refine z [4,8] ?_;exact rt [(0,0)]
theorem Qpq{n:Nat}{x0}{x1}{x2}:∀ r,Yk n x0 x1 x2=some r->FnOk Tryz.prog 130 [Jh x0,X4 x1,i64 x2] [] (.tup [sli 3 (List.map Qc r.1),i64 r.2.1,i64 r.2.2]) []:=by
 unfold Yk
 refine fs Tryz.func130 λw S0 γ hγ=>?_;refine z [2] ?_;refine o (bx' 100) ?_;refine o (bx' 101) ?_;refine s1 (asg rfl (kLm (k:=3) Qc)) ?_;refine z [31,31,1,2] ?_;refine so (asgN (y:=102) (E:=34) (k:=3) rfl rfl) ?_;refine z [1,5,2,31,1,7] ?_;refine sloopE 0 Lp.go (λs21=>[(2,i64 x2),(3,.own 100),(4,.own 101),(6,sli 3 (List.map Qc ([]:List Qa))),(7,i64 (0:Int)),(8,i64 (0:Int)),(9,.own 102),(10,i64 s21.2)]) (λs21=>[(100,.bx 25 (Jh x0)),(101,.bx 210 (X4 x1)),(102,.sl 34 3 (List.map Qc s21.1))]) (λt19=>[(6,sli 3 (List.map Qc ([]:List Qa))),(7,i64 (0:Int)),(8,i64 (0:Int)),(9,.own 102)]) (λt19=>[(102,.sl 34 3 (List.map Qc t19))]) (eR [(100,100),(101,101),(102,102)]) ?_ ?_
 . intro hj20 s21
   refine z [5,2,30,33,36,39,46,1] ?_;refine c ?_ ?_
   . refine z [9,4,5,7,5] ?_;refine b λy22 h23=>?_;refine b λr24 h25=>?_;refine sd ?_;refine zd [[100],[100],[],[],[],[101],[]] ?_;refine dd [102] (λ_ _ _ _=>cG (Qpp _ h25) [102] [] [102]) ?_;refine zd [[],[],[]] ?_;refine dd [103] (λ_ _ _ _=>al' 103) ?_;refine zd [[103],[]] ?_;refine de fol ?_;refine z [4,5,2,30,44,1] ?_;refine c ?_ ?_
     . refine z [2] ?_;refine so (bsl (y:=104) (ls:=List.map Qc ([]:List Qa)) Tryz.underlying26 ti_34.h rfl rfl rfl rfl rfl trivial rfl rfl) ?_;refine z [30,31,31,31,1,8,10,12,10] ?_;refine sU ?_;refine z [12,10] ?_;refine fz 104 [6,33] [] ?_;exact rt []
     refine z [9,4,5,2,32,30] ?_;refine cb (ca Qia) λr26=>?_;refine z [44,1] ?_;refine c ?_ ?_
     . refine z [2] ?_;refine so (bsl (y:=104) (ls:=List.map Qc ([]:List Qa)) Tryz.underlying26 ti_34.h rfl rfl rfl rfl rfl trivial rfl rfl) ?_;refine z [30,31,31,31,1,8,10,12,10] ?_;refine sU ?_;refine z [12,10] ?_;refine fz 104 [6,39] [] ?_;exact rt []
     refine z [9,4,6,30,32] ?_
     refine so (bsl (y:=104) (ls:=List.map Qc ([r24.1]:List Qa)) Tryz.underlying26 ti_34.h rfl rfl rfl rfl rfl ⟨rfl,rfl,(by exact rfl),(by exact rfl),trivial⟩ rfl rfl) ?_
     refine b λy28 h29=>?_;refine o (app' 105) ?_;refine z [31,3,11,4,6,30,40,31,3] ?_;exact sgo (eR [(100,100),(101,101),(102,105)])
   refine z [14,15] ?_;exact su (sj (hj20 _) (eR [(102,102)]))
 intro t19
 refine slpk ?_;refine z [13,4,2,30,31,31,31,1,8] ?_;refine fz 102 [6,9,45] [] ?_;exact rt []
theorem Qpr{n:Nat}{x0}{x1}:∀ r,Yl n x0 x1=some r->FnOk Tryz.prog 133 [Jh x0,sli 3 (List.map Qc x1)] [] (sli 3 (List.map Qc r)) []:=by
 unfold Yl
 refine fs Tryz.func133 λw S0 γ hγ=>?_;refine z [2] ?_;refine o (bx' 100) ?_;refine s1 (asg rfl (kLm (k:=3) Qc)) ?_;refine z [1,2] ?_;refine so (asgN (y:=101) (E:=34) (k:=3) rfl rfl) ?_;refine z [1,5,2,31,1,7] ?_;refine sloopE 0 (λt=>t) (λs17=>[(1,sli 3 (List.map Qc x1)),(2,.own 100),(4,sli 3 (List.map Qc ([]:List Qa))),(5,.own 101),(6,i64 s17.2)]) (λs17=>[(100,.bx 25 (Jh x0)),(101,.sl 34 3 (List.map Qc s17.1))]) (λt15=>[(4,sli 3 (List.map Qc ([]:List Qa))),(5,.own 101)]) (λt15=>[(101,.sl 34 3 (List.map Qc t15))]) (eR [(100,100),(101,101)]) ?_ ?_
 . intro hj16 s17
   refine z [5,2,30,33,36,39,46,1] ?_;refine c ?_ ?_
   . refine z [9,4,5,7,6,30,30,33,36,30] ?_;refine b λy18 h19=>?_;refine z [43,42] ?_;refine b λy20 h21=>?_;refine z [43,42] ?_
     refine so (bsl (y:=102) (ls:=List.map Qc ([y20]:List Qa)) Tryz.underlying26 ti_34.h rfl rfl rfl rfl rfl ⟨rfl,rfl,(by exact rfl),(by exact rfl),trivial⟩ rfl rfl) ?_
     refine b λy22 h23=>?_;refine o (app' 103) ?_;refine z [31,3,11,4,6,30,40,31,3] ?_;exact sgo (eR [(100,100),(101,103)])
   refine z [14,15] ?_;exact su (sj (hj16 _) (eR [(101,101)]))
 intro t15
 refine z [13,4,2,30,31,1,8] ?_;refine fz 101 [4,5,25] [] ?_;exact rt []
theorem Qnh{n:Nat}{x0}{x1}{x2}{x3}:∀ r,Y8 n x0 x1 x2 x3=some r->FnOk Tryz.prog 193 [sli 3 (List.map Qc x0),.own 0,i64 x2,Qc x3] [(0,.sl 26 1 (List.map Qi x1))] (Qc r) [(0,.sl 26 1 (List.map Qi x1))]:=by
 unfold Y8
 refine fs Tryz.func193 λw S0 γ hγ=>?_;refine z [2] ?_;refine o (bx' 100) ?_;refine o (al' 101) ?_;refine z [1,2] ?_;refine cb (ca V4) λr1=>?_;refine o (al' 102) ?_;refine z [34,1,5,2,31,1,7] ?_;refine sloopE 0 (λt=>t) (λs69=>[(0,sli 3 (List.map Qc x0)),(1,.own 0),(2,i64 x2),(7,.own 100),(8,.own 101),(9,.own 102),(10,i64 s69.2)]) (λs69=>[(0,.sl 26 1 (List.map Qi x1)),(100,.bx 34 (Qc x3)),(101,.bx 34 (Qc (⟨false,[],[]⟩:Qa))),(102,.bx 34 (Qc s69.1))]) (λt67=>[(7,.own 100),(8,.own 101),(9,.own 102)]) (λt67=>[(0,.sl 26 1 (List.map Qi x1)),(100,.bx 34 (Qc x3)),(101,.bx 34 (Qc (⟨false,[],[]⟩:Qa))),(102,.bx 34 (Qc t67))]) (eR [(0,0),(100,100),(101,101),(102,102)]) ?_ ?_
 . intro hj68 s69
   refine z [5,2,30,30,39,46,1] ?_;refine c ?_ ?_
   . refine z [9,4] ?_;refine sjq (λs86=>[(0,sli 3 (List.map Qc x0)),(1,.own 0),(2,i64 x2),(7,.own 100),(8,.own 101),(9,.own 102),(10,i64 s69.2)]) (λs86=>[(0,.sl 26 1 (List.map Qi x1)),(100,.bx 34 (Qc x3)),(101,.bx 34 (Qc (⟨false,[],[]⟩:Qa))),(102,.bx 34 (Qc s86))]) ?_ ?_
     . intro j84 hj85
       refine z [7,2,30,30] ?_;refine b λy87 h88=>?_;refine z [43,42] ?_;refine cb (ca Qb0) λr89=>?_;refine z [44,1] ?_;refine c ?_ ?_
       . refine b λy91 h92=>?_;refine b λy93 h94=>?_;refine b λy95 h96=>?_;refine b λr97 h98=>?_;refine b λr99 h100=>?_;refine sd ?_;refine zd [[102],[],[],[],[],[],[],[0],[0],[],[],[]] ?_;refine dd [] (λ_ _ _ _=>c0 (Wy _ h98)) ?_;refine dd [] (λ_ _ _ _=>c0 (Wx _ h100)) ?_;refine zd [[102]] ?_;refine de fol ?_;refine z [11,4] ?_;exact sj (hj85 _) (eR [(0,0),(100,100),(101,101),(102,102)])
       refine z [9,11,4] ?_;exact sj (hj85 _) (eR [(0,0),(100,100),(101,101),(102,102)])
     intro s86
     refine z [6,30,40,31,3] ?_;exact sgo (eR [(0,0),(100,100),(101,101),(102,102)])
   refine z [14,15] ?_;exact su (sj (hj68 _) (eR [(0,0),(100,100),(101,101),(102,102)]))
 intro t67
 refine z [13,4,2,32,32] ?_;refine cb (ca Wy) λr101=>?_;refine z [34,1,8] ?_;exact rt [(0,0)]
theorem Qct{n:Nat}{x0}{x1}{x2}{x3}:∀ r,Ku n x0 x1 x2 x3=some r->FnOk Tryz.prog 128 [sli 3 (List.map Qc x0),sli 3 (List.map Qc x1),.own 0,Qc x3] [(0,.sl 26 1 (List.map Qi x2))] (sli 3 (List.map Qc r)) [(0,.sl 26 1 (List.map Qi x2))]:=by
 unfold Ku
 refine fs Tryz.func128 λw S0 γ hγ=>?_;refine z [2] ?_;refine o (bx' 100) ?_;refine s1 (asg rfl (kLm (k:=3) Qc)) ?_;refine z [1,2] ?_;refine so (asgN (y:=101) (E:=34) (k:=3) rfl rfl) ?_;refine z [1,5,2,31,1,7] ?_;refine sloopE 0 (λt=>t) (λs21=>[(0,sli 3 (List.map Qc x0)),(1,sli 3 (List.map Qc x1)),(2,.own 0),(7,.own 100),(8,sli 3 (List.map Qc ([]:List Qa))),(9,.own 101),(10,i64 s21.2)]) (λs21=>[(0,.sl 26 1 (List.map Qi x2)),(100,.bx 34 (Qc x3)),(101,.sl 34 3 (List.map Qc s21.1))]) (λt19=>[(8,sli 3 (List.map Qc ([]:List Qa))),(9,.own 101)]) (λt19=>[(0,.sl 26 1 (List.map Qi x2)),(101,.sl 34 3 (List.map Qc t19))]) (eR [(0,0),(100,100),(101,101)]) ?_ ?_
 . intro hj20 s21
   refine z [5,2,30,30,39,46,1] ?_;refine c ?_ ?_
   . refine z [9,4,5,7] ?_;refine b λy22 h23=>?_;refine b λr24 h25=>?_;refine b λr26 h27=>?_;refine b λy28 h29=>?_;refine sd ?_;refine zd [[],[],[],[],[],[],[],[],[100]] ?_;refine dd [0] (λ_ _ _ _=>cG (Qnh _ h25) [0] [] [0]) ?_;refine dd [] (λ_ _ _ _=>c0 (Wx _ h27)) ?_
     refine dx [27] [102] (λst mm ⟨a27,_⟩ ⟨g102,_⟩=>og (bsl (y:=102) (ls:=List.map Qc ([r26]:List Qa)) Tryz.underlying26 ti_34.h rfl rfl rfl rfl rfl ⟨rfl,(a27.trans rfl),(by exact rfl),(by exact rfl),trivial⟩ (g102.trans rfl) rfl)) ?_
     refine dd [101,102,103] (λ_ _ _ _=>app' 103) ?_;refine zd [[]] ?_;refine de fol ?_;refine z [11,4,6,30,40,31,3] ?_;exact sgo (eR [(0,0),(100,100),(101,103)])
   refine z [14,15] ?_;exact su (sj (hj20 _) (eR [(0,0),(101,101)]))
 intro t19
 refine z [13,4,2,30,31,1,8] ?_;refine fz 101 [8,9,30] [] ?_;exact rt [(0,0)]
theorem Qps{n:Nat}{x0}:∀ r,Ym n x0=some r->FnOk Tryz.prog 134 [i64 x0] [] (.own 50) [(50,.sl 34 3 (List.map Qc r))]:=by
 unfold Ym
 refine fs Tryz.func134 λw S0 γ hγ=>?_;refine z [2] ?_;refine s1 (asg rfl (kLm (k:=3) Qc)) ?_;refine z [1,2] ?_;refine so (asgN (y:=100) (E:=34) (k:=3) rfl rfl) ?_;refine z [1,5,2,31,1,7] ?_;refine sloopE 0 (λt=>t) (λs19=>[(0,i64 x0),(2,sli 3 (List.map Qc ([]:List Qa))),(3,.own 100),(4,i64 s19.2)]) (λs19=>[(100,.sl 34 3 (List.map Qc s19.1))]) (λt17=>[(2,sli 3 (List.map Qc ([]:List Qa))),(3,.own 100)]) (λt17=>[(100,.sl 34 3 (List.map Qc t17))]) (eR [(100,100)]) ?_ ?_
 . intro hj18 s19
   refine z [5] ?_;refine sjq (λs22=>[(0,i64 x0),(2,sli 3 (List.map Qc ([]:List Qa))),(3,.own 100),(4,i64 s19.2),(11,bl s22)]) (λs22=>[(100,.sl 34 3 (List.map Qc s19.1))]) ?_ ?_
   . intro j20 hj21
     refine z [6,30,30,46,30] ?_;refine sifd 8 rfl ?_ ?_
     . refine z [22,22,38,1] ?_;exact sj (hj21 _) (eR [(100,100)])
     refine z [23,23,37,1] ?_;exact sj (hj21 _) (eR [(100,100)])
   intro s22
   refine c ?_ ?_
   . refine z [9,4,5,7,6,30] ?_;refine cb (ca V4) λr23=>?_
     refine so (bsl (y:=101) (ls:=List.map Qc ([r23]:List Qa)) Tryz.underlying26 ti_34.h rfl rfl rfl rfl rfl ⟨rfl,rfl,(by exact rfl),(by exact rfl),trivial⟩ rfl rfl) ?_
     refine b λy25 h26=>?_;refine o (app' 102) ?_;refine z [31,3,11,4,6,30,40,31,3] ?_;exact sgo (eR [(100,102)])
   refine z [14,15] ?_;exact su (sj (hj18 _) (eR [(100,100)]))
 intro t17
 refine z [13,4,2,30,31,1,8] ?_;exact rt [(50,100)]
theorem Qqc{n:Nat}{x0}:∀ r,Y1 n x0=some r->FnOk Tryz.prog 135 [Q8 x0] [] (sli 3 (List.map Qc r)) []:=by
 unfold Y1
 refine fs Tryz.func135 λw S0 γ hγ=>?_;refine z [2] ?_;refine o (bx' 100) ?_;refine s1 (asg rfl (kLm (k:=3) Qc)) ?_;refine z [1,2] ?_;refine so (asgN (y:=101) (E:=34) (k:=3) rfl rfl) ?_;refine z [1,5,2,31,1,7] ?_;refine sloopE 0 (λt=>t) (λs27=>[(1,.own 100),(2,sli 3 (List.map Qc ([]:List Qa))),(3,.own 101),(4,i64 s27.2)]) (λs27=>[(100,.bx 29 (Q8 x0)),(101,.sl 34 3 (List.map Qc s27.1))]) (λt25=>[(2,sli 3 (List.map Qc ([]:List Qa))),(3,.own 101)]) (λt25=>[(101,.sl 34 3 (List.map Qc t25))]) (eR [(100,100),(101,101)]) ?_ ?_
 . intro hj26 s27
   refine z [5] ?_;refine sjq (λs30=>[(1,.own 100),(2,sli 3 (List.map Qc ([]:List Qa))),(3,.own 101),(4,i64 s27.2),(16,bl s30)]) (λs30=>[(100,.bx 29 (Q8 x0)),(101,.sl 34 3 (List.map Qc s27.1))]) ?_ ?_
   . intro j28 hj29
     refine z [6,30,33,36,39,46,30] ?_;refine sifd 10 rfl ?_ ?_
     . refine z [22,22,22,22,22,38,1] ?_;exact sj (hj29 _) (eR [(100,100),(101,101)])
     refine z [23,23,23,23,23,37,1] ?_;exact sj (hj29 _) (eR [(100,100),(101,101)])
   intro s30
   refine c ?_ ?_
   . refine z [9,4,5,7] ?_;refine b λy31 h32=>?_;refine b λy33 h34=>?_;refine b λr35 h36=>?_;refine b λy37 h38=>?_;refine sd ?_;refine zd [[],[100],[100],[],[],[],[100],[100],[],[],[]] ?_;refine dd [] (λ_ _ _ _=>c0 (Qcb _ h36)) ?_
     refine dx [30] [102] (λst mm ⟨a30,_⟩ ⟨g102,_⟩=>og (bsl (y:=102) (ls:=List.map Qc ([r35]:List Qa)) Tryz.underlying26 ti_34.h rfl rfl rfl rfl rfl ⟨rfl,(a30.trans rfl),(by exact rfl),(by exact rfl),trivial⟩ (g102.trans rfl) rfl)) ?_
     refine dd [101,102,103] (λ_ _ _ _=>app' 103) ?_;refine zd [[]] ?_;refine de fol ?_;refine z [11,4,6,30,40,31,3] ?_;exact sgo (eR [(100,100),(101,103)])
   refine z [14,15] ?_;exact su (sj (hj26 _) (eR [(101,101)]))
 intro t25
 refine z [13,4,2,30,31,1,8] ?_;refine fz 101 [2,3,33] [] ?_;exact rt []
theorem Qrh{n:Nat}{x0}{x1}{x2}{x3}:∀ r,Zf n x0 x1 x2 x3=some r->FnOk Tryz.prog 71 [Kd x0,Qc x1,Qc x2,sli 3 (List.map Qc x3)] [] (.tup [Yn r.1,Qkp r.2]) []:=by
 unfold Zf
 refine fs Tryz.func71 λw S0 γ hγ=>?_;refine z [2] ?_;refine o (bx' 100) ?_;refine o (bx' 101) ?_;refine o (bx' 102) ?_;refine o (al' 103) ?_;refine o (al' 104) ?_;refine z [1,2,33,36] ?_;refine cb (ca Qn9) λr1=>?_;refine z [31,1,2] ?_;refine so (bldO (l:=[.own 105,.own 106,sli 3 (List.map Qc []),sli 3 (List.map Qc [])]) [(105,26,1),(106,26,1)] Qsn.h Qm5.h (Qle (Kz (c1:=[.slice none 0 0]) (Qht rfl) (Kz (c1:=[.slice none 0 0]) (Qht rfl) (Kz (c1:=[.slice none 0 0]) (zo_of (J6 (k:=3))) (Kz (c1:=[.slice none 0 0]) (zo_of (J6 (k:=3))) (Qiu)))))) ⟨rfl,rfl,trivial⟩ rfl rfl rfl) ?_;refine o (al' 107) ?_;refine z [34,1,2,33,45,36,39,31,1,5,2,31,1,7] ?_;refine sloopE 0 Lp.go (λs43=>[(3,sli 3 (List.map Qc x3)),(4,.own 100),(5,.own 101),(6,.own 102),(8,.own 103),(9,.own 104),(10,i64 r1),(11,.own 107),(12,i64 (x0.Scheme.B.length:Int)),(13,i64 s43.2.2)]) (λs43=>[(100,.bx 31 (Kd x0)),(101,.bx 34 (Qc x1)),(102,.bx 34 (Qc x2)),(103,.bx 137 (Yn (⟨[],[],[],[]⟩:Q9))),(104,.bx 138 (Qkp (⟨0,0,0⟩:Yr))),(107,.bx 137 (.agg [.own 105,.own 106,sli 3 (List.map Qc []),sli 3 (List.map Qc [])])),(105,.sl 26 1 (List.map Qi s43.1)),(106,.sl 26 1 (List.map Qi s43.2.1))]) (λt41=>[(3,sli 3 (List.map Qc x3)),(4,.own 100),(6,.own 102),(8,.own 103),(9,.own 104),(10,i64 r1),(11,.own 107),(12,i64 (x0.Scheme.B.length:Int))]) (λt41=>[(100,.bx 31 (Kd x0)),(102,.bx 34 (Qc x2)),(103,.bx 137 (Yn (⟨[],[],[],[]⟩:Q9))),(104,.bx 138 (Qkp (⟨0,0,0⟩:Yr))),(107,.bx 137 (.agg [.own 105,.own 106,sli 3 (List.map Qc []),sli 3 (List.map Qc [])])),(105,.sl 26 1 (List.map Qi t41.1)),(106,.sl 26 1 (List.map Qi t41.2))]) (eR [(100,100),(101,101),(102,102),(103,103),(104,104),(107,107),(105,105),(106,106)]) ?_ ?_
 . intro hj42 s43
   refine z [5,2,30,30,46,1] ?_;refine c ?_ ?_
   . refine z [9,4,5,7,5] ?_;refine b λy44 h45=>?_;refine b λr46 h47=>?_;refine sd ?_;refine zd [[],[100],[],[100],[],[],[],[107],[107],[102]] ?_;refine dd [106] (λ_ _ _ _=>cG (Qct _ h47) [106] [] [106]) ?_;refine zd [[]] ?_;refine de fol ?_;refine z [4,2,30,30] ?_;refine cb (ca Qfb) λr48=>?_;refine z [31,1,5,2,30,30,39,46,1] ?_;refine c ?_ ?_
     . refine z [2] ?_;refine s1 (bld (l:=[sli 1 (List.map Qi []),sli 1 (List.map Qi []),sli 3 (List.map Qc []),sli 3 (List.map Qc [])]) Qsn.h Qm5.h Zw rfl rfl) ?_;refine z [30,30,40] ?_;refine s1 (bldA (l:=[i64 (6:Int),i64 s43.2.2,i64 (wrap64 ((300:Int)+r48))]) Tryz.underlying138 Qm6.h ti_3.h Qix rfl ⟨_,_,_,(kI (x:=6) rfl),rfl,rfl,rfl,rfl,rfl,⟨_,_,_,rfl,rfl,rfl,rfl,rfl,rfl,⟨_,_,_,rfl,rfl,rfl,rfl,rfl,rfl,rfl⟩⟩⟩ rfl) ?_;refine z [34,34,1,8,10,12,10] ?_;refine sU ?_;refine z [12,10] ?_;exact rt []
     refine z [9,4,5] ?_;refine b λr50 h51=>?_;refine b λr52 h53=>?_;refine b λr54 h55=>?_;refine sd ?_;refine zd [[100],[100],[100],[100],[101],[102],[]] ?_;refine dd [] (λ_ _ _ _=>c0 (Qng _ h51)) ?_;refine zd [[]] ?_;refine dd [] (λ_ _ _ _=>c0 (Qoa _ h53)) ?_;refine zd [[]] ?_;refine dd [] (λ_ _ _ _=>c0 (Qpq _ h55)) ?_;refine zd [[],[],[],[],[],[],[]] ?_;refine de fol ?_;refine z [4,5,2,30,56,1] ?_;refine c ?_ ?_
     . refine z [2] ?_;refine s1 (bld (l:=[sli 1 (List.map Qi []),sli 1 (List.map Qi []),sli 3 (List.map Qc []),sli 3 (List.map Qc [])]) Qsn.h Qm5.h Zw rfl rfl) ?_;refine z [30,30,30] ?_;refine s1 (bldA (l:=[i64 r54.2.1,i64 s43.2.2,i64 r54.2.2]) Tryz.underlying138 Qm6.h ti_3.h Qix rfl ⟨_,_,_,rfl,rfl,rfl,rfl,rfl,rfl,⟨_,_,_,rfl,rfl,rfl,rfl,rfl,rfl,⟨_,_,_,rfl,rfl,rfl,rfl,rfl,rfl,rfl⟩⟩⟩ rfl) ?_;refine z [34,34,1,8,10,12,10] ?_;refine sU ?_;refine z [12,10] ?_;exact rt []
     refine z [9,4,2,33,36,30] ?_
     refine so (bsl (y:=108) (ls:=List.map Qi ([r46]:List (List Qa))) Tryz.underlying27 ti_26.h rfl rfl rfl rfl rfl ⟨rfl,rfl,(by exact rfl),(by exact rfl),trivial⟩ rfl rfl) ?_
     refine b λy56 h57=>?_;refine o (app' 109) ?_;refine z [33] ?_;refine o (stP (.agg [.own 109,.own 106,sli 3 (List.map Qc []),sli 3 (List.map Qc [])]) [0]) ?_;refine z [1] ?_;refine b λr58 h59=>?_;refine b λy60 h61=>?_;refine sd ?_;refine zd [[107],[107],[100],[100],[]] ?_;refine dd [] (λ_ _ _ _=>c0 (Qpr _ h59)) ?_
     refine dx [90] [110] (λst mm ⟨a90,_⟩ ⟨g110,_⟩=>og (bsl (y:=110) (ls:=List.map Qi ([r58]:List (List Qa))) Tryz.underlying27 ti_26.h rfl rfl rfl rfl rfl ⟨rfl,(a90.trans rfl),(by exact rfl),(by exact rfl),trivial⟩ (g110.trans rfl) rfl)) ?_
     refine dd [106,110,111] (λ_ _ _ _=>app' 111) ?_;refine zd [[107]] ?_;refine dd [107] (λ_ _ _ _=>stP (.agg [.own 109,.own 111,sli 3 (List.map Qc []),sli 3 (List.map Qc [])]) [1]) ?_;refine de fol ?_;refine z [11,4,6,30,40,31,3] ?_;exact sgo (eR [(100,100),(101,101),(102,102),(103,103),(104,104),(107,107),(105,109),(106,111)])
   refine z [14,15] ?_;exact su (sj (hj42 _) (eR [(100,100),(102,102),(103,103),(104,104),(107,107),(105,105),(106,106)]))
 intro t41
 refine slpk ?_;refine z [13,4,2,30,33,45,36,33,36,32] ?_;refine b λr62 h63=>?_;refine o (cG (Qct _ h63) [106] [] [106]) ?_;refine z [33] ?_;refine o (stP (.agg [.own 105,.own 106,sli 3 (List.map Qc r62),sli 3 (List.map Qc [])]) [2]) ?_;refine z [1,2,33,36,30] ?_;refine cb (ca Qfb) λr64=>?_;refine z [31,1,5,2,30,33,36,39,46,1] ?_;refine c ?_ ?_
 . refine z [2] ?_;refine s1 (bld (l:=[sli 1 (List.map Qi []),sli 1 (List.map Qi []),sli 3 (List.map Qc []),sli 3 (List.map Qc [])]) Qsn.h Qm5.h Zw rfl rfl) ?_;refine z [30,30,40] ?_;refine s1 (bldA (l:=[i64 (6:Int),i64 (x0.Scheme.B.length:Int),i64 (wrap64 ((300:Int)+r64))]) Tryz.underlying138 Qm6.h ti_3.h Qix rfl ⟨_,_,_,(kI (x:=6) rfl),rfl,rfl,rfl,rfl,rfl,⟨_,_,_,rfl,rfl,rfl,rfl,rfl,rfl,⟨_,_,_,rfl,rfl,rfl,rfl,rfl,rfl,rfl⟩⟩⟩ rfl) ?_;refine z [34,34,1,8,10] ?_;exact rt []
 refine z [9,4] ?_;refine sjq (λs78=>[(8,.own 103),(9,.own 104),(10,i64 r1),(11,.own 107),(12,i64 (x0.Scheme.B.length:Int))]) (λs78=>[(103,.bx 137 (Yn (⟨[],[],[],[]⟩:Q9))),(104,.bx 138 (Qkp (⟨0,0,0⟩:Yr))),(107,.bx 137 (.agg [.own 105,.own 106,sli 3 (List.map Qc r62),sli 3 (List.map Qc s78)])),(105,.sl 26 1 (List.map Qi t41.1)),(106,.sl 26 1 (List.map Qi t41.2))]) ?_ ?_
 . intro j76 hj77
   refine z [2,33,45,36,39,47,1] ?_;refine c ?_ ?_
   . refine b λr79 h80=>?_;refine b λr81 h82=>?_;refine b λr83 h84=>?_;refine sd ?_;refine zd [[],[]] ?_;refine dd [108] (λ_ _ _ _=>tV (cG (Qps _ h80) [] [(108,50)] [])) ?_;refine zd [[100],[100]] ?_;refine dd [] (λ_ _ _ _=>c0 (Qqc _ h82)) ?_;refine zd [[107],[107],[102]] ?_;refine dd [106] (λ_ _ _ _=>cG (Qct _ h84) [106] [] [106]) ?_;refine zd [[107]] ?_;refine dd [107] (λ_ _ _ _=>stP (.agg [.own 105,.own 106,sli 3 (List.map Qc r62),sli 3 (List.map Qc r83)]) [3]) ?_;refine de fol ?_;refine z [4] ?_;exact sj (hj77 _) (eR [(103,103),(104,104),(107,107),(105,105),(106,106)])
   refine z [9,4] ?_;exact sj (hj77 _) (eR [(103,103),(104,104),(107,107),(105,105),(106,106)])
 intro s78
 refine z [2,33,36,30] ?_;refine cb (ca Qfb) λr85=>?_;refine z [31,1,5,2,30,33,36,39,46,1] ?_;refine c ?_ ?_
 . refine z [2] ?_;refine s1 (bld (l:=[sli 1 (List.map Qi []),sli 1 (List.map Qi []),sli 3 (List.map Qc []),sli 3 (List.map Qc [])]) Qsn.h Qm5.h Zw rfl rfl) ?_;refine z [30,40,30,40] ?_;refine s1 (bldA (l:=[i64 (6:Int),i64 (wrap64 ((x0.Scheme.B.length:Int)+(1:Int))),i64 (wrap64 ((300:Int)+r85))]) Tryz.underlying138 Qm6.h ti_3.h Qix rfl ⟨_,_,_,(kI (x:=6) rfl),rfl,rfl,rfl,rfl,rfl,⟨_,_,_,rfl,rfl,rfl,rfl,rfl,rfl,⟨_,_,_,rfl,rfl,rfl,rfl,rfl,rfl,rfl⟩⟩⟩ rfl) ?_;refine z [34,34,1,8,10] ?_;exact rt []
 refine z [9,4,2,32] ?_;refine s1 (bldA (l:=[i64 0,i64 0,i64 0]) Tryz.underlying138 Qm6.h ti_3.h Qix rfl rfl rfl) ?_;refine z [34,34,1,8] ?_;refine fz 105 [148] [103,107] ?_;refine fz 106 [148] [103,107] ?_;exact rt []
theorem Qqd{x0}:∀ r,Qap x0=some r->FnOk Tryz.prog 136 [Qc x0] [] (Qc r) []:=by
 unfold Qap
 refine fs Tryz.func136 λw S0 γ hγ=>?_;refine z [2] ?_;refine o (bx' 100) ?_;refine o (al' 101) ?_;refine z [1,2,33,36,33,36] ?_;refine s1 (bld (l:=[bl false,sli 1 (List.map u32 x0.N),sli 1 (List.map u32 x0.D)]) pl_34.h ti_34.h Qu ⟨_,_,_,rfl,rfl,rfl,rfl,(szk (k:=1) rfl rfl),⟨_,_,_,rfl,rfl,rfl,rfl,(szk (k:=1) rfl rfl),rfl⟩⟩ rfl) ?_;refine z [34,1,8] ?_;exact rt []
theorem Qqe{n:Nat}{x0}:∀ r,Y2 n x0=some r->FnOk Tryz.prog 72 [sli 3 (List.map Qc x0)] [] (Qc r) []:=by
 unfold Y2
 refine fs Tryz.func72 λw S0 γ hγ=>?_;refine z [2] ?_;refine o (al' 100) ?_;refine z [1,2] ?_;refine cb (ca V4) λr1=>?_;refine o (al' 101) ?_;refine z [34,1,5,2,31,1,7] ?_;refine sloopE 0 (λt=>t) (λs37=>[(0,sli 3 (List.map Qc x0)),(2,.own 100),(3,.own 101),(4,i64 s37.2)]) (λs37=>[(100,.bx 34 (Qc (⟨false,[],[]⟩:Qa))),(101,.bx 34 (Qc s37.1))]) (λt35=>[(2,.own 100),(3,.own 101)]) (λt35=>[(100,.bx 34 (Qc (⟨false,[],[]⟩:Qa))),(101,.bx 34 (Qc t35))]) (eR [(100,100),(101,101)]) ?_ ?_
 . intro hj36 s37
   refine z [5,2,30,30,39,46,1] ?_;refine c ?_ ?_
   . refine z [9,4] ?_;refine sjq (λs46=>[(0,sli 3 (List.map Qc x0)),(2,.own 100),(3,.own 101),(4,i64 s37.2)]) (λs46=>[(100,.bx 34 (Qc (⟨false,[],[]⟩:Qa))),(101,.bx 34 (Qc s46))]) ?_ ?_
     . intro j44 hj45
       refine z [7,2,30,30] ?_;refine b λy47 h48=>?_;refine z [43,42] ?_;refine cb (ca Qqd) λr49=>?_;refine o (al' 102) ?_;refine z [34,1,2,32,32] ?_;refine cb (ca Vm) λr51=>?_;refine z [47,1] ?_;refine c ?_ ?_
       . refine z [6,32,34,3,11,4] ?_;exact sj (hj45 _) (eR [(100,100),(101,101)])
       refine z [9,11,4] ?_;exact sj (hj45 _) (eR [(100,100),(101,101)])
     intro s46
     refine z [6,30,40,31,3] ?_;exact sgo (eR [(100,100),(101,101)])
   refine z [14,15] ?_;exact su (sj (hj36 _) (eR [(100,100),(101,101)]))
 intro t35
 refine z [13,4,2,32,34,1,8] ?_;exact rt []
theorem Qri{x0}:∀ r,Qcs x0=some r->FnOk Tryz.prog 198 [Qc x0] [] (Qx r) []:=by
 unfold Qcs
 refine fs Tryz.func198 λw S0 γ hγ=>?_;refine z [2] ?_;refine o (bx' 100) ?_;refine o (al' 101) ?_;refine z [1,2,33,36,33,36] ?_;refine s1 (bld (l:=[bl x0.Neg,sli 1 (List.map u32 x0.N)]) Qf0.h Qd4.h J0 ⟨_,_,_,rfl,rfl,rfl,rfl,(szk (k:=1) rfl rfl),⟨_,_,_,rfl,rfl,rfl,rfl,(szk (k:=1) rfl rfl),rfl⟩⟩ rfl) ?_;refine z [34,1,8] ?_;exact rt []
theorem Qqf{n:Nat}{x0}{x1}:∀ r,Qb8 n x0 x1=some r->FnOk Tryz.prog 242 [Qx x0,Qx x1] [] (Qx r) []:=by
 unfold Qb8
 refine fs Tryz.func242 λw S0 γ hγ=>?_;refine z [2] ?_;refine o (bx' 100) ?_;refine o (bx' 101) ?_;refine o (al' 102) ?_;refine z [1,5] ?_;refine b λr1 h2=>?_;refine b λr3 h4=>?_;refine sd ?_;refine zd [[100],[100],[101],[101],[],[100],[100],[101],[101]] ?_;refine dd [] (λ_ _ _ _=>c0 (V3 _ h2)) ?_;refine dx [9,14] [] (λst mm ⟨a9,a14,_⟩ _=>og (bld (l:=[bl (x0.Neg != x1.Neg),sli 1 (List.map u32 r1)]) Qf0.h Qd4.h J0 ⟨_,_,_,(a9.trans rfl),rfl,rfl,rfl,(szk (k:=1) rfl rfl),⟨_,_,_,(a14.trans rfl),rfl,rfl,rfl,(szk (k:=1) rfl rfl),rfl⟩⟩ rfl)) ?_;refine dd [] (λ_ _ _ _=>c0 (Xe _ h4)) ?_;refine zd [[102]] ?_;refine de fol ?_;refine z [4,8] ?_;exact rt []
theorem Qqg{n:Nat}{x0}:∀ r,Qb9 n x0=some r->FnOk Tryz.prog 241 [Qx x0] [] (Qx r) []:=by
 unfold Qb9
 refine fs Tryz.func241 λw S0 γ hγ=>?_;refine z [2] ?_;refine o (bx' 100) ?_;refine o (al' 101) ?_;refine z [1,2,33,36,44,33,36] ?_;refine s1 (bld (l:=[bl (!x0.Neg),sli 1 (List.map u32 x0.Abs)]) Qf0.h Qd4.h J0 ⟨_,_,_,rfl,rfl,rfl,rfl,(szk (k:=1) rfl rfl),⟨_,_,_,rfl,rfl,rfl,rfl,(szk (k:=1) rfl rfl),rfl⟩⟩ rfl) ?_;refine cb (ca Xe) λr1=>?_;refine z [34,1,8] ?_;exact rt []
theorem Qob{n:Nat}{x0}{x1}:∀ r,Qbm n x0 x1=some r->FnOk Tryz.prog 197 [Qx x0,Qx x1] [] (.tup [Qx r.1,Qx r.2]) []:=by
 unfold Qbm
 refine fs Tryz.func197 λw S0 γ hγ=>?_;refine z [2] ?_;refine o (bx' 100) ?_;refine o (bx' 101) ?_;refine o (al' 102) ?_;refine o (al' 103) ?_;refine z [1,2,33,36,33,36] ?_;refine cb (ca Qi1) λr1=>?_;refine z [30,35,35,31,31,1] ?_;refine sjq (λs10=>[(2,.own 100),(3,.own 101),(4,.own 102),(5,.own 103),(6,sli 1 (List.map u32 s10))]) (λs10=>[(100,.bx 216 (Qx x0)),(101,.bx 216 (Qx x1)),(102,.bx 216 (Qx (⟨false,[]⟩:Qk))),(103,.bx 216 (Qx (⟨false,[]⟩:Qk)))]) ?_ ?_
 . intro j8 hj9
   refine sjq (λs13=>[(2,.own 100),(3,.own 101),(4,.own 102),(5,.own 103),(6,sli 1 (List.map u32 r1.1)),(26,bl s13)]) (λs13=>[(100,.bx 216 (Qx x0)),(101,.bx 216 (Qx x1)),(102,.bx 216 (Qx (⟨false,[]⟩:Qk))),(103,.bx 216 (Qx (⟨false,[]⟩:Qk)))]) ?_ ?_
   . intro j11 hj12
     refine z [6,33,36,33,36,75,30] ?_;refine sifd 22 rfl ?_ ?_
     . refine z [22,22,22,38,1] ?_;exact sj (hj12 _) (eR [(100,100),(101,101),(102,102),(103,103)])
     refine z [23,23,23,37,1] ?_;exact sj (hj12 _) (eR [(100,100),(101,101),(102,102),(103,103)])
   intro s13
   refine c ?_ ?_
   . refine z [6,30] ?_
     refine so (bsl (y:=104) (ls:=List.map u32 ([1]:List Nat)) Tryz.underlying32 K6.h rfl rfl rfl rfl rfl ⟨rfl,(k32 (x:=1) rfl),(by exact rfl),(by exact rfl),trivial⟩ rfl rfl) ?_
     refine fz 104 [28] [] ?_;refine cb (ca Qe9) λr14=>?_;refine z [31,1] ?_;exact sj (hj9 _) (eR [(100,100),(101,101),(102,102),(103,103)])
   refine z [9,4] ?_;exact sj (hj9 _) (eR [(100,100),(101,101),(102,102),(103,103)])
 intro s10
 refine z [2,33,36,33,36,75,30] ?_;refine s1 (bld (l:=[bl (x0.Neg != x1.Neg),sli 1 (List.map u32 s10)]) Qf0.h Qd4.h J0 ⟨_,_,_,rfl,rfl,rfl,rfl,(szk (k:=1) rfl rfl),⟨_,_,_,rfl,rfl,rfl,rfl,(szk (k:=1) rfl rfl),rfl⟩⟩ rfl) ?_;refine cb (ca Xe) λr16=>?_;refine o (al' 105) ?_;refine z [34,1,5] ?_;refine b λr18 h19=>?_;refine b λr20 h21=>?_;refine b λr22 h23=>?_;refine sd ?_;refine zd [[105],[100],[105],[101]] ?_;refine dd [] (λ_ _ _ _=>c0 (Qqf _ h19)) ?_;refine dd [] (λ_ _ _ _=>c0 (Qqg _ h21)) ?_;refine dd [] (λ_ _ _ _=>c0 (Qi3 _ h23)) ?_;refine zd [[102],[103]] ?_;refine de fol ?_;refine z [4,8] ?_;exact rt []
theorem Qoc{n:Nat}{x0}:∀ r,Zv n x0=some r->FnOk Tryz.prog 141 [Qc x0] [] (Qx r) []:=by
 unfold Zv
 refine fs Tryz.func141 λw S0 γ hγ=>?_;refine z [2] ?_;refine o (bx' 100) ?_;refine o (al' 101) ?_;refine z [1,5] ?_;refine b λr1 h2=>?_;refine b λr3 h4=>?_;refine sd ?_;refine zd [[100]] ?_;refine dd [] (λ_ _ _ _=>c0 (Qri _ h2)) ?_;refine zd [[100],[100]] ?_;refine dx [9] [] (λst mm ⟨a9,_⟩ _=>og (bld (l:=[bl false,sli 1 (List.map u32 x0.D)]) Qf0.h Qd4.h J0 ⟨_,_,_,(a9.trans rfl),rfl,rfl,rfl,(szk (k:=1) rfl rfl),rfl⟩ rfl)) ?_;refine dd [] (λ_ _ _ _=>c0 (Qob _ h4)) ?_;refine zd [[],[],[]] ?_;refine dd [102] (λ_ _ _ _=>al' 102) ?_;refine dd [103] (λ_ _ _ _=>al' 103) ?_;refine zd [[102],[103]] ?_;refine de fol ?_;refine z [4,2,32,34,1,8] ?_;exact rt []
theorem Qni{n:Nat}{x0}{x1}:∀ r,Xt n x0 x1=some r->FnOk Tryz.prog 75 [Kg x0,Qc x1] [] (Qc r) []:=by
 unfold Xt
 refine fs Tryz.func75 λw S0 γ hγ=>?_;refine z [2] ?_;refine o (bx' 100) ?_;refine o (bx' 101) ?_;refine o (al' 102) ?_;refine z [1,5,2,32] ?_;refine cb (ca Qb0) λr1=>?_;refine z [1] ?_;refine c ?_ ?_
 . refine z [2,33,36,34,1,8,10] ?_;exact rt []
 refine z [9,4,2,33,36] ?_;refine cb (ca V4) λr3=>?_;refine o (al' 103) ?_;refine z [34,1,5] ?_;refine b λr5 h6=>?_;refine b λr7 h8=>?_;refine b λr9 h10=>?_;refine sd ?_;refine zd [[100],[100],[100],[100]] ?_;refine dd [] (λ_ _ _ _=>c0 (Wy _ h6)) ?_;refine zd [[103]] ?_;refine dd [] (λ_ _ _ _=>c0 (Wy _ h8)) ?_;refine zd [[101]] ?_;refine dd [] (λ_ _ _ _=>c0 (Qcc _ h10)) ?_;refine dd [104] (λ_ _ _ _=>al' 104) ?_;refine zd [[104]] ?_;refine de fol ?_;refine z [4,2,32] ?_;refine cb (ca Qoc) λr11=>?_;refine o (al' 105) ?_;refine z [34,1,5] ?_;refine b λr15 h16=>?_;refine b λr17 h18=>?_;refine b λr19 h20=>?_;refine sd ?_;refine zd [[105]] ?_;refine dd [] (λ_ _ _ _=>c0 (Xe _ h16)) ?_
 refine dx [28] [] (λst mm ⟨a28,_⟩ _=>og (fld Q6h (by exact rfl) (by exact rfl) (by exact rfl) rfl (a28.trans rfl))) ?_
 refine dx [] [106] (λst mm _ ⟨g106,_⟩=>og (toV (bsl (y:=106) (ls:=List.map u32 ([1]:List Nat)) Tryz.underlying32 K6.h rfl rfl rfl rfl rfl ⟨rfl,(k32 (x:=1) rfl),(by exact rfl),(by exact rfl),trivial⟩ (g106.trans rfl) rfl) (J7 (f:=u32) (λ_=>Vn) ([1]:List Nat)))) ?_
 refine dx [29,30] [] (λst mm ⟨a29,a30,_⟩ _=>og (bld (l:=[bl false,sli 1 (List.map u32 r15.Abs),sli 1 (List.map u32 ([1]:List Nat))]) pl_34.h ti_34.h Qu ⟨_,_,_,(a29.trans rfl),rfl,rfl,rfl,(szk (k:=1) rfl rfl),⟨_,_,_,(a30.trans rfl),rfl,rfl,rfl,(szk (k:=1) rfl rfl),rfl⟩⟩ rfl)) ?_;refine dd [] (λ_ _ _ _=>c0 (Jp _ h18)) ?_;refine zd [[103]] ?_;refine dd [] (λ_ _ _ _=>c0 (Qcc _ h20)) ?_;refine dd [107] (λ_ _ _ _=>al' 107) ?_;refine zd [[107]] ?_;refine de fol ?_;refine z [4] ?_;refine sjq (λs25=>[(2,.own 100),(4,.own 102),(8,.own 107)]) (λs25=>[(100,.bx 36 (Kg x0)),(102,.bx 34 (Qc (⟨false,[],[]⟩:Qa))),(107,.bx 34 (Qc s25))]) ?_ ?_
 . intro j23 hj24
   refine z [2,32,33,36] ?_;refine cb (ca Vm) λr26=>?_;refine z [46,1] ?_;refine c ?_ ?_
   . refine z [6,33,36,34,1] ?_;exact sj (hj24 _) (eR [(100,100),(102,102),(107,107)])
   refine z [9,4] ?_;exact sj (hj24 _) (eR [(100,100),(102,102),(107,107)])
 intro s25
 refine sjq (λs32=>[(4,.own 102),(8,.own 107)]) (λs32=>[(102,.bx 34 (Qc (⟨false,[],[]⟩:Qa))),(107,.bx 34 (Qc s32))]) ?_ ?_
 . intro j30 hj31
   refine z [2,32,33,36] ?_;refine cb (ca Vm) λr33=>?_;refine z [47,1] ?_;refine c ?_ ?_
   . refine z [6,33,36,34,1] ?_;exact sj (hj31 _) (eR [(102,102),(107,107)])
   refine z [9,4] ?_;exact sj (hj31 _) (eR [(102,102),(107,107)])
 intro s32
 refine z [2,32,34,1,8] ?_;exact rt []
theorem Qpt{n:Nat}{x0}:∀ r,Qaa n x0=some r->FnOk Tryz.prog 17 [Jo x0] [] (.tup [Qz r.1,Qfo r.2]) []:=by
 unfold Qaa
 refine fs Tryz.func17 λw S0 γ hγ=>?_;refine z [2] ?_;refine o (bx' 100) ?_;refine o (al' 101) ?_;refine o (al' 102) ?_;refine z [1,2,33,36,33,36] ?_;refine so (bldO (l:=[.own 103,Qc x0.Start,sli 3 (List.map Qc x0.Y)]) [(103,143,14)] pl_70.h ti_70.h (Qle (Kz (c1:=[.slice none 0 0]) (Qht rfl) (Kz (c1:=[.bool false,.slice none 0 0,.slice none 0 0]) (zo_of Qu) (Kz (c1:=[.slice none 0 0]) (zo_of (J6 (k:=3))) (Qiu))))) ⟨rfl,trivial⟩ rfl ⟨_,_,_,rfl,rfl,rfl,rfl,(szk (k:=3) rfl rfl),⟨_,_,_,rfl,rfl,rfl,rfl,(szk (k:=1) rfl rfl),rfl⟩⟩ rfl) ?_;refine o (al' 104) ?_;refine z [34,1,2,33,36] ?_;refine o (al' 105) ?_;refine z [34,1,5,2,31,1,7] ?_;refine sloopE 0 Lp.go (λs57=>[(1,.own 100),(2,.own 101),(3,.own 102),(4,.own 104),(5,.own 105),(6,i64 s57.2.2.2.2)]) (λs57=>[(100,.bx 38 (Jo x0)),(101,.bx 70 (Qz (⟨[],(⟨false,[],[]⟩:Qa),[]⟩:Qm))),(102,.bx 72 (Qfo (⟨0,0,0,0⟩:X7))),(104,.bx 70 (.agg [.own 103,Qc s57.2.1,sli 3 (List.map Qc s57.2.2.1)])),(103,.sl 143 14 (List.map Jy s57.1)),(105,.bx 34 (Qc s57.2.2.2.1))]) (λt55=>[(2,.own 101),(3,.own 102),(4,.own 104)]) (λt55=>[(101,.bx 70 (Qz (⟨[],(⟨false,[],[]⟩:Qa),[]⟩:Qm))),(102,.bx 72 (Qfo (⟨0,0,0,0⟩:X7))),(104,.bx 70 (.agg [.own 103,Qc t55.2.1,sli 3 (List.map Qc t55.2.2)])),(103,.sl 143 14 (List.map Jy t55.1))]) (eR [(100,100),(101,101),(102,102),(104,104),(103,103),(105,105)]) ?_ ?_
 . intro hj56 s57
   refine z [5,2,33,36,33,36] ?_;refine cb (ca K2) λr58=>?_;refine z [44,1] ?_;refine c ?_ ?_
   . refine z [9,4,5,7,5,2,30,33,45,36,47,1] ?_;refine c ?_ ?_
     . refine z [2,32,30] ?_;refine s1 (bldA (l:=[i64 (5:Int),i64 s57.2.2.2.2,i64 (0:Int),i64 (0:Int)]) Tryz.underlying72 ti_72.h ti_3.h Qll rfl ⟨_,_,_,(kI (x:=5) rfl),rfl,rfl,rfl,rfl,rfl,⟨_,_,_,rfl,rfl,rfl,rfl,rfl,rfl,⟨_,_,_,(kI (x:=0) rfl),rfl,rfl,rfl,rfl,rfl,⟨_,_,_,(kI (x:=0) rfl),rfl,rfl,rfl,rfl,rfl,rfl⟩⟩⟩⟩ rfl) ?_;refine z [34,34,1,8,10,12,10] ?_;refine sU ?_;refine z [12,10] ?_;refine fz 103 [32] [101,104] ?_;exact rt []
     refine z [9,4,5,2,32,33,45,36] ?_;refine cb (ca Vm) λr60=>?_;refine z [46,1] ?_;refine c ?_ ?_
     . refine z [2,32,30] ?_;refine s1 (bldA (l:=[i64 (4:Int),i64 s57.2.2.2.2,i64 (0:Int),i64 (0:Int)]) Tryz.underlying72 ti_72.h ti_3.h Qll rfl ⟨_,_,_,(kI (x:=4) rfl),rfl,rfl,rfl,rfl,rfl,⟨_,_,_,rfl,rfl,rfl,rfl,rfl,rfl,⟨_,_,_,(kI (x:=0) rfl),rfl,rfl,rfl,rfl,rfl,⟨_,_,_,(kI (x:=0) rfl),rfl,rfl,rfl,rfl,rfl,rfl⟩⟩⟩⟩ rfl) ?_;refine z [34,34,1,8,10,12,10] ?_;refine sU ?_;refine z [12,10] ?_;refine fz 103 [41] [101,104] ?_;exact rt []
     refine z [9,4,2,33,36,33,36,32] ?_;refine cb (ca Qqa) λr62=>?_;refine o (al' 106) ?_;refine z [34,1,2,33,36,33,36,32,33,36] ?_;refine cb (ca Qrh) λr64=>?_;refine z [30,35,35] ?_;refine o (al' 107) ?_;refine o (al' 108) ?_;refine z [34,34,1,5,2] ?_;refine s1 (ixAO Tryz.underlying138 ti_3.h rfl (.inr ⟨rfl,rfl,_,_,rfl⟩) rfl rfl (kI (x:=0) rfl)) ?_;refine z [36,56,1] ?_;refine c ?_ ?_
     . refine z [5] ?_;refine sd ?_;refine zd [[104]] ?_;refine dx [9] [108] (λst mm ⟨a9,_⟩ ⟨g108,_⟩=>og (ixAO (id:=108) (k:=1) (off:=0) (p:=0) Tryz.underlying138 ti_3.h rfl (.inr ⟨rfl,rfl,_,_,(g108.trans rfl)⟩) rfl (a9.trans rfl) (kI (x:=0) rfl))) ?_;refine zd [[108],[]] ?_;refine dx [9] [108] (λst mm ⟨a9,_⟩ ⟨g108,_⟩=>og (ixAO (id:=108) (k:=1) (off:=0) (p:=1) Tryz.underlying138 ti_3.h rfl (.inr ⟨rfl,rfl,_,_,(g108.trans rfl)⟩) rfl (a9.trans rfl) (kI (x:=1) rfl))) ?_;refine zd [[108]] ?_;refine dx [9] [108] (λst mm ⟨a9,_⟩ ⟨g108,_⟩=>og (ixAO (id:=108) (k:=1) (off:=0) (p:=2) Tryz.underlying138 ti_3.h rfl (.inr ⟨rfl,rfl,_,_,(g108.trans rfl)⟩) rfl (a9.trans rfl) (kI (x:=2) rfl))) ?_;refine zd [[108]] ?_;refine dx [66,67,69,71] [] (λst mm ⟨a66,a67,a69,a71,_⟩ _=>og (bldA (l:=[i64 r64.2.a0,i64 s57.2.2.2.2,i64 r64.2.a1,i64 r64.2.a2]) Tryz.underlying72 ti_72.h ti_3.h Qll rfl ⟨_,_,_,(a66.trans rfl),rfl,rfl,rfl,rfl,rfl,⟨_,_,_,(a67.trans rfl),rfl,rfl,rfl,rfl,rfl,⟨_,_,_,(a69.trans rfl),rfl,rfl,rfl,rfl,rfl,⟨_,_,_,(a71.trans rfl),rfl,rfl,rfl,rfl,rfl,rfl⟩⟩⟩⟩ rfl)) ?_;refine zd [[101],[102]] ?_;refine de fol ?_;refine z [4,8,10,12,10] ?_;refine sU ?_;refine z [12,10] ?_;refine fz 103 [64] [101,104] ?_;exact rt []
     refine z [9,4,2,33,36] ?_;refine cb (ca Qqe) λr66=>?_;refine o (al' 109) ?_;refine z [34,1,2,32,33,45,36] ?_;refine cb (ca Vm) λr68=>?_;refine z [58,31,1,2,33,36,33,36,32,32,32,33,36,30] ?_;refine s1 (bld (l:=[Qc s57.2.1,Qc s57.2.2.2.1,Qc r62,Qc r66,sli 3 (List.map Qc s57.2.2.1),bl (decide (r68≤(0:Int)))]) Q41.h Qp0.h Qef ⟨_,_,_,rfl,rfl,rfl,rfl,(szk (k:=3) rfl rfl),⟨_,_,_,rfl,rfl,rfl,rfl,(szk (k:=3) rfl rfl),⟨_,_,_,rfl,rfl,rfl,rfl,(szk (k:=3) rfl rfl),⟨_,_,_,rfl,rfl,rfl,rfl,(szk (k:=3) rfl rfl),⟨_,_,_,rfl,rfl,rfl,rfl,(szk (k:=1) rfl rfl),⟨_,_,_,rfl,rfl,rfl,rfl,(szk (k:=1) rfl rfl),rfl⟩⟩⟩⟩⟩⟩ rfl) ?_
     refine so (bsl (y:=110) (ls:=List.map Jy ([(⟨s57.2.1,s57.2.2.2.1,r62,r66,s57.2.2.1,decide (r68≤(0:Int))⟩:Qr)]:List Qr)) Tryz.underlying68 Qp0.h rfl rfl rfl rfl rfl ⟨rfl,rfl,(by exact rfl),(by exact rfl),trivial⟩ rfl rfl) ?_
     refine sbm (C:=λx=>.sl 143 14 (List.map Jy x)) 110 rfl λz70=>?_;refine b λy71 h72=>?_;refine o (app' 111) ?_;refine z [33] ?_;refine o (stP (.agg [.own 111,Qc s57.2.1,sli 3 (List.map Qc s57.2.2.1)]) [0]) ?_;refine z [1] ?_;refine sjq (λs77=>[(1,.own 100),(2,.own 101),(3,.own 102),(4,.own 104),(5,.own 105),(6,i64 s57.2.2.2.2),(7,.own 106),(10,.own 109)]) (λs77=>[(100,.bx 38 (Jo x0)),(101,.bx 70 (Qz (⟨[],(⟨false,[],[]⟩:Qa),[]⟩:Qm))),(102,.bx 72 (Qfo (⟨0,0,0,0⟩:X7))),(104,.bx 70 (.agg [.own 111,Qc s77.1,sli 3 (List.map Qc s77.2)])),(111,.sl 143 14 (List.map Jy y71)),(105,.bx 34 (Qc s57.2.2.2.1)),(106,.bx 34 (Qc r62)),(109,.bx 34 (Qc r66))]) ?_ ?_
     . intro j75 hj76
       refine z [2,30,1] ?_;refine c ?_ ?_
       . refine z [2,33,36,32] ?_;refine cb (ca Wx) λr78=>?_;refine z [33] ?_;refine o (stP (.agg [.own 111,Qc r78,sli 3 (List.map Qc s57.2.2.1)]) [1]) ?_;refine z [1,6,33,36,33] ?_;refine o (stP (.agg [.own 111,Qc r78,sli 3 (List.map Qc r64.1.Next)]) [2]) ?_;refine z [1] ?_;exact sj (hj76 _) (eR [(100,100),(101,101),(102,102),(104,104),(111,111),(105,105),(106,106),(109,109)])
       refine z [9,4] ?_;exact sj (hj76 _) (eR [(100,100),(101,101),(102,102),(104,104),(111,111),(105,105),(106,106),(109,109)])
     intro s77
     refine b λr80 h81=>?_;refine b λr82 h83=>?_;refine sd ?_;refine zd [[106],[100],[100],[109]] ?_;refine dd [] (λ_ _ _ _=>c0 (Qni _ h81)) ?_;refine dd [] (λ_ _ _ _=>c0 (Wy _ h83)) ?_;refine zd [[105]] ?_;refine de fol ?_;refine z [11,4,6,30,40,31,3] ?_;exact sgo (eR [(100,100),(101,101),(102,102),(104,104),(103,111),(105,105)])
   refine z [14,15] ?_;exact su (sj (hj56 _) (eR [(101,101),(102,102),(104,104),(103,103)]))
 intro t55
 refine slpk ?_;refine z [13,4,2,32] ?_;refine s1 (bldA (l:=[i64 0,i64 0,i64 0,i64 0]) Tryz.underlying72 ti_72.h ti_3.h Qll rfl rfl rfl) ?_;refine z [34,34,1,8] ?_;refine fz 103 [111] [101,104] ?_;exact rt []
theorem Qod{n:Nat}{x0}:∀ r,Zs n x0=some r->FnOk Tryz.prog 20 [Qz x0] [] (sli 3 (List.map Qc r)) []:=by
 unfold Zs
 refine fs Tryz.func20 λw S0 γ hγ=>?_;refine z [2] ?_;refine o (bx' 100) ?_;refine s1 (asg rfl (kLm (k:=3) Qc)) ?_;refine z [1,2] ?_;refine so (asgN (y:=101) (E:=34) (k:=3) rfl rfl) ?_;refine z [1,5,2,31,1,7] ?_;refine sloopE 0 (λt=>t) (λs35=>[(1,.own 100),(2,sli 3 (List.map Qc ([]:List Qa))),(3,.own 101),(4,i64 s35.2)]) (λs35=>[(100,.bx 70 (Qz x0)),(101,.sl 34 3 (List.map Qc s35.1))]) (λt33=>[(2,sli 3 (List.map Qc ([]:List Qa))),(3,.own 101)]) (λt33=>[(101,.sl 34 3 (List.map Qc t33))]) (eR [(100,100),(101,101)]) ?_ ?_
 . intro hj34 s35
   refine z [5,2,30,33,36,39,46,1] ?_;refine c ?_ ?_
   . refine z [9,4] ?_;refine sjq (λs44=>[(1,.own 100),(2,sli 3 (List.map Qc ([]:List Qa))),(3,.own 103),(4,i64 s35.2)]) (λs44=>[(100,.bx 70 (Qz x0)),(103,.sl 34 3 (List.map Qc s44))]) ?_ ?_
     . intro j42 hj43
       refine z [7,2,33,36,30] ?_;refine b λy45 h46=>?_;refine z [43,92,42,1] ?_;refine c ?_ ?_
       . refine z [6,30,33,36,30] ?_;refine b λy47 h48=>?_;refine z [43,92,42] ?_
         refine so (bsl (y:=102) (ls:=List.map Qc ([y47.H]:List Qa)) Tryz.underlying26 ti_34.h rfl rfl rfl rfl rfl ⟨rfl,rfl,(by exact rfl),(by exact rfl),trivial⟩ rfl rfl) ?_
         refine b λy49 h50=>?_;refine o (app' 103) ?_;refine z [31,3,11,4] ?_;exact sj (hj43 _) (eR [(100,100),(103,103)])
       refine z [9,11,4] ?_;exact sj (hj43 _) (eR [(100,100),(103,101)])
     intro s44
     refine z [6,30,40,31,3] ?_;exact sgo (eR [(100,100),(101,103)])
   refine z [14,15] ?_;exact su (sj (hj34 _) (eR [(101,101)]))
 intro t33
 refine z [13,4,2,30,31,1,8] ?_;refine fz 101 [2,3,27] [] ?_;exact rt []
end Go.Proofs.YtlihkcaoachkdaaGreatDoor
