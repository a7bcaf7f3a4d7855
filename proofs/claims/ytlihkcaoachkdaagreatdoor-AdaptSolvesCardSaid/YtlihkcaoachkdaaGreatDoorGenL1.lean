import Derived.Test.YtlihkcaoachkdaaGreatDoorGen0
import Derived.Test.YtlihkcaoachkdaaGreatDoorGenA1
import Derived.Test.YtlihkcaoachkdaaGreatDoorGenA2
import Derived.Test.YtlihkcaoachkdaaGreatDoorGenA3
import Derived.Test.YtlihkcaoachkdaaGreatDoorGenR1
import Derived.Test.YtlihkcaoachkdaaGreatDoorGenR2
set_option maxRecDepth 100000
set_option maxHeartbeats 4000000
namespace Go.Proofs.YtlihkcaoachkdaaGreatDoor
open Go Go.RowKit
instance{x}:CIF (Kd x):=⟨CIF.h⟩
instance{x}:CIF (Kg x):=⟨CIF.h⟩
instance{x}:CIF (Jo x):=⟨CIF.h⟩
instance{x}:CIF (Jg x):=⟨CIF.h⟩
instance{x}:CIF (Vv x):=⟨CIF.h⟩
instance{x}:CIF (Ke x):=⟨CIF.h⟩
theorem Qn1{n:Nat}:∀ r,Qdh n =some r->FnOk Tryz.prog 46 [] [] (Ke r) []:=by
 unfold Qdh
 refine fs Tryz.func46 λw S0 γ hγ=>?_;refine z [2] ?_;refine o (al' 100) ?_;refine z [1,2] ?_;refine s1 (bld (l:=[i64 (3:Int),i64 0,i64 0,Qd (⟨(⟨false,[]⟩:Qf),[]⟩:Qb)]) Q4s.h Qpz.h Qm1 ⟨_,_,_,(kI (x:=3) rfl),rfl,rfl,rfl,(szk (k:=1) rfl rfl),rfl⟩ rfl) ?_
 refine so (bsl (y:=101) (ls:=List.map Vg ([(⟨(3:Int),0,0,(⟨(⟨false,[]⟩:Qf),[]⟩:Qb)⟩:Q5)]:List Q5)) Tryz.underlying41 Qpz.h rfl rfl rfl rfl rfl ⟨rfl,rfl,(by exact rfl),(by exact rfl),trivial⟩ rfl rfl) ?_
 refine sbm (C:=λx=>.sl 164 6 (List.map Vg x)) 101 rfl λz1=>?_
 refine so (bsl (y:=102) (ls:=List.map i64 ([(0:Int)]:List Int)) Tryz.underlying23 ti_3.h rfl rfl rfl rfl rfl ⟨rfl,(kI (x:=0) rfl),(by exact rfl),(by exact rfl),trivial⟩ rfl rfl) ?_
 refine fz 101 [9] [] ?_;refine fz 102 [10] [] ?_;refine s1 (bld (l:=[sli 6 (List.map Vg z1),sli 1 (List.map i64 ([(0:Int)]:List Int)),i64 (1:Int),i64 0]) pl_43.h ti_43.h Qm0 ⟨_,_,_,rfl,rfl,rfl,rfl,(szk (k:=1) rfl rfl),⟨_,_,_,rfl,rfl,rfl,rfl,(szk (k:=1) rfl rfl),⟨_,_,_,(kI (x:=1) rfl),rfl,rfl,rfl,(szk (k:=1) rfl rfl),rfl⟩⟩⟩ rfl) ?_;refine o (al' 103) ?_;refine z [34,1,2] ?_;refine cb (ca Q2c) λr2=>?_;refine z [30,35,35] ?_;refine o (al' 104) ?_;refine z [34,31,1,2] ?_;refine cb (ca Q0w) λr4=>?_;refine o (al' 105) ?_;refine z [34,1,2] ?_;refine cb (ca Qnc) λr6=>?_;refine z [30,35,35] ?_;refine o (al' 106) ?_;refine z [34,31,1,2,32,33] ?_;refine o (stP (Vv (⟨r6.1,r4.Safe,r4.Low,r4.High,r4.Least,r4.Fine,r4.Most⟩:Ja)) [0]) ?_;refine z [1,2] ?_;refine cb (ca V7) λr8=>?_;refine o (al' 107) ?_;refine z [34,1,5] ?_;refine b λr12 h13=>?_;refine sd ?_;refine zd [[103],[104]] ?_;refine dx [24,25] [] (λst mm ⟨a24,a25,_⟩ _=>og (bld (l:=[K8 (⟨z1,([(0:Int)]:List Int),(1:Int),0⟩:Q1),Jm r2.1,sli 3 (List.map Qd []),i64 (200:Int)]) pl_49.h ti_49.h Qd3 ⟨_,_,_,(a24.trans rfl),rfl,rfl,rfl,(szk (k:=4) rfl rfl),⟨_,_,_,(a25.trans rfl),rfl,rfl,rfl,(szk (k:=5) rfl rfl),⟨_,_,_,(kI (x:=200) rfl),rfl,rfl,rfl,(szk (k:=1) rfl rfl),rfl⟩⟩⟩ rfl)) ?_;refine zd [[105]] ?_;refine dd [] (λ_ _ _ _=>c0 (V7 _ h13)) ?_;refine zd [[107],[107],[107]] ?_
 refine dx [31] [108] (λst mm ⟨a31,_⟩ ⟨g108,_⟩=>og (toV (bsl (y:=108) (ls:=List.map Qd ([r8]:List Qb)) Tryz.underlying44 ti_53.h rfl rfl rfl rfl rfl ⟨rfl,(a31.trans rfl),(by exact rfl),(by exact rfl),trivial⟩ (g108.trans rfl) rfl) (J7 (f:=Qd) (λ_=>J4) ([r8]:List Qb)))) ?_
 refine dx [26,27,28,29,30,32] [] (λst mm ⟨a26,a27,a28,a29,a30,a32,_⟩ _=>og (bld (l:=[Jg (⟨(⟨z1,([(0:Int)]:List Int),(1:Int),0⟩:Q1),r2.1,[],(200:Int)⟩:Qw),Vv (⟨r6.1,r4.Safe,r4.Low,r4.High,r4.Least,r4.Fine,r4.Most⟩:Ja),Qd r12,Qd r8,Qd r8,sli 3 (List.map Qd ([r8]:List Qb))]) pl_57.h ti_57.h Qih ⟨_,_,_,(a26.trans rfl),rfl,rfl,rfl,(szk (k:=11) rfl rfl),⟨_,_,_,(a27.trans rfl),rfl,rfl,rfl,(szk (k:=17) rfl rfl),⟨_,_,_,(a28.trans rfl),rfl,rfl,rfl,(szk (k:=3) rfl rfl),⟨_,_,_,(a29.trans rfl),rfl,rfl,rfl,(szk (k:=3) rfl rfl),⟨_,_,_,(a30.trans rfl),rfl,rfl,rfl,(szk (k:=3) rfl rfl),⟨_,_,_,(a32.trans rfl),rfl,rfl,rfl,(szk (k:=1) rfl rfl),rfl⟩⟩⟩⟩⟩⟩ rfl)) ?_;refine zd [[100]] ?_;refine de fol ?_;refine z [4,8] ?_;exact rt []
theorem Qbn{n:Nat}:∀ r,W5 n =some r->FnOk Tryz.prog 9 [] [] (bl r) []:=by
 unfold W5
 refine fs Tryz.func9 λw S0 γ hγ=>?_;refine z [2,31,1,2] ?_;refine cb (ca Qn1) λr1=>?_;refine cb (ca Qrx) λr3=>?_;refine z [30,35,35] ?_;refine o (al' 100) ?_;refine o (al' 101) ?_;refine z [34,34,1,2] ?_;refine cb (ca Qnc) λr5=>?_;refine z [30,35,35] ?_;refine o (al' 102) ?_;refine z [34,31,1] ?_;refine sjq (λs23=>[(0,bl s23)]) (λs23=>[]) ?_ ?_
 . intro j21 hj22
   refine sif (λhb24=>?_) (λhb24=>?_)
   . refine sif (λhb25=>?_) (λhb25=>?_)
     . refine b λy26 h27=>?_;refine sif (λhb28=>?_) (λhb28=>?_)
       . refine b λy29 h30=>?_;refine b λr31 h32=>?_;refine sif (λhb33=>?_) (λhb33=>?_)
         . refine b λr34 h35=>?_;refine b λr36 h37=>?_;refine sd ?_;refine zd [[101]] ?_;refine dx [] [] (λst mm _ _=>og (bld (l:=[i64 0,i64 0,i64 0,i64 0]) pl_63.h ti_63.h Qt rfl rfl)) ?_;refine dx [14,15] [] (λst mm ⟨a14,a15,_⟩ _=>og (eqA (p:=(r3.2:Qe)) (q:=((⟨0,0,0,0⟩:Qe):Qe)) K4 rfl eg_63 rfl (a14.trans rfl) (a15.trans rfl))) ?_;refine dd [] (λ_ _ _ _=>obk hb24 ops) ?_;refine zd [[100],[100],[],[],[]] ?_;refine dd [] (λ_ _ _ _=>obk hb25 ops) ?_;refine zd [[100],[100]] ?_;refine dx [23,25] [] (λst mm ⟨a23,a25,_⟩ _=>ogG 23 rfl (a23.trans rfl) (ixR (f:=Kq) Tryz.underlying59 ti_82.h h27 rfl (a25.trans rfl) (kI (x:=0) rfl))) ?_;refine zd [[],[],[],[]] ?_;refine dd [] (λ_ _ _ _=>obk hb28 ops) ?_;refine zd [[100],[100]] ?_;refine dx [31,33] [] (λst mm ⟨a31,a33,_⟩ _=>ogG 31 rfl (a31.trans rfl) (ixR (f:=Kq) Tryz.underlying59 ti_82.h h30 rfl (a33.trans rfl) (kI (x:=0) rfl))) ?_;refine zd [[],[],[102]] ?_;refine dG [] (λ_ _ _ _=>c0 (Qeg _ h32)) ?_;refine zd [[]] ?_;refine dd [] (λ_ _ _ _=>obk hb33 ops) ?_;refine zd [[100],[100]] ?_;refine dG [] (λ_ _ _ _=>c0 (V7 _ h35)) ?_;refine dG [] (λ_ _ _ _=>c0 (Qeg _ h37)) ?_;refine zd [[],[]] ?_;refine de fol ?_;refine z [4] ?_;exact sj (hj22 _) (eR [])
         refine sd ?_;refine zd [[101]] ?_;refine dx [] [] (λst mm _ _=>og (bld (l:=[i64 0,i64 0,i64 0,i64 0]) pl_63.h ti_63.h Qt rfl rfl)) ?_;refine dx [14,15] [] (λst mm ⟨a14,a15,_⟩ _=>og (eqA (p:=(r3.2:Qe)) (q:=((⟨0,0,0,0⟩:Qe):Qe)) K4 rfl eg_63 rfl (a14.trans rfl) (a15.trans rfl))) ?_;refine dd [] (λ_ _ _ _=>obk hb24 ops) ?_;refine zd [[100],[100],[],[],[]] ?_;refine dd [] (λ_ _ _ _=>obk hb25 ops) ?_;refine zd [[100],[100]] ?_;refine dx [23,25] [] (λst mm ⟨a23,a25,_⟩ _=>ogG 23 rfl (a23.trans rfl) (ixR (f:=Kq) Tryz.underlying59 ti_82.h h27 rfl (a25.trans rfl) (kI (x:=0) rfl))) ?_;refine zd [[],[],[],[]] ?_;refine dd [] (λ_ _ _ _=>obk hb28 ops) ?_;refine zd [[100],[100]] ?_;refine dx [31,33] [] (λst mm ⟨a31,a33,_⟩ _=>ogG 31 rfl (a31.trans rfl) (ixR (f:=Kq) Tryz.underlying59 ti_82.h h30 rfl (a33.trans rfl) (kI (x:=0) rfl))) ?_;refine zd [[],[],[102]] ?_;refine dG [] (λ_ _ _ _=>c0 (Qeg _ h32)) ?_;refine zd [[]] ?_;refine dd [] (λ_ _ _ _=>obk hb33 ops) ?_;refine zd [[],[],[],[],[],[]] ?_;refine de fol ?_;refine z [4] ?_;exact sj (hj22 _) (eR [])
       refine sd ?_;refine zd [[101]] ?_;refine dx [] [] (λst mm _ _=>og (bld (l:=[i64 0,i64 0,i64 0,i64 0]) pl_63.h ti_63.h Qt rfl rfl)) ?_;refine dx [14,15] [] (λst mm ⟨a14,a15,_⟩ _=>og (eqA (p:=(r3.2:Qe)) (q:=((⟨0,0,0,0⟩:Qe):Qe)) K4 rfl eg_63 rfl (a14.trans rfl) (a15.trans rfl))) ?_;refine dd [] (λ_ _ _ _=>obk hb24 ops) ?_;refine zd [[100],[100],[],[],[]] ?_;refine dd [] (λ_ _ _ _=>obk hb25 ops) ?_;refine zd [[100],[100],[],[],[],[],[]] ?_;refine dd [] (λ_ _ _ _=>obk hb28 ops) ?_;refine zd [[],[],[],[],[],[],[],[],[],[],[],[],[],[],[]] ?_;refine de fol ?_;refine z [4] ?_;exact sj (hj22 _) (eR [])
     refine sd ?_;refine zd [[101]] ?_;refine dx [] [] (λst mm _ _=>og (bld (l:=[i64 0,i64 0,i64 0,i64 0]) pl_63.h ti_63.h Qt rfl rfl)) ?_;refine dx [14,15] [] (λst mm ⟨a14,a15,_⟩ _=>og (eqA (p:=(r3.2:Qe)) (q:=((⟨0,0,0,0⟩:Qe):Qe)) K4 rfl eg_63 rfl (a14.trans rfl) (a15.trans rfl))) ?_;refine dd [] (λ_ _ _ _=>obk hb24 ops) ?_;refine zd [[100],[100],[],[],[]] ?_;refine dd [] (λ_ _ _ _=>obk hb25 ops) ?_;refine zd [[],[],[],[],[],[],[],[],[],[],[],[],[],[],[],[],[],[],[],[],[],[],[]] ?_;refine de fol ?_;refine z [4] ?_;exact sj (hj22 _) (eR [])
   refine sd ?_;refine zd [[101]] ?_;refine dx [] [] (λst mm _ _=>og (bld (l:=[i64 0,i64 0,i64 0,i64 0]) pl_63.h ti_63.h Qt rfl rfl)) ?_;refine dx [14,15] [] (λst mm ⟨a14,a15,_⟩ _=>og (eqA (p:=(r3.2:Qe)) (q:=((⟨0,0,0,0⟩:Qe):Qe)) K4 rfl eg_63 rfl (a14.trans rfl) (a15.trans rfl))) ?_;refine dd [] (λ_ _ _ _=>obk hb24 ops) ?_;refine zd [[],[],[],[],[],[],[],[],[],[],[],[],[],[],[],[],[],[],[],[],[],[],[],[],[],[],[],[],[]] ?_;refine de fol ?_;refine z [4] ?_;exact sj (hj22 _) (eR [])
 intro s23
 refine z [8] ?_;exact rt []
theorem Vs{x0}:∀ r,J5 x0=some r->FnOk Tryz.prog 49 [Qc x0] [] (Qd r) []:=by
 unfold J5
 refine fs Tryz.func49 λw S0 γ hγ=>?_;refine z [2] ?_;refine o (bx' 100) ?_;refine o (al' 101) ?_;refine z [1,2,33,36,33,36] ?_;refine s1 (bld (l:=[bl x0.Neg,sli 1 (List.map u32 x0.N)]) pl_51.h ti_51.h Vp ⟨_,_,_,rfl,rfl,rfl,rfl,(szk (k:=1) rfl rfl),⟨_,_,_,rfl,rfl,rfl,rfl,(szk (k:=1) rfl rfl),rfl⟩⟩ rfl) ?_;refine z [33,36] ?_;refine s1 (bld (l:=[Q2 (⟨x0.Neg,x0.N⟩:Qf),sli 1 (List.map u32 x0.D)]) pl_53.h ti_53.h Jz ⟨_,_,_,rfl,rfl,rfl,rfl,(szk (k:=2) rfl rfl),⟨_,_,_,rfl,rfl,rfl,rfl,(szk (k:=1) rfl rfl),rfl⟩⟩ rfl) ?_;refine z [34,1,8] ?_;exact rt []
theorem Qra{n:Nat}{x0}:∀ r,Qa7 n x0=some r->FnOk Tryz.prog 94 [Jh x0] [] (K8 r) []:=by
 unfold Qa7
 refine fs Tryz.func94 λw S0 γ hγ=>?_;refine z [2] ?_;refine o (bx' 100) ?_;refine o (al' 101) ?_;refine z [1,5] ?_;refine b λy1 h2=>?_;refine sd ?_;refine zd [[100],[100],[100],[100]] ?_;refine dx [] [102] (λst mm _ ⟨g102,_⟩=>og (bsl (y:=102) (ls:=List.map i64 ([]:List Int)) Tryz.underlying23 ti_3.h rfl rfl rfl rfl rfl trivial (g102.trans rfl) rfl)) ?_;refine zd [[100],[100]] ?_;refine dd [102,103] (λ_ _ _ _=>tV (app' 103)) ?_;refine dx [7,9,13] [104] (λst mm ⟨a7,a9,a13,_⟩ ⟨g104,_⟩=>og (bldO (l:=[.own 104,sli 1 (List.map i64 y1),i64 x0.Dim,i64 x0.Par]) [(104,164,6)] pl_43.h ti_43.h (Qle (Kz (c1:=[.slice none 0 0]) (Qht rfl) (Kz (c1:=[.slice none 0 0]) (zo_of (J6 (k:=1))) (Kz (c1:=[.int .i64 0]) (zo_of Vb) (Kz (c1:=[.int .i64 0]) (zo_of Vb) (Qiu)))))) ⟨(g104.trans rfl),trivial⟩ rfl ⟨_,_,_,(a7.trans rfl),rfl,rfl,rfl,(szk (k:=1) rfl rfl),⟨_,_,_,(a9.trans rfl),rfl,rfl,rfl,(szk (k:=1) rfl rfl),⟨_,_,_,(a13.trans rfl),rfl,rfl,rfl,(szk (k:=1) rfl rfl),rfl⟩⟩⟩ rfl)) ?_;refine dd [105] (λ_ _ _ _=>al' 105) ?_;refine zd [[105]] ?_;refine de fol ?_;refine z [4,5,2,31,1,7] ?_;refine sloopE 0 (λt=>t) (λs19=>[(1,.own 100),(2,.own 101),(3,.own 105),(4,i64 s19.2)]) (λs19=>[(100,.bx 25 (Jh x0)),(101,.bx 43 (K8 (⟨[],[],0,0⟩:Q1))),(105,.bx 43 (.agg [.own 104,sli 1 (List.map i64 y1),i64 x0.Dim,i64 x0.Par])),(104,.sl 164 6 (List.map Vg s19.1))]) (λt17=>[(2,.own 101),(3,.own 105)]) (λt17=>[(101,.bx 43 (K8 (⟨[],[],0,0⟩:Q1))),(105,.bx 43 (.agg [.own 104,sli 1 (List.map i64 y1),i64 x0.Dim,i64 x0.Par])),(104,.sl 164 6 (List.map Vg t17))]) (eR [(100,100),(101,101),(105,105),(104,104)]) ?_ ?_
 . intro hj18 s19
   refine z [5,2,30,33,36,39,46,1] ?_;refine c ?_ ?_
   . refine z [9,4,5,7,2,33,36,30] ?_;refine b λy20 h21=>?_;refine z [43,42] ?_;refine o (al' 106) ?_;refine z [34,1] ?_;refine b λr22 h23=>?_;refine b λy24 h25=>?_;refine sd ?_;refine zd [[105],[105],[106],[106],[106],[106],[106],[106],[106],[106]] ?_;refine dd [] (λ_ _ _ _=>c0 (Vs _ h23)) ?_;refine dx [30,32,34,37] [] (λst mm ⟨a30,a32,a34,a37,_⟩ _=>og (bld (l:=[i64 y20.Op,i64 y20.A,i64 y20.B,Qd r22]) Q4s.h Qpz.h Qm1 ⟨_,_,_,(a30.trans rfl),rfl,rfl,rfl,(szk (k:=1) rfl rfl),⟨_,_,_,(a32.trans rfl),rfl,rfl,rfl,(szk (k:=1) rfl rfl),⟨_,_,_,(a34.trans rfl),rfl,rfl,rfl,(szk (k:=1) rfl rfl),⟨_,_,_,(a37.trans rfl),rfl,rfl,rfl,(szk (k:=3) rfl rfl),rfl⟩⟩⟩⟩ rfl)) ?_
     refine dx [38] [107] (λst mm ⟨a38,_⟩ ⟨g107,_⟩=>og (bsl (y:=107) (ls:=List.map Vg ([(⟨y20.Op,y20.A,y20.B,r22⟩:Q5)]:List Q5)) Tryz.underlying41 Qpz.h rfl rfl rfl rfl rfl ⟨rfl,(a38.trans rfl),(by exact rfl),(by exact rfl),trivial⟩ (g107.trans rfl) rfl)) ?_
     refine dd [104,107,108] (λ_ _ _ _=>app' 108) ?_;refine zd [[105]] ?_;refine dd [105] (λ_ _ _ _=>stP (.agg [.own 108,sli 1 (List.map i64 y1),i64 x0.Dim,i64 x0.Par]) [0]) ?_;refine de fol ?_;refine z [11,4,6,30,40,31,3] ?_;exact sgo (eR [(100,100),(101,101),(105,105),(104,108)])
   refine z [14,15] ?_;exact su (sj (hj18 _) (eR [(101,101),(105,105),(104,104)]))
 intro t17
 refine z [13,4,2,32,34,1,8] ?_;refine fz 104 [42] [101,105] ?_;exact rt []
theorem Zg{n:Nat}{x0}:∀ r,Vr n x0=some r->FnOk Tryz.prog 50 [sli 3 (List.map Qc x0)] [] (sli 3 (List.map Qd r)) []:=by
 unfold Vr
 refine fs Tryz.func50 λw S0 γ hγ=>?_;refine z [2] ?_;refine s1 (asg rfl (kLm (k:=3) Qd)) ?_;refine z [1,2] ?_;refine so (asgN (y:=100) (E:=53) (k:=3) rfl rfl) ?_;refine z [1,5,2,31,1,7] ?_;refine sloopE 0 (λt=>t) (λs17=>[(0,sli 3 (List.map Qc x0)),(2,sli 3 (List.map Qd ([]:List Qb))),(3,.own 100),(4,i64 s17.2)]) (λs17=>[(100,.sl 53 3 (List.map Qd s17.1))]) (λt15=>[(2,sli 3 (List.map Qd ([]:List Qb))),(3,.own 100)]) (λt15=>[(100,.sl 53 3 (List.map Qd t15))]) (eR [(100,100)]) ?_ ?_
 . intro hj16 s17
   refine z [5,2,30,30,39,46,1] ?_;refine c ?_ ?_
   . refine z [9,4,5,7,6,30,30,30] ?_;refine b λy18 h19=>?_;refine z [43,42] ?_;refine cb (ca Vs) λr20=>?_
     refine so (bsl (y:=101) (ls:=List.map Qd ([r20]:List Qb)) Tryz.underlying44 ti_53.h rfl rfl rfl rfl rfl ⟨rfl,rfl,(by exact rfl),(by exact rfl),trivial⟩ rfl rfl) ?_
     refine b λy22 h23=>?_;refine o (app' 102) ?_;refine z [31,3,11,4,6,30,40,31,3] ?_;exact sgo (eR [(100,102)])
   refine z [14,15] ?_;exact su (sj (hj16 _) (eR [(100,100)]))
 intro t15
 refine z [13,4,2,30,31,1,8] ?_;refine fz 100 [2,3,19] [] ?_;exact rt []
theorem Qrb{n:Nat}{x0}:∀ r,Qa6 n x0=some r->FnOk Tryz.prog 165 [sli 1 (List.map Qi x0)] [] (sli 1 (List.map Qj r)) []:=by
 unfold Qa6
 refine fs Tryz.func165 λw S0 γ hγ=>?_;refine z [2] ?_;refine s1 (asg rfl (kLm (k:=1) Qj)) ?_;refine z [1,2] ?_;refine so (asgN (y:=100) (E:=44) (k:=1) rfl rfl) ?_;refine z [1,5,2,31,1,7] ?_;refine sloopE 0 (λt=>t) (λs17=>[(0,sli 1 (List.map Qi x0)),(2,sli 1 (List.map Qj ([]:List (List Qb)))),(3,.own 100),(4,i64 s17.2)]) (λs17=>[(100,.sl 44 1 (List.map Qj s17.1))]) (λt15=>[(2,sli 1 (List.map Qj ([]:List (List Qb)))),(3,.own 100)]) (λt15=>[(100,.sl 44 1 (List.map Qj t15))]) (eR [(100,100)]) ?_ ?_
 . intro hj16 s17
   refine z [5,2,30,30,39,46,1] ?_;refine c ?_ ?_
   . refine z [9,4,5,7,6,30,30,30] ?_;refine b λy18 h19=>?_;refine z [43,42] ?_;refine cb (ca Zg) λr20=>?_
     refine so (bsl (y:=101) (ls:=List.map Qj ([r20]:List (List Qb))) Tryz.underlying45 ti_44.h rfl rfl rfl rfl rfl ⟨rfl,rfl,(by exact rfl),(by exact rfl),trivial⟩ rfl rfl) ?_
     refine b λy22 h23=>?_;refine o (app' 102) ?_;refine z [31,3,11,4,6,30,40,31,3] ?_;exact sgo (eR [(100,102)])
   refine z [14,15] ?_;exact su (sj (hj16 _) (eR [(100,100)]))
 intro t15
 refine z [13,4,2,30,31,1,8] ?_;refine fz 100 [2,3,19] [] ?_;exact rt []
theorem Qrc{n:Nat}{x0}:∀ r,Qcp n x0=some r->FnOk Tryz.prog 95 [Q8 x0] [] (Jm r) []:=by
 unfold Qcp
 refine fs Tryz.func95 λw S0 γ hγ=>?_;refine z [2] ?_;refine o (bx' 100) ?_;refine o (al' 101) ?_;refine z [1,5] ?_;refine b λr1 h2=>?_;refine b λr3 h4=>?_;refine b λr5 h6=>?_;refine b λr7 h8=>?_;refine sd ?_;refine zd [[100],[100],[100],[100]] ?_;refine dd [] (λ_ _ _ _=>c0 (Zg _ h2)) ?_;refine zd [[100],[100]] ?_;refine dd [] (λ_ _ _ _=>c0 (Qrb _ h4)) ?_;refine zd [[100],[100]] ?_;refine dd [] (λ_ _ _ _=>c0 (Zg _ h6)) ?_;refine zd [[100],[100]] ?_;refine dd [] (λ_ _ _ _=>c0 (Zg _ h8)) ?_;refine dx [4,7,10,13,16] [] (λst mm ⟨a4,a7,a10,a13,a16,_⟩ _=>og (bld (l:=[str x0.Name,sli 3 (List.map Qd r1),sli 1 (List.map Qj r3),sli 3 (List.map Qd r5),sli 3 (List.map Qd r7)]) pl_47.h ti_47.h Qal ⟨_,_,_,(a4.trans rfl),rfl,rfl,rfl,(szk (k:=1) rfl rfl),⟨_,_,_,(a7.trans rfl),rfl,rfl,rfl,(szk (k:=1) rfl rfl),⟨_,_,_,(a10.trans rfl),rfl,rfl,rfl,(szk (k:=1) rfl rfl),⟨_,_,_,(a13.trans rfl),rfl,rfl,rfl,(szk (k:=1) rfl rfl),⟨_,_,_,(a16.trans rfl),rfl,rfl,rfl,(szk (k:=1) rfl rfl),rfl⟩⟩⟩⟩⟩ rfl)) ?_;refine zd [[101]] ?_;refine de fol ?_;refine z [4,8] ?_;exact rt []
theorem Qrd{n:Nat}{x0}:∀ r,Qa8 n x0=some r->FnOk Tryz.prog 34 [Kd x0] [] (Jg r) []:=by
 unfold Qa8
 refine fs Tryz.func34 λw S0 γ hγ=>?_;refine z [2] ?_;refine o (bx' 100) ?_;refine o (al' 101) ?_;refine z [1,5] ?_;refine b λr1 h2=>?_;refine b λr3 h4=>?_;refine b λr5 h6=>?_;refine sd ?_;refine zd [[100],[100]] ?_;refine dd [] (λ_ _ _ _=>c0 (Qra _ h2)) ?_;refine zd [[100],[100]] ?_;refine dd [] (λ_ _ _ _=>c0 (Qrc _ h4)) ?_;refine zd [[100],[100]] ?_;refine dd [] (λ_ _ _ _=>c0 (Zg _ h6)) ?_;refine zd [[100],[100]] ?_;refine dx [5,8,11,13] [] (λst mm ⟨a5,a8,a11,a13,_⟩ _=>og (bld (l:=[K8 r1,Jm r3,sli 3 (List.map Qd r5),i64 x0.Bits]) pl_49.h ti_49.h Qd3 ⟨_,_,_,(a5.trans rfl),rfl,rfl,rfl,(szk (k:=4) rfl rfl),⟨_,_,_,(a8.trans rfl),rfl,rfl,rfl,(szk (k:=5) rfl rfl),⟨_,_,_,(a11.trans rfl),rfl,rfl,rfl,(szk (k:=1) rfl rfl),⟨_,_,_,(a13.trans rfl),rfl,rfl,rfl,(szk (k:=1) rfl rfl),rfl⟩⟩⟩⟩ rfl)) ?_;refine zd [[101]] ?_;refine de fol ?_;refine z [4,8] ?_;exact rt []
theorem Qre{x0}:∀ r,Qcq x0=some r->FnOk Tryz.prog 48 [Kg x0] [] (Vv r) []:=by
 unfold Qcq
 refine fs Tryz.func48 λw S0 γ hγ=>?_;refine z [2] ?_;refine o (bx' 100) ?_;refine o (al' 101) ?_;refine z [1,5] ?_;refine b λr1 h2=>?_;refine b λr3 h4=>?_;refine b λr5 h6=>?_;refine b λr7 h8=>?_;refine b λr9 h10=>?_;refine sd ?_;refine zd [[100],[100]] ?_;refine dd [] (λ_ _ _ _=>c0 (Vs _ h2)) ?_;refine zd [[100],[100]] ?_;refine dd [] (λ_ _ _ _=>c0 (Vs _ h4)) ?_;refine zd [[100],[100]] ?_;refine dd [] (λ_ _ _ _=>c0 (Vs _ h6)) ?_;refine zd [[100],[100]] ?_;refine dd [] (λ_ _ _ _=>c0 (Vs _ h8)) ?_;refine zd [[100],[100]] ?_;refine dd [] (λ_ _ _ _=>c0 (Vs _ h10)) ?_;refine zd [[100],[100],[100],[100]] ?_;refine dx [5,8,11,14,17,19,21] [] (λst mm ⟨a5,a8,a11,a14,a17,a19,a21,_⟩ _=>og (bld (l:=[Qd r1,Qd r3,Qd r5,Qd r7,Qd r9,i64 x0.Fine,i64 x0.Most]) pl_55.h ti_55.h Qig ⟨_,_,_,(a5.trans rfl),rfl,rfl,rfl,(szk (k:=3) rfl rfl),⟨_,_,_,(a8.trans rfl),rfl,rfl,rfl,(szk (k:=3) rfl rfl),⟨_,_,_,(a11.trans rfl),rfl,rfl,rfl,(szk (k:=3) rfl rfl),⟨_,_,_,(a14.trans rfl),rfl,rfl,rfl,(szk (k:=3) rfl rfl),⟨_,_,_,(a17.trans rfl),rfl,rfl,rfl,(szk (k:=3) rfl rfl),⟨_,_,_,(a19.trans rfl),rfl,rfl,rfl,(szk (k:=1) rfl rfl),⟨_,_,_,(a21.trans rfl),rfl,rfl,rfl,(szk (k:=1) rfl rfl),rfl⟩⟩⟩⟩⟩⟩⟩ rfl)) ?_;refine zd [[101]] ?_;refine de fol ?_;refine z [4,8] ?_;exact rt []
theorem Qrf{n:Nat}{x0}:∀ r,Qbb n x0=some r->FnOk Tryz.prog 10 [Jo x0] [] (Ke r) []:=by
 unfold Qbb
 refine fs Tryz.func10 λw S0 γ hγ=>?_;refine z [2] ?_;refine o (bx' 100) ?_;refine o (al' 101) ?_;refine z [1,5] ?_;refine b λr1 h2=>?_;refine b λr3 h4=>?_;refine b λr5 h6=>?_;refine b λr7 h8=>?_;refine b λr9 h10=>?_;refine b λr11 h12=>?_;refine sd ?_;refine zd [[100],[100]] ?_;refine dd [] (λ_ _ _ _=>c0 (Qrd _ h2)) ?_;refine zd [[100],[100]] ?_;refine dd [] (λ_ _ _ _=>c0 (Qre _ h4)) ?_;refine zd [[100],[100]] ?_;refine dd [] (λ_ _ _ _=>c0 (Vs _ h6)) ?_;refine zd [[100],[100]] ?_;refine dd [] (λ_ _ _ _=>c0 (Vs _ h8)) ?_;refine zd [[100],[100]] ?_;refine dd [] (λ_ _ _ _=>c0 (Vs _ h10)) ?_;refine zd [[100],[100]] ?_;refine dd [] (λ_ _ _ _=>c0 (Zg _ h12)) ?_;refine dx [5,8,11,14,17,20] [] (λst mm ⟨a5,a8,a11,a14,a17,a20,_⟩ _=>og (bld (l:=[Jg r1,Vv r3,Qd r5,Qd r7,Qd r9,sli 3 (List.map Qd r11)]) pl_57.h ti_57.h Qih ⟨_,_,_,(a5.trans rfl),rfl,rfl,rfl,(szk (k:=11) rfl rfl),⟨_,_,_,(a8.trans rfl),rfl,rfl,rfl,(szk (k:=17) rfl rfl),⟨_,_,_,(a11.trans rfl),rfl,rfl,rfl,(szk (k:=3) rfl rfl),⟨_,_,_,(a14.trans rfl),rfl,rfl,rfl,(szk (k:=3) rfl rfl),⟨_,_,_,(a17.trans rfl),rfl,rfl,rfl,(szk (k:=3) rfl rfl),⟨_,_,_,(a20.trans rfl),rfl,rfl,rfl,(szk (k:=1) rfl rfl),rfl⟩⟩⟩⟩⟩⟩ rfl)) ?_;refine zd [[101]] ?_;refine de fol ?_;refine z [4,8] ?_;exact rt []
theorem Zh{x0}:∀ r,Wa x0=some r->FnOk Tryz.prog 119 [Qd x0] [] (Qc r) []:=by
 unfold Wa
 refine fs Tryz.func119 λw S0 γ hγ=>?_;refine z [2] ?_;refine o (bx' 100) ?_;refine o (al' 101) ?_;refine z [1,2,33,45,36,33,45,36,33,36] ?_;refine s1 (bld (l:=[bl x0.Num.Neg,sli 1 (List.map u32 x0.Num.Abs),sli 1 (List.map u32 x0.Den)]) pl_34.h ti_34.h Qu ⟨_,_,_,rfl,rfl,rfl,rfl,(szk (k:=1) rfl rfl),⟨_,_,_,rfl,rfl,rfl,rfl,(szk (k:=1) rfl rfl),⟨_,_,_,rfl,rfl,rfl,rfl,(szk (k:=1) rfl rfl),rfl⟩⟩⟩ rfl) ?_;refine z [34,1,8] ?_;exact rt []
theorem Qj0{n:Nat}{x0}:∀ r,Zd n x0=some r->FnOk Tryz.prog 120 [sli 3 (List.map Qd x0)] [] (sli 3 (List.map Qc r)) []:=by
 unfold Zd
 refine fs Tryz.func120 λw S0 γ hγ=>?_;refine z [2] ?_;refine s1 (asg rfl (kLm (k:=3) Qc)) ?_;refine z [1,2] ?_;refine so (asgN (y:=100) (E:=34) (k:=3) rfl rfl) ?_;refine z [1,5,2,31,1,7] ?_;refine sloopE 0 (λt=>t) (λs17=>[(0,sli 3 (List.map Qd x0)),(2,sli 3 (List.map Qc ([]:List Qa))),(3,.own 100),(4,i64 s17.2)]) (λs17=>[(100,.sl 34 3 (List.map Qc s17.1))]) (λt15=>[(2,sli 3 (List.map Qc ([]:List Qa))),(3,.own 100)]) (λt15=>[(100,.sl 34 3 (List.map Qc t15))]) (eR [(100,100)]) ?_ ?_
 . intro hj16 s17
   refine z [5,2,30,30,39,46,1] ?_;refine c ?_ ?_
   . refine z [9,4,5,7,6,30,30,30] ?_;refine b λy18 h19=>?_;refine z [43,42] ?_;refine cb (ca Zh) λr20=>?_
     refine so (bsl (y:=101) (ls:=List.map Qc ([r20]:List Qa)) Tryz.underlying26 ti_34.h rfl rfl rfl rfl rfl ⟨rfl,rfl,(by exact rfl),(by exact rfl),trivial⟩ rfl rfl) ?_
     refine b λy22 h23=>?_;refine o (app' 102) ?_;refine z [31,3,11,4,6,30,40,31,3] ?_;exact sgo (eR [(100,102)])
   refine z [14,15] ?_;exact su (sj (hj16 _) (eR [(100,100)]))
 intro t15
 refine z [13,4,2,30,31,1,8] ?_;refine fz 100 [2,3,19] [] ?_;exact rt []
theorem Qrg{n:Nat}{x0}:∀ r,Qa9 n x0=some r->FnOk Tryz.prog 64 [Kr x0] [] (Qz r) []:=by
 unfold Qa9
 refine fs Tryz.func64 λw S0 γ hγ=>?_;refine z [2] ?_;refine o (bx' 100) ?_;refine o (al' 101) ?_;refine z [1,5] ?_;refine b λr1 h2=>?_;refine b λr3 h4=>?_;refine sd ?_;refine zd [[100],[100]] ?_;refine dd [] (λ_ _ _ _=>c0 (Zh _ h2)) ?_;refine zd [[100],[100]] ?_;refine dd [] (λ_ _ _ _=>c0 (Qj0 _ h4)) ?_;refine dx [8,11] [102] (λst mm ⟨a8,a11,_⟩ ⟨g102,_⟩=>og (bldO (l:=[.own 102,Qc r1,sli 3 (List.map Qc r3)]) [(102,143,14)] pl_70.h ti_70.h (Qle (Kz (c1:=[.slice none 0 0]) (Qht rfl) (Kz (c1:=[.bool false,.slice none 0 0,.slice none 0 0]) (zo_of Qu) (Kz (c1:=[.slice none 0 0]) (zo_of (J6 (k:=3))) (Qiu))))) ⟨(g102.trans rfl),trivial⟩ rfl ⟨_,_,_,(a8.trans rfl),rfl,rfl,rfl,(szk (k:=3) rfl rfl),⟨_,_,_,(a11.trans rfl),rfl,rfl,rfl,(szk (k:=1) rfl rfl),rfl⟩⟩ rfl)) ?_;refine dd [103] (λ_ _ _ _=>al' 103) ?_;refine zd [[103]] ?_;refine de fol ?_;refine z [4,5,2,31,1,7] ?_;refine sloopE 0 (λt=>t) (λs37=>[(1,.own 100),(2,.own 101),(3,.own 103),(4,i64 s37.2)]) (λs37=>[(100,.bx 61 (Kr x0)),(101,.bx 70 (Qz (⟨[],(⟨false,[],[]⟩:Qa),[]⟩:Qm))),(103,.bx 70 (.agg [.own 102,Qc r1,sli 3 (List.map Qc r3)])),(102,.sl 143 14 (List.map Jy s37.1))]) (λt35=>[(2,.own 101),(3,.own 103)]) (λt35=>[(101,.bx 70 (Qz (⟨[],(⟨false,[],[]⟩:Qa),[]⟩:Qm))),(103,.bx 70 (.agg [.own 102,Qc r1,sli 3 (List.map Qc r3)])),(102,.sl 143 14 (List.map Jy t35))]) (eR [(100,100),(101,101),(103,103),(102,102)]) ?_ ?_
 . intro hj36 s37
   refine z [5,2,30,33,36,39,46,1] ?_;refine c ?_ ?_
   . refine z [9,4,5,7,2,33,36,30] ?_;refine b λy38 h39=>?_;refine z [43,42] ?_;refine o (al' 104) ?_;refine z [34,1] ?_;refine b λr40 h41=>?_;refine b λr42 h43=>?_;refine b λr44 h45=>?_;refine b λr46 h47=>?_;refine b λr48 h49=>?_;refine b λy50 h51=>?_;refine sd ?_;refine zd [[103],[103],[104],[104]] ?_;refine dd [] (λ_ _ _ _=>c0 (Zh _ h41)) ?_;refine zd [[104],[104]] ?_;refine dd [] (λ_ _ _ _=>c0 (Zh _ h43)) ?_;refine zd [[104],[104]] ?_;refine dd [] (λ_ _ _ _=>c0 (Zh _ h45)) ?_;refine zd [[104],[104]] ?_;refine dd [] (λ_ _ _ _=>c0 (Zh _ h47)) ?_;refine zd [[104],[104]] ?_;refine dd [] (λ_ _ _ _=>c0 (Qj0 _ h49)) ?_;refine zd [[104],[104]] ?_;refine dx [29,32,35,38,41,43] [] (λst mm ⟨a29,a32,a35,a38,a41,a43,_⟩ _=>og (bld (l:=[Qc r40,Qc r42,Qc r44,Qc r46,sli 3 (List.map Qc r48),bl y38.Ok]) Q41.h Qp0.h Qef ⟨_,_,_,(a29.trans rfl),rfl,rfl,rfl,(szk (k:=3) rfl rfl),⟨_,_,_,(a32.trans rfl),rfl,rfl,rfl,(szk (k:=3) rfl rfl),⟨_,_,_,(a35.trans rfl),rfl,rfl,rfl,(szk (k:=3) rfl rfl),⟨_,_,_,(a38.trans rfl),rfl,rfl,rfl,(szk (k:=3) rfl rfl),⟨_,_,_,(a41.trans rfl),rfl,rfl,rfl,(szk (k:=1) rfl rfl),⟨_,_,_,(a43.trans rfl),rfl,rfl,rfl,(szk (k:=1) rfl rfl),rfl⟩⟩⟩⟩⟩⟩ rfl)) ?_
     refine dx [44] [105] (λst mm ⟨a44,_⟩ ⟨g105,_⟩=>og (bsl (y:=105) (ls:=List.map Jy ([(⟨r40,r42,r44,r46,r48,y38.Ok⟩:Qr)]:List Qr)) Tryz.underlying68 Qp0.h rfl rfl rfl rfl rfl ⟨rfl,(a44.trans rfl),(by exact rfl),(by exact rfl),trivial⟩ (g105.trans rfl) rfl)) ?_
     refine dd [102,105,106] (λ_ _ _ _=>app' 106) ?_;refine zd [[103]] ?_;refine dd [103] (λ_ _ _ _=>stP (.agg [.own 106,Qc r1,sli 3 (List.map Qc r3)]) [0]) ?_;refine de fol ?_;refine z [11,4,6,30,40,31,3] ?_;exact sgo (eR [(100,100),(101,101),(103,103),(102,106)])
   refine z [14,15] ?_;exact su (sj (hj36 _) (eR [(101,101),(103,103),(102,102)]))
 intro t35
 refine z [13,4,2,32,34,1,8] ?_;refine fz 102 [48] [101,103] ?_;exact rt []
theorem Zi{n:Nat}{x0}{x1}:∀ r,Vh n x0 x1=some r->FnOk Tryz.prog 15 [Kr x0,Qz x1] [] (bl r) []:=by
 unfold Vh
 refine fs Tryz.func15 λw S0 γ hγ=>?_;refine z [2] ?_;refine o (bx' 100) ?_;refine o (bx' 101) ?_;refine z [31,1,5] ?_;refine b λr1 h2=>?_;refine b λr3 h4=>?_;refine sd ?_;refine zd [[100]] ?_;refine dd [] (λ_ _ _ _=>c0 (Qrg _ h2)) ?_;refine zd [[101]] ?_;refine dd [] (λ_ _ _ _=>c0 (Qpo _ h4)) ?_;refine zd [[]] ?_;refine de fol ?_;refine z [4,8] ?_;exact rt []
theorem Qbp{x0}:∀ r,Qbk x0=some r->FnOk Tryz.prog 18 [Qfo x0] [] (Qp r) []:=by
 unfold Qbk
 refine fs Tryz.func18 λw S0 γ hγ=>?_;refine z [2] ?_;refine o (bx' 100) ?_;refine o (al' 101) ?_;refine z [1,2] ?_;refine s1 (ixAO Tryz.underlying72 ti_3.h rfl (.inr ⟨rfl,rfl,_,_,rfl⟩) rfl rfl (kI (x:=0) rfl)) ?_;refine z [36] ?_;refine s1 (ixAO Tryz.underlying72 ti_3.h rfl (.inr ⟨rfl,rfl,_,_,rfl⟩) rfl rfl (kI (x:=1) rfl)) ?_;refine z [36] ?_;refine s1 (ixAO Tryz.underlying72 ti_3.h rfl (.inr ⟨rfl,rfl,_,_,rfl⟩) rfl rfl (kI (x:=2) rfl)) ?_;refine z [36] ?_;refine s1 (ixAO Tryz.underlying72 ti_3.h rfl (.inr ⟨rfl,rfl,_,_,rfl⟩) rfl rfl (kI (x:=3) rfl)) ?_;refine z [36] ?_;refine s1 (bld (l:=[i64 x0.a0,i64 x0.a1,i64 x0.a2,i64 x0.a3]) pl_63.h ti_63.h Qt ⟨_,_,_,rfl,rfl,rfl,rfl,(szk (k:=1) rfl rfl),⟨_,_,_,rfl,rfl,rfl,rfl,(szk (k:=1) rfl rfl),⟨_,_,_,rfl,rfl,rfl,rfl,(szk (k:=1) rfl rfl),⟨_,_,_,rfl,rfl,rfl,rfl,(szk (k:=1) rfl rfl),rfl⟩⟩⟩⟩ rfl) ?_;refine z [34,1,8] ?_;exact rt []
theorem Qke{n:Nat}{x0}:∀ r,Xh n x0=some r->FnOk Tryz.prog 3 [Jo x0] [] (bl r) []:=by
 unfold Xh
 refine fs Tryz.func3 λw S0 γ hγ=>?_;refine z [2] ?_;refine o (bx' 100) ?_;refine z [31,1,5,2,32] ?_;refine cb (ca Qpc) λr1=>?_;refine z [1] ?_;refine c ?_ ?_
 . refine z [2] ?_;refine cb (ca Qbn) λr3=>?_;refine z [31,1,8,10] ?_;exact rt []
 refine z [9,4,2,32] ?_;refine cb (ca Qrf) λr5=>?_;refine o (al' 101) ?_;refine z [34,1,2,32] ?_;refine cb (ca Qrx) λr7=>?_;refine z [30,35,35] ?_;refine o (al' 102) ?_;refine o (al' 103) ?_;refine z [34,34,1,2,32] ?_;refine cb (ca Qsv) λr9=>?_;refine z [30,35,35] ?_;refine o (al' 104) ?_;refine o (al' 105) ?_;refine z [34,34,1,2,32] ?_;refine cb (ca Qpj) λr11=>?_;refine o (al' 106) ?_;refine z [34,1,5,2,32] ?_;refine cb (ca Qn8) λr13=>?_;refine z [44,1] ?_;refine c ?_ ?_
 . refine z [2] ?_;refine s1 (bld (l:=[i64 (2:Int),i64 0,i64 0,i64 0]) pl_63.h ti_63.h Qt ⟨_,_,_,(kI (x:=2) rfl),rfl,rfl,rfl,(szk (k:=1) rfl rfl),rfl⟩ rfl) ?_;refine o (al' 107) ?_;refine z [34,1] ?_;refine sjq (λs25=>[(2,bl s25),(3,.own 101),(4,.own 102),(5,.own 103),(6,.own 104),(7,.own 105),(8,.own 106)]) (λs25=>[(101,.bx 57 (Ke r5)),(102,.bx 61 (Kr r7.1)),(103,.bx 63 (Qp r7.2)),(104,.bx 61 (Kr r9.1)),(105,.bx 63 (Qp r9.2)),(106,.bx 38 (Jo r11))]) ?_ ?_
   . intro j23 hj24
     refine z [6,32] ?_;refine s1 (bld (l:=[sli 14 (List.map Jy []),Qc (⟨false,[],[]⟩:Qa),sli 3 (List.map Qc [])]) pl_70.h ti_70.h Qah rfl rfl) ?_;refine cb (ca Zi) λr26=>?_;refine z [30] ?_;refine sifd 38 rfl ?_ ?_
     . refine z [22] ?_;refine sg 38 rfl rfl (bld (l:=[sli 14 (List.map Jy []),Qc (⟨false,[],[]⟩:Qa),sli 3 (List.map Qc [])]) pl_70.h ti_70.h Qah rfl rfl) ?_;refine b λr28 h29=>?_;refine og' (c0 (Zi _ h29)) ?_;refine z [38,30] ?_;refine sifd 43 rfl ?_ ?_
       . refine z [22,22] ?_;refine sg 43 rfl rfl (eqA (p:=(r7.2:Qe)) (q:=((⟨(2:Int),0,0,0⟩:Qe):Qe)) K4 rfl eg_63 rfl rfl rfl) ?_;refine z [38,30] ?_;refine sifd 48 rfl ?_ ?_
         . refine z [22,22] ?_;refine sg 48 rfl rfl (eqA (p:=(r9.2:Qe)) (q:=((⟨(2:Int),0,0,0⟩:Qe):Qe)) K4 rfl eg_63 rfl rfl rfl) ?_;refine z [38,30] ?_;refine sifd 53 rfl ?_ ?_
           . refine z [22] ?_;refine b λr30 h31=>?_;refine og' (c0 (Ql1 _ h31)) ?_;refine z [22,38,30] ?_;refine sifd 58 rfl ?_ ?_
             . refine b λr32 h33=>?_;refine og' (c0 (Qbn _ h33)) ?_;refine z [38,31,1] ?_;exact sj (hj24 _) (eR [(101,101),(102,102),(103,103),(104,104),(105,105),(106,106)])
             refine z [23,37,31,1] ?_;exact sj (hj24 _) (eR [(101,101),(102,102),(103,103),(104,104),(105,105),(106,106)])
           refine z [23,23,23,37,30,23,37,31,1] ?_;exact sj (hj24 _) (eR [(101,101),(102,102),(103,103),(104,104),(105,105),(106,106)])
         refine z [23,23,23,37,30,23,23,23,37,30,23,37,31,1] ?_;exact sj (hj24 _) (eR [(101,101),(102,102),(103,103),(104,104),(105,105),(106,106)])
       refine z [23,23,23,37,30,23,23,23,37,30,23,23,23,37,30,23,37,31,1] ?_;exact sj (hj24 _) (eR [(101,101),(102,102),(103,103),(104,104),(105,105),(106,106)])
     refine z [23,23,23,37,30,23,23,23,37,30,23,23,23,37,30,23,23,23,37,30,23,37,31,1] ?_;exact sj (hj24 _) (eR [(101,101),(102,102),(103,103),(104,104),(105,105),(106,106)])
   intro s25
   refine z [8,10] ?_;exact rt []
 refine z [9,4,2,32] ?_;refine cb (ca Qpt) λr34=>?_;refine z [30,35,35] ?_;refine o (al' 107) ?_;refine o (al' 108) ?_;refine z [34,34,1,5] ?_;refine sjq (λs47=>[(2,bl false),(4,.own 102),(6,.own 104),(10,.own 107),(11,.own 108),(85,bl s47)]) (λs47=>[(102,.bx 61 (Kr r7.1)),(104,.bx 61 (Kr r9.1)),(107,.bx 70 (Qz r34.1)),(108,.bx 72 (Qfo r34.2))]) ?_ ?_
 . intro j45 hj46
   refine b λr48 h49=>?_;refine sif (λhb50=>?_) (λhb50=>?_)
   . refine sd ?_;refine zd [[103],[108]] ?_;refine dd [] (λ_ _ _ _=>c0 (Qbp _ h49)) ?_;refine dx [66,68] [] (λst mm ⟨a66,a68,_⟩ _=>og (neA (p:=(r7.2:Qe)) (q:=(r48:Qe)) K4 rfl eg_63 rfl (a66.trans rfl) (a68.trans rfl))) ?_;refine dd [] (λ_ _ _ _=>obk hb50 ops) ?_;refine zd [[],[],[],[],[],[],[],[],[],[],[],[],[],[],[]] ?_;refine de fol ?_;refine z [4] ?_;exact sj (hj46 _) (eR [(102,102),(104,104),(107,107),(108,108)])
   refine sif (λhb51=>?_) (λhb51=>?_)
   . refine sd ?_;refine zd [[103],[108]] ?_;refine dd [] (λ_ _ _ _=>c0 (Qbp _ h49)) ?_;refine dx [66,68] [] (λst mm ⟨a66,a68,_⟩ _=>og (neA (p:=(r7.2:Qe)) (q:=(r48:Qe)) K4 rfl eg_63 rfl (a66.trans rfl) (a68.trans rfl))) ?_;refine dd [] (λ_ _ _ _=>obk hb50 ops) ?_;refine zd [[105],[103]] ?_;refine dx [70,71,72] [] (λst mm ⟨a70,a71,a72,_⟩ _=>ogG 70 rfl (a70.trans rfl) (neA (p:=(r9.2:Qe)) (q:=(r7.2:Qe)) K4 rfl eg_63 rfl (a71.trans rfl) (a72.trans rfl))) ?_;refine zd [[]] ?_;refine dd [] (λ_ _ _ _=>obk hb51 ops) ?_;refine zd [[],[],[],[],[],[],[],[],[],[]] ?_;refine de fol ?_;refine z [4] ?_;exact sj (hj46 _) (eR [(102,102),(104,104),(107,107),(108,108)])
   refine b λr52 h53=>?_;refine sif (λhb54=>?_) (λhb54=>?_)
   . refine sd ?_;refine zd [[103],[108]] ?_;refine dd [] (λ_ _ _ _=>c0 (Qbp _ h49)) ?_;refine dx [66,68] [] (λst mm ⟨a66,a68,_⟩ _=>og (neA (p:=(r7.2:Qe)) (q:=(r48:Qe)) K4 rfl eg_63 rfl (a66.trans rfl) (a68.trans rfl))) ?_;refine dd [] (λ_ _ _ _=>obk hb50 ops) ?_;refine zd [[105],[103]] ?_;refine dx [70,71,72] [] (λst mm ⟨a70,a71,a72,_⟩ _=>ogG 70 rfl (a70.trans rfl) (neA (p:=(r9.2:Qe)) (q:=(r7.2:Qe)) K4 rfl eg_63 rfl (a71.trans rfl) (a72.trans rfl))) ?_;refine zd [[]] ?_;refine dd [] (λ_ _ _ _=>obk hb51 ops) ?_;refine zd [[104],[107]] ?_;refine dG [] (λ_ _ _ _=>c0 (Zi _ h53)) ?_;refine zd [[],[]] ?_;refine dd [] (λ_ _ _ _=>obk hb54 ops) ?_;refine zd [[],[],[],[]] ?_;refine de fol ?_;refine z [4] ?_;exact sj (hj46 _) (eR [(102,102),(104,104),(107,107),(108,108)])
   refine b λr55 h56=>?_;refine sd ?_;refine zd [[103],[108]] ?_;refine dd [] (λ_ _ _ _=>c0 (Qbp _ h49)) ?_;refine dx [66,68] [] (λst mm ⟨a66,a68,_⟩ _=>og (neA (p:=(r7.2:Qe)) (q:=(r48:Qe)) K4 rfl eg_63 rfl (a66.trans rfl) (a68.trans rfl))) ?_;refine dd [] (λ_ _ _ _=>obk hb50 ops) ?_;refine zd [[105],[103]] ?_;refine dx [70,71,72] [] (λst mm ⟨a70,a71,a72,_⟩ _=>ogG 70 rfl (a70.trans rfl) (neA (p:=(r9.2:Qe)) (q:=(r7.2:Qe)) K4 rfl eg_63 rfl (a71.trans rfl) (a72.trans rfl))) ?_;refine zd [[]] ?_;refine dd [] (λ_ _ _ _=>obk hb51 ops) ?_;refine zd [[104],[107]] ?_;refine dG [] (λ_ _ _ _=>c0 (Zi _ h53)) ?_;refine zd [[],[]] ?_;refine dd [] (λ_ _ _ _=>obk hb54 ops) ?_;refine zd [[101]] ?_;refine dG [] (λ_ _ _ _=>c0 (Ql1 _ h56)) ?_;refine zd [[],[]] ?_;refine de fol ?_;refine z [4] ?_;exact sj (hj46 _) (eR [(102,102),(104,104),(107,107),(108,108)])
 intro s47
 refine c ?_ ?_
 . refine z [2,31,1,8,10] ?_;exact rt []
 refine z [9,4,2,32] ?_;refine cb (ca Q06) λr57=>?_;refine z [30,35,35,31,31,1,5] ?_;refine sjq (λs63=>[(2,bl false),(4,.own 102),(10,.own 107),(11,.own 108),(102,bl s63)]) (λs63=>[(102,.bx 61 (Kr r7.1)),(107,.bx 70 (Qz r34.1)),(108,.bx 72 (Qfo r34.2))]) ?_ ?_
 . intro j61 hj62
   refine z [6,30,33,36,39,56,30] ?_;refine sifd 96 rfl ?_ ?_
   . refine z [23,23,23,23,23,38,1] ?_;exact sj (hj62 _) (eR [(102,102),(107,107),(108,108)])
   refine z [22,22] ?_;refine b λr64 h65=>?_;refine og' (c0 (Qod _ h65)) ?_;refine z [22,22,37,1] ?_;exact sj (hj62 _) (eR [(102,102),(107,107),(108,108)])
 intro s63
 refine c ?_ ?_
 . refine z [2,31,1,8,10] ?_;exact rt []
 refine z [9,4,5,2] ?_;refine s1 (ixAO Tryz.underlying72 ti_3.h rfl (.inr ⟨rfl,rfl,_,_,rfl⟩) rfl rfl (kI (x:=0) rfl)) ?_;refine z [36,56,1] ?_;refine c ?_ ?_
 . refine sjq (λs72=>[(2,bl s72),(4,.own 102),(10,.own 107)]) (λs72=>[(102,.bx 61 (Kr r7.1)),(107,.bx 70 (Qz r34.1))]) ?_ ?_
   . intro j70 hj71
     refine z [6,32] ?_;refine s1 (bld (l:=[sli 14 (List.map Jy []),Qc (⟨false,[],[]⟩:Qa),sli 3 (List.map Qc [])]) pl_70.h ti_70.h Qah rfl rfl) ?_;refine cb (ca Zi) λr73=>?_;refine z [30] ?_;refine sifd 109 rfl ?_ ?_
     . refine b λr75 h76=>?_;refine og' (c0 (Qbn _ h76)) ?_;refine z [38,31,1] ?_;exact sj (hj71 _) (eR [(102,102),(107,107)])
     refine z [23,37,31,1] ?_;exact sj (hj71 _) (eR [(102,102),(107,107)])
   intro s72
   refine z [8,10] ?_;exact rt []
 refine z [9,4] ?_;refine sjq (λs83=>[(2,bl s83)]) (λs83=>[]) ?_ ?_
 . intro j81 hj82
   refine z [6,32,32] ?_;refine cb (ca Zi) λr84=>?_;refine z [30] ?_;refine sifd 115 rfl ?_ ?_
   . refine b λr86 h87=>?_;refine og' (c0 (Qbn _ h87)) ?_;refine z [38,31,1] ?_;exact sj (hj82 _) (eR [])
   refine z [23,37,31,1] ?_;exact sj (hj82 _) (eR [])
 intro s83
 refine z [8] ?_;exact rt []
end Go.Proofs.YtlihkcaoachkdaaGreatDoor
