import Derived.Test.YtlihkcaoachkdaaGreatDoorGen0
import Derived.Test.YtlihkcaoachkdaaGreatDoorGenA1
import Derived.Test.YtlihkcaoachkdaaGreatDoorGenA2
import Derived.Test.YtlihkcaoachkdaaGreatDoorGenA3
import Derived.Test.YtlihkcaoachkdaaGreatDoorGenA4
import Derived.Test.YtlihkcaoachkdaaGreatDoorGenR1
set_option maxRecDepth 100000
set_option maxHeartbeats 4000000
namespace Go.Proofs.YtlihkcaoachkdaaGreatDoor
open Go Go.RowKit
instance{x}:CIF (Vd x):=⟨CIF.h⟩
instance{x}:CIF (Vr x):=⟨CIF.h⟩
instance{x}:CIF (J1 x):=⟨CIF.h⟩
instance{x}:CIF (Q8 x):=⟨CIF.h⟩
instance{x}:CIF (K2 x):=⟨CIF.h⟩
instance{x}:CIF (Q5 x):=⟨CIF.h⟩
theorem Qes{n:Nat}:∀ r,Zd n =some r->FnOk Tryz.prog 46 [] [] (Q5 r) []:=by
 unfold Zd
 refine fs Tryz.func46 λw S0 γ hγ=>?_;refine z [2] ?_;refine o (al' 100) ?_;refine z [1,2] ?_;refine s1 (bld (l:=[i64 (3:Int),i64 0,i64 0,Qb (⟨(⟨false,[]⟩:Qd),[]⟩:Qa)]) Qy2.h Qlf.h Qjb ⟨_,_,_,(kI (x:=3) rfl),rfl,rfl,rfl,(szk (k:=1) rfl rfl),rfl⟩ rfl) ?_
 refine so (bsl (y:=101) (ls:=List.map Ko ([(⟨(3:Int),0,0,(⟨(⟨false,[]⟩:Qd),[]⟩:Qa)⟩:Q7)]:List Q7)) Tryz.underlying41 Qlf.h rfl rfl rfl rfl rfl ⟨rfl,rfl,(by exact rfl),(by exact rfl),trivial⟩ rfl rfl) ?_
 refine sbm (C:=λx=>.sl 164 6 (List.map Ko x)) 101 rfl λz1=>?_
 refine so (bsl (y:=102) (ls:=List.map i64 ([(0:Int)]:List Int)) Tryz.underlying23 ti_3.h rfl rfl rfl rfl rfl ⟨rfl,(kI (x:=0) rfl),(by exact rfl),(by exact rfl),trivial⟩ rfl rfl) ?_
 refine fz 101 [9] [] ?_;refine fz 102 [10] [] ?_;refine s1 (bld (l:=[sli 6 (List.map Ko z1),sli 1 (List.map i64 ([(0:Int)]:List Int)),i64 (1:Int),i64 0]) pl_43.h ti_43.h Qja ⟨_,_,_,rfl,rfl,rfl,rfl,(szk (k:=1) rfl rfl),⟨_,_,_,rfl,rfl,rfl,rfl,(szk (k:=1) rfl rfl),⟨_,_,_,(kI (x:=1) rfl),rfl,rfl,rfl,(szk (k:=1) rfl rfl),rfl⟩⟩⟩ rfl) ?_;refine o (al' 103) ?_;refine z [34,1,2] ?_;refine cb (ca Qwr) λr2=>?_;refine z [30,35,35] ?_;refine o (al' 104) ?_;refine z [34,31,1,2] ?_;refine cb (ca Qvk) λr4=>?_;refine o (al' 105) ?_;refine z [34,1,2] ?_;refine cb (ca Qjl) λr6=>?_;refine z [30,35,35] ?_;refine o (al' 106) ?_;refine z [34,31,1,2,32,33] ?_;refine o (stP (K2 (⟨r6.1,r4.Safe,r4.Low,r4.High,r4.Least,r4.Fine,r4.Most⟩:Qw)) [0]) ?_;refine z [1,2] ?_;refine cb (ca Kl) λr8=>?_;refine o (al' 107) ?_;refine z [34,1,5] ?_;refine b λr12 h13=>?_;refine sd ?_;refine zd [[103],[104]] ?_;refine dx [24,25] [] (λst mm ⟨a24,a25,_⟩ _=>og (bld (l:=[Kj (⟨z1,([(0:Int)]:List Int),(1:Int),0⟩:Q2),Jl r2.1,sli 3 (List.map Qb []),i64 (200:Int)]) pl_49.h ti_49.h Qbj ⟨_,_,_,(a24.trans rfl),rfl,rfl,rfl,(szk (k:=4) rfl rfl),⟨_,_,_,(a25.trans rfl),rfl,rfl,rfl,(szk (k:=5) rfl rfl),⟨_,_,_,(kI (x:=200) rfl),rfl,rfl,rfl,(szk (k:=1) rfl rfl),rfl⟩⟩⟩ rfl)) ?_;refine zd [[105]] ?_;refine dd [] (λ_ _ _ _=>c0 (Kl _ h13)) ?_;refine zd [[107],[107],[107]] ?_
 refine dx [31] [108] (λst mm ⟨a31,_⟩ ⟨g108,_⟩=>og (toV (bsl (y:=108) (ls:=List.map Qb ([r8]:List Qa)) Tryz.underlying44 ti_53.h rfl rfl rfl rfl rfl ⟨rfl,(a31.trans rfl),(by exact rfl),(by exact rfl),trivial⟩ (g108.trans rfl) rfl) (Vu (f:=Qb) (λ_=>Ju) ([r8]:List Qa)))) ?_
 refine dx [26,27,28,29,30,32] [] (λst mm ⟨a26,a27,a28,a29,a30,a32,_⟩ _=>og (bld (l:=[Q8 (⟨(⟨z1,([(0:Int)]:List Int),(1:Int),0⟩:Q2),r2.1,[],(200:Int)⟩:Ql),K2 (⟨r6.1,r4.Safe,r4.Low,r4.High,r4.Least,r4.Fine,r4.Most⟩:Qw),Qb r12,Qb r8,Qb r8,sli 3 (List.map Qb ([r8]:List Qa))]) pl_57.h ti_57.h Qc7 ⟨_,_,_,(a26.trans rfl),rfl,rfl,rfl,(szk (k:=11) rfl rfl),⟨_,_,_,(a27.trans rfl),rfl,rfl,rfl,(szk (k:=17) rfl rfl),⟨_,_,_,(a28.trans rfl),rfl,rfl,rfl,(szk (k:=3) rfl rfl),⟨_,_,_,(a29.trans rfl),rfl,rfl,rfl,(szk (k:=3) rfl rfl),⟨_,_,_,(a30.trans rfl),rfl,rfl,rfl,(szk (k:=3) rfl rfl),⟨_,_,_,(a32.trans rfl),rfl,rfl,rfl,(szk (k:=1) rfl rfl),rfl⟩⟩⟩⟩⟩⟩ rfl)) ?_;refine zd [[100]] ?_;refine de fol ?_;refine z [4,8] ?_;exact rt []
theorem Vs{n:Nat}:∀ r,Ki n =some r->FnOk Tryz.prog 9 [] [] (bl r) []:=by
 unfold Ki
 refine fs Tryz.func9 λw S0 γ hγ=>?_;refine z [2,31,1,2] ?_;refine cb (ca Qes) λr1=>?_;refine cb (ca Qfb) λr3=>?_;refine z [30,35,35] ?_;refine o (al' 100) ?_;refine o (al' 101) ?_;refine z [34,34,1,2] ?_;refine cb (ca Qjl) λr5=>?_;refine z [30,35,35] ?_;refine o (al' 102) ?_;refine z [34,31,1] ?_;refine sjq (λs23=>[(0,bl s23)]) (λs23=>[]) ?_ ?_
 . intro j21 hj22
   refine sif (λhb24=>?_) (λhb24=>?_)
   . refine sif (λhb25=>?_) (λhb25=>?_)
     . refine b λy26 h27=>?_;refine sif (λhb28=>?_) (λhb28=>?_)
       . refine b λy29 h30=>?_;refine b λr31 h32=>?_;refine sif (λhb33=>?_) (λhb33=>?_)
         . refine b λr34 h35=>?_;refine b λr36 h37=>?_;refine sd ?_;refine zd [[101]] ?_;refine dx [] [] (λst mm _ _=>og (bld (l:=[i64 0,i64 0,i64 0,i64 0]) pl_63.h ti_63.h Qq rfl rfl)) ?_;refine dx [14,15] [] (λst mm ⟨a14,a15,_⟩ _=>og (eqA (p:=(r3.2:Qc)) (q:=((⟨0,0,0,0⟩:Qc):Qc)) Kk rfl eg_63 rfl (a14.trans rfl) (a15.trans rfl))) ?_;refine dd [] (λ_ _ _ _=>obk hb24 ops) ?_;refine zd [[100],[100],[],[],[]] ?_;refine dd [] (λ_ _ _ _=>obk hb25 ops) ?_;refine zd [[100],[100]] ?_;refine dx [23,25] [] (λst mm ⟨a23,a25,_⟩ _=>ogG 23 rfl (a23.trans rfl) (ixR (f:=Qu) Tryz.underlying59 ti_82.h h27 rfl (a25.trans rfl) (kI (x:=0) rfl))) ?_;refine zd [[],[],[],[]] ?_;refine dd [] (λ_ _ _ _=>obk hb28 ops) ?_;refine zd [[100],[100]] ?_;refine dx [31,33] [] (λst mm ⟨a31,a33,_⟩ _=>ogG 31 rfl (a31.trans rfl) (ixR (f:=Qu) Tryz.underlying59 ti_82.h h30 rfl (a33.trans rfl) (kI (x:=0) rfl))) ?_;refine zd [[],[],[102]] ?_;refine dG [] (λ_ _ _ _=>c0 (Jp _ h32)) ?_;refine zd [[]] ?_;refine dd [] (λ_ _ _ _=>obk hb33 ops) ?_;refine zd [[100],[100]] ?_;refine dG [] (λ_ _ _ _=>c0 (Kl _ h35)) ?_;refine dG [] (λ_ _ _ _=>c0 (Jp _ h37)) ?_;refine zd [[],[]] ?_;refine de fol ?_;refine z [4] ?_;exact sj (hj22 _) (eR [])
         refine sd ?_;refine zd [[101]] ?_;refine dx [] [] (λst mm _ _=>og (bld (l:=[i64 0,i64 0,i64 0,i64 0]) pl_63.h ti_63.h Qq rfl rfl)) ?_;refine dx [14,15] [] (λst mm ⟨a14,a15,_⟩ _=>og (eqA (p:=(r3.2:Qc)) (q:=((⟨0,0,0,0⟩:Qc):Qc)) Kk rfl eg_63 rfl (a14.trans rfl) (a15.trans rfl))) ?_;refine dd [] (λ_ _ _ _=>obk hb24 ops) ?_;refine zd [[100],[100],[],[],[]] ?_;refine dd [] (λ_ _ _ _=>obk hb25 ops) ?_;refine zd [[100],[100]] ?_;refine dx [23,25] [] (λst mm ⟨a23,a25,_⟩ _=>ogG 23 rfl (a23.trans rfl) (ixR (f:=Qu) Tryz.underlying59 ti_82.h h27 rfl (a25.trans rfl) (kI (x:=0) rfl))) ?_;refine zd [[],[],[],[]] ?_;refine dd [] (λ_ _ _ _=>obk hb28 ops) ?_;refine zd [[100],[100]] ?_;refine dx [31,33] [] (λst mm ⟨a31,a33,_⟩ _=>ogG 31 rfl (a31.trans rfl) (ixR (f:=Qu) Tryz.underlying59 ti_82.h h30 rfl (a33.trans rfl) (kI (x:=0) rfl))) ?_;refine zd [[],[],[102]] ?_;refine dG [] (λ_ _ _ _=>c0 (Jp _ h32)) ?_;refine zd [[]] ?_;refine dd [] (λ_ _ _ _=>obk hb33 ops) ?_;refine zd [[],[],[],[],[],[]] ?_;refine de fol ?_;refine z [4] ?_;exact sj (hj22 _) (eR [])
       refine sd ?_;refine zd [[101]] ?_;refine dx [] [] (λst mm _ _=>og (bld (l:=[i64 0,i64 0,i64 0,i64 0]) pl_63.h ti_63.h Qq rfl rfl)) ?_;refine dx [14,15] [] (λst mm ⟨a14,a15,_⟩ _=>og (eqA (p:=(r3.2:Qc)) (q:=((⟨0,0,0,0⟩:Qc):Qc)) Kk rfl eg_63 rfl (a14.trans rfl) (a15.trans rfl))) ?_;refine dd [] (λ_ _ _ _=>obk hb24 ops) ?_;refine zd [[100],[100],[],[],[]] ?_;refine dd [] (λ_ _ _ _=>obk hb25 ops) ?_;refine zd [[100],[100],[],[],[],[],[]] ?_;refine dd [] (λ_ _ _ _=>obk hb28 ops) ?_;refine zd [[],[],[],[],[],[],[],[],[],[],[],[],[],[],[]] ?_;refine de fol ?_;refine z [4] ?_;exact sj (hj22 _) (eR [])
     refine sd ?_;refine zd [[101]] ?_;refine dx [] [] (λst mm _ _=>og (bld (l:=[i64 0,i64 0,i64 0,i64 0]) pl_63.h ti_63.h Qq rfl rfl)) ?_;refine dx [14,15] [] (λst mm ⟨a14,a15,_⟩ _=>og (eqA (p:=(r3.2:Qc)) (q:=((⟨0,0,0,0⟩:Qc):Qc)) Kk rfl eg_63 rfl (a14.trans rfl) (a15.trans rfl))) ?_;refine dd [] (λ_ _ _ _=>obk hb24 ops) ?_;refine zd [[100],[100],[],[],[]] ?_;refine dd [] (λ_ _ _ _=>obk hb25 ops) ?_;refine zd [[],[],[],[],[],[],[],[],[],[],[],[],[],[],[],[],[],[],[],[],[],[],[]] ?_;refine de fol ?_;refine z [4] ?_;exact sj (hj22 _) (eR [])
   refine sd ?_;refine zd [[101]] ?_;refine dx [] [] (λst mm _ _=>og (bld (l:=[i64 0,i64 0,i64 0,i64 0]) pl_63.h ti_63.h Qq rfl rfl)) ?_;refine dx [14,15] [] (λst mm ⟨a14,a15,_⟩ _=>og (eqA (p:=(r3.2:Qc)) (q:=((⟨0,0,0,0⟩:Qc):Qc)) Kk rfl eg_63 rfl (a14.trans rfl) (a15.trans rfl))) ?_;refine dd [] (λ_ _ _ _=>obk hb24 ops) ?_;refine zd [[],[],[],[],[],[],[],[],[],[],[],[],[],[],[],[],[],[],[],[],[],[],[],[],[],[],[],[],[]] ?_;refine de fol ?_;refine z [4] ?_;exact sj (hj22 _) (eR [])
 intro s23
 refine z [8] ?_;exact rt []
theorem Jv{x0}:∀ r,Jc x0=some r->FnOk Tryz.prog 49 [Qf x0] [] (Qb r) []:=by
 unfold Jc
 refine fs Tryz.func49 λw S0 γ hγ=>?_;refine z [2] ?_;refine o (bx' 100) ?_;refine o (al' 101) ?_;refine z [1,2,33,36,33,36] ?_;refine s1 (bld (l:=[bl x0.Neg,sli 1 (List.map u32 x0.N)]) pl_51.h ti_51.h Kz ⟨_,_,_,rfl,rfl,rfl,rfl,(szk (k:=1) rfl rfl),⟨_,_,_,rfl,rfl,rfl,rfl,(szk (k:=1) rfl rfl),rfl⟩⟩ rfl) ?_;refine z [33,36] ?_;refine s1 (bld (l:=[Q1 (⟨x0.Neg,x0.N⟩:Qd),sli 1 (List.map u32 x0.D)]) pl_53.h ti_53.h Jm ⟨_,_,_,rfl,rfl,rfl,rfl,(szk (k:=2) rfl rfl),⟨_,_,_,rfl,rfl,rfl,rfl,(szk (k:=1) rfl rfl),rfl⟩⟩ rfl) ?_;refine z [34,1,8] ?_;exact rt []
theorem Qmf{n:Nat}{x0}:∀ r,Yw n x0=some r->FnOk Tryz.prog 94 [Kd x0] [] (Kj r) []:=by
 unfold Yw
 refine fs Tryz.func94 λw S0 γ hγ=>?_;refine z [2] ?_;refine o (bx' 100) ?_;refine o (al' 101) ?_;refine z [1,5] ?_;refine b λy1 h2=>?_;refine sd ?_;refine zd [[100],[100],[100],[100]] ?_;refine dx [] [102] (λst mm _ ⟨g102,_⟩=>og (bsl (y:=102) (ls:=List.map i64 ([]:List Int)) Tryz.underlying23 ti_3.h rfl rfl rfl rfl rfl trivial (g102.trans rfl) rfl)) ?_;refine zd [[100],[100]] ?_;refine dd [102,103] (λ_ _ _ _=>tV (app' 103)) ?_;refine dx [7,9,13] [104] (λst mm ⟨a7,a9,a13,_⟩ ⟨g104,_⟩=>og (bldO (l:=[.own 104,sli 1 (List.map i64 y1),i64 x0.Dim,i64 x0.Par]) [(104,164,6)] pl_43.h ti_43.h (Qho (Kh (c1:=[.slice none 0 0]) (Qf1 rfl) (Kh (c1:=[.slice none 0 0]) (zo_of (Jz (k:=1))) (Kh (c1:=[.int .i64 0]) (zo_of Kg) (Kh (c1:=[.int .i64 0]) (zo_of Kg) (Qfk)))))) ⟨(g104.trans rfl),trivial⟩ rfl ⟨_,_,_,(a7.trans rfl),rfl,rfl,rfl,(szk (k:=1) rfl rfl),⟨_,_,_,(a9.trans rfl),rfl,rfl,rfl,(szk (k:=1) rfl rfl),⟨_,_,_,(a13.trans rfl),rfl,rfl,rfl,(szk (k:=1) rfl rfl),rfl⟩⟩⟩ rfl)) ?_;refine dd [105] (λ_ _ _ _=>al' 105) ?_;refine zd [[105]] ?_;refine de fol ?_;refine z [4,5,2,31,1,7] ?_;refine sloopE 0 (λt=>t) (λs19=>[(1,.own 100),(2,.own 101),(3,.own 105),(4,i64 s19.2)]) (λs19=>[(100,.bx 25 (Kd x0)),(101,.bx 43 (Kj (⟨[],[],0,0⟩:Q2))),(105,.bx 43 (.agg [.own 104,sli 1 (List.map i64 y1),i64 x0.Dim,i64 x0.Par])),(104,.sl 164 6 (List.map Ko s19.1))]) (λt17=>[(2,.own 101),(3,.own 105)]) (λt17=>[(101,.bx 43 (Kj (⟨[],[],0,0⟩:Q2))),(105,.bx 43 (.agg [.own 104,sli 1 (List.map i64 y1),i64 x0.Dim,i64 x0.Par])),(104,.sl 164 6 (List.map Ko t17))]) (eR [(100,100),(101,101),(105,105),(104,104)]) ?_ ?_
 . intro hj18 s19
   refine z [5,2,30,33,36,39,46,1] ?_;refine c ?_ ?_
   . refine z [9,4,5,7,2,33,36,30] ?_;refine b λy20 h21=>?_;refine z [43,42] ?_;refine o (al' 106) ?_;refine z [34,1] ?_;refine b λr22 h23=>?_;refine b λy24 h25=>?_;refine sd ?_;refine zd [[105],[105],[106],[106],[106],[106],[106],[106],[106],[106]] ?_;refine dd [] (λ_ _ _ _=>c0 (Jv _ h23)) ?_;refine dx [30,32,34,37] [] (λst mm ⟨a30,a32,a34,a37,_⟩ _=>og (bld (l:=[i64 y20.Op,i64 y20.A,i64 y20.B,Qb r22]) Qy2.h Qlf.h Qjb ⟨_,_,_,(a30.trans rfl),rfl,rfl,rfl,(szk (k:=1) rfl rfl),⟨_,_,_,(a32.trans rfl),rfl,rfl,rfl,(szk (k:=1) rfl rfl),⟨_,_,_,(a34.trans rfl),rfl,rfl,rfl,(szk (k:=1) rfl rfl),⟨_,_,_,(a37.trans rfl),rfl,rfl,rfl,(szk (k:=3) rfl rfl),rfl⟩⟩⟩⟩ rfl)) ?_
     refine dx [38] [107] (λst mm ⟨a38,_⟩ ⟨g107,_⟩=>og (bsl (y:=107) (ls:=List.map Ko ([(⟨y20.Op,y20.A,y20.B,r22⟩:Q7)]:List Q7)) Tryz.underlying41 Qlf.h rfl rfl rfl rfl rfl ⟨rfl,(a38.trans rfl),(by exact rfl),(by exact rfl),trivial⟩ (g107.trans rfl) rfl)) ?_
     refine dd [104,107,108] (λ_ _ _ _=>app' 108) ?_;refine zd [[105]] ?_;refine dd [105] (λ_ _ _ _=>stP (.agg [.own 108,sli 1 (List.map i64 y1),i64 x0.Dim,i64 x0.Par]) [0]) ?_;refine de fol ?_;refine z [11,4,6,30,40,31,3] ?_;exact sgo (eR [(100,100),(101,101),(105,105),(104,108)])
   refine z [14,15] ?_;exact su (sj (hj18 _) (eR [(101,101),(105,105),(104,104)]))
 intro t17
 refine z [13,4,2,32,34,1,8] ?_;refine fz 104 [42] [101,105] ?_;exact rt []
theorem V1{n:Nat}{x0}:∀ r,Ke n x0=some r->FnOk Tryz.prog 50 [sli 3 (List.map Qf x0)] [] (sli 3 (List.map Qb r)) []:=by
 unfold Ke
 refine fs Tryz.func50 λw S0 γ hγ=>?_;refine z [2] ?_;refine s1 (asg rfl (kLm (k:=3) Qb)) ?_;refine z [1,2] ?_;refine so (asgN (y:=100) (E:=53) (k:=3) rfl rfl) ?_;refine z [1,5,2,31,1,7] ?_;refine sloopE 0 (λt=>t) (λs17=>[(0,sli 3 (List.map Qf x0)),(2,sli 3 (List.map Qb ([]:List Qa))),(3,.own 100),(4,i64 s17.2)]) (λs17=>[(100,.sl 53 3 (List.map Qb s17.1))]) (λt15=>[(2,sli 3 (List.map Qb ([]:List Qa))),(3,.own 100)]) (λt15=>[(100,.sl 53 3 (List.map Qb t15))]) (eR [(100,100)]) ?_ ?_
 . intro hj16 s17
   refine z [5,2,30,30,39,46,1] ?_;refine c ?_ ?_
   . refine z [9,4,5,7,6,30,30,30] ?_;refine b λy18 h19=>?_;refine z [43,42] ?_;refine cb (ca Jv) λr20=>?_
     refine so (bsl (y:=101) (ls:=List.map Qb ([r20]:List Qa)) Tryz.underlying44 ti_53.h rfl rfl rfl rfl rfl ⟨rfl,rfl,(by exact rfl),(by exact rfl),trivial⟩ rfl rfl) ?_
     refine b λy22 h23=>?_;refine o (app' 102) ?_;refine z [31,3,11,4,6,30,40,31,3] ?_;exact sgo (eR [(100,102)])
   refine z [14,15] ?_;exact su (sj (hj16 _) (eR [(100,100)]))
 intro t15
 refine z [13,4,2,30,31,1,8] ?_;refine fz 100 [2,3,19] [] ?_;exact rt []
theorem Qmg{n:Nat}{x0}:∀ r,Yv n x0=some r->FnOk Tryz.prog 165 [sli 1 (List.map Qn x0)] [] (sli 1 (List.map Qg r)) []:=by
 unfold Yv
 refine fs Tryz.func165 λw S0 γ hγ=>?_;refine z [2] ?_;refine s1 (asg rfl (kLm (k:=1) Qg)) ?_;refine z [1,2] ?_;refine so (asgN (y:=100) (E:=44) (k:=1) rfl rfl) ?_;refine z [1,5,2,31,1,7] ?_;refine sloopE 0 (λt=>t) (λs17=>[(0,sli 1 (List.map Qn x0)),(2,sli 1 (List.map Qg ([]:List (List Qa)))),(3,.own 100),(4,i64 s17.2)]) (λs17=>[(100,.sl 44 1 (List.map Qg s17.1))]) (λt15=>[(2,sli 1 (List.map Qg ([]:List (List Qa)))),(3,.own 100)]) (λt15=>[(100,.sl 44 1 (List.map Qg t15))]) (eR [(100,100)]) ?_ ?_
 . intro hj16 s17
   refine z [5,2,30,30,39,46,1] ?_;refine c ?_ ?_
   . refine z [9,4,5,7,6,30,30,30] ?_;refine b λy18 h19=>?_;refine z [43,42] ?_;refine cb (ca V1) λr20=>?_
     refine so (bsl (y:=101) (ls:=List.map Qg ([r20]:List (List Qa))) Tryz.underlying45 ti_44.h rfl rfl rfl rfl rfl ⟨rfl,rfl,(by exact rfl),(by exact rfl),trivial⟩ rfl rfl) ?_
     refine b λy22 h23=>?_;refine o (app' 102) ?_;refine z [31,3,11,4,6,30,40,31,3] ?_;exact sgo (eR [(100,102)])
   refine z [14,15] ?_;exact su (sj (hj16 _) (eR [(100,100)]))
 intro t15
 refine z [13,4,2,30,31,1,8] ?_;refine fz 100 [2,3,19] [] ?_;exact rt []
theorem Qmh{n:Nat}{x0}:∀ r,Qad n x0=some r->FnOk Tryz.prog 95 [Kt x0] [] (Jl r) []:=by
 unfold Qad
 refine fs Tryz.func95 λw S0 γ hγ=>?_;refine z [2] ?_;refine o (bx' 100) ?_;refine o (al' 101) ?_;refine z [1,5] ?_;refine b λr1 h2=>?_;refine b λr3 h4=>?_;refine b λr5 h6=>?_;refine b λr7 h8=>?_;refine sd ?_;refine zd [[100],[100],[100],[100]] ?_;refine dd [] (λ_ _ _ _=>c0 (V1 _ h2)) ?_;refine zd [[100],[100]] ?_;refine dd [] (λ_ _ _ _=>c0 (Qmg _ h4)) ?_;refine zd [[100],[100]] ?_;refine dd [] (λ_ _ _ _=>c0 (V1 _ h6)) ?_;refine zd [[100],[100]] ?_;refine dd [] (λ_ _ _ _=>c0 (V1 _ h8)) ?_;refine dx [4,7,10,13,16] [] (λst mm ⟨a4,a7,a10,a13,a16,_⟩ _=>og (bld (l:=[str x0.Name,sli 3 (List.map Qb r1),sli 1 (List.map Qg r3),sli 3 (List.map Qb r5),sli 3 (List.map Qb r7)]) pl_47.h ti_47.h Yd ⟨_,_,_,(a4.trans rfl),rfl,rfl,rfl,(szk (k:=1) rfl rfl),⟨_,_,_,(a7.trans rfl),rfl,rfl,rfl,(szk (k:=1) rfl rfl),⟨_,_,_,(a10.trans rfl),rfl,rfl,rfl,(szk (k:=1) rfl rfl),⟨_,_,_,(a13.trans rfl),rfl,rfl,rfl,(szk (k:=1) rfl rfl),⟨_,_,_,(a16.trans rfl),rfl,rfl,rfl,(szk (k:=1) rfl rfl),rfl⟩⟩⟩⟩⟩ rfl)) ?_;refine zd [[101]] ?_;refine de fol ?_;refine z [4,8] ?_;exact rt []
theorem Qmi{n:Nat}{x0}:∀ r,Yx n x0=some r->FnOk Tryz.prog 34 [Vd x0] [] (Q8 r) []:=by
 unfold Yx
 refine fs Tryz.func34 λw S0 γ hγ=>?_;refine z [2] ?_;refine o (bx' 100) ?_;refine o (al' 101) ?_;refine z [1,5] ?_;refine b λr1 h2=>?_;refine b λr3 h4=>?_;refine b λr5 h6=>?_;refine sd ?_;refine zd [[100],[100]] ?_;refine dd [] (λ_ _ _ _=>c0 (Qmf _ h2)) ?_;refine zd [[100],[100]] ?_;refine dd [] (λ_ _ _ _=>c0 (Qmh _ h4)) ?_;refine zd [[100],[100]] ?_;refine dd [] (λ_ _ _ _=>c0 (V1 _ h6)) ?_;refine zd [[100],[100]] ?_;refine dx [5,8,11,13] [] (λst mm ⟨a5,a8,a11,a13,_⟩ _=>og (bld (l:=[Kj r1,Jl r3,sli 3 (List.map Qb r5),i64 x0.Bits]) pl_49.h ti_49.h Qbj ⟨_,_,_,(a5.trans rfl),rfl,rfl,rfl,(szk (k:=4) rfl rfl),⟨_,_,_,(a8.trans rfl),rfl,rfl,rfl,(szk (k:=5) rfl rfl),⟨_,_,_,(a11.trans rfl),rfl,rfl,rfl,(szk (k:=1) rfl rfl),⟨_,_,_,(a13.trans rfl),rfl,rfl,rfl,(szk (k:=1) rfl rfl),rfl⟩⟩⟩⟩ rfl)) ?_;refine zd [[101]] ?_;refine de fol ?_;refine z [4,8] ?_;exact rt []
theorem Qmj{x0}:∀ r,Qae x0=some r->FnOk Tryz.prog 48 [Vr x0] [] (K2 r) []:=by
 unfold Qae
 refine fs Tryz.func48 λw S0 γ hγ=>?_;refine z [2] ?_;refine o (bx' 100) ?_;refine o (al' 101) ?_;refine z [1,5] ?_;refine b λr1 h2=>?_;refine b λr3 h4=>?_;refine b λr5 h6=>?_;refine b λr7 h8=>?_;refine b λr9 h10=>?_;refine sd ?_;refine zd [[100],[100]] ?_;refine dd [] (λ_ _ _ _=>c0 (Jv _ h2)) ?_;refine zd [[100],[100]] ?_;refine dd [] (λ_ _ _ _=>c0 (Jv _ h4)) ?_;refine zd [[100],[100]] ?_;refine dd [] (λ_ _ _ _=>c0 (Jv _ h6)) ?_;refine zd [[100],[100]] ?_;refine dd [] (λ_ _ _ _=>c0 (Jv _ h8)) ?_;refine zd [[100],[100]] ?_;refine dd [] (λ_ _ _ _=>c0 (Jv _ h10)) ?_;refine zd [[100],[100],[100],[100]] ?_;refine dx [5,8,11,14,17,19,21] [] (λst mm ⟨a5,a8,a11,a14,a17,a19,a21,_⟩ _=>og (bld (l:=[Qb r1,Qb r3,Qb r5,Qb r7,Qb r9,i64 x0.Fine,i64 x0.Most]) pl_55.h ti_55.h Qfa ⟨_,_,_,(a5.trans rfl),rfl,rfl,rfl,(szk (k:=3) rfl rfl),⟨_,_,_,(a8.trans rfl),rfl,rfl,rfl,(szk (k:=3) rfl rfl),⟨_,_,_,(a11.trans rfl),rfl,rfl,rfl,(szk (k:=3) rfl rfl),⟨_,_,_,(a14.trans rfl),rfl,rfl,rfl,(szk (k:=3) rfl rfl),⟨_,_,_,(a17.trans rfl),rfl,rfl,rfl,(szk (k:=3) rfl rfl),⟨_,_,_,(a19.trans rfl),rfl,rfl,rfl,(szk (k:=1) rfl rfl),⟨_,_,_,(a21.trans rfl),rfl,rfl,rfl,(szk (k:=1) rfl rfl),rfl⟩⟩⟩⟩⟩⟩⟩ rfl)) ?_;refine zd [[101]] ?_;refine de fol ?_;refine z [4,8] ?_;exact rt []
theorem Qcx{n:Nat}{x0}:∀ r,Wv n x0=some r->FnOk Tryz.prog 10 [J1 x0] [] (Q5 r) []:=by
 unfold Wv
 refine fs Tryz.func10 λw S0 γ hγ=>?_;refine z [2] ?_;refine o (bx' 100) ?_;refine o (al' 101) ?_;refine z [1,5] ?_;refine b λr1 h2=>?_;refine b λr3 h4=>?_;refine b λr5 h6=>?_;refine b λr7 h8=>?_;refine b λr9 h10=>?_;refine b λr11 h12=>?_;refine sd ?_;refine zd [[100],[100]] ?_;refine dd [] (λ_ _ _ _=>c0 (Qmi _ h2)) ?_;refine zd [[100],[100]] ?_;refine dd [] (λ_ _ _ _=>c0 (Qmj _ h4)) ?_;refine zd [[100],[100]] ?_;refine dd [] (λ_ _ _ _=>c0 (Jv _ h6)) ?_;refine zd [[100],[100]] ?_;refine dd [] (λ_ _ _ _=>c0 (Jv _ h8)) ?_;refine zd [[100],[100]] ?_;refine dd [] (λ_ _ _ _=>c0 (Jv _ h10)) ?_;refine zd [[100],[100]] ?_;refine dd [] (λ_ _ _ _=>c0 (V1 _ h12)) ?_;refine dx [5,8,11,14,17,20] [] (λst mm ⟨a5,a8,a11,a14,a17,a20,_⟩ _=>og (bld (l:=[Q8 r1,K2 r3,Qb r5,Qb r7,Qb r9,sli 3 (List.map Qb r11)]) pl_57.h ti_57.h Qc7 ⟨_,_,_,(a5.trans rfl),rfl,rfl,rfl,(szk (k:=11) rfl rfl),⟨_,_,_,(a8.trans rfl),rfl,rfl,rfl,(szk (k:=17) rfl rfl),⟨_,_,_,(a11.trans rfl),rfl,rfl,rfl,(szk (k:=3) rfl rfl),⟨_,_,_,(a14.trans rfl),rfl,rfl,rfl,(szk (k:=3) rfl rfl),⟨_,_,_,(a17.trans rfl),rfl,rfl,rfl,(szk (k:=3) rfl rfl),⟨_,_,_,(a20.trans rfl),rfl,rfl,rfl,(szk (k:=1) rfl rfl),rfl⟩⟩⟩⟩⟩⟩ rfl)) ?_;refine zd [[101]] ?_;refine de fol ?_;refine z [4,8] ?_;exact rt []
theorem Qhv{n:Nat}{x0}{x1}:∀ r,Wo n x0 x1=some r->FnOk Tryz.prog 4 [J1 x0,i64 x1] [] (bl r) []:=by
 unfold Wo
 refine fs Tryz.func4 λw S0 γ hγ=>?_;refine z [2] ?_;refine o (bx' 100) ?_;refine z [31,1,5] ?_;refine sjq (λs5=>[(1,i64 x1),(2,.own 100),(4,bl false),(27,bl s5)]) (λs5=>[(100,.bx 38 (J1 x0))]) ?_ ?_
 . intro j3 hj4
   refine z [6,32] ?_;refine cb (ca Qbv) λr6=>?_;refine z [30] ?_;refine sifd 14 rfl ?_ ?_
   . refine z [23,23,38,30,23,23,38,30,23,23,23,23,38,1] ?_;exact sj (hj4 _) (eR [(100,100)])
   refine z [22,22,37,30] ?_;refine sifd 18 rfl ?_ ?_
   . refine z [23,23,38,30,23,23,23,23,38,1] ?_;exact sj (hj4 _) (eR [(100,100)])
   refine z [22,22,37,30] ?_;refine sifd 22 rfl ?_ ?_
   . refine z [23,23,23,23,38,1] ?_;exact sj (hj4 _) (eR [(100,100)])
   refine z [22,22,22,22,37,1] ?_;exact sj (hj4 _) (eR [(100,100)])
 intro s5
 refine c ?_ ?_
 . refine z [2] ?_;refine cb (ca Vs) λr8=>?_;refine z [31,1,8,10] ?_;exact rt []
 refine z [9,4,2,32] ?_;refine cb (ca Qcx) λr10=>?_;refine o (al' 101) ?_;refine z [34,1,2,32] ?_;refine o (al' 102) ?_;refine z [34,1,2,33,45,36,30,40,33,45] ?_;refine o (stP (Q5 (⟨r10.Problem,(⟨r10.Rules.Tol,r10.Rules.Safe,r10.Rules.Low,r10.Rules.High,r10.Rules.Least,r10.Rules.Fine,wrap64 (r10.Rules.Most+x1)⟩:Qw),r10.Start,r10.End,r10.First,r10.Y⟩:Qy)) [1,6]) ?_;refine z [1,2,32] ?_;refine cb (ca Qgl) λr12=>?_;refine z [30,35,35] ?_;refine o (al' 103) ?_;refine o (al' 104) ?_;refine z [34,34,1,2,32] ?_;refine cb (ca Qgl) λr14=>?_;refine z [30,35,35] ?_;refine o (al' 105) ?_;refine o (al' 106) ?_;refine z [34,34,1,5,2,32] ?_;refine cb (ca Qda) λr16=>?_;refine z [44,1] ?_;refine c ?_ ?_
 . refine sjq (λs22=>[(4,bl s22),(7,.own 103),(8,.own 104),(9,.own 105),(10,.own 106)]) (λs22=>[(103,.bx 61 (Qj r12.1)),(104,.bx 63 (Qo r12.2)),(105,.bx 61 (Qj r14.1)),(106,.bx 63 (Qo r14.2))]) ?_ ?_
   . intro j20 hj21
     refine z [6,32] ?_;refine s1 (bld (l:=[i64 (2:Int),i64 0,i64 0,i64 0]) pl_63.h ti_63.h Qq ⟨_,_,_,(kI (x:=2) rfl),rfl,rfl,rfl,(szk (k:=1) rfl rfl),rfl⟩ rfl) ?_;refine s1 (eqA (p:=(r12.2:Qc)) (q:=((⟨(2:Int),0,0,0⟩:Qc):Qc)) Kk rfl eg_63 rfl rfl rfl) ?_;refine z [30] ?_;refine sifd 55 rfl ?_ ?_
     . refine b λr23 h24=>?_;refine og' (c0 (Vs _ h24)) ?_;refine z [38,31,1] ?_;exact sj (hj21 _) (eR [(103,103),(104,104),(105,105),(106,106)])
     refine z [23,37,31,1] ?_;exact sj (hj21 _) (eR [(103,103),(104,104),(105,105),(106,106)])
   intro s22
   refine z [8,10] ?_;exact rt []
 refine z [9,4,5,2,33,36,56,1] ?_;refine c ?_ ?_
 . refine sjq (λs31=>[(4,bl s31),(7,.own 103),(9,.own 105)]) (λs31=>[(103,.bx 61 (Qj r12.1)),(105,.bx 61 (Qj r14.1))]) ?_ ?_
   . intro j29 hj30
     refine z [6,32,32] ?_;refine s1 (eqA (p:=(r14.2:Qc)) (q:=(r12.2:Qc)) Kk rfl eg_63 rfl rfl rfl) ?_;refine z [30] ?_;refine sifd 64 rfl ?_ ?_
     . refine z [22,22] ?_;refine b λr32 h33=>?_;refine og' (c0 (Qk6 _ h33)) ?_;refine z [38,30] ?_;refine sifd 69 rfl ?_ ?_
       . refine b λr34 h35=>?_;refine og' (c0 (Vs _ h35)) ?_;refine z [38,31,1] ?_;exact sj (hj30 _) (eR [(103,103),(105,105)])
       refine z [23,37,31,1] ?_;exact sj (hj30 _) (eR [(103,103),(105,105)])
     refine z [23,23,23,37,30,23,37,31,1] ?_;exact sj (hj30 _) (eR [(103,103),(105,105)])
   intro s31
   refine z [8,10] ?_;exact rt []
 refine z [9,4,5,2,33,36,39,33,36,39,46,1] ?_;refine c ?_ ?_
 . refine z [2,31,1,8,10] ?_;exact rt []
 refine z [9,4,5,2,31,1,7] ?_;refine sloopE 0 Lp.go (λs118=>[(4,bl false),(7,.own 103),(9,.own 105),(11,i64 s118)]) (λs118=>[(103,.bx 61 (Qj r12.1)),(105,.bx 61 (Qj r14.1))]) (λt116=>[(4,bl false)]) (λt116=>[]) (eR [(103,103),(105,105)]) ?_ ?_
 . intro hj117 s118
   refine z [5,2,30,33,36,39,46,1] ?_;refine c ?_ ?_
   . refine z [9,4,5,7] ?_;refine sjq (λs139=>[(4,bl false),(7,.own 103),(9,.own 105),(11,i64 s118),(130,bl s139)]) (λs139=>[(103,.bx 61 (Qj r12.1)),(105,.bx 61 (Qj r14.1))]) ?_ ?_
     . intro j137 hj138
       refine b λy140 h141=>?_;refine b λy142 h143=>?_;refine b λr144 h145=>?_;refine sif (λhb146=>?_) (λhb146=>?_)
       . refine sd ?_;refine zd [[105],[105],[],[],[],[],[103],[103],[],[],[],[]] ?_;refine dd [] (λ_ _ _ _=>c0 (Jp _ h145)) ?_;refine zd [[]] ?_;refine dd [] (λ_ _ _ _=>obk hb146 ops) ?_;refine zd [[],[],[],[],[],[],[],[],[],[],[],[],[],[],[],[],[],[],[],[],[],[],[],[],[],[],[],[],[],[]] ?_;refine de fol ?_;refine z [4] ?_;exact sj (hj138 _) (eR [(103,103),(105,105)])
       refine b λy147 h148=>?_;refine b λy149 h150=>?_;refine b λr151 h152=>?_;refine sif (λhb153=>?_) (λhb153=>?_)
       . refine sd ?_;refine zd [[105],[105],[]] ?_;refine dx [87,88] [] (λst mm ⟨a87,a88,_⟩ _=>og (ixR (f:=Qu) Tryz.underlying59 ti_82.h h141 rfl (a87.trans rfl) (a88.trans rfl))) ?_;refine zd [[],[],[103],[103],[]] ?_;refine dx [93,94] [] (λst mm ⟨a93,a94,_⟩ _=>og (ixR (f:=Qu) Tryz.underlying59 ti_82.h h143 rfl (a93.trans rfl) (a94.trans rfl))) ?_;refine zd [[],[]] ?_;refine dd [] (λ_ _ _ _=>c0 (Jp _ h145)) ?_;refine zd [[]] ?_;refine dd [] (λ_ _ _ _=>obk hb146 ops) ?_;refine zd [[105],[105],[]] ?_;refine dx [100,102,103] [] (λst mm ⟨a100,a102,a103,_⟩ _=>ogG 100 rfl (a100.trans rfl) (ixR (f:=Qu) Tryz.underlying59 ti_82.h h148 rfl (a102.trans rfl) (a103.trans rfl))) ?_;refine zd [[],[],[103],[103],[]] ?_;refine dx [100,108,109] [] (λst mm ⟨a100,a108,a109,_⟩ _=>ogG 100 rfl (a100.trans rfl) (ixR (f:=Qu) Tryz.underlying59 ti_82.h h150 rfl (a108.trans rfl) (a109.trans rfl))) ?_;refine zd [[],[]] ?_;refine dG [] (λ_ _ _ _=>c0 (Jp _ h152)) ?_;refine zd [[],[]] ?_;refine dd [] (λ_ _ _ _=>obk hb153 ops) ?_;refine zd [[],[],[],[],[],[],[],[],[],[],[],[],[],[]] ?_;refine de fol ?_;refine z [4] ?_;exact sj (hj138 _) (eR [(103,103),(105,105)])
       refine b λy154 h155=>?_;refine b λy156 h157=>?_;refine sd ?_;refine zd [[105],[105],[]] ?_;refine dx [87,88] [] (λst mm ⟨a87,a88,_⟩ _=>og (ixR (f:=Qu) Tryz.underlying59 ti_82.h h141 rfl (a87.trans rfl) (a88.trans rfl))) ?_;refine zd [[],[],[103],[103],[]] ?_;refine dx [93,94] [] (λst mm ⟨a93,a94,_⟩ _=>og (ixR (f:=Qu) Tryz.underlying59 ti_82.h h143 rfl (a93.trans rfl) (a94.trans rfl))) ?_;refine zd [[],[]] ?_;refine dd [] (λ_ _ _ _=>c0 (Jp _ h145)) ?_;refine zd [[]] ?_;refine dd [] (λ_ _ _ _=>obk hb146 ops) ?_;refine zd [[105],[105],[]] ?_;refine dx [100,102,103] [] (λst mm ⟨a100,a102,a103,_⟩ _=>ogG 100 rfl (a100.trans rfl) (ixR (f:=Qu) Tryz.underlying59 ti_82.h h148 rfl (a102.trans rfl) (a103.trans rfl))) ?_;refine zd [[],[],[103],[103],[]] ?_;refine dx [100,108,109] [] (λst mm ⟨a100,a108,a109,_⟩ _=>ogG 100 rfl (a100.trans rfl) (ixR (f:=Qu) Tryz.underlying59 ti_82.h h150 rfl (a108.trans rfl) (a109.trans rfl))) ?_;refine zd [[],[]] ?_;refine dG [] (λ_ _ _ _=>c0 (Jp _ h152)) ?_;refine zd [[],[]] ?_;refine dd [] (λ_ _ _ _=>obk hb153 ops) ?_;refine zd [[105],[105],[]] ?_;refine dx [116,118,119] [] (λst mm ⟨a116,a118,a119,_⟩ _=>ogG 116 rfl (a116.trans rfl) (ixR (f:=Qu) Tryz.underlying59 ti_82.h h155 rfl (a118.trans rfl) (a119.trans rfl))) ?_;refine zd [[],[],[103],[103],[]] ?_;refine dx [116,124,125] [] (λst mm ⟨a116,a124,a125,_⟩ _=>ogG 116 rfl (a116.trans rfl) (ixR (f:=Qu) Tryz.underlying59 ti_82.h h157 rfl (a124.trans rfl) (a125.trans rfl))) ?_;refine zd [[],[],[],[]] ?_;refine de fol ?_;refine z [4] ?_;exact sj (hj138 _) (eR [(103,103),(105,105)])
     intro s139
     refine c ?_ ?_
     . refine z [2,31,1,8,12,10] ?_;refine sU ?_;refine z [12,10] ?_;exact rt []
     refine z [9,11,4,6,30,40,31,3] ?_;exact sgo (eR [(103,103),(105,105)])
   refine z [14,15] ?_;exact su (sj (hj117 _) (eR []))
 intro t116
 refine slpk ?_;refine z [13,4,2] ?_;refine cb (ca Vs) λr158=>?_;refine z [31,1,8] ?_;exact rt []
theorem Qmk{n:Nat}{x0}:∀ r,Yy n x0=some r->FnOk Tryz.prog 35 [J8 x0] [] (Qj r) []:=by
 unfold Yy
 refine fs Tryz.func35 λw S0 γ hγ=>?_;refine z [2] ?_;refine o (bx' 100) ?_;refine o (al' 101) ?_;refine z [1,5] ?_;refine b λr1 h2=>?_;refine b λr3 h4=>?_;refine sd ?_;refine zd [[100],[100]] ?_;refine dd [] (λ_ _ _ _=>c0 (Jv _ h2)) ?_;refine zd [[100],[100]] ?_;refine dd [] (λ_ _ _ _=>c0 (V1 _ h4)) ?_;refine dx [8,11] [102] (λst mm ⟨a8,a11,_⟩ ⟨g102,_⟩=>og (bldO (l:=[.own 102,Qb r1,sli 3 (List.map Qb r3)]) [(102,82,14)] pl_61.h ti_61.h (Qho (Kh (c1:=[.slice none 0 0]) (Qf1 rfl) (Kh (c1:=[.bool false,.slice none 0 0,.slice none 0 0]) (zo_of Jm) (Kh (c1:=[.slice none 0 0]) (zo_of (Jz (k:=3))) (Qfk))))) ⟨(g102.trans rfl),trivial⟩ rfl ⟨_,_,_,(a8.trans rfl),rfl,rfl,rfl,(szk (k:=3) rfl rfl),⟨_,_,_,(a11.trans rfl),rfl,rfl,rfl,(szk (k:=1) rfl rfl),rfl⟩⟩ rfl)) ?_;refine dd [103] (λ_ _ _ _=>al' 103) ?_;refine zd [[103]] ?_;refine de fol ?_;refine z [4,5,2,31,1,7] ?_;refine sloopE 0 (λt=>t) (λs37=>[(1,.own 100),(2,.own 101),(3,.own 103),(4,i64 s37.2)]) (λs37=>[(100,.bx 70 (J8 x0)),(101,.bx 61 (Qj (⟨[],(⟨(⟨false,[]⟩:Qd),[]⟩:Qa),[]⟩:Qi))),(103,.bx 61 (.agg [.own 102,Qb r1,sli 3 (List.map Qb r3)])),(102,.sl 82 14 (List.map Qu s37.1))]) (λt35=>[(2,.own 101),(3,.own 103)]) (λt35=>[(101,.bx 61 (Qj (⟨[],(⟨(⟨false,[]⟩:Qd),[]⟩:Qa),[]⟩:Qi))),(103,.bx 61 (.agg [.own 102,Qb r1,sli 3 (List.map Qb r3)])),(102,.sl 82 14 (List.map Qu t35))]) (eR [(100,100),(101,101),(103,103),(102,102)]) ?_ ?_
 . intro hj36 s37
   refine z [5,2,30,33,36,39,46,1] ?_;refine c ?_ ?_
   . refine z [9,4,5,7,2,33,36,30] ?_;refine b λy38 h39=>?_;refine z [43,42] ?_;refine o (al' 104) ?_;refine z [34,1] ?_;refine b λr40 h41=>?_;refine b λr42 h43=>?_;refine b λr44 h45=>?_;refine b λr46 h47=>?_;refine b λr48 h49=>?_;refine b λy50 h51=>?_;refine sd ?_;refine zd [[103],[103],[104],[104]] ?_;refine dd [] (λ_ _ _ _=>c0 (Jv _ h41)) ?_;refine zd [[104],[104]] ?_;refine dd [] (λ_ _ _ _=>c0 (Jv _ h43)) ?_;refine zd [[104],[104]] ?_;refine dd [] (λ_ _ _ _=>c0 (Jv _ h45)) ?_;refine zd [[104],[104]] ?_;refine dd [] (λ_ _ _ _=>c0 (Jv _ h47)) ?_;refine zd [[104],[104]] ?_;refine dd [] (λ_ _ _ _=>c0 (V1 _ h49)) ?_;refine zd [[104],[104]] ?_;refine dx [29,32,35,38,41,43] [] (λst mm ⟨a29,a32,a35,a38,a41,a43,_⟩ _=>og (bld (l:=[Qb r40,Qb r42,Qb r44,Qb r46,sli 3 (List.map Qb r48),bl y38.Ok]) pl_82.h ti_82.h Qdk ⟨_,_,_,(a29.trans rfl),rfl,rfl,rfl,(szk (k:=3) rfl rfl),⟨_,_,_,(a32.trans rfl),rfl,rfl,rfl,(szk (k:=3) rfl rfl),⟨_,_,_,(a35.trans rfl),rfl,rfl,rfl,(szk (k:=3) rfl rfl),⟨_,_,_,(a38.trans rfl),rfl,rfl,rfl,(szk (k:=3) rfl rfl),⟨_,_,_,(a41.trans rfl),rfl,rfl,rfl,(szk (k:=1) rfl rfl),⟨_,_,_,(a43.trans rfl),rfl,rfl,rfl,(szk (k:=1) rfl rfl),rfl⟩⟩⟩⟩⟩⟩ rfl)) ?_
     refine dx [44] [105] (λst mm ⟨a44,_⟩ ⟨g105,_⟩=>og (bsl (y:=105) (ls:=List.map Qu ([(⟨r40,r42,r44,r46,r48,y38.Ok⟩:Qm)]:List Qm)) Tryz.underlying59 ti_82.h rfl rfl rfl rfl rfl ⟨rfl,(a44.trans rfl),(by exact rfl),(by exact rfl),trivial⟩ (g105.trans rfl) rfl)) ?_
     refine dd [102,105,106] (λ_ _ _ _=>app' 106) ?_;refine zd [[103]] ?_;refine dd [103] (λ_ _ _ _=>stP (.agg [.own 106,Qb r1,sli 3 (List.map Qb r3)]) [0]) ?_;refine de fol ?_;refine z [11,4,6,30,40,31,3] ?_;exact sgo (eR [(100,100),(101,101),(103,103),(102,106)])
   refine z [14,15] ?_;exact su (sj (hj36 _) (eR [(101,101),(103,103),(102,102)]))
 intro t35
 refine z [13,4,2,32,34,1,8] ?_;refine fz 102 [48] [101,103] ?_;exact rt []
theorem Ze{n:Nat}:∀ r,Jt n =some r->FnOk Tryz.prog 40 [] [] (bl r) []:=by
 unfold Jt
 refine fs Tryz.func40 λw S0 γ hγ=>?_;refine z [2,31,1,2] ?_;refine cb (ca Qes) λr1=>?_;refine o (al' 100) ?_;refine z [34,1,2,32] ?_;refine cb (ca Qfb) λr3=>?_;refine z [30,35,35] ?_;refine o (al' 101) ?_;refine o (al' 102) ?_;refine z [34,34,1,2,32] ?_;refine o (al' 103) ?_;refine z [34,1,2] ?_;refine cb (ca Kl) λr5=>?_;refine z [33,45] ?_;refine o (stP (Q5 (⟨r1.Problem,(⟨r5,r1.Rules.Safe,r1.Rules.Low,r1.Rules.High,r1.Rules.Least,r1.Rules.Fine,r1.Rules.Most⟩:Qw),r1.Start,r1.End,r1.First,r1.Y⟩:Qy)) [1,0]) ?_;refine z [1] ?_;refine sjq (λs13=>[(0,bl s13)]) (λs13=>[]) ?_ ?_
 . intro j11 hj12
   refine z [6,32] ?_;refine s1 (bld (l:=[i64 0,i64 0,i64 0,i64 0]) pl_63.h ti_63.h Qq rfl rfl) ?_;refine s1 (eqA (p:=(r3.2:Qc)) (q:=((⟨0,0,0,0⟩:Qc):Qc)) Kk rfl eg_63 rfl rfl rfl) ?_;refine z [30] ?_;refine sifd 18 rfl ?_ ?_
   . refine z [22,22] ?_;refine b λr14 h15=>?_;refine og' (c0 (Qjq _ h15)) ?_;refine z [38,30] ?_;refine sifd 23 rfl ?_ ?_
     . refine z [22,22] ?_;refine b λr16 h17=>?_;refine og' (c0 (Qqu _ h17)) ?_;refine sg 23 rfl rfl (bld (l:=[i64 (8:Int),i64 0]) Qe6.h Qc8.h Vl ⟨_,_,_,(kI (x:=8) rfl),rfl,rfl,rfl,(szk (k:=1) rfl rfl),rfl⟩ rfl) ?_;refine sg 23 rfl rfl (eqA (p:=(r16:Qv)) (q:=((⟨(8:Int),0⟩:Qv):Qv)) Ql6 rfl Qqn rfl rfl rfl) ?_;refine z [38,31,1] ?_;exact sj (hj12 _) (eR [])
     refine z [23,23,23,23,23,37,31,1] ?_;exact sj (hj12 _) (eR [])
   refine z [23,23,23,37,30,23,23,23,23,23,37,31,1] ?_;exact sj (hj12 _) (eR [])
 intro s13
 refine z [8] ?_;exact rt []
theorem Qgv{n:Nat}{x0}{x1}:∀ r,V9 n x0 x1=some r->FnOk Tryz.prog 7 [J1 x0,J8 x1] [] (bl r) []:=by
 unfold V9
 refine fs Tryz.func7 λw S0 γ hγ=>?_;refine z [2] ?_;refine o (bx' 100) ?_;refine o (bx' 101) ?_;refine z [31,1,5] ?_;refine sjq (λs7=>[(2,.own 100),(3,.own 101),(4,bl false),(18,bl s7)]) (λs7=>[(100,.bx 38 (J1 x0)),(101,.bx 70 (J8 x1))]) ?_ ?_
 . intro j5 hj6
   refine z [6,32] ?_;refine cb (ca Qbv) λr8=>?_;refine z [30] ?_;refine sifd 15 rfl ?_ ?_
   . refine z [23,23,38,1] ?_;exact sj (hj6 _) (eR [(100,100),(101,101)])
   refine z [22] ?_;refine b λr10 h11=>?_;refine og' (c0 (Qk7 _ h11)) ?_;refine z [37,1] ?_;exact sj (hj6 _) (eR [(100,100),(101,101)])
 intro s7
 refine c ?_ ?_
 . refine z [2] ?_;refine cb (ca Ze) λr12=>?_;refine z [31,1,8,10] ?_;exact rt []
 refine z [9,4,2,32] ?_;refine cb (ca Qcx) λr14=>?_;refine o (al' 102) ?_;refine z [34,1,2,32] ?_;refine cb (ca Qmk) λr16=>?_;refine o (al' 103) ?_;refine z [34,1,2,32] ?_;refine cb (ca Qfb) λr18=>?_;refine z [30,35,35] ?_;refine o (al' 104) ?_;refine o (al' 105) ?_;refine z [34,34,1,5] ?_;refine sjq (λs24=>[(4,bl false),(5,.own 102),(6,.own 103),(7,.own 104),(8,.own 105),(37,bl s24)]) (λs24=>[(102,.bx 57 (Q5 r14)),(103,.bx 61 (Qj r16)),(104,.bx 61 (Qj r18.1)),(105,.bx 63 (Qo r18.2))]) ?_ ?_
 . intro j22 hj23
   refine z [6,32] ?_;refine s1 (bld (l:=[i64 0,i64 0,i64 0,i64 0]) pl_63.h ti_63.h Qq rfl rfl) ?_;refine s1 (eqA (p:=(r18.2:Qc)) (q:=((⟨0,0,0,0⟩:Qc):Qc)) Kk rfl eg_63 rfl rfl rfl) ?_;refine z [30] ?_;refine sifd 32 rfl ?_ ?_
   . refine z [22,22] ?_;refine b λr25 h26=>?_;refine og' (c0 (Qjq _ h26)) ?_;refine z [22,38,1] ?_;exact sj (hj23 _) (eR [(102,102),(103,103),(104,104),(105,105)])
   refine z [23,23,23,23,37,1] ?_;exact sj (hj23 _) (eR [(102,102),(103,103),(104,104),(105,105)])
 intro s24
 refine c ?_ ?_
 . refine z [2,31,1,8,10] ?_;exact rt []
 refine z [9,4,5,2,32,32] ?_;refine cb (ca Qjq) λr27=>?_;refine z [1] ?_;refine c ?_ ?_
 . refine sjq (λs35=>[(4,bl s35),(5,.own 102)]) (λs35=>[(102,.bx 57 (Q5 r14))]) ?_ ?_
   . intro j33 hj34
     refine z [6,32] ?_;refine s1 (bld (l:=[i64 0,i64 0,i64 0,i64 0]) pl_63.h ti_63.h Qq rfl rfl) ?_;refine s1 (eqA (p:=(r18.2:Qc)) (q:=((⟨0,0,0,0⟩:Qc):Qc)) Kk rfl eg_63 rfl rfl rfl) ?_;refine z [30] ?_;refine sifd 44 rfl ?_ ?_
     . refine z [22,22] ?_;refine b λr36 h37=>?_;refine og' (c0 (Qk6 _ h37)) ?_;refine z [38,30] ?_;refine sifd 49 rfl ?_ ?_
       . refine b λr38 h39=>?_;refine og' (c0 (Ze _ h39)) ?_;refine z [38,31,1] ?_;exact sj (hj34 _) (eR [(102,102)])
       refine z [23,37,31,1] ?_;exact sj (hj34 _) (eR [(102,102)])
     refine z [23,23,23,37,30,23,37,31,1] ?_;exact sj (hj34 _) (eR [(102,102)])
   intro s35
   refine z [8,10] ?_;exact rt []
 refine z [9,4,2,32] ?_;refine cb (ca Qgl) λr40=>?_;refine z [30,35,35] ?_;refine o (al' 106) ?_;refine o (al' 107) ?_;refine z [34,34,1,2,32,32] ?_;refine cb (ca Qvx) λr42=>?_;refine z [30,35,35] ?_;refine o (al' 108) ?_;refine z [34,31,1] ?_;refine sjq (λs54=>[(4,bl s54)]) (λs54=>[]) ?_ ?_
 . intro j52 hj53
   refine z [6,32] ?_;refine cb (ca Qda) λr55=>?_;refine z [44,30] ?_;refine sifd 66 rfl ?_ ?_
   . refine z [23,23,24,24,24,23,38,30] ?_;refine b λr57 h58=>?_;refine og' (c0 (Ze _ h58)) ?_;refine z [38,31,1] ?_;exact sj (hj53 _) (eR [])
   refine z [22,22] ?_;refine sifd 68 rfl ?_ ?_
   . refine z [22,22] ?_;refine b λr59 h60=>?_;refine og' (c0 (Qk6 _ h60)) ?_;refine z [22,37,30] ?_;refine sifd 74 rfl ?_ ?_
     . refine b λr61 h62=>?_;refine og' (c0 (Ze _ h62)) ?_;refine z [38,31,1] ?_;exact sj (hj53 _) (eR [])
     refine z [23,37,31,1] ?_;exact sj (hj53 _) (eR [])
   refine z [23,23,23,22,37,30,23,37,31,1] ?_;exact sj (hj53 _) (eR [])
 intro s54
 refine z [8] ?_;exact rt []
end Go.Proofs.YtlihkcaoachkdaaGreatDoor
