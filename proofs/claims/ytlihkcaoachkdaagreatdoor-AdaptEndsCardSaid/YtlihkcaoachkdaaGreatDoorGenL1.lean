import Derived.Test.YtlihkcaoachkdaaGreatDoorGen0
import Derived.Test.YtlihkcaoachkdaaGreatDoorGenA1
import Derived.Test.YtlihkcaoachkdaaGreatDoorGenA2
import Derived.Test.YtlihkcaoachkdaaGreatDoorGenA3
import Derived.Test.YtlihkcaoachkdaaGreatDoorGenA4
import Derived.Test.YtlihkcaoachkdaaGreatDoorGenR1
set_option maxRecDepth 100000
set_option maxHeartbeats 4000000
namespace Go.Proofs.YtlihkcaoachkdaaGreatDoor
open Go Go.RowKit
instance{x}:CIF (W6 x):=⟨CIF.h⟩
instance{x}:CIF (Xp x):=⟨CIF.h⟩
instance{x}:CIF (K6 x):=⟨CIF.h⟩
instance{x}:CIF (Qv x):=⟨CIF.h⟩
instance{x}:CIF (Kb x):=⟨CIF.h⟩
instance{x}:CIF (Ja x):=⟨CIF.h⟩
theorem Qhh{n:Nat}:∀ r,Za n =some r->FnOk Tryz.prog 46 [] [] (Ja r) []:=by
 unfold Za
 refine fs Tryz.func46 λw S0 γ hγ=>?_;refine z [2] ?_;refine o (al' 100) ?_;refine z [1,2] ?_;refine s1 (bld (l:=[i64 (3:Int),i64 0,i64 0,Qb (⟨(⟨false,[]⟩:Qd),[]⟩:Qa)]) Qu6.h Qij.h Qgz ⟨_,_,_,(kI (x:=3) rfl),rfl,rfl,rfl,(szk (k:=1) rfl rfl),rfl⟩ rfl) ?_
 refine so (bsl (y:=101) (ls:=List.map Jy ([(⟨(3:Int),0,0,(⟨(⟨false,[]⟩:Qd),[]⟩:Qa)⟩:Qs)]:List Qs)) Tryz.underlying41 Qij.h rfl rfl rfl rfl rfl ⟨rfl,rfl,(by exact rfl),(by exact rfl),trivial⟩ rfl rfl) ?_
 refine sbm (C:=λx=>.sl 164 6 (List.map Jy x)) 101 rfl λz1=>?_
 refine so (bsl (y:=102) (ls:=List.map i64 ([(0:Int)]:List Int)) Tryz.underlying23 ti_3.h rfl rfl rfl rfl rfl ⟨rfl,(kI (x:=0) rfl),(by exact rfl),(by exact rfl),trivial⟩ rfl rfl) ?_
 refine fz 101 [9] [] ?_;refine fz 102 [10] [] ?_;refine s1 (bld (l:=[sli 6 (List.map Jy z1),sli 1 (List.map i64 ([(0:Int)]:List Int)),i64 (1:Int),i64 0]) pl_43.h ti_43.h Qgy ⟨_,_,_,rfl,rfl,rfl,rfl,(szk (k:=1) rfl rfl),⟨_,_,_,rfl,rfl,rfl,rfl,(szk (k:=1) rfl rfl),⟨_,_,_,(kI (x:=1) rfl),rfl,rfl,rfl,(szk (k:=1) rfl rfl),rfl⟩⟩⟩ rfl) ?_;refine o (al' 103) ?_;refine z [34,1,2] ?_;refine cb (ca Qsx) λr2=>?_;refine z [30,35,35] ?_;refine o (al' 104) ?_;refine z [34,31,1,2] ?_;refine cb (ca Qro) λr4=>?_;refine o (al' 105) ?_;refine z [34,1,2] ?_;refine cb (ca Qg6) λr6=>?_;refine z [30,35,35] ?_;refine o (al' 106) ?_;refine z [34,31,1,2,32,33] ?_;refine o (stP (Kb (⟨r6.1,r4.Safe,r4.Low,r4.High,r4.Least,r4.Fine,r4.Most⟩:Qu)) [0]) ?_;refine z [1,2] ?_;refine cb (ca J3) λr8=>?_;refine o (al' 107) ?_;refine z [34,1,5] ?_;refine b λr12 h13=>?_;refine sd ?_;refine zd [[103],[104]] ?_;refine dx [24,25] [] (λst mm ⟨a24,a25,_⟩ _=>og (bld (l:=[Ju (⟨z1,([(0:Int)]:List Int),(1:Int),0⟩:Qr),Q3 r2.1,sli 3 (List.map Qb []),i64 (200:Int)]) pl_49.h ti_49.h Zt ⟨_,_,_,(a24.trans rfl),rfl,rfl,rfl,(szk (k:=4) rfl rfl),⟨_,_,_,(a25.trans rfl),rfl,rfl,rfl,(szk (k:=5) rfl rfl),⟨_,_,_,(kI (x:=200) rfl),rfl,rfl,rfl,(szk (k:=1) rfl rfl),rfl⟩⟩⟩ rfl)) ?_;refine zd [[105]] ?_;refine dd [] (λ_ _ _ _=>c0 (J3 _ h13)) ?_;refine zd [[107],[107],[107]] ?_
 refine dx [31] [108] (λst mm ⟨a31,_⟩ ⟨g108,_⟩=>og (toV (bsl (y:=108) (ls:=List.map Qb ([r8]:List Qa)) Tryz.underlying44 ti_53.h rfl rfl rfl rfl rfl ⟨rfl,(a31.trans rfl),(by exact rfl),(by exact rfl),trivial⟩ (g108.trans rfl) rfl) (K1 (f:=Qb) (λ_=>Jd) ([r8]:List Qa)))) ?_
 refine dx [26,27,28,29,30,32] [] (λst mm ⟨a26,a27,a28,a29,a30,a32,_⟩ _=>og (bld (l:=[Qv (⟨(⟨z1,([(0:Int)]:List Int),(1:Int),0⟩:Qr),r2.1,[],(200:Int)⟩:Qg),Kb (⟨r6.1,r4.Safe,r4.Low,r4.High,r4.Least,r4.Fine,r4.Most⟩:Qu),Qb r12,Qb r8,Qb r8,sli 3 (List.map Qb ([r8]:List Qa))]) pl_57.h ti_57.h Qdb ⟨_,_,_,(a26.trans rfl),rfl,rfl,rfl,(szk (k:=11) rfl rfl),⟨_,_,_,(a27.trans rfl),rfl,rfl,rfl,(szk (k:=17) rfl rfl),⟨_,_,_,(a28.trans rfl),rfl,rfl,rfl,(szk (k:=3) rfl rfl),⟨_,_,_,(a29.trans rfl),rfl,rfl,rfl,(szk (k:=3) rfl rfl),⟨_,_,_,(a30.trans rfl),rfl,rfl,rfl,(szk (k:=3) rfl rfl),⟨_,_,_,(a32.trans rfl),rfl,rfl,rfl,(szk (k:=1) rfl rfl),rfl⟩⟩⟩⟩⟩⟩ rfl)) ?_;refine zd [[100]] ?_;refine de fol ?_;refine z [4,8] ?_;exact rt []
theorem Zc{n:Nat}:∀ r,Vn n =some r->FnOk Tryz.prog 9 [] [] (bl r) []:=by
 unfold Vn
 refine fs Tryz.func9 λw S0 γ hγ=>?_;refine z [2,31,1,2] ?_;refine cb (ca Qhh) λr1=>?_;refine cb (ca Qju) λr3=>?_;refine z [30,35,35] ?_;refine o (al' 100) ?_;refine o (al' 101) ?_;refine z [34,34,1,2] ?_;refine cb (ca Qg6) λr5=>?_;refine z [30,35,35] ?_;refine o (al' 102) ?_;refine z [34,31,1] ?_;refine sjq (λs23=>[(0,bl s23)]) (λs23=>[]) ?_ ?_
 . intro j21 hj22
   refine sif (λhb24=>?_) (λhb24=>?_)
   . refine sif (λhb25=>?_) (λhb25=>?_)
     . refine b λy26 h27=>?_;refine sif (λhb28=>?_) (λhb28=>?_)
       . refine b λy29 h30=>?_;refine b λr31 h32=>?_;refine sif (λhb33=>?_) (λhb33=>?_)
         . refine b λr34 h35=>?_;refine b λr36 h37=>?_;refine sd ?_;refine zd [[101]] ?_;refine dx [] [] (λst mm _ _=>og (bld (l:=[i64 0,i64 0,i64 0,i64 0]) pl_63.h ti_63.h Ql rfl rfl)) ?_;refine dx [14,15] [] (λst mm ⟨a14,a15,_⟩ _=>og (eqA (p:=(r3.2:Qc)) (q:=((⟨0,0,0,0⟩:Qc):Qc)) J9 rfl eg_63 rfl (a14.trans rfl) (a15.trans rfl))) ?_;refine dd [] (λ_ _ _ _=>obk hb24 ops) ?_;refine zd [[100],[100],[],[],[]] ?_;refine dd [] (λ_ _ _ _=>obk hb25 ops) ?_;refine zd [[100],[100]] ?_;refine dx [23,25] [] (λst mm ⟨a23,a25,_⟩ _=>ogG 23 rfl (a23.trans rfl) (ixR (f:=Qz) Tryz.underlying59 ti_82.h h27 rfl (a25.trans rfl) (kI (x:=0) rfl))) ?_;refine zd [[],[],[],[]] ?_;refine dd [] (λ_ _ _ _=>obk hb28 ops) ?_;refine zd [[100],[100]] ?_;refine dx [31,33] [] (λst mm ⟨a31,a33,_⟩ _=>ogG 31 rfl (a31.trans rfl) (ixR (f:=Qz) Tryz.underlying59 ti_82.h h30 rfl (a33.trans rfl) (kI (x:=0) rfl))) ?_;refine zd [[],[],[102]] ?_;refine dG [] (λ_ _ _ _=>c0 (J7 _ h32)) ?_;refine zd [[]] ?_;refine dd [] (λ_ _ _ _=>obk hb33 ops) ?_;refine zd [[100],[100]] ?_;refine dG [] (λ_ _ _ _=>c0 (J3 _ h35)) ?_;refine dG [] (λ_ _ _ _=>c0 (J7 _ h37)) ?_;refine zd [[],[]] ?_;refine de fol ?_;refine z [4] ?_;exact sj (hj22 _) (eR [])
         refine sd ?_;refine zd [[101]] ?_;refine dx [] [] (λst mm _ _=>og (bld (l:=[i64 0,i64 0,i64 0,i64 0]) pl_63.h ti_63.h Ql rfl rfl)) ?_;refine dx [14,15] [] (λst mm ⟨a14,a15,_⟩ _=>og (eqA (p:=(r3.2:Qc)) (q:=((⟨0,0,0,0⟩:Qc):Qc)) J9 rfl eg_63 rfl (a14.trans rfl) (a15.trans rfl))) ?_;refine dd [] (λ_ _ _ _=>obk hb24 ops) ?_;refine zd [[100],[100],[],[],[]] ?_;refine dd [] (λ_ _ _ _=>obk hb25 ops) ?_;refine zd [[100],[100]] ?_;refine dx [23,25] [] (λst mm ⟨a23,a25,_⟩ _=>ogG 23 rfl (a23.trans rfl) (ixR (f:=Qz) Tryz.underlying59 ti_82.h h27 rfl (a25.trans rfl) (kI (x:=0) rfl))) ?_;refine zd [[],[],[],[]] ?_;refine dd [] (λ_ _ _ _=>obk hb28 ops) ?_;refine zd [[100],[100]] ?_;refine dx [31,33] [] (λst mm ⟨a31,a33,_⟩ _=>ogG 31 rfl (a31.trans rfl) (ixR (f:=Qz) Tryz.underlying59 ti_82.h h30 rfl (a33.trans rfl) (kI (x:=0) rfl))) ?_;refine zd [[],[],[102]] ?_;refine dG [] (λ_ _ _ _=>c0 (J7 _ h32)) ?_;refine zd [[]] ?_;refine dd [] (λ_ _ _ _=>obk hb33 ops) ?_;refine zd [[],[],[],[],[],[]] ?_;refine de fol ?_;refine z [4] ?_;exact sj (hj22 _) (eR [])
       refine sd ?_;refine zd [[101]] ?_;refine dx [] [] (λst mm _ _=>og (bld (l:=[i64 0,i64 0,i64 0,i64 0]) pl_63.h ti_63.h Ql rfl rfl)) ?_;refine dx [14,15] [] (λst mm ⟨a14,a15,_⟩ _=>og (eqA (p:=(r3.2:Qc)) (q:=((⟨0,0,0,0⟩:Qc):Qc)) J9 rfl eg_63 rfl (a14.trans rfl) (a15.trans rfl))) ?_;refine dd [] (λ_ _ _ _=>obk hb24 ops) ?_;refine zd [[100],[100],[],[],[]] ?_;refine dd [] (λ_ _ _ _=>obk hb25 ops) ?_;refine zd [[100],[100],[],[],[],[],[]] ?_;refine dd [] (λ_ _ _ _=>obk hb28 ops) ?_;refine zd [[],[],[],[],[],[],[],[],[],[],[],[],[],[],[]] ?_;refine de fol ?_;refine z [4] ?_;exact sj (hj22 _) (eR [])
     refine sd ?_;refine zd [[101]] ?_;refine dx [] [] (λst mm _ _=>og (bld (l:=[i64 0,i64 0,i64 0,i64 0]) pl_63.h ti_63.h Ql rfl rfl)) ?_;refine dx [14,15] [] (λst mm ⟨a14,a15,_⟩ _=>og (eqA (p:=(r3.2:Qc)) (q:=((⟨0,0,0,0⟩:Qc):Qc)) J9 rfl eg_63 rfl (a14.trans rfl) (a15.trans rfl))) ?_;refine dd [] (λ_ _ _ _=>obk hb24 ops) ?_;refine zd [[100],[100],[],[],[]] ?_;refine dd [] (λ_ _ _ _=>obk hb25 ops) ?_;refine zd [[],[],[],[],[],[],[],[],[],[],[],[],[],[],[],[],[],[],[],[],[],[],[]] ?_;refine de fol ?_;refine z [4] ?_;exact sj (hj22 _) (eR [])
   refine sd ?_;refine zd [[101]] ?_;refine dx [] [] (λst mm _ _=>og (bld (l:=[i64 0,i64 0,i64 0,i64 0]) pl_63.h ti_63.h Ql rfl rfl)) ?_;refine dx [14,15] [] (λst mm ⟨a14,a15,_⟩ _=>og (eqA (p:=(r3.2:Qc)) (q:=((⟨0,0,0,0⟩:Qc):Qc)) J9 rfl eg_63 rfl (a14.trans rfl) (a15.trans rfl))) ?_;refine dd [] (λ_ _ _ _=>obk hb24 ops) ?_;refine zd [[],[],[],[],[],[],[],[],[],[],[],[],[],[],[],[],[],[],[],[],[],[],[],[],[],[],[],[],[]] ?_;refine de fol ?_;refine z [4] ?_;exact sj (hj22 _) (eR [])
 intro s23
 refine z [8] ?_;exact rt []
theorem J8{x0}:∀ r,Je x0=some r->FnOk Tryz.prog 49 [Qo x0] [] (Qb r) []:=by
 unfold Je
 refine fs Tryz.func49 λw S0 γ hγ=>?_;refine z [2] ?_;refine o (bx' 100) ?_;refine o (al' 101) ?_;refine z [1,2,33,36,33,36] ?_;refine s1 (bld (l:=[bl x0.Neg,sli 1 (List.map u32 x0.N)]) pl_51.h ti_51.h J4 ⟨_,_,_,rfl,rfl,rfl,rfl,(szk (k:=1) rfl rfl),⟨_,_,_,rfl,rfl,rfl,rfl,(szk (k:=1) rfl rfl),rfl⟩⟩ rfl) ?_;refine z [33,36] ?_;refine s1 (bld (l:=[Qq (⟨x0.Neg,x0.N⟩:Qd),sli 1 (List.map u32 x0.D)]) pl_53.h ti_53.h Jb ⟨_,_,_,rfl,rfl,rfl,rfl,(szk (k:=2) rfl rfl),⟨_,_,_,rfl,rfl,rfl,rfl,(szk (k:=1) rfl rfl),rfl⟩⟩ rfl) ?_;refine z [34,1,8] ?_;exact rt []
theorem Qja{n:Nat}{x0}:∀ r,Xg n x0=some r->FnOk Tryz.prog 94 [Kr x0] [] (Ju r) []:=by
 unfold Xg
 refine fs Tryz.func94 λw S0 γ hγ=>?_;refine z [2] ?_;refine o (bx' 100) ?_;refine o (al' 101) ?_;refine z [1,5] ?_;refine b λy1 h2=>?_;refine sd ?_;refine zd [[100],[100],[100],[100]] ?_;refine dx [] [102] (λst mm _ ⟨g102,_⟩=>og (bsl (y:=102) (ls:=List.map i64 ([]:List Int)) Tryz.underlying23 ti_3.h rfl rfl rfl rfl rfl trivial (g102.trans rfl) rfl)) ?_;refine zd [[100],[100]] ?_;refine dd [102,103] (λ_ _ _ _=>tV (app' 103)) ?_;refine dx [7,9,13] [104] (λst mm ⟨a7,a9,a13,_⟩ ⟨g104,_⟩=>og (bldO (l:=[.own 104,sli 1 (List.map i64 y1),i64 x0.Dim,i64 x0.Par]) [(104,164,6)] pl_43.h ti_43.h (Qih (Kj (c1:=[.slice none 0 0]) (Qgu rfl) (Kj (c1:=[.slice none 0 0]) (zo_of (Kv (k:=1))) (Kj (c1:=[.int .i64 0]) (zo_of Vj) (Kj (c1:=[.int .i64 0]) (zo_of Vj) (Qgn)))))) ⟨(g104.trans rfl),trivial⟩ rfl ⟨_,_,_,(a7.trans rfl),rfl,rfl,rfl,(szk (k:=1) rfl rfl),⟨_,_,_,(a9.trans rfl),rfl,rfl,rfl,(szk (k:=1) rfl rfl),⟨_,_,_,(a13.trans rfl),rfl,rfl,rfl,(szk (k:=1) rfl rfl),rfl⟩⟩⟩ rfl)) ?_;refine dd [105] (λ_ _ _ _=>al' 105) ?_;refine zd [[105]] ?_;refine de fol ?_;refine z [4,5,2,31,1,7] ?_;refine sloopE 0 (λt=>t) (λs19=>[(1,.own 100),(2,.own 101),(3,.own 105),(4,i64 s19.2)]) (λs19=>[(100,.bx 25 (Kr x0)),(101,.bx 43 (Ju (⟨[],[],0,0⟩:Qr))),(105,.bx 43 (.agg [.own 104,sli 1 (List.map i64 y1),i64 x0.Dim,i64 x0.Par])),(104,.sl 164 6 (List.map Jy s19.1))]) (λt17=>[(2,.own 101),(3,.own 105)]) (λt17=>[(101,.bx 43 (Ju (⟨[],[],0,0⟩:Qr))),(105,.bx 43 (.agg [.own 104,sli 1 (List.map i64 y1),i64 x0.Dim,i64 x0.Par])),(104,.sl 164 6 (List.map Jy t17))]) (eR [(100,100),(101,101),(105,105),(104,104)]) ?_ ?_
 . intro hj18 s19
   refine z [5,2,30,33,36,39,46,1] ?_;refine c ?_ ?_
   . refine z [9,4,5,7,2,33,36,30] ?_;refine b λy20 h21=>?_;refine z [43,42] ?_;refine o (al' 106) ?_;refine z [34,1] ?_;refine b λr22 h23=>?_;refine b λy24 h25=>?_;refine sd ?_;refine zd [[105],[105],[106],[106],[106],[106],[106],[106],[106],[106]] ?_;refine dd [] (λ_ _ _ _=>c0 (J8 _ h23)) ?_;refine dx [30,32,34,37] [] (λst mm ⟨a30,a32,a34,a37,_⟩ _=>og (bld (l:=[i64 y20.Op,i64 y20.A,i64 y20.B,Qb r22]) Qu6.h Qij.h Qgz ⟨_,_,_,(a30.trans rfl),rfl,rfl,rfl,(szk (k:=1) rfl rfl),⟨_,_,_,(a32.trans rfl),rfl,rfl,rfl,(szk (k:=1) rfl rfl),⟨_,_,_,(a34.trans rfl),rfl,rfl,rfl,(szk (k:=1) rfl rfl),⟨_,_,_,(a37.trans rfl),rfl,rfl,rfl,(szk (k:=3) rfl rfl),rfl⟩⟩⟩⟩ rfl)) ?_
     refine dx [38] [107] (λst mm ⟨a38,_⟩ ⟨g107,_⟩=>og (bsl (y:=107) (ls:=List.map Jy ([(⟨y20.Op,y20.A,y20.B,r22⟩:Qs)]:List Qs)) Tryz.underlying41 Qij.h rfl rfl rfl rfl rfl ⟨rfl,(a38.trans rfl),(by exact rfl),(by exact rfl),trivial⟩ (g107.trans rfl) rfl)) ?_
     refine dd [104,107,108] (λ_ _ _ _=>app' 108) ?_;refine zd [[105]] ?_;refine dd [105] (λ_ _ _ _=>stP (.agg [.own 108,sli 1 (List.map i64 y1),i64 x0.Dim,i64 x0.Par]) [0]) ?_;refine de fol ?_;refine z [11,4,6,30,40,31,3] ?_;exact sgo (eR [(100,100),(101,101),(105,105),(104,108)])
   refine z [14,15] ?_;exact su (sj (hj18 _) (eR [(101,101),(105,105),(104,104)]))
 intro t17
 refine z [13,4,2,32,34,1,8] ?_;refine fz 104 [42] [101,105] ?_;exact rt []
theorem We{n:Nat}{x0}:∀ r,J6 n x0=some r->FnOk Tryz.prog 50 [sli 3 (List.map Qo x0)] [] (sli 3 (List.map Qb r)) []:=by
 unfold J6
 refine fs Tryz.func50 λw S0 γ hγ=>?_;refine z [2] ?_;refine s1 (asg rfl (kLm (k:=3) Qb)) ?_;refine z [1,2] ?_;refine so (asgN (y:=100) (E:=53) (k:=3) rfl rfl) ?_;refine z [1,5,2,31,1,7] ?_;refine sloopE 0 (λt=>t) (λs17=>[(0,sli 3 (List.map Qo x0)),(2,sli 3 (List.map Qb ([]:List Qa))),(3,.own 100),(4,i64 s17.2)]) (λs17=>[(100,.sl 53 3 (List.map Qb s17.1))]) (λt15=>[(2,sli 3 (List.map Qb ([]:List Qa))),(3,.own 100)]) (λt15=>[(100,.sl 53 3 (List.map Qb t15))]) (eR [(100,100)]) ?_ ?_
 . intro hj16 s17
   refine z [5,2,30,30,39,46,1] ?_;refine c ?_ ?_
   . refine z [9,4,5,7,6,30,30,30] ?_;refine b λy18 h19=>?_;refine z [43,42] ?_;refine cb (ca J8) λr20=>?_
     refine so (bsl (y:=101) (ls:=List.map Qb ([r20]:List Qa)) Tryz.underlying44 ti_53.h rfl rfl rfl rfl rfl ⟨rfl,rfl,(by exact rfl),(by exact rfl),trivial⟩ rfl rfl) ?_
     refine b λy22 h23=>?_;refine o (app' 102) ?_;refine z [31,3,11,4,6,30,40,31,3] ?_;exact sgo (eR [(100,102)])
   refine z [14,15] ?_;exact su (sj (hj16 _) (eR [(100,100)]))
 intro t15
 refine z [13,4,2,30,31,1,8] ?_;refine fz 100 [2,3,19] [] ?_;exact rt []
theorem Qjb{n:Nat}{x0}:∀ r,Xf n x0=some r->FnOk Tryz.prog 165 [sli 1 (List.map Q5 x0)] [] (sli 1 (List.map Qe r)) []:=by
 unfold Xf
 refine fs Tryz.func165 λw S0 γ hγ=>?_;refine z [2] ?_;refine s1 (asg rfl (kLm (k:=1) Qe)) ?_;refine z [1,2] ?_;refine so (asgN (y:=100) (E:=44) (k:=1) rfl rfl) ?_;refine z [1,5,2,31,1,7] ?_;refine sloopE 0 (λt=>t) (λs17=>[(0,sli 1 (List.map Q5 x0)),(2,sli 1 (List.map Qe ([]:List (List Qa)))),(3,.own 100),(4,i64 s17.2)]) (λs17=>[(100,.sl 44 1 (List.map Qe s17.1))]) (λt15=>[(2,sli 1 (List.map Qe ([]:List (List Qa)))),(3,.own 100)]) (λt15=>[(100,.sl 44 1 (List.map Qe t15))]) (eR [(100,100)]) ?_ ?_
 . intro hj16 s17
   refine z [5,2,30,30,39,46,1] ?_;refine c ?_ ?_
   . refine z [9,4,5,7,6,30,30,30] ?_;refine b λy18 h19=>?_;refine z [43,42] ?_;refine cb (ca We) λr20=>?_
     refine so (bsl (y:=101) (ls:=List.map Qe ([r20]:List (List Qa))) Tryz.underlying45 ti_44.h rfl rfl rfl rfl rfl ⟨rfl,rfl,(by exact rfl),(by exact rfl),trivial⟩ rfl rfl) ?_
     refine b λy22 h23=>?_;refine o (app' 102) ?_;refine z [31,3,11,4,6,30,40,31,3] ?_;exact sgo (eR [(100,102)])
   refine z [14,15] ?_;exact su (sj (hj16 _) (eR [(100,100)]))
 intro t15
 refine z [13,4,2,30,31,1,8] ?_;refine fz 100 [2,3,19] [] ?_;exact rt []
theorem Qjc{n:Nat}{x0}:∀ r,Yk n x0=some r->FnOk Tryz.prog 95 [Vh x0] [] (Q3 r) []:=by
 unfold Yk
 refine fs Tryz.func95 λw S0 γ hγ=>?_;refine z [2] ?_;refine o (bx' 100) ?_;refine o (al' 101) ?_;refine z [1,5] ?_;refine b λr1 h2=>?_;refine b λr3 h4=>?_;refine b λr5 h6=>?_;refine b λr7 h8=>?_;refine sd ?_;refine zd [[100],[100],[100],[100]] ?_;refine dd [] (λ_ _ _ _=>c0 (We _ h2)) ?_;refine zd [[100],[100]] ?_;refine dd [] (λ_ _ _ _=>c0 (Qjb _ h4)) ?_;refine zd [[100],[100]] ?_;refine dd [] (λ_ _ _ _=>c0 (We _ h6)) ?_;refine zd [[100],[100]] ?_;refine dd [] (λ_ _ _ _=>c0 (We _ h8)) ?_;refine dx [4,7,10,13,16] [] (λst mm ⟨a4,a7,a10,a13,a16,_⟩ _=>og (bld (l:=[str x0.Name,sli 3 (List.map Qb r1),sli 1 (List.map Qe r3),sli 3 (List.map Qb r5),sli 3 (List.map Qb r7)]) pl_47.h ti_47.h W3 ⟨_,_,_,(a4.trans rfl),rfl,rfl,rfl,(szk (k:=1) rfl rfl),⟨_,_,_,(a7.trans rfl),rfl,rfl,rfl,(szk (k:=1) rfl rfl),⟨_,_,_,(a10.trans rfl),rfl,rfl,rfl,(szk (k:=1) rfl rfl),⟨_,_,_,(a13.trans rfl),rfl,rfl,rfl,(szk (k:=1) rfl rfl),⟨_,_,_,(a16.trans rfl),rfl,rfl,rfl,(szk (k:=1) rfl rfl),rfl⟩⟩⟩⟩⟩ rfl)) ?_;refine zd [[101]] ?_;refine de fol ?_;refine z [4,8] ?_;exact rt []
theorem Qjd{n:Nat}{x0}:∀ r,Xh n x0=some r->FnOk Tryz.prog 34 [W6 x0] [] (Qv r) []:=by
 unfold Xh
 refine fs Tryz.func34 λw S0 γ hγ=>?_;refine z [2] ?_;refine o (bx' 100) ?_;refine o (al' 101) ?_;refine z [1,5] ?_;refine b λr1 h2=>?_;refine b λr3 h4=>?_;refine b λr5 h6=>?_;refine sd ?_;refine zd [[100],[100]] ?_;refine dd [] (λ_ _ _ _=>c0 (Qja _ h2)) ?_;refine zd [[100],[100]] ?_;refine dd [] (λ_ _ _ _=>c0 (Qjc _ h4)) ?_;refine zd [[100],[100]] ?_;refine dd [] (λ_ _ _ _=>c0 (We _ h6)) ?_;refine zd [[100],[100]] ?_;refine dx [5,8,11,13] [] (λst mm ⟨a5,a8,a11,a13,_⟩ _=>og (bld (l:=[Ju r1,Q3 r3,sli 3 (List.map Qb r5),i64 x0.Bits]) pl_49.h ti_49.h Zt ⟨_,_,_,(a5.trans rfl),rfl,rfl,rfl,(szk (k:=4) rfl rfl),⟨_,_,_,(a8.trans rfl),rfl,rfl,rfl,(szk (k:=5) rfl rfl),⟨_,_,_,(a11.trans rfl),rfl,rfl,rfl,(szk (k:=1) rfl rfl),⟨_,_,_,(a13.trans rfl),rfl,rfl,rfl,(szk (k:=1) rfl rfl),rfl⟩⟩⟩⟩ rfl)) ?_;refine zd [[101]] ?_;refine de fol ?_;refine z [4,8] ?_;exact rt []
theorem Qje{x0}:∀ r,Yl x0=some r->FnOk Tryz.prog 48 [Xp x0] [] (Kb r) []:=by
 unfold Yl
 refine fs Tryz.func48 λw S0 γ hγ=>?_;refine z [2] ?_;refine o (bx' 100) ?_;refine o (al' 101) ?_;refine z [1,5] ?_;refine b λr1 h2=>?_;refine b λr3 h4=>?_;refine b λr5 h6=>?_;refine b λr7 h8=>?_;refine b λr9 h10=>?_;refine sd ?_;refine zd [[100],[100]] ?_;refine dd [] (λ_ _ _ _=>c0 (J8 _ h2)) ?_;refine zd [[100],[100]] ?_;refine dd [] (λ_ _ _ _=>c0 (J8 _ h4)) ?_;refine zd [[100],[100]] ?_;refine dd [] (λ_ _ _ _=>c0 (J8 _ h6)) ?_;refine zd [[100],[100]] ?_;refine dd [] (λ_ _ _ _=>c0 (J8 _ h8)) ?_;refine zd [[100],[100]] ?_;refine dd [] (λ_ _ _ _=>c0 (J8 _ h10)) ?_;refine zd [[100],[100],[100],[100]] ?_;refine dx [5,8,11,14,17,19,21] [] (λst mm ⟨a5,a8,a11,a14,a17,a19,a21,_⟩ _=>og (bld (l:=[Qb r1,Qb r3,Qb r5,Qb r7,Qb r9,i64 x0.Fine,i64 x0.Most]) pl_55.h ti_55.h Qda ⟨_,_,_,(a5.trans rfl),rfl,rfl,rfl,(szk (k:=3) rfl rfl),⟨_,_,_,(a8.trans rfl),rfl,rfl,rfl,(szk (k:=3) rfl rfl),⟨_,_,_,(a11.trans rfl),rfl,rfl,rfl,(szk (k:=3) rfl rfl),⟨_,_,_,(a14.trans rfl),rfl,rfl,rfl,(szk (k:=3) rfl rfl),⟨_,_,_,(a17.trans rfl),rfl,rfl,rfl,(szk (k:=3) rfl rfl),⟨_,_,_,(a19.trans rfl),rfl,rfl,rfl,(szk (k:=1) rfl rfl),⟨_,_,_,(a21.trans rfl),rfl,rfl,rfl,(szk (k:=1) rfl rfl),rfl⟩⟩⟩⟩⟩⟩⟩ rfl)) ?_;refine zd [[101]] ?_;refine de fol ?_;refine z [4,8] ?_;exact rt []
theorem Qjf{n:Nat}{x0}:∀ r,Xi n x0=some r->FnOk Tryz.prog 10 [K6 x0] [] (Ja r) []:=by
 unfold Xi
 refine fs Tryz.func10 λw S0 γ hγ=>?_;refine z [2] ?_;refine o (bx' 100) ?_;refine o (al' 101) ?_;refine z [1,5] ?_;refine b λr1 h2=>?_;refine b λr3 h4=>?_;refine b λr5 h6=>?_;refine b λr7 h8=>?_;refine b λr9 h10=>?_;refine b λr11 h12=>?_;refine sd ?_;refine zd [[100],[100]] ?_;refine dd [] (λ_ _ _ _=>c0 (Qjd _ h2)) ?_;refine zd [[100],[100]] ?_;refine dd [] (λ_ _ _ _=>c0 (Qje _ h4)) ?_;refine zd [[100],[100]] ?_;refine dd [] (λ_ _ _ _=>c0 (J8 _ h6)) ?_;refine zd [[100],[100]] ?_;refine dd [] (λ_ _ _ _=>c0 (J8 _ h8)) ?_;refine zd [[100],[100]] ?_;refine dd [] (λ_ _ _ _=>c0 (J8 _ h10)) ?_;refine zd [[100],[100]] ?_;refine dd [] (λ_ _ _ _=>c0 (We _ h12)) ?_;refine dx [5,8,11,14,17,20] [] (λst mm ⟨a5,a8,a11,a14,a17,a20,_⟩ _=>og (bld (l:=[Qv r1,Kb r3,Qb r5,Qb r7,Qb r9,sli 3 (List.map Qb r11)]) pl_57.h ti_57.h Qdb ⟨_,_,_,(a5.trans rfl),rfl,rfl,rfl,(szk (k:=11) rfl rfl),⟨_,_,_,(a8.trans rfl),rfl,rfl,rfl,(szk (k:=17) rfl rfl),⟨_,_,_,(a11.trans rfl),rfl,rfl,rfl,(szk (k:=3) rfl rfl),⟨_,_,_,(a14.trans rfl),rfl,rfl,rfl,(szk (k:=3) rfl rfl),⟨_,_,_,(a17.trans rfl),rfl,rfl,rfl,(szk (k:=3) rfl rfl),⟨_,_,_,(a20.trans rfl),rfl,rfl,rfl,(szk (k:=1) rfl rfl),rfl⟩⟩⟩⟩⟩⟩ rfl)) ?_;refine zd [[101]] ?_;refine de fol ?_;refine z [4,8] ?_;exact rt []
theorem Qfu{n:Nat}{x0}:∀ r,Vk n x0=some r->FnOk Tryz.prog 5 [K6 x0] [] (bl r) []:=by
 unfold Vk
 refine fs Tryz.func5 λw S0 γ hγ=>?_;refine z [2] ?_;refine o (bx' 100) ?_;refine z [31,1,5,2,32] ?_;refine cb (ca Qh8) λr1=>?_;refine z [1] ?_;refine c ?_ ?_
 . refine z [2] ?_;refine cb (ca Zc) λr3=>?_;refine z [31,1,8,10] ?_;exact rt []
 refine z [9,4,2,32] ?_;refine cb (ca Qjf) λr5=>?_;refine o (al' 101) ?_;refine z [34,1,2,32] ?_;refine cb (ca Qju) λr7=>?_;refine z [30,35,35] ?_;refine o (al' 102) ?_;refine o (al' 103) ?_;refine z [34,34,1,5,2,32] ?_;refine s1 (bld (l:=[i64 0,i64 0,i64 0,i64 0]) pl_63.h ti_63.h Ql rfl rfl) ?_;refine s1 (neA (p:=(r7.2:Qc)) (q:=((⟨0,0,0,0⟩:Qc):Qc)) J9 rfl eg_63 rfl rfl rfl) ?_;refine z [1] ?_;refine c ?_ ?_
 . refine sjq (λs13=>[(1,.own 100),(2,bl s13),(3,.own 101),(4,.own 102)]) (λs13=>[(100,.bx 38 (K6 x0)),(101,.bx 57 (Ja r5)),(102,.bx 61 (Qx r7.1))]) ?_ ?_
   . intro j11 hj12
     refine z [6,33,36,39,41,30] ?_;refine sifd 33 rfl ?_ ?_
     . refine b λr14 h15=>?_;refine og' (c0 (Zc _ h15)) ?_;refine z [38,31,1] ?_;exact sj (hj12 _) (eR [(100,100),(101,101),(102,102)])
     refine z [23,37,31,1] ?_;exact sj (hj12 _) (eR [(100,100),(101,101),(102,102)])
   intro s13
   refine z [8,10] ?_;exact rt []
 refine z [9,4,2,32] ?_;refine cb (ca Qha) λr16=>?_;refine z [30,35,35,31,31,1,2,32] ?_;refine cb (ca Qkq) λr18=>?_;refine z [31,1,2] ?_;refine cb (ca J3) λr20=>?_;refine o (al' 104) ?_;refine z [34,1,5] ?_;refine sjq (λs24=>[(1,.own 100),(2,bl false),(3,.own 101),(4,.own 102),(6,sli 3 (List.map Qb r16.1)),(7,sli 1 (List.map Qe r16.2)),(8,sli 3 (List.map Qb r18)),(9,.own 104),(53,bl s24)]) (λs24=>[(100,.bx 38 (K6 x0)),(101,.bx 57 (Ja r5)),(102,.bx 61 (Qx r7.1)),(104,.bx 53 (Qb r20))]) ?_ ?_
 . intro j22 hj23
   refine z [6,30,39,41,30] ?_;refine sifd 47 rfl ?_ ?_
   . refine z [23,23,23,23,23,38,1] ?_;exact sj (hj23 _) (eR [(100,100),(101,101),(102,102),(104,104)])
   refine z [22,22,22,22,22,37,1] ?_;exact sj (hj23 _) (eR [(100,100),(101,101),(102,102),(104,104)])
 intro s24
 refine c ?_ ?_
 . refine z [2,31,1,8,10] ?_;exact rt []
 refine z [9,4,5,2,31,1,7] ?_;refine sloopE 0 (λt=>t) (λs37=>[(1,.own 100),(2,bl false),(3,.own 101),(4,.own 102),(6,sli 3 (List.map Qb r16.1)),(7,sli 1 (List.map Qe r16.2)),(8,sli 3 (List.map Qb r18)),(9,.own 104),(10,i64 s37.2)]) (λs37=>[(100,.bx 38 (K6 x0)),(101,.bx 57 (Ja r5)),(102,.bx 61 (Qx r7.1)),(104,.bx 53 (Qb s37.1))]) (λt35=>[(1,.own 100),(2,bl false),(3,.own 101),(4,.own 102),(6,sli 3 (List.map Qb r16.1)),(7,sli 1 (List.map Qe r16.2)),(9,.own 104)]) (λt35=>[(100,.bx 38 (K6 x0)),(101,.bx 57 (Ja r5)),(102,.bx 61 (Qx r7.1)),(104,.bx 53 (Qb t35))]) (eR [(100,100),(101,101),(102,102),(104,104)]) ?_ ?_
 . intro hj36 s37
   refine z [5,2,30,30,39,46,1] ?_;refine c ?_ ?_
   . refine z [9,4,5,7] ?_;refine b λy38 h39=>?_;refine b λr40 h41=>?_;refine sd ?_;refine zd [[104],[],[],[],[]] ?_;refine dd [] (λ_ _ _ _=>c0 (Yn _ h41)) ?_;refine zd [[104]] ?_;refine de fol ?_;refine z [11,4,6,30,40,31,3] ?_;exact sgo (eR [(100,100),(101,101),(102,102),(104,104)])
   refine z [14,15] ?_;exact su (sj (hj36 _) (eR [(100,100),(101,101),(102,102),(104,104)]))
 intro t35
 refine z [13,4,5] ?_;refine sjq (λs65=>[(2,bl false),(3,.own 101),(4,.own 102),(6,sli 3 (List.map Qb r16.1)),(7,sli 1 (List.map Qe r16.2)),(113,bl s65)]) (λs65=>[(101,.bx 57 (Ja r5)),(102,.bx 61 (Qx r7.1))]) ?_ ?_
 . intro j63 hj64
   refine b λr66 h67=>?_;refine sif (λhb68=>?_) (λhb68=>?_)
   . refine sd ?_;refine zd [[102]] ?_;refine dd [] (λ_ _ _ _=>c0 (Qan _ h67)) ?_;refine zd [[]] ?_;refine dd [] (λ_ _ _ _=>obk hb68 ops) ?_;refine zd [[],[],[],[],[],[],[],[],[],[],[],[],[],[],[],[],[],[],[],[],[],[],[],[],[],[],[],[],[],[],[],[],[],[],[],[],[],[],[],[],[],[],[],[]] ?_;refine de fol ?_;refine z [4] ?_;exact sj (hj64 _) (eR [(101,101),(102,102)])
   refine sif (λhb69=>?_) (λhb69=>?_)
   . refine sd ?_;refine zd [[102]] ?_;refine dd [] (λ_ _ _ _=>c0 (Qan _ h67)) ?_;refine zd [[]] ?_;refine dd [] (λ_ _ _ _=>obk hb68 ops) ?_;refine zd [[102],[102],[],[100],[],[100],[],[]] ?_;refine dd [] (λ_ _ _ _=>obk hb69 ops) ?_;refine zd [[],[],[],[],[],[],[],[],[],[],[],[],[],[],[],[],[],[],[],[],[],[],[],[],[],[],[],[],[],[],[],[],[],[],[]] ?_;refine de fol ?_;refine z [4] ?_;exact sj (hj64 _) (eR [(101,101),(102,102)])
   refine b λy70 h71=>?_;refine b λr72 h73=>?_;refine sif (λhb74=>?_) (λhb74=>?_)
   . refine sd ?_;refine zd [[102]] ?_;refine dd [] (λ_ _ _ _=>c0 (Qan _ h67)) ?_;refine zd [[]] ?_;refine dd [] (λ_ _ _ _=>obk hb68 ops) ?_;refine zd [[102],[102],[],[100],[],[100],[],[]] ?_;refine dd [] (λ_ _ _ _=>obk hb69 ops) ?_;refine zd [[],[],[],[101],[101]] ?_;refine dG [] (λ_ _ _ _=>c0 (J7 _ h73)) ?_;refine zd [[],[]] ?_;refine dd [] (λ_ _ _ _=>obk hb74 ops) ?_;refine zd [[],[],[],[],[],[],[],[],[],[],[],[],[],[],[],[],[],[],[],[],[],[],[],[],[],[]] ?_;refine de fol ?_;refine z [4] ?_;exact sj (hj64 _) (eR [(101,101),(102,102)])
   refine b λy75 h76=>?_;refine b λr77 h78=>?_;refine sif (λhb79=>?_) (λhb79=>?_)
   . refine sd ?_;refine zd [[102]] ?_;refine dd [] (λ_ _ _ _=>c0 (Qan _ h67)) ?_;refine zd [[]] ?_;refine dd [] (λ_ _ _ _=>obk hb68 ops) ?_;refine zd [[102],[102],[],[100],[],[100],[],[]] ?_;refine dd [] (λ_ _ _ _=>obk hb69 ops) ?_;refine zd [[],[],[],[101],[101]] ?_;refine dG [] (λ_ _ _ _=>c0 (J7 _ h73)) ?_;refine zd [[],[]] ?_;refine dd [] (λ_ _ _ _=>obk hb74 ops) ?_;refine zd [[],[],[],[101],[101]] ?_;refine dG [] (λ_ _ _ _=>c0 (Qeo _ h78)) ?_;refine zd [[],[]] ?_;refine dd [] (λ_ _ _ _=>obk hb79 ops) ?_;refine zd [[],[],[],[],[],[],[],[],[],[],[],[],[],[],[],[],[]] ?_;refine de fol ?_;refine z [4] ?_;exact sj (hj64 _) (eR [(101,101),(102,102)])
   refine b λr80 h81=>?_;refine sif (λhb82=>?_) (λhb82=>?_)
   . refine sd ?_;refine zd [[102]] ?_;refine dd [] (λ_ _ _ _=>c0 (Qan _ h67)) ?_;refine zd [[]] ?_;refine dd [] (λ_ _ _ _=>obk hb68 ops) ?_;refine zd [[102],[102],[],[100],[],[100],[],[]] ?_;refine dd [] (λ_ _ _ _=>obk hb69 ops) ?_;refine zd [[],[],[],[101],[101]] ?_;refine dG [] (λ_ _ _ _=>c0 (J7 _ h73)) ?_;refine zd [[],[]] ?_;refine dd [] (λ_ _ _ _=>obk hb74 ops) ?_;refine zd [[],[],[],[101],[101]] ?_;refine dG [] (λ_ _ _ _=>c0 (Qeo _ h78)) ?_;refine zd [[],[]] ?_;refine dd [] (λ_ _ _ _=>obk hb79 ops) ?_;refine zd [[102],[102],[101],[101]] ?_;refine dG [] (λ_ _ _ _=>c0 (J7 _ h81)) ?_;refine zd [[],[]] ?_;refine dd [] (λ_ _ _ _=>obk hb82 ops) ?_;refine zd [[],[],[],[],[],[],[],[],[]] ?_;refine de fol ?_;refine z [4] ?_;exact sj (hj64 _) (eR [(101,101),(102,102)])
   refine b λr83 h84=>?_;refine b λr85 h86=>?_;refine sd ?_;refine zd [[102]] ?_;refine dd [] (λ_ _ _ _=>c0 (Qan _ h67)) ?_;refine zd [[]] ?_;refine dd [] (λ_ _ _ _=>obk hb68 ops) ?_;refine zd [[102],[102],[],[100],[],[100],[],[]] ?_;refine dd [] (λ_ _ _ _=>obk hb69 ops) ?_;refine zd [[],[],[],[101],[101]] ?_;refine dG [] (λ_ _ _ _=>c0 (J7 _ h73)) ?_;refine zd [[],[]] ?_;refine dd [] (λ_ _ _ _=>obk hb74 ops) ?_;refine zd [[],[],[],[101],[101]] ?_;refine dG [] (λ_ _ _ _=>c0 (Qeo _ h78)) ?_;refine zd [[],[]] ?_;refine dd [] (λ_ _ _ _=>obk hb79 ops) ?_;refine zd [[102],[102],[101],[101]] ?_;refine dG [] (λ_ _ _ _=>c0 (J7 _ h81)) ?_;refine zd [[],[]] ?_;refine dd [] (λ_ _ _ _=>obk hb82 ops) ?_;refine zd [[104],[101],[101],[101],[101]] ?_;refine dG [] (λ_ _ _ _=>c0 (Qi8 _ h84)) ?_;refine dG [] (λ_ _ _ _=>c0 (J7 _ h86)) ?_;refine zd [[],[]] ?_;refine de fol ?_;refine z [4] ?_;exact sj (hj64 _) (eR [(101,101),(102,102)])
 intro s65
 refine c ?_ ?_
 . refine z [2,31,1,8,10] ?_;exact rt []
 refine z [9,4,2,33,36,32] ?_;refine cb (ca Qoj) λr87=>?_;refine z [30,35,35] ?_;refine o (al' 105) ?_;refine o (al' 106) ?_;refine z [34,34,1,2,32] ?_;refine cb (ca Qha) λr89=>?_;refine z [30,35,35,31,31,1,5] ?_;refine sjq (λs93=>[(2,bl false),(6,sli 3 (List.map Qb r16.1)),(7,sli 1 (List.map Qe r16.2)),(13,sli 3 (List.map Qb r89.1)),(14,sli 1 (List.map Qe r89.2)),(142,bl s93)]) (λs93=>[]) ?_ ?_
 . intro j91 hj92
   refine z [6,32] ?_;refine s1 (bld (l:=[i64 0,i64 0,i64 0,i64 0]) pl_63.h ti_63.h Ql rfl rfl) ?_;refine s1 (neA (p:=(r87.2:Qc)) (q:=((⟨0,0,0,0⟩:Qc):Qc)) J9 rfl eg_63 rfl rfl rfl) ?_;refine z [30] ?_;refine sifd 129 rfl ?_ ?_
   . refine z [23,23,23,23,23,38,30,23,23,23,23,23,38,1] ?_;exact sj (hj92 _) (eR [])
   refine z [22,22,22,22,22,37,30] ?_;refine sifd 136 rfl ?_ ?_
   . refine z [23,23,23,23,23,38,1] ?_;exact sj (hj92 _) (eR [])
   refine z [22,22,22,22,22,37,1] ?_;exact sj (hj92 _) (eR [])
 intro s93
 refine c ?_ ?_
 . refine z [2,31,1,8,10] ?_;exact rt []
 refine z [9,4,5,2,31,1,7] ?_;refine sloopE 2 Lp.go (λs156=>[(2,bl false),(6,sli 3 (List.map Qb r16.1)),(7,sli 1 (List.map Qe r16.2)),(13,sli 3 (List.map Qb r89.1)),(14,sli 1 (List.map Qe r89.2)),(15,i64 s156)]) (λs156=>[]) (λt154=>[(2,bl false)]) (λt154=>[]) eI ?_ ?_
 . intro hj155 s156
   refine z [5,2,30,30,39,46,1] ?_;refine c ?_ ?_
   . refine z [9,4,5,7] ?_;refine sjq (λs172=>[(2,bl false),(6,sli 3 (List.map Qb r16.1)),(7,sli 1 (List.map Qe r16.2)),(13,sli 3 (List.map Qb r89.1)),(14,sli 1 (List.map Qe r89.2)),(15,i64 s156),(170,bl s172)]) (λs172=>[]) ?_ ?_
     . intro j170 hj171
       refine b λy173 h174=>?_;refine b λy175 h176=>?_;refine b λr177 h178=>?_;refine sif (λhb179=>?_) (λhb179=>?_)
       . refine sd ?_;refine zd [[],[],[],[],[],[],[],[]] ?_;refine dd [] (λ_ _ _ _=>c0 (J7 _ h178)) ?_;refine zd [[]] ?_;refine dd [] (λ_ _ _ _=>obk hb179 ops) ?_;refine zd [[],[],[],[],[],[],[],[],[],[],[]] ?_;refine de fol ?_;refine z [4] ?_;exact sj (hj171 _) eI
       refine b λy180 h181=>?_;refine b λy182 h183=>?_;refine b λr184 h185=>?_;refine sd ?_;refine zd [[],[],[],[],[],[],[],[]] ?_;refine dd [] (λ_ _ _ _=>c0 (J7 _ h178)) ?_;refine zd [[]] ?_;refine dd [] (λ_ _ _ _=>obk hb179 ops) ?_;refine zd [[],[],[],[],[],[],[],[]] ?_;refine dG [] (λ_ _ _ _=>c0 (Qeo _ h185)) ?_;refine zd [[],[]] ?_;refine de fol ?_;refine z [4] ?_;exact sj (hj171 _) eI
     intro s172
     refine c ?_ ?_
     . refine z [2,31,1,8,12,10] ?_;refine sU ?_;refine z [12,10] ?_;exact rt []
     refine z [9,11,4,6,30,40,31,3] ?_;exact sgo eI
   refine z [14,15] ?_;exact su (sj (hj155 _) eI)
 intro t154
 refine slpk ?_;refine z [13,4,2] ?_;refine cb (ca Zc) λr186=>?_;refine z [31,1,8] ?_;exact rt []
end Go.Proofs.YtlihkcaoachkdaaGreatDoor
