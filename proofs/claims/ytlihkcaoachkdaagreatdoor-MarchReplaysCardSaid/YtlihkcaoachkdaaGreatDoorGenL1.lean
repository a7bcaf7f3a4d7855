import Derived.Test.YtlihkcaoachkdaaGreatDoorGen0
import Derived.Test.YtlihkcaoachkdaaGreatDoorGenA1
import Derived.Test.YtlihkcaoachkdaaGreatDoorGenA2
import Derived.Test.YtlihkcaoachkdaaGreatDoorGenA3
import Derived.Test.YtlihkcaoachkdaaGreatDoorGenA4
import Derived.Test.YtlihkcaoachkdaaGreatDoorGenR1
import Derived.Test.YtlihkcaoachkdaaGreatDoorGenR2
set_option maxRecDepth 100000
set_option maxHeartbeats 4000000
namespace Go.Proofs.YtlihkcaoachkdaaGreatDoor
open Go Go.RowKit
theorem Qal{n:Nat}:∀ r,Wh n =some r->FnOk Tryz.prog 33 [] [] (bl r) []:=by
 unfold Wh
 refine fs Tryz.func33 λw S0 γ hγ=>?_;refine z [2,31,1,2] ?_;refine s1 (bld (l:=[i64 (3:Int),i64 0,i64 0,Qd (⟨(⟨false,[]⟩:Qf),[]⟩:Qb)]) Q3p.h Qoi.h Qly ⟨_,_,_,(kI (x:=3) rfl),rfl,rfl,rfl,(szk (k:=1) rfl rfl),rfl⟩ rfl) ?_
 refine so (bsl (y:=100) (ls:=List.map Kx ([(⟨(3:Int),0,0,(⟨(⟨false,[]⟩:Qf),[]⟩:Qb)⟩:Q2)]:List Q2)) Tryz.underlying41 Qoi.h rfl rfl rfl rfl rfl ⟨rfl,rfl,(by exact rfl),(by exact rfl),trivial⟩ rfl rfl) ?_
 refine sbm (C:=λx=>.sl 164 6 (List.map Kx x)) 100 rfl λz1=>?_
 refine so (bsl (y:=101) (ls:=List.map i64 ([(0:Int)]:List Int)) Tryz.underlying23 ti_3.h rfl rfl rfl rfl rfl ⟨rfl,(kI (x:=0) rfl),(by exact rfl),(by exact rfl),trivial⟩ rfl rfl) ?_
 refine fz 100 [9] [] ?_;refine fz 101 [10] [] ?_;refine s1 (bld (l:=[sli 6 (List.map Kx z1),sli 1 (List.map i64 ([(0:Int)]:List Int)),i64 (1:Int),i64 0]) pl_43.h ti_43.h Qlz ⟨_,_,_,rfl,rfl,rfl,rfl,(szk (k:=1) rfl rfl),⟨_,_,_,rfl,rfl,rfl,rfl,(szk (k:=1) rfl rfl),⟨_,_,_,(kI (x:=1) rfl),rfl,rfl,rfl,(szk (k:=1) rfl rfl),rfl⟩⟩⟩ rfl) ?_;refine o (al' 102) ?_;refine z [34,1,2] ?_;refine cb (ca Q08) λr2=>?_;refine z [30,35,35] ?_;refine o (al' 103) ?_;refine z [34,31,1,2] ?_;refine cb (ca Qzp) λr4=>?_;refine z [30,35,35] ?_;refine o (al' 104) ?_;refine z [34,31,1,5] ?_;refine b λr14 h15=>?_;refine b λr16 h17=>?_;refine b λr18 h19=>?_;refine sd ?_;refine zd [[102],[103]] ?_;refine dx [21,22] [] (λst mm ⟨a21,a22,_⟩ _=>og (bld (l:=[Kj (⟨z1,([(0:Int)]:List Int),(1:Int),0⟩:Q0),Jj r2.1,sli 3 (List.map Qd []),i64 (100:Int)]) pl_49.h ti_49.h Qe9 ⟨_,_,_,(a21.trans rfl),rfl,rfl,rfl,(szk (k:=4) rfl rfl),⟨_,_,_,(a22.trans rfl),rfl,rfl,rfl,(szk (k:=5) rfl rfl),⟨_,_,_,(kI (x:=100) rfl),rfl,rfl,rfl,(szk (k:=1) rfl rfl),rfl⟩⟩⟩ rfl)) ?_;refine dd [] (λ_ _ _ _=>c0 (Wc _ h15)) ?_;refine dd [] (λ_ _ _ _=>c0 (Wc _ h17)) ?_
 refine dx [25] [105] (λst mm ⟨a25,_⟩ ⟨g105,_⟩=>og (toV (bsl (y:=105) (ls:=List.map Qd ([r16]:List Qb)) Tryz.underlying44 ti_53.h rfl rfl rfl rfl rfl ⟨rfl,(a25.trans rfl),(by exact rfl),(by exact rfl),trivial⟩ (g105.trans rfl) rfl) (Jn (f:=Qd) (λ_=>Jx) ([r16]:List Qb)))) ?_
 refine zd [[104],[104]] ?_
 refine dx [27,28] [106] (λst mm ⟨a27,a28,_⟩ ⟨g106,_⟩=>og (toV (bsl (y:=106) (ls:=List.map Qd ([r4.1,r4.1]:List Qb)) Tryz.underlying44 ti_53.h rfl rfl rfl rfl rfl ⟨rfl,(a27.trans rfl),(by exact rfl),(by exact rfl),rfl,(a28.trans rfl),(by exact rfl),(by exact rfl),trivial⟩ (g106.trans rfl) rfl) (Jn (f:=Qd) (λ_=>Jx) ([r4.1,r4.1]:List Qb)))) ?_
 refine dd [] (λ_ _ _ _=>c0 (Qqc _ h19)) ?_;refine zd [[],[],[]] ?_;refine dd [107] (λ_ _ _ _=>al' 107) ?_;refine dd [108] (λ_ _ _ _=>al' 108) ?_;refine zd [[107],[108]] ?_;refine de fol ?_;refine z [4] ?_;refine sjq (λs32=>[(0,bl s32)]) (λs32=>[]) ?_ ?_
 . intro j30 hj31
   refine sif (λhb33=>?_) (λhb33=>?_)
   . refine sif (λhb34=>?_) (λhb34=>?_)
     . refine sif (λhb35=>?_) (λhb35=>?_)
       . refine b λr36 h37=>?_;refine b λr38 h39=>?_;refine sif (λhb40=>?_) (λhb40=>?_)
         . refine b λr41 h42=>?_;refine sd ?_;refine zd [[]] ?_;refine dd [] (λ_ _ _ _=>obk hb33 ops) ?_;refine zd [[108]] ?_;refine dx [34] [] (λst mm ⟨a34,_⟩ _=>ogG 34 rfl (a34.trans rfl) (bld (l:=[i64 0,i64 0,i64 0,i64 0]) pl_63.h ti_63.h Qu rfl rfl)) ?_;refine dx [34,35,36] [] (λst mm ⟨a34,a35,a36,_⟩ _=>ogG 34 rfl (a34.trans rfl) (eqA (p:=(r18.2:Qe)) (q:=((⟨0,0,0,0⟩:Qe):Qe)) Vo rfl eg_63 rfl (a35.trans rfl) (a36.trans rfl))) ?_;refine zd [[]] ?_;refine dd [] (λ_ _ _ _=>obk hb34 ops) ?_;refine zd [[107],[107],[],[],[]] ?_;refine dd [] (λ_ _ _ _=>obk hb35 ops) ?_;refine zd [[107],[107]] ?_;refine dG [] (λ_ _ _ _=>c0 (Wc _ h37)) ?_;refine dG [] (λ_ _ _ _=>c0 (Qaz _ h39)) ?_;refine zd [[]] ?_;refine dd [] (λ_ _ _ _=>obk hb40 ops) ?_;refine zd [[107],[107]] ?_;refine dG [] (λ_ _ _ _=>c0 (Q20 _ h42)) ?_;refine zd [[],[],[]] ?_;refine de fol ?_;refine z [4] ?_;exact sj (hj31 _) (eR [])
         refine sd ?_;refine zd [[]] ?_;refine dd [] (λ_ _ _ _=>obk hb33 ops) ?_;refine zd [[108]] ?_;refine dx [34] [] (λst mm ⟨a34,_⟩ _=>ogG 34 rfl (a34.trans rfl) (bld (l:=[i64 0,i64 0,i64 0,i64 0]) pl_63.h ti_63.h Qu rfl rfl)) ?_;refine dx [34,35,36] [] (λst mm ⟨a34,a35,a36,_⟩ _=>ogG 34 rfl (a34.trans rfl) (eqA (p:=(r18.2:Qe)) (q:=((⟨0,0,0,0⟩:Qe):Qe)) Vo rfl eg_63 rfl (a35.trans rfl) (a36.trans rfl))) ?_;refine zd [[]] ?_;refine dd [] (λ_ _ _ _=>obk hb34 ops) ?_;refine zd [[107],[107],[],[],[]] ?_;refine dd [] (λ_ _ _ _=>obk hb35 ops) ?_;refine zd [[107],[107]] ?_;refine dG [] (λ_ _ _ _=>c0 (Wc _ h37)) ?_;refine dG [] (λ_ _ _ _=>c0 (Qaz _ h39)) ?_;refine zd [[]] ?_;refine dd [] (λ_ _ _ _=>obk hb40 ops) ?_;refine zd [[],[],[],[],[],[]] ?_;refine de fol ?_;refine z [4] ?_;exact sj (hj31 _) (eR [])
       refine sd ?_;refine zd [[]] ?_;refine dd [] (λ_ _ _ _=>obk hb33 ops) ?_;refine zd [[108]] ?_;refine dx [34] [] (λst mm ⟨a34,_⟩ _=>ogG 34 rfl (a34.trans rfl) (bld (l:=[i64 0,i64 0,i64 0,i64 0]) pl_63.h ti_63.h Qu rfl rfl)) ?_;refine dx [34,35,36] [] (λst mm ⟨a34,a35,a36,_⟩ _=>ogG 34 rfl (a34.trans rfl) (eqA (p:=(r18.2:Qe)) (q:=((⟨0,0,0,0⟩:Qe):Qe)) Vo rfl eg_63 rfl (a35.trans rfl) (a36.trans rfl))) ?_;refine zd [[]] ?_;refine dd [] (λ_ _ _ _=>obk hb34 ops) ?_;refine zd [[107],[107],[],[],[]] ?_;refine dd [] (λ_ _ _ _=>obk hb35 ops) ?_;refine zd [[],[],[],[],[],[],[],[],[],[],[],[]] ?_;refine de fol ?_;refine z [4] ?_;exact sj (hj31 _) (eR [])
     refine sd ?_;refine zd [[]] ?_;refine dd [] (λ_ _ _ _=>obk hb33 ops) ?_;refine zd [[108]] ?_;refine dx [34] [] (λst mm ⟨a34,_⟩ _=>ogG 34 rfl (a34.trans rfl) (bld (l:=[i64 0,i64 0,i64 0,i64 0]) pl_63.h ti_63.h Qu rfl rfl)) ?_;refine dx [34,35,36] [] (λst mm ⟨a34,a35,a36,_⟩ _=>ogG 34 rfl (a34.trans rfl) (eqA (p:=(r18.2:Qe)) (q:=((⟨0,0,0,0⟩:Qe):Qe)) Vo rfl eg_63 rfl (a35.trans rfl) (a36.trans rfl))) ?_;refine zd [[]] ?_;refine dd [] (λ_ _ _ _=>obk hb34 ops) ?_;refine zd [[],[],[],[],[],[],[],[],[],[],[],[],[],[],[],[],[],[]] ?_;refine de fol ?_;refine z [4] ?_;exact sj (hj31 _) (eR [])
   refine sd ?_;refine zd [[]] ?_;refine dd [] (λ_ _ _ _=>obk hb33 ops) ?_;refine zd [[],[],[],[],[],[],[],[],[],[],[],[],[],[],[],[],[],[],[],[],[],[],[]] ?_;refine de fol ?_;refine z [4] ?_;exact sj (hj31 _) (eR [])
 intro s32
 refine z [8] ?_;exact rt []
theorem Xl{x0}:∀ r,Kg x0=some r->FnOk Tryz.prog 49 [Qc x0] [] (Qd r) []:=by
 unfold Kg
 refine fs Tryz.func49 λw S0 γ hγ=>?_;refine z [2] ?_;refine o (bx' 100) ?_;refine o (al' 101) ?_;refine z [1,2,33,36,33,36] ?_;refine s1 (bld (l:=[bl x0.Neg,sli 1 (List.map u32 x0.N)]) pl_51.h ti_51.h Wk ⟨_,_,_,rfl,rfl,rfl,rfl,(szk (k:=1) rfl rfl),⟨_,_,_,rfl,rfl,rfl,rfl,(szk (k:=1) rfl rfl),rfl⟩⟩ rfl) ?_;refine z [33,36] ?_;refine s1 (bld (l:=[Q4 (⟨x0.Neg,x0.N⟩:Qf),sli 1 (List.map u32 x0.D)]) pl_53.h ti_53.h K0 ⟨_,_,_,rfl,rfl,rfl,rfl,(szk (k:=2) rfl rfl),⟨_,_,_,rfl,rfl,rfl,rfl,(szk (k:=1) rfl rfl),rfl⟩⟩ rfl) ?_;refine z [34,1,8] ?_;exact rt []
theorem Qpt{n:Nat}{x0}:∀ r,Z8 n x0=some r->FnOk Tryz.prog 94 [Je x0] [] (Kj r) []:=by
 unfold Z8
 refine fs Tryz.func94 λw S0 γ hγ=>?_;refine z [2] ?_;refine o (bx' 100) ?_;refine o (al' 101) ?_;refine z [1,5] ?_;refine b λy1 h2=>?_;refine sd ?_;refine zd [[100],[100],[100],[100]] ?_;refine dx [] [102] (λst mm _ ⟨g102,_⟩=>og (bsl (y:=102) (ls:=List.map i64 ([]:List Int)) Tryz.underlying23 ti_3.h rfl rfl rfl rfl rfl trivial (g102.trans rfl) rfl)) ?_;refine zd [[100],[100]] ?_;refine dd [102,103] (λ_ _ _ _=>tV (app' 103)) ?_;refine dx [7,9,13] [104] (λst mm ⟨a7,a9,a13,_⟩ ⟨g104,_⟩=>og (bldO (l:=[.own 104,sli 1 (List.map i64 y1),i64 x0.Dim,i64 x0.Par]) [(104,164,6)] pl_43.h ti_43.h (Qfi (Jv (c1:=[.slice none 0 0]) (Qdm rfl) (Jv (c1:=[.slice none 0 0]) (zo_of (J7 (k:=1))) (Jv (c1:=[.int .i64 0]) (zo_of Vn) (Jv (c1:=[.int .i64 0]) (zo_of Vn) (Qdn)))))) ⟨(g104.trans rfl),trivial⟩ rfl ⟨_,_,_,(a7.trans rfl),rfl,rfl,rfl,(szk (k:=1) rfl rfl),⟨_,_,_,(a9.trans rfl),rfl,rfl,rfl,(szk (k:=1) rfl rfl),⟨_,_,_,(a13.trans rfl),rfl,rfl,rfl,(szk (k:=1) rfl rfl),rfl⟩⟩⟩ rfl)) ?_;refine dd [105] (λ_ _ _ _=>al' 105) ?_;refine zd [[105]] ?_;refine de fol ?_;refine z [4,5,2,31,1,7] ?_;refine sloopE 0 (λt=>t) (λs19=>[(1,.own 100),(2,.own 101),(3,.own 105),(4,i64 s19.2)]) (λs19=>[(100,.bx 25 (Je x0)),(101,.bx 43 (Kj (⟨[],[],0,0⟩:Q0))),(105,.bx 43 (.agg [.own 104,sli 1 (List.map i64 y1),i64 x0.Dim,i64 x0.Par])),(104,.sl 164 6 (List.map Kx s19.1))]) (λt17=>[(2,.own 101),(3,.own 105)]) (λt17=>[(101,.bx 43 (Kj (⟨[],[],0,0⟩:Q0))),(105,.bx 43 (.agg [.own 104,sli 1 (List.map i64 y1),i64 x0.Dim,i64 x0.Par])),(104,.sl 164 6 (List.map Kx t17))]) (eR [(100,100),(101,101),(105,105),(104,104)]) ?_ ?_
 . intro hj18 s19
   refine z [5,2,30,33,36,39,46,1] ?_;refine c ?_ ?_
   . refine z [9,4,5,7,2,33,36,30] ?_;refine b λy20 h21=>?_;refine z [43,42] ?_;refine o (al' 106) ?_;refine z [34,1] ?_;refine b λr22 h23=>?_;refine b λy24 h25=>?_;refine sd ?_;refine zd [[105],[105],[106],[106],[106],[106],[106],[106],[106],[106]] ?_;refine dd [] (λ_ _ _ _=>c0 (Xl _ h23)) ?_;refine dx [30,32,34,37] [] (λst mm ⟨a30,a32,a34,a37,_⟩ _=>og (bld (l:=[i64 y20.Op,i64 y20.A,i64 y20.B,Qd r22]) Q3p.h Qoi.h Qly ⟨_,_,_,(a30.trans rfl),rfl,rfl,rfl,(szk (k:=1) rfl rfl),⟨_,_,_,(a32.trans rfl),rfl,rfl,rfl,(szk (k:=1) rfl rfl),⟨_,_,_,(a34.trans rfl),rfl,rfl,rfl,(szk (k:=1) rfl rfl),⟨_,_,_,(a37.trans rfl),rfl,rfl,rfl,(szk (k:=3) rfl rfl),rfl⟩⟩⟩⟩ rfl)) ?_
     refine dx [38] [107] (λst mm ⟨a38,_⟩ ⟨g107,_⟩=>og (bsl (y:=107) (ls:=List.map Kx ([(⟨y20.Op,y20.A,y20.B,r22⟩:Q2)]:List Q2)) Tryz.underlying41 Qoi.h rfl rfl rfl rfl rfl ⟨rfl,(a38.trans rfl),(by exact rfl),(by exact rfl),trivial⟩ (g107.trans rfl) rfl)) ?_
     refine dd [104,107,108] (λ_ _ _ _=>app' 108) ?_;refine zd [[105]] ?_;refine dd [105] (λ_ _ _ _=>stP (.agg [.own 108,sli 1 (List.map i64 y1),i64 x0.Dim,i64 x0.Par]) [0]) ?_;refine de fol ?_;refine z [11,4,6,30,40,31,3] ?_;exact sgo (eR [(100,100),(101,101),(105,105),(104,108)])
   refine z [14,15] ?_;exact su (sj (hj18 _) (eR [(101,101),(105,105),(104,104)]))
 intro t17
 refine z [13,4,2,32,34,1,8] ?_;refine fz 104 [42] [101,105] ?_;exact rt []
theorem Xm{n:Nat}{x0}:∀ r,Ky n x0=some r->FnOk Tryz.prog 50 [sli 3 (List.map Qc x0)] [] (sli 3 (List.map Qd r)) []:=by
 unfold Ky
 refine fs Tryz.func50 λw S0 γ hγ=>?_;refine z [2] ?_;refine s1 (asg rfl (kLm (k:=3) Qd)) ?_;refine z [1,2] ?_;refine so (asgN (y:=100) (E:=53) (k:=3) rfl rfl) ?_;refine z [1,5,2,31,1,7] ?_;refine sloopE 0 (λt=>t) (λs17=>[(0,sli 3 (List.map Qc x0)),(2,sli 3 (List.map Qd ([]:List Qb))),(3,.own 100),(4,i64 s17.2)]) (λs17=>[(100,.sl 53 3 (List.map Qd s17.1))]) (λt15=>[(2,sli 3 (List.map Qd ([]:List Qb))),(3,.own 100)]) (λt15=>[(100,.sl 53 3 (List.map Qd t15))]) (eR [(100,100)]) ?_ ?_
 . intro hj16 s17
   refine z [5,2,30,30,39,46,1] ?_;refine c ?_ ?_
   . refine z [9,4,5,7,6,30,30,30] ?_;refine b λy18 h19=>?_;refine z [43,42] ?_;refine cb (ca Xl) λr20=>?_
     refine so (bsl (y:=101) (ls:=List.map Qd ([r20]:List Qb)) Tryz.underlying44 ti_53.h rfl rfl rfl rfl rfl ⟨rfl,rfl,(by exact rfl),(by exact rfl),trivial⟩ rfl rfl) ?_
     refine b λy22 h23=>?_;refine o (app' 102) ?_;refine z [31,3,11,4,6,30,40,31,3] ?_;exact sgo (eR [(100,102)])
   refine z [14,15] ?_;exact su (sj (hj16 _) (eR [(100,100)]))
 intro t15
 refine z [13,4,2,30,31,1,8] ?_;refine fz 100 [2,3,19] [] ?_;exact rt []
theorem Qpu{n:Nat}{x0}:∀ r,Z7 n x0=some r->FnOk Tryz.prog 165 [sli 1 (List.map Qg x0)] [] (sli 1 (List.map Qj r)) []:=by
 unfold Z7
 refine fs Tryz.func165 λw S0 γ hγ=>?_;refine z [2] ?_;refine s1 (asg rfl (kLm (k:=1) Qj)) ?_;refine z [1,2] ?_;refine so (asgN (y:=100) (E:=44) (k:=1) rfl rfl) ?_;refine z [1,5,2,31,1,7] ?_;refine sloopE 0 (λt=>t) (λs17=>[(0,sli 1 (List.map Qg x0)),(2,sli 1 (List.map Qj ([]:List (List Qb)))),(3,.own 100),(4,i64 s17.2)]) (λs17=>[(100,.sl 44 1 (List.map Qj s17.1))]) (λt15=>[(2,sli 1 (List.map Qj ([]:List (List Qb)))),(3,.own 100)]) (λt15=>[(100,.sl 44 1 (List.map Qj t15))]) (eR [(100,100)]) ?_ ?_
 . intro hj16 s17
   refine z [5,2,30,30,39,46,1] ?_;refine c ?_ ?_
   . refine z [9,4,5,7,6,30,30,30] ?_;refine b λy18 h19=>?_;refine z [43,42] ?_;refine cb (ca Xm) λr20=>?_
     refine so (bsl (y:=101) (ls:=List.map Qj ([r20]:List (List Qb))) Tryz.underlying45 ti_44.h rfl rfl rfl rfl rfl ⟨rfl,rfl,(by exact rfl),(by exact rfl),trivial⟩ rfl rfl) ?_
     refine b λy22 h23=>?_;refine o (app' 102) ?_;refine z [31,3,11,4,6,30,40,31,3] ?_;exact sgo (eR [(100,102)])
   refine z [14,15] ?_;exact su (sj (hj16 _) (eR [(100,100)]))
 intro t15
 refine z [13,4,2,30,31,1,8] ?_;refine fz 100 [2,3,19] [] ?_;exact rt []
theorem Qpv{n:Nat}{x0}:∀ r,Qbp n x0=some r->FnOk Tryz.prog 95 [Q8 x0] [] (Jj r) []:=by
 unfold Qbp
 refine fs Tryz.func95 λw S0 γ hγ=>?_;refine z [2] ?_;refine o (bx' 100) ?_;refine o (al' 101) ?_;refine z [1,5] ?_;refine b λr1 h2=>?_;refine b λr3 h4=>?_;refine b λr5 h6=>?_;refine b λr7 h8=>?_;refine sd ?_;refine zd [[100],[100],[100],[100]] ?_;refine dd [] (λ_ _ _ _=>c0 (Xm _ h2)) ?_;refine zd [[100],[100]] ?_;refine dd [] (λ_ _ _ _=>c0 (Qpu _ h4)) ?_;refine zd [[100],[100]] ?_;refine dd [] (λ_ _ _ _=>c0 (Xm _ h6)) ?_;refine zd [[100],[100]] ?_;refine dd [] (λ_ _ _ _=>c0 (Xm _ h8)) ?_;refine dx [4,7,10,13,16] [] (λst mm ⟨a4,a7,a10,a13,a16,_⟩ _=>og (bld (l:=[str x0.Name,sli 3 (List.map Qd r1),sli 1 (List.map Qj r3),sli 3 (List.map Qd r5),sli 3 (List.map Qd r7)]) pl_47.h ti_47.h Zm ⟨_,_,_,(a4.trans rfl),rfl,rfl,rfl,(szk (k:=1) rfl rfl),⟨_,_,_,(a7.trans rfl),rfl,rfl,rfl,(szk (k:=1) rfl rfl),⟨_,_,_,(a10.trans rfl),rfl,rfl,rfl,(szk (k:=1) rfl rfl),⟨_,_,_,(a13.trans rfl),rfl,rfl,rfl,(szk (k:=1) rfl rfl),⟨_,_,_,(a16.trans rfl),rfl,rfl,rfl,(szk (k:=1) rfl rfl),rfl⟩⟩⟩⟩⟩ rfl)) ?_;refine zd [[101]] ?_;refine de fol ?_;refine z [4,8] ?_;exact rt []
theorem Qpw{n:Nat}{x0}:∀ r,Z9 n x0=some r->FnOk Tryz.prog 34 [Jb x0] [] (Q7 r) []:=by
 unfold Z9
 refine fs Tryz.func34 λw S0 γ hγ=>?_;refine z [2] ?_;refine o (bx' 100) ?_;refine o (al' 101) ?_;refine z [1,5] ?_;refine b λr1 h2=>?_;refine b λr3 h4=>?_;refine b λr5 h6=>?_;refine sd ?_;refine zd [[100],[100]] ?_;refine dd [] (λ_ _ _ _=>c0 (Qpt _ h2)) ?_;refine zd [[100],[100]] ?_;refine dd [] (λ_ _ _ _=>c0 (Qpv _ h4)) ?_;refine zd [[100],[100]] ?_;refine dd [] (λ_ _ _ _=>c0 (Xm _ h6)) ?_;refine zd [[100],[100]] ?_;refine dx [5,8,11,13] [] (λst mm ⟨a5,a8,a11,a13,_⟩ _=>og (bld (l:=[Kj r1,Jj r3,sli 3 (List.map Qd r5),i64 x0.Bits]) pl_49.h ti_49.h Qe9 ⟨_,_,_,(a5.trans rfl),rfl,rfl,rfl,(szk (k:=4) rfl rfl),⟨_,_,_,(a8.trans rfl),rfl,rfl,rfl,(szk (k:=5) rfl rfl),⟨_,_,_,(a11.trans rfl),rfl,rfl,rfl,(szk (k:=1) rfl rfl),⟨_,_,_,(a13.trans rfl),rfl,rfl,rfl,(szk (k:=1) rfl rfl),rfl⟩⟩⟩⟩ rfl)) ?_;refine zd [[101]] ?_;refine de fol ?_;refine z [4,8] ?_;exact rt []
theorem Qpx{n:Nat}{x0}:∀ r,Qab n x0=some r->FnOk Tryz.prog 35 [Ql x0] [] (Q5 r) []:=by
 unfold Qab
 refine fs Tryz.func35 λw S0 γ hγ=>?_;refine z [2] ?_;refine o (bx' 100) ?_;refine o (al' 101) ?_;refine z [1,5] ?_;refine b λr1 h2=>?_;refine b λr3 h4=>?_;refine sd ?_;refine zd [[100],[100]] ?_;refine dd [] (λ_ _ _ _=>c0 (Xl _ h2)) ?_;refine zd [[100],[100]] ?_;refine dd [] (λ_ _ _ _=>c0 (Xm _ h4)) ?_;refine dx [8,11] [102] (λst mm ⟨a8,a11,_⟩ ⟨g102,_⟩=>og (bldO (l:=[.own 102,Qd r1,sli 3 (List.map Qd r3)]) [(102,82,14)] pl_61.h ti_61.h (Qfi (Jv (c1:=[.slice none 0 0]) (Qdm rfl) (Jv (c1:=[.bool false,.slice none 0 0,.slice none 0 0]) (zo_of K0) (Jv (c1:=[.slice none 0 0]) (zo_of (J7 (k:=3))) (Qdn))))) ⟨(g102.trans rfl),trivial⟩ rfl ⟨_,_,_,(a8.trans rfl),rfl,rfl,rfl,(szk (k:=3) rfl rfl),⟨_,_,_,(a11.trans rfl),rfl,rfl,rfl,(szk (k:=1) rfl rfl),rfl⟩⟩ rfl)) ?_;refine dd [103] (λ_ _ _ _=>al' 103) ?_;refine zd [[103]] ?_;refine de fol ?_;refine z [4,5,2,31,1,7] ?_;refine sloopE 0 (λt=>t) (λs37=>[(1,.own 100),(2,.own 101),(3,.own 103),(4,i64 s37.2)]) (λs37=>[(100,.bx 70 (Ql x0)),(101,.bx 61 (Q5 (⟨[],(⟨(⟨false,[]⟩:Qf),[]⟩:Qb),[]⟩:Qw))),(103,.bx 61 (.agg [.own 102,Qd r1,sli 3 (List.map Qd r3)])),(102,.sl 82 14 (List.map Ju s37.1))]) (λt35=>[(2,.own 101),(3,.own 103)]) (λt35=>[(101,.bx 61 (Q5 (⟨[],(⟨(⟨false,[]⟩:Qf),[]⟩:Qb),[]⟩:Qw))),(103,.bx 61 (.agg [.own 102,Qd r1,sli 3 (List.map Qd r3)])),(102,.sl 82 14 (List.map Ju t35))]) (eR [(100,100),(101,101),(103,103),(102,102)]) ?_ ?_
 . intro hj36 s37
   refine z [5,2,30,33,36,39,46,1] ?_;refine c ?_ ?_
   . refine z [9,4,5,7,2,33,36,30] ?_;refine b λy38 h39=>?_;refine z [43,42] ?_;refine o (al' 104) ?_;refine z [34,1] ?_;refine b λr40 h41=>?_;refine b λr42 h43=>?_;refine b λr44 h45=>?_;refine b λr46 h47=>?_;refine b λr48 h49=>?_;refine b λy50 h51=>?_;refine sd ?_;refine zd [[103],[103],[104],[104]] ?_;refine dd [] (λ_ _ _ _=>c0 (Xl _ h41)) ?_;refine zd [[104],[104]] ?_;refine dd [] (λ_ _ _ _=>c0 (Xl _ h43)) ?_;refine zd [[104],[104]] ?_;refine dd [] (λ_ _ _ _=>c0 (Xl _ h45)) ?_;refine zd [[104],[104]] ?_;refine dd [] (λ_ _ _ _=>c0 (Xl _ h47)) ?_;refine zd [[104],[104]] ?_;refine dd [] (λ_ _ _ _=>c0 (Xm _ h49)) ?_;refine zd [[104],[104]] ?_;refine dx [29,32,35,38,41,43] [] (λst mm ⟨a29,a32,a35,a38,a41,a43,_⟩ _=>og (bld (l:=[Qd r40,Qd r42,Qd r44,Qd r46,sli 3 (List.map Qd r48),bl y38.Ok]) pl_82.h ti_82.h Qj6 ⟨_,_,_,(a29.trans rfl),rfl,rfl,rfl,(szk (k:=3) rfl rfl),⟨_,_,_,(a32.trans rfl),rfl,rfl,rfl,(szk (k:=3) rfl rfl),⟨_,_,_,(a35.trans rfl),rfl,rfl,rfl,(szk (k:=3) rfl rfl),⟨_,_,_,(a38.trans rfl),rfl,rfl,rfl,(szk (k:=3) rfl rfl),⟨_,_,_,(a41.trans rfl),rfl,rfl,rfl,(szk (k:=1) rfl rfl),⟨_,_,_,(a43.trans rfl),rfl,rfl,rfl,(szk (k:=1) rfl rfl),rfl⟩⟩⟩⟩⟩⟩ rfl)) ?_
     refine dx [44] [105] (λst mm ⟨a44,_⟩ ⟨g105,_⟩=>og (bsl (y:=105) (ls:=List.map Ju ([(⟨r40,r42,r44,r46,r48,y38.Ok⟩:Qy)]:List Qy)) Tryz.underlying59 ti_82.h rfl rfl rfl rfl rfl ⟨rfl,(a44.trans rfl),(by exact rfl),(by exact rfl),trivial⟩ (g105.trans rfl) rfl)) ?_
     refine dd [102,105,106] (λ_ _ _ _=>app' 106) ?_;refine zd [[103]] ?_;refine dd [103] (λ_ _ _ _=>stP (.agg [.own 106,Qd r1,sli 3 (List.map Qd r3)]) [0]) ?_;refine de fol ?_;refine z [11,4,6,30,40,31,3] ?_;exact sgo (eR [(100,100),(101,101),(103,103),(102,106)])
   refine z [14,15] ?_;exact su (sj (hj36 _) (eR [(101,101),(103,103),(102,102)]))
 intro t35
 refine z [13,4,2,32,34,1,8] ?_;refine fz 102 [48] [101,103] ?_;exact rt []
theorem Yu{x0}:∀ r,Vq x0=some r->FnOk Tryz.prog 119 [Qd x0] [] (Qc r) []:=by
 unfold Vq
 refine fs Tryz.func119 λw S0 γ hγ=>?_;refine z [2] ?_;refine o (bx' 100) ?_;refine o (al' 101) ?_;refine z [1,2,33,45,36,33,45,36,33,36] ?_;refine s1 (bld (l:=[bl x0.Num.Neg,sli 1 (List.map u32 x0.Num.Abs),sli 1 (List.map u32 x0.Den)]) pl_34.h ti_34.h Q3 ⟨_,_,_,rfl,rfl,rfl,rfl,(szk (k:=1) rfl rfl),⟨_,_,_,rfl,rfl,rfl,rfl,(szk (k:=1) rfl rfl),⟨_,_,_,rfl,rfl,rfl,rfl,(szk (k:=1) rfl rfl),rfl⟩⟩⟩ rfl) ?_;refine z [34,1,8] ?_;exact rt []
theorem Qiz{n:Nat}{x0}:∀ r,Yo n x0=some r->FnOk Tryz.prog 120 [sli 3 (List.map Qd x0)] [] (sli 3 (List.map Qc r)) []:=by
 unfold Yo
 refine fs Tryz.func120 λw S0 γ hγ=>?_;refine z [2] ?_;refine s1 (asg rfl (kLm (k:=3) Qc)) ?_;refine z [1,2] ?_;refine so (asgN (y:=100) (E:=34) (k:=3) rfl rfl) ?_;refine z [1,5,2,31,1,7] ?_;refine sloopE 0 (λt=>t) (λs17=>[(0,sli 3 (List.map Qd x0)),(2,sli 3 (List.map Qc ([]:List Qa))),(3,.own 100),(4,i64 s17.2)]) (λs17=>[(100,.sl 34 3 (List.map Qc s17.1))]) (λt15=>[(2,sli 3 (List.map Qc ([]:List Qa))),(3,.own 100)]) (λt15=>[(100,.sl 34 3 (List.map Qc t15))]) (eR [(100,100)]) ?_ ?_
 . intro hj16 s17
   refine z [5,2,30,30,39,46,1] ?_;refine c ?_ ?_
   . refine z [9,4,5,7,6,30,30,30] ?_;refine b λy18 h19=>?_;refine z [43,42] ?_;refine cb (ca Yu) λr20=>?_
     refine so (bsl (y:=101) (ls:=List.map Qc ([r20]:List Qa)) Tryz.underlying26 ti_34.h rfl rfl rfl rfl rfl ⟨rfl,rfl,(by exact rfl),(by exact rfl),trivial⟩ rfl rfl) ?_
     refine b λy22 h23=>?_;refine o (app' 102) ?_;refine z [31,3,11,4,6,30,40,31,3] ?_;exact sgo (eR [(100,102)])
   refine z [14,15] ?_;exact su (sj (hj16 _) (eR [(100,100)]))
 intro t15
 refine z [13,4,2,30,31,1,8] ?_;refine fz 100 [2,3,19] [] ?_;exact rt []
theorem Qpy{n:Nat}{x0}:∀ r,Qaa n x0=some r->FnOk Tryz.prog 64 [Q5 x0] [] (Ql r) []:=by
 unfold Qaa
 refine fs Tryz.func64 λw S0 γ hγ=>?_;refine z [2] ?_;refine o (bx' 100) ?_;refine o (al' 101) ?_;refine z [1,5] ?_;refine b λr1 h2=>?_;refine b λr3 h4=>?_;refine sd ?_;refine zd [[100],[100]] ?_;refine dd [] (λ_ _ _ _=>c0 (Yu _ h2)) ?_;refine zd [[100],[100]] ?_;refine dd [] (λ_ _ _ _=>c0 (Qiz _ h4)) ?_;refine dx [8,11] [102] (λst mm ⟨a8,a11,_⟩ ⟨g102,_⟩=>og (bldO (l:=[.own 102,Qc r1,sli 3 (List.map Qc r3)]) [(102,143,14)] pl_70.h ti_70.h (Qfi (Jv (c1:=[.slice none 0 0]) (Qdm rfl) (Jv (c1:=[.bool false,.slice none 0 0,.slice none 0 0]) (zo_of Q3) (Jv (c1:=[.slice none 0 0]) (zo_of (J7 (k:=3))) (Qdn))))) ⟨(g102.trans rfl),trivial⟩ rfl ⟨_,_,_,(a8.trans rfl),rfl,rfl,rfl,(szk (k:=3) rfl rfl),⟨_,_,_,(a11.trans rfl),rfl,rfl,rfl,(szk (k:=1) rfl rfl),rfl⟩⟩ rfl)) ?_;refine dd [103] (λ_ _ _ _=>al' 103) ?_;refine zd [[103]] ?_;refine de fol ?_;refine z [4,5,2,31,1,7] ?_;refine sloopE 0 (λt=>t) (λs37=>[(1,.own 100),(2,.own 101),(3,.own 103),(4,i64 s37.2)]) (λs37=>[(100,.bx 61 (Q5 x0)),(101,.bx 70 (Ql (⟨[],(⟨false,[],[]⟩:Qa),[]⟩:Qi))),(103,.bx 70 (.agg [.own 102,Qc r1,sli 3 (List.map Qc r3)])),(102,.sl 143 14 (List.map Jo s37.1))]) (λt35=>[(2,.own 101),(3,.own 103)]) (λt35=>[(101,.bx 70 (Ql (⟨[],(⟨false,[],[]⟩:Qa),[]⟩:Qi))),(103,.bx 70 (.agg [.own 102,Qc r1,sli 3 (List.map Qc r3)])),(102,.sl 143 14 (List.map Jo t35))]) (eR [(100,100),(101,101),(103,103),(102,102)]) ?_ ?_
 . intro hj36 s37
   refine z [5,2,30,33,36,39,46,1] ?_;refine c ?_ ?_
   . refine z [9,4,5,7,2,33,36,30] ?_;refine b λy38 h39=>?_;refine z [43,42] ?_;refine o (al' 104) ?_;refine z [34,1] ?_;refine b λr40 h41=>?_;refine b λr42 h43=>?_;refine b λr44 h45=>?_;refine b λr46 h47=>?_;refine b λr48 h49=>?_;refine b λy50 h51=>?_;refine sd ?_;refine zd [[103],[103],[104],[104]] ?_;refine dd [] (λ_ _ _ _=>c0 (Yu _ h41)) ?_;refine zd [[104],[104]] ?_;refine dd [] (λ_ _ _ _=>c0 (Yu _ h43)) ?_;refine zd [[104],[104]] ?_;refine dd [] (λ_ _ _ _=>c0 (Yu _ h45)) ?_;refine zd [[104],[104]] ?_;refine dd [] (λ_ _ _ _=>c0 (Yu _ h47)) ?_;refine zd [[104],[104]] ?_;refine dd [] (λ_ _ _ _=>c0 (Qiz _ h49)) ?_;refine zd [[104],[104]] ?_;refine dx [29,32,35,38,41,43] [] (λst mm ⟨a29,a32,a35,a38,a41,a43,_⟩ _=>og (bld (l:=[Qc r40,Qc r42,Qc r44,Qc r46,sli 3 (List.map Qc r48),bl y38.Ok]) Qzi.h Qke.h Qay ⟨_,_,_,(a29.trans rfl),rfl,rfl,rfl,(szk (k:=3) rfl rfl),⟨_,_,_,(a32.trans rfl),rfl,rfl,rfl,(szk (k:=3) rfl rfl),⟨_,_,_,(a35.trans rfl),rfl,rfl,rfl,(szk (k:=3) rfl rfl),⟨_,_,_,(a38.trans rfl),rfl,rfl,rfl,(szk (k:=3) rfl rfl),⟨_,_,_,(a41.trans rfl),rfl,rfl,rfl,(szk (k:=1) rfl rfl),⟨_,_,_,(a43.trans rfl),rfl,rfl,rfl,(szk (k:=1) rfl rfl),rfl⟩⟩⟩⟩⟩⟩ rfl)) ?_
     refine dx [44] [105] (λst mm ⟨a44,_⟩ ⟨g105,_⟩=>og (bsl (y:=105) (ls:=List.map Jo ([(⟨r40,r42,r44,r46,r48,y38.Ok⟩:Qk)]:List Qk)) Tryz.underlying68 Qke.h rfl rfl rfl rfl rfl ⟨rfl,(a44.trans rfl),(by exact rfl),(by exact rfl),trivial⟩ (g105.trans rfl) rfl)) ?_
     refine dd [102,105,106] (λ_ _ _ _=>app' 106) ?_;refine zd [[103]] ?_;refine dd [103] (λ_ _ _ _=>stP (.agg [.own 106,Qc r1,sli 3 (List.map Qc r3)]) [0]) ?_;refine de fol ?_;refine z [11,4,6,30,40,31,3] ?_;exact sgo (eR [(100,100),(101,101),(103,103),(102,106)])
   refine z [14,15] ?_;exact su (sj (hj36 _) (eR [(101,101),(103,103),(102,102)]))
 intro t35
 refine z [13,4,2,32,34,1,8] ?_;refine fz 102 [48] [101,103] ?_;exact rt []
theorem Qek{n:Nat}{x0}{x1}:∀ r,Vr n x0 x1=some r->FnOk Tryz.prog 15 [Q5 x0,Ql x1] [] (bl r) []:=by
 unfold Vr
 refine fs Tryz.func15 λw S0 γ hγ=>?_;refine z [2] ?_;refine o (bx' 100) ?_;refine o (bx' 101) ?_;refine z [31,1,5] ?_;refine b λr1 h2=>?_;refine b λr3 h4=>?_;refine sd ?_;refine zd [[100]] ?_;refine dd [] (λ_ _ _ _=>c0 (Qpy _ h2)) ?_;refine zd [[101]] ?_;refine dd [] (λ_ _ _ _=>c0 (Qn8 _ h4)) ?_;refine zd [[]] ?_;refine de fol ?_;refine z [4,8] ?_;exact rt []
theorem Qm1{x0}:∀ r,Qaj x0=some r->FnOk Tryz.prog 18 [Qjq x0] [] (Qv r) []:=by
 unfold Qaj
 refine fs Tryz.func18 λw S0 γ hγ=>?_;refine z [2] ?_;refine o (bx' 100) ?_;refine o (al' 101) ?_;refine z [1,2] ?_;refine s1 (ixAO Tryz.underlying72 ti_3.h rfl (.inr ⟨rfl,rfl,_,_,rfl⟩) rfl rfl (kI (x:=0) rfl)) ?_;refine z [36] ?_;refine s1 (ixAO Tryz.underlying72 ti_3.h rfl (.inr ⟨rfl,rfl,_,_,rfl⟩) rfl rfl (kI (x:=1) rfl)) ?_;refine z [36] ?_;refine s1 (ixAO Tryz.underlying72 ti_3.h rfl (.inr ⟨rfl,rfl,_,_,rfl⟩) rfl rfl (kI (x:=2) rfl)) ?_;refine z [36] ?_;refine s1 (ixAO Tryz.underlying72 ti_3.h rfl (.inr ⟨rfl,rfl,_,_,rfl⟩) rfl rfl (kI (x:=3) rfl)) ?_;refine z [36] ?_;refine s1 (bld (l:=[i64 x0.a0,i64 x0.a1,i64 x0.a2,i64 x0.a3]) pl_63.h ti_63.h Qu ⟨_,_,_,rfl,rfl,rfl,rfl,(szk (k:=1) rfl rfl),⟨_,_,_,rfl,rfl,rfl,rfl,(szk (k:=1) rfl rfl),⟨_,_,_,rfl,rfl,rfl,rfl,(szk (k:=1) rfl rfl),⟨_,_,_,rfl,rfl,rfl,rfl,(szk (k:=1) rfl rfl),rfl⟩⟩⟩⟩ rfl) ?_;refine z [34,1,8] ?_;exact rt []
theorem Qi2{n:Nat}{x0}{x1}:∀ r,Wo n x0 x1=some r->FnOk Tryz.prog 6 [Jb x0,Ql x1] [] (bl r) []:=by
 unfold Wo
 refine fs Tryz.func6 λw S0 γ hγ=>?_;refine z [2] ?_;refine o (bx' 100) ?_;refine o (bx' 101) ?_;refine z [31,1,5] ?_;refine sjq (λs7=>[(2,.own 100),(3,.own 101),(4,bl false),(26,bl s7)]) (λs7=>[(100,.bx 31 (Jb x0)),(101,.bx 70 (Ql x1))]) ?_ ?_
 . intro j5 hj6
   refine z [6,32] ?_;refine cb (ca Qnz) λr8=>?_;refine z [30] ?_;refine sifd 18 rfl ?_ ?_
   . refine z [23,23,38,30,23,23,23,38,1] ?_;exact sj (hj6 _) (eR [(100,100),(101,101)])
   refine z [22] ?_;refine b λr10 h11=>?_;refine og' (c0 (Qn0 _ h11)) ?_;refine z [37,30] ?_;refine sifd 22 rfl ?_ ?_
   . refine z [23,23,23,38,1] ?_;exact sj (hj6 _) (eR [(100,100),(101,101)])
   refine z [22,22,22,37,1] ?_;exact sj (hj6 _) (eR [(100,100),(101,101)])
 intro s7
 refine c ?_ ?_
 . refine z [2] ?_;refine cb (ca Qal) λr12=>?_;refine z [31,1,8,10] ?_;exact rt []
 refine z [9,4,2,32] ?_;refine cb (ca Qpw) λr14=>?_;refine o (al' 102) ?_;refine z [34,1,5] ?_;refine b λr16 h17=>?_;refine b λr18 h19=>?_;refine sd ?_;refine zd [[102],[101]] ?_;refine dd [] (λ_ _ _ _=>c0 (Qpx _ h17)) ?_;refine dd [] (λ_ _ _ _=>c0 (Qon _ h19)) ?_;refine zd [[],[],[]] ?_;refine dd [103] (λ_ _ _ _=>al' 103) ?_;refine dd [104] (λ_ _ _ _=>al' 104) ?_;refine zd [[103],[104]] ?_;refine de fol ?_;refine z [4,2,32] ?_;refine cb (ca Qn3) λr20=>?_;refine o (al' 105) ?_;refine z [34,1,2,32] ?_;refine cb (ca Qms) λr22=>?_;refine z [30,35,35,31,31,1,2,32] ?_;refine cb (ca Qmt) λr24=>?_;refine z [31,1,5,5] ?_;refine b λy26 h27=>?_;refine b λr28 h29=>?_;refine sd ?_;refine zd [[100],[],[],[],[]] ?_;refine dd [] (λ_ _ _ _=>c0 (Qot _ h29)) ?_;refine zd [[]] ?_;refine de fol ?_;refine z [4] ?_;refine c ?_ ?_
 . refine sjq (λs36=>[(2,.own 100),(4,bl s36),(5,.own 102),(6,.own 103),(7,.own 104),(9,sli 3 (List.map Qc r22.1)),(10,sli 1 (List.map Qg r22.2)),(11,sli 3 (List.map Qc r24))]) (λs36=>[(100,.bx 31 (Jb x0)),(102,.bx 49 (Q7 r14)),(103,.bx 61 (Q5 r18.1)),(104,.bx 63 (Qv r18.2))]) ?_ ?_
   . intro j34 hj35
     refine z [6,32] ?_;refine s1 (bld (l:=[sli 14 (List.map Jo []),Qc (⟨false,[],[]⟩:Qa),sli 3 (List.map Qc [])]) pl_70.h ti_70.h Qbf rfl rfl) ?_;refine cb (ca Qek) λr37=>?_;refine z [30] ?_;refine sifd 56 rfl ?_ ?_
     . refine z [22] ?_;refine sg 56 rfl rfl (bld (l:=[i64 (2:Int),i64 0,i64 0,i64 0]) pl_63.h ti_63.h Qu ⟨_,_,_,(kI (x:=2) rfl),rfl,rfl,rfl,(szk (k:=1) rfl rfl),rfl⟩ rfl) ?_;refine sg 56 rfl rfl (eqA (p:=(r18.2:Qe)) (q:=((⟨(2:Int),0,0,0⟩:Qe):Qe)) Vo rfl eg_63 rfl rfl rfl) ?_;refine z [38,30] ?_;refine sifd 61 rfl ?_ ?_
       . refine b λr39 h40=>?_;refine og' (c0 (Qal _ h40)) ?_;refine z [38,31,1] ?_;exact sj (hj35 _) (eR [(100,100),(102,102),(103,103),(104,104)])
       refine z [23,37,31,1] ?_;exact sj (hj35 _) (eR [(100,100),(102,102),(103,103),(104,104)])
     refine z [23,23,23,37,30,23,37,31,1] ?_;exact sj (hj35 _) (eR [(100,100),(102,102),(103,103),(104,104)])
   intro s36
   refine z [8,10] ?_;exact rt []
 refine z [9,4,5] ?_;refine b λy41 h42=>?_;refine b λy43 h44=>?_;refine b λr45 h46=>?_;refine sd ?_;refine zd [[100],[],[],[],[],[],[],[]] ?_;refine dd [] (λ_ _ _ _=>c0 (Qm0 _ h46)) ?_;refine zd [[],[],[]] ?_;refine dd [106] (λ_ _ _ _=>al' 106) ?_;refine dd [107] (λ_ _ _ _=>al' 107) ?_;refine zd [[106],[107]] ?_;refine de fol ?_;refine z [4,5] ?_;refine sjq (λs54=>[(4,bl false),(5,.own 102),(6,.own 103),(7,.own 104),(85,bl s54)]) (λs54=>[(102,.bx 49 (Q7 r14)),(103,.bx 61 (Q5 r18.1)),(104,.bx 63 (Qv r18.2))]) ?_ ?_
 . intro j52 hj53
   refine b λr55 h56=>?_;refine sif (λhb57=>?_) (λhb57=>?_)
   . refine sd ?_;refine zd [[103],[106]] ?_;refine dd [] (λ_ _ _ _=>c0 (Qek _ h56)) ?_;refine zd [[]] ?_;refine dd [] (λ_ _ _ _=>obk hb57 ops) ?_;refine zd [[],[],[],[],[]] ?_;refine de fol ?_;refine z [4] ?_;exact sj (hj53 _) (eR [(102,102),(103,103),(104,104)])
   refine b λr58 h59=>?_;refine sd ?_;refine zd [[103],[106]] ?_;refine dd [] (λ_ _ _ _=>c0 (Qek _ h56)) ?_;refine zd [[]] ?_;refine dd [] (λ_ _ _ _=>obk hb57 ops) ?_;refine zd [[104],[107]] ?_;refine dG [] (λ_ _ _ _=>c0 (Qm1 _ h59)) ?_;refine dx [80,81,83] [] (λst mm ⟨a80,a81,a83,_⟩ _=>ogG 80 rfl (a80.trans rfl) (neA (p:=(r18.2:Qe)) (q:=(r58:Qe)) Vo rfl eg_63 rfl (a81.trans rfl) (a83.trans rfl))) ?_;refine zd [[]] ?_;refine de fol ?_;refine z [4] ?_;exact sj (hj53 _) (eR [(102,102),(103,103),(104,104)])
 intro s54
 refine c ?_ ?_
 . refine z [2,31,1,8,10] ?_;exact rt []
 refine z [9,4,5,2,32] ?_;refine s1 (bld (l:=[i64 0,i64 0,i64 0,i64 0]) pl_63.h ti_63.h Qu rfl rfl) ?_;refine s1 (neA (p:=(r18.2:Qe)) (q:=((⟨0,0,0,0⟩:Qe):Qe)) Vo rfl eg_63 rfl rfl rfl) ?_;refine z [1] ?_;refine c ?_ ?_
 . refine z [2] ?_;refine cb (ca Qal) λr60=>?_;refine z [31,1,8,10] ?_;exact rt []
 refine z [9,4,2,32,32] ?_;refine cb (ca Qon) λr62=>?_;refine z [30,35,35] ?_;refine o (al' 108) ?_;refine o (al' 109) ?_;refine z [34,34,1] ?_;refine sjq (λs72=>[(4,bl s72)]) (λs72=>[]) ?_ ?_
 . intro j70 hj71
   refine z [6,32] ?_;refine cb (ca Qz2) λr73=>?_;refine z [30] ?_;refine sifd 98 rfl ?_ ?_
   . refine z [22] ?_;refine sg 98 rfl rfl (bld (l:=[i64 0,i64 0,i64 0,i64 0]) pl_63.h ti_63.h Qu rfl rfl) ?_;refine sg 98 rfl rfl (eqA (p:=(r62.2:Qe)) (q:=((⟨0,0,0,0⟩:Qe):Qe)) Vo rfl eg_63 rfl rfl rfl) ?_;refine z [38,30] ?_;refine sifd 103 rfl ?_ ?_
     . refine z [22,22] ?_;refine b λr75 h76=>?_;refine og' (c0 (Q1d _ h76)) ?_;refine z [38,30] ?_;refine sifd 108 rfl ?_ ?_
       . refine b λr77 h78=>?_;refine og' (c0 (Qal _ h78)) ?_;refine z [38,31,1] ?_;exact sj (hj71 _) (eR [])
       refine z [23,37,31,1] ?_;exact sj (hj71 _) (eR [])
     refine z [23,23,23,37,30,23,37,31,1] ?_;exact sj (hj71 _) (eR [])
   refine z [23,23,23,37,30,23,23,23,37,30,23,37,31,1] ?_;exact sj (hj71 _) (eR [])
 intro s72
 refine z [8] ?_;exact rt []
end Go.Proofs.YtlihkcaoachkdaaGreatDoor
