import Derived.Test.YtgmknbfonlbjfaaGreatDoorGenA5
import Derived.Test.YtgmknbfonlbjfaaGreatDoorGenR1
set_option maxRecDepth 100000
set_option maxHeartbeats 4000000
namespace Go.Proofs.YtgmknbfonlbjfaaGreatDoor
open Go Go.RowKit Tryz
theorem Qk7{n:Nat}{x0}:FO 5 [Ug x0] bl (Xp n x0):=by
 unfold Xp;refine fs func5 λ_ _ _ _=>?_;apply z [27,6,72];refine yE 0 Lp.go [0,2] [0,2] (λu=>[(3,i64 u)]) (λ_=>[]) ?_ ?_;intro a0 u;apply z [6];refine zq [0,3] [] (λv=>[(11,bl v),(2,bl false)]) (λ_=>[]) ?_ ?_;intro a3 g;apply zi [73,11,100,1] 8;exact zj [43,30] g;exact zj [47,48] g;intro v;refine c ?_ ?_;refine zb [58,9] λa6 a2=>?_;refine zk [115,117,114] Yy λa4=>?_;apply zc [0];exact zr [15,26,59];exact zg [35,65,64];exact zj [31] a0;intro a5;refine slpk ?_;exact zr [40,11,103,3]
theorem Z5{n:Nat}:FO 6 [] bl (V6 n ):=by
 unfold V6;refine fs func6 λ_ _ _ _=>?_;apply z [27,12];refine o (mB [i64 (3:Int),i64 0,i64 0,Qb (⟨(⟨false,[]⟩:Qg),[]⟩:Qa)]) ?_;refine o (mS 100 (List.map Ka ([(⟨(3:Int),0,0,(⟨(⟨false,[]⟩:Qg),[]⟩:Qa)⟩:Jh)]:List Jh))) ?_;refine sbm (C:=λx=>.sl 71 6 (List.map Ka x)) 100 rfl λz1=>?_;refine o (mS 101 (List.map i64 ([(0:Int)]:List Int))) ?_;refine fz 100 [13] [] ?_;refine fz 101 [14] [] ?_;refine o (mB [sli 6 (List.map Ka z1),Ui ([(0:Int)]:List Int),i64 (1:Int),i64 0]) ?_;refine zk [88,13,12] Qwk λr2=>?_;refine zk [16,62,22,2,12] Qu8 λr4=>?_;apply z [16,44,104,22,2,4,32];refine o (mB [Ja (⟨z1,([(0:Int)]:List Int),(1:Int),0⟩:Q5),Jf r2.1,Uc [],i64 (100:Int)]) ?_;refine zk [44,105,13,12] Kj λu=>?_;refine o (mS 106 (List.map Qb ([u]:List Qa))) ?_;apply z [53];refine fz 106 [7,28] [] ?_;refine b λa9 a1=>?_;refine b λv a2=>?_;refine zs [[105]] ?_;refine dC (Kj _ a1) ?_;apply zd [[],[104],[104]];refine dd [107] (λ_ _ _ _=>tV (mS 107 (List.map Qb ([r4.1,r4.1]:List Qa)))) ?_;refine dC (Qts _ a2) ?_;apply zd [[],[],[]];refine dd [108] (λ_ _ _ _=>al' 108) ?_;refine dd [109] (λ_ _ _ _=>al' 109) ?_;apply zy [[108],[109]];apply z [28,4,32,1];refine o (mB [i64 (1:Int),Uc ([u]:List Qa)]) ?_;apply z [1];refine o (mB [i64 (2:Int),Uc ([u]:List Qa)]) ?_;refine o (mS 110 (List.map Q0 ([(⟨(1:Int),([u]:List Qa)⟩:Qr),(⟨(2:Int),([u]:List Qa)⟩:Qr)]:List Qr))) ?_;refine sbm (C:=λx=>.sl 61 2 (List.map Q0 x)) 110 rfl λb1=>?_;refine fz 110 [46] [] ?_;refine cb (ca Qwq) λa4=>?_;apply z [16,44,111,44,112,22,13];refine zq [] [] (λa0=>[(0,bl a0)]) (λ_=>[]) ?_ ?_;intro a8 g;apply zi [73] 51;apply z [41];refine sg 51 rfl rfl (bld (l:=[i64 0,i64 0,i64 0,i64 0]) pl_85.h ti_85.h Qn rfl rfl) ?_;refine sg 51 rfl rfl (eqA (p:=(v.2:Qe)) (q:=((⟨0,0,0,0⟩:Qe):Qe)) Ko rfl eg_85 rfl rfl rfl) ?_;apply zi [60] 56;apply z [43];refine sg 56 rfl rfl (eqA (p:=(a4.2:Qe)) (q:=(v.2:Qe)) Ko rfl eg_85 rfl rfl rfl) ?_;apply zi [60] 61;refine zb [43] λb0 a3=>?_;refine og' (c0 (Qyg _ a3)) ?_;exact zJ [41,90,2] g [];exact zJ [10,52] g [];exact zJ [56,54,10,52] g [];exact zJ [56,54,56,54,10,52] g [];intro a0;exact zr [79]
theorem Xe{g}:FO 32 [Qd g] Qb (Km g):=by
 unfold Km;refine fs func32 λ_ _ _ _=>?_;apply z [71,0,19,8];refine o (mB [bl g.Neg,Ud g.N]) ?_;apply z [8];refine o (mB [Q2 (⟨g.Neg,g.N⟩:Qg),Ud g.D]) ?_;exact zr [33]
theorem Qbs{n:Nat}{x0}:FO 33 [Ue x0] Uc (We n x0):=by
 unfold We;refine fs func33 λ_ _ _ _=>?_;apply z [91,1,82];refine so (asgN (y:=100) (E:=37) (k:=3) rfl rfl) ?_;apply z [37,72];refine yR 0 (λt=>t) [0,2,3] [] [2,3] [] (λg=>[(4,i64 g.2)]) (λg=>[(100,.sl 37 3 (List.map Qb g.1))]) (λ_=>[]) (λu=>[(100,.sl 37 3 (List.map Qb u))]) ?_ ?_;intro v g;apply zc [77,11,49];refine zb [58,14,36] λa4 a2=>?_;refine zk [21] Xe λa0=>?_;refine o (mS 101 (List.map Qb ([a0]:List Qa))) ?_;refine b λa5 a3=>?_;exact zG [88,42,65,64] [(100,102)];exact zJ [31] v;intro u;apply z [40,3];refine fz 100 [2,3,19] [] ?_;exact rt []
theorem Qmu{n:Nat}{x0}:FO 7 [Qi x0] Q6 (Yh n x0):=by
 unfold Yh;refine fs func7 λ_ _ _ _=>?_;refine zb [71,37] λr1 h2=>?_;refine b λr3 h4=>?_;refine zs [[100],[100]] ?_;refine dC (Xe _ h2) ?_;apply zd [[100],[100]];refine dC (Qbs _ h4) ?_;refine dx [8,11] [102] (λst mm ⟨a8,a7,_⟩ ⟨a5,_⟩=>og (bldO (l:=[.own 102,Qb r1,Uc r3]) [(102,96,14)] pl_40.h ti_40.h (Qlc (K9 (c1:=[Ua]) (Qi0 rfl) (K9 (c1:=[.bool false,Ua,Ua]) (zo_of Jp) (K9 (c1:=[Ua]) (zo_of (J0 (k:=3))) (Qis))))) ⟨(a5.trans rfl),trivial⟩ rfl ⟨_,_,_,(a8.trans rfl),rfl,rfl,rfl,(szk (k:=3) rfl rfl),⟨_,_,_,(a7.trans rfl),rfl,rfl,rfl,(szk (k:=1) rfl rfl),rfl⟩⟩ rfl)) ?_;refine dd [103] (λ_ _ _ _=>al' 103) ?_;apply zy [[103]];apply z [28,6,72];refine yR 0 (λt=>t) [1,2,3] [100,101,103] [2,3] [101,103] (λg=>[(4,i64 g.2)]) (λg=>[(102,.sl 96 14 (List.map Jk g.1))]) (λ_=>[]) (λa3=>[(102,.sl 96 14 (List.map Jk a3))]) ?_ ?_;intro a6 g;apply zc [17,8,11,49];refine zb [58,19,1] λa4 b8=>?_;refine zb [21,44,104,13] λu a9=>?_;refine b λv b0=>?_;refine b λa0 b1=>?_;refine b λa1 b2=>?_;refine b λa2 b3=>?_;refine b λc2 b9=>?_;refine zs [[103],[103],[104],[104]] ?_;refine dC (Xe _ a9) ?_;apply zd [[104],[104]];refine dC (Xe _ b0) ?_;apply zd [[104],[104]];refine dC (Xe _ b1) ?_;apply zd [[104],[104]];refine dC (Xe _ b2) ?_;apply zd [[104],[104]];refine dC (Qbs _ b3) ?_;apply zd [[104],[104]];refine dd [] (λ_ _ _ _=>mB [Qb u,Qb v,Qb a0,Qb a1,Uc a2,bl a4.Ok]) ?_;refine dd [105] (λ_ _ _ _=>mS 105 (List.map Jk ([(⟨u,v,a0,a1,a2,a4.Ok⟩:Q1)]:List Q1))) ?_;refine dd [102,105,106] (λ_ _ _ _=>app' 106) ?_;apply zd [[103]];refine dd [103] (λ_ _ _ _=>stP (.agg [.own 106,Qb r1,Uc r3]) [0]) ?_;refine dE ?_;exact zG [65,64] [(100,100),(101,101),(103,103),(102,106)];exact zJ [31] a6;intro a3;apply z [39,4,33];refine fz 102 [48] [101,103] ?_;exact rt []
theorem Qbt{n:Nat}{x0}:FO 9 [Ug x0] Uf (Wf n x0):=by
 unfold Wf;refine fs func9 λ_ _ _ _=>?_;apply z [91,5,82];refine so (asgN (y:=100) (E:=61) (k:=2) rfl rfl) ?_;apply z [37,72];refine yR 0 (λt=>t) [0,2,3] [] [2,3] [] (λg=>[(4,i64 g.2)]) (λg=>[(100,.sl 61 2 (List.map Q0 g.1))]) (λ_=>[]) (λv=>[(100,.sl 61 2 (List.map Q0 v))]) ?_ ?_;intro a1 g;apply zc [77,11,49];refine zb [58] λa0 a6=>?_;refine b λb1 a7=>?_;refine b λu a8=>?_;refine b λb2 b0=>?_;refine zs [[],[],[]] ?_;refine dx [12,13] [] (λst mm ⟨a2,a3,_⟩ _=>og (ixR (f:=Qk) Uq ti_51.h a6 rfl (a2.trans rfl) (a3.trans rfl))) ?_;apply zd [[],[],[],[]];refine dx [17,18] [] (λst mm ⟨a4,a5,_⟩ _=>og (ixR (f:=Qk) Uq ti_51.h a7 rfl (a4.trans rfl) (a5.trans rfl))) ?_;apply zd [[],[]];refine dC (Qbs _ a8) ?_;refine dd [] (λ_ _ _ _=>mB [i64 a0.Gy,Uc u]) ?_;refine dd [101] (λ_ _ _ _=>mS 101 (List.map Q0 ([(⟨a0.Gy,u⟩:Qr)]:List Qr))) ?_;refine dd [100,101,102] (λ_ _ _ _=>app' 102) ?_;apply zy [[]];exact zG [65,64] [(100,102)];exact zJ [31] a1;intro v;apply z [40,3];refine fz 100 [2,3,26] [] ?_;exact rt []
theorem Qj3{n:Nat}{x0}:FO 15 [Ug x0] Ug (Xk n x0):=by
 unfold Xk;refine fs func15 λ_ _ _ _=>?_;apply z [91,8,82];refine so (asgN (y:=100) (E:=51) (k:=2) rfl rfl) ?_;apply z [37,72];refine yR 0 (λt=>t) [0,2,3] [] [2,3] [] (λg=>[(4,i64 g.2)]) (λg=>[(100,.sl 51 2 (List.map Qk g.1))]) (λ_=>[]) (λv=>[(100,.sl 51 2 (List.map Qk v))]) ?_ ?_;intro a1 g;apply zc [77,11,49];refine zb [58] λa0 a6=>?_;refine b λb1 a7=>?_;refine b λu a8=>?_;refine b λb2 b0=>?_;refine zs [[],[],[]] ?_;refine dx [12,13] [] (λst mm ⟨a2,a3,_⟩ _=>og (ixR (f:=Qk) Uq ti_51.h a6 rfl (a2.trans rfl) (a3.trans rfl))) ?_;apply zd [[],[],[],[]];refine dx [17,18] [] (λst mm ⟨a4,a5,_⟩ _=>og (ixR (f:=Qk) Uq ti_51.h a7 rfl (a4.trans rfl) (a5.trans rfl))) ?_;apply zd [[],[]];refine dC (Qd5 _ a8) ?_;refine dd [] (λ_ _ _ _=>mB [i64 a0.Gy,Ue u]) ?_;refine dd [101] (λ_ _ _ _=>mS 101 (List.map Qk ([(⟨a0.Gy,u⟩:Qh)]:List Qh))) ?_;refine dd [100,101,102] (λ_ _ _ _=>app' 102) ?_;apply zy [[]];exact zG [65,64] [(100,102)];exact zJ [31] a1;intro v;apply z [40,3];refine fz 100 [2,3,26] [] ?_;exact rt []
theorem Qgh{g}:FO 58 [Qb g] Qd (Yi g):=by
 unfold Yi;refine fs func58 λ_ _ _ _=>?_;apply z [71,82,51,93,104,51,93,104,8];refine o (mB [bl g.Num.Neg,Ud g.Num.G1,Ud g.Den]) ?_;exact zr [33]
theorem Qmv{n:Nat}{x0}:FO 56 [Uc x0] Ue (Yj n x0):=by
 unfold Yj;refine fs func56 λ_ _ _ _=>?_;apply z [91,6,82];refine so (asgN (y:=100) (E:=25) (k:=3) rfl rfl) ?_;apply z [37,72];refine yR 0 (λt=>t) [0,2,3] [] [2,3] [] (λg=>[(4,i64 g.2)]) (λg=>[(100,.sl 25 3 (List.map Qd g.1))]) (λ_=>[]) (λu=>[(100,.sl 25 3 (List.map Qd u))]) ?_ ?_;intro v g;apply zc [77,11,49];refine zb [58,14,36] λa4 a2=>?_;refine zk [21] Qgh λa0=>?_;refine o (mS 101 (List.map Qd ([a0]:List Qc))) ?_;refine b λa5 a3=>?_;exact zG [88,42,65,64] [(100,102)];exact zJ [31] v;intro u;apply z [40,3];refine fz 100 [2,3,19] [] ?_;exact rt []
theorem Qmw{n:Nat}{g}{u}:FO 20 [Uc g,Ue u] bl (Yk n g u):=by
 unfold Yk;refine fs func20 λ_ _ _ _=>?_;refine zk [27,7] Qmv λv=>?_;refine zk [1] Qau λr3=>?_;exact zr [3]
theorem Qmx{n:Nat}{g}{u}:FO 22 [Qb g,Qd u] bl (Yl n g u):=by
 unfold Yl;refine fs func22 λ_ _ _ _=>?_;refine zb [71,53] λv h2=>?_;refine b λr3 h4=>?_;refine zs [[100]] ?_;refine dC (Qgh _ h2) ?_;apply zd [[101]];refine dC (Yz _ h4) ?_;apply zy [[]];exact zr [38]
theorem Qg2{n:Nat}{x0}{x1}:FO 3 [Qi x0,Ug x1] bl (V0 n x0 x1):=by
 unfold V0;refine fs func3 λ_ _ _ _=>?_;apply z [24,53];refine zq [1] [100] (λs7=>[(23,bl s7),(2,.own 100),(4,bl false)]) (λ_=>[]) ?_ ?_
 . intro j5 c1;refine zk [34,32] Qk4 λr8=>?_;apply zi [1] 20
   . exact zJ [47,30] c1
   refine zb [41] λi9 e0=>?_;refine og' (c0 (Qk7 _ e0)) ?_;exact zJ [48] c1
 intro s7;refine c ?_ ?_
 . refine zk [12] Z5 λj0=>?_;exact zr [3,20]
 refine zk [5,4] Qmu λj1=>?_;refine zb [85,13,6] λj2 e1=>?_;refine b λj3 e2=>?_;refine zs [[101],[]] ?_;refine dC (Qbt _ e1) ?_;refine dC (Qwr _ e2) ?_;apply zd [[],[],[]];refine dd [102] (λ_ _ _ _=>al' 102) ?_;apply zy [[102],[]];refine zb [28,6] λj4 e3=>?_;refine b λj6 e4=>?_;refine zs [[101],[]] ?_;refine dC (Qbt _ e3) ?_;refine dC (Qws _ e4) ?_;apply zy [[],[],[],[],[]];refine zk [28,4,1] Qj0 λj7=>?_;apply z [2,12];refine so (asgN (y:=103) (E:=3) (k:=1) rfl rfl) ?_;apply z [37,72];refine yR 0 (λt=>t) [1,2,4,6,7,8,9,10,11] [100,102] [1,2,4,6,7,8,9,10,11] [100,102] (λv=>[(12,i64 v.2)]) (λv=>[(103,.sl 3 1 (List.map i64 v.1))]) (λ_=>[]) (λa7=>[(103,.sl 3 1 (List.map i64 a7))]) ?_ ?_
 . intro b7 v;apply zc [17,49]
   . apply z [58,72];refine yR 2 (λt=>t) [1,2,4,6,7,8,9,10,11,12] [100,102] [1,2,4,6,7,8,9,10,11,12] [100,102] (λa5=>[(13,i64 a5.2)]) (λa5=>[(103,.sl 3 1 (List.map i64 a5.1))]) (λ_=>[]) (λb5=>[(103,.sl 3 1 (List.map i64 b5))]) ?_ ?_
     . intro b8 a5;apply zc [77,11,49]
       . apply z [5];refine zq [1,7,8,9,10,12,13] [100,102] (λ_=>[(2,.own 100),(4,bl false),(6,.own 102),(11,.own 105)]) (λa9=>[(105,.sl 3 1 (List.map i64 a9))]) ?_ ?_
         . intro f4 a8;apply z [50];refine zq [1,7,8,9,10,12,13] [100,102,103] (λb0=>[(75,bl b0),(2,.own 100),(4,bl false),(6,.own 102),(11,.own 103)]) (λ_=>[]) ?_ ?_
           . intro f5 a1;refine zb [73] λi2 e8=>?_;apply zi [115,117,114,1,83,1] 61
             . apply zi [45] 65
               . exact zJ [10,10,41,30] a1
               refine zb [45] λi3 e9=>?_;exact zJ [45,41,30] a1
             exact zJ [10,81,81,81,81,66,48] a1
           intro b0;refine c ?_ ?_
           . apply z [73];refine o (mS 104 (List.map i64 ([v.2]:List Int))) ?_;refine b λi4 f0=>?_;exact zJ [44,105,42,67] a8
           exact zJ [35,67] a8 [(100,100),(102,102),(105,103)]
         intro a9;exact zG [14,64] [(100,100),(102,102),(103,105)]
       exact zJ [31] b8
     intro b5;exact zG [113,65,64]
   exact zJ [31] b7
 intro a7;apply z [39,6];refine zq [1,8,10] [100,102] (λb1=>[(98,bl b1),(2,.own 100),(4,bl false),(6,.own 102)]) (λ_=>[]) ?_ ?_
 . intro f6 u;apply zi [73,144,1] 83
   . exact zJ [56,60,47,81,81,81,66,30] u
   apply zi [61,54] 88
   . exact zJ [47,81,81,81,66,30] u
   apply zi [43] 90
   . refine zb [41] λg2 c8=>?_;refine og' (c0 (Qbt _ c8)) ?_;refine b λg4 c9=>?_;refine og' (c0 (Qwt _ c9)) ?_;refine zb [41] λg5 d0=>?_;refine sg 90 rfl rfl (callL (em:=[]) [103] [] [] [] rfl (Qiq _ d0) trivial (pl_bl) ⟨.inl ⟨_,rfl,rn_id Zt⟩,.inr ⟨103,rfl,.inl ⟨rfl,.inl ⟨_,_,_,rfl,Jb (f:=i64) (λ_=>Qay) a7,rfl⟩⟩⟩,trivial⟩ (λ_ _ h=>by cases h) trivial rfl trivial trivial rfl trivial trivial trivial (rn_id (if_bl)) rfl) ?_;exact zJ [43,48] u
   exact zJ [10,47,41,48] u
 intro b1;refine c ?_ ?_
 . exact zr [15,20]
 apply zc [5,17,46,0]
 . refine zq [1,8] [100,102] (λb2=>[(4,bl b2),(2,.own 100),(6,.own 102)]) (λ_=>[]) ?_ ?_
   . intro f7 a2;refine zk [34,32] Zn λg6=>?_;apply zi [83,1] 104
     . apply zi [61,60] 109
       . refine b λg7 d1=>?_;refine og' (c0 (Z5 _ d1)) ?_;exact zJ [90,2] a2
       exact zJ [66,52] a2
     exact zJ [56,54,66,52] a2
   intro b2;exact zr [79,20]
 refine zk [5,7] Qj3 λg8=>?_;refine zk [2,12] Qbf λg9=>?_;apply z [44,104,13,6,72];refine yR 4 Lp.go [2,4,6,8,14,15] [100,102] [4,6,8,14,15] [102] (λa6=>[(16,i64 a6.2)]) (λa6=>[(104,.bx 25 (Qd a6.1))]) (λ_=>[]) (λb6=>[(104,.bx 25 (Qd b6))]) ?_ ?_
 . intro b9 a6;apply zc [77,11,49]
   . refine zb [58,6] λi5 f2=>?_;refine b λh5 d2=>?_;refine zs [[100],[],[],[],[]] ?_;refine dC (Qk6 _ d2) ?_;apply zy [[]];refine zb [28,6] λh6 d3=>?_;refine b λh7 d4=>?_;refine zs [[104],[],[]] ?_;refine dC (Qlr _ d3) ?_;refine dC (Ya _ d4) ?_;apply zy [[104]];apply z [28];refine zq [8,14,16] [100,102,104] (λb3=>[(160,bl b3),(2,.own 100),(4,bl false),(6,.own 102),(15,.own 104)]) (λ_=>[]) ?_ ?_
     . intro f8 a3;refine sif (λg=>?_) (λg=>?_)
       . refine zs [[],[],[],[]] ?_;refine dO g ?_;apply zy [[],[],[],[],[],[],[],[],[],[],[],[],[],[],[],[],[],[],[],[],[],[],[],[]];exact zJ [28] a3
       refine b λi6 d5=>?_;refine b λi7 f3=>?_;refine sif (λa0=>?_) (λa0=>?_)
       . refine zs [[],[],[],[]] ?_;refine dO g ?_;apply zd [[],[],[],[],[],[],[],[],[],[],[],[]];refine dO a0 ?_;apply zy [[],[],[],[],[],[],[],[],[],[],[]];exact zJ [28] a3
       refine b λi8 d6=>?_;refine b λh8 d7=>?_;refine b λh9 d8=>?_;refine zs [[],[],[],[]] ?_;refine dO g ?_;apply zd [[],[]];refine dx [136,137,138] [] (λst mm ⟨c2,c3,c4,_⟩ _=>ogG 136 rfl (c2.trans rfl) (ixR (f:=Q0) U0 ti_61.h d5 rfl (c3.trans rfl) (c4.trans rfl))) ?_;apply zd [[],[],[],[],[],[],[],[],[]];refine dO a0 ?_;apply zd [[],[]];refine dx [149,150,151] [] (λst mm ⟨c5,c6,c7,_⟩ _=>ogG 149 rfl (c5.trans rfl) (ixR (f:=Q0) U0 ti_61.h d6 rfl (c6.trans rfl) (c7.trans rfl))) ?_;apply zd [[],[],[],[]];refine dG [] (λ_ _ _ _=>c0 (Qfk _ d7)) ?_;refine dG [] (λ_ _ _ _=>c0 (Qmw _ d8)) ?_;apply zy [[],[]];exact zJ [28] a3
     intro b3;refine c ?_ ?_
     . exact zr [15,26,59]
     exact zG [35,65,64]
   exact zJ [31] b9
 intro b6;refine slpk ?_;apply z [39];refine zq [] [] (λb4=>[(4,bl b4)]) (λ_=>[]) ?_ ?_
 . intro f9 a4;refine zk [34,32,32] Qmx λi0=>?_;apply zi [1] 164
   . apply zi [45,41,60] 171
     . refine b λi1 d9=>?_;refine og' (c0 (Z5 _ d9)) ?_;exact zJ [90,2] a4 []
     exact zJ [66,52] a4 []
   exact zJ [10,66,54,66,52] a4 []
 intro b4;exact zr [79]
end Go.Proofs.YtgmknbfonlbjfaaGreatDoor
