import Derived.Test.YtmnalemmhfjacaaGreatDoorGenA2
set_option maxRecDepth 100000
set_option maxHeartbeats 4000000
namespace Go.Proofs.YtmnalemmhfjacaaGreatDoor
open Go Go.RowKit Tryz
theorem Q10{n:Nat}{x0}:FO 30 [str x0] (λr=>.tup [Jg r.1,bl r.2]) (Qm2 n x0):=by
 unfold Qm2;refine fs func30 λ_ _ _ _=>?_;refine zk [24,28,5] Qyh λg=>?_;apply z [1,92];refine yR 0 Lp.go [0,2,3,8] [100] [2,3] [100] (λu=>[(9,i64 u)]) (λ_=>[]) (λ_=>[]) (λ_=>[]) ?_ ?_;intro v u;apply zc [5,57,18];refine zb [37,120] λa2 a0=>?_;refine s1 (ixV (f:=str) (xs:=([g.a0,g.a1,g.a2,g.a3,g.a4,g.a5]:List (List UInt8))) (y:=a2) Gr sh_9.h rfl a0 (λ_=>rfl) (λ_=>rfl) rfl rfl rfl) ?_;refine zk [29] Qzx λa3=>?_;apply zc [1,129,0];refine zk [3] Qwc λa4=>?_;exact zr [12,75,73,15,27,8,15,6,43,63];exact zG [74,30,22,1,71];exact zJ [82] v;intro a5;refine slpk ?_;apply z [53,5];refine o (mB [str [],Uc [],Ue [],Uc [],Uc []]) ?_;exact zr [15,6]
theorem Qcy{n:Nat}{x0}{x1}:FO 61 [Qb x0,Qb x1] (λr=>.tup [Qb r.1,bl r.2]) (Xz n x0 x1):=by
 unfold Xz;refine fs func61 λ_ _ _ _=>?_;refine zk [47,84] Xe λr1=>?_;refine zk [12,40,15,84] Xe λr3=>?_;refine zk [12,20,104,15,28,8] Qgb λr5=>?_;apply zc [89,0];refine zk [5] Ka λr7=>?_;exact zr [15,6,26];refine zk [10,8,1] Qbv λv=>?_;apply z [20,105,27,13,7,139,31];refine o (stP (Q1 (⟨(v.Neg != r3.1.Neg),v.An⟩:Qf)) [0]) ?_;refine zb [18] λa3 g=>?_;refine b λa4 u=>?_;refine zs [[105],[],[104],[104]] ?_;refine dC (Qcx _ g) ?_;refine dC (Qb7 _ u) ?_;apply zy [[102],[]];exact zr [19]
theorem Qqr{n:Nat}{g}{u}:FO 32 [i64 g,i64 u] (λr=>.tup [Qb r.1,bl r.2]) (Qiw n g u):=by
 unfold Qiw;refine fs func32 λ_ _ _ _=>?_;refine zk [24,29] Ka λv=>?_;refine zk [1] Ka λr3=>?_;refine cb (ca Qcy) λr5=>?_;exact zr [106,15,6]
theorem Qj3{n:Nat}{g}{u}:FO 60 [i64 g,i64 u] Qb (Qfb n g u):=by
 unfold Qfb;refine fs func60 λ_ _ _ _=>?_;refine zk [24,0,16] Qqr λv=>?_;exact zr [12,75,15,84,21]
theorem Qz2{n:Nat}:FO 31 [] Vr (Qlk n ):=by
 unfold Qlk;refine fs func31 λ_ _ _ _=>?_;refine zk [24,0,5] Qj3 λg=>?_;refine cb (ca Qj3) λu=>?_;refine cb (ca Qj3) λv=>?_;refine cb (ca Ka) λr7=>?_;refine cb (ca Qj3) λr9=>?_;refine o (mB [Qb g,Qb u,Qb v,Qb r7,Qb r9,i64 (16:Int),i64 (100:Int)]) ?_;exact zr [21]
theorem Qd1{v}{x1}:FO 136 [i64 v,i64 x1] bl (X4 v x1):=by
 unfold X4;refine fs func136 λ_ _ _ _=>?_;apply z [5,2];refine zq [] [] (λu=>[(4,bl u)]) (λ_=>[]) ?_ ?_;intro j1 g;apply zi [45,100,1] 7;exact zj [64,49] g;exact zj [25,41] g;intro u;exact zr [67]
theorem Qz3{x0}:FO 134 [Q6 x0] bl (Qft x0):=by
 unfold Qft;refine fs func134 λ_ _ _ _=>?_;apply z [24,2];refine zq [] [] (λv=>[(2,bl v)]) (λ_=>[]) ?_ ?_;intro j5 g;refine zk [30,7,87] Qd1 λr8=>?_;apply zi [1] 7;refine zb [34] λa1 u=>?_;refine og' (c0 (Qd1 _ u)) ?_;apply zi [23] 12;apply zi [44,34,23] 20;exact zJ [44,49] g [];exact zJ [14,41] g [];exact zJ [68,32,14,41] g [];exact zJ [25,32,68,32,14,41] g [];intro v;exact zr [67]
theorem Qxp{g}:FO 173 [J4 g] Qjn (Qh5 g):=by
 unfold Qh5;refine fs func173 λ_ _ _ _=>?_;apply z [55,0,13,7,7];refine o (mB [i64 g.Op,i64 g.A,i64 g.B]) ?_;exact zr [21]
theorem Qz4{v}:FO 174 [Qb v] bl (Qfu v):=by
 unfold Qfu;refine fs func174 λ_ _ _ _=>?_;apply z [24,2];refine zq [] [] (λu=>[(2,bl u)]) (λ_=>[]) ?_ ?_;intro j1 g;apply zi [30,31,72,91,79,1] 7;apply zi [44,42,23] 14;exact zJ [44,49] g [];exact zJ [14,41] g [];exact zJ [14,51,32,14,41] g [];intro u;exact zr [67]
theorem Qqs{u}:FO 175 [J4 u] Uf (Qdr u):=by
 unfold Qdr;refine fs func175 λ_ _ _ _=>?_;apply z [24,60,2,18,13,92];refine zq [4] [100] (λs3=>[(5,bl s3),(1,.own 100),(2,Uf ([]:List Int))]) (λ_=>[]) ?_ ?_;intro j1 v;apply zc [66];exact zJ [10] v;exact zJ [30,112] v;intro s3;refine c ?_ ?_;apply z [13];refine o (mS 101 (List.map i64 ([u.A]:List Int))) ?_;apply z [6,43];refine fz 101 [2,10] [] ?_;exact rt [];refine zq [] [100] (λs6=>[(11,bl s6),(1,.own 100),(2,Uf ([]:List Int))]) (λ_=>[]) ?_ ?_;intro j4 g;apply zc [66];exact zJ [10] g;apply zc [66];exact zJ [10] g;apply zc [66];exact zJ [10] g;exact zJ [30,112] g;intro s6;refine c ?_ ?_;apply z [13,7];refine o (mS 101 (List.map i64 ([u.A,u.B]:List Int))) ?_;apply z [6,43];refine fz 101 [2,20] [] ?_;exact rt [];exact zr [74,81,2,0,67]
theorem Q3t{n:Nat}{x0}{x1}:FO 135 [Q6 x0,i64 x1] bl (Qgo n x0 x1):=by
 unfold Qgo;refine fs func135 λ_ _ _ _=>?_;refine zb [24,2,13,1] λy1 h2=>?_;apply zc [54,75,62,13,89,0];refine zq [1] [100,101] (λs9=>[(4,bl s9),(2,.own 100),(5,.own 101)]) (λ_=>[]) ?_ ?_;intro j7 a0;refine zk [30,17] Qxp λa5=>?_;refine o (mB [i64 (1:Int),i64 0,i64 0]) ?_;refine s1 (eqA (p:=(a5:Kh)) (q:=((⟨(1:Int),0,0⟩:Kh):Kh)) Qzq rfl Q5d rfl rfl rfl) ?_;apply zi [1] 20;refine zb [34] λb5 a4=>?_;refine og' (c0 (Qiz _ a4)) ?_;exact zJ [49] a0;exact zJ [25,41] a0;intro s9;exact zr [67,26];refine zk [37,13] Qz4 λb6=>?_;apply zc [78];exact zr [48,26];refine zk [37,8] Qqs λb7=>?_;apply z [36];refine nR [1,2,4,5,30] [100,101] (λ_=>[]) (λ_=>[]) ?_ ?_;intro b1 c5 c3 b0;refine zk [83,2,16] Qd1 λb8=>?_;apply zc [78];exact zr [48,58,63];exact zG [86];intro c4;apply zc [53,9,13,92,66];refine zk [8] Qxp λa6=>?_;refine o (mB [i64 (2:Int),i64 0,i64 0]) ?_;refine s1 (eqA (p:=(a6:Kh)) (q:=((⟨(2:Int),0,0⟩:Kh):Kh)) Qzq rfl Q5d rfl rfl rfl) ?_;exact zr [6,43];apply zc [66];refine zq [] [101] (λa1=>[(4,bl a1),(5,.own 101)]) (λ_=>[]) ?_ ?_;intro b2 g;refine zk [30,7,7] Qd1 λb9=>?_;apply zi [1] 56;exact zJ [64,49] g;exact zJ [25,41] g;intro a1;exact zr [67,43];apply zc [66];refine zq [] [101] (λa2=>[(4,bl a2),(5,.own 101)]) (λ_=>[]) ?_ ?_;intro b3 u;refine zk [30,7,7] Qd1 λc1=>?_;apply zi [1] 68;exact zJ [64,49] u;exact zJ [25,41] u;intro a2;exact zr [67,43];apply zc [66];exact zr [13,89,6,43];apply zc [66];refine zq [] [101] (λa3=>[(4,bl a3),(5,.own 101)]) (λ_=>[]) ?_ ?_;intro b4 v;apply zi [30,7,100,1] 83;exact zJ [64,49] v;exact zJ [25,41] v;intro a3;exact zr [67,43];refine zk [74,8] Qqs λc2=>?_;exact zr [33,89,6]
theorem Qz5{n:Nat}{g}:FO 97 [Q6 g] i64 (Qij n g):=by
 unfold Qij;refine fs func97 λ_ _ _ _=>?_;refine zk [24,28,8] Qz3 λr1=>?_;apply zc [78];exact zr [48,26];apply z [37,13,36];refine nR [1,2] [100] (λ_=>[]) (λ_=>[]) ?_ ?_;intro a0 a8 a4 u;refine zk [56,84,1] Q3t λa2=>?_;apply zc [78];exact zr [3,6,58,63];exact zG [86];intro a5;apply z [53,9,13,36];refine nR [1,2,22] [100] (λ_=>[]) (λ_=>[]) ?_ ?_;intro a1 a9 a6 v;refine zk [83,29,7,33] Qd1 λa3=>?_;apply zc [78];exact zr [13,33,6,58,63];exact zG [86];intro a7;exact zr [53,48]
theorem Qi0{n:Nat}{g}:FO 62 [Q6 g] bl (X5 n g):=by
 unfold X5;refine fs func62 λ_ _ _ _=>?_;refine zk [24,84] Qz5 λu=>?_;exact zr [89,6]
theorem Qnw{n:Nat}{g}:FO 63 [Jg g] bl (Qbh n g):=by
 unfold Qbh;refine fs func63 λ_ _ _ _=>?_;refine zk [24,84] Qnv λu=>?_;exact zr [89,6]
theorem Qgc{n:Nat}{x0}:FO 33 [Qj x0] bl (Yt n x0):=by
 unfold Yt;refine fs func33 λ_ _ _ _=>?_;apply z [24,2];refine zq [] [] (λv=>[(2,bl v)]) (λ_=>[]) ?_ ?_;intro j5 g;refine zk [30,7] Qi0 λr8=>?_;apply zi [1] 6;refine zb [34] λa1 u=>?_;refine og' (c0 (Qnw _ u)) ?_;apply zi [23] 11;exact zJ [44,64,49] g [];exact zJ [14,25,41] g [];exact zJ [25,32,14,25,41] g [];intro v;exact zr [67]
theorem Qwd{n:Nat}{x0}:FO 144 [Uc x0] bl (Qdy n x0):=by
 unfold Qdy;refine fs func144 λ_ _ _ _=>?_;apply z [5,50,36];refine nE [2,5] (λ_=>[]) ?_ ?_;intro a2 a8 a6 a1;apply z [83,103,27];refine zq [5,6,7] [] (λu=>[(18,bl u),(2,bl false)]) (λ_=>[]) ?_ ?_;intro a3 g;refine zk [30,17] Qiz λa4=>?_;apply zi [79,1] 14;exact zJ [25,46] g [];refine zb [42] λa5 v=>?_;refine og' (c0 (Qm6 _ v)) ?_;exact zJ [42,65] g [];intro u;refine c ?_ ?_;exact zr [48,58,63];exact zg [86];intro a7;exact zr [53,48]
theorem Y1{n:Nat}{g}:FO 19 [Qb g] i64 (Wo n g):=by
 unfold Wo;refine fs func19 λ_ _ _ _=>?_;refine zk [24,84] Xe λu=>?_;refine zk [12,75,15,84] Qgb λv=>?_;exact zr [6]
theorem Qlw{n:Nat}{g}:FO 145 [Qb g] bl (Qbq n g):=by
 unfold Qbq;refine fs func145 λ_ _ _ _=>?_;refine zk [24,84] Y1 λu=>?_;exact zr [94,6]
theorem Qz6{n:Nat}{g}:FO 112 [Vr g] i64 (Qiu n g):=by
 unfold Qiu;refine fs func112 λ_ _ _ _=>?_;refine zk [24,2,5] Ka λr1=>?_;apply z [75,62,35,13,7,7,7,7];refine o (mS 102 (List.map Qb ([g.Tol,g.Aq,g.Low,g.Ap,g.Ak]:List Qa))) ?_;refine b λr3 h4=>?_;refine s1 (callL (em:=[]) [102] [] [] [] rfl (Qwd _ h4) trivial (pl_bl) ⟨.inr ⟨102,rfl,.inl ⟨rfl,.inl ⟨_,_,_,rfl,Vg (f:=Qb) (λ_=>Ji) ([g.Tol,g.Aq,g.Low,g.Ap,g.Ak]:List Qa),rfl⟩⟩⟩,trivial⟩ (λ_ _ h=>by cases h) trivial rfl trivial trivial rfl trivial trivial trivial (rn_id (if_bl)) rfl) ?_;apply zc [79,2]
 . exact zr [77]
 refine zk [13] Y1 λr5=>?_;apply zc [57,2]
 . exact zr [77]
 refine zq [] [100,101] (λa2=>[(24,bl a2),(1,.own 100),(2,i64 (0:Int)),(3,.own 101)]) (λ_=>[]) ?_ ?_
 . intro a8 u;refine zk [30,7] Qlw λb2=>?_;apply zi [79,1] 29
   . exact zJ [14,51,49] u
   refine zb [64] λb3 a6=>?_;refine og' (c0 (Y8 _ a6)) ?_;exact zJ [42,41] u
 intro a2;refine c ?_ ?_
 . exact zr [77]
 refine zq [] [100,101] (λa3=>[(36,bl a3),(1,.own 100),(2,i64 (0:Int)),(3,.own 101)]) (λ_=>[]) ?_ ?_
 . intro a9 v;refine zk [30,7] Qlw λb4=>?_;apply zi [79,1] 41
   . exact zJ [14,51,49] v
   refine zb [64] λb5 a7=>?_;refine og' (c0 (Y8 _ a7)) ?_;exact zJ [42,41] v
 intro a3;refine c ?_ ?_
 . exact zr [77]
 refine zk [13,17] Y8 λb6=>?_;apply zc [57,2]
 . exact zr [77]
 refine zk [13] Qlw λb7=>?_;apply zc [79,2]
 . exact zr [77]
 refine zq [] [100] (λa4=>[(59,bl a4),(1,.own 100),(2,i64 (0:Int))]) (λ_=>[]) ?_ ?_
 . intro b0 a0;apply zi [30,7,57,1] 63
   . exact zJ [25,49] a0
   exact zJ [64,41] a0
 intro a4;refine c ?_ ?_
 . exact zr [77]
 refine zq [] [] (λa5=>[(68,bl a5),(2,i64 (0:Int))]) (λ_=>[]) ?_ ?_
 . intro b1 a1;apply zi [30,7,57,1] 72
   . exact zJ [25,49] a1 []
   exact zJ [64,41] a1 []
 intro a5;refine c ?_ ?_
 . exact zr [77]
 exact zr [74,48]
theorem Qz7{n:Nat}{g}:FO 80 [Vr g] bl (Qf5 n g):=by
 unfold Qf5;refine fs func80 λ_ _ _ _=>?_;refine zk [24,84] Qz6 λu=>?_;exact zr [89,6]
theorem Qyn{n:Nat}{x0}:FO 47 [Kd x0] bl (Qb4 n x0):=by
 unfold Qb4;refine fs func47 λ_ _ _ _=>?_;apply z [24,2];refine zq [] [] (λu=>[(2,bl u)]) (λ_=>[]) ?_ ?_;intro j9 g;refine zk [30,7] Qgc λa3=>?_;apply zi [1] 6;refine zb [34] λa4 v=>?_;refine og' (c0 (Qz7 _ v)) ?_;apply zi [23] 11;apply zi [44,44,23] 21;refine zb [44] λa5 a0=>?_;refine og' (c0 (Y8 _ a0)) ?_;apply zi [42,23] 29;refine zb [34] λa6 a1=>?_;refine og' (c0 (Y1 _ a1)) ?_;exact zJ [42,49] g [];exact zJ [14,41] g [];exact zJ [68,32,14,41] g [];exact zJ [14,14,32,68,32,14,41] g [];exact zJ [25,32,14,14,32,68,32,14,41] g [];intro u;exact zr [67]
theorem Wk{n:Nat}{g}{u}:FO 69 [Qb g,Qb u] Qb (Ki n g u):=by
 unfold Ki;refine fs func69 λ_ _ _ _=>?_;refine zk [47,69] Xe λv=>?_;refine zk [12,40,15,84] Xe λr3=>?_;refine zk [12,20,104,15,84,17] Qm7 λr5=>?_;refine zk [52] Qcx λr7=>?_;refine cb (ca Qb7) λr9=>?_;exact zr [21]
theorem Y2{n:Nat}{v}{x1}:FM 36 [Qb v,Uc x1] [] (λ_=>.own 50) (λr=>[(50,.sl 53 3 (List.map Qb r))]) (Wa n v x1):=by
 unfold Wa;refine fs func36 λ_ _ _ _=>?_;apply z [24,60,1,0,5];refine so (asgN (y:=101) (E:=53) (k:=3) rfl rfl) ?_;apply z [18,3,36];refine nR [2,4,5,8] [100] (λ_=>[]) (λg=>[(101,.sl 53 3 (List.map Qb g))]) ?_ ?_;intro a3 a5 g a1;refine zk [83,73,27,45,17,17] Wk λu=>?_;refine o (mS 103 (List.map Qb ([u]:List Qa))) ?_;refine b λa6 a2=>?_;exact zG [20,104,70] [(100,100),(101,104)];intro a4;exact zr [59,6] [(50,101)]
theorem Qm9{n:Nat}{a1}{g}{v}{a0}{u}:FM 50 [.own 0] [(0,.bx 131 (.agg [Kd a1,.agg [.own 1,Qb v,Uc a0],Qb u])),(1,.sl 191 14 (List.map Jm g))] bl (λ_=>[(0,.bx 131 (.agg [Kd a1,.agg [.own 1,Qb v,Uc a0],Qb u])),(1,.sl 191 14 (List.map Jm g))]) (Xt n a1 g v a0 u):=by
 unfold Xt;refine fs func50 λ_ _ _ _=>?_;refine zb [5,28] λr1 h2=>?_;refine zs [[],[0],[0],[],[0],[],[0],[0],[],[0]] ?_;refine dC (Qc8 _ h2) ?_;apply zy [[]];exact zr [19] (dI [0,1])
theorem Qz8{n:Nat}{g}{u}:FO 84 [Vr g,Qb u] bl (Qfy n g u):=by
 unfold Qfy;refine fs func84 λ_ _ _ _=>?_;refine zk [55,84,7] Y8 λv=>?_;exact zr [57,6]
theorem Qnx{n:Nat}{a1}{g}{v}{a0}{u}:FM 51 [.own 0] [(0,.bx 131 (.agg [Kd a1,.agg [.own 1,Qb v,Uc a0],Qb u])),(1,.sl 191 14 (List.map Jm g))] Qi (λ_=>[(0,.bx 131 (.agg [Kd a1,.agg [.own 1,Qb v,Uc a0],Qb u])),(1,.sl 191 14 (List.map Jm g))]) (Wm n a1 g v a0 u):=by
 unfold Wm;refine fs func51 λ_ _ _ _=>?_;apply zc [24,0,3,39,31,72,91,99,28,35,16,39,31,72,72,91,112];apply z [3,22];refine o (mB [i64 (5:Int),i64 (wrap64 ((g.length:Int)+(1:Int))),i64 0,i64 0]) ?_;exact zr [21,43] (dI [0,1]);refine zb [9] λr1 h2=>?_;refine zs [[],[0],[0],[],[0],[],[0],[0],[0]] ?_;refine dC (Qz8 _ h2) ?_;apply zy [[]];apply zc [11];apply z [3,22];refine o (mB [i64 (4:Int),i64 (wrap64 ((g.length:Int)+(1:Int))),i64 0,i64 0]) ?_;exact zr [21,43] (dI [0,1]);apply z [74,5];refine o (mB [i64 0,i64 0,i64 0,i64 0]) ?_;exact zr [21] (dI [0,1])
theorem Qny{g}{u}:FM 49 [Qi g,.own 0] [(0,.bx 63 (Qi u))] (λr=>bl r.1) (λr=>[(0,.bx 63 (Qi r.2))]) (Xv g u):=by
 unfold Xv;refine fs func49 λ_ _ _ _=>?_;apply z [24,84,27,8];refine o (mB [i64 0,i64 0,i64 0,i64 0]) ?_;refine s1 (neA (p:=(g:Qc)) (q:=((⟨0,0,0,0⟩:Qc):Qc)) Jp rfl eg_63 rfl rfl rfl) ?_;exact zr [6] [(0,0)]
theorem Qi1{n:Nat}{x0}{x1}:FO 116 [Qb x0,Qb x1] Qb (Qa4 n x0 x1):=by
 unfold Qa4;refine fs func116 λ_ _ _ _=>?_;refine zk [47,69] Xe λr1=>?_;refine zk [12,40,15,84] Xe λr3=>?_;refine zb [12,20,104,15,28] λr5 h6=>?_;refine b λr7 h8=>?_;refine b λr9 g=>?_;refine b λa4 u=>?_;refine b λa5 v=>?_;refine zs [[103],[]] ?_;refine dC (Qbv _ h6) ?_;apply zd [[104],[]];refine dC (Qbv _ h8) ?_;refine dC (Qj2 _ g) ?_;apply zd [[],[]];refine dC (Qcx _ u) ?_;refine dC (Qb7 _ v) ?_;apply zy [[102]];exact zr [19]
theorem Q3u{n:Nat}{g}{u}{v}:FO 85 [Qb g,Qb u,Qb v] Qb (Qii n g u v):=by
 unfold Qii;refine fs func85 λ_ _ _ _=>?_;refine zk [47,40,69,17] Qi1 λr1=>?_;refine zk [20,104,62,8,17] Y8 λr3=>?_;apply zc [94,0];exact zr [8,61];refine zk [10,8] Vb λr5=>?_;exact zr [21]
theorem Qc9{g}:FM 38 [i64 g] [] (λ_=>.own 50) (λr=>[(50,.bx 160 (Qh r))]) (Vx g):=by
 unfold Vx;refine fs func38 λ_ _ _ _=>?_;apply z [5,29,107,114];refine o (mB [Qkp (⟨0,0⟩:Y4),i64 (min (max g (0:Int)) (4096:Int))]) ?_;exact zr [103,6] [(50,100)]
theorem Qek{n:Nat}{x0}:FM 37 [i64 x0] [] (λ_=>.own 50) (λr=>[(50,.sl 53 3 (List.map Qb r))]) (Y6 n x0):=by
 unfold Y6;refine fs func37 λ_ _ _ _=>?_;refine zb [81,1,0,3,107,114,29] λy1 h2=>?_;refine so (mks (y:=100) (f:=Qb) h2 Uk ti_53.h Jd rfl rfl rfl rfl rfl rfl) ?_;apply z [28,16,92];refine yR 0 (λt=>t) [2,3,10] [] [2,3] [] (λg=>[(11,i64 g.2)]) (λg=>[(100,.sl 53 3 (List.map Qb g.1))]) (λ_=>[]) (λu=>[(100,.sl 53 3 (List.map Qb u))]) ?_ ?_;intro v g;apply zc [5,57,18];refine zk [37,56,2,38] Ka λa2=>?_;refine b λa3 a1=>?_;exact zG [80,97,96,11,30,22,1,71];exact zJ [82] v;intro u;exact zr [59,6] [(50,100)]
theorem Qqt{n:Nat}{x0}{x1}{x2}:FM 192 [Uc x0,.own 0,i64 x2] [(0,.sl 44 1 (List.map Qd x1))] (λr=>.tup [Uc r.1,bl r.2]) (λ_=>[(0,.sl 44 1 (List.map Qd x1))]) (Qfv n x0 x1 x2):=by
 unfold Qfv;refine fs func192 λ_ _ _ _=>?_;apply z [81,1,28];refine zq [0,2] [0] (λs3=>[(27,bl s3),(1,.own 0),(6,Uc ([]:List Qa)),(7,bl false)]) (λ_=>[]) ?_ ?_;intro j1 a0;apply zi [45,95,99,104,1] 20;exact zJ [90,23,90,46] a0;apply zi [34,32] 24;exact zJ [90,46] a0;exact zJ [34,65] a0;intro s3;refine c ?_ ?_;exact zr [81,1,6,26] [(0,0)];apply z [37,3,99,1,92];refine nR [0,1,2,6,7,28] [0] (λ_=>[]) (λ_=>[]) ?_ ?_;intro d6 d9 s9 c3;apply zc [120,80,101,29,95,104,0];exact zr [81,1,6,58,63] [(0,0)];exact zG [86];intro d8;refine zb [59] λd7 b4=>?_;refine o (cG (Qek _ b4) [] [(100,50)] []) ?_;apply z [50,99,1,92];refine nR [0,6,7,10,41] [0] (λ_=>[]) (λa1=>[(100,.sl 53 3 (List.map Qb a1))]) ?_ ?_;intro c4 d0 a1 b8;refine zb [56,80,101,4,28,16] λd2 c1=>?_;refine zk [54] Y1 λc6=>?_;apply zc [89,0];exact zG [134,110];apply z [10,3,36];refine nR [0,6,7,10,11,41,42,43,54] [0] (λ_=>[]) (λa2=>[(100,.sl 53 3 (List.map Qb a2))]) ?_ ?_;intro c5 d1 a2 b9;refine zb [56,54,75,4,27] λd3 u=>?_;refine b λd4 c2=>?_;refine b λc7 a3=>?_;refine b λa5 a4=>?_;refine b λd5 v=>?_;refine zs [[],[],[],[]] ?_;refine dx [63,64] [100] (λst mm ⟨a9,b0,_⟩ ⟨g,_⟩=>og (ixO (f:=Qb) (g.trans rfl) Uk ti_53.h u rfl (a9.trans rfl) (b0.trans rfl))) ?_;refine dx [65] [100] (λst mm ⟨b1,_⟩ ⟨g,_⟩=>og (ldO (f:=Qb) [] (g.trans rfl) (Z4 u) oz off0 sh_53.h oz oz rfl (b1.trans rfl))) ?_;apply zd [[],[],[],[],[101]];refine dC (Wk _ a3) ?_;refine dC (W7 _ a4) ?_;refine dx [61,62] [100] (λst mm ⟨a7,a8,_⟩ ⟨g,_⟩=>og (ixO (f:=Qb) (g.trans rfl) Uk ti_53.h v rfl (a7.trans rfl) (a8.trans rfl))) ?_;refine dx [74,73] [100] (λst mm ⟨b3,b2,_⟩ ⟨g,_⟩=>og (stO (f:=Qb) a5 [] (g.trans rfl) (Z4 v) oz off0 oz oz sh_53.h oz oz oz (b3.trans rfl) (b2.trans rfl))) ?_;refine dE ?_;exact zG [85];intro c8;exact zG [110,85];intro c9;apply z [59,4,6];refine fz 100 [6,10,77] [] ?_;exact rt [(0,0)]
theorem Qhg{n:Nat}{a3}{a4}{a2}{a5}{a1}{a0}{v}{g}{u}{x1}:FM 154 [.own 0,Uc x1] [(0,.bx 219 (.agg [Qj a3,Qb a4,Qb a2,Uc a5,.own 1,.agg [.own 2,.own 3,Uc g,Uc u]])),(1,.bx 160 (Qh a1)),(2,.sl 44 1 (List.map Qd a0)),(3,.sl 44 1 (List.map Qd v))] Uc (λ_=>[(0,.bx 219 (.agg [Qj a3,Qb a4,Qb a2,Uc a5,.own 1,.agg [.own 2,.own 3,Uc g,Uc u]])),(1,.bx 160 (Qh a1)),(2,.sl 44 1 (List.map Qd a0)),(3,.sl 44 1 (List.map Qd v))]) (Vj n a3 a4 a2 a5 a1 a0 v g u x1):=by
 unfold Vj;refine fs func154 λ_ _ _ _=>?_;refine zb [81,1,18] λr1 h2=>?_;refine zs [[],[],[0],[0],[],[0],[],[0],[0],[0],[]] ?_;refine dd [3] (λ_ _ _ _=>cG (Qqt _ h2) [3] [] [3]) ?_;apply zy [[],[],[],[],[]];refine zb [11,3,39,7,1] λr3 h4=>?_;refine o (cG (Y2 _ h4) [] [(100,50)] []) ?_;apply z [6];refine fz 100 [4,27] [] ?_;exact rt (dI [0,1,2,3])
theorem Q3v{n:Nat}{v}:FM 142 [Uc v] [] (λ_=>.own 50) (λr=>[(50,.sl 53 3 (List.map Qb r))]) (Qio n v):=by
 unfold Qio;refine fs func142 λ_ _ _ _=>?_;apply z [81,1,0,5];refine so (asgN (y:=100) (E:=53) (k:=3) rfl rfl) ?_;apply z [18,3,36];refine nR [2,3,6] [] (λ_=>[]) (λg=>[(100,.sl 53 3 (List.map Qb g))]) ?_ ?_;intro a2 a4 g a0;refine zk [83,75,27,45,17] Vb λu=>?_;refine o (mS 102 (List.map Qb ([u]:List Qa))) ?_;refine b λa5 a1=>?_;exact zG [40,70] [(100,103)];intro a3;exact zr [59,6] [(50,100)]
theorem Qgd{n:Nat}{x0}:FO 110 [Ue x0] (λr=>.tup [Uc r.1,bl r.2]) (Zv n x0):=by
 unfold Zv;refine fs func110 λ_ _ _ _=>?_;apply zc [81,1,50,33,89,0];exact zr [81,1,6,26];refine zb [10,3] λy1 h2=>?_;refine zb [54] λr3 h4=>?_;refine o (cG (Q3v _ h4) [] [(100,50)] []) ?_;refine zb [50] λy5 h6=>?_;refine s1 (slR (f:=Qd) h6 Ul ti_44.h rfl rfl (bnd (kI (x:=1) rfl)) bnd0) ?_;apply z [36];refine nR [2,3,4,17] [] (λ_=>[]) (λa0=>[(100,.sl 53 3 (List.map Qb a0))]) ?_ ?_;intro b5 b9 a0 b3;apply zc [83,50,95,99,104,0];exact zr [81,1,6,26,58,63];apply z [10,3,36];refine nR [2,3,4,17,18,19,28] [] (λ_=>[]) (λa1=>[(100,.sl 53 3 (List.map Qb a1))]) ?_ ?_;intro b6 c1 a1 b4;refine zb [56,54,75,4,27] λc2 u=>?_;refine b λb0 a9=>?_;refine b λc3 v=>?_;refine zs [[],[],[],[]] ?_;refine dx [37,38] [100] (λst mm ⟨a4,a5,_⟩ ⟨g,_⟩=>og (ixO (f:=Qb) (g.trans rfl) Uk ti_53.h u rfl (a4.trans rfl) (a5.trans rfl))) ?_;refine dx [39] [100] (λst mm ⟨a6,_⟩ ⟨g,_⟩=>og (ldO (f:=Qb) [] (g.trans rfl) (Z4 u) oz off0 sh_53.h oz oz rfl (a6.trans rfl))) ?_;apply zd [[101]];refine dC (W7 _ a9) ?_;refine dx [35,36] [100] (λst mm ⟨a2,a3,_⟩ ⟨g,_⟩=>og (ixO (f:=Qb) (g.trans rfl) Uk ti_53.h v rfl (a2.trans rfl) (a3.trans rfl))) ?_;refine dx [43,42] [100] (λst mm ⟨a8,a7,_⟩ ⟨g,_⟩=>og (stO (f:=Qb) b0 [] (g.trans rfl) (Z4 v) oz off0 oz oz sh_53.h oz oz oz (a8.trans rfl) (a7.trans rfl))) ?_;refine dE ?_;exact zG [85];intro b7;exact zG [110,85];intro b8;apply z [59,4,6];refine fz 100 [2,4,46] [] ?_;exact rt []
theorem Qi2{n:Nat}{a4}{a5}{a3}{a1}{a2}{a0}{v}{g}{u}{x1}:FM 151 [.own 0,Uc x1] [(0,.bx 219 (.agg [Qj a4,Qb a5,Qb a3,Uc a1,.own 1,.agg [.own 2,.own 3,Uc g,Uc u]])),(1,.bx 160 (Qh a2)),(2,.sl 44 1 (List.map Qd a0)),(3,.sl 44 1 (List.map Qd v))] Uc (λ_=>[(0,.bx 219 (.agg [Qj a4,Qb a5,Qb a3,Uc a1,.own 1,.agg [.own 2,.own 3,Uc g,Uc u]])),(1,.bx 160 (Qh a2)),(2,.sl 44 1 (List.map Qd a0)),(3,.sl 44 1 (List.map Qd v))]) (Xp n a4 a5 a3 a1 a2 a0 v g u x1):=by
 unfold Xp;refine fs func151 λ_ _ _ _=>?_;refine zb [81,1,18] λr3 h4=>?_;refine b λr5 h6=>?_;refine zs [[],[0],[0],[0],[],[]] ?_;refine dd [0,1,2,3] (λ_ _ _ _=>cG (Qhg _ h4) [0,1,2,3] [] [0,1,2,3]) ?_;refine dd [100] (λ_ _ _ _=>tV (mS 100 (List.map Qd ([a1,r3]:List (List Qa))))) ?_;refine dC (Qgd _ h6) ?_;apply zy [[],[],[],[],[]];exact zr [11,3,6] (dI [0,1,2,3])
theorem Qnz{g}{u}:FM 178 [.ptr 0 0,i64 u] [(0,.bx 160 (Qh g))] (λ_=>.tup []) (λr=>[(0,.bx 160 (Qh r))]) (Qai g u):=by
 unfold Qai;refine fs func178 λ_ _ _ _=>?_;apply z [3,39,72,91,22,39,72];refine o (stP (Qh (⟨(⟨wrap64 (g.Count.Seen+(1:Int)),g.Count.Peak⟩:Y4),g.limit⟩:Qg)) [0,0]) ?_;apply z [0,38,39,72,91,1,107,39,72];refine o (stP (Qh (⟨(⟨wrap64 (g.Count.Seen+(1:Int)),max g.Count.Peak u⟩:Y4),g.limit⟩:Qg)) [0,1]) ?_;exact zr [71] [(0,0)]
theorem Zf{n:Nat}{g}{u}:FM 143 [.own 0,Qb u] [(0,.bx 160 (Qh g))] (λr=>bl r.1) (λr=>[(0,.bx 160 (Qh r.2))]) (Ko n g u):=by
 unfold Ko;refine fs func143 λ_ _ _ _=>?_;refine zk [24,84] Qm6 λv=>?_;refine zb [29,39,31,1] λr3 h4=>?_;refine o (cG (Qnz _ h4) [0] [] []) ?_;exact zr [0,16,39,7,117,6] [(0,0)]
theorem Zq{n:Nat}{v}{x1}:FM 111 [.own 0,Uc x1] [(0,.bx 160 (Qh v))] (λr=>.tup [i64 r.1,bl r.2.1]) (λr=>[(0,.bx 160 (Qh r.2.2))]) (Vk n v x1):=by
 unfold Vk;refine fs func111 λ_ _ _ _=>?_;apply z [5,4,50,36];refine nR [0,1,4,5,8] [] (λ_=>[]) (λg=>[(0,.bx 160 (Qh g))]) ?_ ?_;intro a2 a5 g a1;refine zb [56,54,103,4,27,3,17] λa3 u=>?_;refine o (cG (Zf _ u) [0] [] []) ?_;apply zc [78];exact zr [3,4,6,58,63] [(0,0)];exact zG [86];intro a4;exact zr [59,33,4,6] [(0,0)]
theorem Qel{n:Nat}{a2}{a3}{a1}{a4}{a5}{a0}{v}{g}{u}{x1}{x2}:FM 152 [.own 0,Uc x1,i64 x2] [(0,.bx 219 (.agg [Qj a2,Qb a3,Qb a1,Uc a4,.own 1,.agg [.own 2,.own 3,Uc g,Uc u]])),(1,.bx 160 (Qh a5)),(2,.sl 44 1 (List.map Qd a0)),(3,.sl 44 1 (List.map Qd v))] (λr=>Qi r.1) (λr=>[(0,.bx 219 (.agg [Qj a2,Qb a3,Qb a1,Uc a4,.own 1,.agg [.own 2,.own 3,Uc g,Uc u]])),(1,.bx 160 (Qh r.2)),(2,.sl 44 1 (List.map Qd a0)),(3,.sl 44 1 (List.map Qd v))]) (V3 n a2 a3 a1 a4 a5 a0 v g u x1 x2):=by
 unfold V3;refine fs func152 λ_ _ _ _=>?_;refine zb [24,18,3,39,7,1] λr1 h2=>?_;refine o (cG (Zq _ h2) [1] [] []) ?_;apply zc [12,4,29,78];apply z [16,22];refine o (mB [i64 (6:Int),i64 0,i64 x2,i64 (wrap64 ((300:Int)+r1.1))]) ?_;exact zr [61] (dI [0,1,2,3]);apply z [10,5];refine o (mB [i64 0,i64 0,i64 0,i64 0]) ?_;exact zr [21] (dI [0,1,2,3])
theorem Qkr{n:Nat}{x0}{x1}{x2}{x3}:FO 190 [Qj x0,Qb x1,Qb x2,i64 x3] Qb (Qap n x0 x1 x2 x3):=by
 unfold Qap;refine fs func190 λ_ _ _ _=>?_;apply z [47,40,18];refine zq [3] [100,101,102,103] (λv=>[(18,bl v),(4,.own 100),(5,.own 101),(6,.own 102),(8,.own 103)]) (λ_=>[]) ?_ ?_;intro j1 g;apply zi [45,57,1] 11;exact zJ [68,46] g;exact zJ [44,34,65] g;intro v;refine c ?_ ?_;refine zk [8] Vb λr4=>?_;exact zr [61];refine zb [37] λy6 h7=>?_;refine b λr8 h9=>?_;refine b λa5 u=>?_;refine zs [[101],[102],[100],[],[100],[],[],[]] ?_;refine dC (Wk _ h9) ?_;refine dC (W7 _ u) ?_;apply zy [[103]];exact zr [19]
theorem Q5o{g}{u}{v}:FO 189 [Qj g,Qb u,Uc v] Wt (Qmf g u v):=by
 unfold Qmf;refine fs func189 λ_ _ _ _=>?_;apply z [47,69,1,7];refine o (mB [Qb u,Uc v,Uc g.P]) ?_;exact zr [21]
theorem Qqu{n:Nat}{v}:FO 254 [Uc v] Uc (Qfw n v):=by
 unfold Qfw;refine fs func254 λ_ _ _ _=>?_;apply z [81,1,0,5];refine so (asgN (y:=100) (E:=53) (k:=3) rfl rfl) ?_;apply z [18,3,36];refine nR [2,3,6] [] (λ_=>[]) (λg=>[(100,.sl 53 3 (List.map Qb g))]) ?_ ?_;intro a2 a4 g a0;refine zk [83,75,27,45,17] Vb λu=>?_;refine o (mS 102 (List.map Qb ([u]:List Qa))) ?_;refine b λa5 a1=>?_;exact zG [40,70] [(100,103)];intro a3;apply z [59,6];refine fz 100 [2,3,18] [] ?_;exact rt []
theorem Qna{n:Nat}{g}:FO 239 [Wt g] Wt (Qbe n g):=by
 unfold Qbe;refine fs func239 λ_ _ _ _=>?_;refine zb [55,18] λv h2=>?_;refine b λr3 h4=>?_;refine b λr5 u=>?_;refine zs [[100],[100]] ?_;refine dC (Vb _ h2) ?_;apply zd [[100],[100]];refine dC (Qqu _ h4) ?_;apply zd [[100],[100]];refine dC (Qqu _ u) ?_;refine dd [] (λ_ _ _ _=>mB [Qb v,Uc r3,Uc r5]) ?_;apply zy [[101]];exact zr [19]
theorem Qgr{n:Nat}{g}:FO 251 [Qb g] Qb (Qab n g):=by
 unfold Qab;refine fs func251 λ_ _ _ _=>?_;refine zk [55,69] Vb λu=>?_;refine zk [73,27,13] Qss λv=>?_;apply z [31];refine o (stP (Qb (⟨v,u.Den⟩:Qa)) [0]) ?_;exact zr [69,21]
theorem Qr9{n:Nat}{g}{u}:FM 294 [.agg [.own 0],Qb u] [(0,.bx 160 (Qh g))] Qb (λ_=>[(0,.bx 160 (Qh g))]) (Qdh n g u):=by
 unfold Qdh;refine fs func294 λ_ _ _ _=>?_;refine zk [47,69] Qgr λv=>?_;exact zr [21] [(0,0)]
theorem Qqv{n:Nat}{x0}{x1}:FO 272 [Ud x0,i64 x1] Ud (Qdt n x0 x1):=by
 unfold Qdt;refine fs func272 λ_ _ _ _=>?_;refine zk [76,0,5] Qbu λr1=>?_;apply z [28,16,92];refine yE 0 (λt=>t) [0,4,7] [4] (λg=>[(5,Ud g.1),(8,i64 g.2)]) (λv=>[(5,Ud v)]) ?_ ?_;intro u g;apply zc [5,57,18];refine zk [37,35,38] Qcx λa2=>?_;exact zg [70,11,30,22,1,71];exact zj [82] u;intro v;exact zr [59,6]
theorem Qk8{n:Nat}{x0}{x1}:FO 267 [Qb x0,i64 x1] (λr=>.tup [Qb r.1,bl r.2]) (Qcl n x0 x1):=by
 unfold Qcl;refine fs func267 λ_ _ _ _=>?_;apply z [55,28];refine zq [1] [100,101] (λs5=>[(24,bl s5),(2,.own 100),(4,.own 101),(5,bl false)]) (λ_=>[]) ?_ ?_;intro j3 u;apply zi [45,57,1] 12;exact zJ [90,23,25,88,122,51,46] u;apply zi [34,32] 16;exact zJ [25,88,122,51,46] u;apply zi [64] 19;refine zb [42] λr6 h7=>?_;refine og' (c0 (Y1 _ h7)) ?_;exact zJ [34,65] u;exact zJ [25,42,65] u;intro s5;refine c ?_ ?_;refine zk [5] Ka λr8=>?_;exact zr [15,6,26];refine zk [10,8] Vb λb2=>?_;refine zb [73,27,16,143,107,28] λb3 a3=>?_;refine b λb4 a4=>?_;refine zs [[102],[],[102],[]] ?_;refine dC (Qqv _ a3) ?_;apply zd [[102],[102],[]];refine dC (Qqv _ a4) ?_;apply zy [[],[]];apply z [11];refine zq [7] [101,102] (λg=>[(8,Ud g.1),(9,Ud g.2),(4,.own 101),(5,bl false),(6,.own 102)]) (λ_=>[]) ?_ ?_;intro b0 v;apply zc [3,57,0];exact zJ [38,4,2] v;exact zJ [10] v;intro g;refine zq [] [] (λ_=>[(4,.own 101),(5,bl true)]) (λa2=>[(101,.bx 53 (Qb a2))]) ?_ ?_;intro b1 a0;apply zi [30,31,72,91,1] 48;apply z [64,23];refine o (mB [bl (decide ((Int.tmod (max x1 (wrap64 (-x1))) (2:Int))=(1:Int))),Ud g.1]) ?_;refine cb (ca Qlt) λa5=>?_;apply z [1];refine o (mB [Q1 a5,Ud g.2]) ?_;exact zJ [15,2] a0;apply z [25,32];refine o (mB [bl false,Ud g.1]) ?_;refine cb (ca Qlt) λa6=>?_;apply z [1];refine o (mB [Q1 a6,Ud g.2]) ?_;exact zJ [15,2] a0;intro a2;exact zr [67]
theorem Qsa{n:Nat}{g}{u}{v}:FM 296 [.agg [.own 0],Qb u,i64 v] [(0,.bx 160 (Qh g))] (λr=>.tup [Qb r.1,bl r.2]) (λ_=>[(0,.bx 160 (Qh g))]) (Qdi n g u v):=by
 unfold Qdi;refine fs func296 λ_ _ _ _=>?_;refine zk [47,84,1] Qk8 λr1=>?_;exact zr [106,15,6] [(0,0)]
theorem Qsb{n:Nat}{g}{u}{v}:FM 291 [.agg [.own 0],Qb u,Qb v] [(0,.bx 160 (Qh g))] Qb (λ_=>[(0,.bx 160 (Qh g))]) (Qdj n g u v):=by
 unfold Qdj;refine fs func291 λ_ _ _ _=>?_;refine zk [47,40,69,17] W7 λr1=>?_;exact zr [21] [(0,0)]
theorem Qsc{n:Nat}{g}{u}{v}:FM 298 [.agg [.own 0],Qb u,Qb v] [(0,.bx 160 (Qh g))] Qb (λ_=>[(0,.bx 160 (Qh g))]) (Qdk n g u v):=by
 unfold Qdk;refine fs func298 λ_ _ _ _=>?_;refine zk [47,40,69,17] Qi1 λr1=>?_;exact zr [21] [(0,0)]
end Go.Proofs.YtmnalemmhfjacaaGreatDoor
