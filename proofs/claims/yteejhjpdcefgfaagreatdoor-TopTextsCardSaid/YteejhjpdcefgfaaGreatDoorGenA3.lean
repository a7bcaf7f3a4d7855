import Derived.Test.YteejhjpdcefgfaaGreatDoorGenA2
set_option maxRecDepth 100000
set_option maxHeartbeats 4000000
namespace Go.Proofs.YteejhjpdcefgfaaGreatDoor
open Go Go.RowKit Tryz
theorem Qrc{n:Nat}{g}:FO 13 [str g] (λr=>.tup [Je r.1,Qh r.2]) (Qcm n g):=by
 unfold Qcm;refine fs func13 λ_ _ _ _=>?_;apply zc [63,0,8,98,93,0];apply z [10];refine o (mB [str [],Uc [],Ug [],Uc [],Uc []]) ?_;refine o (mB [i64 (1:Int),i64 0,i64 0,i64 (4000:Int)]) ?_;exact zr [20,71];refine zk [6,7] Q3i λu=>?_;apply z [16,86,54,20,74,3];refine o (mB [i64 0,i64 0,i64 0,i64 0]) ?_;refine s1 (neA (p:=(u.2:Qc)) (q:=((⟨0,0,0,0⟩:Qc):Qc)) J4 rfl eg_65 rfl rfl rfl) ?_;apply zc [0];apply z [5];refine sd ?_;refine dd [] (λ_ _ _ _=>mB [str [],Uc [],Ug [],Uc [],Uc []]) ?_;apply zy [[103],[100],[101]];exact zr [34,29];refine zk [48,3] Qrb λv=>?_;apply zc [83,105,0];apply z [10];refine o (mB [str [],Uc [],Ug [],Uc [],Uc []]) ?_;apply z [1];refine o (mB [i64 (2:Int),i64 0,i64 0,i64 v]) ?_;exact zr [20,71];apply z [48];refine zx [[102],[103],[100],[101]] ?_;exact zr [34]
theorem Q8g{n:Nat}{x0}:FO 60 [str x0] (λr=>.tup [Je r.1,bl r.2]) (Qqb n x0):=by
 unfold Qqb;refine fs func60 λ_ _ _ _=>?_;refine zk [57,5,10] Q3e λg=>?_;apply z [1,91];refine yR 0 Lp.go [0,2,3,8] [100] [2,3] [100] (λu=>[(9,i64 u)]) (λ_=>[]) (λ_=>[]) (λ_=>[]) ?_ ?_;intro v u;apply zc [10,49,30];refine zb [48,125] λa2 a0=>?_;refine s1 (ixV (f:=str) (xs:=([g.a0,g.a1,g.a2,g.a3,g.a4,g.a5]:List (List UInt8))) (y:=a2) G0 sh_9.h rfl a0 (λ_=>rfl) (λ_=>rfl) rfl rfl rfl) ?_;refine zk [83] Q5f λa3=>?_;apply zc [1,107,0];refine zk [7] Qrc λa4=>?_;exact zr [16,82,86,20,24,3,20,4,43,58];exact zG [72,28,15,1,78];exact zJ [67] v;intro a5;refine slpk ?_;apply z [45,10];refine o (mB [str [],Uc [],Ug [],Uc [],Uc []]) ?_;exact zr [20,4]
theorem Qld{n:Nat}{x0}{x1}:FO 121 [Qb x0,Qb x1] (λr=>.tup [Qb r.1,bl r.2]) (Qb2 n x0 x1):=by
 unfold Qb2;refine fs func121 λ_ _ _ _=>?_;refine zk [81,2,3] Xk λr1=>?_;refine zk [16,54,20,2,3] Xk λr3=>?_;refine zk [16,25,104,20,2,5,3] Qe8 λr5=>?_;apply zc [90,0];refine zk [10] Vd λr7=>?_;exact zr [20,4,29];refine zk [6,3,1] Qcx λv=>?_;apply z [25,105,24,11,12,141,89];refine o (stP (Q1 (⟨(v.Neg != r3.1.Neg),v.A2⟩:Qe)) [0]) ?_;refine zb [30] λa3 g=>?_;refine b λa4 u=>?_;refine zs [[105],[],[104],[104]] ?_;refine dC (Qdu _ g) ?_;refine dC (Qda _ u) ?_;apply zy [[102],[]];exact zr [34]
theorem Qus{n:Nat}{g}{u}:FO 62 [i64 g,i64 u] (λr=>.tup [Qb r.1,bl r.2]) (Qkv n g u):=by
 unfold Qkv;refine fs func62 λ_ _ _ _=>?_;refine zk [57,7] Vd λv=>?_;refine zk [1] Vd λr3=>?_;refine cb (ca Qld) λr5=>?_;exact zr [112,20,4]
theorem Qmi{n:Nat}{g}{u}:FO 120 [i64 g,i64 u] Qb (Qgv n g u):=by
 unfold Qgv;refine fs func120 λ_ _ _ _=>?_;refine zk [73,0,14] Qus λv=>?_;exact zr [16,82,20,2,3,26]
theorem Q5k{n:Nat}:FO 61 [] Vw (Qn5 n ):=by
 unfold Qn5;refine fs func61 λ_ _ _ _=>?_;refine zk [73,0,10] Qmi λg=>?_;refine cb (ca Qmi) λu=>?_;refine cb (ca Qmi) λv=>?_;refine cb (ca Vd) λr7=>?_;refine cb (ca Qmi) λr9=>?_;refine o (mB [Qb g,Qb u,Qb v,Qb r7,Qb r9,i64 (16:Int),i64 (100:Int)]) ?_;exact zr [26]
theorem Qe9{v}{x1}:FO 234 [i64 v,i64 x1] bl (Yj v x1):=by
 unfold Yj;refine fs func234 λ_ _ _ _=>?_;apply z [18];refine zq [] [] (λu=>[(4,bl u)]) (λ_=>[]) ?_ ?_;intro j1 g;apply zi [13,101,1] 7;exact zj [68,52] g;exact zj [23,42] g;intro u;exact zr [66]
theorem Q5l{x0}:FO 232 [Q6 x0] bl (Qhn x0):=by
 unfold Qhn;refine fs func232 λ_ _ _ _=>?_;apply z [57];refine zq [] [] (λv=>[(2,bl v)]) (λ_=>[]) ?_ ?_;intro j5 g;refine zk [28,12,76] Qe9 λr8=>?_;apply zi [1] 7;refine zb [39] λa1 u=>?_;refine og' (c0 (Qe9 _ u)) ?_;apply zi [22] 12;apply zi [53,39,22] 20;exact zJ [53,52] g [];exact zJ [9,42] g [];exact zJ [9,36,27,9,42] g [];exact zJ [23,27,9,36,27,9,42] g [];intro v;exact zr [66]
theorem Q2d{g}:FO 278 [Q4 g] Qlx (Qke g):=by
 unfold Qke;refine fs func278 λ_ _ _ _=>?_;apply z [63,0,11,12,12];refine o (mB [i64 g.Op,i64 g.A,i64 g.B]) ?_;exact zr [26]
theorem Q5m{v}:FO 279 [Qb v] bl (Qho v):=by
 unfold Qho;refine fs func279 λ_ _ _ _=>?_;apply z [57];refine zq [] [] (λu=>[(2,bl u)]) (λ_=>[]) ?_ ?_;intro j1 g;apply zi [28,89,77,97,47,1] 7;apply zi [53,38,22] 14;exact zJ [53,52] g [];exact zJ [9,42] g [];exact zJ [9,56,27,9,42] g [];intro u;exact zr [66]
theorem Qut{u}:FO 280 [Q4 u] Uh (Qew u):=by
 unfold Qew;refine fs func280 λ_ _ _ _=>?_;apply z [73,87,2,30,11,91];refine zq [4] [100] (λs3=>[(5,bl s3),(1,.own 100),(2,Uh ([]:List Int))]) (λ_=>[]) ?_ ?_;intro j1 v;apply zc [50];exact zJ [6] v;exact zJ [28,104] v;intro s3;refine c ?_ ?_;apply z [11];refine o (mS 101 (List.map i64 ([u.A]:List Int))) ?_;apply z [4,43];refine fz 101 [2,10] [] ?_;exact rt [];refine zq [] [100] (λs6=>[(11,bl s6),(1,.own 100),(2,Uh ([]:List Int))]) (λ_=>[]) ?_ ?_;intro j4 g;apply zc [50];exact zJ [6] g;apply zc [50];exact zJ [6] g;apply zc [50];exact zJ [6] g;exact zJ [28,104] g;intro s6;refine c ?_ ?_;apply z [11,12];refine o (mS 101 (List.map i64 ([u.A,u.B]:List Int))) ?_;apply z [4,43];refine fz 101 [2,20] [] ?_;exact rt [];exact zr [72,40,2,0,66]
theorem Jar{n:Nat}{x0}{x1}:FO 233 [Q6 x0,i64 x1] bl (Qii n x0 x1):=by
 unfold Qii;refine fs func233 λ_ _ _ _=>?_;refine zb [57,11,1] λy1 h2=>?_;apply zc [59,82,74,11,90,0];refine zq [1] [100,101] (λs9=>[(4,bl s9),(2,.own 100),(5,.own 101)]) (λ_=>[]) ?_ ?_;intro j7 a0;refine zk [28,31] Q2d λa5=>?_;refine o (mB [i64 (1:Int),i64 0,i64 0]) ?_;refine s1 (eqA (p:=(a5:Ku)) (q:=((⟨(1:Int),0,0⟩:Ku):Ku)) Q48 rfl Jb1 rfl rfl rfl) ?_;apply zi [1] 20;refine zb [39] λb5 a4=>?_;refine og' (c0 (Qlc _ a4)) ?_;exact zJ [52] a0;exact zJ [23,42] a0;intro s9;exact zr [66,29];refine zk [48,11] Q5m λb6=>?_;apply zc [47,0];exact zr [41,29];refine zk [48,3] Qut λb7=>?_;apply z [37];refine nR [1,2,4,5,30] [100,101] (λ_=>[]) (λ_=>[]) ?_ ?_;intro b1 c5 c3 b0;refine zk [70,2,14] Qe9 λb8=>?_;apply zc [47,0];exact zr [41,55,58];exact zG [85,35];intro c4;apply zc [45,5,11,91,50];refine zk [3] Q2d λa6=>?_;refine o (mB [i64 (2:Int),i64 0,i64 0]) ?_;refine s1 (eqA (p:=(a6:Ku)) (q:=((⟨(2:Int),0,0⟩:Ku):Ku)) Q48 rfl Jb1 rfl rfl rfl) ?_;exact zr [4,43];apply zc [50];refine zq [] [101] (λa1=>[(4,bl a1),(5,.own 101)]) (λ_=>[]) ?_ ?_;intro b2 g;refine zk [28,12,12] Qe9 λb9=>?_;apply zi [1] 56;exact zJ [68,52] g;exact zJ [23,42] g;intro a1;exact zr [66,43];apply zc [50];refine zq [] [101] (λa2=>[(4,bl a2),(5,.own 101)]) (λ_=>[]) ?_ ?_;intro b3 u;refine zk [28,12,12] Qe9 λc1=>?_;apply zi [1] 68;exact zJ [68,52] u;exact zJ [23,42] u;intro a2;exact zr [66,43];apply zc [50];exact zr [11,90,4,43];apply zc [50];refine zq [] [101] (λa3=>[(4,bl a3),(5,.own 101)]) (λ_=>[]) ?_ ?_;intro b4 v;apply zi [28,12,101,1] 83;exact zJ [68,52] v;exact zJ [23,42] v;intro a3;exact zr [66,43];refine zk [72,3] Qut λc2=>?_;exact zr [32,90,4]
theorem Q5n{n:Nat}{g}:FO 179 [Q6 g] i64 (Qkw n g):=by
 unfold Qkw;refine fs func179 λ_ _ _ _=>?_;refine zk [57,5,3] Q5l λr1=>?_;apply zc [47,0];exact zr [41,29];apply z [48,11,37];refine nR [1,2] [100] (λ_=>[]) (λ_=>[]) ?_ ?_;intro a0 a8 a4 u;refine zk [65,2,3,1] Jar λa2=>?_;apply zc [47,0];exact zr [7,4,55,58];exact zG [85,35];intro a5;apply z [45,5,11,37];refine nR [1,2,22] [100] (λ_=>[]) (λ_=>[]) ?_ ?_;intro a1 a9 a6 v;refine zk [70,83,12,32] Qe9 λa3=>?_;apply zc [47,0];exact zr [11,32,4,55,58];exact zG [85,35];intro a7;exact zr [45,41]
theorem Qoo{n:Nat}{g}:FO 122 [Q6 g] bl (Z4 n g):=by
 unfold Z4;refine fs func122 λ_ _ _ _=>?_;refine zk [57,3] Q5n λu=>?_;exact zr [90,4]
theorem Qlz{n:Nat}{g}:FO 38 [Je g] bl (Qas n g):=by
 unfold Qas;refine fs func38 λ_ _ _ _=>?_;refine zk [57,3] Qrb λu=>?_;exact zr [90,4]
theorem Qle{n:Nat}{x0}:FO 63 [Qs x0] bl (Z5 n x0):=by
 unfold Z5;refine fs func63 λ_ _ _ _=>?_;apply z [57];refine zq [] [] (λv=>[(2,bl v)]) (λ_=>[]) ?_ ?_;intro j5 g;refine zk [28,12] Qoo λr8=>?_;apply zi [1] 6;refine zb [39] λa1 u=>?_;refine og' (c0 (Qlz _ u)) ?_;apply zi [22] 11;exact zJ [53,68,52] g [];exact zJ [9,23,42] g [];exact zJ [23,27,9,23,42] g [];intro v;exact zr [66]
theorem Q0r{n:Nat}{x0}:FO 217 [Uc x0] bl (Qex n x0):=by
 unfold Qex;refine fs func217 λ_ _ _ _=>?_;apply z [18,8,37];refine nE [2,5] (λ_=>[]) ?_ ?_;intro a2 a8 a6 a1;apply z [70,99,24];refine zq [5,6,7] [] (λu=>[(18,bl u),(2,bl false)]) (λ_=>[]) ?_ ?_;intro a3 g;refine zk [28,31] Qlc λa4=>?_;apply zi [47,1] 14;exact zJ [23,44] g [];refine zb [38] λa5 v=>?_;refine og' (c0 (Qqj _ v)) ?_;exact zJ [38,61] g [];intro u;refine c ?_ ?_;exact zr [41,55,58];exact zg [85,35];intro a7;exact zr [45,41]
theorem Zm{n:Nat}{g}:FO 25 [Qb g] i64 (Wv n g):=by
 unfold Wv;refine fs func25 λ_ _ _ _=>?_;refine zk [57,3] Xk λu=>?_;refine zk [16,82,20,2,3] Qe8 λv=>?_;exact zr [4]
theorem Qop{n:Nat}{g}:FO 218 [Qb g] bl (Qcs n g):=by
 unfold Qcs;refine fs func218 λ_ _ _ _=>?_;refine zk [57,3] Zm λu=>?_;exact zr [93,4]
theorem Q5o{n:Nat}{g}:FO 166 [Vw g] i64 (Qkx n g):=by
 unfold Qkx;refine fs func166 λ_ _ _ _=>?_;refine zk [57,10] Vd λr1=>?_;apply z [82,74,17,11,12,12,12,12];refine o (mS 102 (List.map Qb ([g.Tol,g.A4,g.Low,g.A3,g.A0]:List Qa))) ?_;refine b λr3 h4=>?_;refine s1 (callL (em:=[]) [102] [] [] [] rfl (Q0r _ h4) trivial (pl_bl) ⟨.inr ⟨102,rfl,.inl ⟨rfl,.inl ⟨_,_,_,rfl,Jm (f:=Qb) (λ_=>J3) ([g.Tol,g.A4,g.Low,g.A3,g.A0]:List Qa),rfl⟩⟩⟩,trivial⟩ (λ_ _ h=>by cases h) trivial rfl trivial trivial rfl trivial trivial trivial (rn_id (if_bl)) rfl) ?_;apply zc [47,2]
 . exact zr [62]
 refine zk [11] Zm λr5=>?_;apply zc [49,2]
 . exact zr [62]
 refine zq [] [100,101] (λa2=>[(24,bl a2),(1,.own 100),(2,i64 (0:Int)),(3,.own 101)]) (λ_=>[]) ?_ ?_
 . intro a8 u;refine zk [28,12] Qop λb2=>?_;apply zi [47,1] 29
   . exact zJ [9,56,52] u
   refine zb [68] λb3 a6=>?_;refine og' (c0 (Zs _ a6)) ?_;exact zJ [38,42] u
 intro a2;refine c ?_ ?_
 . exact zr [62]
 refine zq [] [100,101] (λa3=>[(36,bl a3),(1,.own 100),(2,i64 (0:Int)),(3,.own 101)]) (λ_=>[]) ?_ ?_
 . intro a9 v;refine zk [28,12] Qop λb4=>?_;apply zi [47,1] 41
   . exact zJ [9,56,52] v
   refine zb [68] λb5 a7=>?_;refine og' (c0 (Zs _ a7)) ?_;exact zJ [38,42] v
 intro a3;refine c ?_ ?_
 . exact zr [62]
 refine zk [11,31] Zs λb6=>?_;apply zc [49,2]
 . exact zr [62]
 refine zk [11] Qop λb7=>?_;apply zc [47,2]
 . exact zr [62]
 refine zq [] [100] (λa4=>[(59,bl a4),(1,.own 100),(2,i64 (0:Int))]) (λ_=>[]) ?_ ?_
 . intro b0 a0;apply zi [28,12,49,1] 63
   . exact zJ [23,52] a0
   exact zJ [68,42] a0
 intro a4;refine c ?_ ?_
 . exact zr [62]
 refine zq [] [] (λa5=>[(68,bl a5),(2,i64 (0:Int))]) (λ_=>[]) ?_ ?_
 . intro b1 a1;apply zi [28,12,49,1] 72
   . exact zJ [23,52] a1 []
   exact zJ [68,42] a1 []
 intro a5;refine c ?_ ?_
 . exact zr [62]
 exact zr [72,41]
theorem Q5p{n:Nat}{g}:FO 106 [Vw g] bl (Qhp n g):=by
 unfold Qhp;refine fs func106 λ_ _ _ _=>?_;refine zk [57,3] Q5o λu=>?_;exact zr [90,4]
theorem Q3k{n:Nat}{x0}:FO 48 [Jt x0] bl (Qc7 n x0):=by
 unfold Qc7;refine fs func48 λ_ _ _ _=>?_;apply z [57];refine zq [] [] (λu=>[(2,bl u)]) (λ_=>[]) ?_ ?_;intro j9 g;refine zk [28,12] Qle λa3=>?_;apply zi [1] 6;refine zb [39] λa4 v=>?_;refine og' (c0 (Q5p _ v)) ?_;apply zi [22] 11;apply zi [53,53,22] 21;refine zb [53] λa5 a0=>?_;refine og' (c0 (Zs _ a0)) ?_;apply zi [38,22] 29;refine zb [39] λa6 a1=>?_;refine og' (c0 (Zm _ a1)) ?_;exact zJ [38,52] g [];exact zJ [9,42] g [];exact zJ [9,36,27,9,42] g [];exact zJ [9,9,27,9,36,27,9,42] g [];exact zJ [23,27,9,9,27,9,36,27,9,42] g [];intro u;exact zr [66]
theorem Zt{n:Nat}{g}{u}:FO 109 [Qb g,Qb u] Qb (W5 n g u):=by
 unfold W5;refine fs func109 λ_ _ _ _=>?_;refine zk [81,0,3] Xk λv=>?_;refine zk [16,54,20,2,3] Xk λr3=>?_;refine zk [16,25,104,20,2,3,31] Qqk λr5=>?_;refine zk [46] Qdu λr7=>?_;refine cb (ca Qda) λr9=>?_;exact zr [26]
theorem Qa3{n:Nat}{v}{x1}:FM 50 [Qb v,Uc x1] [] (λ_=>.own 50) (λr=>[(50,.sl 58 3 (List.map Qb r))]) (Xn n v x1):=by
 unfold Xn;refine fs func50 λ_ _ _ _=>?_;apply z [73,87,1,0,10];refine so (asgN (y:=101) (E:=58) (k:=3) rfl rfl) ?_;apply z [0,8,37];refine nR [2,4,5,8] [100] (λ_=>[]) (λg=>[(101,.sl 58 3 (List.map Qb g))]) ?_ ?_;intro a3 a5 g a1;refine zk [70,86,24,13,31,31] Zt λu=>?_;refine o (mS 103 (List.map Qb ([u]:List Qa))) ?_;refine b λa6 a2=>?_;exact zG [25,104,80] [(100,100),(101,104)];intro a4;exact zr [51,4] [(50,101)]
theorem Qqm{n:Nat}{a1}{g}{v}{a0}{u}:FM 52 [.own 0] [(0,.bx 144 (.agg [Jt a1,.agg [.own 1,Qb v,Uc a0],Qb u])),(1,.sl 150 14 (List.map Jh g))] bl (λ_=>[(0,.bx 144 (.agg [Jt a1,.agg [.own 1,Qb v,Uc a0],Qb u])),(1,.sl 150 14 (List.map Jh g))]) (X4 n a1 g v a0 u):=by
 unfold X4;refine fs func52 λ_ _ _ _=>?_;refine zb [18,5] λr1 h2=>?_;refine zs [[],[0],[0],[],[0],[],[0],[0],[],[0]] ?_;refine dC (Qch _ h2) ?_;apply zy [[]];exact zr [34] (dI [0,1])
theorem Q5q{n:Nat}{g}{u}:FO 110 [Vw g,Qb u] bl (Qhq n g u):=by
 unfold Qhq;refine fs func110 λ_ _ _ _=>?_;refine zk [63,2,3,12] Zs λv=>?_;exact zr [49,4]
theorem Qrd{n:Nat}{a1}{g}{v}{a0}{u}:FM 53 [.own 0] [(0,.bx 144 (.agg [Jt a1,.agg [.own 1,Qb v,Uc a0],Qb u])),(1,.sl 150 14 (List.map Jh g))] Qh (λ_=>[(0,.bx 144 (.agg [Jt a1,.agg [.own 1,Qb v,Uc a0],Qb u])),(1,.sl 150 14 (List.map Jh g))]) (Wq n a1 g v a0 u):=by
 unfold Wq;refine fs func53 λ_ _ _ _=>?_;apply zc [73,69,75,77,97,94,2,5,17,14,75,77,77,97,104];apply z [7,15];refine o (mB [i64 (5:Int),i64 (wrap64 ((g.length:Int)+(1:Int))),i64 0,i64 0]) ?_;exact zr [26,43] (dI [0,1]);refine zb [5] λr1 h2=>?_;refine zs [[],[0],[0],[],[0],[],[0],[0],[0]] ?_;refine dC (Q5q _ h2) ?_;apply zy [[]];apply zc [19];apply z [7,15];refine o (mB [i64 (4:Int),i64 (wrap64 ((g.length:Int)+(1:Int))),i64 0,i64 0]) ?_;exact zr [26,43] (dI [0,1]);apply z [72,10];refine o (mB [i64 0,i64 0,i64 0,i64 0]) ?_;exact zr [26] (dI [0,1])
theorem Qre{g}{u}:FM 51 [Qh g,.own 0] [(0,.bx 65 (Qh u))] (λr=>bl r.1) (λr=>[(0,.bx 65 (Qh r.2))]) (X5 g u):=by
 unfold X5;refine fs func51 λ_ _ _ _=>?_;apply z [57,3,24,3];refine o (mB [i64 0,i64 0,i64 0,i64 0]) ?_;refine s1 (neA (p:=(g:Qc)) (q:=((⟨0,0,0,0⟩:Qc):Qc)) J4 rfl eg_65 rfl rfl rfl) ?_;exact zr [4] [(0,0)]
theorem Qyu{n:Nat}{x0}{x1}:FO 173 [Qb x0,Qb x1] Qb (Qij n x0 x1):=by
 unfold Qij;refine fs func173 λ_ _ _ _=>?_;refine zk [81,0,3] Xk λr1=>?_;refine zk [16,54,20,2,3] Xk λr3=>?_;refine zb [16,25,104,20,2,5] λr5 h6=>?_;refine b λr7 h8=>?_;refine b λr9 g=>?_;refine b λa4 u=>?_;refine b λa5 v=>?_;refine zs [[103],[]] ?_;refine dC (Qcx _ h6) ?_;apply zd [[104],[]];refine dC (Qcx _ h8) ?_;refine dC (Qmh _ g) ?_;apply zd [[],[]];refine dC (Qdu _ u) ?_;refine dC (Qda _ v) ?_;apply zy [[102]];exact zr [34]
theorem Jas{n:Nat}{g}{u}{v}:FO 111 [Qb g,Qb u,Qb v] Qb (Qky n g u v):=by
 unfold Qky;refine fs func111 λ_ _ _ _=>?_;refine zk [81,54,0,3,31] Qyu λr1=>?_;refine zk [25,104,74,3,31] Zs λr3=>?_;apply zc [93,0];exact zr [3,71];refine zk [6,3] Vr λr5=>?_;exact zr [26]
theorem Qji{g}:FM 67 [i64 g] [] (λ_=>.own 50) (λr=>[(50,.bx 254 (Qn r))]) (Qaz g):=by
 unfold Qaz;refine fs func67 λ_ _ _ _=>?_;apply z [18,7,111,119];refine o (mB [Qm5 (⟨0,0⟩:Zo),i64 (min (max g (0:Int)) (4096:Int))]) ?_;exact zr [99,4] [(50,100)]
theorem Qin{n:Nat}{x0}:FM 66 [i64 x0] [] (λ_=>.own 50) (λr=>[(50,.sl 58 3 (List.map Qb r))]) (Z6 n x0):=by
 unfold Z6;refine fs func66 λ_ _ _ _=>?_;refine zb [40,1,69,111,119,83] λy1 h2=>?_;refine so (mks (y:=100) (f:=Qb) h2 Uq ti_58.h Jo rfl rfl rfl rfl rfl rfl) ?_;apply z [2,8,1,91];refine yR 0 (λt=>t) [2,3,10] [] [2,3] [] (λg=>[(11,i64 g.2)]) (λg=>[(100,.sl 58 3 (List.map Qb g.1))]) (λ_=>[]) (λu=>[(100,.sl 58 3 (List.map Qb u))]) ?_ ?_;intro v g;apply zc [10,49,30];refine zk [48,65,2,60] Vd λa2=>?_;refine b λa3 a1=>?_;exact zG [79,102,78,88,28,15,1,78];exact zJ [67] v;intro u;exact zr [51,4] [(50,100)]
theorem Q5r{n:Nat}{x0}{x1}{x2}:FM 274 [Uc x0,.own 0,i64 x2] [(0,.sl 49 1 (List.map Qf x1))] (λr=>.tup [Uc r.1,bl r.2]) (λ_=>[(0,.sl 49 1 (List.map Qf x1))]) (Qkz n x0 x1 x2):=by
 unfold Qkz;refine fs func274 λ_ _ _ _=>?_;apply z [40,1,2,5];refine zq [0,2] [0] (λs3=>[(27,bl s3),(1,.own 0),(6,Uc ([]:List Qa)),(7,bl false)]) (λ_=>[]) ?_ ?_;intro j1 a0;apply zi [13,95,94,105,1] 20;exact zJ [36,22,36,44] a0;apply zi [39,27] 24;exact zJ [36,44] a0;exact zJ [39,61] a0;intro s3;refine c ?_ ?_;exact zr [40,1,4,29] [(0,0)];apply z [6,8,94,1,91];refine nR [0,1,2,6,7,28] [0] (λ_=>[]) (λ_=>[]) ?_ ?_;intro d6 d9 s9 c3;apply zc [125,79,100,83,95,105,0];exact zr [40,1,4,55,58] [(0,0)];exact zG [85,35];intro d8;refine zb [51] λd7 b4=>?_;refine o (cG (Qin _ b4) [] [(100,50)] []) ?_;apply z [2,8,94,1,91];refine nR [0,6,7,10,41] [0] (λ_=>[]) (λa1=>[(100,.sl 58 3 (List.map Qb a1))]) ?_ ?_;intro c4 d0 a1 b8;refine zb [65,79,100,33,8,1] λd2 c1=>?_;refine zk [59] Zm λc6=>?_;apply zc [90,0];exact zG [136,116];apply z [6,7,37];refine nR [0,6,7,10,11,41,42,43,54] [0] (λ_=>[]) (λa2=>[(100,.sl 58 3 (List.map Qb a2))]) ?_ ?_;intro c5 d1 a2 b9;refine zb [65,59,82,21,24] λd3 u=>?_;refine b λd4 c2=>?_;refine b λc7 a3=>?_;refine b λa5 a4=>?_;refine b λd5 v=>?_;refine zs [[],[],[],[]] ?_;refine dx [63,64] [100] (λst mm ⟨a9,b0,_⟩ ⟨g,_⟩=>og (ixO (f:=Qb) (g.trans rfl) Uq ti_58.h u rfl (a9.trans rfl) (b0.trans rfl))) ?_;refine dx [65] [100] (λst mm ⟨b1,_⟩ ⟨g,_⟩=>og (ldO (f:=Qb) [] (g.trans rfl) (Qcj u) oz off0 sh_58.h oz oz rfl (b1.trans rfl))) ?_;apply zd [[],[],[],[],[101]];refine dC (Zt _ a3) ?_;refine dC (Yt _ a4) ?_;refine dx [61,62] [100] (λst mm ⟨a7,a8,_⟩ ⟨g,_⟩=>og (ixO (f:=Qb) (g.trans rfl) Uq ti_58.h v rfl (a7.trans rfl) (a8.trans rfl))) ?_;refine dx [74,73] [100] (λst mm ⟨b3,b2,_⟩ ⟨g,_⟩=>og (stO (f:=Qb) a5 [] (g.trans rfl) (Qcj v) oz off0 oz oz sh_58.h oz oz oz (b3.trans rfl) (b2.trans rfl))) ?_;refine dE ?_;exact zG [35];intro c8;exact zG [116,35];intro c9;apply z [51,21,4];refine fz 100 [6,10,77] [] ?_;exact rt [(0,0)]
theorem Qjj{n:Nat}{a3}{a4}{a2}{a5}{a1}{a0}{v}{g}{u}{x1}:FM 228 [.own 0,Uc x1] [(0,.bx 306 (.agg [Qs a3,Qb a4,Qb a2,Uc a5,.own 1,.agg [.own 2,.own 3,Uc g,Uc u]])),(1,.bx 254 (Qn a1)),(2,.sl 49 1 (List.map Qf a0)),(3,.sl 49 1 (List.map Qf v))] Uc (λ_=>[(0,.bx 306 (.agg [Qs a3,Qb a4,Qb a2,Uc a5,.own 1,.agg [.own 2,.own 3,Uc g,Uc u]])),(1,.bx 254 (Qn a1)),(2,.sl 49 1 (List.map Qf a0)),(3,.sl 49 1 (List.map Qf v))]) (Vz n a3 a4 a2 a5 a1 a0 v g u x1):=by
 unfold Vz;refine fs func228 λ_ _ _ _=>?_;refine zb [40,1,30] λr1 h2=>?_;refine zs [[],[],[0],[0],[],[0],[],[0],[0],[0],[]] ?_;refine dd [3] (λ_ _ _ _=>cG (Q5r _ h2) [3] [] [3]) ?_;apply zy [[],[],[],[],[]];refine zb [19,7,84,1] λr3 h4=>?_;refine o (cG (Qa3 _ h4) [] [(100,50)] []) ?_;apply z [4];refine fz 100 [4,27] [] ?_;exact rt (dI [0,1,2,3])
theorem Jat{n:Nat}{v}:FM 239 [Uc v] [] (λ_=>.own 50) (λr=>[(50,.sl 58 3 (List.map Qb r))]) (Qk0 n v):=by
 unfold Qk0;refine fs func239 λ_ _ _ _=>?_;apply z [40,1,0,10];refine so (asgN (y:=100) (E:=58) (k:=3) rfl rfl) ?_;apply z [0,8,37];refine nR [2,3,6] [] (λ_=>[]) (λg=>[(100,.sl 58 3 (List.map Qb g))]) ?_ ?_;intro a2 a4 g a0;refine zk [70,82,24,13,31] Vr λu=>?_;refine o (mS 102 (List.map Qb ([u]:List Qa))) ?_;refine b λa5 a1=>?_;exact zG [54,80] [(100,103)];intro a3;exact zr [51,4] [(50,100)]
theorem Qkh{n:Nat}{x0}:FO 191 [Ug x0] (λr=>.tup [Uc r.1,bl r.2]) (Qcg n x0):=by
 unfold Qcg;refine fs func191 λ_ _ _ _=>?_;apply zc [40,1,2,8,32,90,0];exact zr [40,1,4,29];refine zb [6,7] λy1 h2=>?_;refine zb [59] λr3 h4=>?_;refine o (cG (Jat _ h4) [] [(100,50)] []) ?_;refine zb [2,8] λy5 h6=>?_;refine s1 (slR (f:=Qf) h6 Ur ti_49.h rfl rfl (bnd (kI (x:=1) rfl)) bnd0) ?_;apply z [37];refine nR [2,3,4,17] [] (λ_=>[]) (λa0=>[(100,.sl 58 3 (List.map Qb a0))]) ?_ ?_;intro b5 b9 a0 b3;apply zc [70,2,8,95,94,105,0];exact zr [40,1,4,29,55,58];apply z [6,7,37];refine nR [2,3,4,17,18,19,28] [] (λ_=>[]) (λa1=>[(100,.sl 58 3 (List.map Qb a1))]) ?_ ?_;intro b6 c1 a1 b4;refine zb [65,59,82,21,24] λc2 u=>?_;refine b λb0 a9=>?_;refine b λc3 v=>?_;refine zs [[],[],[],[]] ?_;refine dx [37,38] [100] (λst mm ⟨a4,a5,_⟩ ⟨g,_⟩=>og (ixO (f:=Qb) (g.trans rfl) Uq ti_58.h u rfl (a4.trans rfl) (a5.trans rfl))) ?_;refine dx [39] [100] (λst mm ⟨a6,_⟩ ⟨g,_⟩=>og (ldO (f:=Qb) [] (g.trans rfl) (Qcj u) oz off0 sh_58.h oz oz rfl (a6.trans rfl))) ?_;apply zd [[101]];refine dC (Yt _ a9) ?_;refine dx [35,36] [100] (λst mm ⟨a2,a3,_⟩ ⟨g,_⟩=>og (ixO (f:=Qb) (g.trans rfl) Uq ti_58.h v rfl (a2.trans rfl) (a3.trans rfl))) ?_;refine dx [43,42] [100] (λst mm ⟨a8,a7,_⟩ ⟨g,_⟩=>og (stO (f:=Qb) b0 [] (g.trans rfl) (Qcj v) oz off0 oz oz sh_58.h oz oz oz (a8.trans rfl) (a7.trans rfl))) ?_;refine dE ?_;exact zG [35];intro b7;exact zG [116,35];intro b8;apply z [51,21,4];refine fz 100 [2,4,46] [] ?_;exact rt []
theorem Qlf{n:Nat}{a4}{a5}{a3}{a1}{a2}{a0}{v}{g}{u}{x1}:FM 225 [.own 0,Uc x1] [(0,.bx 306 (.agg [Qs a4,Qb a5,Qb a3,Uc a1,.own 1,.agg [.own 2,.own 3,Uc g,Uc u]])),(1,.bx 254 (Qn a2)),(2,.sl 49 1 (List.map Qf a0)),(3,.sl 49 1 (List.map Qf v))] Uc (λ_=>[(0,.bx 306 (.agg [Qs a4,Qb a5,Qb a3,Uc a1,.own 1,.agg [.own 2,.own 3,Uc g,Uc u]])),(1,.bx 254 (Qn a2)),(2,.sl 49 1 (List.map Qf a0)),(3,.sl 49 1 (List.map Qf v))]) (Xv n a4 a5 a3 a1 a2 a0 v g u x1):=by
 unfold Xv;refine fs func225 λ_ _ _ _=>?_;refine zb [40,1,30] λr3 h4=>?_;refine b λr5 h6=>?_;refine zs [[],[0],[0],[0],[],[]] ?_;refine dd [0,1,2,3] (λ_ _ _ _=>cG (Qjj _ h4) [0,1,2,3] [] [0,1,2,3]) ?_;refine dd [100] (λ_ _ _ _=>tV (mS 100 (List.map Qf ([a1,r3]:List (List Qa))))) ?_;refine dC (Qkh _ h6) ?_;apply zy [[],[],[],[],[]];exact zr [19,7,4] (dI [0,1,2,3])
theorem Qrf{g}{u}:FM 283 [.ptr 0 0,i64 u] [(0,.bx 254 (Qn g))] (λ_=>.tup []) (λr=>[(0,.bx 254 (Qn r))]) (Qbi g u):=by
 unfold Qbi;refine fs func283 λ_ _ _ _=>?_;apply z [7,117,77,97,15,117,77];refine o (stP (Qn (⟨(⟨wrap64 (g.Count.Seen+(1:Int)),g.Count.Peak⟩:Zo),g.limit⟩:Qk)) [0,0]) ?_;apply z [0,60,117,77,97,1,111,117,77];refine o (stP (Qn (⟨(⟨wrap64 (g.Count.Seen+(1:Int)),max g.Count.Peak u⟩:Zo),g.limit⟩:Qk)) [0,1]) ?_;exact zr [78] [(0,0)]
theorem Qfa{n:Nat}{g}{u}:FM 240 [.own 0,Qb u] [(0,.bx 254 (Qn g))] (λr=>bl r.1) (λr=>[(0,.bx 254 (Qn r.2))]) (Wr n g u):=by
 unfold Wr;refine fs func240 λ_ _ _ _=>?_;refine zk [57,3] Qqj λv=>?_;refine zb [83,75,1] λr3 h4=>?_;refine o (cG (Qrf _ h4) [0] [] []) ?_;exact zr [0,14,84,122,4] [(0,0)]
theorem Qb7{n:Nat}{v}{x1}:FM 192 [.own 0,Uc x1] [(0,.bx 254 (Qn v))] (λr=>.tup [i64 r.1,bl r.2.1]) (λr=>[(0,.bx 254 (Qn r.2.2))]) (W6 n v x1):=by
 unfold W6;refine fs func192 λ_ _ _ _=>?_;apply z [10,33,8,37];refine nR [0,1,4,5,8] [] (λ_=>[]) (λg=>[(0,.bx 254 (Qn g))]) ?_ ?_;intro a2 a5 g a1;refine zb [65,59,99,21,24,7,31] λa3 u=>?_;refine o (cG (Qfa _ u) [0] [] []) ?_;apply zc [47,0];exact zr [7,21,4,55,58] [(0,0)];exact zG [85,35];intro a4;exact zr [51,32,21,4] [(0,0)]
theorem Qfu{n:Nat}{a2}{a3}{a1}{a4}{a5}{a0}{v}{g}{u}{x1}{x2}:FM 226 [.own 0,Uc x1,i64 x2] [(0,.bx 306 (.agg [Qs a2,Qb a3,Qb a1,Uc a4,.own 1,.agg [.own 2,.own 3,Uc g,Uc u]])),(1,.bx 254 (Qn a5)),(2,.sl 49 1 (List.map Qf a0)),(3,.sl 49 1 (List.map Qf v))] (λr=>Qh r.1) (λr=>[(0,.bx 306 (.agg [Qs a2,Qb a3,Qb a1,Uc a4,.own 1,.agg [.own 2,.own 3,Uc g,Uc u]])),(1,.bx 254 (Qn r.2)),(2,.sl 49 1 (List.map Qf a0)),(3,.sl 49 1 (List.map Qf v))]) (We n a2 a3 a1 a4 a5 a0 v g u x1 x2):=by
 unfold We;refine fs func226 λ_ _ _ _=>?_;refine zb [73,0,8,84,1] λr1 h2=>?_;refine o (cG (Qb7 _ h2) [1] [] []) ?_;apply zc [16,33,7,47,0];apply z [14,15];refine o (mB [i64 (6:Int),i64 0,i64 x2,i64 (wrap64 ((300:Int)+r1.1))]) ?_;exact zr [71] (dI [0,1,2,3]);apply z [6,10];refine o (mB [i64 0,i64 0,i64 0,i64 0]) ?_;exact zr [26] (dI [0,1,2,3])
theorem Qtk{n:Nat}{x0}{x1}{x2}{x3}:FO 272 [Qs x0,Qb x1,Qb x2,i64 x3] Qb (Qc8 n x0 x1 x2 x3):=by
 unfold Qc8;refine fs func272 λ_ _ _ _=>?_;apply z [81,54,30];refine zq [3] [100,101,102,103] (λv=>[(18,bl v),(4,.own 100),(5,.own 101),(6,.own 102),(8,.own 103)]) (λ_=>[]) ?_ ?_;intro j1 g;apply zi [13,49,1] 11;exact zJ [9,36,44] g;exact zJ [53,39,61] g;intro v;refine c ?_ ?_;refine zk [3] Vr λr4=>?_;exact zr [71];refine zb [48] λy6 h7=>?_;refine b λr8 h9=>?_;refine b λa5 u=>?_;refine zs [[101],[102],[100],[],[100],[],[],[]] ?_;refine dC (Zt _ h9) ?_;refine dC (Yt _ u) ?_;apply zy [[103]];exact zr [34]
theorem Jch{g}{u}{v}:FO 271 [Qs g,Qb u,Uc v] Qac (Qpk g u v):=by
 unfold Qpk;refine fs func271 λ_ _ _ _=>?_;apply z [81,0,3,1,12];refine o (mB [Qb u,Uc v,Uc g.P]) ?_;exact zr [26]
theorem Quu{n:Nat}{v}:FO 337 [Uc v] Uc (Qhr n v):=by
 unfold Qhr;refine fs func337 λ_ _ _ _=>?_;apply z [40,1,0,10];refine so (asgN (y:=100) (E:=58) (k:=3) rfl rfl) ?_;apply z [0,8,37];refine nR [2,3,6] [] (λ_=>[]) (λg=>[(100,.sl 58 3 (List.map Qb g))]) ?_ ?_;intro a2 a4 g a0;refine zk [70,82,24,13,31] Vr λu=>?_;refine o (mS 102 (List.map Qb ([u]:List Qa))) ?_;refine b λa5 a1=>?_;exact zG [54,80] [(100,103)];intro a3;apply z [51,4];refine fz 100 [2,3,18] [] ?_;exact rt []
theorem Q8h{n:Nat}{g}:FO 328 [Qac g] Qac (Qmb n g):=by
 unfold Qmb;refine fs func328 λ_ _ _ _=>?_;refine zb [63,30] λv h2=>?_;refine b λr3 h4=>?_;refine b λr5 u=>?_;refine zs [[100],[100]] ?_;refine dC (Vr _ h2) ?_;apply zd [[100],[100]];refine dC (Quu _ h4) ?_;apply zd [[100],[100]];refine dC (Quu _ u) ?_;refine dd [] (λ_ _ _ _=>mB [Qb v,Uc r3,Uc r5]) ?_;apply zy [[101]];exact zr [34]
theorem Qnn{n:Nat}{g}:FO 339 [Qb g] Qb (Qdr n g):=by
 unfold Qdr;refine fs func339 λ_ _ _ _=>?_;refine zk [63,0,3] Vr λu=>?_;refine zk [86,24,11] Qwr λv=>?_;apply z [89];refine o (stP (Qb (⟨v,u.Den⟩:Qa)) [0]) ?_;exact zr [0,3,26]
theorem Qwa{n:Nat}{g}{u}:FM 376 [.agg [.own 0],Qb u] [(0,.bx 254 (Qn g))] Qb (λ_=>[(0,.bx 254 (Qn g))]) (Qeg n g u):=by
 unfold Qeg;refine fs func376 λ_ _ _ _=>?_;refine zk [81,0,3] Qnn λv=>?_;exact zr [26] [(0,0)]
theorem Quv{n:Nat}{x0}{x1}:FO 352 [Ud x0,i64 x1] Ud (Qey n x0 x1):=by
 unfold Qey;refine fs func352 λ_ _ _ _=>?_;refine zk [40,0,0,10] Qbs λr1=>?_;apply z [2,8,1,91];refine yE 0 (λt=>t) [0,4,7] [4] (λg=>[(5,Ud g.1),(8,i64 g.2)]) (λv=>[(5,Ud v)]) ?_ ?_;intro u g;apply zc [10,49,30];refine zk [48,17,60] Qdu λa2=>?_;exact zg [64,88,28,15,1,78];exact zj [67] u;intro v;exact zr [51,4]
theorem Qyv{n:Nat}{x0}{x1}:FO 348 [Qb x0,i64 x1] (λr=>.tup [Qb r.1,bl r.2]) (Qik n x0 x1):=by
 unfold Qik;refine fs func348 λ_ _ _ _=>?_;apply z [63,2,5];refine zq [1] [100,101] (λs5=>[(24,bl s5),(2,.own 100),(4,.own 101),(5,bl false)]) (λ_=>[]) ?_ ?_;intro j3 u;apply zi [13,49,1] 12;exact zJ [36,22,23,92,127,56,44] u;apply zi [39,27] 16;exact zJ [23,92,127,56,44] u;apply zi [68] 19;refine zb [38] λr6 h7=>?_;refine og' (c0 (Zm _ h7)) ?_;exact zJ [39,61] u;exact zJ [23,38,61] u;intro s5;refine c ?_ ?_;refine zk [10] Vd λr8=>?_;exact zr [20,4,29];refine zk [6,3] Vr λb2=>?_;refine zb [86,24,14,143,111,2,5] λb3 a3=>?_;refine b λb4 a4=>?_;refine zs [[102],[],[102],[]] ?_;refine dC (Quv _ a3) ?_;apply zd [[102],[102],[]];refine dC (Quv _ a4) ?_;apply zy [[],[]];apply z [19];refine zq [7] [101,102] (λg=>[(8,Ud g.1),(9,Ud g.2),(4,.own 101),(5,bl false),(6,.own 102)]) (λ_=>[]) ?_ ?_;intro b0 v;apply zc [7,49,0];exact zJ [60,33] v;exact zJ [6] v;intro g;refine zq [] [] (λ_=>[(4,.own 101),(5,bl true)]) (λa2=>[(101,.bx 58 (Qb a2))]) ?_ ?_;intro b1 a0;apply zi [28,89,77,97,1] 48;apply z [68,22];refine o (mB [bl (decide ((Int.tmod (max x1 (wrap64 (-x1))) (2:Int))=(1:Int))),Ud g.1]) ?_;refine cb (ca Qol) λa5=>?_;apply z [1];refine o (mB [Q1 a5,Ud g.2]) ?_;exact zJ [20,2] a0;apply z [23,27];refine o (mB [bl false,Ud g.1]) ?_;refine cb (ca Qol) λa6=>?_;apply z [1];refine o (mB [Q1 a6,Ud g.2]) ?_;exact zJ [20,2] a0;intro a2;exact zr [66]
end Go.Proofs.YteejhjpdcefgfaaGreatDoor
