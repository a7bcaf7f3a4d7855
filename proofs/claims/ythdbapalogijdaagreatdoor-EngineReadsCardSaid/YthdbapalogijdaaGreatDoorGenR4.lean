import Derived.Test.YthdbapalogijdaaGreatDoorGenR3
set_option maxRecDepth 100000
set_option maxHeartbeats 4000000
namespace Go.Proofs.YthdbapalogijdaaGreatDoor
open Go Go.RowKit Tryz
theorem PR{n:Nat}{x0}:FO 78 [am x0] (λr=>.tup [Q8 r.1,Ei r.2]) (Yt n x0):=by
 unfold Yt;refine fs func78 λ_ _ _ _=>?_;apply z [69,72];refine o (mB [am [],Ug [],bA 1 (List.map Js []),Ug [],Ug []]) ?_;apply zc [85,31,9,76,101,0];apply z [26];refine o (fx [ab (1:Int),ab (4000:Int)]) ?_;exact zr [39,25,34];refine zk [4,2] Qtg λr1=>?_;refine zb [3,8] λy3 h4=>?_;refine zb [54,65] λy5 h6=>?_;refine s1 (fN h6 Uu rfl rfl dl (bnd rfl)) ?_;refine so (ml (l:=[am y5,.own 103,.own 104,Ug [],Ug []]) [(103,66,3),(104,59,1)] pl_62.h ti_62.h (mh (K5 (c1:=[.string ⟨#[]⟩]) (dr Zj) (K5 (c1:=[Ua]) (ix rfl) (K5 (c1:=[Ua]) (ix rfl) (K5 (c1:=[Ua]) (dr (K9 (k:=3))) (K5 (c1:=[Ua]) (dr (K9 (k:=3))) (mj))))))) ⟨rfl,rfl,trivial⟩ rfl ⟨_,_,_,rfl,rfl,rfl,rfl,(pK (k:=1) rfl rfl),rfl⟩ rfl) ?_;apply z [35,105,31,5,13];refine o (mB [ab (2:Int),am y5,ab 0]) ?_;refine cb (ca EF) λr7=>?_;apply zc [59,0];apply z [26];refine o (fx [ab (1:Int),ab (0:Int)]) ?_;exact zr [39,25,34];apply z [4,11,5,12];refine yR 0 Lp.go [0,2,3,4,5,6] [100,101,102,105] [0,2,3,4,5,6] [100,101,102,105] (λa1=>[(7,ab a1.2.2)]) (λa1=>[(103,.sl 66 3 (List.map Qe a1.1)),(104,.sl 59 1 (List.map Js a1.2.1))]) (λa2=>[(7,ab a2.2.2)]) (λa2=>[(103,.sl 66 3 (List.map Qe a2.1)),(104,.sl 59 1 (List.map Js a2.2.1))]) ?_ ?_;intro a9 a1;apply zc [9,18,1,29,37];refine zb [4,12,5] λg7 f8=>?_;refine b λg8 f9=>?_;refine b λg9 d2=>?_;refine zs (Ea 11) ?_;refine dx [48,52,58] [] (λst mm ⟨c9,d0,d1,_⟩ _=>og (fN d2 Uu rfl (c9.trans rfl) (bnd (d0.trans rfl)) (bnd (d1.trans rfl)))) ?_;apply zy [[]];refine zk [24,2] Qwt λd5=>?_;apply zc [63,8,76,57,0];exact zJ [124,128,134] a9;refine zb [4,8] λh5 d3=>?_;refine s1 (fN d3 Uu rfl rfl dl (bnd rfl)) ?_;refine cb (ca IJ) λb0=>?_;apply zc [17,95,35,106,39,32,9,106,0];refine zb [5] λd6 g2=>?_;refine zs [[102],[],[],[],[],[],[],[]] ?_;refine dd [] (λ_ _ _ _=>fx [ab b0.2.1,ab (wrap64 (d6+b0.2.2))]) ?_;apply zy [[100],[101]];exact zr [52,34,82,51];refine zb [4,8,18] λh7 d4=>?_;refine s1 (fN d4 Uu rfl rfl (bnd rfl) dl) ?_;refine cb (ca IK) λb1=>?_;apply zc [17,95,15,32,9,106,0];refine zb [5] λd7 g4=>?_;refine zs [[102],[],[],[],[],[],[],[],[],[],[]] ?_;refine dd [] (λ_ _ _ _=>fx [ab b1.2.1,ab (wrap64 ((wrap64 ((wrap64 (d7+d5))+1))+b1.2.2))]) ?_;apply zy [[100],[101]];exact zr [52,34,82,51];apply z [4,13,92];refine o (mS 107 (List.map Qe ([b0.1]:List Qa))) ?_;refine b λh8 g5=>?_;apply z [35,108,68];refine o (bc (.agg [am y5,.own 108,.own 104,Ug [],Ug []]) [1]) ?_;apply z [0,13,1];refine o (mS 109 (List.map Js ([b1.1]:List (List Qa)))) ?_;refine b λh9 g6=>?_;apply z [35,110,68];refine o (bc (.agg [am y5,.own 108,.own 110,Ug [],Ug []]) [2]) ?_;exact zG [0,50,36] [(100,100),(101,101),(102,102),(105,105),(103,108),(104,110)];exact zJ [30] a9;intro a2;refine bO ?_;apply z [41,5,64];refine yR 2 Lp.go [0,2,3,4,5,6] [100,101,102,103,104] [2,3,4,5,6] [100,101,102,103,104] (λg=>[(7,ab g.2.2.1),(14,ab g.2.2.2)]) (λg=>[(105,.bx 62 (.agg [am y5,.own 103,.own 104,Ug g.1,Ug g.2.1]))]) (λu=>[(7,ab u.2.2)]) (λu=>[(105,.bx 62 (.agg [am y5,.own 103,.own 104,Ug u.1,Ug u.2.1]))]) ?_ ?_;intro a4 g;apply zc [9,37];apply z [60,5];refine zq [0,5,7,14] [100,101,102,105,103,104] (λb2=>[(134,bl b2),(2,.own 100),(3,.own 101),(4,.own 102),(6,.own 105)]) (λ_=>[]) ?_ ?_;intro e5 a5;apply zi [10,18,1,29,57,1] 131;exact zJ [27,22] a5;exact zJ [21,33] a5;intro b2;refine c ?_ ?_;exact zJ [124,128,146,134] a4;refine zb [4,8,18] λe9 b8=>?_;refine s1 (fN b8 Uu rfl (kS (s:=[98,101]) rfl) (bnd rfl) (bnd rfl)) ?_;apply z [3,11];refine zq [0,5,7,14,15] [100,101,102,105,103,104] (λb3=>[(16,am b3),(2,.own 100),(3,.own 101),(4,.own 102),(6,.own 105)]) (λ_=>[]) ?_ ?_;intro e6 a6;apply zc [2,18,1,29,37];refine b λf2 d8=>?_;refine b λf3 d9=>?_;refine b λf4 b9=>?_;refine zs (Ea 11) ?_;refine dx [144,148,154] [] (λst mm ⟨b5,b6,b7,_⟩ _=>og (fN b9 Uu rfl (b5.trans rfl) (bnd (b6.trans rfl)) (bnd (b7.trans rfl)))) ?_;apply zy [[]];exact zJ [24] a6;exact zJ [4] a6;intro b3;apply z [5];refine zq [0,5,7,14,16] [100,101,102,105,103,104] (λb4=>[(165,bl b4),(2,.own 100),(3,.own 101),(4,.own 102),(6,.own 105)]) (λ_=>[]) ?_ ?_;intro e7 a7;apply zi [10,76,96,1] 159;exact zJ [42,22] a7;refine zb [20] λf5 c2=>?_;refine sg 159 rfl rfl (fN c2 Uu rfl rfl dl (bnd (kI (x:=2) rfl))) ?_;refine zb [20] λf6 e0=>?_;exact zJ [27,33] a7;intro b4;refine c ?_ ?_;refine zb [5] λc6 e1=>?_;refine zs [[102],[],[],[],[],[],[],[]] ?_;refine dd [] (λ_ _ _ _=>fx [ab (1:Int),ab (min c6 (x0.length:Int))]) ?_;apply zy [[100],[101]];exact zr [52,34,48,51];refine zb [4,2] λf7 c3=>?_;refine s1 (fN c3 Uu rfl rfl (bnd (kI (x:=2) rfl)) dl) ?_;refine cb (ca IK) λv=>?_;apply zc [17,95,15,32,9,106,0];refine zb [5] λc7 e2=>?_;refine zs [[102],[],[],[],[],[],[],[],[]] ?_;refine dd [] (λ_ _ _ _=>fx [ab v.2.1,ab (wrap64 ((wrap64 (c7+2))+v.2.2))]) ?_;apply zy [[100],[101]];exact zr [52,34,48,51];apply z [4];refine zq [0,5,7,14] [100,101,102,103,104] (λ_=>[(2,.own 100),(3,.own 101),(4,.own 102),(6,.own 105)]) (λa3=>[(105,.bx 62 (.agg [am y5,.own 103,.own 104,Ug a3.1,Ug a3.2]))]) ?_ ?_;intro e8 a8;apply zc [2,57,0];apply z [10,68];refine o (bc (.agg [am y5,.own 103,.own 104,Ug v.1,Ug g.2.1]) [3]) ?_;exact zJ [0] a8;apply z [10,68];refine o (bc (.agg [am y5,.own 103,.own 104,Ug g.1,Ug v.1]) [4]) ?_;exact zJ [0] a8;intro a3;exact zG [50,67,50];exact zJ [30] a4;intro u;refine bO ?_;apply zc [41,9,18,1,29,37];refine zb [5] λc8 e3=>?_;refine zs [[102],[],[],[],[]] ?_;refine dd [] (λ_ _ _ _=>fx [ab (1:Int),ab c8]) ?_;apply zy [[100],[101]];exact zr [52,34];apply z [4,26];refine fz 103 [213] [105] ?_;refine fz 104 [213] [105] ?_;refine cb (ca PQ) λc4=>?_;apply zc [3,9,106,0];apply z [26,1];refine o (fx [ab (2:Int),ab c4]) ?_;exact zr [39,25,34];apply z [4,26];refine o (fx [ab 0,ab 0]) ?_;exact zr [39,25]
theorem Qwy{n:Nat}{g}:FO 77 [am g] (λr=>.tup [Q8 r.1,bl r.2]) (vY n g):=by
 unfold vY;refine fs func77 λ_ _ _ _=>?_;refine zk [38,3,2] Qvy λu=>?_;apply zc [3,9,98,0];apply z [6];refine o (mB [am [],Ug [],bA 1 (List.map Js []),Ug [],Ug []]) ?_;exact zr [39,81];refine zb [4,8] λy3 h4=>?_;refine zk [110] PR λv=>?_;exact zr [17,89,85,39,31,26,39,7]
theorem Qpc{n:Nat}{x0}:FM 29 [.own 0] [(0,.bx 107 (Jb x0))] (λr=>Q8 r.1) (λr=>[(0,.bx 107 (Jb r.2))]) (Y0 n x0):=by
 unfold Y0;refine fs func29 λ_ _ _ _=>?_;refine zb [38,40] λr1 h2=>?_;refine s1 (aR (em:=[]) [0] [] [] [] rfl (Yq _ h2) trivial (qO (kw mF (kw cp (pH)))) ⟨.inr ⟨0,rfl,.inl ⟨rfl,.inr ⟨_,_,rfl,Zz,rfl⟩⟩⟩,.inl ⟨_,(kS (s:=[115,99,104,101,109,101]) rfl),au Vv⟩,trivial⟩ (λ_ _ h=>by cases h) trivial rfl trivial trivial rfl trivial trivial trivial (au (qE (Ka Vv (Ka bM (iu))))) rfl) ?_;apply z [17,32];refine zq [] [0,100] (λs5=>[(3,am s5),(0,.own 0),(2,.own 100)]) (λ_=>[]) ?_ ?_
 . intro j3 g;apply zc [2,59,0]
   . exact zJ [86,3] g
   exact zJ [4] g
 intro s5;refine zk [2] Qwy λr6=>?_;apply zc [17,89,39,3,9,0]
 . exact zr [26,25,34] [(0,0)]
 refine zk [4,2] PR λv=>?_;apply z [17,85,35,103,39,31,2];refine s1 (fq Uw ti_3.h rfl (.inr ⟨rfl,rfl,_,_,rfl⟩) rfl rfl (kI (x:=0) rfl)) ?_;apply z [100];refine s1 (fq Uw ti_3.h rfl (.inr ⟨rfl,rfl,_,_,rfl⟩) rfl rfl (kI (x:=1) rfl)) ?_;apply z [100];refine o (fx [ab v.2.a0,ab (0:Int),ab (0:Int),ab v.2.a1]) ?_;refine b λa2 u=>?_;refine o (cG (Vg _ u) [0] [] []) ?_;exact zr [0,26,25] [(0,0)]
theorem Zn{n:Nat}{u}{v}:FM 30 [.own 0,am v] [(0,.bx 107 (Jb u))] (λr=>Ug r.1) (λr=>[(0,.bx 107 (Jb r.2))]) (V7 n u v):=by
 unfold V7;refine fs func30 λ_ _ _ _=>?_;refine zb [44,11,0,8] λr1 h2=>?_;refine s1 (aR (em:=[]) [0] [] [] [] rfl (Yq _ h2) trivial (qO (kw mF (kw cp (pH)))) ⟨.inr ⟨0,rfl,.inl ⟨rfl,.inr ⟨_,_,rfl,Zz,rfl⟩⟩⟩,.inl ⟨_,rfl,au Vv⟩,trivial⟩ (λ_ _ h=>by cases h) trivial rfl trivial trivial rfl trivial trivial trivial (au (qE (Ka Vv (Ka bM (iu))))) rfl) ?_;refine zk [17,32,2] IK λg=>?_;apply z [17,95,15,32,8,45];refine o (fx [ab g.2.1,ab (0:Int),ab (0:Int),ab g.2.2]) ?_;refine b λr5 h6=>?_;refine o (cG (Vg _ h6) [0] [] []) ?_;exact zr [40,7] [(0,0)]
theorem EL{n:Nat}{x0}{x1}{x2}:FM 31 [.own 0,am x1,ab x2] [(0,.bx 107 (Jb x0))] (λr=>ab r.1) (λr=>[(0,.bx 107 (Jb r.2))]) (V8 n x0 x1 x2):=by
 unfold V8;refine fs func31 λ_ _ _ _=>?_;refine zb [11,8] λr1 h2=>?_;refine s1 (aR (em:=[]) [0] [] [] [] rfl (Yq _ h2) trivial (qO (kw mF (kw cp (pH)))) ⟨.inr ⟨0,rfl,.inl ⟨rfl,.inr ⟨_,_,rfl,Zz,rfl⟩⟩⟩,.inl ⟨_,rfl,au Vv⟩,trivial⟩ (λ_ _ h=>by cases h) trivial rfl trivial trivial rfl trivial trivial trivial (au (qE (Ka Vv (Ka bM (iu))))) rfl) ?_;apply zc [17,32,9,59,0]
 . exact zr [2,81] [(0,0)]
 refine zk [4,2] EG λr3=>?_;apply zc [3,9,88,0]
 . apply z [8,1];refine o (fx [ab (1:Int),ab (0:Int),ab (0:Int),ab r3]) ?_;refine b λr5 h6=>?_;refine o (cG (Vg _ h6) [0] [] []) ?_;exact zr [0,70] [(0,0)]
 refine zk [4,2] Py λr7=>?_;apply z [3,11,5,64];refine yR 0 (λt=>t) [0,1,6,10] [0] [0,1,6,10] [0] (λv=>[(11,ab v.1),(12,ab v.2)]) (λ_=>[]) (λa2=>[(11,ab a2)]) (λ_=>[]) ?_ ?_
 . intro a3 v;apply z [5];refine zq [1,10,11,12] [0] (λa0=>[(40,bl a0),(0,.own 0),(6,ab (0:Int))]) (λ_=>[]) ?_ ?_
   . intro b1 g;apply zi [62,76,96,1] 37
     . exact zJ [27,22] g
     exact zJ [21,33] g
   intro a0;refine c ?_ ?_
   . refine zb [60,10,114,45] λb4 b0=>?_;apply z [111,141,18,65];refine dH (F:=ab) 50 rfl λb5=>?_;exact zG [47,67,50]
   exact zJ [30] a3
 intro a2;apply z [41,5];refine zq [1,11] [0] (λa1=>[(57,bl a1),(0,.own 0),(6,ab (0:Int))]) (λ_=>[]) ?_ ?_
 . intro b2 u;apply zi [10,101,1] 53
   . exact zJ [19,22] u
   exact zJ [49,33] u
 intro a1;refine c ?_ ?_
 . apply z [8];refine o (fx [ab (2:Int),ab (0:Int),ab (0:Int),ab (0:Int)]) ?_;refine b λb3 a4=>?_;refine o (cG (Vg _ a4) [0] [] []) ?_;exact zr [0,70] [(0,0)]
 exact zr [4,2,7] [(0,0)]
theorem EM{n:Nat}{g}{u}:FO 80 [Qe g,Qe u] Qe (vZ n g u):=by
 unfold vZ;refine fs func80 λ_ _ _ _=>?_;refine zb [69,85,79] λr1 h2=>?_;refine b λr3 h4=>?_;refine b λr5 v=>?_;refine zs [[100],[100],[101],[101],[],[100],[100],[101],[101]] ?_;refine dC (Xr _ h2) ?_;apply zd [[100],[100],[101],[101]];refine dC (Xr _ h4) ?_;refine dd [] (λ_ _ _ _=>mB [bl (g.A8 != u.A8),Uc r1,Uc r3]) ?_;refine dC (Vu _ v) ?_;apply zy [[102]];exact zr [52]
theorem Quf{n:Nat}:FO 32 [] Vl (Fc n ):=by
 unfold Fc;refine fs func32 λ_ _ _ _=>?_;refine zk [38,72] Kj λr1=>?_;refine zb [89,31,5] λr3 h4=>?_;refine b λr5 h6=>?_;refine b λr7 h8=>?_;refine b λr9 g=>?_;refine b λa4 u=>?_;refine b λb1 v=>?_;refine b λa5 a0=>?_;refine b λa6 a1=>?_;refine b λb2 a2=>?_;refine b λa7 a3=>?_;refine zs [[101]] ?_;refine dC (Kj _ h4) ?_;refine dC (EM _ h6) ?_;refine dC (Kj _ h8) ?_;refine dC (Kj _ g) ?_;refine dC (EM _ u) ?_;apply zd [[101]];refine dx [] [] (λst mm _ _=>og (ll (Kj _ v) ⟨⟨_,(kI (x:=5) rfl),au K8⟩,trivial⟩ (OA) rfl)) ?_;refine dC (EM _ a0) ?_;refine dx [] [] (λst mm _ _=>og (ll (Kj _ a1) ⟨⟨_,(kI (x:=5) rfl),au K8⟩,trivial⟩ (OA) rfl)) ?_;apply zd [[101]];refine dC (Kj _ a2) ?_;refine dC (EM _ a3) ?_;refine dd [] (λ_ _ _ _=>mB [Qe r5,Qe a4,Qe a5,Qe a6,Qe a7,ab (16:Int),ab (100:Int)]) ?_;apply zy [[100]];exact zr [52]
theorem Vk{n:Nat}{u}{v}{x2}:FM 33 [.own 0,am v,Qe x2] [(0,.bx 107 (Jb u))] (λr=>Qe r.1) (λr=>[(0,.bx 107 (Jb r.2))]) (J7 n u v x2):=by
 unfold J7;refine fs func33 λ_ _ _ _=>?_;refine zb [69,0,8] λr1 h2=>?_;refine s1 (aR (em:=[]) [0] [] [] [] rfl (Yq _ h2) trivial (qO (kw mF (kw cp (pH)))) ⟨.inr ⟨0,rfl,.inl ⟨rfl,.inr ⟨_,_,rfl,Zz,rfl⟩⟩⟩,.inl ⟨_,rfl,au Vv⟩,trivial⟩ (λ_ _ h=>by cases h) trivial rfl trivial trivial rfl trivial trivial trivial (au (qE (Ka Vv (Ka bM (iu))))) rfl) ?_;apply zc [17,32,9,59,0]
 . exact zr [26,25,34] [(0,0)]
 refine zk [4,2] IJ λg=>?_;apply z [17,95,85,39,32,8,45];refine o (fx [ab g.2.1,ab (0:Int),ab (0:Int),ab g.2.2]) ?_;refine b λr5 h6=>?_;refine o (cG (Vg _ h6) [0] [] []) ?_;exact zr [0,26,25] [(0,0)]
theorem EN{n:Nat}{x0}:FO 39 [Qu x0] Uo (Wi n x0):=by
 unfold Wi;refine fs func39 λ_ _ _ _=>?_;apply z [38,107,12,72];refine so (dX (y:=101) (E:=123) (k:=1) rfl rfl) ?_;apply z [79,64];refine yR 0 (λt=>t) [1,2,3] [100] [1,2,3] [100] (λg=>[(4,ab g.2)]) (λg=>[(101,.sl 123 1 (List.map Jd g.1))]) (λ_=>[]) (λu=>[(101,.sl 123 1 (List.map Jd u))]) ?_ ?_;intro v g;apply zc [9,58,29,37];refine zb [60,10,58,1] λa1 a2=>?_;apply z [116,113,112];refine o (mS 102 (List.map Jd ([a1.Code]:List (List Qd)))) ?_;refine b λa5 a3=>?_;exact zG [35,103,47,67,50] [(100,100),(101,103)];exact zJ [30] v;intro u;refine zb [53,58] λa6 a4=>?_;apply z [85,7];refine fz 102 [2,24] [] ?_;exact rt []
theorem Qv1{n:Nat}{x0}:FO 85 [Qu x0] ab (Bq n x0):=by
 unfold Bq;refine fs func85 λ_ _ _ _=>?_;refine zk [38,3,11,26] EN λr1=>?_;apply z [63,64];refine dZ 0 (λt=>t) (λg=>[(2,ab (0:Int)),(3,ab g.1),(4,Uo r1),(5,ab g.2)]) (λg=>[]) (λv=>[(2,ab (0:Int)),(3,ab v)]) (λv=>[]) (eR []) ?_ ?_;intro u g;apply zc [75,29,37];refine zb [60,10,45] λa3 a2=>?_;exact zg [54,29,117,67,50];exact zj [30] u;intro v;exact zr [53,7]
theorem Qv2{n:Nat}{u}:FO 86 [am u] bl (Br n u):=by
 unfold Br;refine fs func86 λ_ _ _ _=>?_;apply z [11];refine zq [] [] (λv=>[(2,bl v)]) (λ_=>[]) ?_ ?_;intro j3 g;apply z [10];refine o (mB [ab (2:Int),am u,ab 0]) ?_;refine cb (ca EF) λr6=>?_;apply zi [1] 6;apply zi [27,23] 10;apply zi [27,23] 14;apply zi [27,23] 18;exact zj [27,71] g;exact zj [21,28] g;exact zj [21,14,21,28] g;exact zj [21,14,21,14,21,28] g;exact zj [21,14,21,14,21,14,21,28] g;intro v;exact zr [61]
theorem IN{x0}:FO 158 [ab x0] ab (Yu x0):=by
 unfold Yu;refine fs func158 λ_ _ _ _=>?_;apply z [11,5];refine zq [0] [] (λs3=>[(8,bl s3),(2,ab (0:Int))]) (λ_=>[]) ?_ ?_;intro j1 g;apply zi [10,88,1] 5;exact zj [27,22] g;exact zj [21,33] g;intro s3;refine c ?_ ?_;exact zr [70];apply z [66];refine zq [0] [] (λs6=>[(14,bl s6),(2,ab (0:Int))]) (λ_=>[]) ?_ ?_;intro j4 u;apply zi [10,57,1] 11;exact zj [21,22] u;exact zj [27,33] u;intro s6;refine c ?_ ?_;exact zr [70];apply z [66];refine zq [] [] (λs9=>[(20,bl s9),(2,ab (0:Int))]) (λ_=>[]) ?_ ?_;intro j7 v;apply zi [10,88,1] 17;exact zj [27,22] v;exact zj [21,33] v;intro s9;refine c ?_ ?_;exact zr [70];exact zr [4,73]
theorem PS{n:Nat}{x0}:FO 155 [Uh x0] ab (Zw n x0):=by
 unfold Zw;refine fs func155 λ_ _ _ _=>?_;apply z [11,11,5,64];refine yE 0 Lp.go [0,2] [0,2] (λu=>[(3,ab u.1),(4,ab u.2)]) (λa0=>[(3,ab a0)]) ?_ ?_;intro a1 u;apply zc [75,29,37];refine zb [60,8] λa6 a3=>?_;refine zk [116,113,112] IN λa5=>?_;apply z [63];refine zq [0,3,4,5] [] (λv=>[(24,bl v),(2,ab (0:Int))]) (λ_=>[]) ?_ ?_;intro a4 g;apply zi [10,96,1] 20;exact zj [19,22] g;exact zj [49,33] g;intro v;refine c ?_ ?_;exact zr [2,81,48,51];exact zg [4,62,65,117,67,50];exact zj [30] a1;intro a0;refine bO ?_;apply zc [41,9,57,0];exact zr [70];exact zr [4,2,29,7]
theorem Qwz{n:Nat}{x0}:FM 338 [.own 0] [(0,.sl 196 1 (List.map av x0))] (λr=>u64 r.1) (λr=>[(0,.sl 196 1 (List.map av r.2))]) (Zg n x0):=by
 unfold Zg;refine fs func338 λ_ _ _ _=>?_;apply z [11,11,9,97,65,3,12];refine yR 0 (λt=>t) [0,2] [] [2] [] (λg=>[(3,u64 g.2.1),(4,ab g.2.2)]) (λg=>[(0,.sl 196 1 (List.map av g.1))]) (λu=>[(3,u64 u.2)]) (λu=>[(0,.sl 196 1 (List.map av u.1))]) ?_ ?_;intro v g;apply zc [9,88,0];refine zb [60,2,126,45] λa3 a1=>?_;apply z [83,93,105,104];refine dH (F:=u64) 19 rfl λa5=>?_;refine zb [3,8,1,119,108] λa4 a2=>?_;exact zG [83,103,0,10,122,47,67,10,65,47];exact zJ [30] v;intro u;exact zr [53,7] [(0,0)]
theorem Qv3{n:Nat}{x0}:FO 239 [Uc x0] am (Bs n x0):=by
 unfold Bs;refine fs func239 λ_ _ _ _=>?_;refine zb [11,2] λr1 h2=>?_;refine o (cG (Kn _ h2) [] [(100,50)] []) ?_;apply z [3,11,5,12];refine yR 0 (λt=>t) [2,3] [] [2] [] (λg=>[(4,am g.2)]) (λg=>[(100,.sl 196 1 (List.map av g.1))]) (λa1=>[(4,am a1)]) (λ_=>[]) ?_ ?_;intro a2 g;apply z [5];refine zq [4] [100] (λa0=>[(14,bl a0),(2,am ([]:Be)),(3,.own 100)]) (λ_=>[]) ?_ ?_;intro a9 u;apply zi [10,97,101,1] 11;exact zJ [21,22] u;exact zJ [27,33] u;intro a0;refine c ?_ ?_;refine zb [4,12,2] λa6 a3=>?_;refine o (cG (Qwz _ a3) [100] [] []) ?_;refine zb [3,8,104] λb0 a4=>?_;refine s1 (fN a4 Uu rfl (kS (s:=[48,49,50,51,52,53,54,55,56,57]) rfl) (bnd rfl) (bnd rfl)) ?_;refine zb [1] λb1 a8=>?_;refine zb [110,3,10] λv a5=>?_;refine so (aR (em:=[(101,.sl 196 1 (List.map av v))]) (res':=.own 101) [100] [] [(101,50)] [(101,50)] rfl (Kn _ a5) ⟨jS (f:=av) (λ_=>kv) _,trivial⟩ (lp) ⟨.inr ⟨100,rfl,.inl ⟨rfl,.inl ⟨_,_,_,rfl,Ju (f:=av) (λ_=>Wh) a6.2,rfl⟩⟩⟩,trivial⟩ (dK.get (mi:=[]) trivial) trivial rfl ⟨rfl,trivial⟩ ⟨.inl rfl,trivial⟩ rfl ⟨.inl ⟨_,_,rfl,rfl,aW (Ju (f:=av) (λ_=>Wh) v)⟩,trivial⟩ trivial ⟨⟨_,rfl⟩,trivial⟩ (K1 rfl) rfl) ?_;exact zG [47,36] [(100,101)];exact zJ [30] a2 [];intro a1;exact zr [53,7]
theorem Qv4{n:Nat}{x0}{x1}{x2}{x3}:FO 156 [Qj x0,ab x1,ab x2,ab x3] bl (Bt n x0 x1 x2 x3):=by
 unfold Bt;refine fs func156 λ_ _ _ _=>?_;apply zc [38,63,13,57,0]
 . refine zq [1,2,3] [100] (λa5=>[(8,bl a5),(4,.own 100)]) (λ_=>[]) ?_ ?_
   . intro j9 v;refine zs [[100],[100],[]] ?_;refine cd (λg=>?_) (λg=>?_)
     . refine bD λb8 b5=>?_;refine bD λc9 b6=>?_;refine dO g ?_;apply zd [[100],[100]];refine dG [101] (λ_ _ _ _=>cG (Kn _ b5) [] [(101,50)] []) ?_;apply zd [[100],[100]];refine dx [15,18,20] [101] (λst mm ⟨b2,b3,b4,_⟩ ⟨b1,_⟩=>jJ 15 rfl (b2.trans rfl) (aR (em:=[]) [101] [] [] [] rfl (IL _ b6) trivial (cp) ⟨.inr ⟨101,rfl,.inl ⟨(b3.trans rfl),.inl ⟨_,_,_,(b1.trans rfl),Ju (f:=av) (λ_=>Wh) b8,rfl⟩⟩⟩,.inl ⟨_,(b4.trans rfl),au Za⟩,trivial⟩ (λ_ _ h=>by cases h) trivial rfl trivial trivial rfl trivial trivial trivial (au (bM)) rfl)) ?_;apply zd [[]];refine cd (λu=>?_) (λu=>?_)
       . refine bD λd0 b7=>?_;refine dO u ?_;apply zd [[100],[100]];refine dG [] (λ_ _ _ _=>c0 (Qv3 _ b7)) ?_;apply zy [[],[],[],[]];exact zJ [24] v
       refine dO u ?_;apply zy (Ea 7);exact zJ [24] v
     refine dO g ?_;apply zy (Ea 15);exact zJ [24] v
   intro a5;exact zr [61,34]
 apply z [66];refine zq [1,2,3] [100] (λa6=>[(43,bl a6),(4,.own 100),(8,bl false)]) (λ_=>[]) ?_ ?_
 . intro c4 a0;apply zi [78,29,101,1] 34
   . exact zJ [19,23,19,22] a0
   apply zi [49,14] 39
   . exact zJ [19,22] a0
   exact zJ [49,33] a0
 intro a6;refine c ?_ ?_
 . exact zr [70]
 apply zc [66,13,57,0]
 . refine zq [2,3] [100] (λa7=>[(8,bl a7),(4,.own 100)]) (λ_=>[]) ?_ ?_
   . intro c5 a1;apply zi [78,88,1] 50
     . exact zJ [43,71] a1
     exact zJ [16,28] a1
   intro a7;exact zr [61,34]
 apply zc [66,13,57,0]
 . refine zq [3] [100] (λa8=>[(8,bl a8),(4,.own 100)]) (λ_=>[]) ?_ ?_
   . intro c6 a2;apply zi [78,88,1] 62
     . exact zJ [43,71] a2
     exact zJ [16,28] a2
   intro a8;exact zr [61,34]
 apply zc [66,13,57,0]
 . refine zq [] [100] (λa9=>[(8,bl a9),(4,.own 100)]) (λ_=>[]) ?_ ?_
   . intro c7 a3;apply zi [78,88,1] 74
     . exact zJ [43,71] a3
     exact zJ [16,28] a3
   intro a9;exact zr [61,34]
 apply zc [66,13,57,0]
 . refine zq [] [100] (λb0=>[(8,bl b0),(4,.own 100)]) (λ_=>[]) ?_ ?_
   . intro c8 a4;apply zi [78,88,1] 86
     . exact zJ [49,71] a4
     exact zJ [19,28] a4
   intro b0;exact zr [61,34]
 exact zr [4,13,57,7]
theorem Qug{n:Nat}{x0}{x1}{x2}{x3}:FO 87 [Uh x0,ab x1,ab x2,ab x3] ab (Bu n x0 x1 x2 x3):=by
 unfold Bu;refine fs func87 λ_ _ _ _=>?_;refine zk [11,2] PS λr1=>?_;apply z [63,64];refine yE 0 Lp.go [0,1,2,3,8,9] [8,9] (λu=>[(10,ab u)]) (λ_=>[]) ?_ ?_;intro a0 u;apply zc [75,29,37];apply z [60];refine zq [0,1,2,3,9,10] [] (λv=>[(32,bl v),(8,ab (0:Int))]) (λ_=>[]) ?_ ?_;intro a7 g;apply zi [62,57,1] 22;exact zj [16,42,22] g;refine zb [27] λb0 a6=>?_;refine zb [43,20] λa8 a1=>?_;refine bY (c0 (Qv4 _ a1)) ?_;exact zj [20,33] g;intro v;refine c ?_ ?_;exact zr [2,7,48,51];exact zg [80,50];exact zj [30] a0;intro a9;refine bO ?_;exact zr [53,7]
theorem Qv5:∀ {n:Nat}{v}{x1},∀ r,Y7 n v x1=some r->bo Ub 157 [Uh v,ab x1] [] (.tup [ab r.1,ab r.2]) []:=by
 intro n
 induction n with
 | zero=>intro v x1 r h;exact absurd h (by simp[Y7])
 | succ n ih=>
   intro v x1;unfold Y7;refine fs func157 λ_ _ _ _=>?_;refine zb [6,32,11,2,63,8] λy1 h2=>?_;refine zk [116,113,112] IN λr3=>?_;apply z [3,12];refine yE 0 (λt=>t) [0,4,5] [4,5] (λg=>[(6,ab g.1),(7,ab g.2.1),(8,ab g.2.2)]) (λu=>[(6,ab u.1),(7,ab u.2)]) ?_ ?_
   . intro a1 g;apply zc [9,101,0]
     . refine zb [60,8,65] λa3 a2=>?_;refine o (c0 (ih _ a2)) ?_;exact zg [17,32,8,123,3,10,47,67,10,65,47]
     exact zj [30] a1
   intro u;exact zr [53,18,1,15,7]
theorem Quh{n:Nat}{g}:FO 88 [Uh g] ab (Bv n g):=by
 unfold Bv;refine fs func88 λ_ _ _ _=>?_;refine zk [11,9] PS λu=>?_;apply zc [88,0];exact zr [70];refine zk [4,8,29,65] Qv5 λv=>?_;exact zr [17,32,2,7]
theorem Qui{n:Nat}{x0}{x1}{x2}:FO 35 [Qu x0,ab x1,ab x2] (λr=>.tup [bl r.1,Id r.2]) (Zx n x0 x1 x2):=by
 unfold Zx;refine fs func35 λ_ _ _ _=>?_;apply z [38,15,89,79];refine zq [1,2] [100,101] (λs5=>[(45,bl s5),(3,.own 100),(6,bl false),(7,.own 101)]) (λ_=>[]) ?_ ?_;intro j3 g;apply zi [10,96,1] 16;exact zJ [21,23,21,23,21,23,42,23,16,23,19,22] g;apply zi [27,14] 20;exact zJ [21,23,21,23,42,23,16,23,19,22] g;apply zi [27,14] 24;exact zJ [21,23,42,23,16,23,19,22] g;apply zi [27,14] 28;exact zJ [42,23,16,23,19,22] g;apply zi [43,20,14] 35;exact zJ [16,23,19,22] g;apply zi [43,14] 41;exact zJ [19,22] g;refine zb [20] λr6 h7=>?_;refine bY (c0 (Qv1 _ h7)) ?_;exact zJ [20,33] g;intro s5;refine c ?_ ?_;apply z [6];refine o (fx [ab 0,ab 0,ab 0]) ?_;exact zr [15,25,34];refine zk [4,26] EN λr8=>?_;apply z [63,64];refine yR 0 Lp.go [1,2,3,6,7,8] [100,101] [6,7] [101] (λu=>[(9,ab u)]) (λ_=>[]) (λ_=>[]) (λ_=>[]) ?_ ?_;intro a5 u;apply zc [75,29,37];apply z [60,2,58,29,143,3];refine zq [1,2,8,9,10] [100,101] (λ_=>[(3,.own 100),(6,bl false),(7,.own 101)]) (λ_=>[]) ?_ ?_;intro c1 a1;apply zc [2,58,29,37];refine zb [13,1] λc7 b3=>?_;refine zk [116,113,112] Qv2 λc3=>?_;apply z [63,64];refine yR 2 (λt=>t) [1,2,3,6,7,8,9,10] [100,101] [1,2,3,6,7,8,9,10] [100,101] (λa0=>[(11,bl a0.1),(12,ab a0.2)]) (λ_=>[]) (λa4=>[(11,bl a4)]) (λ_=>[]) ?_ ?_;intro a6 a0;apply zc [75,37];apply z [4];refine zq [1,2,8,9,10,12] [100,101] (λa3=>[(11,bl a3),(3,.own 100),(6,bl false),(7,.own 101)]) (λ_=>[]) ?_ ?_;intro c2 a2;apply z [12];refine zs [[]] ?_;refine cd (λv=>?_) (λv=>?_);refine bD λc8 b4=>?_;refine bD λc9 b5=>?_;refine dO v ?_;apply zy [[100],[100],[],[],[],[],[100],[100],[],[],[],[],[],[],[]];exact zJ [67] a2;refine dO v ?_;apply zy (Ea 15);exact zJ [67] a2;intro a3;exact zG [50];exact zJ [30] a6;intro a4;apply zc [53,59,0];apply z [2,18];refine o (fx [ab (wrap64 (u+1)),ab (1:Int),ab (0:Int)]) ?_;exact zr [15,25,34,48,51];exact zJ [4] a1;exact zJ [4] a1;intro c5;refine zb [8] λd0 b6=>?_;refine zk [54,45,1] Qug λa7=>?_;apply zc [3,9,88,0];apply z [2,18,1];refine o (fx [ab (wrap64 (u+1)),ab (0:Int),ab a7]) ?_;exact zr [15,25,34,48,51];refine zb [4,8] λd1 b7=>?_;refine zk [54] Quh λc4=>?_;apply zc [101,0];refine zb [5] λa8 b8=>?_;refine zs (Ea 7) ?_;refine dd [] (λ_ _ _ _=>fx [ab (wrap64 (u+1)),ab (0:Int),ab (a8.length:Int)]) ?_;apply zy [[],[101]];exact zr [52,48,51];exact zG [80,50];exact zJ [30] a5;intro c6;refine bO ?_;apply z [41,6];refine o (fx [ab 0,ab 0,ab 0]) ?_;exact zr [15,25]
theorem EO{n:Nat}{v}{g}{x1}:FM 159 [.own 0,Q4 x1] [(0,.bx 201 (.agg [.own 1,.own 2])),(1,.sl 212 6 (List.map Q4 v)),(2,.sl 3 1 (List.map ab g))] (λr=>ab r.1) (λr=>[(0,.bx 201 (.agg [.own 61,.own 2])),(1,.gone),(2,.sl 3 1 (List.map ab g)),(61,.sl 212 6 (List.map Q4 r.2))]) (Wf n v g x1):=by
 unfold Wf;refine fs func159 λ_ _ _ _=>?_;apply z [38,63,64];refine yR 0 Lp.go [0,3,4] [0,1,2,100] [0,3,4] [0,1,2,100] (λa0=>[(5,ab a0)]) (λ_=>[]) (λ_=>[]) (λ_=>[]) ?_ ?_;intro a2 a0;apply zc [75,46,97,37];refine zb [60,2,46,1] λb0 a5=>?_;apply z [83,93,89,31];refine zq [5] [0,1,2,100] (λa1=>[(53,bl a1),(0,.own 0),(3,.own 100),(4,ab (0:Int))]) (λ_=>[]) ?_ ?_;intro a7 u;apply zi [78,58,57,1] 28;apply zi [43,20,23] 35;apply zi [43,20,23] 42;apply zi [43] 46;exact zJ [42,20,22] u;refine zb [43] λa8 a4=>?_;refine bY (c0 (K2 _ a4)) ?_;exact zJ [20,22] u;exact zJ [16,90,90,118,102,33] u;exact zJ [42,14,16,90,90,118,102,33] u;exact zJ [42,14,42,14,16,90,90,118,102,33] u;intro a1;refine c ?_ ?_;exact zr [2,7,48,51] [(0,0),(1,1),(2,2),(61,1)];exact zG [80,50];exact zJ [30] a2;intro a9;refine bO ?_;refine zb [41,5] λb1 a6=>?_;refine zs [[],[],[0],[0],[0],[100]] ?_;refine dd [101] (λ_ _ _ _=>mS 101 (List.map Q4 ([x1]:List Qw))) ?_;refine dd [1,101,102] (λ_ _ _ _=>en 102) ?_;apply zd [[0],[0]];refine dd [0] (λ_ _ _ _=>bc (.agg [.own 102,.own 2]) [0]) ?_;refine dE ?_;exact zr [24,2,46,97,65,7] [(0,0),(1,1),(2,2),(61,102)]
end Go.Proofs.YthdbapalogijdaaGreatDoor
