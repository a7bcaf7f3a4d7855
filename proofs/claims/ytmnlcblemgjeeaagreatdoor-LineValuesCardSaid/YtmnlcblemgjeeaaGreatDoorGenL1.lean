import Derived.Test.YtmnlcblemgjeeaaGreatDoorGenA4
import Derived.Test.YtmnlcblemgjeeaaGreatDoorGenR1
set_option maxRecDepth 100000
set_option maxHeartbeats 4000000
namespace Go.Proofs.YtmnlcblemgjeeaaGreatDoor
open Go Go.RowKit Tryz
theorem Ze{n:Nat}:FO 18 [] bl (Jt n ):=by
 unfold Jt;refine fs func18 λ_ _ _ _=>?_;apply z [40,6];refine o (mB [i64 (3:Int),i64 0,i64 0,Qd (⟨(⟨false,[]⟩:Qh),[]⟩:Qc)]) ?_;refine o (mB [i64 (9:Int),i64 0,i64 0,Qd (⟨(⟨false,[]⟩:Qh),[]⟩:Qc)]) ?_;refine o (mS 100 (List.map Kw ([(⟨(3:Int),0,0,(⟨(⟨false,[]⟩:Qh),[]⟩:Qc)⟩:Q7),(⟨(9:Int),0,0,(⟨(⟨false,[]⟩:Qh),[]⟩:Qc)⟩:Q7)]:List Q7))) ?_;refine sbm (C:=λx=>.sl 105 6 (List.map Kw x)) 100 rfl λz1=>?_;refine o (mS 101 (List.map i64 ([(1:Int)]:List Int))) ?_;refine fz 100 [9] [] ?_;refine fz 101 [10] [] ?_;refine o (mB [sli 6 (List.map Kw z1),Uh ([(1:Int)]:List Int),i64 (1:Int),i64 0]) ?_;refine zk [88,25,6] Qw8 λr2=>?_;refine zk [28,74,31,2,6] Km λv=>?_;refine o (mS 104 (List.map Qd ([v]:List Qc))) ?_;apply z [89,39];refine o (mB [Wc (⟨z1,([(1:Int)]:List Int),(1:Int),0⟩:Js),Jk r2.1,Ud [],i64 (100:Int)]) ?_;apply z [21];refine fz 104 [4,17,22,23] [] ?_;refine o (mB [Qd (⟨(⟨false,[]⟩:Qh),[]⟩:Qc),Ud ([v]:List Qc),Ud ([v]:List Qc),Ud []]) ?_;refine zk [0] Qv2 λr6=>?_;apply z [28,72,105,5,25];refine zq [] [] (λu=>[(0,bl u)]) (λ_=>[]) ?_ ?_;intro a7 g;apply zi [18] 30;apply z [19];refine sg 30 rfl rfl (bld (l:=[i64 0,i64 0,i64 0,i64 0]) pl_46.h ti_46.h Qp rfl rfl) ?_;refine sg 30 rfl rfl (eqA (p:=(r6.2:Qe)) (q:=((⟨0,0,0,0⟩:Qe):Qe)) Zb rfl eg_46 rfl rfl rfl) ?_;apply zi [38] 35;apply zi [50,38] 40;refine zb [19] λa9 a4=>?_;apply zi [57,38] 47;refine zb [19] λb0 a5=>?_;refine zb [12] λb1 a6=>?_;refine zb [50] λa8 a0=>?_;refine og' (c0 (Qy4 _ a0)) ?_;exact zJ [19,82,2] g [];exact zJ [8,8,45] g [];exact zJ [8,30,22,8,8,45] g [];exact zJ [20,22,8,30,22,8,8,45] g [];exact zJ [20,22,20,22,8,30,22,8,8,45] g [];intro u;exact zr [75]
theorem Y9{g}:FO 9 [Qb g] Qd (J5 g):=by
 unfold J5;refine fs func9 λ_ _ _ _=>?_;apply z [56,1,42,48];refine o (mB [bl g.Neg,Uc g.N]) ?_;apply z [48];refine o (mB [Qq (⟨g.Neg,g.N⟩:Qh),Uc g.D]) ?_;exact zr [15]
theorem Xu{n:Nat}{x0}:FO 30 [Ue x0] Ud (J6 n x0):=by
 unfold J6;refine fs func30 λ_ _ _ _=>?_;apply z [55,1,85];refine so (asgN (y:=100) (E:=41) (k:=3) rfl rfl) ?_;apply z [47,81];refine yR 0 (λt=>t) [0,2,3] [] [2,3] [] (λg=>[(4,i64 g.2)]) (λg=>[(100,.sl 41 3 (List.map Qd g.1))]) (λ_=>[]) (λu=>[(100,.sl 41 3 (List.map Qd u))]) ?_ ?_;intro v g;apply zc [9,0,11,51];refine zb [63,18,0] λa4 a2=>?_;refine zk [26] Y9 λa0=>?_;refine o (mS 101 (List.map Qd ([a0]:List Qc))) ?_;refine b λa5 a3=>?_;exact zG [88,80,66,84] [(100,102)];exact zJ [27] v;intro u;apply z [36,4];refine fz 100 [2,3,19] [] ?_;exact rt []
theorem Qne{n:Nat}{g}:FO 24 [Q4 g] Qg (Y4 n g):=by
 unfold Y4;refine fs func24 λ_ _ _ _=>?_;refine zb [56,47] λu h2=>?_;refine b λv h4=>?_;refine zs [[100],[100]] ?_;refine dC (Xu _ h2) ?_;apply zd [[100],[100]];refine dC (Xu _ h4) ?_;refine dd [] (λ_ _ _ _=>mB [Ud u,Ud v]) ?_;apply zy [[101]];exact zr [32]
theorem Qnf{g}:FO 124 [Qd g] Qb (Qab g):=by
 unfold Qab;refine fs func124 λ_ _ _ _=>?_;apply z [56,85,78,107,113,78,107,113,48];refine o (mB [bl g.Num.Neg,Uc g.Num.Gj,Uc g.Den]) ?_;exact zr [15]
theorem Qng{n:Nat}{x0}:FO 77 [Ud x0] Ue (Y5 n x0):=by
 unfold Y5;refine fs func77 λ_ _ _ _=>?_;apply z [55,5,85];refine so (asgN (y:=100) (E:=28) (k:=3) rfl rfl) ?_;apply z [47,81];refine yR 0 (λt=>t) [0,2,3] [] [2,3] [] (λg=>[(4,i64 g.2)]) (λg=>[(100,.sl 28 3 (List.map Qb g.1))]) (λ_=>[]) (λu=>[(100,.sl 28 3 (List.map Qb u))]) ?_ ?_;intro v g;apply zc [9,0,11,51];refine zb [63,18,0] λa4 a2=>?_;refine zk [26] Qnf λa0=>?_;refine o (mS 101 (List.map Qb ([a0]:List Qa))) ?_;refine b λa5 a3=>?_;exact zG [88,80,66,84] [(100,102)];exact zJ [27] v;intro u;apply z [36,4];refine fz 100 [2,3,19] [] ?_;exact rt []
theorem Qw{n:Nat}{g}{u}:FO 27 [Ud g,Ue u] bl (Qs n g u):=by
 unfold Qs;refine fs func27 λ_ _ _ _=>?_;refine zk [6,14] Qng λv=>?_;refine zk [0] Qlp λr3=>?_;exact zr [4]
theorem Qnh{n:Nat}{g}:FO 29 [Qv g] Yj (Xr n g):=by
 unfold Xr;refine fs func29 λ_ _ _ _=>?_;refine zb [56,47] λr1 h2=>?_;refine b λr3 h4=>?_;refine b λr5 u=>?_;refine b λr7 v=>?_;refine zs [[100],[100]] ?_;refine dC (Y9 _ h2) ?_;apply zd [[100],[100]];refine dC (Xu _ h4) ?_;apply zd [[100],[100]];refine dC (Xu _ u) ?_;apply zd [[100],[100]];refine dC (Xu _ v) ?_;refine dd [] (λ_ _ _ _=>mB [Qd r1,Ud r3,Ud r5,Ud r7]) ?_;apply zy [[101]];exact zr [32]
theorem Qlq{n:Nat}{g}:FO 31 [Qv g] Qv (W0 n g):=by
 unfold W0;refine fs func31 λ_ _ _ _=>?_;refine zb [56,47] λr1 h2=>?_;refine b λr3 h4=>?_;refine b λr5 u=>?_;refine b λr7 v=>?_;refine zs [[100],[100]] ?_;refine dC (K4 _ h2) ?_;apply zd [[100],[100]];refine dC (Kz _ h4) ?_;apply zd [[100],[100]];refine dC (Kz _ u) ?_;apply zd [[100],[100]];refine dC (Kz _ v) ?_;refine dd [] (λ_ _ _ _=>mB [Qb r1,Ue r3,Ue r5,Ue r7]) ?_;apply zy [[101]];exact zr [32]
theorem Qhu{n:Nat}{x0}{x1}{x2}{x3}:FO 4 [Ui x0,Qb x1,Qv x2,Ue x3] bl (K7 n x0 x1 x2 x3):=by
 unfold K7;refine fs func4 λ_ _ _ _=>?_;apply z [56,65];refine zq [0,3] [100,101] (λc7=>[(54,bl c7),(5,.own 100),(6,.own 101),(8,bl false)]) (λ_=>[]) ?_ ?_
 . intro m9 a4;apply zi [17,11,103,0] 32
   . exact zJ [24,38,20,38,20,38,20,38,24,43] a4
   refine zb [19] λn0 f2=>?_;refine og' (c0 (Qe8 _ f2)) ?_;apply zi [22] 36
   . exact zJ [20,38,20,38,20,38,24,43] a4
   refine zb [12] λn1 f3=>?_;refine og' (c0 (W4 _ f3)) ?_;apply zi [22] 41
   . exact zJ [20,38,20,38,24,43] a4
   refine zb [12] λn2 f4=>?_;refine og' (c0 (W4 _ f4)) ?_;apply zi [22] 46
   . exact zJ [20,38,24,43] a4
   refine zb [12] λn3 f5=>?_;refine og' (c0 (W4 _ f5)) ?_;apply zi [22] 51
   . exact zJ [24,43] a4
   refine zb [19] λn4 f6=>?_;refine og' (c0 (W4 _ f6)) ?_;exact zJ [41] a4
 intro c7;refine c ?_ ?_
 . refine zk [6] Ze λn5=>?_;exact zr [70]
 apply z [3,6];refine so (asgN (y:=102) (E:=75) (k:=2) rfl rfl) ?_;refine zk [1,13] K4 λn6=>?_;apply z [74,25,40,40,6];refine so (asgN (y:=104) (E:=28) (k:=3) rfl rfl) ?_;apply z [85];refine so (asgN (y:=105) (E:=28) (k:=3) rfl rfl) ?_;apply z [47,81];refine yR 0 Lp.go [0,3,5,6,8,9,10,13,14] [100,101,103] [3,5,6,8,9,10,13,14] [100,101,103] (λv=>[(11,bl v.2.1),(12,bl v.2.2.1),(15,i64 v.2.2.2.2.2)]) (λv=>[(102,.sl 75 2 (List.map Qg v.1)),(104,.sl 28 3 (List.map Qb v.2.2.2.1)),(105,.sl 28 3 (List.map Qb v.2.2.2.2.1))]) (λu=>[(11,bl u.2.1),(12,bl u.2.2.1)]) (λu=>[(102,.sl 75 2 (List.map Qg u.1)),(104,.sl 28 3 (List.map Qb u.2.2.2.1)),(105,.sl 28 3 (List.map Qb u.2.2.2.2))]) ?_ ?_
 . intro c6 v;apply zc [9,0,11,51]
   . apply z [3];refine zq [0,3,15] [100,101,103] (λa1=>[(11,bl a1.2.1),(12,bl a1.2.2.1),(5,.own 100),(6,.own 101),(8,bl false),(9,.own 110),(10,.own 103),(13,.own 112),(14,.own 114)]) (λa1=>[(110,.sl 75 2 (List.map Qg a1.1)),(112,.sl 28 3 (List.map Qb a1.2.2.2.1)),(114,.sl 28 3 (List.map Qb a1.2.2.2.2))]) ?_ ?_
     . intro h5 b5;refine zb [46,9,0] λm3 g4=>?_;refine zk [26] Qll λi1=>?_;apply zc [1]
       . refine zk [6] Ze λi2=>?_;exact zr [70,35,83]
       refine zb [3,16] λm4 g5=>?_;refine zk [26] Qfc λi3=>?_;refine zk [72,106,25,13,39] Qfe λe8=>?_;refine zb [28,72,107,31,65] λi4 c8=>?_;refine b λe9 c9=>?_;refine zs [[106]] ?_;refine dC (Qln _ c8) ?_;apply zd [[103]];refine dC (Qfe _ c9) ?_;apply zd [[],[],[]];refine dd [108] (λ_ _ _ _=>al' 108) ?_;apply zy [[108],[]];refine zb [44,10,21] λm5 g6=>?_;refine zk [26] Qne λf0=>?_;refine o (mS 109 (List.map Qg ([f0]:List Qf))) ?_;refine b λm6 g7=>?_;apply z [72,110,14,39];refine o (mS 111 (List.map Qb ([e8.1]:List Qa))) ?_;refine b λm7 g8=>?_;apply z [72,112,14,39];refine o (mS 113 (List.map Qb ([e9.1]:List Qa))) ?_;refine b λm8 g9=>?_;apply z [72,114,2];refine zq [0,3,12,15,20] [100,101,110,103,112,114] (λc1=>[(11,bl c1),(5,.own 100),(6,.own 101),(8,bl false),(9,.own 110),(10,.own 103),(13,.own 112),(14,.own 114)]) (λ_=>[]) ?_ ?_
       . intro h6 b6;apply zi [18] 105
         . exact zJ [19,82,2] b6
         exact zJ [30,45] b6
       intro c1;apply zi [18] 109
       . exact zJ [19,82,80,92] b5
       exact zJ [30,145,80,92] b5
     intro a1;exact zG [17,84] [(100,100),(101,101),(102,110),(103,103),(104,112),(105,114)]
   exact zJ [27] c6
 intro u;refine slpk ?_;refine zk [36,39] Y9 λi5=>?_;refine fz 102 [9,113] [] ?_;refine cb (ca Qz2) λi6=>?_;refine zk [73,14,39] Y9 λi7=>?_;refine cb (ca Qum) λi8=>?_;apply z [73,65];refine zq [3] [100,101,103] (λc2=>[(169,bl c2),(5,.own 100),(6,.own 101),(8,bl false),(10,.own 103)]) (λ_=>[]) ?_ ?_
 . intro h7 g;apply zi [18,141,0] 129
   . exact zJ [20,38,20,34,118,30,38,20,34,118,30,38,24,34,34,30,38,24,34,34,30,43] g
   apply zi [50,22] 134
   . exact zJ [20,34,118,30,38,20,34,118,30,38,24,34,34,30,38,24,34,34,30,43] g
   apply zi [50] 137
   . apply zi [57,22] 143
     . exact zJ [20,34,118,30,38,24,34,34,30,38,24,34,34,30,43] g
     apply zi [50] 146
     . apply zi [57,22] 152
       . exact zJ [24,34,34,30,38,24,34,34,30,43] g
       apply zi [12] 154
       . refine zb [12] λi9 d0=>?_;refine sg 154 rfl rfl (callL (em:=[]) [104] [] [] [] rfl (Qw _ d0) trivial (pl_bl) ⟨.inl ⟨_,rfl,rn_id Wg⟩,.inr ⟨104,rfl,.inl ⟨rfl,.inl ⟨_,_,_,rfl,Qt (f:=Qb) (λ_=>Jb) u.2.2.2.1,rfl⟩⟩⟩,trivial⟩ (λ_ _ h=>by cases h) trivial rfl trivial trivial rfl trivial trivial trivial (rn_id (if_bl)) rfl) ?_;apply zi [12,22] 161
         . exact zJ [24,34,34,30,43] g
         apply zi [12] 163
         . refine zb [12] λj0 d1=>?_;refine sg 163 rfl rfl (callL (em:=[]) [105] [] [] [] rfl (Qw _ d1) trivial (pl_bl) ⟨.inl ⟨_,rfl,rn_id Wg⟩,.inr ⟨105,rfl,.inl ⟨rfl,.inl ⟨_,_,_,rfl,Qt (f:=Qb) (λ_=>Jb) u.2.2.2.2,rfl⟩⟩⟩,trivial⟩ (λ_ _ h=>by cases h) trivial rfl trivial trivial rfl trivial trivial trivial (rn_id (if_bl)) rfl) ?_;exact zJ [12,41] g
         exact zJ [8,19,41] g
       apply zi [8,19,22,12] 163
       . refine zb [12] λj1 d2=>?_;refine sg 163 rfl rfl (callL (em:=[]) [105] [] [] [] rfl (Qw _ d2) trivial (pl_bl) ⟨.inl ⟨_,rfl,rn_id Wg⟩,.inr ⟨105,rfl,.inl ⟨rfl,.inl ⟨_,_,_,rfl,Qt (f:=Qb) (λ_=>Jb) u.2.2.2.2,rfl⟩⟩⟩,trivial⟩ (λ_ _ h=>by cases h) trivial rfl trivial trivial rfl trivial trivial trivial (rn_id (if_bl)) rfl) ?_;exact zJ [12,41] g
       exact zJ [8,19,41] g
     apply zi [20,19,22,12] 154
     . refine zb [12] λj2 d3=>?_;refine sg 154 rfl rfl (callL (em:=[]) [104] [] [] [] rfl (Qw _ d3) trivial (pl_bl) ⟨.inl ⟨_,rfl,rn_id Wg⟩,.inr ⟨104,rfl,.inl ⟨rfl,.inl ⟨_,_,_,rfl,Qt (f:=Qb) (λ_=>Jb) u.2.2.2.1,rfl⟩⟩⟩,trivial⟩ (λ_ _ h=>by cases h) trivial rfl trivial trivial rfl trivial trivial trivial (rn_id (if_bl)) rfl) ?_;apply zi [12,22] 161
       . exact zJ [24,34,34,30,43] g
       apply zi [12] 163
       . refine zb [12] λj3 d4=>?_;refine sg 163 rfl rfl (callL (em:=[]) [105] [] [] [] rfl (Qw _ d4) trivial (pl_bl) ⟨.inl ⟨_,rfl,rn_id Wg⟩,.inr ⟨105,rfl,.inl ⟨rfl,.inl ⟨_,_,_,rfl,Qt (f:=Qb) (λ_=>Jb) u.2.2.2.2,rfl⟩⟩⟩,trivial⟩ (λ_ _ h=>by cases h) trivial rfl trivial trivial rfl trivial trivial trivial (rn_id (if_bl)) rfl) ?_;exact zJ [12,41] g
       exact zJ [8,19,41] g
     apply zi [8,19,22,12] 163
     . refine zb [12] λj4 d5=>?_;refine sg 163 rfl rfl (callL (em:=[]) [105] [] [] [] rfl (Qw _ d5) trivial (pl_bl) ⟨.inl ⟨_,rfl,rn_id Wg⟩,.inr ⟨105,rfl,.inl ⟨rfl,.inl ⟨_,_,_,rfl,Qt (f:=Qb) (λ_=>Jb) u.2.2.2.2,rfl⟩⟩⟩,trivial⟩ (λ_ _ h=>by cases h) trivial rfl trivial trivial rfl trivial trivial trivial (rn_id (if_bl)) rfl) ?_;exact zJ [12,41] g
     exact zJ [8,19,41] g
   apply zi [20,19,22,50] 146
   . apply zi [57,22] 152
     . exact zJ [24,34,34,30,38,24,34,34,30,43] g
     apply zi [12] 154
     . refine zb [12] λj5 d6=>?_;refine sg 154 rfl rfl (callL (em:=[]) [104] [] [] [] rfl (Qw _ d6) trivial (pl_bl) ⟨.inl ⟨_,rfl,rn_id Wg⟩,.inr ⟨104,rfl,.inl ⟨rfl,.inl ⟨_,_,_,rfl,Qt (f:=Qb) (λ_=>Jb) u.2.2.2.1,rfl⟩⟩⟩,trivial⟩ (λ_ _ h=>by cases h) trivial rfl trivial trivial rfl trivial trivial trivial (rn_id (if_bl)) rfl) ?_;apply zi [12,22] 161
       . exact zJ [24,34,34,30,43] g
       apply zi [12] 163
       . refine zb [12] λj6 d7=>?_;refine sg 163 rfl rfl (callL (em:=[]) [105] [] [] [] rfl (Qw _ d7) trivial (pl_bl) ⟨.inl ⟨_,rfl,rn_id Wg⟩,.inr ⟨105,rfl,.inl ⟨rfl,.inl ⟨_,_,_,rfl,Qt (f:=Qb) (λ_=>Jb) u.2.2.2.2,rfl⟩⟩⟩,trivial⟩ (λ_ _ h=>by cases h) trivial rfl trivial trivial rfl trivial trivial trivial (rn_id (if_bl)) rfl) ?_;exact zJ [12,41] g
       exact zJ [8,19,41] g
     apply zi [8,19,22,12] 163
     . refine zb [12] λj7 d8=>?_;refine sg 163 rfl rfl (callL (em:=[]) [105] [] [] [] rfl (Qw _ d8) trivial (pl_bl) ⟨.inl ⟨_,rfl,rn_id Wg⟩,.inr ⟨105,rfl,.inl ⟨rfl,.inl ⟨_,_,_,rfl,Qt (f:=Qb) (λ_=>Jb) u.2.2.2.2,rfl⟩⟩⟩,trivial⟩ (λ_ _ h=>by cases h) trivial rfl trivial trivial rfl trivial trivial trivial (rn_id (if_bl)) rfl) ?_;exact zJ [12,41] g
     exact zJ [8,19,41] g
   apply zi [20,19,22,12] 154
   . refine zb [12] λj8 d9=>?_;refine sg 154 rfl rfl (callL (em:=[]) [104] [] [] [] rfl (Qw _ d9) trivial (pl_bl) ⟨.inl ⟨_,rfl,rn_id Wg⟩,.inr ⟨104,rfl,.inl ⟨rfl,.inl ⟨_,_,_,rfl,Qt (f:=Qb) (λ_=>Jb) u.2.2.2.1,rfl⟩⟩⟩,trivial⟩ (λ_ _ h=>by cases h) trivial rfl trivial trivial rfl trivial trivial trivial (rn_id (if_bl)) rfl) ?_;apply zi [12,22] 161
     . exact zJ [24,34,34,30,43] g
     apply zi [12] 163
     . refine zb [12] λj9 e0=>?_;refine sg 163 rfl rfl (callL (em:=[]) [105] [] [] [] rfl (Qw _ e0) trivial (pl_bl) ⟨.inl ⟨_,rfl,rn_id Wg⟩,.inr ⟨105,rfl,.inl ⟨rfl,.inl ⟨_,_,_,rfl,Qt (f:=Qb) (λ_=>Jb) u.2.2.2.2,rfl⟩⟩⟩,trivial⟩ (λ_ _ h=>by cases h) trivial rfl trivial trivial rfl trivial trivial trivial (rn_id (if_bl)) rfl) ?_;exact zJ [12,41] g
     exact zJ [8,19,41] g
   apply zi [8,19,22,12] 163
   . refine zb [12] λk0 e1=>?_;refine sg 163 rfl rfl (callL (em:=[]) [105] [] [] [] rfl (Qw _ e1) trivial (pl_bl) ⟨.inl ⟨_,rfl,rn_id Wg⟩,.inr ⟨105,rfl,.inl ⟨rfl,.inl ⟨_,_,_,rfl,Qt (f:=Qb) (λ_=>Jb) u.2.2.2.2,rfl⟩⟩⟩,trivial⟩ (λ_ _ h=>by cases h) trivial rfl trivial trivial rfl trivial trivial trivial (rn_id (if_bl)) rfl) ?_;exact zJ [12,41] g
   exact zJ [8,19,41] g
 intro c2;refine c ?_ ?_
 . exact zr [29,33]
 refine zb [3,7] λk1 e2=>?_;refine b λk2 e3=>?_;refine b λk3 e4=>?_;refine b λk4 e5=>?_;refine zs [[101]] ?_;refine dC (Qnh _ e2) ?_;apply zd [[]];refine dC (Xu _ e3) ?_;apply zd [[100]];refine dC (Y9 _ e4) ?_;refine dC (Qun _ e5) ?_;apply zy [[],[],[],[],[],[],[]];apply z [44,7];refine zq [3,25,26,27] [101,103] (λc3=>[(195,bl c3),(6,.own 101),(8,bl false),(10,.own 103)]) (λ_=>[]) ?_ ?_
 . intro h8 b7;apply zi [71,48,11,48,11,114,0] 188
   . exact zJ [8,24,43] b7
   exact zJ [57,12,41] b7
 intro c3;refine c ?_ ?_
 . refine zq [3,25,26,27] [101,103] (λc4=>[(8,bl c4),(6,.own 101),(10,.own 103)]) (λ_=>[]) ?_ ?_
   . intro h9 a6;apply zi [17,11,37,0] 199
     . apply zi [50,38] 204
       . apply zi [12,38] 208
         . refine b λk5 e6=>?_;refine og' (c0 (Ze _ e6)) ?_;exact zJ [82,2] a6
         exact zJ [30,45] a6
       exact zJ [24,22,30,45] a6
     exact zJ [20,22,24,22,30,45] a6
   intro c4;exact zr [75,33]
 refine zk [3,13] Qlq λk6=>?_;apply z [72,106,25];refine zq [] [] (λc5=>[(8,bl c5)]) (λ_=>[]) ?_ ?_
 . intro i0 a3;refine sif (λa0=>?_) (λa0=>?_)
   . refine b λk7 a7=>?_;refine b λk9 a8=>?_;refine b λl2 a9=>?_;refine sif (λa2=>?_) (λa2=>?_)
     . refine b λl3 b1=>?_;refine b λl4 b2=>?_;refine b λl5 b3=>?_;refine b λl6 b4=>?_;refine sif (λa5=>?_) (λa5=>?_)
       . refine b λl7 b8=>?_;refine b λl8 b9=>?_;refine sif (λb0=>?_) (λb0=>?_)
         . refine b λl9 e7=>?_;refine zs [[]] ?_;refine dO a0 ?_;apply zd [[],[106],[106],[103],[106],[106]];refine dG [] (λ_ _ _ _=>c0 (K0 _ a7)) ?_;refine dG [] (λ_ _ _ _=>c0 (V8 _ a8)) ?_;refine dG [] (λ_ _ _ _=>c0 (Qw _ a9)) ?_;apply zd [[]];refine dO a2 ?_;apply zd [[],[]];refine dG [] (λ_ _ _ _=>c0 (Kz _ b1)) ?_;apply zd [[103],[106],[106]];refine dG [] (λ_ _ _ _=>c0 (K0 _ b2)) ?_;refine dG [] (λ_ _ _ _=>c0 (V8 _ b3)) ?_;refine dG [] (λ_ _ _ _=>c0 (Qw _ b4)) ?_;apply zd [[]];refine dO a5 ?_;refine dG [] (λ_ _ _ _=>c0 (Km _ b8)) ?_;refine dG [] (λ_ _ _ _=>c0 (Qg1 _ b9)) ?_;apply zd [[]];refine dO b0 ?_;refine dG [] (λ_ _ _ _=>c0 (Ze _ e7)) ?_;apply zy [[],[]];exact zJ [44] a3 []
         refine zs [[]] ?_;refine dO a0 ?_;apply zd [[],[106],[106],[103],[106],[106]];refine dG [] (λ_ _ _ _=>c0 (K0 _ a7)) ?_;refine dG [] (λ_ _ _ _=>c0 (V8 _ a8)) ?_;refine dG [] (λ_ _ _ _=>c0 (Qw _ a9)) ?_;apply zd [[]];refine dO a2 ?_;apply zd [[],[]];refine dG [] (λ_ _ _ _=>c0 (Kz _ b1)) ?_;apply zd [[103],[106],[106]];refine dG [] (λ_ _ _ _=>c0 (K0 _ b2)) ?_;refine dG [] (λ_ _ _ _=>c0 (V8 _ b3)) ?_;refine dG [] (λ_ _ _ _=>c0 (Qw _ b4)) ?_;apply zd [[]];refine dO a5 ?_;refine dG [] (λ_ _ _ _=>c0 (Km _ b8)) ?_;refine dG [] (λ_ _ _ _=>c0 (Qg1 _ b9)) ?_;apply zd [[]];refine dO b0 ?_;apply zy [[],[],[]];exact zJ [44] a3 []
       refine zs [[]] ?_;refine dO a0 ?_;apply zd [[],[106],[106],[103],[106],[106]];refine dG [] (λ_ _ _ _=>c0 (K0 _ a7)) ?_;refine dG [] (λ_ _ _ _=>c0 (V8 _ a8)) ?_;refine dG [] (λ_ _ _ _=>c0 (Qw _ a9)) ?_;apply zd [[]];refine dO a2 ?_;apply zd [[],[]];refine dG [] (λ_ _ _ _=>c0 (Kz _ b1)) ?_;apply zd [[103],[106],[106]];refine dG [] (λ_ _ _ _=>c0 (K0 _ b2)) ?_;refine dG [] (λ_ _ _ _=>c0 (V8 _ b3)) ?_;refine dG [] (λ_ _ _ _=>c0 (Qw _ b4)) ?_;apply zd [[]];refine dO a5 ?_;apply zy [[],[],[],[],[],[],[]];exact zJ [44] a3 []
     refine zs [[]] ?_;refine dO a0 ?_;apply zd [[],[106],[106],[103],[106],[106]];refine dG [] (λ_ _ _ _=>c0 (K0 _ a7)) ?_;refine dG [] (λ_ _ _ _=>c0 (V8 _ a8)) ?_;refine dG [] (λ_ _ _ _=>c0 (Qw _ a9)) ?_;apply zd [[]];refine dO a2 ?_;apply zy [[],[],[],[],[],[],[],[],[],[],[],[],[],[],[],[],[],[]];exact zJ [44] a3 []
   refine zs [[]] ?_;refine dO a0 ?_;apply zy [[],[],[],[],[],[],[],[],[],[],[],[],[],[],[],[],[],[],[],[],[],[],[],[],[],[],[],[],[]];exact zJ [44] a3 []
 intro c5;exact zr [75]
end Go.Proofs.YtmnlcblemgjeeaaGreatDoor
