import Derived.Test.YtmnlcblemgjeeaaGreatDoorGen0
set_option maxRecDepth 100000
set_option maxHeartbeats 4000000
namespace Go.Proofs.YtmnlcblemgjeeaaGreatDoor
open Go Go.RowKit
theorem Wi{v}{x1}:FO 6 [Qv v,i64 x1] bl (Js v x1):=by
 unfold Js;refine fs Tryz.func6 λ_ _ _ _=>?_;apply z [32,4];refine zq [] [] (λu=>[(4,bl u)]) (λ_=>[]) ?_ ?_;intro j1 g;apply zi [55,23,96,101,0] 10;exact zJ [79,80] g [];exact zJ [44,28,36] g [];intro u;exact zr [62]
theorem Wj{n:Nat}{x0}{x1}{x2}:FO 17 [Ug x0,i64 x1,i64 x2] bl (Q2 n x0 x1 x2):=by
 unfold Q2;refine fs Tryz.func17 λ_ _ _ _=>?_;apply z [2,29,64,10];refine yE 0 Lp.go [0,1,2,6] [0,1,6] (λu=>[(7,i64 u)]) (λ_=>[]) ?_ ?_;intro a0 u;apply z [13];refine zq [0,1,2,7] [] (λv=>[(16,bl v),(6,bl false)]) (λ_=>[]) ?_ ?_;intro a5 g;apply zi [21,26,52,0] 12;exact zj [69,40] g;exact zj [45,61] g;intro v;refine c ?_ ?_;refine zb [50,10,22] λa8 a4=>?_;refine zk [19,0] Wi λa6=>?_;apply zc [1];exact zr [87,71];exact zg [78,17,14,68];exact zj [60] a0;intro a7;refine slpk ?_;exact zr [49,96,101,5]
theorem Qfh{n:Nat}{x0}{x1}{x2}:FO 5 [Jx x0,i64 x1,i64 x2] bl (Vm n x0 x1 x2):=by
 unfold Vm;refine fs Tryz.func5 λ_ _ _ _=>?_;apply z [32,29];refine zq [1,2] [100] (λs9=>[(39,bl s9),(3,.own 100),(6,bl false)]) (λ_=>[]) ?_ ?_;intro j7 g;apply zi [55,23,94,101,0] 12;exact zJ [79,39,79,39,79,39,79,40] g;apply zi [44,28,27] 19;exact zJ [79,39,79,39,79,40] g;refine zb [44] λa8 a0=>?_;refine og' (c0 (Wj _ a0)) ?_;apply zi [27] 26;exact zJ [79,39,79,40] g;refine zb [44] λa9 a1=>?_;refine og' (c0 (Wj _ a1)) ?_;apply zi [27] 33;exact zJ [79,40] g;refine zb [44] λb0 a2=>?_;refine og' (c0 (Wj _ a2)) ?_;exact zJ [61] g;intro s9;refine c ?_ ?_;exact zr [48,8];apply z [50,64,10];refine yR 0 Lp.go [1,2,3,6] [100] [6] [] (λu=>[(7,i64 u)]) (λ_=>[]) (λ_=>[]) (λ_=>[]) ?_ ?_;intro v u;apply zc [24,23,26,52,1];refine zb [50,10,20,0] λb3 a7=>?_;refine zk [19,34] Wj λb1=>?_;apply zc [1];exact zr [87,71];exact zG [78,17,14,68];exact zJ [60] v [];intro b2;refine slpk ?_;exact zr [47,48]
end Go.Proofs.YtmnlcblemgjeeaaGreatDoor
