import Derived.Test.YtbdgngdpkdagoabGreatDoorGen0a
import Derived.Test.YtbdgngdpkdagoabGreatDoorGenR2
set_option maxRecDepth 100000
set_option maxHeartbeats 4000000
namespace Go.Proofs.YtbdgngdpkdagoabGreatDoor
open Go Go.RowKit
theorem Qoj{n:Nat}{x0}{x1}:FO 199 [Qb x0,i64 x1] Qb (Z6 n x0 x1):=by
 unfold Z6;refine fs Tryz.func199 λ_ _ _ _=>?_;refine zk [58,0,3] Vw λr1=>?_;apply z [87,70,69];refine yR 0 (λt=>t) [1,2,4,5] [100,101] [1,2,4,5] [100,101] (λg=>[(6,i64 g.2)]) (λg=>[(102,.bx 34 (Qb g.1))]) (λ_=>[]) (λt9=>[(102,.bx 34 (Qb t9))]) ?_ ?_;intro a2 g;apply zc [73,89];refine zk [61,65,15,15] Kq λa8=>?_;exact zG [16,90,79];exact zJ [38] a2;intro t9;apply z [45,9,69];refine yR 2 (λt=>t) [1,2,4,5] [100,101] [4,5] [101] (λu=>[(7,i64 u.2)]) (λu=>[(102,.bx 34 (Qb u.1))]) (λ_=>[]) (λa1=>[(102,.bx 34 (Qb a1))]) ?_ ?_;intro a3 u;apply z [9];refine zq [1,7] [100,101,102] (λa0=>[(24,bl a0),(2,.own 100),(4,.own 101),(5,.own 102)]) (λ_=>[]) ?_ ?_;intro a7 v;apply zi [13,1,93,1] 21;exact zJ [30,28] v;exact zJ [71,49] v;intro a0;refine c ?_ ?_;refine zk [61,65,15,15] Zz λa9=>?_;exact zG [16,90,107,81,64];exact zJ [38] a3;intro a1;exact zr [45,4,27]
end Go.Proofs.YtbdgngdpkdagoabGreatDoor
