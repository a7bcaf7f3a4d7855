import Derived.Test.YtbdgngdpkdagoaaGreatDoorGen0b
import Derived.Test.YtbdgngdpkdagoaaGreatDoorGenA4
set_option maxRecDepth 100000
set_option maxHeartbeats 4000000
namespace Go.Proofs.YtbdgngdpkdagoaaGreatDoor
open Go Go.RowKit
theorem Jcw{n:Nat}{g}{u}:FO 49 [i64 g,i64 u] (λr=>.tup [Qd r.1,bl r.2]) (Qtp n g u):=by
 unfold Qtp;refine fs Tryz.func49 λ_ _ _ _=>?_;refine zk [40,1,4] Vc λv=>?_;refine zk [2] Vc λr3=>?_;refine cb (ca Qkf) λr5=>?_;exact zr [111,14,10]
theorem Jav{n:Nat}{v}{x1}:FO 50 [Jr v,i64 x1] Qg0 (Qr6 n v x1):=by
 unfold Qr6;refine fs Tryz.func50 λ_ _ _ _=>?_;refine zk [66,0,7] Q0z λr1=>?_;refine zk [16,1,15] Qpw λr3=>?_;apply z [16];refine o (mB [i64 (r3.length:Int),i64 0,i64 0]) ?_;refine zk [87,11,48,72] Qpx λr5=>?_;apply z [60];refine nR [4,6,21] [101] (λg=>[(7,i64 g.2)]) (λg=>[(102,.bx 127 (Qg0 g.1))]) ?_ ?_;intro a4 a5 g a2;apply z [34,3,26,59,11,8,12,74,74,1,8,2,39];refine sbn (F:=i64) 36 rfl λa1=>?_;apply z [49];refine o (stP (Qg0 (⟨g.1.Kept,a1,g.1.Most⟩:Wj)) [1]) ?_;exact zG [0,79,109,51,30];intro u;apply z [44,8,2,39,49];refine o (stP (Qg0 (⟨u.1.Kept,u.1.Again,wrap64 (u.1.Kept+u.2)⟩:Wj)) [2]) ?_;exact zr [0,7,36]
end Go.Proofs.YtbdgngdpkdagoaaGreatDoor
