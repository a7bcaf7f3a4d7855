import Derived.Test.YtkkfedionkhgnaaGreatDoorModbb
import Derived.Test.YtkkfedionkhgnaaGreatDoorGen0b
import Derived.Test.YtkkfedionkhgnaaGreatDoorGenA6
set_option maxRecDepth 100000
set_option maxHeartbeats 4000000
namespace Go.Proofs.YtkkfedionkhgnaaGreatDoor
open Go Go.RowKit
theorem Q3q{n x0 x1 x2}:∀ r,Qhu n x0 x1 x2=some r->FnOk Ub 40 [Kk x0,Uc x1,Uc x2] [] (.tup [Qb r.1,bl r.2]) []:=by
 unfold Qhu;refine fs Tryz.func40 λ_ _ _ _=>?_;refine z [2] ?_;refine o (bx' 100) ?_;refine o (al' 101) ?_;refine z [4,32,0] ?_;refine cb (ca Qpc) λr1=>?_;refine z [27] ?_;refine o (al' 102) ?_;refine z [35,4,32,0] ?_;refine cb (ca Qpc) λr3=>?_;refine z [27] ?_;refine o (al' 103) ?_;refine z [35,22] ?_;refine sjq (λs7=>[(6,.own 101),(7,bl false),(8,.own 102),(10,.own 103),(31,bl s7)]) (λs7=>[(101,.bx 56 (Qb (⟨(⟨false,[]⟩:Qg),[]⟩:Qa))),(102,.bx 56 (Qb r1.1)),(103,.bx 56 (Qb r3.1))]) ?_ ?_;intro j5 hj6;refine z [13,0,43,0] ?_;refine sifd 28 rfl ?_ ?_;refine z [15,10,1] ?_;exact sj (hj6 _) (eR (dI [101,102,103]));refine z [8,23,1] ?_;exact sj (hj6 _) (eR (dI [101,102,103]));intro s7;refine c ?_ ?_;refine z [2] ?_;refine cb (ca J4) λr8=>?_;refine z [35,9,25] ?_;exact rt [];refine z [14,12,33] ?_;refine cb (ca Wy) λr10=>?_;refine z [35,9] ?_;exact rt []
end Go.Proofs.YtkkfedionkhgnaaGreatDoor
