import Derived.Test.YtlfphifbmoccgaaGreatDoorChecked
import Derived.Test.YtlfphifbmoccgaaGreatDoorSC
import Derived.Test.YtlfphifbmoccgaaGreatDoorBld
import Derived.Test.YtlfphifbmoccgaaGreatDoorLib
import Derived.Test.YtlfphifbmoccgaaGreatDoorMod
import Derived.Test.YtlfphifbmoccgaaGreatDoorModc
import Derived.Test.YtlfphifbmoccgaaGreatDoorGen0
import Derived.Test.YtlfphifbmoccgaaGreatDoorGenA2
set_option maxRecDepth 100000
set_option maxHeartbeats 4000000
namespace Go.Proofs.YtlfphifbmoccgaaGreatDoor
open Go Go.RowKit
theorem Q5e{n:Nat}{x0}{x1}:∀ r,Qmz n x0 x1=some r->FnOk Tryz.prog 39 [i64 x0,i64 x1] [] (J2 r) []:=by
 unfold Qmz;refine fs Tryz.func39 λw S0 γ hγ=>?_;refine z [2] ?_;refine o (al' 100) ?_;refine z [1,2,30] ?_;refine b λr1 h2=>?_;refine o (cG (Qev _ h2) [] [(101,50)] []) ?_;refine z [30] ?_;refine b λr3 h4=>?_;refine o (cG (Qev _ h4) [] [(102,50)] []) ?_;refine fz 101 [6] [] ?_;refine fz 102 [8] [] ?_;refine s1 (bld (l:=[sli 3 (List.map Qb r1),sli 3 (List.map Qb r3)]) pl_90.h ti_90.h X5 ⟨_,_,_,rfl,rfl,rfl,rfl,(szk (k:=1) rfl rfl),⟨_,_,_,rfl,rfl,rfl,rfl,(szk (k:=1) rfl rfl),rfl⟩⟩ rfl) ?_;refine z [34,1,8] ?_;exact rt []
end Go.Proofs.YtlfphifbmoccgaaGreatDoor
