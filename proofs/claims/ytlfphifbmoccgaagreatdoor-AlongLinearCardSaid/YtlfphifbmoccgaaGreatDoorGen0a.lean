import Derived.Test.YtlfphifbmoccgaaGreatDoorChecked
import Derived.Test.YtlfphifbmoccgaaGreatDoorSC
import Derived.Test.YtlfphifbmoccgaaGreatDoorBld
import Derived.Test.YtlfphifbmoccgaaGreatDoorLib
import Derived.Test.YtlfphifbmoccgaaGreatDoorMod
import Derived.Test.YtlfphifbmoccgaaGreatDoorModa
import Derived.Test.YtlfphifbmoccgaaGreatDoorGen0
set_option maxRecDepth 100000
set_option maxHeartbeats 4000000
namespace Go.Proofs.YtlfphifbmoccgaaGreatDoor
open Go Go.RowKit
abbrev Qb5(x:Vr):Ly:=.agg [Xb x.a0,Xb x.a1]
end Go.Proofs.YtlfphifbmoccgaaGreatDoor
