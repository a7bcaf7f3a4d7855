import Derived.Test.YtlfphifbmoccgaaGreatDoorLibM
import Derived.Test.YtlfphifbmoccgaaGreatDoorMod
set_option maxRecDepth 100000
set_option maxHeartbeats 4000000
namespace Go.Proofs.YtlfphifbmoccgaaGreatDoor
open Go Go.RowKit
structure Vr where
 a0:Kt
 a1:Kt
def Qb4(x:Vr):Prop:=Qag x.a0∧Qag x.a1∧True
end Go.Proofs.YtlfphifbmoccgaaGreatDoor
