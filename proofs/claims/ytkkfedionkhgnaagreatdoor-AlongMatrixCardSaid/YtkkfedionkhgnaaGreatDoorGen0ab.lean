import Derived.Test.YtkkfedionkhgnaaGreatDoorModab
import Derived.Test.YtkkfedionkhgnaaGreatDoorGen0
set_option maxRecDepth 100000
set_option maxHeartbeats 4000000
namespace Go.Proofs.YtkkfedionkhgnaaGreatDoor
open Go Go.RowKit
abbrev Qin(xs:List Jr):Ly:=sli 14 (xs.map Qal)
abbrev Kg(x:Jg):Ly:=.agg [Qin x.Ao,Qr x.T,Qi x.Y]
end Go.Proofs.YtkkfedionkhgnaaGreatDoor
