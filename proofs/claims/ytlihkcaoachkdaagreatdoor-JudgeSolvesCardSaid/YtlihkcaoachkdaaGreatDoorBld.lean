import Derived.Test.YtlihkcaoachkdaaGreatDoorSB
import Derived.Test.YtlihkcaoachkdaaGreatDoorChecked
import Derived.Orders
import Derived.RegionTactic
set_option maxRecDepth 100000
namespace Go.Proofs.YtlihkcaoachkdaaGreatDoor
open Go Go.RowKit
end Go.Proofs.YtlihkcaoachkdaaGreatDoor
