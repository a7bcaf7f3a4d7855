import Derived.Test.YtkkfedionkhgnaaGreatDoorRows
import Derived.Test.YtkkfedionkhgnaaGreatDoorChecked
import Derived.Lay
import Derived.Stop.Joined
import Derived.SevenTiedAt
namespace Go.Proofs.YtkkfedionkhgnaaGreatDoor
open Go
set_option maxRecDepth 100000
theorem and_t{a b:Bool}(ha:a=true)(hb:b=true):(a && b)=true:=by rw[ha,hb];rfl
set_option maxHeartbeats 8000000 in
theorem Qsd:joinedFacts Tryz.prog 9 Tryz.f9 Rows.jacChainsSpec Rows.jacChainsRow=true:=by
 unfold joinedFacts
 repeat' (with_reducible apply and_t)
 all_goals as_aux_lemma=>kernel_rfl
end Go.Proofs.YtkkfedionkhgnaaGreatDoor
