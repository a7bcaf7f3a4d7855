import Derived.Test.YteejhjpdcefgfaaGreatDoorRows
import Derived.Test.YteejhjpdcefgfaaGreatDoorChecked
import Derived.Lay
import Derived.Stop.Joined
import Derived.SevenTiedAt
namespace Go.Proofs.YteejhjpdcefgfaaGreatDoor
open Go
set_option maxRecDepth 100000
set_option maxHeartbeats 8000000
theorem and_t{a b:Bool}(ha:a=true)(hb:b=true):(a && b)=true:=by rw[ha,hb];rfl
set_option maxHeartbeats 8000000 in
theorem Qyh:joinedFacts Tryz.prog 3 Tryz.f3 Rows.topTextsSpec Rows.topTextsRow=true:=by
 unfold joinedFacts
 repeat' (with_reducible apply and_t)
 all_goals as_aux_lemma=>kernel_rfl
end Go.Proofs.YteejhjpdcefgfaaGreatDoor
