import Derived.Test.YtcdeknlejjjmlaaGreatDoorRows
import Derived.Test.YtcdeknlejjjmlaaGreatDoorChecked
import Derived.Lay
import Derived.Stop.Joined
import Derived.SevenTiedAt
namespace Go.Proofs.YtcdeknlejjjmlaaGreatDoor
open Go
set_option maxRecDepth 100000
set_option maxHeartbeats 8000000
theorem and_t {a b : Bool} (ha : a = true) (hb : b = true) : (a && b) = true := by rw [ha, hb]; rfl
set_option maxHeartbeats 8000000 in
theorem DeskLines_closed : joinedFacts Tryz.prog 3 Tryz.f3 Rows.deskLinesSpec Rows.deskLinesRow = true := by
  unfold joinedFacts
  repeat' (with_reducible apply and_t)
  all_goals as_aux_lemma => kernel_rfl
end Go.Proofs.YtcdeknlejjjmlaaGreatDoor
