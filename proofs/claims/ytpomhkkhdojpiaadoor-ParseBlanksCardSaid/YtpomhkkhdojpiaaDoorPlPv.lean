import Derived.Test.YtpomhkkhdojpiaaDoorPlPs3
namespace Go.Proofs.YtpomhkkhdojpiaaDoor
open Go Go.RowKit
def VOk (V : List M_retrospectref16_Word) (E : Int) : Prop := WOk (V.map toX) ∧ 0 ≤ E ∧ ∀ w ∈ V, 0 ≤ w.At
theorem len_toX {V : List M_retrospectref16_Word} : (V.map toX).length = V.length := List.length_map _
end Go.Proofs.YtpomhkkhdojpiaaDoor
