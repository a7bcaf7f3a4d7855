import Derived.Test.YtpomhkkhdojpiaaDoorPlTree
namespace Go.Proofs.YtpomhkkhdojpiaaDoor
open Go Go.RowKit
def dN (x : M_tree_Node) : M_retrospectref17_Node := ⟨x.Op, x.I, x.N⟩
end Go.Proofs.YtpomhkkhdojpiaaDoor
