import Derived.Test.YtjmfkenegjhohaaGreatDoorModa
import Derived.Test.YtjmfkenegjhohaaGreatDoorGen0
set_option maxRecDepth 100000
set_option maxHeartbeats 4000000
namespace Go.Proofs.YtjmfkenegjhohaaGreatDoor
open Go Go.RowKit
theorem Qf3{a0_ a1_ a2_}:IF (.agg [bl a0_,sli 1 a1_,sli 1 a2_]):=Qk4 (Yw if_bl (Yw Qdg (Yw Qdg (Qg2))))
theorem Qtq:Zr (Qu (⟨0,[]⟩:Qs)) [.int .i64 0,Ua]:=K8 (Qm (c1:=[.int .i64 0]) Wy (Qm (c1:=[Ua]) (Kb (k:=3)) (Kl)))
instance:CZy Ub 88 (Qu (⟨0,[]⟩:Qs)):=⟨_,_,_,ti_88.h,Qtq⟩
end Go.Proofs.YtjmfkenegjhohaaGreatDoor
