import Derived.Test.YtjmfkenegjhohaaGreatDoorModb
import Derived.Test.YtjmfkenegjhohaaGreatDoorGen0
set_option maxRecDepth 100000
set_option maxHeartbeats 4000000
namespace Go.Proofs.YtjmfkenegjhohaaGreatDoor
open Go Go.RowKit
abbrev Qjz(x:Zl):Ly:=.agg [Qh x.U,Qh x.V]
theorem Wg{a0_0_0_ a0_0_1_ a0_1_ a1_0_0_ a1_0_1_ a1_1_}:IF (.agg [.agg [.agg [bl a0_0_0_,sli 1 a0_0_1_],sli 1 a0_1_],.agg [.agg [bl a1_0_0_,sli 1 a1_0_1_],sli 1 a1_1_]]):=Qk4 (Yw (Qk4 (Yw (Qk4 (Yw if_bl (Yw Qdg (Qg2)))) (Yw Qdg (Qg2)))) (Yw (Qk4 (Yw (Qk4 (Yw if_bl (Yw Qdg (Qg2)))) (Yw Qdg (Qg2)))) (Qg2)))
abbrev Qyf(xs:List Q5):Ly:=sli 6 (xs.map Ji)
abbrev Qao(x:Qam):Ly:=.agg [Ji x.T,Qyf x.Y,Qyf x.P]
theorem Qsz:Zr (Qao (⟨(⟨(⟨(⟨false,[]⟩:Qk),[]⟩:Qa),(⟨(⟨false,[]⟩:Qk),[]⟩:Qa)⟩:Q5),[],[]⟩:Qam)) [.bool false,Ua,Ua,.bool false,Ua,Ua,Ua,Ua]:=K8 (Qm (c1:=[.bool false,Ua,Ua,.bool false,Ua,Ua]) Z8 (Qm (c1:=[Ua]) (Kb (k:=6)) (Qm (c1:=[Ua]) (Kb (k:=6)) (Kl))))
theorem Jeo:MethF Ub 436 "Neg" 388:=⟨ox,_,Ut⟩
theorem Jep:MethF Ub 436 "Pow" 390:=⟨ox,_,Ut⟩
theorem Jeq:MethF Ub 436 "Add" 385:=⟨ox,_,Ut⟩
theorem Jer:MethF Ub 436 "Sub" 392:=⟨ox,_,Ut⟩
theorem Jes:MethF Ub 436 "Mul" 387:=⟨ox,_,Ut⟩
theorem Jet:MethF Ub 436 "Quo" 391:=⟨ox,_,Ut⟩
theorem Jgl:MethF Ub 436 "Of" 389:=⟨ox,_,Ut⟩
theorem Jct:MethF Ub 436 "Fits" 386:=⟨ox,_,Ut⟩
instance:CZy Ub 441 (Qao (⟨(⟨(⟨(⟨false,[]⟩:Qk),[]⟩:Qa),(⟨(⟨false,[]⟩:Qk),[]⟩:Qa)⟩:Q5),[],[]⟩:Qam)):=⟨_,_,_,Jgi.h,Qsz⟩
instance{x}:CIF (Qao x):=⟨CIF.h⟩
end Go.Proofs.YtjmfkenegjhohaaGreatDoor
