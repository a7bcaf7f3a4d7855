import Derived.Test.YtbdgngdpkdagoaaGreatDoorModa
import Derived.Test.YtbdgngdpkdagoaaGreatDoorGen0
set_option maxRecDepth 100000
set_option maxHeartbeats 4000000
namespace Go.Proofs.YtbdgngdpkdagoaaGreatDoor
open Go Go.RowKit
abbrev Qe5(x:Xt):Ly:=.agg [Qc x.T,Qc x.H,Qh x.Y]
abbrev Qdt(x:Wx):Ly:=.agg [Q6 x.P,Qe5 x.F,Qh x.A5,Qh x.W]
theorem Wf{a0_0_0_ a0_0_1_ a0_1_ a1_0_0_ a1_0_1_ a1_1_}:IF (.agg [.agg [.agg [bl a0_0_0_,sli 1 a0_0_1_],sli 1 a0_1_],.agg [.agg [bl a1_0_0_,sli 1 a1_0_1_],sli 1 a1_1_]]):=Qlg (Y4 (Qlg (Y4 (Qlg (Y4 if_bl (Y4 Qa4 (Qhh)))) (Y4 Qa4 (Qhh)))) (Y4 (Qlg (Y4 (Qlg (Y4 if_bl (Y4 Qa4 (Qhh)))) (Y4 Qa4 (Qhh)))) (Qhh)))
abbrev Qzl(xs:List Q1):Ly:=sli 6 (xs.map Jd)
abbrev Qat(x:Qal):Ly:=.agg [Jd x.T,Qzl x.Y,Qzl x.P]
theorem Qtx:Zr (Qat (⟨(⟨(⟨(⟨false,[]⟩:Qi),[]⟩:Qa),(⟨(⟨false,[]⟩:Qi),[]⟩:Qa)⟩:Q1),[],[]⟩:Qal)) [.bool false,Ua,Ua,.bool false,Ua,Ua,Ua,Ua]:=K4 (Qn (c1:=[.bool false,Ua,Ua,.bool false,Ua,Ua]) Qaf (Qn (c1:=[Ua]) (J6 (k:=6)) (Qn (c1:=[Ua]) (J6 (k:=6)) (Kl))))
theorem Jg0:MethF Ub 473 "Neg" 398:=⟨ox,_,Us⟩
theorem Jg1:MethF Ub 473 "Pow" 400:=⟨ox,_,Us⟩
theorem Jg2:MethF Ub 473 "Add" 395:=⟨ox,_,Us⟩
theorem Jg3:MethF Ub 473 "Sub" 402:=⟨ox,_,Us⟩
theorem Jg4:MethF Ub 473 "Mul" 397:=⟨ox,_,Us⟩
theorem Jg5:MethF Ub 473 "Quo" 401:=⟨ox,_,Us⟩
theorem Ji2:MethF Ub 473 "Of" 399:=⟨ox,_,Us⟩
theorem Jes:MethF Ub 473 "Fits" 396:=⟨ox,_,Us⟩
instance:CZy Ub 478 (Qat (⟨(⟨(⟨(⟨false,[]⟩:Qi),[]⟩:Qa),(⟨(⟨false,[]⟩:Qi),[]⟩:Qa)⟩:Q1),[],[]⟩:Qal)):=⟨_,_,_,Jiz.h,Qtx⟩
instance{x}:CIF (Qat x):=⟨CIF.h⟩
end Go.Proofs.YtbdgngdpkdagoaaGreatDoor
