import Derived.Test.YtbdgngdpkdagoabGreatDoorModab
import Derived.Test.YtbdgngdpkdagoabGreatDoorGen0a
set_option maxRecDepth 100000
set_option maxHeartbeats 4000000
namespace Go.Proofs.YtbdgngdpkdagoabGreatDoor
open Go Go.RowKit
abbrev Qfe(x:Qag):Ly:=.agg [Qg x.U,Qg x.V]
theorem W2{a0_0_0_ a0_0_1_ a0_1_ a1_0_0_ a1_0_1_ a1_1_}:IF (.agg [.agg [.agg [bl a0_0_0_,sli 1 a0_0_1_],sli 1 a0_1_],.agg [.agg [bl a1_0_0_,sli 1 a1_0_1_],sli 1 a1_1_]]):=Ql5 (Yc (Ql5 (Yc (Ql5 (Yc if_bl (Yc Qfs (Qh1)))) (Yc Qfs (Qh1)))) (Yc (Ql5 (Yc (Ql5 (Yc if_bl (Yc Qfs (Qh1)))) (Yc Qfs (Qh1)))) (Qh1)))
abbrev Q0n(xs:List Q8):Ly:=sli 6 (xs.map Jk)
abbrev Qbp(x:Qbm):Ly:=.agg [Jk x.T,Q0n x.Y,Q0n x.P]
theorem Quy:Zr (Qbp (⟨(⟨(⟨(⟨false,[]⟩:Qf),[]⟩:Qc),(⟨(⟨false,[]⟩:Qf),[]⟩:Qc)⟩:Q8),[],[]⟩:Qbm)) [.bool false,Ua,Ua,.bool false,Ua,Ua,Ua,Ua]:=Vi (Qk (c1:=[.bool false,Ua,Ua,.bool false,Ua,Ua]) Qba (Qk (c1:=[Ua]) (Kl (k:=6)) (Qk (c1:=[Ua]) (Kl (k:=6)) (Kv))))
theorem Jfq:MethF Ub 454 "Neg" 424:=⟨ox,_,Us⟩
theorem Jfr:MethF Ub 454 "Pow" 426:=⟨ox,_,Us⟩
theorem Jfs:MethF Ub 454 "Add" 421:=⟨ox,_,Us⟩
theorem Jft:MethF Ub 454 "Sub" 428:=⟨ox,_,Us⟩
theorem Jfu:MethF Ub 454 "Mul" 423:=⟨ox,_,Us⟩
theorem Jfv:MethF Ub 454 "Quo" 427:=⟨ox,_,Us⟩
theorem Jhc:MethF Ub 454 "Of" 425:=⟨ox,_,Us⟩
theorem Jd1:MethF Ub 454 "Fits" 422:=⟨ox,_,Us⟩
instance:CZy Ub 459 (Qbp (⟨(⟨(⟨(⟨false,[]⟩:Qf),[]⟩:Qc),(⟨(⟨false,[]⟩:Qf),[]⟩:Qc)⟩:Q8),[],[]⟩:Qbm)):=⟨_,_,_,Jg6.h,Quy⟩
instance{x}:CIF (Qbp x):=⟨CIF.h⟩
end Go.Proofs.YtbdgngdpkdagoabGreatDoor
