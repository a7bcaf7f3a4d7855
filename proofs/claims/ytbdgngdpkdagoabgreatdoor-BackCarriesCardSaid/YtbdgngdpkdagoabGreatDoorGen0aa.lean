import Derived.Test.YtbdgngdpkdagoabGreatDoorModaa
import Derived.Test.YtbdgngdpkdagoabGreatDoorGen0a
set_option maxRecDepth 100000
set_option maxHeartbeats 4000000
namespace Go.Proofs.YtbdgngdpkdagoabGreatDoor
open Go Go.RowKit
abbrev Qd8(x:Zb):Ly:=.agg [Qb x.T,Qb x.H,Qg x.Y]
abbrev Jd0(x:Q38):Ly:=.agg [J8 x.t,Qj x.done,Qj x.co,Qhz x.grad]
theorem Jb4:Zr (Jd0 (⟨(⟨[],[],0,0⟩:Qr),[],[],(⟨(⟨(⟨false,[]⟩:Qf),[]⟩:Qc),[],[]⟩:Wu)⟩:Q38)) [Ua,Ua,.int .i64 0,.int .i64 0,Ua,Ua,.bool false,Ua,Ua,Ua,Ua]:=Vi (Qk (c1:=[Ua,Ua,.int .i64 0,.int .i64 0]) Qk9 (Qk (c1:=[Ua]) (Kl (k:=3)) (Qk (c1:=[Ua]) (Kl (k:=3)) (Qk (c1:=[.bool false,Ua,Ua,Ua,Ua]) Quv (Kv)))))
instance:CZy Ub 368 (Jd0 (⟨(⟨[],[],0,0⟩:Qr),[],[],(⟨(⟨(⟨false,[]⟩:Qf),[]⟩:Qc),[],[]⟩:Wu)⟩:Q38)):=⟨_,_,_,Jmx.h,Jb4⟩
end Go.Proofs.YtbdgngdpkdagoabGreatDoor
