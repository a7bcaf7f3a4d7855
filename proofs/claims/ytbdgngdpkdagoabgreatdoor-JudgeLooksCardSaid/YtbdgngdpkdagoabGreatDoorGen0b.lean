import Derived.Test.YtbdgngdpkdagoabGreatDoorModb
import Derived.Test.YtbdgngdpkdagoabGreatDoorGen0
set_option maxRecDepth 100000
set_option maxHeartbeats 4000000
namespace Go.Proofs.YtbdgngdpkdagoabGreatDoor
open Go Go.RowKit
theorem Qh8{a0_ a1_ a2_ a3_}:IF (.agg [i64 a0_,i64 a1_,i64 a2_,i64 a3_]):=Ql5 (Yc Xo (Yc Xo (Yc Xo (Yc Xo (Qh1)))))
abbrev Q7v(x:Qx0):Ly:=.agg [Ky x.k,Jd x.h,Qd x.want]
abbrev Qbb(x:Qa7):Ly:=.agg [Ky x.k,Jd x.h]
theorem Q54:Zr (Q7v (⟨(⟨(⟨(⟨[],[],0,0⟩:Qr),(⟨[],[],[],[],[]⟩:Q2),[],0⟩:Qn),(⟨(⟨(⟨false,[]⟩:Qf),[]⟩:Qc),(⟨(⟨false,[]⟩:Qf),[]⟩:Qc),(⟨(⟨false,[]⟩:Qf),[]⟩:Qc),(⟨(⟨false,[]⟩:Qf),[]⟩:Qc),(⟨(⟨false,[]⟩:Qf),[]⟩:Qc),0,0⟩:Kg),(⟨(⟨false,[]⟩:Qf),[]⟩:Qc),(⟨(⟨false,[]⟩:Qf),[]⟩:Qc),(⟨(⟨false,[]⟩:Qf),[]⟩:Qc),[]⟩:J1),(⟨[],(⟨(⟨false,[]⟩:Qf),[]⟩:Qc),[]⟩:Qs),(⟨(⟨false,[]⟩:Qf),[]⟩:Qc)⟩:Qx0)) [Ua,Ua,.int .i64 0,.int .i64 0,.string ⟨#[]⟩,Ua,Ua,Ua,Ua,Ua,.int .i64 0,.bool false,Ua,Ua,.bool false,Ua,Ua,.bool false,Ua,Ua,.bool false,Ua,Ua,.bool false,Ua,Ua,.int .i64 0,.int .i64 0,.bool false,Ua,Ua,.bool false,Ua,Ua,.bool false,Ua,Ua,Ua,Ua,.bool false,Ua,Ua,Ua,.bool false,Ua,Ua]:=Vi (Qk (c1:=[Ua,Ua,.int .i64 0,.int .i64 0,.string ⟨#[]⟩,Ua,Ua,Ua,Ua,Ua,.int .i64 0,.bool false,Ua,Ua,.bool false,Ua,Ua,.bool false,Ua,Ua,.bool false,Ua,Ua,.bool false,Ua,Ua,.int .i64 0,.int .i64 0,.bool false,Ua,Ua,.bool false,Ua,Ua,.bool false,Ua,Ua,Ua]) Qmd (Qk (c1:=[Ua,.bool false,Ua,Ua,Ua]) Qbf (Qk (c1:=[.bool false,Ua,Ua]) Kh (Kv))))
theorem Jkk:∃ fs F,Tryz.prog.underlying 58=some (.struct fs)/\fs[1]?=some F/\F.offset=1/\Shp Ub F.type false 1:=⟨_,_,Gq,rfl,rfl,sh_32.h⟩
theorem Qwb:Zr (Qbb (⟨(⟨(⟨(⟨[],[],0,0⟩:Qr),(⟨[],[],[],[],[]⟩:Q2),[],0⟩:Qn),(⟨(⟨(⟨false,[]⟩:Qf),[]⟩:Qc),(⟨(⟨false,[]⟩:Qf),[]⟩:Qc),(⟨(⟨false,[]⟩:Qf),[]⟩:Qc),(⟨(⟨false,[]⟩:Qf),[]⟩:Qc),(⟨(⟨false,[]⟩:Qf),[]⟩:Qc),0,0⟩:Kg),(⟨(⟨false,[]⟩:Qf),[]⟩:Qc),(⟨(⟨false,[]⟩:Qf),[]⟩:Qc),(⟨(⟨false,[]⟩:Qf),[]⟩:Qc),[]⟩:J1),(⟨[],(⟨(⟨false,[]⟩:Qf),[]⟩:Qc),[]⟩:Qs)⟩:Qa7)) [Ua,Ua,.int .i64 0,.int .i64 0,.string ⟨#[]⟩,Ua,Ua,Ua,Ua,Ua,.int .i64 0,.bool false,Ua,Ua,.bool false,Ua,Ua,.bool false,Ua,Ua,.bool false,Ua,Ua,.bool false,Ua,Ua,.int .i64 0,.int .i64 0,.bool false,Ua,Ua,.bool false,Ua,Ua,.bool false,Ua,Ua,Ua,Ua,.bool false,Ua,Ua,Ua]:=Vi (Qk (c1:=[Ua,Ua,.int .i64 0,.int .i64 0,.string ⟨#[]⟩,Ua,Ua,Ua,Ua,Ua,.int .i64 0,.bool false,Ua,Ua,.bool false,Ua,Ua,.bool false,Ua,Ua,.bool false,Ua,Ua,.bool false,Ua,Ua,.int .i64 0,.int .i64 0,.bool false,Ua,Ua,.bool false,Ua,Ua,.bool false,Ua,Ua,Ua]) Qmd (Qk (c1:=[Ua,.bool false,Ua,Ua,Ua]) Qbf (Kv)))
theorem Qj9:EqF Ub 2 109 (λx:Qv=>.agg [i64 x.What,i64 x.Try]) Wj:=
 Qzj Ad ox (Qja rfl rfl sh_3.h (λ_=>rfl) (λ_=>rfl) (Qls (λx:Qv=>x.What) (Qn0 (n:=0) Ux)) (Qja rfl rfl sh_3.h (λ_=>rfl) (λ_=>rfl) (Qls (λx:Qv=>x.Try) (Qn0 (n:=0) Ux)) (Q4t)))
theorem Qoy:Tryz.prog.eqGuardType Tryz.prog.depth 109=false:=ox
theorem Jiz:∃ fs F,Tryz.prog.underlying 247=some (.struct fs)/\fs[1]?=some F/\F.offset=1/\Shp Ub F.type false 1:=⟨_,_,Gw,rfl,rfl,sh_32.h⟩
instance:CZy Ub 330 (Q7v (⟨(⟨(⟨(⟨[],[],0,0⟩:Qr),(⟨[],[],[],[],[]⟩:Q2),[],0⟩:Qn),(⟨(⟨(⟨false,[]⟩:Qf),[]⟩:Qc),(⟨(⟨false,[]⟩:Qf),[]⟩:Qc),(⟨(⟨false,[]⟩:Qf),[]⟩:Qc),(⟨(⟨false,[]⟩:Qf),[]⟩:Qc),(⟨(⟨false,[]⟩:Qf),[]⟩:Qc),0,0⟩:Kg),(⟨(⟨false,[]⟩:Qf),[]⟩:Qc),(⟨(⟨false,[]⟩:Qf),[]⟩:Qc),(⟨(⟨false,[]⟩:Qf),[]⟩:Qc),[]⟩:J1),(⟨[],(⟨(⟨false,[]⟩:Qf),[]⟩:Qc),[]⟩:Qs),(⟨(⟨false,[]⟩:Qf),[]⟩:Qc)⟩:Qx0)):=⟨_,_,_,Jm7.h,Q54⟩
instance:CZy Ub 195 (Qbb (⟨(⟨(⟨(⟨[],[],0,0⟩:Qr),(⟨[],[],[],[],[]⟩:Q2),[],0⟩:Qn),(⟨(⟨(⟨false,[]⟩:Qf),[]⟩:Qc),(⟨(⟨false,[]⟩:Qf),[]⟩:Qc),(⟨(⟨false,[]⟩:Qf),[]⟩:Qc),(⟨(⟨false,[]⟩:Qf),[]⟩:Qc),(⟨(⟨false,[]⟩:Qf),[]⟩:Qc),0,0⟩:Kg),(⟨(⟨false,[]⟩:Qf),[]⟩:Qc),(⟨(⟨false,[]⟩:Qf),[]⟩:Qc),(⟨(⟨false,[]⟩:Qf),[]⟩:Qc),[]⟩:J1),(⟨[],(⟨(⟨false,[]⟩:Qf),[]⟩:Qc),[]⟩:Qs)⟩:Qa7)):=⟨_,_,_,Jb2.h,Qwb⟩
instance{x}:CIF (Qbb x):=⟨CIF.h⟩
end Go.Proofs.YtbdgngdpkdagoabGreatDoor
