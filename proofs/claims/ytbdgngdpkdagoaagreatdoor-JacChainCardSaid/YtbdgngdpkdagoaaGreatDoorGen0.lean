import Derived.Test.YtbdgngdpkdagoaaGreatDoorBld
import Derived.Test.YtbdgngdpkdagoaaGreatDoorLib
import Derived.Test.YtbdgngdpkdagoaaGreatDoorSE
import Derived.Test.YtbdgngdpkdagoaaGreatDoorSG
import Derived.Test.YtbdgngdpkdagoaaGreatDoorMod
set_option maxRecDepth 100000
set_option maxHeartbeats 4000000
namespace Go.Proofs.YtbdgngdpkdagoaaGreatDoor
open Go Go.RowKit Tryz
abbrev Ua:Value:=.slice none 0 0
noncomputable abbrev Ub:=Tryz.prog
abbrev Um:=underlying44
abbrev Uo:=underlying32
abbrev Up:=underlying45
abbrev Uq:=underlying26
abbrev Ur:=underlying159
abbrev Us:=underlying473
abbrev Ut:=underlying422
abbrev Uu:=underlying3
abbrev Uv:=underlying357
abbrev Uw:=underlying87
abbrev Ux:=underlying9
abbrev Uy:=underlying27
abbrev Uz:=underlying23
abbrev U0:=underlying355
abbrev U4:=underlying404
abbrev U5:=underlying113
abbrev U6:=underlying145
abbrev U7:=underlying51
abbrev U8:=underlying47
abbrev U9:=underlying59
abbrev Gd:=underlying190
abbrev Ge:=underlying29
abbrev Gf:=underlying96
abbrev Gg:=underlying43
abbrev Gh:=underlying49
abbrev Gi:=underlying108
abbrev Gj:=underlying132
abbrev Gk:=underlying138
abbrev Gl:=underlying127
abbrev Gm:=underlying151
abbrev Gn:=underlying238
abbrev Gp:=underlying139
abbrev Gq:=underlying41
abbrev Gr:=underlying38
abbrev Gs:=underlying31
abbrev Gt:=underlying25
abbrev Gu:=underlying180
abbrev Gv:=underlying34
abbrev Gw:=underlying57
abbrev Gx:=underlying334
abbrev Gy:=underlying426
abbrev Gz:=underlying142
abbrev G0:=underlying427
abbrev G1:=underlying446
abbrev G2:=underlying478
abbrev G3:=underlying297
abbrev G4:=underlying242
abbrev G5:=underlying245
abbrev G6:=underlying168
abbrev G7:=underlying340
abbrev G8:=underlying461
abbrev G9:=underlying36
abbrev Aa:=underlying314
abbrev Ab:=underlying53
abbrev Ac:=underlying55
abbrev Ad:=underlying79
abbrev Ae:=underlying65
abbrev Af:=underlying346
abbrev Ah:=underlying465
abbrev Ai:=underlying75
abbrev Aj:=underlying300
abbrev Ak:=underlying85
abbrev Al:=underlying382
abbrev Am:=underlying5
abbrev An:=underlying176
abbrev Ao:=underlying318
abbrev Ap:=underlying394
abbrev Aq:=underlying215
abbrev Ar:=underlying424
abbrev Au:=underlying475
theorem ownK:ownKnob Tryz.prog.godebug=none:=ox
theorem laidOutK:laidOutB Ub=true:=ox
abbrev Qds(xs:List Nat):Ly:=sli 1 (xs.map u32)
abbrev Qc(x:Qb):Ly:=.agg [bl x.Neg,Qds x.N,Qds x.D]
abbrev Jh(x:Jp):Ly:=.agg [i64 x.Op,i64 x.A,i64 x.B,Qc x.N]
abbrev Qee(xs:List Jp):Ly:=sli 6 (xs.map Jh)
abbrev Qwz(xs:List Int):Ly:=sli 1 (xs.map i64)
abbrev Je(x:Ja):Ly:=.agg [Qee x.Code,Qwz x.Az,i64 x.A0,i64 x.A3]
abbrev Qh(xs:List Qb):Ly:=sli 3 (xs.map Qc)
abbrev Ya(xs:List (List Qb)):Ly:=sli 1 (xs.map Qh)
abbrev Jv(x:Jt):Ly:=.agg [str x.Bb,Qh x.C,Ya x.A,Qh x.B,Qh x.E]
abbrev Q6(x:Qu):Ly:=.agg [Je x.Tape,Jv x.Av,Qh x.P,i64 x.Ay]
abbrev Jy(x:Qi):Ly:=.agg [bl x.Neg,Qds x.A6]
abbrev Qd(x:Qa):Ly:=.agg [Jy x.Num,Qds x.Den]
theorem Ke{a0_0_ a0_1_ a1_}:IF (.agg [.agg [bl a0_0_,sli 1 a0_1_],sli 1 a1_]):=Qlg (Y4 (Qlg (Y4 if_bl (Y4 Qa4 (Qhh)))) (Y4 Qa4 (Qhh)))
abbrev K2(x:Qv):Ly:=.agg [i64 x.Op,i64 x.A,i64 x.B,Qd x.N]
abbrev Jaj(xs:List Qv):Ly:=sli 6 (xs.map K2)
abbrev Jw(x:Qm):Ly:=.agg [Jaj x.Code,Qwz x.Az,i64 x.A0,i64 x.A3]
abbrev Qf(xs:List Qa):Ly:=sli 3 (xs.map Qd)
abbrev Qfo(xs:List (List Qa)):Ly:=sli 1 (xs.map Qf)
abbrev J8(x:Qw):Ly:=.agg [str x.Bb,Qf x.C,Qfo x.A,Qf x.B,Qf x.E]
abbrev Qrh(x:Qnb):Ly:=.agg [str x.a0,str x.a1,str x.a2,str x.a3,str x.a4,str x.a5]
abbrev Qr(x:Qe):Ly:=.agg [i64 x.Ax,i64 x.Ba,i64 x.A4,i64 x.At]
abbrev K8(x:Kt):Ly:=.agg [str x.rest,i64 x.at_,bl x.over]
abbrev Qyk(x:Qmh):Ly:=.agg [i64 x.Ax,str x.A7,i64 x.At]
abbrev Qp(x:Qg):Ly:=.agg [Jw x.Tape,J8 x.Av,Qf x.P,i64 x.Ay]
abbrev K9(x:Q9):Ly:=.agg [Qd x.T,Qd x.A1,Qd x.H,Qd x.A8,Qf x.Y,bl x.Ok]
abbrev Jbz(xs:List Q9):Ly:=sli 14 (xs.map K9)
abbrev Jr(x:Qt):Ly:=.agg [Jbz x.Aw,Qd x.T,Qf x.Y]
abbrev Qqv(x:Vx):Ly:=.agg [i64 x.op,i64 x.a,i64 x.b]
abbrev J2(x:Jk):Ly:=.agg [Qfo x.Ys,Qfo x.Ks,Qf x.Next,Qf x.A8]
abbrev Qr7(x:Qdc):Ly:=.agg [i64 x.Seen,i64 x.Peak]
abbrev Ql(x:Qk):Ly:=.agg [Qr7 x.Count,i64 x.limit]
theorem Ju{a0_0_ a0_1_ a1_}:IF (.agg [.agg [i64 a0_0_,i64 a0_1_],i64 a1_]):=Qlg (Y4 (Qlg (Y4 Vw (Y4 Vw (Qhh)))) (Y4 Vw (Qhh)))
abbrev Zu(x:V3):Ly:=.agg [Qd x.T,Qf x.Y,Qf x.P]
abbrev Qas(x:Qaj):Ly:=.agg [Qd x.T,Qf x.Y,Qf x.P]
abbrev Y7(x:Xg):Ly:=.agg [Qfo x.Y,Qfo x.P]
abbrev K6(x:J3):Ly:=.agg [Qf x.Y,Qf x.P]
abbrev Wu(x:Vq):Ly:=.agg [i64 x.A9,Qf x.A5,Qf x.Ts,Qfo x.Ys]
abbrev Jn(x:Qx):Ly:=.agg [i64 x.From,i64 x.To]
abbrev Q3z(xs:List Qx):Ly:=sli 2 (xs.map Jn)
abbrev Qla(x:Qgb):Ly:=.agg [Q3z x.l]
abbrev Qgs(x:V8):Ly:=.agg [Qd x.T,Qf x.Y,Qf x.P]
abbrev Jeq(x:Q24):Ly:=.agg [Jw x.t,Qf x.done,Qf x.co,Qgs x.grad]
abbrev Qb6(x:Kd):Ly:=.agg [Qf x.Next,Qf x.A8,J2 x.Made]
abbrev Jd(x:Q1):Ly:=.agg [Qd x.V,Qd x.D]
abbrev Qs6(x:Qoo):Ly:=.agg [u8 x.a0,u8 x.a1,u8 x.a2,u8 x.a3,u8 x.a4,u8 x.a5,u8 x.a6,u8 x.a7,u8 x.a8]
abbrev Wc(x:Jg):Ly:=.agg [Qc x.T,Qc x.A1,Qc x.H,Qc x.A8,Qh x.Y,bl x.Ok]
abbrev Qg0(x:Wj):Ly:=.agg [i64 x.Kept,i64 x.Again,i64 x.Most]
abbrev Qy(x:Qq):Ly:=.agg [i64 x.Ax,str x.A7,i64 x.At]
abbrev Ye(x:Js):Ly:=.agg [bl x.Neg,Qds x.A6]
abbrev Q4(x:Qj):Ly:=.agg [Qh x.Y,Qh x.P]
abbrev Qg1(x:Xx):Ly:=.agg [i64 x.a0,i64 x.a1,i64 x.a2,i64 x.a3]
abbrev Xf(x:Xp):Ly:=.agg [i64 x.A9,Qh x.A5,Qh x.Ts,Ya x.Ys]
abbrev Wm(x:J4):Ly:=.agg [Ya x.Ys,Ya x.Ks,Qh x.Next,Qh x.A8]
abbrev Ym(x:Jz):Ly:=.agg [i64 x.a0,i64 x.a1,i64 x.a2]
abbrev Zi(x:Xk):Ly:=.agg [Qc x.T,Qh x.Y,Qh x.P]
abbrev Vb(x:Jl):Ly:=.agg [Qc x.T,Qh x.Y,Qh x.P]
instance ti_38:CTy Ub 38 20 392 (.agg #[Ua,Ua,.int .i64 0,.int .i64 0,.string ⟨#[]⟩,Ua,Ua,Ua,Ua,Ua,.int .i64 0,.bool false,Ua,Ua,.bool false,Ua,Ua,Ua,Ua,Ua]):=⟨tyI ox⟩
instance sh_38:CSh Ub 38 true 20:=⟨shp Gr rfl ti_38.h⟩
instance ti_31:CTy Ub 31 11 208 (.agg #[Ua,Ua,.int .i64 0,.int .i64 0,.string ⟨#[]⟩,Ua,Ua,Ua,Ua,Ua,.int .i64 0]):=⟨tyI ox⟩
instance Jt9:CFd Ub 38 0 0:=⟨fdA Gr rfl rfl ti_31.h rfl⟩
instance sh_31:CSh Ub 31 true 11:=⟨shp Gs rfl ti_31.h⟩
instance ti_25:CTy Ub 25 4 64 (.agg #[Ua,Ua,.int .i64 0,.int .i64 0]):=⟨tyI ox⟩
instance Jua:CFd Ub 31 0 0:=⟨fdA Gs rfl rfl ti_25.h rfl⟩
instance sh_25:CSh Ub 25 true 4:=⟨shp Gt rfl ti_25.h⟩
instance ti_22:CTy Ub 22 1 24 (Ua):=⟨tyI ox⟩
instance Jub:CFd Ub 25 0 0:=⟨fdA Gt rfl rfl ti_22.h rfl⟩
instance:CUn Ub 22 (.slice 180):=⟨underlying22⟩
instance sh_22:CSh Ub 22 false 1:=⟨shp underlying22 rfl ti_22.h⟩
instance Jiq:CTy Ub 180 6 80 (.agg #[.int .i64 0,.int .i64 0,.int .i64 0,.bool false,Ua,Ua]):=⟨tyI ox⟩
instance ti_34:CTy Ub 34 3 56 (.agg #[.bool false,Ua,Ua]):=⟨tyI ox⟩
instance Jq7:CFd Ub 180 3 3:=⟨fdA Gu rfl rfl ti_34.h rfl⟩
instance sh_34:CSh Ub 34 true 3:=⟨shp Gv rfl ti_34.h⟩
instance ti_32:CTy Ub 32 1 24 (Ua):=⟨tyI ox⟩
instance Juc:CFd Ub 34 1 1:=⟨fdA Gv rfl rfl ti_32.h rfl⟩
instance:CUn Ub 32 (.slice 249):=⟨Uo⟩
instance sh_32:CSh Ub 32 false 1:=⟨shp Uo rfl ti_32.h⟩
instance Jud:CFd Ub 34 2 2:=⟨fdA Gv rfl rfl ti_32.h rfl⟩
instance ti_23:CTy Ub 23 1 24 (Ua):=⟨tyI ox⟩
instance Jue:CFd Ub 25 1 1:=⟨fdA Gt rfl rfl ti_23.h rfl⟩
instance:CUn Ub 23 (.slice 3):=⟨Uz⟩
instance sh_23:CSh Ub 23 false 1:=⟨shp Uz rfl ti_23.h⟩
instance ti_29:CTy Ub 29 5 112 (.agg #[.string ⟨#[]⟩,Ua,Ua,Ua,Ua]):=⟨tyI ox⟩
instance Juf:CFd Ub 31 1 4:=⟨fdA Gs rfl rfl ti_29.h rfl⟩
instance sh_29:CSh Ub 29 true 5:=⟨shp Ge rfl ti_29.h⟩
instance ti_9:CTy Ub 9 1 16 (.string ⟨#[]⟩):=⟨tyI ox⟩
instance Jug:CFd Ub 29 0 0:=⟨fdA Ge rfl rfl ti_9.h rfl⟩
instance:CUn Ub 9 (.string):=⟨Ux⟩
instance sh_9:CSh Ub 9 false 1:=⟨shp Ux rfl ti_9.h⟩
instance ti_27:CTy Ub 27 1 24 (Ua):=⟨tyI ox⟩
instance Juh:CFd Ub 29 2 2:=⟨fdA Ge rfl rfl ti_27.h rfl⟩
instance:CUn Ub 27 (.slice 26):=⟨Uy⟩
instance sh_27:CSh Ub 27 false 1:=⟨shp Uy rfl ti_27.h⟩
instance ti_26:CTy Ub 26 1 24 (Ua):=⟨tyI ox⟩
instance Jui:CFd Ub 29 3 3:=⟨fdA Ge rfl rfl ti_26.h rfl⟩
instance:CUn Ub 26 (.slice 34):=⟨Uq⟩
instance sh_26:CSh Ub 26 false 1:=⟨shp Uq rfl ti_26.h⟩
instance Juj:CFd Ub 29 1 1:=⟨fdA Ge rfl rfl ti_26.h rfl⟩
instance Juk:CFd Ub 29 4 4:=⟨fdA Ge rfl rfl ti_26.h rfl⟩
instance Jul:CFd Ub 31 2 9:=⟨fdA Gs rfl rfl ti_26.h rfl⟩
instance ti_36:CTy Ub 36 7 136 (.agg #[.bool false,Ua,Ua,.bool false,Ua,Ua,Ua]):=⟨tyI ox⟩
instance Jum:CFd Ub 38 1 11:=⟨fdA Gr rfl rfl ti_36.h rfl⟩
instance sh_36:CSh Ub 36 true 7:=⟨shp G9 rfl ti_36.h⟩
instance Jun:CFd Ub 36 0 0:=⟨fdA G9 rfl rfl ti_34.h rfl⟩
instance Juo:CFd Ub 36 1 3:=⟨fdA G9 rfl rfl ti_34.h rfl⟩
instance Jup:CFd Ub 36 2 6:=⟨fdA G9 rfl rfl ti_26.h rfl⟩
instance Juq:CFd Ub 38 2 18:=⟨fdA Gr rfl rfl ti_26.h rfl⟩
instance Jur:CFd Ub 38 3 19:=⟨fdA Gr rfl rfl ti_26.h rfl⟩
instance ti_96:CTy Ub 96 6 80 (.agg #[.int .i64 0,.int .i64 0,.int .i64 0,.bool false,Ua,Ua]):=⟨tyI ox⟩
instance pl_96:CPl Ub 96 [(0,1),(1,1),(2,1),(3,3)]:=⟨⟨_,Gf,ox⟩⟩
theorem Zm:Zr (Jy (⟨false,[]⟩:Qi)) [.bool false,Ua]:=K4 (Qn (c1:=[.bool false]) zr_bl (Qn (c1:=[Ua]) (J6 (k:=1)) (Kl)))
theorem K3:Zr (Qd (⟨(⟨false,[]⟩:Qi),[]⟩:Qa)) [.bool false,Ua,Ua]:=K4 (Qn (c1:=[.bool false,Ua]) Zm (Qn (c1:=[Ua]) (J6 (k:=1)) (Kl)))
theorem Qjm:Zr (K2 (⟨0,0,0,(⟨(⟨false,[]⟩:Qi),[]⟩:Qa)⟩:Qv)) [.int .i64 0,.int .i64 0,.int .i64 0,.bool false,Ua,Ua]:=K4 (Qn (c1:=[.int .i64 0]) Wi (Qn (c1:=[.int .i64 0]) Wi (Qn (c1:=[.int .i64 0]) Wi (Qn (c1:=[.bool false,Ua,Ua]) K3 (Kl)))))
instance:CUn Ub 41 (.slice 96):=⟨Gq⟩
instance ti_3:CTy Ub 3 1 8 (.int .i64 0):=⟨tyI ox⟩
instance ti_43:CTy Ub 43 4 64 (.agg #[Ua,Ua,.int .i64 0,.int .i64 0]):=⟨tyI ox⟩
instance pl_43:CPl Ub 43 [(0,1),(1,1),(2,1),(3,1)]:=⟨⟨_,Gg,ox⟩⟩
theorem Ql2:Zr (Jw (⟨[],[],0,0⟩:Qm)) [Ua,Ua,.int .i64 0,.int .i64 0]:=K4 (Qn (c1:=[Ua]) (J6 (k:=6)) (Qn (c1:=[Ua]) (J6 (k:=1)) (Qn (c1:=[.int .i64 0]) Wi (Qn (c1:=[.int .i64 0]) Wi (Kl)))))
instance:CZy Ub 43 (Jw (⟨[],[],0,0⟩:Qm)):=⟨_,_,_,ti_43.h,Ql2⟩
instance sh_43:CSh Ub 43 true 4:=⟨shp Gg rfl ti_43.h⟩
instance ti_47:CTy Ub 47 5 112 (.agg #[.string ⟨#[]⟩,Ua,Ua,Ua,Ua]):=⟨tyI ox⟩
theorem Qdk:Zr (J8 (⟨[],[],[],[],[]⟩:Qw)) [.string ⟨#[]⟩,Ua,Ua,Ua,Ua]:=K4 (Qn (c1:=[.string ⟨#[]⟩]) Qli (Qn (c1:=[Ua]) (J6 (k:=3)) (Qn (c1:=[Ua]) (J6 (k:=1)) (Qn (c1:=[Ua]) (J6 (k:=3)) (Qn (c1:=[Ua]) (J6 (k:=3)) (Kl))))))
instance:CZy Ub 47 (J8 (⟨[],[],[],[],[]⟩:Qw)):=⟨_,_,_,ti_47.h,Qdk⟩
instance Jb0:CTy Ub 168 6 96 (.agg #[.string ⟨#[]⟩,.string ⟨#[]⟩,.string ⟨#[]⟩,.string ⟨#[]⟩,.string ⟨#[]⟩,.string ⟨#[]⟩]):=⟨tyI ox⟩
theorem Q0l:Zr (Qrh (⟨[],[],[],[],[],[]⟩:Qnb)) [.string ⟨#[]⟩,.string ⟨#[]⟩,.string ⟨#[]⟩,.string ⟨#[]⟩,.string ⟨#[]⟩,.string ⟨#[]⟩]:=K4 (Qn (c1:=[.string ⟨#[]⟩]) Qli (Qn (c1:=[.string ⟨#[]⟩]) Qli (Qn (c1:=[.string ⟨#[]⟩]) Qli (Qn (c1:=[.string ⟨#[]⟩]) Qli (Qn (c1:=[.string ⟨#[]⟩]) Qli (Qn (c1:=[.string ⟨#[]⟩]) Qli (Kl)))))))
instance:CZy Ub 168 (Qrh (⟨[],[],[],[],[],[]⟩:Qnb)):=⟨_,_,_,Jb0.h,Q0l⟩
instance:CUn Ub 168 (.array 6 9):=⟨G6⟩
instance Jvx:CSh Ub 168 true 6:=⟨shp G6 rfl Jb0.h⟩
instance ti_59:CTy Ub 59 4 32 (.agg #[.int .i64 0,.int .i64 0,.int .i64 0,.int .i64 0]):=⟨tyI ox⟩
theorem Qo:Zr (Qr (⟨0,0,0,0⟩:Qe)) [.int .i64 0,.int .i64 0,.int .i64 0,.int .i64 0]:=K4 (Qn (c1:=[.int .i64 0]) Wi (Qn (c1:=[.int .i64 0]) Wi (Qn (c1:=[.int .i64 0]) Wi (Qn (c1:=[.int .i64 0]) Wi (Kl)))))
instance:CZy Ub 59 (Qr (⟨0,0,0,0⟩:Qe)):=⟨_,_,_,ti_59.h,Qo⟩
instance pl_47:CPl Ub 47 [(0,1),(1,1),(2,1),(3,1),(4,1)]:=⟨⟨_,U8,ox⟩⟩
instance pl_59:CPl Ub 59 [(0,1),(1,1),(2,1),(3,1)]:=⟨⟨_,U9,ox⟩⟩
instance sh_47:CSh Ub 47 true 5:=⟨shp U8 rfl ti_47.h⟩
instance sh_59:CSh Ub 59 true 4:=⟨shp U9 rfl ti_59.h⟩
instance Jpj:CTy Ub 314 3 32 (.agg #[.string ⟨#[]⟩,.int .i64 0,.bool false]):=⟨tyI ox⟩
instance Jpk:CPl Ub 314 [(0,1),(1,1),(2,1)]:=⟨⟨_,Aa,ox⟩⟩
theorem Q30:Zr (K8 (⟨[],0,false⟩:Kt)) [.string ⟨#[]⟩,.int .i64 0,.bool false]:=K4 (Qn (c1:=[.string ⟨#[]⟩]) Qli (Qn (c1:=[.int .i64 0]) Wi (Qn (c1:=[.bool false]) zr_bl (Kl))))
instance ti_4:CTy Ub 4 1 1 (.bool false):=⟨tyI ox⟩
instance Jq8:CFd Ub 314 2 2:=⟨fdA Aa rfl rfl ti_4.h rfl⟩
instance:CUn Ub 4 (.bool):=⟨underlying4⟩
instance sh_4:CSh Ub 4 false 1:=⟨shp underlying4 rfl ti_4.h⟩
instance Jq9:CFd Ub 314 1 1:=⟨fdA Aa rfl rfl ti_3.h rfl⟩
instance:CUn Ub 3 (.int .i64):=⟨Uu⟩
instance sh_3:CSh Ub 3 false 1:=⟨shp Uu rfl ti_3.h⟩
theorem fol:Tryz.prog.follows .mixedOrders=true:=ox
instance Jra:CFd Ub 314 0 0:=⟨fdA Aa rfl rfl ti_9.h rfl⟩
instance Jus:CFd Ub 47 0 0:=⟨fdA U8 rfl rfl ti_9.h rfl⟩
instance Jir:CTy Ub 318 3 32 (.agg #[.int .i64 0,.string ⟨#[]⟩,.int .i64 0]):=⟨tyI ox⟩
instance Jis:CPl Ub 318 [(0,1),(1,1),(2,1)]:=⟨⟨_,Ao,ox⟩⟩
theorem Q25:Zr (Qyk (⟨0,[],0⟩:Qmh)) [.int .i64 0,.string ⟨#[]⟩,.int .i64 0]:=K4 (Qn (c1:=[.int .i64 0]) Wi (Qn (c1:=[.string ⟨#[]⟩]) Qli (Qn (c1:=[.int .i64 0]) Wi (Kl))))
instance Jrb:CFd Ub 318 1 1:=⟨fdA Ao rfl rfl ti_9.h rfl⟩
instance Jrc:CFd Ub 318 0 0:=⟨fdA Ao rfl rfl ti_3.h rfl⟩
instance:CUn Ub 21 (.int .i32):=⟨underlying21⟩
instance:CUn Ub 5 (.int .u8):=⟨Am⟩
instance ti_55:CTy Ub 55 3 56 (.agg #[.bool false,Ua,Ua]):=⟨tyI ox⟩
instance:CZy Ub 55 (Qd (⟨(⟨false,[]⟩:Qi),[]⟩:Qa)):=⟨_,_,_,ti_55.h,K3⟩
instance ti_53:CTy Ub 53 2 32 (.agg #[.bool false,Ua]):=⟨tyI ox⟩
instance:CZy Ub 53 (Jy (⟨false,[]⟩:Qi)):=⟨_,_,_,ti_53.h,Zm⟩
instance:CUn Ub 249 (.int .u32):=⟨underlying249⟩
instance W8:CTy Ub 249 1 4 (.int .u32 0):=⟨tyI ox⟩
instance Jvy:CSh Ub 249 false 1:=⟨shp underlying249 rfl W8.h⟩
instance:CUn Ub 175 (.int .u64):=⟨underlying175⟩
theorem Kb:EqF Ub 2 59 (λx:Qe=>.agg [i64 x.Ax,i64 x.Ba,i64 x.A4,i64 x.At]) Qs:=
 Qsr U9 ox (Qen rfl rfl sh_3.h (λ_=>rfl) (λ_=>rfl) (Qft (λx:Qe=>x.Ax) (Qhi (n:=0) Uu)) (Qen rfl rfl sh_3.h (λ_=>rfl) (λ_=>rfl) (Qft (λx:Qe=>x.Ba) (Qhi (n:=0) Uu)) (Qen rfl rfl sh_3.h (λ_=>rfl) (λ_=>rfl) (Qft (λx:Qe=>x.A4) (Qhi (n:=0) Uu)) (Qen rfl rfl sh_3.h (λ_=>rfl) (λ_=>rfl) (Qft (λx:Qe=>x.At) (Qhi (n:=0) Uu)) (Qyd)))))
theorem eg_59:Tryz.prog.eqGuardType Tryz.prog.depth 59=false:=ox
instance Jut:CFd Ub 59 3 3:=⟨fdA U9 rfl rfl ti_3.h rfl⟩
instance pl_53:CPl Ub 53 [(0,1),(1,1)]:=⟨⟨_,Ab,ox⟩⟩
instance sh_53:CSh Ub 53 true 2:=⟨shp Ab rfl ti_53.h⟩
instance pl_55:CPl Ub 55 [(0,2),(2,1)]:=⟨⟨_,Ac,ox⟩⟩
instance sh_55:CSh Ub 55 true 3:=⟨shp Ac rfl ti_55.h⟩
instance Juu:CFd Ub 53 1 1:=⟨fdA Ab rfl rfl ti_32.h rfl⟩
instance Juv:CFd Ub 53 0 0:=⟨fdA Ab rfl rfl ti_4.h rfl⟩
instance:CUn Ub 340 (.slice 32):=⟨G7⟩
instance:CUn Ub 176 (.slice 9):=⟨An⟩
instance:CUn Ub 44 (.slice 55):=⟨Um⟩
instance ti_44:CTy Ub 44 1 24 (Ua):=⟨tyI ox⟩
instance Juw:CFd Ub 47 1 1:=⟨fdA U8 rfl rfl ti_44.h rfl⟩
instance sh_44:CSh Ub 44 false 1:=⟨shp Um rfl ti_44.h⟩
instance ti_45:CTy Ub 45 1 24 (Ua):=⟨tyI ox⟩
instance Jux:CFd Ub 47 2 2:=⟨fdA U8 rfl rfl ti_45.h rfl⟩
instance:CUn Ub 45 (.slice 44):=⟨Up⟩
instance sh_45:CSh Ub 45 false 1:=⟨shp Up rfl ti_45.h⟩
instance Juy:CFd Ub 47 3 3:=⟨fdA U8 rfl rfl ti_44.h rfl⟩
instance Juz:CFd Ub 47 4 4:=⟨fdA U8 rfl rfl ti_44.h rfl⟩
instance Ju0:CFd Ub 55 1 2:=⟨fdA Ac rfl rfl ti_32.h rfl⟩
instance Ju1:CFd Ub 55 0 0:=⟨fdA Ac rfl rfl ti_53.h rfl⟩
instance ti_49:CTy Ub 49 11 208 (.agg #[Ua,Ua,.int .i64 0,.int .i64 0,.string ⟨#[]⟩,Ua,Ua,Ua,Ua,Ua,.int .i64 0]):=⟨tyI ox⟩
instance pl_49:CPl Ub 49 [(0,4),(4,5),(9,1),(10,1)]:=⟨⟨_,Gh,ox⟩⟩
theorem Qcw:Zr (Qp (⟨(⟨[],[],0,0⟩:Qm),(⟨[],[],[],[],[]⟩:Qw),[],0⟩:Qg)) [Ua,Ua,.int .i64 0,.int .i64 0,.string ⟨#[]⟩,Ua,Ua,Ua,Ua,Ua,.int .i64 0]:=K4 (Qn (c1:=[Ua,Ua,.int .i64 0,.int .i64 0]) Ql2 (Qn (c1:=[.string ⟨#[]⟩,Ua,Ua,Ua,Ua]) Qdk (Qn (c1:=[Ua]) (J6 (k:=3)) (Qn (c1:=[.int .i64 0]) Wi (Kl)))))
instance:CZy Ub 49 (Qp (⟨(⟨[],[],0,0⟩:Qm),(⟨[],[],[],[],[]⟩:Qw),[],0⟩:Qg)):=⟨_,_,_,ti_49.h,Qcw⟩
instance sh_49:CSh Ub 49 true 11:=⟨shp Gh rfl ti_49.h⟩
instance ti_57:CTy Ub 57 5 104 (.agg #[Ua,.bool false,Ua,Ua,Ua]):=⟨tyI ox⟩
theorem Qpo:Zr (Jr (⟨[],(⟨(⟨false,[]⟩:Qi),[]⟩:Qa),[]⟩:Qt)) [Ua,.bool false,Ua,Ua,Ua]:=K4 (Qn (c1:=[Ua]) (J6 (k:=14)) (Qn (c1:=[.bool false,Ua,Ua]) K3 (Qn (c1:=[Ua]) (J6 (k:=3)) (Kl))))
instance:CZy Ub 57 (Jr (⟨[],(⟨(⟨false,[]⟩:Qi),[]⟩:Qa),[]⟩:Qt)):=⟨_,_,_,ti_57.h,Qpo⟩
instance Ju2:CFd Ub 49 0 0:=⟨fdA Gh rfl rfl ti_43.h rfl⟩
instance Ju3:CFd Ub 43 2 2:=⟨fdA Gg rfl rfl ti_3.h rfl⟩
instance Ju4:CFd Ub 43 3 3:=⟨fdA Gg rfl rfl ti_3.h rfl⟩
instance Ju5:CFd Ub 43 1 1:=⟨fdA Gg rfl rfl ti_23.h rfl⟩
instance ti_41:CTy Ub 41 1 24 (Ua):=⟨tyI ox⟩
instance Ju6:CFd Ub 43 0 0:=⟨fdA Gg rfl rfl ti_41.h rfl⟩
instance sh_41:CSh Ub 41 false 1:=⟨shp Gq rfl ti_41.h⟩
instance sh_96:CSh Ub 96 true 6:=⟨shp Gf rfl ti_96.h⟩
instance:CZy Ub 96 (K2 (⟨0,0,0,(⟨(⟨false,[]⟩:Qi),[]⟩:Qa)⟩:Qv)):=⟨_,_,_,ti_96.h,Qjm⟩
instance Ju7:CFd Ub 96 0 0:=⟨fdA Gf rfl rfl ti_3.h rfl⟩
instance Q0m:CTy Ub 394 3 24 (.agg #[.int .i64 0,.int .i64 0,.int .i64 0]):=⟨tyI ox⟩
theorem Qlb:Zr (Qqv (⟨0,0,0⟩:Vx)) [.int .i64 0,.int .i64 0,.int .i64 0]:=K4 (Qn (c1:=[.int .i64 0]) Wi (Qn (c1:=[.int .i64 0]) Wi (Qn (c1:=[.int .i64 0]) Wi (Kl))))
instance:CZy Ub 394 (Qqv (⟨0,0,0⟩:Vx)):=⟨_,_,_,Q0m.h,Qlb⟩
instance Ju8:CFd Ub 96 1 1:=⟨fdA Gf rfl rfl ti_3.h rfl⟩
instance Ju9:CFd Ub 96 2 2:=⟨fdA Gf rfl rfl ti_3.h rfl⟩
instance Jb1:CPl Ub 394 [(0,1),(1,1),(2,1)]:=⟨⟨_,Ap,ox⟩⟩
instance Jvz:CSh Ub 394 true 3:=⟨shp Ap rfl Q0m.h⟩
theorem Jb2:EqF Ub 2 394 (λx:Vx=>.agg [i64 x.op,i64 x.a,i64 x.b]) Qez:=
 Qsr Ap ox (Qen rfl rfl sh_3.h (λ_=>rfl) (λ_=>rfl) (Qft (λx:Vx=>x.op) (Qhi (n:=0) Uu)) (Qen rfl rfl sh_3.h (λ_=>rfl) (λ_=>rfl) (Qft (λx:Vx=>x.a) (Qhi (n:=0) Uu)) (Qen rfl rfl sh_3.h (λ_=>rfl) (λ_=>rfl) (Qft (λx:Vx=>x.b) (Qhi (n:=0) Uu)) (Qyd))))
theorem Jit:Tryz.prog.eqGuardType Tryz.prog.depth 394=false:=ox
instance Jva:CFd Ub 96 3 3:=⟨fdA Gf rfl rfl ti_55.h rfl⟩
instance Jvb:CFd Ub 49 1 4:=⟨fdA Gh rfl rfl ti_47.h rfl⟩
instance Jvc:CFd Ub 49 2 9:=⟨fdA Gh rfl rfl ti_44.h rfl⟩
instance pl_57:CPl Ub 57 [(0,1),(1,3),(4,1)]:=⟨⟨_,Gw,ox⟩⟩
instance sh_57:CSh Ub 57 true 5:=⟨shp Gw rfl ti_57.h⟩
instance Jvd:CFd Ub 57 1 1:=⟨fdA Gw rfl rfl ti_55.h rfl⟩
instance Jve:CFd Ub 57 2 4:=⟨fdA Gw rfl rfl ti_44.h rfl⟩
instance Qtq:CTy Ub 108 4 96 (.agg #[Ua,Ua,Ua,Ua]):=⟨tyI ox⟩
theorem Qjn:Zr (J2 (⟨[],[],[],[]⟩:Jk)) [Ua,Ua,Ua,Ua]:=K4 (Qn (c1:=[Ua]) (J6 (k:=1)) (Qn (c1:=[Ua]) (J6 (k:=1)) (Qn (c1:=[Ua]) (J6 (k:=3)) (Qn (c1:=[Ua]) (J6 (k:=3)) (Kl)))))
instance:CZy Ub 108 (J2 (⟨[],[],[],[]⟩:Jk)):=⟨_,_,_,Qtq.h,Qjn⟩
instance Jiu:CPl Ub 108 [(0,1),(1,1),(2,1),(3,1)]:=⟨⟨_,Gi,ox⟩⟩
instance Jv0:CSh Ub 108 true 4:=⟨shp Gi rfl Qtq.h⟩
instance Jvf:CFd Ub 49 3 10:=⟨fdA Gh rfl rfl ti_3.h rfl⟩
instance Jpl:CTy Ub 215 3 24 (.agg #[.int .i64 0,.int .i64 0,.int .i64 0]):=⟨tyI ox⟩
instance Jpm:CPl Ub 215 [(0,2),(2,1)]:=⟨⟨_,Aq,ox⟩⟩
theorem Q7g:Zr (Qr7 (⟨0,0⟩:Qdc)) [.int .i64 0,.int .i64 0]:=K4 (Qn (c1:=[.int .i64 0]) Wi (Qn (c1:=[.int .i64 0]) Wi (Kl)))
theorem Q7h:Zr (Ql (⟨(⟨0,0⟩:Qdc),0⟩:Qk)) [.int .i64 0,.int .i64 0,.int .i64 0]:=K4 (Qn (c1:=[.int .i64 0,.int .i64 0]) Q7g (Qn (c1:=[.int .i64 0]) Wi (Kl)))
instance Jpn:CTy Ub 190 23 448 (.agg #[Ua,Ua,.int .i64 0,.int .i64 0,.string ⟨#[]⟩,Ua,Ua,Ua,Ua,Ua,.int .i64 0,.bool false,Ua,Ua,.bool false,Ua,Ua,Ua,.pointer none,Ua,Ua,Ua,Ua]):=⟨tyI ox⟩
instance Jpo:CPl Ub 190 [(0,11),(11,3),(14,3),(17,1),(18,1),(19,4)]:=⟨⟨_,Gd,ox⟩⟩
instance Jrd:CFd Ub 190 0 0:=⟨fdA Gd rfl rfl ti_49.h rfl⟩
instance Jre:CFd Ub 190 3 17:=⟨fdA Gd rfl rfl ti_44.h rfl⟩
instance Jrf:CFd Ub 190 5 19:=⟨fdA Gd rfl rfl Qtq.h rfl⟩
instance Jrg:CFd Ub 108 1 1:=⟨fdA Gi rfl rfl ti_45.h rfl⟩
instance Jrh:CFd Ub 190 2 14:=⟨fdA Gd rfl rfl ti_55.h rfl⟩
instance Qtr:CTy Ub 135 1 8 (.pointer none):=⟨tyI ox⟩
instance Jri:CFd Ub 190 4 18:=⟨fdA Gd rfl rfl Qtr.h rfl⟩
instance Jv1:CSh Ub 135 false 1:=⟨shp underlying135 rfl Qtr.h⟩
instance Jpp:CTy Ub 213 2 16 (.agg #[.int .i64 0,.int .i64 0]):=⟨tyI ox⟩
instance Jrj:CFd Ub 215 0 0:=⟨fdA Aq rfl rfl Jpp.h rfl⟩
instance Jrk:CFd Ub 213 0 0:=⟨fdA underlying213 rfl rfl ti_3.h rfl⟩
instance Jrl:CFd Ub 213 1 1:=⟨fdA underlying213 rfl rfl ti_3.h rfl⟩
instance Jrm:CFd Ub 215 1 2:=⟨fdA Aq rfl rfl ti_3.h rfl⟩
instance Jrn:CFd Ub 190 1 11:=⟨fdA Gd rfl rfl ti_55.h rfl⟩
instance Qts:CTy Ub 334 5 104 (.agg #[.bool false,Ua,Ua,Ua,Ua]):=⟨tyI ox⟩
theorem Qhj:Zr (Zu (⟨(⟨(⟨false,[]⟩:Qi),[]⟩:Qa),[],[]⟩:V3)) [.bool false,Ua,Ua,Ua,Ua]:=K4 (Qn (c1:=[.bool false,Ua,Ua]) K3 (Qn (c1:=[Ua]) (J6 (k:=3)) (Qn (c1:=[Ua]) (J6 (k:=3)) (Kl))))
instance:CZy Ub 334 (Zu (⟨(⟨(⟨false,[]⟩:Qi),[]⟩:Qa),[],[]⟩:V3)):=⟨_,_,_,Qts.h,Qhj⟩
instance Q0n:CPl Ub 334 [(0,3),(3,1),(4,1)]:=⟨⟨_,Gx,ox⟩⟩
instance Jv2:CSh Ub 334 true 5:=⟨shp Gx rfl Qts.h⟩
instance Jro:CFd Ub 334 0 0:=⟨fdA Gx rfl rfl ti_55.h rfl⟩
instance Jrp:CFd Ub 334 1 3:=⟨fdA Gx rfl rfl ti_44.h rfl⟩
instance Jrq:CFd Ub 334 2 4:=⟨fdA Gx rfl rfl ti_44.h rfl⟩
instance Jb3:CTy Ub 422 1 8 (.agg #[.pointer none]):=⟨tyI ox⟩
instance Jpq:CPl Ub 422 [(0,1)]:=⟨⟨_,Ut,ox⟩⟩
instance Jb4:CTy Ub 424 1 8 (.agg #[.pointer none]):=⟨tyI ox⟩
instance Jpr:CPl Ub 424 [(0,1)]:=⟨⟨_,Ar,ox⟩⟩
instance Jv3:CSh Ub 424 true 1:=⟨shp Ar rfl Jb4.h⟩
instance Jiv:CTy Ub 426 5 104 (.agg #[.bool false,Ua,Ua,Ua,Ua]):=⟨tyI ox⟩
instance Jps:CPl Ub 426 [(0,3),(3,1),(4,1)]:=⟨⟨_,Gy,ox⟩⟩
theorem Qtt:Zr (Qas (⟨(⟨(⟨false,[]⟩:Qi),[]⟩:Qa),[],[]⟩:Qaj)) [.bool false,Ua,Ua,Ua,Ua]:=K4 (Qn (c1:=[.bool false,Ua,Ua]) K3 (Qn (c1:=[Ua]) (J6 (k:=3)) (Qn (c1:=[Ua]) (J6 (k:=3)) (Kl))))
instance Jrr:CFd Ub 426 1 3:=⟨fdA Gy rfl rfl ti_44.h rfl⟩
instance Jrs:CFd Ub 426 2 4:=⟨fdA Gy rfl rfl ti_44.h rfl⟩
instance Jv4:CSh Ub 426 true 5:=⟨shp Gy rfl Jiv.h⟩
instance Jrt:CFd Ub 424 0 0:=⟨fdA Ar rfl rfl Jb3.h rfl⟩
instance Qrp:CSh Ub 422 true 1:=⟨shp Ut rfl Jb3.h⟩
theorem Jgu:MethF Ub 422 "Neg" 389:=⟨ox,_,Ut⟩
theorem Jgv:MethF Ub 422 "Pow" 391:=⟨ox,_,Ut⟩
theorem Jgw:MethF Ub 422 "Add" 386:=⟨ox,_,Ut⟩
theorem Jgx:MethF Ub 422 "Sub" 393:=⟨ox,_,Ut⟩
theorem Jgy:MethF Ub 422 "Mul" 388:=⟨ox,_,Ut⟩
theorem Jgz:MethF Ub 422 "Quo" 392:=⟨ox,_,Ut⟩
theorem Jiw:MethF Ub 422 "Of" 390:=⟨ox,_,Ut⟩
instance Jru:CFd Ub 426 0 0:=⟨fdA Gy rfl rfl ti_55.h rfl⟩
theorem Jer:MethF Ub 422 "Fits" 387:=⟨ox,_,Ut⟩
instance Jrv:CFd Ub 422 0 0:=⟨fdA Ut rfl rfl Qtr.h rfl⟩
instance Jvg:CFd Ub 59 2 2:=⟨fdA U9 rfl rfl ti_3.h rfl⟩
instance Jrw:CFd Ub 108 0 0:=⟨fdA Gi rfl rfl ti_45.h rfl⟩
instance Jrx:CFd Ub 108 2 2:=⟨fdA Gi rfl rfl ti_44.h rfl⟩
instance Jry:CFd Ub 108 3 3:=⟨fdA Gi rfl rfl ti_44.h rfl⟩
instance Jvh:CFd Ub 59 1 1:=⟨fdA U9 rfl rfl ti_3.h rfl⟩
instance ti_51:CTy Ub 51 1 24 (Ua):=⟨tyI ox⟩
instance Jvi:CFd Ub 57 0 0:=⟨fdA Gw rfl rfl ti_51.h rfl⟩
instance:CUn Ub 51 (.slice 113):=⟨U7⟩
instance sh_51:CSh Ub 51 false 1:=⟨shp U7 rfl ti_51.h⟩
instance Qnm:CTy Ub 113 14 256 (.agg #[.bool false,Ua,Ua,.bool false,Ua,Ua,.bool false,Ua,Ua,.bool false,Ua,Ua,Ua,.bool false]):=⟨tyI ox⟩
instance Jb5:CPl Ub 113 [(0,3),(3,3),(6,3),(9,3),(12,1),(13,1)]:=⟨⟨_,U5,ox⟩⟩
theorem Qri:Zr (K9 (⟨(⟨(⟨false,[]⟩:Qi),[]⟩:Qa),(⟨(⟨false,[]⟩:Qi),[]⟩:Qa),(⟨(⟨false,[]⟩:Qi),[]⟩:Qa),(⟨(⟨false,[]⟩:Qi),[]⟩:Qa),[],false⟩:Q9)) [.bool false,Ua,Ua,.bool false,Ua,Ua,.bool false,Ua,Ua,.bool false,Ua,Ua,Ua,.bool false]:=K4 (Qn (c1:=[.bool false,Ua,Ua]) K3 (Qn (c1:=[.bool false,Ua,Ua]) K3 (Qn (c1:=[.bool false,Ua,Ua]) K3 (Qn (c1:=[.bool false,Ua,Ua]) K3 (Qn (c1:=[Ua]) (J6 (k:=3)) (Qn (c1:=[.bool false]) zr_bl (Kl)))))))
instance ti_65:CTy Ub 65 2 48 (.agg #[Ua,Ua]):=⟨tyI ox⟩
theorem Qk3:Zr (Y7 (⟨[],[]⟩:Xg)) [Ua,Ua]:=K4 (Qn (c1:=[Ua]) (J6 (k:=1)) (Qn (c1:=[Ua]) (J6 (k:=1)) (Kl)))
instance:CZy Ub 65 (Y7 (⟨[],[]⟩:Xg)):=⟨_,_,_,ti_65.h,Qk3⟩
instance ti_79:CTy Ub 79 2 48 (.agg #[Ua,Ua]):=⟨tyI ox⟩
theorem Zv:Zr (K6 (⟨[],[]⟩:J3)) [Ua,Ua]:=K4 (Qn (c1:=[Ua]) (J6 (k:=3)) (Qn (c1:=[Ua]) (J6 (k:=3)) (Kl)))
instance:CZy Ub 79 (K6 (⟨[],[]⟩:J3)):=⟨_,_,_,ti_79.h,Zv⟩
instance Jv5:CSh Ub 113 true 14:=⟨shp U5 rfl Qnm.h⟩
instance:CZy Ub 113 (K9 (⟨(⟨(⟨false,[]⟩:Qi),[]⟩:Qa),(⟨(⟨false,[]⟩:Qi),[]⟩:Qa),(⟨(⟨false,[]⟩:Qi),[]⟩:Qa),(⟨(⟨false,[]⟩:Qi),[]⟩:Qa),[],false⟩:Q9)):=⟨_,_,_,Qnm.h,Qri⟩
instance Jrz:CFd Ub 113 0 0:=⟨fdA U5 rfl rfl ti_55.h rfl⟩
instance Jr0:CFd Ub 113 1 3:=⟨fdA U5 rfl rfl ti_55.h rfl⟩
instance Jr1:CFd Ub 113 2 6:=⟨fdA U5 rfl rfl ti_55.h rfl⟩
instance Jr2:CFd Ub 113 3 9:=⟨fdA U5 rfl rfl ti_55.h rfl⟩
instance Jr3:CFd Ub 113 4 12:=⟨fdA U5 rfl rfl ti_44.h rfl⟩
instance Jr4:CFd Ub 113 5 13:=⟨fdA U5 rfl rfl ti_4.h rfl⟩
instance pl_79:CPl Ub 79 [(0,1),(1,1)]:=⟨⟨_,Ad,ox⟩⟩
instance sh_79:CSh Ub 79 true 2:=⟨shp Ad rfl ti_79.h⟩
instance Q5d:CTy Ub 132 4 80 (.agg #[.int .i64 0,Ua,Ua,Ua]):=⟨tyI ox⟩
theorem Q0o:Zr (Wu (⟨0,[],[],[]⟩:Vq)) [.int .i64 0,Ua,Ua,Ua]:=K4 (Qn (c1:=[.int .i64 0]) Wi (Qn (c1:=[Ua]) (J6 (k:=3)) (Qn (c1:=[Ua]) (J6 (k:=3)) (Qn (c1:=[Ua]) (J6 (k:=1)) (Kl)))))
instance:CZy Ub 132 (Wu (⟨0,[],[],[]⟩:Vq)):=⟨_,_,_,Q5d.h,Q0o⟩
instance Jpt:CPl Ub 132 [(0,1),(1,1),(2,1),(3,1)]:=⟨⟨_,Gj,ox⟩⟩
instance Jv6:CSh Ub 132 true 4:=⟨shp Gj rfl Q5d.h⟩
instance Jr5:CFd Ub 132 1 1:=⟨fdA Gj rfl rfl ti_44.h rfl⟩
instance Jr6:CFd Ub 132 2 2:=⟨fdA Gj rfl rfl ti_44.h rfl⟩
instance Jr7:CFd Ub 132 3 3:=⟨fdA Gj rfl rfl ti_45.h rfl⟩
instance Jpu:CTy Ub 138 18 344 (.agg #[Ua,Ua,.int .i64 0,.int .i64 0,.string ⟨#[]⟩,Ua,Ua,Ua,Ua,Ua,.int .i64 0,.int .i64 0,Ua,Ua,Ua,Ua,Ua,.pointer none]):=⟨tyI ox⟩
instance Jpv:CPl Ub 138 [(0,11),(11,4),(15,1),(16,1),(17,1)]:=⟨⟨_,Gk,ox⟩⟩
instance Jr8:CFd Ub 138 1 11:=⟨fdA Gk rfl rfl Q5d.h rfl⟩
instance Jix:CTy Ub 217 1 24 (.agg #[Ua]):=⟨tyI ox⟩
theorem Qr8:Zr (Qla (⟨[]⟩:Qgb)) [Ua]:=K4 (Qn (c1:=[Ua]) (J6 (k:=2)) (Kl))
instance:CZy Ub 217 (Qla (⟨[]⟩:Qgb)):=⟨_,_,_,Jix.h,Qr8⟩
instance Qw0:CTy Ub 142 2 16 (.agg #[.int .i64 0,.int .i64 0]):=⟨tyI ox⟩
instance Jpw:CPl Ub 142 [(0,1),(1,1)]:=⟨⟨_,Gz,ox⟩⟩
theorem Qva:Zr (Jn (⟨0,0⟩:Qx)) [.int .i64 0,.int .i64 0]:=K4 (Qn (c1:=[.int .i64 0]) Wi (Qn (c1:=[.int .i64 0]) Wi (Kl)))
instance:CUn Ub 139 (.slice 142):=⟨Gp⟩
instance Jiy:CTy Ub 139 1 24 (Ua):=⟨tyI ox⟩
instance Jr9:CFd Ub 217 0 0:=⟨fdA underlying217 rfl rfl Jiy.h rfl⟩
instance Jv7:CSh Ub 139 false 1:=⟨shp Gp rfl Jiy.h⟩
instance:CZy Ub 142 (Jn (⟨0,0⟩:Qx)):=⟨_,_,_,Qw0.h,Qva⟩
instance Jv8:CSh Ub 142 true 2:=⟨shp Gz rfl Qw0.h⟩
instance Jpx:CTy Ub 130 1 8 (.pointer none):=⟨tyI ox⟩
instance Jv9:CSh Ub 130 false 1:=⟨shp underlying130 rfl Jpx.h⟩
instance Jsa:CFd Ub 138 0 0:=⟨fdA Gk rfl rfl ti_49.h rfl⟩
instance Jsb:CFd Ub 132 0 0:=⟨fdA Gj rfl rfl ti_3.h rfl⟩
theorem Jla:EqF Ub 2 142 (λx:Qx=>.agg [i64 x.From,i64 x.To]) Qe0:=
 Qsr Gz ox (Qen rfl rfl sh_3.h (λ_=>rfl) (λ_=>rfl) (Qft (λx:Qx=>x.From) (Qhi (n:=0) Uu)) (Qen rfl rfl sh_3.h (λ_=>rfl) (λ_=>rfl) (Qft (λx:Qx=>x.To) (Qhi (n:=0) Uu)) (Qyd)))
theorem Jpy:Tryz.prog.eqGuardType Tryz.prog.depth 142=false:=ox
instance Jsc:CFd Ub 142 0 0:=⟨fdA Gz rfl rfl ti_3.h rfl⟩
instance Jsd:CFd Ub 142 1 1:=⟨fdA Gz rfl rfl ti_3.h rfl⟩
instance:CZy Ub 45 (sli 1 (List.map Qf [])):=⟨_,_,_,ti_45.h,(J6 (k:=1))⟩
instance:CZy Ub 44 (sli 3 (List.map Qd [])):=⟨_,_,_,ti_44.h,(J6 (k:=3))⟩
instance Jse:CFd Ub 138 2 15:=⟨fdA Gk rfl rfl ti_44.h rfl⟩
instance Jvj:CFd Ub 59 0 0:=⟨fdA U9 rfl rfl ti_3.h rfl⟩
instance Jvk:CFd Ub 79 0 0:=⟨fdA Ad rfl rfl ti_44.h rfl⟩
instance Jvl:CFd Ub 79 1 1:=⟨fdA Ad rfl rfl ti_44.h rfl⟩
instance Jpz:CTy Ub 355 26 520 (.agg #[Ua,Ua,.int .i64 0,.int .i64 0,.string ⟨#[]⟩,Ua,Ua,Ua,Ua,Ua,.int .i64 0,.bool false,Ua,Ua,.bool false,Ua,Ua,Ua,Ua,Ua,Ua,Ua,Ua,Ua,Ua,.pointer none]):=⟨tyI ox⟩
instance Jp0:CPl Ub 355 [(0,11),(11,3),(14,3),(17,1),(18,4),(22,1),(23,2),(25,1)]:=⟨⟨_,U0,ox⟩⟩
instance Jsf:CFd Ub 355 6 23:=⟨fdA U0 rfl rfl ti_79.h rfl⟩
instance Jsg:CFd Ub 355 0 0:=⟨fdA U0 rfl rfl ti_49.h rfl⟩
instance Jsh:CFd Ub 355 3 17:=⟨fdA U0 rfl rfl ti_44.h rfl⟩
instance Jsi:CFd Ub 355 5 22:=⟨fdA U0 rfl rfl ti_45.h rfl⟩
instance Jsj:CFd Ub 355 2 14:=⟨fdA U0 rfl rfl ti_55.h rfl⟩
instance Jsk:CFd Ub 355 7 25:=⟨fdA U0 rfl rfl Qtr.h rfl⟩
instance Jsl:CFd Ub 355 1 11:=⟨fdA U0 rfl rfl ti_55.h rfl⟩
instance Jsm:CFd Ub 355 4 18:=⟨fdA U0 rfl rfl Qtq.h rfl⟩
instance Q5e:CTy Ub 427 5 104 (.agg #[.bool false,Ua,Ua,Ua,Ua]):=⟨tyI ox⟩
theorem Qtu:Zr (Qgs (⟨(⟨(⟨false,[]⟩:Qi),[]⟩:Qa),[],[]⟩:V8)) [.bool false,Ua,Ua,Ua,Ua]:=K4 (Qn (c1:=[.bool false,Ua,Ua]) K3 (Qn (c1:=[Ua]) (J6 (k:=3)) (Qn (c1:=[Ua]) (J6 (k:=3)) (Kl))))
instance:CZy Ub 427 (Qgs (⟨(⟨(⟨false,[]⟩:Qi),[]⟩:Qa),[],[]⟩:V8)):=⟨_,_,_,Q5e.h,Qtu⟩
instance Jp1:CPl Ub 427 [(0,3),(3,1),(4,1)]:=⟨⟨_,G0,ox⟩⟩
instance Jwa:CSh Ub 427 true 5:=⟨shp G0 rfl Q5e.h⟩
instance Jp2:CTy Ub 446 11 216 (.agg #[Ua,Ua,.int .i64 0,.int .i64 0,Ua,Ua,.bool false,Ua,Ua,Ua,Ua]):=⟨tyI ox⟩
instance Jp3:CPl Ub 446 [(0,4),(4,1),(5,1),(6,5)]:=⟨⟨_,G1,ox⟩⟩
theorem Jb6:Zr (Jeq (⟨(⟨[],[],0,0⟩:Qm),[],[],(⟨(⟨(⟨false,[]⟩:Qi),[]⟩:Qa),[],[]⟩:V8)⟩:Q24)) [Ua,Ua,.int .i64 0,.int .i64 0,Ua,Ua,.bool false,Ua,Ua,Ua,Ua]:=K4 (Qn (c1:=[Ua,Ua,.int .i64 0,.int .i64 0]) Ql2 (Qn (c1:=[Ua]) (J6 (k:=3)) (Qn (c1:=[Ua]) (J6 (k:=3)) (Qn (c1:=[.bool false,Ua,Ua,Ua,Ua]) Qtu (Kl)))))
instance Jsn:CFd Ub 446 2 5:=⟨fdA G1 rfl rfl ti_44.h rfl⟩
instance Jso:CFd Ub 446 0 0:=⟨fdA G1 rfl rfl ti_43.h rfl⟩
instance Jsp:CFd Ub 446 3 6:=⟨fdA G1 rfl rfl Q5e.h rfl⟩
instance Jsq:CFd Ub 427 0 0:=⟨fdA G0 rfl rfl ti_55.h rfl⟩
instance Jsr:CFd Ub 427 1 3:=⟨fdA G0 rfl rfl ti_44.h rfl⟩
instance Jss:CFd Ub 427 2 4:=⟨fdA G0 rfl rfl ti_44.h rfl⟩
instance Jst:CFd Ub 446 1 4:=⟨fdA G1 rfl rfl ti_44.h rfl⟩
instance Jsu:CFd Ub 138 3 16:=⟨fdA Gk rfl rfl ti_44.h rfl⟩
instance Jsv:CFd Ub 138 4 17:=⟨fdA Gk rfl rfl Qtr.h rfl⟩
instance pl_65:CPl Ub 65 [(0,1),(1,1)]:=⟨⟨_,Ae,ox⟩⟩
instance sh_65:CSh Ub 65 true 2:=⟨shp Ae rfl ti_65.h⟩
instance Jvm:CFd Ub 65 0 0:=⟨fdA Ae rfl rfl ti_45.h rfl⟩
instance Jvn:CFd Ub 65 1 1:=⟨fdA Ae rfl rfl ti_45.h rfl⟩
instance Qrq:CTy Ub 346 6 144 (.agg #[Ua,Ua,Ua,Ua,Ua,Ua]):=⟨tyI ox⟩
theorem Qfy:Zr (Qb6 (⟨[],[],(⟨[],[],[],[]⟩:Jk)⟩:Kd)) [Ua,Ua,Ua,Ua,Ua,Ua]:=K4 (Qn (c1:=[Ua]) (J6 (k:=3)) (Qn (c1:=[Ua]) (J6 (k:=3)) (Qn (c1:=[Ua,Ua,Ua,Ua]) Qjn (Kl))))
instance:CZy Ub 346 (Qb6 (⟨[],[],(⟨[],[],[],[]⟩:Jk)⟩:Kd)):=⟨_,_,_,Qrq.h,Qfy⟩
instance Qw1:CPl Ub 346 [(0,1),(1,1),(2,4)]:=⟨⟨_,Af,ox⟩⟩
instance Jwb:CSh Ub 346 true 6:=⟨shp Af rfl Qrq.h⟩
instance Jp4:CTy Ub 404 25 496 (.agg #[Ua,Ua,.int .i64 0,.int .i64 0,.string ⟨#[]⟩,Ua,Ua,Ua,Ua,Ua,.int .i64 0,.bool false,Ua,Ua,.bool false,Ua,Ua,Ua,Ua,Ua,Ua,Ua,Ua,Ua,.pointer none]):=⟨tyI ox⟩
instance Jp5:CPl Ub 404 [(0,11),(11,3),(14,3),(17,1),(18,1),(19,4),(23,1),(24,1)]:=⟨⟨_,U4,ox⟩⟩
instance Jsw:CFd Ub 404 0 0:=⟨fdA U4 rfl rfl ti_49.h rfl⟩
instance Jsx:CFd Ub 404 5 19:=⟨fdA U4 rfl rfl Qtq.h rfl⟩
instance Jsy:CFd Ub 404 3 17:=⟨fdA U4 rfl rfl ti_44.h rfl⟩
instance Jsz:CFd Ub 404 6 23:=⟨fdA U4 rfl rfl ti_45.h rfl⟩
instance Js0:CFd Ub 404 2 14:=⟨fdA U4 rfl rfl ti_55.h rfl⟩
instance Js1:CFd Ub 404 7 24:=⟨fdA U4 rfl rfl Qtr.h rfl⟩
instance Js2:CFd Ub 404 1 11:=⟨fdA U4 rfl rfl ti_55.h rfl⟩
instance Js3:CFd Ub 404 4 18:=⟨fdA U4 rfl rfl ti_44.h rfl⟩
instance Qf4:CTy Ub 465 6 112 (.agg #[.bool false,Ua,Ua,.bool false,Ua,Ua]):=⟨tyI ox⟩
instance Ql3:CPl Ub 465 [(0,3),(3,3)]:=⟨⟨_,Ah,ox⟩⟩
theorem Qaf:Zr (Jd (⟨(⟨(⟨false,[]⟩:Qi),[]⟩:Qa),(⟨(⟨false,[]⟩:Qi),[]⟩:Qa)⟩:Q1)) [.bool false,Ua,Ua,.bool false,Ua,Ua]:=K4 (Qn (c1:=[.bool false,Ua,Ua]) K3 (Qn (c1:=[.bool false,Ua,Ua]) K3 (Kl)))
instance:CUn Ub 461 (.slice 465):=⟨G8⟩
instance:CZy Ub 3 (i64 0):=⟨_,_,_,ti_3.h,Wi⟩
instance Jb7:CTy Ub 473 2 16 (.agg #[.pointer none,.nilFunc]):=⟨tyI ox⟩
instance Jp6:CPl Ub 473 [(0,1),(1,1)]:=⟨⟨_,Us,ox⟩⟩
instance Jb8:CTy Ub 475 2 16 (.agg #[.pointer none,.nilFunc]):=⟨tyI ox⟩
instance Jp7:CPl Ub 475 [(0,2)]:=⟨⟨_,Au,ox⟩⟩
instance Jwc:CSh Ub 475 true 2:=⟨shp Au rfl Jb8.h⟩
instance Jiz:CTy Ub 478 8 160 (.agg #[.bool false,Ua,Ua,.bool false,Ua,Ua,Ua,Ua]):=⟨tyI ox⟩
instance Jp8:CPl Ub 478 [(0,6),(6,1),(7,1)]:=⟨⟨_,G2,ox⟩⟩
instance Jb9:CTy Ub 461 1 24 (Ua):=⟨tyI ox⟩
instance Js4:CFd Ub 478 1 6:=⟨fdA G2 rfl rfl Jb9.h rfl⟩
instance Jwd:CSh Ub 461 false 1:=⟨shp G8 rfl Jb9.h⟩
instance Js5:CFd Ub 478 2 7:=⟨fdA G2 rfl rfl Jb9.h rfl⟩
instance Jwe:CSh Ub 478 true 8:=⟨shp G2 rfl Jiz.h⟩
instance:CZy Ub 465 (Jd (⟨(⟨(⟨false,[]⟩:Qi),[]⟩:Qa),(⟨(⟨false,[]⟩:Qi),[]⟩:Qa)⟩:Q1)):=⟨_,_,_,Qf4.h,Qaf⟩
instance Js6:CFd Ub 475 0 0:=⟨fdA Au rfl rfl Jb7.h rfl⟩
instance Qrr:CSh Ub 473 true 2:=⟨shp Us rfl Jb7.h⟩
instance Jwf:CSh Ub 465 true 6:=⟨shp Ah rfl Qf4.h⟩
instance Js7:CFd Ub 465 0 0:=⟨fdA Ah rfl rfl ti_55.h rfl⟩
instance Js8:CFd Ub 465 1 3:=⟨fdA Ah rfl rfl ti_55.h rfl⟩
instance Js9:CFd Ub 478 0 0:=⟨fdA G2 rfl rfl Qf4.h rfl⟩
instance Jta:CFd Ub 473 0 0:=⟨fdA Us rfl rfl Qtr.h rfl⟩
instance ti_1:CTy Ub 1 1 8 (.nilFunc):=⟨tyI ox⟩
instance Jtb:CFd Ub 473 1 1:=⟨fdA Us rfl rfl ti_1.h rfl⟩
instance sh_1:CSh Ub 1 false 1:=⟨shp underlying1 rfl ti_1.h⟩
instance Jtc:CFd Ub 346 0 0:=⟨fdA Af rfl rfl ti_44.h rfl⟩
instance Jtd:CFd Ub 346 1 1:=⟨fdA Af rfl rfl ti_44.h rfl⟩
instance Jp9:CTy Ub 382 9 9 (.agg #[.int .u8 0,.int .u8 0,.int .u8 0,.int .u8 0,.int .u8 0,.int .u8 0,.int .u8 0,.int .u8 0,.int .u8 0]):=⟨tyI ox⟩
theorem Jlb:Zr (Qs6 (⟨0,0,0,0,0,0,0,0,0⟩:Qoo)) [.int .u8 0,.int .u8 0,.int .u8 0,.int .u8 0,.int .u8 0,.int .u8 0,.int .u8 0,.int .u8 0,.int .u8 0]:=K4 (Qn (c1:=[.int .u8 0]) zr_u8 (Qn (c1:=[.int .u8 0]) zr_u8 (Qn (c1:=[.int .u8 0]) zr_u8 (Qn (c1:=[.int .u8 0]) zr_u8 (Qn (c1:=[.int .u8 0]) zr_u8 (Qn (c1:=[.int .u8 0]) zr_u8 (Qn (c1:=[.int .u8 0]) zr_u8 (Qn (c1:=[.int .u8 0]) zr_u8 (Qn (c1:=[.int .u8 0]) zr_u8 (Kl))))))))))
instance:CZy Ub 382 (Qs6 (⟨0,0,0,0,0,0,0,0,0⟩:Qoo)):=⟨_,_,_,Jp9.h,Jlb⟩
instance ti_5:CTy Ub 5 1 1 (.int .u8 0):=⟨tyI ox⟩
instance:CUn Ub 382 (.array 9 5):=⟨Al⟩
instance sh_5:CSh Ub 5 false 1:=⟨shp Am rfl ti_5.h⟩
theorem Jca:∀ l:List Nat,l.length=9->(.agg (l.map u8):Ly)=Qs6 (Q0j l)
 | [a0,a1,a2,a3,a4,a5,a6,a7,a8],_=>rfl
 | [],h=>by simp at h
 | [_],h=>by simp at h
 | [_,_],h=>by simp at h
 | [_,_,_],h=>by simp at h
 | [_,_,_,_],h=>by simp at h
 | [_,_,_,_,_],h=>by simp at h
 | [_,_,_,_,_,_],h=>by simp at h
 | [_,_,_,_,_,_,_],h=>by simp at h
 | [_,_,_,_,_,_,_,_],h=>by simp at h
 | _::_::_::_::_::_::_::_::_::_::_,h=>by simp at h
instance:CUn Ub 260 (.slice 5):=⟨underlying260⟩
instance Jqa:CTy Ub 262 2 32 (.agg #[.pointer none,Ua]):=⟨tyI ox⟩
instance Jvo:CFd Ub 25 2 2:=⟨fdA Gt rfl rfl ti_3.h rfl⟩
instance Jvp:CFd Ub 25 3 3:=⟨fdA Gt rfl rfl ti_3.h rfl⟩
instance Jwg:CSh Ub 180 true 6:=⟨shp Gu rfl Jiq.h⟩
theorem J7:Zr (Qc (⟨false,[],[]⟩:Qb)) [.bool false,Ua,Ua]:=K4 (Qn (c1:=[.bool false]) zr_bl (Qn (c1:=[Ua]) (J6 (k:=1)) (Qn (c1:=[Ua]) (J6 (k:=1)) (Kl))))
theorem Qut:Zr (Jh (⟨0,0,0,(⟨false,[],[]⟩:Qb)⟩:Jp)) [.int .i64 0,.int .i64 0,.int .i64 0,.bool false,Ua,Ua]:=K4 (Qn (c1:=[.int .i64 0]) Wi (Qn (c1:=[.int .i64 0]) Wi (Qn (c1:=[.int .i64 0]) Wi (Qn (c1:=[.bool false,Ua,Ua]) J7 (Kl)))))
instance:CZy Ub 180 (Jh (⟨0,0,0,(⟨false,[],[]⟩:Qb)⟩:Jp)):=⟨_,_,_,Jiq.h,Qut⟩
instance Jte:CFd Ub 180 0 0:=⟨fdA Gu rfl rfl ti_3.h rfl⟩
instance Jtf:CFd Ub 180 1 1:=⟨fdA Gu rfl rfl ti_3.h rfl⟩
instance Jtg:CFd Ub 180 2 2:=⟨fdA Gu rfl rfl ti_3.h rfl⟩
instance Jvq:CFd Ub 34 0 0:=⟨fdA Gv rfl rfl ti_4.h rfl⟩
instance Jvr:CFd Ub 31 3 10:=⟨fdA Gs rfl rfl ti_3.h rfl⟩
instance ti_75:CTy Ub 75 5 104 (.agg #[Ua,.bool false,Ua,Ua,Ua]):=⟨tyI ox⟩
instance sh_75:CSh Ub 75 true 5:=⟨shp Ai rfl ti_75.h⟩
instance ti_73:CTy Ub 73 1 24 (Ua):=⟨tyI ox⟩
instance Jvs:CFd Ub 75 0 0:=⟨fdA Ai rfl rfl ti_73.h rfl⟩
instance:CUn Ub 73 (.slice 145):=⟨underlying73⟩
instance sh_73:CSh Ub 73 false 1:=⟨shp underlying73 rfl ti_73.h⟩
instance Jvt:CFd Ub 75 1 1:=⟨fdA Ai rfl rfl ti_34.h rfl⟩
instance Jvu:CFd Ub 75 2 4:=⟨fdA Ai rfl rfl ti_26.h rfl⟩
instance Jcb:CTy Ub 145 14 256 (.agg #[.bool false,Ua,Ua,.bool false,Ua,Ua,.bool false,Ua,Ua,.bool false,Ua,Ua,Ua,.bool false]):=⟨tyI ox⟩
instance Jwh:CSh Ub 145 true 14:=⟨shp U6 rfl Jcb.h⟩
instance Jth:CFd Ub 145 0 0:=⟨fdA U6 rfl rfl ti_34.h rfl⟩
instance Jti:CFd Ub 145 1 3:=⟨fdA U6 rfl rfl ti_34.h rfl⟩
instance Jtj:CFd Ub 145 2 6:=⟨fdA U6 rfl rfl ti_34.h rfl⟩
instance Jtk:CFd Ub 145 3 9:=⟨fdA U6 rfl rfl ti_34.h rfl⟩
instance Jtl:CFd Ub 145 4 12:=⟨fdA U6 rfl rfl ti_26.h rfl⟩
instance Jtm:CFd Ub 145 5 13:=⟨fdA U6 rfl rfl ti_4.h rfl⟩
instance Q5f:CTy Ub 127 3 24 (.agg #[.int .i64 0,.int .i64 0,.int .i64 0]):=⟨tyI ox⟩
theorem Qr9:Zr (Qg0 (⟨0,0,0⟩:Wj)) [.int .i64 0,.int .i64 0,.int .i64 0]:=K4 (Qn (c1:=[.int .i64 0]) Wi (Qn (c1:=[.int .i64 0]) Wi (Qn (c1:=[.int .i64 0]) Wi (Kl))))
instance:CZy Ub 127 (Qg0 (⟨0,0,0⟩:Wj)):=⟨_,_,_,Q5f.h,Qr9⟩
instance Ji0:CPl Ub 127 [(0,1),(1,1),(2,1)]:=⟨⟨_,Gl,ox⟩⟩
instance Jwi:CSh Ub 127 true 3:=⟨shp Gl rfl Q5f.h⟩
instance Jtn:CFd Ub 127 1 1:=⟨fdA Gl rfl rfl ti_3.h rfl⟩
instance Jto:CFd Ub 127 0 0:=⟨fdA Gl rfl rfl ti_3.h rfl⟩
instance Jtp:CFd Ub 127 2 2:=⟨fdA Gl rfl rfl ti_3.h rfl⟩
theorem Qnn:Zr (Wc (⟨(⟨false,[],[]⟩:Qb),(⟨false,[],[]⟩:Qb),(⟨false,[],[]⟩:Qb),(⟨false,[],[]⟩:Qb),[],false⟩:Jg)) [.bool false,Ua,Ua,.bool false,Ua,Ua,.bool false,Ua,Ua,.bool false,Ua,Ua,Ua,.bool false]:=K4 (Qn (c1:=[.bool false,Ua,Ua]) J7 (Qn (c1:=[.bool false,Ua,Ua]) J7 (Qn (c1:=[.bool false,Ua,Ua]) J7 (Qn (c1:=[.bool false,Ua,Ua]) J7 (Qn (c1:=[Ua]) (J6 (k:=3)) (Qn (c1:=[.bool false]) zr_bl (Kl)))))))
instance:CZy Ub 145 (Wc (⟨(⟨false,[],[]⟩:Qb),(⟨false,[],[]⟩:Qb),(⟨false,[],[]⟩:Qb),(⟨false,[],[]⟩:Qb),[],false⟩:Jg)):=⟨_,_,_,Jcb.h,Qnn⟩
instance:CZy Ub 34 (Qc (⟨false,[],[]⟩:Qb)):=⟨_,_,_,ti_34.h,J7⟩
instance pl_34:CPl Ub 34 [(0,1),(1,1),(2,1)]:=⟨⟨_,Gv,ox⟩⟩
instance Qf5:CTy Ub 297 3 32 (.agg #[.int .i64 0,.string ⟨#[]⟩,.int .i64 0]):=⟨tyI ox⟩
instance Ji1:CPl Ub 297 [(0,1),(1,1),(2,1)]:=⟨⟨_,G3,ox⟩⟩
theorem Qhd:Zr (Qy (⟨0,[],0⟩:Qq)) [.int .i64 0,.string ⟨#[]⟩,.int .i64 0]:=K4 (Qn (c1:=[.int .i64 0]) Wi (Qn (c1:=[.string ⟨#[]⟩]) Qli (Qn (c1:=[.int .i64 0]) Wi (Kl))))
instance Jtq:CFd Ub 297 1 1:=⟨fdA G3 rfl rfl ti_9.h rfl⟩
instance:CUn Ub 357 (.slice 297):=⟨Uv⟩
instance Jtr:CFd Ub 297 2 2:=⟨fdA G3 rfl rfl ti_3.h rfl⟩
instance Jts:CFd Ub 297 0 0:=⟨fdA G3 rfl rfl ti_3.h rfl⟩
instance Jwj:CSh Ub 297 true 3:=⟨shp G3 rfl Qf5.h⟩
instance:CZy Ub 297 (Qy (⟨0,[],0⟩:Qq)):=⟨_,_,_,Qf5.h,Qhd⟩
instance Qpp:CTy Ub 300 2 32 (.agg #[.bool false,Ua]):=⟨tyI ox⟩
instance Qtv:CPl Ub 300 [(0,1),(1,1)]:=⟨⟨_,Aj,ox⟩⟩
theorem Xz:Zr (Ye (⟨false,[]⟩:Js)) [.bool false,Ua]:=K4 (Qn (c1:=[.bool false]) zr_bl (Qn (c1:=[Ua]) (J6 (k:=1)) (Kl)))
instance:CZy Ub 300 (Ye (⟨false,[]⟩:Js)):=⟨_,_,_,Qpp.h,Xz⟩
instance Jwk:CSh Ub 300 true 2:=⟨shp Aj rfl Qpp.h⟩
instance Jtt:CFd Ub 300 0 0:=⟨fdA Aj rfl rfl ti_4.h rfl⟩
instance Jtu:CFd Ub 300 1 1:=⟨fdA Aj rfl rfl ti_32.h rfl⟩
instance Jqb:CPl Ub 145 [(0,3),(3,3),(6,3),(9,3),(12,1),(13,1)]:=⟨⟨_,U6,ox⟩⟩
instance ti_85:CTy Ub 85 2 48 (.agg #[Ua,Ua]):=⟨tyI ox⟩
theorem V6:Zr (Q4 (⟨[],[]⟩:Qj)) [Ua,Ua]:=K4 (Qn (c1:=[Ua]) (J6 (k:=3)) (Qn (c1:=[Ua]) (J6 (k:=3)) (Kl)))
instance:CZy Ub 85 (Q4 (⟨[],[]⟩:Qj)):=⟨_,_,_,ti_85.h,V6⟩
instance pl_85:CPl Ub 85 [(0,1),(1,1)]:=⟨⟨_,Ak,ox⟩⟩
instance sh_85:CSh Ub 85 true 2:=⟨shp Ak rfl ti_85.h⟩
instance Jvv:CFd Ub 85 0 0:=⟨fdA Ak rfl rfl ti_26.h rfl⟩
instance Jvw:CFd Ub 85 1 1:=⟨fdA Ak rfl rfl ti_26.h rfl⟩
instance ti_87:CTy Ub 87 4 32 (.agg #[.int .i64 0,.int .i64 0,.int .i64 0,.int .i64 0]):=⟨tyI ox⟩
theorem Qoq:Zr (Qg1 (⟨0,0,0,0⟩:Xx)) [.int .i64 0,.int .i64 0,.int .i64 0,.int .i64 0]:=K4 (Qn (c1:=[.int .i64 0]) Wi (Qn (c1:=[.int .i64 0]) Wi (Qn (c1:=[.int .i64 0]) Wi (Qn (c1:=[.int .i64 0]) Wi (Kl)))))
instance:CZy Ub 87 (Qg1 (⟨0,0,0,0⟩:Xx)):=⟨_,_,_,ti_87.h,Qoq⟩
instance Jcc:CTy Ub 151 4 80 (.agg #[.int .i64 0,Ua,Ua,Ua]):=⟨tyI ox⟩
theorem Quu:Zr (Xf (⟨0,[],[],[]⟩:Xp)) [.int .i64 0,Ua,Ua,Ua]:=K4 (Qn (c1:=[.int .i64 0]) Wi (Qn (c1:=[Ua]) (J6 (k:=3)) (Qn (c1:=[Ua]) (J6 (k:=3)) (Qn (c1:=[Ua]) (J6 (k:=1)) (Kl)))))
instance:CZy Ub 151 (Xf (⟨0,[],[],[]⟩:Xp)):=⟨_,_,_,Jcc.h,Quu⟩
instance Jqc:CPl Ub 151 [(0,1),(1,1),(2,1),(3,1)]:=⟨⟨_,Gm,ox⟩⟩
instance Jwl:CSh Ub 151 true 4:=⟨shp Gm rfl Jcc.h⟩
instance Jtv:CFd Ub 151 1 1:=⟨fdA Gm rfl rfl ti_26.h rfl⟩
instance Jtw:CFd Ub 151 2 2:=⟨fdA Gm rfl rfl ti_26.h rfl⟩
instance Jtx:CFd Ub 151 3 3:=⟨fdA Gm rfl rfl ti_27.h rfl⟩
instance Jty:CFd Ub 151 0 0:=⟨fdA Gm rfl rfl ti_3.h rfl⟩
instance Qtw:CTy Ub 238 4 96 (.agg #[Ua,Ua,Ua,Ua]):=⟨tyI ox⟩
theorem Qct:Zr (Wm (⟨[],[],[],[]⟩:J4)) [Ua,Ua,Ua,Ua]:=K4 (Qn (c1:=[Ua]) (J6 (k:=1)) (Qn (c1:=[Ua]) (J6 (k:=1)) (Qn (c1:=[Ua]) (J6 (k:=3)) (Qn (c1:=[Ua]) (J6 (k:=3)) (Kl)))))
instance:CZy Ub 238 (Wm (⟨[],[],[],[]⟩:J4)):=⟨_,_,_,Qtw.h,Qct⟩
instance Qf6:CTy Ub 159 3 24 (.agg #[.int .i64 0,.int .i64 0,.int .i64 0]):=⟨tyI ox⟩
theorem Qb7:Zr (Ym (⟨0,0,0⟩:Jz)) [.int .i64 0,.int .i64 0,.int .i64 0]:=K4 (Qn (c1:=[.int .i64 0]) Wi (Qn (c1:=[.int .i64 0]) Wi (Qn (c1:=[.int .i64 0]) Wi (Kl))))
instance:CZy Ub 159 (Ym (⟨0,0,0⟩:Jz)):=⟨_,_,_,Qf6.h,Qb7⟩
instance Q0p:CPl Ub 238 [(0,1),(1,1),(2,1),(3,1)]:=⟨⟨_,Gn,ox⟩⟩
instance Jwm:CSh Ub 238 true 4:=⟨shp Gn rfl Qtw.h⟩
instance Jtz:CFd Ub 238 1 1:=⟨fdA Gn rfl rfl ti_27.h rfl⟩
instance:CUn Ub 159 (.array 3 3):=⟨Ur⟩
instance Jwn:CSh Ub 159 true 3:=⟨shp Ur rfl Qf6.h⟩
instance Jcd:CTy Ub 242 5 104 (.agg #[.bool false,Ua,Ua,Ua,Ua]):=⟨tyI ox⟩
theorem Ql4:Zr (Zi (⟨(⟨false,[],[]⟩:Qb),[],[]⟩:Xk)) [.bool false,Ua,Ua,Ua,Ua]:=K4 (Qn (c1:=[.bool false,Ua,Ua]) J7 (Qn (c1:=[Ua]) (J6 (k:=3)) (Qn (c1:=[Ua]) (J6 (k:=3)) (Kl))))
instance:CZy Ub 242 (Zi (⟨(⟨false,[],[]⟩:Qb),[],[]⟩:Xk)):=⟨_,_,_,Jcd.h,Ql4⟩
instance Jqd:CPl Ub 242 [(0,3),(3,1),(4,1)]:=⟨⟨_,G4,ox⟩⟩
instance Jwo:CSh Ub 242 true 5:=⟨shp G4 rfl Jcd.h⟩
instance Jt0:CFd Ub 242 0 0:=⟨fdA G4 rfl rfl ti_34.h rfl⟩
instance Jt1:CFd Ub 242 1 3:=⟨fdA G4 rfl rfl ti_26.h rfl⟩
instance Jt2:CFd Ub 242 2 4:=⟨fdA G4 rfl rfl ti_26.h rfl⟩
instance Jt3:CFd Ub 238 0 0:=⟨fdA Gn rfl rfl ti_27.h rfl⟩
instance Jt4:CFd Ub 238 2 2:=⟨fdA Gn rfl rfl ti_26.h rfl⟩
instance Jt5:CFd Ub 238 3 3:=⟨fdA Gn rfl rfl ti_26.h rfl⟩
instance:CUn Ub 87 (.array 4 3):=⟨Uw⟩
instance sh_87:CSh Ub 87 true 4:=⟨shp Uw rfl ti_87.h⟩
instance Jce:CTy Ub 245 5 104 (.agg #[.bool false,Ua,Ua,Ua,Ua]):=⟨tyI ox⟩
theorem Qm0:Zr (Vb (⟨(⟨false,[],[]⟩:Qb),[],[]⟩:Jl)) [.bool false,Ua,Ua,Ua,Ua]:=K4 (Qn (c1:=[.bool false,Ua,Ua]) J7 (Qn (c1:=[Ua]) (J6 (k:=3)) (Qn (c1:=[Ua]) (J6 (k:=3)) (Kl))))
instance:CZy Ub 245 (Vb (⟨(⟨false,[],[]⟩:Qb),[],[]⟩:Jl)):=⟨_,_,_,Jce.h,Qm0⟩
instance Jqe:CPl Ub 245 [(0,3),(3,1),(4,1)]:=⟨⟨_,G5,ox⟩⟩
instance Jwp:CSh Ub 245 true 5:=⟨shp G5 rfl Jce.h⟩
instance Jt6:CFd Ub 245 0 0:=⟨fdA G5 rfl rfl ti_34.h rfl⟩
instance Jt7:CFd Ub 245 1 3:=⟨fdA G5 rfl rfl ti_26.h rfl⟩
instance Jt8:CFd Ub 245 2 4:=⟨fdA G5 rfl rfl ti_26.h rfl⟩
theorem Q7i(n:Int)(h1:-9223372036854775808<n)(h2:n<=9223372036854775807)(w:World)(b:Nat)(hw:w.heap[b]?=some (.cells #[.int .i64 n] 3 (0,0))):ItC Ub 173 #[.pointer (some ⟨b,0,none⟩)] n.toNat w:=
 Jne func173 rfl rfl rfl sh_3.h h1 h2 w b hw
theorem Q7j:∀ args w,(callFunc 173 args).run Ub w=.ok (.enter 173 args) w:=entersF func173 ox rfl
abbrev Uc xs:=sli 3 (List.map Qd xs)
abbrev Ud xs:=sli 1 (List.map u32 xs)
abbrev Ue xs:=sli 3 (List.map Qc xs)
abbrev Uf xs:=sli 1 (List.map Qf xs)
abbrev Ug xs:=sli 1 (List.map i64 xs)
abbrev Uh xs:=sli 1 (List.map Qh xs)
abbrev Ui xs:=sli 14 (List.map K9 xs)
abbrev Uj xs:=sli 6 (List.map Jd xs)
abbrev Uk xs:=sli 3 (List.map Qy xs)
abbrev Ul xs:=sli 2 (List.map Jn xs)
instance:CNs 0 1 _ u32:=⟨trivial⟩
instance:CNs 1 3 _ Qd:=⟨trivial⟩
instance:CNs 2 1 _ i64:=⟨trivial⟩
instance:CNs 3 14 _ K9:=⟨trivial⟩
instance:CNs 4 1 _ Qf:=⟨trivial⟩
instance:CNs 5 2 _ Jn:=⟨trivial⟩
instance:CNs 6 6 _ Jd:=⟨trivial⟩
instance:CNs 7 3 _ Qc:=⟨trivial⟩
instance:CNs 8 3 _ Qy:=⟨trivial⟩
instance:CNs 9 1 _ Qh:=⟨trivial⟩
instance:CZy Ub 314 (K8 (⟨[],0,false⟩:Kt)):=⟨_,_,_,Jpj.h,Q30⟩
instance:CZy Ub 318 (Qyk (⟨0,[],0⟩:Qmh)):=⟨_,_,_,Jir.h,Q25⟩
instance:CZy Ub 215 (Ql (⟨(⟨0,0⟩:Qdc),0⟩:Qk)):=⟨_,_,_,Jpl.h,Q7h⟩
instance:CZy Ub 426 (Qas (⟨(⟨(⟨false,[]⟩:Qi),[]⟩:Qa),[],[]⟩:Qaj)):=⟨_,_,_,Jiv.h,Qtt⟩
instance:CZy Ub 446 (Jeq (⟨(⟨[],[],0,0⟩:Qm),[],[],(⟨(⟨(⟨false,[]⟩:Qi),[]⟩:Qa),[],[]⟩:V8)⟩:Q24)):=⟨_,_,_,Jp2.h,Jb6⟩
instance:CFo Ub:=⟨fol⟩
abbrev FO{R:Type}(f:Nat)(a:List Ly)(s:R->Ly)(m:Option R):Prop:=∀ r,m=some r->FnOk Ub f a [] (s r) []
abbrev FM{R:Type}(f:Nat)(a:List Ly)(i:List (Nat×Ct))(s:R->Ly)(o:R->List (Nat×Ct))(m:Option R):Prop:=∀ r,m=some r->FnOk Ub f a i (s r) (o r)
instance{x}:CIF (Qd x):=⟨CIF.h⟩
instance{x}:CIF (Jd x):=⟨CIF.h⟩
end Go.Proofs.YtbdgngdpkdagoaaGreatDoor
