import Derived.Test.YtgmknbfonlbjfaaGreatDoorBld
import Derived.Test.YtgmknbfonlbjfaaGreatDoorLib
import Derived.Test.YtgmknbfonlbjfaaGreatDoorSM
import Derived.Test.YtgmknbfonlbjfaaGreatDoorMod
set_option maxRecDepth 100000
set_option maxHeartbeats 4000000
namespace Go.Proofs.YtgmknbfonlbjfaaGreatDoor
open Go Go.RowKit Tryz
abbrev Ua:Value:=.slice none 0 0
noncomputable abbrev Ub:=Tryz.prog
abbrev Uk:=underlying23
abbrev Ul:=underlying38
abbrev Um:=underlying75
abbrev Un:=underlying347
abbrev Uo:=underlying3
abbrev Up:=underlying26
abbrev Uq:=underlying29
abbrev Ur:=underlying9
abbrev Us:=underlying189
abbrev Ut:=underlying49
abbrev Uu:=underlying69
abbrev Uv:=underlying96
abbrev Uw:=underlying33
abbrev Ux:=underlying77
abbrev Uy:=underlying85
abbrev Uz:=underlying181
abbrev U0:=underlying44
abbrev U1:=underlying71
abbrev U2:=underlying74
abbrev U4:=underlying82
abbrev U5:=underlying139
abbrev U6:=underlying106
abbrev U7:=underlying25
abbrev U8:=underlying40
abbrev U9:=underlying283
abbrev Ga:=underlying351
abbrev Gb:=underlying289
abbrev Gc:=underlying328
abbrev Gd:=underlying128
abbrev Ge:=underlying254
abbrev Gf:=underlying28
abbrev Gg:=underlying51
abbrev Gh:=underlying226
abbrev Gi:=underlying35
abbrev Gj:=underlying37
abbrev Gk:=underlying61
abbrev Gl:=underlying89
abbrev Gm:=underlying122
abbrev Gn:=underlying294
abbrev Gp:=underlying5
abbrev Gq:=underlying148
abbrev Gr:=underlying118
abbrev Gs:=underlying72
abbrev Gt:=underlying231
abbrev Gu:=underlying321
abbrev Gv:=underlying242
abbrev Gw:=underlying349
theorem ownK:ownKnob Tryz.prog.godebug=none:=ox
theorem laidOutK:laidOutB Ub=true:=ox
abbrev Zs(xs:List Nat):Ly:=sli 1 (xs.map u32)
abbrev Qd(x:Qc):Ly:=.agg [bl x.Neg,Zs x.N,Zs x.D]
theorem Qii{a0_ a1_ a2_}:IF (.agg [bl a0_,sli 1 a1_,sli 1 a2_]):=Qla (Yo if_bl (Yo Zt (Yo Zt (Qgr))))
abbrev Q8(xs:List Qc):Ly:=sli 3 (xs.map Qd)
abbrev Jt(x:Qt):Ly:=.agg [Qd x.T,Qd x.Gz,Qd x.H,Qd x.G2,Q8 x.Y,bl x.Ok]
abbrev Qd3(xs:List Qt):Ly:=sli 14 (xs.map Jt)
abbrev Qi(x:Qj):Ly:=.agg [Qd3 x.Gx,Qd x.T,Q8 x.Y]
abbrev Qk(x:Qh):Ly:=.agg [i64 x.Gy,Q8 x.W]
abbrev Q2(x:Qg):Ly:=.agg [bl x.Neg,Zs x.G1]
abbrev Qb(x:Qa):Ly:=.agg [Q2 x.Num,Zs x.Den]
theorem Jm{a0_0_ a0_1_ a1_}:IF (.agg [.agg [bl a0_0_,sli 1 a0_1_],sli 1 a1_]):=Qla (Yo (Qla (Yo if_bl (Yo Zt (Qgr)))) (Yo Zt (Qgr)))
abbrev Ka(x:Jh):Ly:=.agg [i64 x.Op,i64 x.A,i64 x.B,Qb x.N]
abbrev Qtl(xs:List Jh):Ly:=sli 6 (xs.map Ka)
abbrev Q1l(xs:List Int):Ly:=sli 1 (xs.map i64)
abbrev Ja(x:Q5):Ly:=.agg [Qtl x.Code,Q1l x.Outs,i64 x.Dim,i64 x.Par]
abbrev Qf(xs:List Qa):Ly:=sli 3 (xs.map Qb)
abbrev Qf6(xs:List (List Qa)):Ly:=sli 1 (xs.map Qf)
abbrev Jf(x:Q4):Ly:=.agg [str x.Name,Qf x.C,Qf6 x.A,Qf x.B,Qf x.E]
abbrev Qhk(x:Qef):Ly:=.agg [str x.a0,str x.a1,str x.a2,str x.a3,str x.a4,str x.a5]
abbrev Qo(x:Qe):Ly:=.agg [i64 x.G3,i64 x.Step,i64 x.Stage,i64 x.At]
abbrev Jl(x:Jc):Ly:=.agg [str x.rest,i64 x.at_,bl x.over]
abbrev Qmp(x:Qfw):Ly:=.agg [i64 x.G3,str x.Text,i64 x.At]
abbrev Qq(x:Qx):Ly:=.agg [Ja x.Tape,Jf x.G0,Qf x.P,i64 x.Bits]
abbrev Jk(x:Q1):Ly:=.agg [Qb x.T,Qb x.Gz,Qb x.H,Qb x.G2,Qf x.Y,bl x.Ok]
abbrev Quu(xs:List Q1):Ly:=sli 14 (xs.map Jk)
abbrev Q6(x:Qw):Ly:=.agg [Quu x.Gx,Qb x.T,Qf x.Y]
abbrev Qg0(x:Js):Ly:=.agg [i64 x.op,i64 x.a,i64 x.b]
abbrev Kf(x:K2):Ly:=.agg [Qf6 x.Ys,Qf6 x.Ks,Qf x.Next,Qf x.G2]
abbrev Qh5(x:Xs):Ly:=.agg [i64 x.Seen,i64 x.Peak]
abbrev Ql(x:Qp):Ly:=.agg [Qh5 x.Count,i64 x.limit]
theorem Ju{a0_0_ a0_1_ a1_}:IF (.agg [.agg [i64 a0_0_,i64 a0_1_],i64 a1_]):=Qla (Yo (Qla (Yo Qay (Yo Qay (Qgr)))) (Yo Qay (Qgr)))
abbrev Y5(x:Wh):Ly:=.agg [Qb x.T,Qf x.Y,Qf x.P]
abbrev Wa(x:V5):Ly:=.agg [Qb x.T,Qf x.Y,Qf x.P]
abbrev Q0(x:Qr):Ly:=.agg [i64 x.Gy,Qf x.W]
abbrev Q9(x:Qz):Ly:=.agg [Qf x.Y,Qf x.P]
abbrev Zm(x:Vf):Ly:=.agg [Qb x.T,Qf x.Y,Qf x.P]
abbrev Qwc(x:Qo7):Ly:=.agg [Ja x.t,Qf x.done,Qf x.co,Zm x.grad]
abbrev Qit(x:Qe9):Ly:=.agg [u8 x.a0,u8 x.a1,u8 x.a2,u8 x.a3,u8 x.a4,u8 x.a5,u8 x.a6,u8 x.a7,u8 x.a8]
abbrev Kw(x:Qy):Ly:=.agg [bl x.Neg,Zs x.G1]
instance ti_28:CTy Ub 28 5 104 (.agg #[Ua,.bool false,Ua,Ua,Ua]):=⟨tyI ox⟩
instance sh_28:CSh Ub 28 true 5:=⟨shp Gf rfl ti_28.h⟩
instance ti_22:CTy Ub 22 1 24 (Ua):=⟨tyI ox⟩
instance Q5a:CFd Ub 28 0 0:=⟨fdA Gf rfl rfl ti_22.h rfl⟩
instance:CUn Ub 22 (.slice 69):=⟨underlying22⟩
instance sh_22:CSh Ub 22 false 1:=⟨shp underlying22 rfl ti_22.h⟩
instance ti_25:CTy Ub 25 3 56 (.agg #[.bool false,Ua,Ua]):=⟨tyI ox⟩
instance Q5b:CFd Ub 28 1 1:=⟨fdA Gf rfl rfl ti_25.h rfl⟩
instance sh_25:CSh Ub 25 true 3:=⟨shp U7 rfl ti_25.h⟩
instance ti_23:CTy Ub 23 1 24 (Ua):=⟨tyI ox⟩
instance Q5c:CFd Ub 25 1 1:=⟨fdA U7 rfl rfl ti_23.h rfl⟩
instance:CUn Ub 23 (.slice 117):=⟨Uk⟩
instance sh_23:CSh Ub 23 false 1:=⟨shp Uk rfl ti_23.h⟩
instance Q5d:CFd Ub 25 2 2:=⟨fdA U7 rfl rfl ti_23.h rfl⟩
instance ti_26:CTy Ub 26 1 24 (Ua):=⟨tyI ox⟩
instance Q5e:CFd Ub 28 2 4:=⟨fdA Gf rfl rfl ti_26.h rfl⟩
instance:CUn Ub 26 (.slice 25):=⟨Up⟩
instance sh_26:CSh Ub 26 false 1:=⟨shp Up rfl ti_26.h⟩
instance ti_69:CTy Ub 69 14 256 (.agg #[.bool false,Ua,Ua,.bool false,Ua,Ua,.bool false,Ua,Ua,.bool false,Ua,Ua,Ua,.bool false]):=⟨tyI ox⟩
instance sh_69:CSh Ub 69 true 14:=⟨shp Uu rfl ti_69.h⟩
instance Q5f:CFd Ub 69 0 0:=⟨fdA Uu rfl rfl ti_25.h rfl⟩
instance Q5g:CFd Ub 69 1 3:=⟨fdA Uu rfl rfl ti_25.h rfl⟩
instance Q5h:CFd Ub 69 2 6:=⟨fdA Uu rfl rfl ti_25.h rfl⟩
instance Q5i:CFd Ub 69 3 9:=⟨fdA Uu rfl rfl ti_25.h rfl⟩
instance Q5j:CFd Ub 69 4 12:=⟨fdA Uu rfl rfl ti_26.h rfl⟩
instance:CUn Ub 29 (.slice 51):=⟨Uq⟩
instance ti_51:CTy Ub 51 2 32 (.agg #[.int .i64 0,Ua]):=⟨tyI ox⟩
instance Q5k:CFd Ub 51 1 1:=⟨fdA Gg rfl rfl ti_26.h rfl⟩
instance ti_71:CTy Ub 71 6 80 (.agg #[.int .i64 0,.int .i64 0,.int .i64 0,.bool false,Ua,Ua]):=⟨tyI ox⟩
instance pl_71:CPl Ub 71 [(0,1),(1,1),(2,1),(3,3)]:=⟨⟨_,U1,ox⟩⟩
theorem Vl:Zr (Q2 (⟨false,[]⟩:Qg)) [.bool false,Ua]:=Kx (Qm (c1:=[.bool false]) zr_bl (Qm (c1:=[Ua]) (J0 (k:=1)) (J5)))
theorem Jp:Zr (Qb (⟨(⟨false,[]⟩:Qg),[]⟩:Qa)) [.bool false,Ua,Ua]:=Kx (Qm (c1:=[.bool false,Ua]) Vl (Qm (c1:=[Ua]) (J0 (k:=1)) (J5)))
theorem Qn0:Zr (Ka (⟨0,0,0,(⟨(⟨false,[]⟩:Qg),[]⟩:Qa)⟩:Jh)) [.int .i64 0,.int .i64 0,.int .i64 0,.bool false,Ua,Ua]:=Kx (Qm (c1:=[.int .i64 0]) Xo (Qm (c1:=[.int .i64 0]) Xo (Qm (c1:=[.int .i64 0]) Xo (Qm (c1:=[.bool false,Ua,Ua]) Jp (J5)))))
instance:CUn Ub 72 (.slice 71):=⟨Gs⟩
instance ti_3:CTy Ub 3 1 8 (.int .i64 0):=⟨tyI ox⟩
instance:CUn Ub 49 (.slice 3):=⟨Ut⟩
instance ti_74:CTy Ub 74 4 64 (.agg #[Ua,Ua,.int .i64 0,.int .i64 0]):=⟨tyI ox⟩
instance pl_74:CPl Ub 74 [(0,1),(1,1),(2,1),(3,1)]:=⟨⟨_,U2,ox⟩⟩
theorem Qf7:Zr (Ja (⟨[],[],0,0⟩:Q5)) [Ua,Ua,.int .i64 0,.int .i64 0]:=Kx (Qm (c1:=[Ua]) (J0 (k:=6)) (Qm (c1:=[Ua]) (J0 (k:=1)) (Qm (c1:=[.int .i64 0]) Xo (Qm (c1:=[.int .i64 0]) Xo (J5)))))
instance:CZy Ub 74 (Ja (⟨[],[],0,0⟩:Q5)):=⟨_,_,_,ti_74.h,Qf7⟩
instance sh_74:CSh Ub 74 true 4:=⟨shp U2 rfl ti_74.h⟩
instance ti_77:CTy Ub 77 5 112 (.agg #[.string ⟨#[]⟩,Ua,Ua,Ua,Ua]):=⟨tyI ox⟩
theorem Yt:Zr (Jf (⟨[],[],[],[],[]⟩:Q4)) [.string ⟨#[]⟩,Ua,Ua,Ua,Ua]:=Kx (Qm (c1:=[.string ⟨#[]⟩]) Qee (Qm (c1:=[Ua]) (J0 (k:=3)) (Qm (c1:=[Ua]) (J0 (k:=1)) (Qm (c1:=[Ua]) (J0 (k:=3)) (Qm (c1:=[Ua]) (J0 (k:=3)) (J5))))))
instance:CZy Ub 77 (Jf (⟨[],[],[],[],[]⟩:Q4)):=⟨_,_,_,ti_77.h,Yt⟩
instance Quv:CTy Ub 128 6 96 (.agg #[.string ⟨#[]⟩,.string ⟨#[]⟩,.string ⟨#[]⟩,.string ⟨#[]⟩,.string ⟨#[]⟩,.string ⟨#[]⟩]):=⟨tyI ox⟩
theorem Qn1:Zr (Qhk (⟨[],[],[],[],[],[]⟩:Qef)) [.string ⟨#[]⟩,.string ⟨#[]⟩,.string ⟨#[]⟩,.string ⟨#[]⟩,.string ⟨#[]⟩,.string ⟨#[]⟩]:=Kx (Qm (c1:=[.string ⟨#[]⟩]) Qee (Qm (c1:=[.string ⟨#[]⟩]) Qee (Qm (c1:=[.string ⟨#[]⟩]) Qee (Qm (c1:=[.string ⟨#[]⟩]) Qee (Qm (c1:=[.string ⟨#[]⟩]) Qee (Qm (c1:=[.string ⟨#[]⟩]) Qee (J5)))))))
instance:CZy Ub 128 (Qhk (⟨[],[],[],[],[],[]⟩:Qef)):=⟨_,_,_,Quv.h,Qn1⟩
instance ti_9:CTy Ub 9 1 16 (.string ⟨#[]⟩):=⟨tyI ox⟩
instance:CUn Ub 128 (.array 6 9):=⟨Gd⟩
instance Q6q:CSh Ub 128 true 6:=⟨shp Gd rfl Quv.h⟩
instance:CUn Ub 9 (.string):=⟨Ur⟩
instance sh_9:CSh Ub 9 false 1:=⟨shp Ur rfl ti_9.h⟩
instance ti_85:CTy Ub 85 4 32 (.agg #[.int .i64 0,.int .i64 0,.int .i64 0,.int .i64 0]):=⟨tyI ox⟩
theorem Qn:Zr (Qo (⟨0,0,0,0⟩:Qe)) [.int .i64 0,.int .i64 0,.int .i64 0,.int .i64 0]:=Kx (Qm (c1:=[.int .i64 0]) Xo (Qm (c1:=[.int .i64 0]) Xo (Qm (c1:=[.int .i64 0]) Xo (Qm (c1:=[.int .i64 0]) Xo (J5)))))
instance:CZy Ub 85 (Qo (⟨0,0,0,0⟩:Qe)):=⟨_,_,_,ti_85.h,Qn⟩
instance pl_77:CPl Ub 77 [(0,1),(1,1),(2,1),(3,1),(4,1)]:=⟨⟨_,Ux,ox⟩⟩
instance pl_85:CPl Ub 85 [(0,1),(1,1),(2,1),(3,1)]:=⟨⟨_,Uy,ox⟩⟩
instance sh_77:CSh Ub 77 true 5:=⟨shp Ux rfl ti_77.h⟩
instance sh_85:CSh Ub 85 true 4:=⟨shp Uy rfl ti_85.h⟩
instance Q21:CTy Ub 226 3 32 (.agg #[.string ⟨#[]⟩,.int .i64 0,.bool false]):=⟨tyI ox⟩
instance Q22:CPl Ub 226 [(0,1),(1,1),(2,1)]:=⟨⟨_,Gh,ox⟩⟩
theorem Qpq:Zr (Jl (⟨[],0,false⟩:Jc)) [.string ⟨#[]⟩,.int .i64 0,.bool false]:=Kx (Qm (c1:=[.string ⟨#[]⟩]) Qee (Qm (c1:=[.int .i64 0]) Xo (Qm (c1:=[.bool false]) zr_bl (J5))))
instance ti_4:CTy Ub 4 1 1 (.bool false):=⟨tyI ox⟩
instance Q32:CFd Ub 226 2 2:=⟨fdA Gh rfl rfl ti_4.h rfl⟩
instance:CUn Ub 4 (.bool):=⟨underlying4⟩
instance sh_4:CSh Ub 4 false 1:=⟨shp underlying4 rfl ti_4.h⟩
instance Q33:CFd Ub 226 1 1:=⟨fdA Gh rfl rfl ti_3.h rfl⟩
instance:CUn Ub 3 (.int .i64):=⟨Uo⟩
instance sh_3:CSh Ub 3 false 1:=⟨shp Uo rfl ti_3.h⟩
theorem fol:Tryz.prog.follows .mixedOrders=true:=ox
instance Q34:CFd Ub 226 0 0:=⟨fdA Gh rfl rfl ti_9.h rfl⟩
instance Q5l:CFd Ub 77 0 0:=⟨fdA Ux rfl rfl ti_9.h rfl⟩
instance Qy1:CTy Ub 231 3 32 (.agg #[.int .i64 0,.string ⟨#[]⟩,.int .i64 0]):=⟨tyI ox⟩
instance Qy2:CPl Ub 231 [(0,1),(1,1),(2,1)]:=⟨⟨_,Gt,ox⟩⟩
theorem Qo8:Zr (Qmp (⟨0,[],0⟩:Qfw)) [.int .i64 0,.string ⟨#[]⟩,.int .i64 0]:=Kx (Qm (c1:=[.int .i64 0]) Xo (Qm (c1:=[.string ⟨#[]⟩]) Qee (Qm (c1:=[.int .i64 0]) Xo (J5))))
instance Q35:CFd Ub 231 1 1:=⟨fdA Gt rfl rfl ti_9.h rfl⟩
instance Q36:CFd Ub 231 0 0:=⟨fdA Gt rfl rfl ti_3.h rfl⟩
instance:CUn Ub 21 (.int .i32):=⟨underlying21⟩
instance:CUn Ub 5 (.int .u8):=⟨Gp⟩
instance ti_37:CTy Ub 37 3 56 (.agg #[.bool false,Ua,Ua]):=⟨tyI ox⟩
instance:CZy Ub 37 (Qb (⟨(⟨false,[]⟩:Qg),[]⟩:Qa)):=⟨_,_,_,ti_37.h,Jp⟩
instance ti_35:CTy Ub 35 2 32 (.agg #[.bool false,Ua]):=⟨tyI ox⟩
instance:CZy Ub 35 (Q2 (⟨false,[]⟩:Qg)):=⟨_,_,_,ti_35.h,Vl⟩
instance:CUn Ub 117 (.int .u32):=⟨underlying117⟩
instance J3:CTy Ub 117 1 4 (.int .u32 0):=⟨tyI ox⟩
instance Q6r:CSh Ub 117 false 1:=⟨shp underlying117 rfl J3.h⟩
instance:CUn Ub 116 (.int .u64):=⟨underlying116⟩
theorem Ko:EqF Ub 2 85 (λx:Qe=>.agg [i64 x.G3,i64 x.Step,i64 x.Stage,i64 x.At]) Q7:=
 Qqa Uy ox (Qcr rfl rfl sh_3.h (λ_=>rfl) (λ_=>rfl) (Qe3 (λx:Qe=>x.G3) (Qgt (n:=0) Uo)) (Qcr rfl rfl sh_3.h (λ_=>rfl) (λ_=>rfl) (Qe3 (λx:Qe=>x.Step) (Qgt (n:=0) Uo)) (Qcr rfl rfl sh_3.h (λ_=>rfl) (λ_=>rfl) (Qe3 (λx:Qe=>x.Stage) (Qgt (n:=0) Uo)) (Qcr rfl rfl sh_3.h (λ_=>rfl) (λ_=>rfl) (Qe3 (λx:Qe=>x.At) (Qgt (n:=0) Uo)) (Quh)))))
theorem eg_85:Tryz.prog.eqGuardType Tryz.prog.depth 85=false:=ox
instance Q5m:CFd Ub 85 3 3:=⟨fdA Uy rfl rfl ti_3.h rfl⟩
instance pl_35:CPl Ub 35 [(0,1),(1,1)]:=⟨⟨_,Gi,ox⟩⟩
instance sh_35:CSh Ub 35 true 2:=⟨shp Gi rfl ti_35.h⟩
instance pl_37:CPl Ub 37 [(0,2),(2,1)]:=⟨⟨_,Gj,ox⟩⟩
instance sh_37:CSh Ub 37 true 3:=⟨shp Gj rfl ti_37.h⟩
instance Q5n:CFd Ub 35 1 1:=⟨fdA Gi rfl rfl ti_23.h rfl⟩
instance Q5o:CFd Ub 35 0 0:=⟨fdA Gi rfl rfl ti_4.h rfl⟩
instance:CUn Ub 254 (.slice 23):=⟨Ge⟩
instance:CUn Ub 148 (.slice 9):=⟨Gq⟩
instance:CUn Ub 38 (.slice 37):=⟨Ul⟩
instance ti_38:CTy Ub 38 1 24 (Ua):=⟨tyI ox⟩
instance Q5p:CFd Ub 77 1 1:=⟨fdA Ux rfl rfl ti_38.h rfl⟩
instance sh_38:CSh Ub 38 false 1:=⟨shp Ul rfl ti_38.h⟩
instance ti_75:CTy Ub 75 1 24 (Ua):=⟨tyI ox⟩
instance Q5q:CFd Ub 77 2 2:=⟨fdA Ux rfl rfl ti_75.h rfl⟩
instance:CUn Ub 75 (.slice 38):=⟨Um⟩
instance sh_75:CSh Ub 75 false 1:=⟨shp Um rfl ti_75.h⟩
instance Q5r:CFd Ub 77 3 3:=⟨fdA Ux rfl rfl ti_38.h rfl⟩
instance Q5s:CFd Ub 77 4 4:=⟨fdA Ux rfl rfl ti_38.h rfl⟩
instance Q5t:CFd Ub 37 1 2:=⟨fdA Gj rfl rfl ti_23.h rfl⟩
instance Q5u:CFd Ub 37 0 0:=⟨fdA Gj rfl rfl ti_35.h rfl⟩
instance ti_82:CTy Ub 82 11 208 (.agg #[Ua,Ua,.int .i64 0,.int .i64 0,.string ⟨#[]⟩,Ua,Ua,Ua,Ua,Ua,.int .i64 0]):=⟨tyI ox⟩
instance pl_82:CPl Ub 82 [(0,4),(4,5),(9,1),(10,1)]:=⟨⟨_,U4,ox⟩⟩
theorem Qcj:Zr (Qq (⟨(⟨[],[],0,0⟩:Q5),(⟨[],[],[],[],[]⟩:Q4),[],0⟩:Qx)) [Ua,Ua,.int .i64 0,.int .i64 0,.string ⟨#[]⟩,Ua,Ua,Ua,Ua,Ua,.int .i64 0]:=Kx (Qm (c1:=[Ua,Ua,.int .i64 0,.int .i64 0]) Qf7 (Qm (c1:=[.string ⟨#[]⟩,Ua,Ua,Ua,Ua]) Yt (Qm (c1:=[Ua]) (J0 (k:=3)) (Qm (c1:=[.int .i64 0]) Xo (J5)))))
instance:CZy Ub 82 (Qq (⟨(⟨[],[],0,0⟩:Q5),(⟨[],[],[],[],[]⟩:Q4),[],0⟩:Qx)):=⟨_,_,_,ti_82.h,Qcj⟩
instance sh_82:CSh Ub 82 true 11:=⟨shp U4 rfl ti_82.h⟩
instance ti_40:CTy Ub 40 5 104 (.agg #[Ua,.bool false,Ua,Ua,Ua]):=⟨tyI ox⟩
theorem Qf8:Zr (Q6 (⟨[],(⟨(⟨false,[]⟩:Qg),[]⟩:Qa),[]⟩:Qw)) [Ua,.bool false,Ua,Ua,Ua]:=Kx (Qm (c1:=[Ua]) (J0 (k:=14)) (Qm (c1:=[.bool false,Ua,Ua]) Jp (Qm (c1:=[Ua]) (J0 (k:=3)) (J5))))
instance:CZy Ub 40 (Q6 (⟨[],(⟨(⟨false,[]⟩:Qg),[]⟩:Qa),[]⟩:Qw)):=⟨_,_,_,ti_40.h,Qf8⟩
instance Q5v:CFd Ub 82 0 0:=⟨fdA U4 rfl rfl ti_74.h rfl⟩
instance Q5w:CFd Ub 74 2 2:=⟨fdA U2 rfl rfl ti_3.h rfl⟩
instance Q5x:CFd Ub 74 3 3:=⟨fdA U2 rfl rfl ti_3.h rfl⟩
instance ti_49:CTy Ub 49 1 24 (Ua):=⟨tyI ox⟩
instance Q5y:CFd Ub 74 1 1:=⟨fdA U2 rfl rfl ti_49.h rfl⟩
instance sh_49:CSh Ub 49 false 1:=⟨shp Ut rfl ti_49.h⟩
instance ti_72:CTy Ub 72 1 24 (Ua):=⟨tyI ox⟩
instance Q5z:CFd Ub 74 0 0:=⟨fdA U2 rfl rfl ti_72.h rfl⟩
instance sh_72:CSh Ub 72 false 1:=⟨shp Gs rfl ti_72.h⟩
instance sh_71:CSh Ub 71 true 6:=⟨shp U1 rfl ti_71.h⟩
instance:CZy Ub 71 (Ka (⟨0,0,0,(⟨(⟨false,[]⟩:Qg),[]⟩:Qa)⟩:Jh)):=⟨_,_,_,ti_71.h,Qn0⟩
instance Q50:CFd Ub 71 0 0:=⟨fdA U1 rfl rfl ti_3.h rfl⟩
instance Qn2:CTy Ub 321 3 24 (.agg #[.int .i64 0,.int .i64 0,.int .i64 0]):=⟨tyI ox⟩
theorem Qck:Zr (Qg0 (⟨0,0,0⟩:Js)) [.int .i64 0,.int .i64 0,.int .i64 0]:=Kx (Qm (c1:=[.int .i64 0]) Xo (Qm (c1:=[.int .i64 0]) Xo (Qm (c1:=[.int .i64 0]) Xo (J5))))
instance:CZy Ub 321 (Qg0 (⟨0,0,0⟩:Js)):=⟨_,_,_,Qn2.h,Qck⟩
instance Q51:CFd Ub 71 1 1:=⟨fdA U1 rfl rfl ti_3.h rfl⟩
instance Q52:CFd Ub 71 2 2:=⟨fdA U1 rfl rfl ti_3.h rfl⟩
instance Quw:CPl Ub 321 [(0,1),(1,1),(2,1)]:=⟨⟨_,Gu,ox⟩⟩
instance Q6s:CSh Ub 321 true 3:=⟨shp Gu rfl Qn2.h⟩
theorem Qux:EqF Ub 2 321 (λx:Js=>.agg [i64 x.op,i64 x.a,i64 x.b]) Yr:=
 Qqa Gu ox (Qcr rfl rfl sh_3.h (λ_=>rfl) (λ_=>rfl) (Qe3 (λx:Js=>x.op) (Qgt (n:=0) Uo)) (Qcr rfl rfl sh_3.h (λ_=>rfl) (λ_=>rfl) (Qe3 (λx:Js=>x.a) (Qgt (n:=0) Uo)) (Qcr rfl rfl sh_3.h (λ_=>rfl) (λ_=>rfl) (Qe3 (λx:Js=>x.b) (Qgt (n:=0) Uo)) (Quh))))
theorem Qy3:Tryz.prog.eqGuardType Tryz.prog.depth 321=false:=ox
instance Q53:CFd Ub 71 3 3:=⟨fdA U1 rfl rfl ti_37.h rfl⟩
instance Q54:CFd Ub 82 1 4:=⟨fdA U4 rfl rfl ti_77.h rfl⟩
instance Q55:CFd Ub 82 2 9:=⟨fdA U4 rfl rfl ti_38.h rfl⟩
instance pl_40:CPl Ub 40 [(0,1),(1,3),(4,1)]:=⟨⟨_,U8,ox⟩⟩
instance sh_40:CSh Ub 40 true 5:=⟨shp U8 rfl ti_40.h⟩
instance Q56:CFd Ub 40 1 1:=⟨fdA U8 rfl rfl ti_37.h rfl⟩
instance Q57:CFd Ub 40 2 4:=⟨fdA U8 rfl rfl ti_38.h rfl⟩
instance Qld:CTy Ub 139 4 96 (.agg #[Ua,Ua,Ua,Ua]):=⟨tyI ox⟩
theorem Qf9:Zr (Kf (⟨[],[],[],[]⟩:K2)) [Ua,Ua,Ua,Ua]:=Kx (Qm (c1:=[Ua]) (J0 (k:=1)) (Qm (c1:=[Ua]) (J0 (k:=1)) (Qm (c1:=[Ua]) (J0 (k:=3)) (Qm (c1:=[Ua]) (J0 (k:=3)) (J5)))))
instance:CZy Ub 139 (Kf (⟨[],[],[],[]⟩:K2)):=⟨_,_,_,Qld.h,Qf9⟩
instance Qy4:CPl Ub 139 [(0,1),(1,1),(2,1),(3,1)]:=⟨⟨_,U5,ox⟩⟩
instance Q6t:CSh Ub 139 true 4:=⟨shp U5 rfl Qld.h⟩
instance Q58:CFd Ub 82 3 10:=⟨fdA U4 rfl rfl ti_3.h rfl⟩
instance Q23:CTy Ub 242 3 24 (.agg #[.int .i64 0,.int .i64 0,.int .i64 0]):=⟨tyI ox⟩
instance Q24:CPl Ub 242 [(0,2),(2,1)]:=⟨⟨_,Gv,ox⟩⟩
theorem Qrr:Zr (Qh5 (⟨0,0⟩:Xs)) [.int .i64 0,.int .i64 0]:=Kx (Qm (c1:=[.int .i64 0]) Xo (Qm (c1:=[.int .i64 0]) Xo (J5)))
theorem Qrs:Zr (Ql (⟨(⟨0,0⟩:Xs),0⟩:Qp)) [.int .i64 0,.int .i64 0,.int .i64 0]:=Kx (Qm (c1:=[.int .i64 0,.int .i64 0]) Qrr (Qm (c1:=[.int .i64 0]) Xo (J5)))
instance Q25:CTy Ub 181 23 448 (.agg #[Ua,Ua,.int .i64 0,.int .i64 0,.string ⟨#[]⟩,Ua,Ua,Ua,Ua,Ua,.int .i64 0,.bool false,Ua,Ua,.bool false,Ua,Ua,Ua,.pointer none,Ua,Ua,Ua,Ua]):=⟨tyI ox⟩
instance Q26:CPl Ub 181 [(0,11),(11,3),(14,3),(17,1),(18,1),(19,4)]:=⟨⟨_,Uz,ox⟩⟩
instance Q37:CFd Ub 181 0 0:=⟨fdA Uz rfl rfl ti_82.h rfl⟩
instance Q38:CFd Ub 181 3 17:=⟨fdA Uz rfl rfl ti_38.h rfl⟩
instance Q39:CFd Ub 181 5 19:=⟨fdA Uz rfl rfl Qld.h rfl⟩
instance Q4a:CFd Ub 139 1 1:=⟨fdA U5 rfl rfl ti_75.h rfl⟩
instance Q4b:CFd Ub 181 2 14:=⟨fdA Uz rfl rfl ti_37.h rfl⟩
instance Qqk:CTy Ub 178 1 8 (.pointer none):=⟨tyI ox⟩
instance Q4c:CFd Ub 181 4 18:=⟨fdA Uz rfl rfl Qqk.h rfl⟩
instance Q6u:CSh Ub 178 false 1:=⟨shp underlying178 rfl Qqk.h⟩
instance Q27:CTy Ub 240 2 16 (.agg #[.int .i64 0,.int .i64 0]):=⟨tyI ox⟩
instance Q4d:CFd Ub 242 0 0:=⟨fdA Gv rfl rfl Q27.h rfl⟩
instance Q4e:CFd Ub 240 0 0:=⟨fdA underlying240 rfl rfl ti_3.h rfl⟩
instance Q4f:CFd Ub 240 1 1:=⟨fdA underlying240 rfl rfl ti_3.h rfl⟩
instance Q4g:CFd Ub 242 1 2:=⟨fdA Gv rfl rfl ti_3.h rfl⟩
instance Q4h:CFd Ub 181 1 11:=⟨fdA Uz rfl rfl ti_37.h rfl⟩
instance Qn3:CTy Ub 283 5 104 (.agg #[.bool false,Ua,Ua,Ua,Ua]):=⟨tyI ox⟩
theorem Qew:Zr (Y5 (⟨(⟨(⟨false,[]⟩:Qg),[]⟩:Qa),[],[]⟩:Wh)) [.bool false,Ua,Ua,Ua,Ua]:=Kx (Qm (c1:=[.bool false,Ua,Ua]) Jp (Qm (c1:=[Ua]) (J0 (k:=3)) (Qm (c1:=[Ua]) (J0 (k:=3)) (J5))))
instance:CZy Ub 283 (Y5 (⟨(⟨(⟨false,[]⟩:Qg),[]⟩:Qa),[],[]⟩:Wh)):=⟨_,_,_,Qn3.h,Qew⟩
instance Quy:CPl Ub 283 [(0,3),(3,1),(4,1)]:=⟨⟨_,U9,ox⟩⟩
instance Q6v:CSh Ub 283 true 5:=⟨shp U9 rfl Qn3.h⟩
instance Q4i:CFd Ub 283 0 0:=⟨fdA U9 rfl rfl ti_37.h rfl⟩
instance Q4j:CFd Ub 283 1 3:=⟨fdA U9 rfl rfl ti_38.h rfl⟩
instance Q4k:CFd Ub 283 2 4:=⟨fdA U9 rfl rfl ti_38.h rfl⟩
instance Quz:CTy Ub 347 1 8 (.agg #[.pointer none]):=⟨tyI ox⟩
instance Q28:CPl Ub 347 [(0,1)]:=⟨⟨_,Un,ox⟩⟩
instance Qu0:CTy Ub 349 1 8 (.agg #[.pointer none]):=⟨tyI ox⟩
instance Q29:CPl Ub 349 [(0,1)]:=⟨⟨_,Gw,ox⟩⟩
instance Q6w:CSh Ub 349 true 1:=⟨shp Gw rfl Qu0.h⟩
instance Qy5:CTy Ub 351 5 104 (.agg #[.bool false,Ua,Ua,Ua,Ua]):=⟨tyI ox⟩
instance Q3a:CPl Ub 351 [(0,3),(3,1),(4,1)]:=⟨⟨_,Ga,ox⟩⟩
theorem Qi8:Zr (Wa (⟨(⟨(⟨false,[]⟩:Qg),[]⟩:Qa),[],[]⟩:V5)) [.bool false,Ua,Ua,Ua,Ua]:=Kx (Qm (c1:=[.bool false,Ua,Ua]) Jp (Qm (c1:=[Ua]) (J0 (k:=3)) (Qm (c1:=[Ua]) (J0 (k:=3)) (J5))))
instance Q4l:CFd Ub 351 1 3:=⟨fdA Ga rfl rfl ti_38.h rfl⟩
instance Q4m:CFd Ub 351 2 4:=⟨fdA Ga rfl rfl ti_38.h rfl⟩
instance Q6x:CSh Ub 351 true 5:=⟨shp Ga rfl Qy5.h⟩
instance Q4n:CFd Ub 349 0 0:=⟨fdA Gw rfl rfl Quz.h rfl⟩
instance Qht:CSh Ub 347 true 1:=⟨shp Un rfl Quz.h⟩
theorem Qxu:MethF Ub 347 "Neg" 323:=⟨ox,_,Un⟩
theorem Qxv:MethF Ub 347 "Pow" 325:=⟨ox,_,Un⟩
theorem Qxw:MethF Ub 347 "Add" 320:=⟨ox,_,Un⟩
theorem Qxx:MethF Ub 347 "Sub" 327:=⟨ox,_,Un⟩
theorem Qxy:MethF Ub 347 "Mul" 322:=⟨ox,_,Un⟩
theorem Qxz:MethF Ub 347 "Quo" 326:=⟨ox,_,Un⟩
theorem Qy6:MethF Ub 347 "Of" 324:=⟨ox,_,Un⟩
instance Q4o:CFd Ub 351 0 0:=⟨fdA Ga rfl rfl ti_37.h rfl⟩
theorem Qwd:MethF Ub 347 "Fits" 321:=⟨ox,_,Un⟩
instance Q4p:CFd Ub 347 0 0:=⟨fdA Un rfl rfl Qqk.h rfl⟩
instance Q59:CFd Ub 85 2 2:=⟨fdA Uy rfl rfl ti_3.h rfl⟩
instance Q4q:CFd Ub 139 0 0:=⟨fdA U5 rfl rfl ti_75.h rfl⟩
instance Q4r:CFd Ub 139 2 2:=⟨fdA U5 rfl rfl ti_38.h rfl⟩
instance Q4s:CFd Ub 139 3 3:=⟨fdA U5 rfl rfl ti_38.h rfl⟩
instance Q6a:CFd Ub 85 1 1:=⟨fdA Uy rfl rfl ti_3.h rfl⟩
instance ti_33:CTy Ub 33 1 24 (Ua):=⟨tyI ox⟩
instance Q6b:CFd Ub 40 0 0:=⟨fdA U8 rfl rfl ti_33.h rfl⟩
instance:CUn Ub 33 (.slice 96):=⟨Uw⟩
instance sh_33:CSh Ub 33 false 1:=⟨shp Uw rfl ti_33.h⟩
instance ti_96:CTy Ub 96 14 256 (.agg #[.bool false,Ua,Ua,.bool false,Ua,Ua,.bool false,Ua,Ua,.bool false,Ua,Ua,Ua,.bool false]):=⟨tyI ox⟩
instance pl_96:CPl Ub 96 [(0,3),(3,3),(6,3),(9,3),(12,1),(13,1)]:=⟨⟨_,Uv,ox⟩⟩
theorem Qhl:Zr (Jk (⟨(⟨(⟨false,[]⟩:Qg),[]⟩:Qa),(⟨(⟨false,[]⟩:Qg),[]⟩:Qa),(⟨(⟨false,[]⟩:Qg),[]⟩:Qa),(⟨(⟨false,[]⟩:Qg),[]⟩:Qa),[],false⟩:Q1)) [.bool false,Ua,Ua,.bool false,Ua,Ua,.bool false,Ua,Ua,.bool false,Ua,Ua,Ua,.bool false]:=Kx (Qm (c1:=[.bool false,Ua,Ua]) Jp (Qm (c1:=[.bool false,Ua,Ua]) Jp (Qm (c1:=[.bool false,Ua,Ua]) Jp (Qm (c1:=[.bool false,Ua,Ua]) Jp (Qm (c1:=[Ua]) (J0 (k:=3)) (Qm (c1:=[.bool false]) zr_bl (J5)))))))
instance ti_61:CTy Ub 61 2 32 (.agg #[.int .i64 0,Ua]):=⟨tyI ox⟩
instance pl_61:CPl Ub 61 [(0,1),(1,1)]:=⟨⟨_,Gk,ox⟩⟩
theorem Qde:Zr (Q0 (⟨0,[]⟩:Qr)) [.int .i64 0,Ua]:=Kx (Qm (c1:=[.int .i64 0]) Xo (Qm (c1:=[Ua]) (J0 (k:=3)) (J5)))
instance:CUn Ub 44 (.slice 61):=⟨U0⟩
instance ti_89:CTy Ub 89 2 48 (.agg #[Ua,Ua]):=⟨tyI ox⟩
theorem Vp:Zr (Q9 (⟨[],[]⟩:Qz)) [Ua,Ua]:=Kx (Qm (c1:=[Ua]) (J0 (k:=3)) (Qm (c1:=[Ua]) (J0 (k:=3)) (J5)))
instance:CZy Ub 89 (Q9 (⟨[],[]⟩:Qz)):=⟨_,_,_,ti_89.h,Vp⟩
instance sh_96:CSh Ub 96 true 14:=⟨shp Uv rfl ti_96.h⟩
instance:CZy Ub 96 (Jk (⟨(⟨(⟨false,[]⟩:Qg),[]⟩:Qa),(⟨(⟨false,[]⟩:Qg),[]⟩:Qa),(⟨(⟨false,[]⟩:Qg),[]⟩:Qa),(⟨(⟨false,[]⟩:Qg),[]⟩:Qa),[],false⟩:Q1)):=⟨_,_,_,ti_96.h,Qhl⟩
instance Q6c:CFd Ub 96 0 0:=⟨fdA Uv rfl rfl ti_37.h rfl⟩
instance Q6d:CFd Ub 96 1 3:=⟨fdA Uv rfl rfl ti_37.h rfl⟩
instance Q6e:CFd Ub 96 2 6:=⟨fdA Uv rfl rfl ti_37.h rfl⟩
instance Q6f:CFd Ub 96 3 9:=⟨fdA Uv rfl rfl ti_37.h rfl⟩
instance Q6g:CFd Ub 96 4 12:=⟨fdA Uv rfl rfl ti_38.h rfl⟩
instance Q6h:CFd Ub 96 5 13:=⟨fdA Uv rfl rfl ti_4.h rfl⟩
instance sh_61:CSh Ub 61 true 2:=⟨shp Gk rfl ti_61.h⟩
instance:CZy Ub 61 (Q0 (⟨0,[]⟩:Qr)):=⟨_,_,_,ti_61.h,Qde⟩
instance Q6i:CFd Ub 61 0 0:=⟨fdA Gk rfl rfl ti_3.h rfl⟩
instance Q6j:CFd Ub 61 1 1:=⟨fdA Gk rfl rfl ti_38.h rfl⟩
instance pl_89:CPl Ub 89 [(0,1),(1,1)]:=⟨⟨_,Gl,ox⟩⟩
instance sh_89:CSh Ub 89 true 2:=⟨shp Gl rfl ti_89.h⟩
instance:CUn Ub 106 (.map 3 38):=⟨U6⟩
instance Q6k:CFd Ub 89 0 0:=⟨fdA Gl rfl rfl ti_38.h rfl⟩
instance Q6l:CFd Ub 85 0 0:=⟨fdA Uy rfl rfl ti_3.h rfl⟩
instance Q6m:CFd Ub 89 1 1:=⟨fdA Gl rfl rfl ti_38.h rfl⟩
instance Q3b:CTy Ub 189 26 520 (.agg #[Ua,Ua,.int .i64 0,.int .i64 0,.string ⟨#[]⟩,Ua,Ua,Ua,Ua,Ua,.int .i64 0,.bool false,Ua,Ua,.bool false,Ua,Ua,Ua,Ua,Ua,Ua,Ua,Ua,Ua,Ua,.pointer none]):=⟨tyI ox⟩
instance Q3c:CPl Ub 189 [(0,11),(11,3),(14,3),(17,1),(18,4),(22,1),(23,2),(25,1)]:=⟨⟨_,Us,ox⟩⟩
instance Q4t:CFd Ub 189 6 23:=⟨fdA Us rfl rfl ti_89.h rfl⟩
instance Q4u:CFd Ub 189 0 0:=⟨fdA Us rfl rfl ti_82.h rfl⟩
instance Q4v:CFd Ub 189 3 17:=⟨fdA Us rfl rfl ti_38.h rfl⟩
instance Q4w:CFd Ub 189 5 22:=⟨fdA Us rfl rfl ti_75.h rfl⟩
instance Q4x:CFd Ub 189 2 14:=⟨fdA Us rfl rfl ti_37.h rfl⟩
instance Q4y:CFd Ub 189 7 25:=⟨fdA Us rfl rfl Qqk.h rfl⟩
instance Q4z:CFd Ub 189 1 11:=⟨fdA Us rfl rfl ti_37.h rfl⟩
instance Q40:CFd Ub 189 4 18:=⟨fdA Us rfl rfl Qld.h rfl⟩
instance Qql:CTy Ub 289 5 104 (.agg #[.bool false,Ua,Ua,Ua,Ua]):=⟨tyI ox⟩
theorem Qi9:Zr (Zm (⟨(⟨(⟨false,[]⟩:Qg),[]⟩:Qa),[],[]⟩:Vf)) [.bool false,Ua,Ua,Ua,Ua]:=Kx (Qm (c1:=[.bool false,Ua,Ua]) Jp (Qm (c1:=[Ua]) (J0 (k:=3)) (Qm (c1:=[Ua]) (J0 (k:=3)) (J5))))
instance:CZy Ub 289 (Zm (⟨(⟨(⟨false,[]⟩:Qg),[]⟩:Qa),[],[]⟩:Vf)):=⟨_,_,_,Qql.h,Qi9⟩
instance Q3d:CPl Ub 289 [(0,3),(3,1),(4,1)]:=⟨⟨_,Gb,ox⟩⟩
instance Q6y:CSh Ub 289 true 5:=⟨shp Gb rfl Qql.h⟩
instance Q3e:CTy Ub 328 11 216 (.agg #[Ua,Ua,.int .i64 0,.int .i64 0,Ua,Ua,.bool false,Ua,Ua,Ua,Ua]):=⟨tyI ox⟩
instance Q3f:CPl Ub 328 [(0,4),(4,1),(5,1),(6,5)]:=⟨⟨_,Gc,ox⟩⟩
theorem Qu1:Zr (Qwc (⟨(⟨[],[],0,0⟩:Q5),[],[],(⟨(⟨(⟨false,[]⟩:Qg),[]⟩:Qa),[],[]⟩:Vf)⟩:Qo7)) [Ua,Ua,.int .i64 0,.int .i64 0,Ua,Ua,.bool false,Ua,Ua,Ua,Ua]:=Kx (Qm (c1:=[Ua,Ua,.int .i64 0,.int .i64 0]) Qf7 (Qm (c1:=[Ua]) (J0 (k:=3)) (Qm (c1:=[Ua]) (J0 (k:=3)) (Qm (c1:=[.bool false,Ua,Ua,Ua,Ua]) Qi9 (J5)))))
instance Q41:CFd Ub 328 2 5:=⟨fdA Gc rfl rfl ti_38.h rfl⟩
instance Q42:CFd Ub 328 0 0:=⟨fdA Gc rfl rfl ti_74.h rfl⟩
instance Q43:CFd Ub 328 3 6:=⟨fdA Gc rfl rfl Qql.h rfl⟩
instance Q44:CFd Ub 289 0 0:=⟨fdA Gb rfl rfl ti_37.h rfl⟩
instance Q45:CFd Ub 289 1 3:=⟨fdA Gb rfl rfl ti_38.h rfl⟩
instance Q46:CFd Ub 289 2 4:=⟨fdA Gb rfl rfl ti_38.h rfl⟩
instance Q47:CFd Ub 328 1 4:=⟨fdA Gc rfl rfl ti_38.h rfl⟩
instance Q3g:CTy Ub 294 9 9 (.agg #[.int .u8 0,.int .u8 0,.int .u8 0,.int .u8 0,.int .u8 0,.int .u8 0,.int .u8 0,.int .u8 0,.int .u8 0]):=⟨tyI ox⟩
theorem Q0e:Zr (Qit (⟨0,0,0,0,0,0,0,0,0⟩:Qe9)) [.int .u8 0,.int .u8 0,.int .u8 0,.int .u8 0,.int .u8 0,.int .u8 0,.int .u8 0,.int .u8 0,.int .u8 0]:=Kx (Qm (c1:=[.int .u8 0]) zr_u8 (Qm (c1:=[.int .u8 0]) zr_u8 (Qm (c1:=[.int .u8 0]) zr_u8 (Qm (c1:=[.int .u8 0]) zr_u8 (Qm (c1:=[.int .u8 0]) zr_u8 (Qm (c1:=[.int .u8 0]) zr_u8 (Qm (c1:=[.int .u8 0]) zr_u8 (Qm (c1:=[.int .u8 0]) zr_u8 (Qm (c1:=[.int .u8 0]) zr_u8 (J5))))))))))
instance:CZy Ub 294 (Qit (⟨0,0,0,0,0,0,0,0,0⟩:Qe9)):=⟨_,_,_,Q3g.h,Q0e⟩
instance ti_5:CTy Ub 5 1 1 (.int .u8 0):=⟨tyI ox⟩
instance:CUn Ub 294 (.array 9 5):=⟨Gn⟩
instance sh_5:CSh Ub 5 false 1:=⟨shp Gp rfl ti_5.h⟩
theorem Qu2:∀ l:List Nat,l.length=9->(.agg (l.map u8):Ly)=Qit (Qnx l)
 | [a0,a1,a2,a3,a4,a5,a6,a7,a8],_=>rfl
 | [],h=>by simp at h
 | [_],h=>by simp at h
 | [_,_],h=>by simp at h
 | [_,_,_],h=>by simp at h
 | [_,_,_,_],h=>by simp at h
 | [_,_,_,_,_],h=>by simp at h
 | [_,_,_,_,_,_],h=>by simp at h
 | [_,_,_,_,_,_,_],h=>by simp at h
 | [_,_,_,_,_,_,_,_],h=>by simp at h
 | _::_::_::_::_::_::_::_::_::_::_,h=>by simp at h
instance:CUn Ub 193 (.slice 5):=⟨underlying193⟩
instance Q3h:CTy Ub 195 2 32 (.agg #[.pointer none,Ua]):=⟨tyI ox⟩
instance Q6n:CFd Ub 25 0 0:=⟨fdA U7 rfl rfl ti_4.h rfl⟩
theorem Jj:Zr (Qd (⟨false,[],[]⟩:Qc)) [.bool false,Ua,Ua]:=Kx (Qm (c1:=[.bool false]) zr_bl (Qm (c1:=[Ua]) (J0 (k:=1)) (Qm (c1:=[Ua]) (J0 (k:=1)) (J5))))
theorem Qel:Zr (Jt (⟨(⟨false,[],[]⟩:Qc),(⟨false,[],[]⟩:Qc),(⟨false,[],[]⟩:Qc),(⟨false,[],[]⟩:Qc),[],false⟩:Qt)) [.bool false,Ua,Ua,.bool false,Ua,Ua,.bool false,Ua,Ua,.bool false,Ua,Ua,Ua,.bool false]:=Kx (Qm (c1:=[.bool false,Ua,Ua]) Jj (Qm (c1:=[.bool false,Ua,Ua]) Jj (Qm (c1:=[.bool false,Ua,Ua]) Jj (Qm (c1:=[.bool false,Ua,Ua]) Jj (Qm (c1:=[Ua]) (J0 (k:=3)) (Qm (c1:=[.bool false]) zr_bl (J5)))))))
instance:CZy Ub 69 (Jt (⟨(⟨false,[],[]⟩:Qc),(⟨false,[],[]⟩:Qc),(⟨false,[],[]⟩:Qc),(⟨false,[],[]⟩:Qc),[],false⟩:Qt)):=⟨_,_,_,ti_69.h,Qel⟩
instance Q6o:CFd Ub 69 5 13:=⟨fdA Uu rfl rfl ti_4.h rfl⟩
instance Q6p:CFd Ub 51 0 0:=⟨fdA Gg rfl rfl ti_3.h rfl⟩
instance:CZy Ub 25 (Qd (⟨false,[],[]⟩:Qc)):=⟨_,_,_,ti_25.h,Jj⟩
instance pl_25:CPl Ub 25 [(0,1),(1,1),(2,1)]:=⟨⟨_,U7,ox⟩⟩
instance Qga:CTy Ub 122 2 32 (.agg #[.bool false,Ua]):=⟨tyI ox⟩
instance Qja:CPl Ub 122 [(0,1),(1,1)]:=⟨⟨_,Gm,ox⟩⟩
theorem Kr:Zr (Kw (⟨false,[]⟩:Qy)) [.bool false,Ua]:=Kx (Qm (c1:=[.bool false]) zr_bl (Qm (c1:=[Ua]) (J0 (k:=1)) (J5)))
instance:CZy Ub 122 (Kw (⟨false,[]⟩:Qy)):=⟨_,_,_,Qga.h,Kr⟩
instance Q6z:CSh Ub 122 true 2:=⟨shp Gm rfl Qga.h⟩
instance Q48:CFd Ub 122 0 0:=⟨fdA Gm rfl rfl ti_4.h rfl⟩
instance Q49:CFd Ub 122 1 1:=⟨fdA Gm rfl rfl ti_23.h rfl⟩
instance pl_69:CPl Ub 69 [(0,3),(3,3),(6,3),(9,3),(12,1),(13,1)]:=⟨⟨_,Uu,ox⟩⟩
instance pl_51:CPl Ub 51 [(0,1),(1,1)]:=⟨⟨_,Gg,ox⟩⟩
theorem Qjv:Zr (Qk (⟨0,[]⟩:Qh)) [.int .i64 0,Ua]:=Kx (Qm (c1:=[.int .i64 0]) Xo (Qm (c1:=[Ua]) (J0 (k:=3)) (J5)))
instance sh_51:CSh Ub 51 true 2:=⟨shp Gg rfl ti_51.h⟩
instance:CUn Ub 118 (.slice 26):=⟨Gr⟩
instance cunB:CUn Ub 49 (.slice 3):=⟨Ut⟩
abbrev Uc xs:=sli 3 (List.map Qb xs)
abbrev Ud xs:=sli 1 (List.map u32 xs)
abbrev Ue xs:=sli 3 (List.map Qd xs)
abbrev Uf xs:=sli 2 (List.map Q0 xs)
abbrev Ug xs:=sli 2 (List.map Qk xs)
abbrev Uh xs:=sli 1 (List.map Qf xs)
abbrev Ui xs:=sli 1 (List.map i64 xs)
abbrev Uj xs:=sli 14 (List.map Jk xs)
instance:CNs 0 1 _ u32:=⟨trivial⟩
instance:CNs 1 3 _ Qb:=⟨trivial⟩
instance:CNs 2 1 _ i64:=⟨trivial⟩
instance:CNs 3 14 _ Jk:=⟨trivial⟩
instance:CNs 4 1 _ Qf:=⟨trivial⟩
instance:CNs 5 2 _ Q0:=⟨trivial⟩
instance:CNs 6 3 _ Qd:=⟨trivial⟩
instance:CNs 7 1 _ Q8:=⟨trivial⟩
instance:CNs 8 2 _ Qk:=⟨trivial⟩
instance:CZy Ub 226 (Jl (⟨[],0,false⟩:Jc)):=⟨_,_,_,Q21.h,Qpq⟩
instance:CZy Ub 231 (Qmp (⟨0,[],0⟩:Qfw)):=⟨_,_,_,Qy1.h,Qo8⟩
instance:CZy Ub 242 (Ql (⟨(⟨0,0⟩:Xs),0⟩:Qp)):=⟨_,_,_,Q23.h,Qrs⟩
instance:CZy Ub 351 (Wa (⟨(⟨(⟨false,[]⟩:Qg),[]⟩:Qa),[],[]⟩:V5)):=⟨_,_,_,Qy5.h,Qi8⟩
instance:CZy Ub 328 (Qwc (⟨(⟨[],[],0,0⟩:Q5),[],[],(⟨(⟨(⟨false,[]⟩:Qg),[]⟩:Qa),[],[]⟩:Vf)⟩:Qo7)):=⟨_,_,_,Q3e.h,Qu1⟩
instance:CZy Ub 51 (Qk (⟨0,[]⟩:Qh)):=⟨_,_,_,ti_51.h,Qjv⟩
instance:CFo Ub:=⟨fol⟩
abbrev FO{R:Type}(f:Nat)(a:List Ly)(s:R->Ly)(m:Option R):Prop:=∀ r,m=some r->FnOk Ub f a [] (s r) []
abbrev FM{R:Type}(f:Nat)(a:List Ly)(i:List (Nat×Ct))(s:R->Ly)(o:R->List (Nat×Ct))(m:Option R):Prop:=∀ r,m=some r->FnOk Ub f a i (s r) (o r)
end Go.Proofs.YtgmknbfonlbjfaaGreatDoor
