import Derived.Test.YtmnalemmhfjacaaGreatDoorLib
import Derived.Test.YtmnalemmhfjacaaGreatDoorSE
import Derived.Test.YtmnalemmhfjacaaGreatDoorSG
import Derived.Test.YtmnalemmhfjacaaGreatDoorMod
set_option maxRecDepth 100000
set_option maxHeartbeats 4000000
namespace Go.Proofs.YtmnalemmhfjacaaGreatDoor
open Go Go.RowKit Tryz
abbrev Ua:Value:=.slice none 0 0
noncomputable abbrev Ub:=Tryz.prog
abbrev Uk:=underlying44
abbrev Ul:=underlying45
abbrev Um:=underlying362
abbrev Uo:=underlying337
abbrev Up:=underlying32
abbrev Uq:=underlying3
abbrev Ur:=underlying55
abbrev Us:=underlying247
abbrev Ut:=underlying261
abbrev Uu:=underlying9
abbrev Uv:=underlying36
abbrev Uw:=underlying57
abbrev Ux:=underlying191
abbrev Uy:=underlying23
abbrev Uz:=underlying38
abbrev U0:=underlying47
abbrev U4:=underlying63
abbrev U5:=underlying219
abbrev U6:=underlying59
abbrev U7:=underlying29
abbrev U8:=underlying96
abbrev U9:=underlying43
abbrev Ga:=underlying49
abbrev Gb:=underlying186
abbrev Gc:=underlying106
abbrev Gd:=underlying113
abbrev Ge:=underlying114
abbrev Gf:=underlying31
abbrev Gg:=underlying25
abbrev Gh:=underlying140
abbrev Gi:=underlying51
abbrev Gj:=underlying61
abbrev Gk:=underlying290
abbrev Gl:=underlying341
abbrev Gm:=underlying117
abbrev Gn:=underlying308
abbrev Gp:=underlying332
abbrev Gq:=underlying367
abbrev Gr:=underlying141
abbrev Gs:=underlying295
abbrev Gt:=underlying342
abbrev Gu:=underlying41
abbrev Gv:=underlying34
abbrev Gw:=underlying228
abbrev Gx:=underlying53
abbrev Gy:=underlying131
abbrev Gz:=underlying80
abbrev G0:=underlying68
abbrev G1:=underlying223
abbrev G2:=underlying346
abbrev G3:=underlying233
abbrev G4:=underlying277
abbrev G5:=underlying160
abbrev G6:=underlying339
abbrev G7:=underlying364
theorem ownK:ownKnob Tryz.prog.godebug=none:=od
theorem laidOutK:laidOutB Ub=true:=od
abbrev Qb5(xs:List Nat):Ly:=sli 1 (xs.map u32)
abbrev Qx(x:Ql):Ly:=.agg [bl x.Neg,Qb5 x.N,Qb5 x.D]
abbrev Qac(x:Kt):Ly:=.agg [i64 x.Op,i64 x.A,i64 x.B,Qx x.N]
abbrev Qf9(xs:List Kt):Ly:=sli 6 (xs.map Qac)
abbrev Qv2(xs:List Int):Ly:=sli 1 (xs.map i64)
abbrev Wc(x:K8):Ly:=.agg [Qf9 x.Code,Qv2 x.Af,i64 x.Ae,i64 x.Ao]
abbrev Jn(xs:List Ql):Ly:=sli 3 (xs.map Qx)
abbrev Qe0(xs:List (List Ql)):Ly:=sli 1 (xs.map Jn)
abbrev Xc(x:Ku):Ly:=.agg [str x.Name,Jn x.C,Qe0 x.A,Jn x.B,Jn x.E]
abbrev Zh(x:Jr):Ly:=.agg [Wc x.Tape,Xc x.G8,Jn x.P,i64 x.Ac]
abbrev Zy(x:Vc):Ly:=.agg [Qx x.Tol,Qx x.Aq,Qx x.Low,Qx x.Ap,Qx x.Ak,i64 x.Fine,i64 x.Ai]
abbrev Qad(x:Jw):Ly:=.agg [Zh x.G9,Zy x.Ab,Qx x.Ah,Qx x.Ar,Qx x.Aj,Jn x.Y]
abbrev Q1(x:Qf):Ly:=.agg [bl x.Neg,Qb5 x.An]
abbrev Qb(x:Qa):Ly:=.agg [Q1 x.Num,Qb5 x.Den]
theorem Ji{a0_0_ a0_1_ a1_}:IF (.agg [.agg [bl a0_0_,sli 1 a0_1_],sli 1 a1_]):=Qfj (V0 (Qfj (V0 if_bl (V0 Yi (Qb3)))) (V0 Yi (Qb3)))
abbrev J4(x:Qt):Ly:=.agg [i64 x.Op,i64 x.A,i64 x.B,Qb x.N]
abbrev Qyg(xs:List Qt):Ly:=sli 6 (xs.map J4)
abbrev Q6(x:Qk):Ly:=.agg [Qyg x.Code,Qv2 x.Af,i64 x.Ae,i64 x.Ao]
abbrev Qd(xs:List Qa):Ly:=sli 3 (xs.map Qb)
abbrev Qam(xs:List (List Qa)):Ly:=sli 1 (xs.map Qd)
abbrev Jg(x:Qq):Ly:=.agg [str x.Name,Qd x.C,Qam x.A,Qd x.B,Qd x.E]
abbrev Qj(x:Qe):Ly:=.agg [Q6 x.Tape,Jg x.G8,Qd x.P,i64 x.Ac]
abbrev Vr(x:Q7):Ly:=.agg [Qb x.Tol,Qb x.Aq,Qb x.Low,Qb x.Ap,Qb x.Ak,i64 x.Fine,i64 x.Ai]
abbrev Kd(x:Jl):Ly:=.agg [Qj x.G9,Vr x.Ab,Qb x.Ah,Qb x.Ar,Qb x.Aj,Qd x.Y]
abbrev Qj0(x:Qg4):Ly:=.agg [str x.a0,str x.a1,str x.a2,str x.a3,str x.a4,str x.a5]
abbrev Qi(x:Qc):Ly:=.agg [i64 x.Ad,i64 x.Step,i64 x.Am,i64 x.At]
theorem Qbk{a0_ a1_ a2_ a3_}:IF (.agg [i64 a0_,i64 a1_,i64 a2_,i64 a3_]):=Qfj (V0 Kw (V0 Kw (V0 Kw (V0 Kw (Qb3)))))
abbrev J3(x:Jk):Ly:=.agg [str x.rest,i64 x.at_,bl x.over]
abbrev Qos(x:Qgm):Ly:=.agg [i64 x.Ad,str x.Text,i64 x.At]
abbrev Jm(x:Qv):Ly:=.agg [Qb x.T,Qb x.Al,Qb x.H,Qb x.Err,Qd x.Y,bl x.Ok]
abbrev Qzn(xs:List Qv):Ly:=sli 14 (xs.map Jm)
abbrev Q5(x:Qp):Ly:=.agg [Qzn x.Aa,Qb x.T,Qd x.Y]
abbrev Qjn(x:Kh):Ly:=.agg [i64 x.op,i64 x.a,i64 x.b]
abbrev Qv3(x:Qns):Ly:=.agg [Kd x.k,Q5 x.h,Qb x.want]
abbrev Q9(x:Qy):Ly:=.agg [Qam x.Ys,Qam x.Ks,Qd x.Next,Qd x.Err]
abbrev Qkp(x:Y4):Ly:=.agg [i64 x.Seen,i64 x.Peak]
abbrev Qh(x:Qg):Ly:=.agg [Qkp x.Count,i64 x.limit]
theorem Q2{a0_0_ a0_1_ a1_}:IF (.agg [.agg [i64 a0_0_,i64 a0_1_],i64 a1_]):=Qfj (V0 (Qfj (V0 Kw (V0 Kw (Qb3)))) (V0 Kw (Qb3)))
abbrev Wt(x:Km):Ly:=.agg [Qb x.T,Qd x.Y,Qd x.P]
abbrev Xm(x:Xj):Ly:=.agg [Qb x.T,Qd x.Y,Qd x.P]
abbrev J9(x:Jb):Ly:=.agg [Qd x.Y,Qd x.P]
abbrev Ky(x:Kf):Ly:=.agg [i64 x.Every,Qd x.Sizes,Qd x.Ts,Qam x.Ys]
abbrev Q0(x:Qr):Ly:=.agg [i64 x.From,i64 x.To]
abbrev Qtg(xs:List Qr):Ly:=sli 2 (xs.map Q0)
abbrev Qfe(x:Qa0):Ly:=.agg [Qtg x.l]
abbrev Qbf(x:Kn):Ly:=.agg [Qb x.T,Qd x.Y,Qd x.P]
abbrev Q1q(x:Qsn):Ly:=.agg [Q6 x.t,Qd x.done,Qd x.co,Qbf x.grad]
abbrev Qae(x:Ws):Ly:=.agg [Qam x.Y,Qam x.P]
abbrev X7(x:Jf):Ly:=.agg [Qd x.Next,Qd x.Err,Q9 x.Made]
abbrev Qw(x:Qs):Ly:=.agg [Qb x.V,Qb x.D]
theorem Kr{a0_0_0_ a0_0_1_ a0_1_ a1_0_0_ a1_0_1_ a1_1_}:IF (.agg [.agg [.agg [bl a0_0_0_,sli 1 a0_0_1_],sli 1 a0_1_],.agg [.agg [bl a1_0_0_,sli 1 a1_0_1_],sli 1 a1_1_]]):=Qfj (V0 (Qfj (V0 (Qfj (V0 if_bl (V0 Yi (Qb3)))) (V0 Yi (Qb3)))) (V0 (Qfj (V0 (Qfj (V0 if_bl (V0 Yi (Qb3)))) (V0 Yi (Qb3)))) (Qb3)))
abbrev Qpp(xs:List Qs):Ly:=sli 6 (xs.map Qw)
abbrev Xn(x:Xk):Ly:=.agg [Qw x.T,Qpp x.Y,Qpp x.P]
instance ti_38:CTy Ub 38 38 696 (.agg #[Ua,Ua,.int .i64 0,.int .i64 0,.string ⟨#[]⟩,Ua,Ua,Ua,Ua,Ua,.int .i64 0,.bool false,Ua,Ua,.bool false,Ua,Ua,.bool false,Ua,Ua,.bool false,Ua,Ua,.bool false,Ua,Ua,.int .i64 0,.int .i64 0,.bool false,Ua,Ua,.bool false,Ua,Ua,.bool false,Ua,Ua,Ua]):=⟨tyI od⟩
instance sh_38:CSh Ub 38 true 38:=⟨shp Uz rfl ti_38.h⟩
instance ti_31:CTy Ub 31 11 208 (.agg #[Ua,Ua,.int .i64 0,.int .i64 0,.string ⟨#[]⟩,Ua,Ua,Ua,Ua,Ua,.int .i64 0]):=⟨tyI od⟩
instance Jeu:CFd Ub 38 0 0:=⟨fdA Uz rfl rfl ti_31.h rfl⟩
instance sh_31:CSh Ub 31 true 11:=⟨shp Gf rfl ti_31.h⟩
instance ti_25:CTy Ub 25 4 64 (.agg #[Ua,Ua,.int .i64 0,.int .i64 0]):=⟨tyI od⟩
instance Jev:CFd Ub 31 0 0:=⟨fdA Gf rfl rfl ti_25.h rfl⟩
instance sh_25:CSh Ub 25 true 4:=⟨shp Gg rfl ti_25.h⟩
instance ti_22:CTy Ub 22 1 24 (Ua):=⟨tyI od⟩
instance Jew:CFd Ub 25 0 0:=⟨fdA Gg rfl rfl ti_22.h rfl⟩
instance:CUn Ub 22 (.slice 140):=⟨underlying22⟩
instance sh_22:CSh Ub 22 false 1:=⟨shp underlying22 rfl ti_22.h⟩
instance Q5a:CTy Ub 140 6 80 (.agg #[.int .i64 0,.int .i64 0,.int .i64 0,.bool false,Ua,Ua]):=⟨tyI od⟩
instance ti_34:CTy Ub 34 3 56 (.agg #[.bool false,Ua,Ua]):=⟨tyI od⟩
instance Jch:CFd Ub 140 3 3:=⟨fdA Gh rfl rfl ti_34.h rfl⟩
instance sh_34:CSh Ub 34 true 3:=⟨shp Gv rfl ti_34.h⟩
instance ti_32:CTy Ub 32 1 24 (Ua):=⟨tyI od⟩
instance Jex:CFd Ub 34 1 1:=⟨fdA Gv rfl rfl ti_32.h rfl⟩
instance:CUn Ub 32 (.slice 175):=⟨Up⟩
instance sh_32:CSh Ub 32 false 1:=⟨shp Up rfl ti_32.h⟩
instance Jey:CFd Ub 34 2 2:=⟨fdA Gv rfl rfl ti_32.h rfl⟩
instance ti_23:CTy Ub 23 1 24 (Ua):=⟨tyI od⟩
instance Jez:CFd Ub 25 1 1:=⟨fdA Gg rfl rfl ti_23.h rfl⟩
instance:CUn Ub 23 (.slice 3):=⟨Uy⟩
instance sh_23:CSh Ub 23 false 1:=⟨shp Uy rfl ti_23.h⟩
instance ti_29:CTy Ub 29 5 112 (.agg #[.string ⟨#[]⟩,Ua,Ua,Ua,Ua]):=⟨tyI od⟩
instance Je0:CFd Ub 31 1 4:=⟨fdA Gf rfl rfl ti_29.h rfl⟩
instance sh_29:CSh Ub 29 true 5:=⟨shp U7 rfl ti_29.h⟩
instance ti_9:CTy Ub 9 1 16 (.string ⟨#[]⟩):=⟨tyI od⟩
instance Je1:CFd Ub 29 0 0:=⟨fdA U7 rfl rfl ti_9.h rfl⟩
instance:CUn Ub 9 (.string):=⟨Uu⟩
instance sh_9:CSh Ub 9 false 1:=⟨shp Uu rfl ti_9.h⟩
instance ti_27:CTy Ub 27 1 24 (Ua):=⟨tyI od⟩
instance Je2:CFd Ub 29 2 2:=⟨fdA U7 rfl rfl ti_27.h rfl⟩
instance:CUn Ub 27 (.slice 26):=⟨underlying27⟩
instance sh_27:CSh Ub 27 false 1:=⟨shp underlying27 rfl ti_27.h⟩
instance ti_26:CTy Ub 26 1 24 (Ua):=⟨tyI od⟩
instance Je3:CFd Ub 29 3 3:=⟨fdA U7 rfl rfl ti_26.h rfl⟩
instance:CUn Ub 26 (.slice 34):=⟨underlying26⟩
instance sh_26:CSh Ub 26 false 1:=⟨shp underlying26 rfl ti_26.h⟩
instance Je4:CFd Ub 29 1 1:=⟨fdA U7 rfl rfl ti_26.h rfl⟩
instance Je5:CFd Ub 29 4 4:=⟨fdA U7 rfl rfl ti_26.h rfl⟩
instance Je6:CFd Ub 31 2 9:=⟨fdA Gf rfl rfl ti_26.h rfl⟩
instance ti_3:CTy Ub 3 1 8 (.int .i64 0):=⟨tyI od⟩
instance Je7:CFd Ub 31 3 10:=⟨fdA Gf rfl rfl ti_3.h rfl⟩
instance:CUn Ub 3 (.int .i64):=⟨Uq⟩
instance sh_3:CSh Ub 3 false 1:=⟨shp Uq rfl ti_3.h⟩
instance ti_36:CTy Ub 36 17 296 (.agg #[.bool false,Ua,Ua,.bool false,Ua,Ua,.bool false,Ua,Ua,.bool false,Ua,Ua,.bool false,Ua,Ua,.int .i64 0,.int .i64 0]):=⟨tyI od⟩
instance Je8:CFd Ub 38 1 11:=⟨fdA Uz rfl rfl ti_36.h rfl⟩
instance sh_36:CSh Ub 36 true 17:=⟨shp Uv rfl ti_36.h⟩
instance Je9:CFd Ub 36 0 0:=⟨fdA Uv rfl rfl ti_34.h rfl⟩
instance Jfa:CFd Ub 36 1 3:=⟨fdA Uv rfl rfl ti_34.h rfl⟩
instance Jfb:CFd Ub 36 2 6:=⟨fdA Uv rfl rfl ti_34.h rfl⟩
instance Jfc:CFd Ub 36 3 9:=⟨fdA Uv rfl rfl ti_34.h rfl⟩
instance Jfd:CFd Ub 36 4 12:=⟨fdA Uv rfl rfl ti_34.h rfl⟩
instance Jfe:CFd Ub 36 6 16:=⟨fdA Uv rfl rfl ti_3.h rfl⟩
instance Jff:CFd Ub 38 2 28:=⟨fdA Uz rfl rfl ti_34.h rfl⟩
instance Jfg:CFd Ub 38 3 31:=⟨fdA Uz rfl rfl ti_34.h rfl⟩
instance Jfh:CFd Ub 38 4 34:=⟨fdA Uz rfl rfl ti_34.h rfl⟩
instance Jfi:CFd Ub 38 5 37:=⟨fdA Uz rfl rfl ti_26.h rfl⟩
instance ti_57:CTy Ub 57 38 696 (.agg #[Ua,Ua,.int .i64 0,.int .i64 0,.string ⟨#[]⟩,Ua,Ua,Ua,Ua,Ua,.int .i64 0,.bool false,Ua,Ua,.bool false,Ua,Ua,.bool false,Ua,Ua,.bool false,Ua,Ua,.bool false,Ua,Ua,.int .i64 0,.int .i64 0,.bool false,Ua,Ua,.bool false,Ua,Ua,.bool false,Ua,Ua,Ua]):=⟨tyI od⟩
theorem Vh:Zr (Q1 (⟨false,[]⟩:Qf)) [.bool false,Ua]:=Kl (Qn (c1:=[.bool false]) zr_bl (Qn (c1:=[Ua]) (Js (k:=1)) (Jz)))
theorem Jd:Zr (Qb (⟨(⟨false,[]⟩:Qf),[]⟩:Qa)) [.bool false,Ua,Ua]:=Kl (Qn (c1:=[.bool false,Ua]) Vh (Qn (c1:=[Ua]) (Js (k:=1)) (Jz)))
theorem Qhp:Zr (Vr (⟨(⟨(⟨false,[]⟩:Qf),[]⟩:Qa),(⟨(⟨false,[]⟩:Qf),[]⟩:Qa),(⟨(⟨false,[]⟩:Qf),[]⟩:Qa),(⟨(⟨false,[]⟩:Qf),[]⟩:Qa),(⟨(⟨false,[]⟩:Qf),[]⟩:Qa),0,0⟩:Q7)) [.bool false,Ua,Ua,.bool false,Ua,Ua,.bool false,Ua,Ua,.bool false,Ua,Ua,.bool false,Ua,Ua,.int .i64 0,.int .i64 0]:=Kl (Qn (c1:=[.bool false,Ua,Ua]) Jd (Qn (c1:=[.bool false,Ua,Ua]) Jd (Qn (c1:=[.bool false,Ua,Ua]) Jd (Qn (c1:=[.bool false,Ua,Ua]) Jd (Qn (c1:=[.bool false,Ua,Ua]) Jd (Qn (c1:=[.int .i64 0]) Wh (Qn (c1:=[.int .i64 0]) Wh (Jz))))))))
theorem Zc:Zr (Jg (⟨[],[],[],[],[]⟩:Qq)) [.string ⟨#[]⟩,Ua,Ua,Ua,Ua]:=Kl (Qn (c1:=[.string ⟨#[]⟩]) Qg2 (Qn (c1:=[Ua]) (Js (k:=3)) (Qn (c1:=[Ua]) (Js (k:=1)) (Qn (c1:=[Ua]) (Js (k:=3)) (Qn (c1:=[Ua]) (Js (k:=3)) (Jz))))))
theorem Qix:Zr (Q6 (⟨[],[],0,0⟩:Qk)) [Ua,Ua,.int .i64 0,.int .i64 0]:=Kl (Qn (c1:=[Ua]) (Js (k:=6)) (Qn (c1:=[Ua]) (Js (k:=1)) (Qn (c1:=[.int .i64 0]) Wh (Qn (c1:=[.int .i64 0]) Wh (Jz)))))
theorem Yo:Zr (Qj (⟨(⟨[],[],0,0⟩:Qk),(⟨[],[],[],[],[]⟩:Qq),[],0⟩:Qe)) [Ua,Ua,.int .i64 0,.int .i64 0,.string ⟨#[]⟩,Ua,Ua,Ua,Ua,Ua,.int .i64 0]:=Kl (Qn (c1:=[Ua,Ua,.int .i64 0,.int .i64 0]) Qix (Qn (c1:=[.string ⟨#[]⟩,Ua,Ua,Ua,Ua]) Zc (Qn (c1:=[Ua]) (Js (k:=3)) (Qn (c1:=[.int .i64 0]) Wh (Jz)))))
theorem Qhq:Zr (Kd (⟨(⟨(⟨[],[],0,0⟩:Qk),(⟨[],[],[],[],[]⟩:Qq),[],0⟩:Qe),(⟨(⟨(⟨false,[]⟩:Qf),[]⟩:Qa),(⟨(⟨false,[]⟩:Qf),[]⟩:Qa),(⟨(⟨false,[]⟩:Qf),[]⟩:Qa),(⟨(⟨false,[]⟩:Qf),[]⟩:Qa),(⟨(⟨false,[]⟩:Qf),[]⟩:Qa),0,0⟩:Q7),(⟨(⟨false,[]⟩:Qf),[]⟩:Qa),(⟨(⟨false,[]⟩:Qf),[]⟩:Qa),(⟨(⟨false,[]⟩:Qf),[]⟩:Qa),[]⟩:Jl)) [Ua,Ua,.int .i64 0,.int .i64 0,.string ⟨#[]⟩,Ua,Ua,Ua,Ua,Ua,.int .i64 0,.bool false,Ua,Ua,.bool false,Ua,Ua,.bool false,Ua,Ua,.bool false,Ua,Ua,.bool false,Ua,Ua,.int .i64 0,.int .i64 0,.bool false,Ua,Ua,.bool false,Ua,Ua,.bool false,Ua,Ua,Ua]:=Kl (Qn (c1:=[Ua,Ua,.int .i64 0,.int .i64 0,.string ⟨#[]⟩,Ua,Ua,Ua,Ua,Ua,.int .i64 0]) Yo (Qn (c1:=[.bool false,Ua,Ua,.bool false,Ua,Ua,.bool false,Ua,Ua,.bool false,Ua,Ua,.bool false,Ua,Ua,.int .i64 0,.int .i64 0]) Qhp (Qn (c1:=[.bool false,Ua,Ua]) Jd (Qn (c1:=[.bool false,Ua,Ua]) Jd (Qn (c1:=[.bool false,Ua,Ua]) Jd (Qn (c1:=[Ua]) (Js (k:=3)) (Jz)))))))
instance:CZy Ub 57 (Kd (⟨(⟨(⟨[],[],0,0⟩:Qk),(⟨[],[],[],[],[]⟩:Qq),[],0⟩:Qe),(⟨(⟨(⟨false,[]⟩:Qf),[]⟩:Qa),(⟨(⟨false,[]⟩:Qf),[]⟩:Qa),(⟨(⟨false,[]⟩:Qf),[]⟩:Qa),(⟨(⟨false,[]⟩:Qf),[]⟩:Qa),(⟨(⟨false,[]⟩:Qf),[]⟩:Qa),0,0⟩:Q7),(⟨(⟨false,[]⟩:Qf),[]⟩:Qa),(⟨(⟨false,[]⟩:Qf),[]⟩:Qa),(⟨(⟨false,[]⟩:Qf),[]⟩:Qa),[]⟩:Jl)):=⟨_,_,_,ti_57.h,Qhq⟩
instance ti_96:CTy Ub 96 6 80 (.agg #[.int .i64 0,.int .i64 0,.int .i64 0,.bool false,Ua,Ua]):=⟨tyI od⟩
instance pl_96:CPl Ub 96 [(0,1),(1,1),(2,1),(3,3)]:=⟨⟨_,U8,od⟩⟩
theorem Qll:Zr (J4 (⟨0,0,0,(⟨(⟨false,[]⟩:Qf),[]⟩:Qa)⟩:Qt)) [.int .i64 0,.int .i64 0,.int .i64 0,.bool false,Ua,Ua]:=Kl (Qn (c1:=[.int .i64 0]) Wh (Qn (c1:=[.int .i64 0]) Wh (Qn (c1:=[.int .i64 0]) Wh (Qn (c1:=[.bool false,Ua,Ua]) Jd (Jz)))))
instance:CUn Ub 41 (.slice 96):=⟨Gu⟩
instance ti_43:CTy Ub 43 4 64 (.agg #[Ua,Ua,.int .i64 0,.int .i64 0]):=⟨tyI od⟩
instance pl_43:CPl Ub 43 [(0,1),(1,1),(2,1),(3,1)]:=⟨⟨_,U9,od⟩⟩
instance:CZy Ub 43 (Q6 (⟨[],[],0,0⟩:Qk)):=⟨_,_,_,ti_43.h,Qix⟩
instance sh_43:CSh Ub 43 true 4:=⟨shp U9 rfl ti_43.h⟩
instance ti_47:CTy Ub 47 5 112 (.agg #[.string ⟨#[]⟩,Ua,Ua,Ua,Ua]):=⟨tyI od⟩
instance:CZy Ub 47 (Jg (⟨[],[],[],[],[]⟩:Qq)):=⟨_,_,_,ti_47.h,Zc⟩
instance Qzo:CTy Ub 141 6 96 (.agg #[.string ⟨#[]⟩,.string ⟨#[]⟩,.string ⟨#[]⟩,.string ⟨#[]⟩,.string ⟨#[]⟩,.string ⟨#[]⟩]):=⟨tyI od⟩
theorem Qql:Zr (Qj0 (⟨[],[],[],[],[],[]⟩:Qg4)) [.string ⟨#[]⟩,.string ⟨#[]⟩,.string ⟨#[]⟩,.string ⟨#[]⟩,.string ⟨#[]⟩,.string ⟨#[]⟩]:=Kl (Qn (c1:=[.string ⟨#[]⟩]) Qg2 (Qn (c1:=[.string ⟨#[]⟩]) Qg2 (Qn (c1:=[.string ⟨#[]⟩]) Qg2 (Qn (c1:=[.string ⟨#[]⟩]) Qg2 (Qn (c1:=[.string ⟨#[]⟩]) Qg2 (Qn (c1:=[.string ⟨#[]⟩]) Qg2 (Jz)))))))
instance:CZy Ub 141 (Qj0 (⟨[],[],[],[],[],[]⟩:Qg4)):=⟨_,_,_,Qzo.h,Qql⟩
instance:CUn Ub 141 (.array 6 9):=⟨Gr⟩
instance Jgw:CSh Ub 141 true 6:=⟨shp Gr rfl Qzo.h⟩
instance ti_63:CTy Ub 63 4 32 (.agg #[.int .i64 0,.int .i64 0,.int .i64 0,.int .i64 0]):=⟨tyI od⟩
theorem Qm:Zr (Qi (⟨0,0,0,0⟩:Qc)) [.int .i64 0,.int .i64 0,.int .i64 0,.int .i64 0]:=Kl (Qn (c1:=[.int .i64 0]) Wh (Qn (c1:=[.int .i64 0]) Wh (Qn (c1:=[.int .i64 0]) Wh (Qn (c1:=[.int .i64 0]) Wh (Jz)))))
instance:CZy Ub 63 (Qi (⟨0,0,0,0⟩:Qc)):=⟨_,_,_,ti_63.h,Qm⟩
instance pl_47:CPl Ub 47 [(0,1),(1,1),(2,1),(3,1),(4,1)]:=⟨⟨_,U0,od⟩⟩
instance pl_63:CPl Ub 63 [(0,1),(1,1),(2,1),(3,1)]:=⟨⟨_,U4,od⟩⟩
instance sh_47:CSh Ub 47 true 5:=⟨shp U0 rfl ti_47.h⟩
instance sh_63:CSh Ub 63 true 4:=⟨shp U4 rfl ti_63.h⟩
instance Jax:CTy Ub 228 3 32 (.agg #[.string ⟨#[]⟩,.int .i64 0,.bool false]):=⟨tyI od⟩
instance Jay:CPl Ub 228 [(0,1),(1,1),(2,1)]:=⟨⟨_,Gw,od⟩⟩
theorem Qth:Zr (J3 (⟨[],0,false⟩:Jk)) [.string ⟨#[]⟩,.int .i64 0,.bool false]:=Kl (Qn (c1:=[.string ⟨#[]⟩]) Qg2 (Qn (c1:=[.int .i64 0]) Wh (Qn (c1:=[.bool false]) zr_bl (Jz))))
instance ti_4:CTy Ub 4 1 1 (.bool false):=⟨tyI od⟩
instance Jci:CFd Ub 228 2 2:=⟨fdA Gw rfl rfl ti_4.h rfl⟩
instance:CUn Ub 4 (.bool):=⟨underlying4⟩
instance sh_4:CSh Ub 4 false 1:=⟨shp underlying4 rfl ti_4.h⟩
instance Jcj:CFd Ub 228 1 1:=⟨fdA Gw rfl rfl ti_3.h rfl⟩
theorem fol:Tryz.prog.follows .mixedOrders=true:=od
instance Jck:CFd Ub 228 0 0:=⟨fdA Gw rfl rfl ti_9.h rfl⟩
instance Jfj:CFd Ub 47 0 0:=⟨fdA U0 rfl rfl ti_9.h rfl⟩
instance Q5b:CTy Ub 233 3 32 (.agg #[.int .i64 0,.string ⟨#[]⟩,.int .i64 0]):=⟨tyI od⟩
instance Q5c:CPl Ub 233 [(0,1),(1,1),(2,1)]:=⟨⟨_,G3,od⟩⟩
theorem Qso:Zr (Qos (⟨0,[],0⟩:Qgm)) [.int .i64 0,.string ⟨#[]⟩,.int .i64 0]:=Kl (Qn (c1:=[.int .i64 0]) Wh (Qn (c1:=[.string ⟨#[]⟩]) Qg2 (Qn (c1:=[.int .i64 0]) Wh (Jz))))
instance Jcl:CFd Ub 233 1 1:=⟨fdA G3 rfl rfl ti_9.h rfl⟩
instance Jcm:CFd Ub 233 0 0:=⟨fdA G3 rfl rfl ti_3.h rfl⟩
instance:CUn Ub 21 (.int .i32):=⟨underlying21⟩
instance:CUn Ub 5 (.int .u8):=⟨underlying5⟩
instance ti_53:CTy Ub 53 3 56 (.agg #[.bool false,Ua,Ua]):=⟨tyI od⟩
instance:CZy Ub 53 (Qb (⟨(⟨false,[]⟩:Qf),[]⟩:Qa)):=⟨_,_,_,ti_53.h,Jd⟩
instance ti_51:CTy Ub 51 2 32 (.agg #[.bool false,Ua]):=⟨tyI od⟩
instance:CZy Ub 51 (Q1 (⟨false,[]⟩:Qf)):=⟨_,_,_,ti_51.h,Vh⟩
instance:CUn Ub 175 (.int .u32):=⟨underlying175⟩
instance Qbs:CTy Ub 175 1 4 (.int .u32 0):=⟨tyI od⟩
instance Jgx:CSh Ub 175 false 1:=⟨shp underlying175 rfl Qbs.h⟩
instance:CUn Ub 121 (.int .u64):=⟨underlying121⟩
theorem Jp:EqF Ub 2 63 (λx:Qc=>.agg [i64 x.Ad,i64 x.Step,i64 x.Am,i64 x.At]) Qo:=
 Qop U4 od (Qcd rfl rfl sh_3.h (λ_=>rfl) (λ_=>rfl) (Qeb (λx:Qc=>x.Ad) (Qgk (n:=0) Uq)) (Qcd rfl rfl sh_3.h (λ_=>rfl) (λ_=>rfl) (Qeb (λx:Qc=>x.Step) (Qgk (n:=0) Uq)) (Qcd rfl rfl sh_3.h (λ_=>rfl) (λ_=>rfl) (Qeb (λx:Qc=>x.Am) (Qgk (n:=0) Uq)) (Qcd rfl rfl sh_3.h (λ_=>rfl) (λ_=>rfl) (Qeb (λx:Qc=>x.At) (Qgk (n:=0) Uq)) (Qtf)))))
theorem eg_63:Tryz.prog.eqGuardType Tryz.prog.depth 63=false:=od
instance Jfk:CFd Ub 63 3 3:=⟨fdA U4 rfl rfl ti_3.h rfl⟩
instance pl_51:CPl Ub 51 [(0,1),(1,1)]:=⟨⟨_,Gi,od⟩⟩
instance sh_51:CSh Ub 51 true 2:=⟨shp Gi rfl ti_51.h⟩
instance pl_53:CPl Ub 53 [(0,2),(2,1)]:=⟨⟨_,Gx,od⟩⟩
instance sh_53:CSh Ub 53 true 3:=⟨shp Gx rfl ti_53.h⟩
instance Jfl:CFd Ub 51 1 1:=⟨fdA Gi rfl rfl ti_32.h rfl⟩
instance Jfm:CFd Ub 51 0 0:=⟨fdA Gi rfl rfl ti_4.h rfl⟩
instance:CUn Ub 295 (.slice 32):=⟨Gs⟩
instance:CUn Ub 305 (.slice 9):=⟨underlying305⟩
instance:CUn Ub 44 (.slice 53):=⟨Uk⟩
instance ti_44:CTy Ub 44 1 24 (Ua):=⟨tyI od⟩
instance Jfn:CFd Ub 47 1 1:=⟨fdA U0 rfl rfl ti_44.h rfl⟩
instance sh_44:CSh Ub 44 false 1:=⟨shp Uk rfl ti_44.h⟩
instance ti_45:CTy Ub 45 1 24 (Ua):=⟨tyI od⟩
instance Jfo:CFd Ub 47 2 2:=⟨fdA U0 rfl rfl ti_45.h rfl⟩
instance:CUn Ub 45 (.slice 44):=⟨Ul⟩
instance sh_45:CSh Ub 45 false 1:=⟨shp Ul rfl ti_45.h⟩
instance Jfp:CFd Ub 47 3 3:=⟨fdA U0 rfl rfl ti_44.h rfl⟩
instance Jfq:CFd Ub 47 4 4:=⟨fdA U0 rfl rfl ti_44.h rfl⟩
instance Jfr:CFd Ub 53 1 2:=⟨fdA Gx rfl rfl ti_32.h rfl⟩
instance Jfs:CFd Ub 53 0 0:=⟨fdA Gx rfl rfl ti_51.h rfl⟩
instance ti_55:CTy Ub 55 17 296 (.agg #[.bool false,Ua,Ua,.bool false,Ua,Ua,.bool false,Ua,Ua,.bool false,Ua,Ua,.bool false,Ua,Ua,.int .i64 0,.int .i64 0]):=⟨tyI od⟩
instance:CZy Ub 55 (Vr (⟨(⟨(⟨false,[]⟩:Qf),[]⟩:Qa),(⟨(⟨false,[]⟩:Qf),[]⟩:Qa),(⟨(⟨false,[]⟩:Qf),[]⟩:Qa),(⟨(⟨false,[]⟩:Qf),[]⟩:Qa),(⟨(⟨false,[]⟩:Qf),[]⟩:Qa),0,0⟩:Q7)):=⟨_,_,_,ti_55.h,Qhp⟩
instance pl_55:CPl Ub 55 [(0,3),(3,3),(6,3),(9,3),(12,3),(15,1),(16,1)]:=⟨⟨_,Ur,od⟩⟩
instance sh_55:CSh Ub 55 true 17:=⟨shp Ur rfl ti_55.h⟩
instance Jft:CFd Ub 55 0 0:=⟨fdA Ur rfl rfl ti_53.h rfl⟩
instance ti_49:CTy Ub 49 11 208 (.agg #[Ua,Ua,.int .i64 0,.int .i64 0,.string ⟨#[]⟩,Ua,Ua,Ua,Ua,Ua,.int .i64 0]):=⟨tyI od⟩
instance pl_49:CPl Ub 49 [(0,4),(4,5),(9,1),(10,1)]:=⟨⟨_,Ga,od⟩⟩
instance pl_57:CPl Ub 57 [(0,11),(11,17),(28,3),(31,3),(34,3),(37,1)]:=⟨⟨_,Uw,od⟩⟩
instance sh_57:CSh Ub 57 true 38:=⟨shp Uw rfl ti_57.h⟩
instance ti_61:CTy Ub 61 5 104 (.agg #[Ua,.bool false,Ua,Ua,Ua]):=⟨tyI od⟩
theorem Qff:Zr (Q5 (⟨[],(⟨(⟨false,[]⟩:Qf),[]⟩:Qa),[]⟩:Qp)) [Ua,.bool false,Ua,Ua,Ua]:=Kl (Qn (c1:=[Ua]) (Js (k:=14)) (Qn (c1:=[.bool false,Ua,Ua]) Jd (Qn (c1:=[Ua]) (Js (k:=3)) (Jz))))
instance:CZy Ub 61 (Q5 (⟨[],(⟨(⟨false,[]⟩:Qf),[]⟩:Qa),[]⟩:Qp)):=⟨_,_,_,ti_61.h,Qff⟩
instance Jfu:CFd Ub 57 0 0:=⟨fdA Uw rfl rfl ti_49.h rfl⟩
instance sh_49:CSh Ub 49 true 11:=⟨shp Ga rfl ti_49.h⟩
instance Jfv:CFd Ub 49 0 0:=⟨fdA Ga rfl rfl ti_43.h rfl⟩
instance Jfw:CFd Ub 43 2 2:=⟨fdA U9 rfl rfl ti_3.h rfl⟩
instance Jfx:CFd Ub 43 3 3:=⟨fdA U9 rfl rfl ti_3.h rfl⟩
instance Jfy:CFd Ub 43 1 1:=⟨fdA U9 rfl rfl ti_23.h rfl⟩
instance ti_41:CTy Ub 41 1 24 (Ua):=⟨tyI od⟩
instance Jfz:CFd Ub 43 0 0:=⟨fdA U9 rfl rfl ti_41.h rfl⟩
instance sh_41:CSh Ub 41 false 1:=⟨shp Gu rfl ti_41.h⟩
instance sh_96:CSh Ub 96 true 6:=⟨shp U8 rfl ti_96.h⟩
instance:CZy Ub 96 (J4 (⟨0,0,0,(⟨(⟨false,[]⟩:Qf),[]⟩:Qa)⟩:Qt)):=⟨_,_,_,ti_96.h,Qll⟩
instance Jf0:CFd Ub 96 0 0:=⟨fdA U8 rfl rfl ti_3.h rfl⟩
instance Qqm:CTy Ub 277 3 24 (.agg #[.int .i64 0,.int .i64 0,.int .i64 0]):=⟨tyI od⟩
theorem Qfg:Zr (Qjn (⟨0,0,0⟩:Kh)) [.int .i64 0,.int .i64 0,.int .i64 0]:=Kl (Qn (c1:=[.int .i64 0]) Wh (Qn (c1:=[.int .i64 0]) Wh (Qn (c1:=[.int .i64 0]) Wh (Jz))))
instance:CZy Ub 277 (Qjn (⟨0,0,0⟩:Kh)):=⟨_,_,_,Qqm.h,Qfg⟩
instance Jf1:CFd Ub 96 1 1:=⟨fdA U8 rfl rfl ti_3.h rfl⟩
instance Jf2:CFd Ub 96 2 2:=⟨fdA U8 rfl rfl ti_3.h rfl⟩
instance Qzp:CPl Ub 277 [(0,1),(1,1),(2,1)]:=⟨⟨_,G4,od⟩⟩
instance Jgy:CSh Ub 277 true 3:=⟨shp G4 rfl Qqm.h⟩
theorem Qzq:EqF Ub 2 277 (λx:Kh=>.agg [i64 x.op,i64 x.a,i64 x.b]) Z6:=
 Qop G4 od (Qcd rfl rfl sh_3.h (λ_=>rfl) (λ_=>rfl) (Qeb (λx:Kh=>x.op) (Qgk (n:=0) Uq)) (Qcd rfl rfl sh_3.h (λ_=>rfl) (λ_=>rfl) (Qeb (λx:Kh=>x.a) (Qgk (n:=0) Uq)) (Qcd rfl rfl sh_3.h (λ_=>rfl) (λ_=>rfl) (Qeb (λx:Kh=>x.b) (Qgk (n:=0) Uq)) (Qtf))))
theorem Q5d:Tryz.prog.eqGuardType Tryz.prog.depth 277=false:=od
instance Jf3:CFd Ub 96 3 3:=⟨fdA U8 rfl rfl ti_53.h rfl⟩
instance Jf4:CFd Ub 49 1 4:=⟨fdA Ga rfl rfl ti_47.h rfl⟩
instance Jf5:CFd Ub 49 2 9:=⟨fdA Ga rfl rfl ti_44.h rfl⟩
instance Jf6:CFd Ub 57 1 11:=⟨fdA Uw rfl rfl ti_55.h rfl⟩
instance Jf7:CFd Ub 55 1 3:=⟨fdA Ur rfl rfl ti_53.h rfl⟩
instance Jf8:CFd Ub 55 2 6:=⟨fdA Ur rfl rfl ti_53.h rfl⟩
instance Jf9:CFd Ub 55 3 9:=⟨fdA Ur rfl rfl ti_53.h rfl⟩
instance Jga:CFd Ub 55 4 12:=⟨fdA Ur rfl rfl ti_53.h rfl⟩
instance Jgb:CFd Ub 55 5 15:=⟨fdA Ur rfl rfl ti_3.h rfl⟩
instance Jgc:CFd Ub 55 6 16:=⟨fdA Ur rfl rfl ti_3.h rfl⟩
instance Jgd:CFd Ub 57 5 37:=⟨fdA Uw rfl rfl ti_44.h rfl⟩
instance Jge:CFd Ub 57 3 31:=⟨fdA Uw rfl rfl ti_53.h rfl⟩
instance Jgf:CFd Ub 57 2 28:=⟨fdA Uw rfl rfl ti_53.h rfl⟩
instance Jgg:CFd Ub 57 4 34:=⟨fdA Uw rfl rfl ti_53.h rfl⟩
instance pl_61:CPl Ub 61 [(0,1),(1,3),(4,1)]:=⟨⟨_,Gj,od⟩⟩
instance sh_61:CSh Ub 61 true 5:=⟨shp Gj rfl ti_61.h⟩
instance Jaz:CTy Ub 131 46 856 (.agg #[Ua,Ua,.int .i64 0,.int .i64 0,.string ⟨#[]⟩,Ua,Ua,Ua,Ua,Ua,.int .i64 0,.bool false,Ua,Ua,.bool false,Ua,Ua,.bool false,Ua,Ua,.bool false,Ua,Ua,.bool false,Ua,Ua,.int .i64 0,.int .i64 0,.bool false,Ua,Ua,.bool false,Ua,Ua,.bool false,Ua,Ua,Ua,Ua,.bool false,Ua,Ua,Ua,.bool false,Ua,Ua]):=⟨tyI od⟩
instance Ja0:CPl Ub 131 [(0,38),(38,5),(43,3)]:=⟨⟨_,Gy,od⟩⟩
theorem Que:Zr (Qv3 (⟨(⟨(⟨(⟨[],[],0,0⟩:Qk),(⟨[],[],[],[],[]⟩:Qq),[],0⟩:Qe),(⟨(⟨(⟨false,[]⟩:Qf),[]⟩:Qa),(⟨(⟨false,[]⟩:Qf),[]⟩:Qa),(⟨(⟨false,[]⟩:Qf),[]⟩:Qa),(⟨(⟨false,[]⟩:Qf),[]⟩:Qa),(⟨(⟨false,[]⟩:Qf),[]⟩:Qa),0,0⟩:Q7),(⟨(⟨false,[]⟩:Qf),[]⟩:Qa),(⟨(⟨false,[]⟩:Qf),[]⟩:Qa),(⟨(⟨false,[]⟩:Qf),[]⟩:Qa),[]⟩:Jl),(⟨[],(⟨(⟨false,[]⟩:Qf),[]⟩:Qa),[]⟩:Qp),(⟨(⟨false,[]⟩:Qf),[]⟩:Qa)⟩:Qns)) [Ua,Ua,.int .i64 0,.int .i64 0,.string ⟨#[]⟩,Ua,Ua,Ua,Ua,Ua,.int .i64 0,.bool false,Ua,Ua,.bool false,Ua,Ua,.bool false,Ua,Ua,.bool false,Ua,Ua,.bool false,Ua,Ua,.int .i64 0,.int .i64 0,.bool false,Ua,Ua,.bool false,Ua,Ua,.bool false,Ua,Ua,Ua,Ua,.bool false,Ua,Ua,Ua,.bool false,Ua,Ua]:=Kl (Qn (c1:=[Ua,Ua,.int .i64 0,.int .i64 0,.string ⟨#[]⟩,Ua,Ua,Ua,Ua,Ua,.int .i64 0,.bool false,Ua,Ua,.bool false,Ua,Ua,.bool false,Ua,Ua,.bool false,Ua,Ua,.bool false,Ua,Ua,.int .i64 0,.int .i64 0,.bool false,Ua,Ua,.bool false,Ua,Ua,.bool false,Ua,Ua,Ua]) Qhq (Qn (c1:=[Ua,.bool false,Ua,Ua,Ua]) Qff (Qn (c1:=[.bool false,Ua,Ua]) Jd (Jz))))
instance Jcn:CFd Ub 131 1 38:=⟨fdA Gy rfl rfl ti_61.h rfl⟩
instance Jgh:CFd Ub 61 1 1:=⟨fdA Gj rfl rfl ti_53.h rfl⟩
instance Jco:CFd Ub 131 0 0:=⟨fdA Gy rfl rfl ti_57.h rfl⟩
instance ti_59:CTy Ub 59 1 24 (Ua):=⟨tyI od⟩
instance Jgi:CFd Ub 61 0 0:=⟨fdA Gj rfl rfl ti_59.h rfl⟩
instance:CUn Ub 59 (.slice 191):=⟨U6⟩
instance sh_59:CSh Ub 59 false 1:=⟨shp U6 rfl ti_59.h⟩
instance Jcp:CFd Ub 131 2 43:=⟨fdA Gy rfl rfl ti_53.h rfl⟩
instance Jgj:CFd Ub 61 2 4:=⟨fdA Gj rfl rfl ti_44.h rfl⟩
instance Qlm:CTy Ub 186 4 96 (.agg #[Ua,Ua,Ua,Ua]):=⟨tyI od⟩
theorem Qd0:Zr (Q9 (⟨[],[],[],[]⟩:Qy)) [Ua,Ua,Ua,Ua]:=Kl (Qn (c1:=[Ua]) (Js (k:=1)) (Qn (c1:=[Ua]) (Js (k:=1)) (Qn (c1:=[Ua]) (Js (k:=3)) (Qn (c1:=[Ua]) (Js (k:=3)) (Jz)))))
instance:CZy Ub 186 (Q9 (⟨[],[],[],[]⟩:Qy)):=⟨_,_,_,Qlm.h,Qd0⟩
instance Q5e:CPl Ub 186 [(0,1),(1,1),(2,1),(3,1)]:=⟨⟨_,Gb,od⟩⟩
instance Jgz:CSh Ub 186 true 4:=⟨shp Gb rfl Qlm.h⟩
instance Jgk:CFd Ub 49 3 10:=⟨fdA Ga rfl rfl ti_3.h rfl⟩
instance Ja1:CTy Ub 160 3 24 (.agg #[.int .i64 0,.int .i64 0,.int .i64 0]):=⟨tyI od⟩
instance Ja2:CPl Ub 160 [(0,2),(2,1)]:=⟨⟨_,G5,od⟩⟩
theorem Qv4:Zr (Qkp (⟨0,0⟩:Y4)) [.int .i64 0,.int .i64 0]:=Kl (Qn (c1:=[.int .i64 0]) Wh (Qn (c1:=[.int .i64 0]) Wh (Jz)))
theorem Qv5:Zr (Qh (⟨(⟨0,0⟩:Y4),0⟩:Qg)) [.int .i64 0,.int .i64 0,.int .i64 0]:=Kl (Qn (c1:=[.int .i64 0,.int .i64 0]) Qv4 (Qn (c1:=[.int .i64 0]) Wh (Jz)))
instance Ja3:CTy Ub 219 23 448 (.agg #[Ua,Ua,.int .i64 0,.int .i64 0,.string ⟨#[]⟩,Ua,Ua,Ua,Ua,Ua,.int .i64 0,.bool false,Ua,Ua,.bool false,Ua,Ua,Ua,.pointer none,Ua,Ua,Ua,Ua]):=⟨tyI od⟩
instance Ja4:CPl Ub 219 [(0,11),(11,3),(14,3),(17,1),(18,1),(19,4)]:=⟨⟨_,U5,od⟩⟩
instance Jcq:CFd Ub 219 0 0:=⟨fdA U5 rfl rfl ti_49.h rfl⟩
instance Jcr:CFd Ub 219 3 17:=⟨fdA U5 rfl rfl ti_44.h rfl⟩
instance Jcs:CFd Ub 219 5 19:=⟨fdA U5 rfl rfl Qlm.h rfl⟩
instance Jct:CFd Ub 186 1 1:=⟨fdA Gb rfl rfl ti_45.h rfl⟩
instance Jcu:CFd Ub 219 2 14:=⟨fdA U5 rfl rfl ti_53.h rfl⟩
instance Qln:CTy Ub 110 1 8 (.pointer none):=⟨tyI od⟩
instance Jcv:CFd Ub 219 4 18:=⟨fdA U5 rfl rfl Qln.h rfl⟩
instance Jg0:CSh Ub 110 false 1:=⟨shp underlying110 rfl Qln.h⟩
instance Ja5:CTy Ub 158 2 16 (.agg #[.int .i64 0,.int .i64 0]):=⟨tyI od⟩
instance Jcw:CFd Ub 160 0 0:=⟨fdA G5 rfl rfl Ja5.h rfl⟩
instance Jcx:CFd Ub 158 0 0:=⟨fdA underlying158 rfl rfl ti_3.h rfl⟩
instance Jcy:CFd Ub 158 1 1:=⟨fdA underlying158 rfl rfl ti_3.h rfl⟩
instance Jcz:CFd Ub 160 1 2:=⟨fdA G5 rfl rfl ti_3.h rfl⟩
instance Jc0:CFd Ub 219 1 11:=⟨fdA U5 rfl rfl ti_53.h rfl⟩
instance Qlo:CTy Ub 290 5 104 (.agg #[.bool false,Ua,Ua,Ua,Ua]):=⟨tyI od⟩
theorem Qb6:Zr (Wt (⟨(⟨(⟨false,[]⟩:Qf),[]⟩:Qa),[],[]⟩:Km)) [.bool false,Ua,Ua,Ua,Ua]:=Kl (Qn (c1:=[.bool false,Ua,Ua]) Jd (Qn (c1:=[Ua]) (Js (k:=3)) (Qn (c1:=[Ua]) (Js (k:=3)) (Jz))))
instance:CZy Ub 290 (Wt (⟨(⟨(⟨false,[]⟩:Qf),[]⟩:Qa),[],[]⟩:Km)):=⟨_,_,_,Qlo.h,Qb6⟩
instance Qqn:CPl Ub 290 [(0,3),(3,1),(4,1)]:=⟨⟨_,Gk,od⟩⟩
instance Jg1:CSh Ub 290 true 5:=⟨shp Gk rfl Qlo.h⟩
instance Jc1:CFd Ub 290 0 0:=⟨fdA Gk rfl rfl ti_53.h rfl⟩
instance Jc2:CFd Ub 290 1 3:=⟨fdA Gk rfl rfl ti_44.h rfl⟩
instance Jc3:CFd Ub 290 2 4:=⟨fdA Gk rfl rfl ti_44.h rfl⟩
instance Qzr:CTy Ub 337 1 8 (.agg #[.pointer none]):=⟨tyI od⟩
instance Ja6:CPl Ub 337 [(0,1)]:=⟨⟨_,Uo,od⟩⟩
instance Qzs:CTy Ub 339 1 8 (.agg #[.pointer none]):=⟨tyI od⟩
instance Ja7:CPl Ub 339 [(0,1)]:=⟨⟨_,G6,od⟩⟩
instance Jg2:CSh Ub 339 true 1:=⟨shp G6 rfl Qzs.h⟩
instance Q5f:CTy Ub 341 5 104 (.agg #[.bool false,Ua,Ua,Ua,Ua]):=⟨tyI od⟩
instance Ja8:CPl Ub 341 [(0,3),(3,1),(4,1)]:=⟨⟨_,Gl,od⟩⟩
theorem Qlp:Zr (Xm (⟨(⟨(⟨false,[]⟩:Qf),[]⟩:Qa),[],[]⟩:Xj)) [.bool false,Ua,Ua,Ua,Ua]:=Kl (Qn (c1:=[.bool false,Ua,Ua]) Jd (Qn (c1:=[Ua]) (Js (k:=3)) (Qn (c1:=[Ua]) (Js (k:=3)) (Jz))))
instance Jc4:CFd Ub 341 1 3:=⟨fdA Gl rfl rfl ti_44.h rfl⟩
instance Jc5:CFd Ub 341 2 4:=⟨fdA Gl rfl rfl ti_44.h rfl⟩
instance Jg3:CSh Ub 341 true 5:=⟨shp Gl rfl Q5f.h⟩
instance Jc6:CFd Ub 339 0 0:=⟨fdA G6 rfl rfl Qzr.h rfl⟩
instance Qj9:CSh Ub 337 true 1:=⟨shp Uo rfl Qzr.h⟩
theorem Q3b:MethF Ub 337 "Neg" 294:=⟨od,_,Uo⟩
theorem Q3c:MethF Ub 337 "Pow" 296:=⟨od,_,Uo⟩
theorem Q3d:MethF Ub 337 "Add" 291:=⟨od,_,Uo⟩
theorem Q3e:MethF Ub 337 "Sub" 298:=⟨od,_,Uo⟩
theorem Q3f:MethF Ub 337 "Mul" 293:=⟨od,_,Uo⟩
theorem Q3g:MethF Ub 337 "Quo" 297:=⟨od,_,Uo⟩
theorem Q5g:MethF Ub 337 "Of" 295:=⟨od,_,Uo⟩
instance Jc7:CFd Ub 341 0 0:=⟨fdA Gl rfl rfl ti_53.h rfl⟩
theorem Q1r:MethF Ub 337 "Fits" 292:=⟨od,_,Uo⟩
instance Jc8:CFd Ub 337 0 0:=⟨fdA Uo rfl rfl Qln.h rfl⟩
instance Jgl:CFd Ub 63 2 2:=⟨fdA U4 rfl rfl ti_3.h rfl⟩
instance Jc9:CFd Ub 186 0 0:=⟨fdA Gb rfl rfl ti_45.h rfl⟩
instance Jda:CFd Ub 186 2 2:=⟨fdA Gb rfl rfl ti_44.h rfl⟩
instance Jdb:CFd Ub 186 3 3:=⟨fdA Gb rfl rfl ti_44.h rfl⟩
instance Jgm:CFd Ub 63 1 1:=⟨fdA U4 rfl rfl ti_3.h rfl⟩
instance Qka:CTy Ub 191 14 256 (.agg #[.bool false,Ua,Ua,.bool false,Ua,Ua,.bool false,Ua,Ua,.bool false,Ua,Ua,Ua,.bool false]):=⟨tyI od⟩
instance Q5h:CPl Ub 191 [(0,3),(3,3),(6,3),(9,3),(12,1),(13,1)]:=⟨⟨_,Ux,od⟩⟩
theorem Qm3:Zr (Jm (⟨(⟨(⟨false,[]⟩:Qf),[]⟩:Qa),(⟨(⟨false,[]⟩:Qf),[]⟩:Qa),(⟨(⟨false,[]⟩:Qf),[]⟩:Qa),(⟨(⟨false,[]⟩:Qf),[]⟩:Qa),[],false⟩:Qv)) [.bool false,Ua,Ua,.bool false,Ua,Ua,.bool false,Ua,Ua,.bool false,Ua,Ua,Ua,.bool false]:=Kl (Qn (c1:=[.bool false,Ua,Ua]) Jd (Qn (c1:=[.bool false,Ua,Ua]) Jd (Qn (c1:=[.bool false,Ua,Ua]) Jd (Qn (c1:=[.bool false,Ua,Ua]) Jd (Qn (c1:=[Ua]) (Js (k:=3)) (Qn (c1:=[.bool false]) zr_bl (Jz)))))))
instance:CZy Ub 191 (Jm (⟨(⟨(⟨false,[]⟩:Qf),[]⟩:Qa),(⟨(⟨false,[]⟩:Qf),[]⟩:Qa),(⟨(⟨false,[]⟩:Qf),[]⟩:Qa),(⟨(⟨false,[]⟩:Qf),[]⟩:Qa),[],false⟩:Qv)):=⟨_,_,_,Qka.h,Qm3⟩
instance Jg4:CSh Ub 191 true 14:=⟨shp Ux rfl Qka.h⟩
instance Jdc:CFd Ub 191 5 13:=⟨fdA Ux rfl rfl ti_4.h rfl⟩
theorem Q9d:∃ fs F,Tryz.prog.underlying 51=some (.struct fs)/\fs[1]?=some F/\F.offset=1/\Shp Ub F.type false 1:=⟨_,_,Gi,rfl,rfl,sh_32.h⟩
instance ti_80:CTy Ub 80 2 48 (.agg #[Ua,Ua]):=⟨tyI od⟩
theorem Wu:Zr (J9 (⟨[],[]⟩:Jb)) [Ua,Ua]:=Kl (Qn (c1:=[Ua]) (Js (k:=3)) (Qn (c1:=[Ua]) (Js (k:=3)) (Jz)))
instance:CZy Ub 80 (J9 (⟨[],[]⟩:Jb)):=⟨_,_,_,ti_80.h,Wu⟩
instance Jdd:CFd Ub 191 0 0:=⟨fdA Ux rfl rfl ti_53.h rfl⟩
instance Jde:CFd Ub 191 1 3:=⟨fdA Ux rfl rfl ti_53.h rfl⟩
instance Jdf:CFd Ub 191 2 6:=⟨fdA Ux rfl rfl ti_53.h rfl⟩
instance Jdg:CFd Ub 191 3 9:=⟨fdA Ux rfl rfl ti_53.h rfl⟩
instance Jdh:CFd Ub 191 4 12:=⟨fdA Ux rfl rfl ti_44.h rfl⟩
instance pl_80:CPl Ub 80 [(0,1),(1,1)]:=⟨⟨_,Gz,od⟩⟩
instance sh_80:CSh Ub 80 true 2:=⟨shp Gz rfl ti_80.h⟩
instance Quf:CTy Ub 106 4 80 (.agg #[.int .i64 0,Ua,Ua,Ua]):=⟨tyI od⟩
theorem Qqo:Zr (Ky (⟨0,[],[],[]⟩:Kf)) [.int .i64 0,Ua,Ua,Ua]:=Kl (Qn (c1:=[.int .i64 0]) Wh (Qn (c1:=[Ua]) (Js (k:=3)) (Qn (c1:=[Ua]) (Js (k:=3)) (Qn (c1:=[Ua]) (Js (k:=1)) (Jz)))))
instance:CZy Ub 106 (Ky (⟨0,[],[],[]⟩:Kf)):=⟨_,_,_,Quf.h,Qqo⟩
instance Ja9:CPl Ub 106 [(0,1),(1,1),(2,1),(3,1)]:=⟨⟨_,Gc,od⟩⟩
instance Jg5:CSh Ub 106 true 4:=⟨shp Gc rfl Quf.h⟩
instance Jdi:CFd Ub 106 1 1:=⟨fdA Gc rfl rfl ti_44.h rfl⟩
instance Jdj:CFd Ub 106 2 2:=⟨fdA Gc rfl rfl ti_44.h rfl⟩
instance Jdk:CFd Ub 106 3 3:=⟨fdA Gc rfl rfl ti_45.h rfl⟩
instance Jba:CTy Ub 113 18 344 (.agg #[Ua,Ua,.int .i64 0,.int .i64 0,.string ⟨#[]⟩,Ua,Ua,Ua,Ua,Ua,.int .i64 0,.int .i64 0,Ua,Ua,Ua,Ua,Ua,.pointer none]):=⟨tyI od⟩
instance Jbb:CPl Ub 113 [(0,11),(11,4),(15,1),(16,1),(17,1)]:=⟨⟨_,Gd,od⟩⟩
instance Jdl:CFd Ub 113 1 11:=⟨fdA Gd rfl rfl Quf.h rfl⟩
instance Q5i:CTy Ub 162 1 24 (.agg #[Ua]):=⟨tyI od⟩
theorem Qkq:Zr (Qfe (⟨[]⟩:Qa0)) [Ua]:=Kl (Qn (c1:=[Ua]) (Js (k:=2)) (Jz))
instance:CZy Ub 162 (Qfe (⟨[]⟩:Qa0)):=⟨_,_,_,Q5i.h,Qkq⟩
instance Qnt:CTy Ub 117 2 16 (.agg #[.int .i64 0,.int .i64 0]):=⟨tyI od⟩
instance Jbc:CPl Ub 117 [(0,1),(1,1)]:=⟨⟨_,Gm,od⟩⟩
theorem Qmh:Zr (Q0 (⟨0,0⟩:Qr)) [.int .i64 0,.int .i64 0]:=Kl (Qn (c1:=[.int .i64 0]) Wh (Qn (c1:=[.int .i64 0]) Wh (Jz)))
instance:CUn Ub 114 (.slice 117):=⟨Ge⟩
instance Q5j:CTy Ub 114 1 24 (Ua):=⟨tyI od⟩
instance Jdm:CFd Ub 162 0 0:=⟨fdA underlying162 rfl rfl Q5j.h rfl⟩
instance Jg6:CSh Ub 114 false 1:=⟨shp Ge rfl Q5j.h⟩
instance:CZy Ub 117 (Q0 (⟨0,0⟩:Qr)):=⟨_,_,_,Qnt.h,Qmh⟩
instance Jg7:CSh Ub 117 true 2:=⟨shp Gm rfl Qnt.h⟩
instance Jbd:CTy Ub 104 1 8 (.pointer none):=⟨tyI od⟩
instance Jg8:CSh Ub 104 false 1:=⟨shp underlying104 rfl Jbd.h⟩
instance Jdn:CFd Ub 113 0 0:=⟨fdA Gd rfl rfl ti_49.h rfl⟩
instance Jdo:CFd Ub 106 0 0:=⟨fdA Gc rfl rfl ti_3.h rfl⟩
theorem Q7j:EqF Ub 2 117 (λx:Qr=>.agg [i64 x.From,i64 x.To]) Z7:=
 Qop Gm od (Qcd rfl rfl sh_3.h (λ_=>rfl) (λ_=>rfl) (Qeb (λx:Qr=>x.From) (Qgk (n:=0) Uq)) (Qcd rfl rfl sh_3.h (λ_=>rfl) (λ_=>rfl) (Qeb (λx:Qr=>x.To) (Qgk (n:=0) Uq)) (Qtf)))
theorem Jbe:Tryz.prog.eqGuardType Tryz.prog.depth 117=false:=od
instance Jdp:CFd Ub 117 0 0:=⟨fdA Gm rfl rfl ti_3.h rfl⟩
instance Jdq:CFd Ub 117 1 1:=⟨fdA Gm rfl rfl ti_3.h rfl⟩
instance:CZy Ub 45 (sli 1 (List.map Qd [])):=⟨_,_,_,ti_45.h,(Js (k:=1))⟩
instance:CZy Ub 44 (sli 3 (List.map Qb [])):=⟨_,_,_,ti_44.h,(Js (k:=3))⟩
instance Jdr:CFd Ub 113 2 15:=⟨fdA Gd rfl rfl ti_44.h rfl⟩
instance Jgn:CFd Ub 63 0 0:=⟨fdA U4 rfl rfl ti_3.h rfl⟩
instance Jgo:CFd Ub 80 0 0:=⟨fdA Gz rfl rfl ti_44.h rfl⟩
instance Jgp:CFd Ub 80 1 1:=⟨fdA Gz rfl rfl ti_44.h rfl⟩
instance Jbf:CTy Ub 247 26 520 (.agg #[Ua,Ua,.int .i64 0,.int .i64 0,.string ⟨#[]⟩,Ua,Ua,Ua,Ua,Ua,.int .i64 0,.bool false,Ua,Ua,.bool false,Ua,Ua,Ua,Ua,Ua,Ua,Ua,Ua,Ua,Ua,.pointer none]):=⟨tyI od⟩
instance Jbg:CPl Ub 247 [(0,11),(11,3),(14,3),(17,1),(18,4),(22,1),(23,2),(25,1)]:=⟨⟨_,Us,od⟩⟩
instance Jds:CFd Ub 247 6 23:=⟨fdA Us rfl rfl ti_80.h rfl⟩
instance Jdt:CFd Ub 247 0 0:=⟨fdA Us rfl rfl ti_49.h rfl⟩
instance Jdu:CFd Ub 247 3 17:=⟨fdA Us rfl rfl ti_44.h rfl⟩
instance Jdv:CFd Ub 247 5 22:=⟨fdA Us rfl rfl ti_45.h rfl⟩
instance Jdw:CFd Ub 247 2 14:=⟨fdA Us rfl rfl ti_53.h rfl⟩
instance Jdx:CFd Ub 247 7 25:=⟨fdA Us rfl rfl Qln.h rfl⟩
instance Jdy:CFd Ub 247 1 11:=⟨fdA Us rfl rfl ti_53.h rfl⟩
instance Jdz:CFd Ub 247 4 18:=⟨fdA Us rfl rfl Qlm.h rfl⟩
instance Qug:CTy Ub 308 5 104 (.agg #[.bool false,Ua,Ua,Ua,Ua]):=⟨tyI od⟩
theorem Qlq:Zr (Qbf (⟨(⟨(⟨false,[]⟩:Qf),[]⟩:Qa),[],[]⟩:Kn)) [.bool false,Ua,Ua,Ua,Ua]:=Kl (Qn (c1:=[.bool false,Ua,Ua]) Jd (Qn (c1:=[Ua]) (Js (k:=3)) (Qn (c1:=[Ua]) (Js (k:=3)) (Jz))))
instance:CZy Ub 308 (Qbf (⟨(⟨(⟨false,[]⟩:Qf),[]⟩:Qa),[],[]⟩:Kn)):=⟨_,_,_,Qug.h,Qlq⟩
instance Jbh:CPl Ub 308 [(0,3),(3,1),(4,1)]:=⟨⟨_,Gn,od⟩⟩
instance Jg9:CSh Ub 308 true 5:=⟨shp Gn rfl Qug.h⟩
instance Jbi:CTy Ub 332 11 216 (.agg #[Ua,Ua,.int .i64 0,.int .i64 0,Ua,Ua,.bool false,Ua,Ua,Ua,Ua]):=⟨tyI od⟩
instance Jbj:CPl Ub 332 [(0,4),(4,1),(5,1),(6,5)]:=⟨⟨_,Gp,od⟩⟩
theorem Qzt:Zr (Q1q (⟨(⟨[],[],0,0⟩:Qk),[],[],(⟨(⟨(⟨false,[]⟩:Qf),[]⟩:Qa),[],[]⟩:Kn)⟩:Qsn)) [Ua,Ua,.int .i64 0,.int .i64 0,Ua,Ua,.bool false,Ua,Ua,Ua,Ua]:=Kl (Qn (c1:=[Ua,Ua,.int .i64 0,.int .i64 0]) Qix (Qn (c1:=[Ua]) (Js (k:=3)) (Qn (c1:=[Ua]) (Js (k:=3)) (Qn (c1:=[.bool false,Ua,Ua,Ua,Ua]) Qlq (Jz)))))
instance Jd0:CFd Ub 332 2 5:=⟨fdA Gp rfl rfl ti_44.h rfl⟩
instance Jd1:CFd Ub 332 0 0:=⟨fdA Gp rfl rfl ti_43.h rfl⟩
instance Jd2:CFd Ub 332 3 6:=⟨fdA Gp rfl rfl Qug.h rfl⟩
instance Jd3:CFd Ub 308 0 0:=⟨fdA Gn rfl rfl ti_53.h rfl⟩
instance Jd4:CFd Ub 308 1 3:=⟨fdA Gn rfl rfl ti_44.h rfl⟩
instance Jd5:CFd Ub 308 2 4:=⟨fdA Gn rfl rfl ti_44.h rfl⟩
instance Jd6:CFd Ub 332 1 4:=⟨fdA Gp rfl rfl ti_44.h rfl⟩
instance Jd7:CFd Ub 113 3 16:=⟨fdA Gd rfl rfl ti_44.h rfl⟩
instance Jd8:CFd Ub 113 4 17:=⟨fdA Gd rfl rfl Qln.h rfl⟩
instance:CZy Ub 49 (Qj (⟨(⟨[],[],0,0⟩:Qk),(⟨[],[],[],[],[]⟩:Qq),[],0⟩:Qe)):=⟨_,_,_,ti_49.h,Yo⟩
instance Jgq:CFd Ub 25 2 2:=⟨fdA Gg rfl rfl ti_3.h rfl⟩
instance Jgr:CFd Ub 25 3 3:=⟨fdA Gg rfl rfl ti_3.h rfl⟩
instance Jha:CSh Ub 140 true 6:=⟨shp Gh rfl Q5a.h⟩
theorem Ql8:Zr (Qx (⟨false,[],[]⟩:Ql)) [.bool false,Ua,Ua]:=Kl (Qn (c1:=[.bool false]) zr_bl (Qn (c1:=[Ua]) (Js (k:=1)) (Qn (c1:=[Ua]) (Js (k:=1)) (Jz))))
theorem Ql9:Zr (Qac (⟨0,0,0,(⟨false,[],[]⟩:Ql)⟩:Kt)) [.int .i64 0,.int .i64 0,.int .i64 0,.bool false,Ua,Ua]:=Kl (Qn (c1:=[.int .i64 0]) Wh (Qn (c1:=[.int .i64 0]) Wh (Qn (c1:=[.int .i64 0]) Wh (Qn (c1:=[.bool false,Ua,Ua]) Ql8 (Jz)))))
instance:CZy Ub 140 (Qac (⟨0,0,0,(⟨false,[],[]⟩:Ql)⟩:Kt)):=⟨_,_,_,Q5a.h,Ql9⟩
instance Jd9:CFd Ub 140 0 0:=⟨fdA Gh rfl rfl ti_3.h rfl⟩
instance Jea:CFd Ub 140 1 1:=⟨fdA Gh rfl rfl ti_3.h rfl⟩
instance Jeb:CFd Ub 140 2 2:=⟨fdA Gh rfl rfl ti_3.h rfl⟩
instance Jgs:CFd Ub 34 0 0:=⟨fdA Gv rfl rfl ti_4.h rfl⟩
instance Jgt:CFd Ub 36 5 15:=⟨fdA Uv rfl rfl ti_3.h rfl⟩
instance ti_68:CTy Ub 68 2 48 (.agg #[Ua,Ua]):=⟨tyI od⟩
theorem Qm4:Zr (Qae (⟨[],[]⟩:Ws)) [Ua,Ua]:=Kl (Qn (c1:=[Ua]) (Js (k:=1)) (Qn (c1:=[Ua]) (Js (k:=1)) (Jz)))
instance:CZy Ub 68 (Qae (⟨[],[]⟩:Ws)):=⟨_,_,_,ti_68.h,Qm4⟩
instance pl_68:CPl Ub 68 [(0,1),(1,1)]:=⟨⟨_,G0,od⟩⟩
instance sh_68:CSh Ub 68 true 2:=⟨shp G0 rfl ti_68.h⟩
instance Jgu:CFd Ub 68 0 0:=⟨fdA G0 rfl rfl ti_45.h rfl⟩
instance Jgv:CFd Ub 68 1 1:=⟨fdA G0 rfl rfl ti_45.h rfl⟩
instance Qkb:CTy Ub 223 6 144 (.agg #[Ua,Ua,Ua,Ua,Ua,Ua]):=⟨tyI od⟩
theorem Qat:Zr (X7 (⟨[],[],(⟨[],[],[],[]⟩:Qy)⟩:Jf)) [Ua,Ua,Ua,Ua,Ua,Ua]:=Kl (Qn (c1:=[Ua]) (Js (k:=3)) (Qn (c1:=[Ua]) (Js (k:=3)) (Qn (c1:=[Ua,Ua,Ua,Ua]) Qd0 (Jz))))
instance:CZy Ub 223 (X7 (⟨[],[],(⟨[],[],[],[]⟩:Qy)⟩:Jf)):=⟨_,_,_,Qkb.h,Qat⟩
instance Qnu:CPl Ub 223 [(0,1),(1,1),(2,4)]:=⟨⟨_,G1,od⟩⟩
instance Jhb:CSh Ub 223 true 6:=⟨shp G1 rfl Qkb.h⟩
instance Jbk:CTy Ub 261 25 496 (.agg #[Ua,Ua,.int .i64 0,.int .i64 0,.string ⟨#[]⟩,Ua,Ua,Ua,Ua,Ua,.int .i64 0,.bool false,Ua,Ua,.bool false,Ua,Ua,Ua,Ua,Ua,Ua,Ua,Ua,Ua,.pointer none]):=⟨tyI od⟩
instance Jbl:CPl Ub 261 [(0,11),(11,3),(14,3),(17,1),(18,1),(19,4),(23,1),(24,1)]:=⟨⟨_,Ut,od⟩⟩
instance Jec:CFd Ub 261 0 0:=⟨fdA Ut rfl rfl ti_49.h rfl⟩
instance Jed:CFd Ub 261 5 19:=⟨fdA Ut rfl rfl Qlm.h rfl⟩
instance Jee:CFd Ub 261 3 17:=⟨fdA Ut rfl rfl ti_44.h rfl⟩
instance Jef:CFd Ub 261 6 23:=⟨fdA Ut rfl rfl ti_45.h rfl⟩
instance Jeg:CFd Ub 261 2 14:=⟨fdA Ut rfl rfl ti_53.h rfl⟩
instance Jeh:CFd Ub 261 7 24:=⟨fdA Ut rfl rfl Qln.h rfl⟩
instance Jei:CFd Ub 261 1 11:=⟨fdA Ut rfl rfl ti_53.h rfl⟩
instance Jej:CFd Ub 261 4 18:=⟨fdA Ut rfl rfl ti_44.h rfl⟩
instance Qay:CTy Ub 346 6 112 (.agg #[.bool false,Ua,Ua,.bool false,Ua,Ua]):=⟨tyI od⟩
instance Qga:CPl Ub 346 [(0,3),(3,3)]:=⟨⟨_,G2,od⟩⟩
theorem Xd:Zr (Qw (⟨(⟨(⟨false,[]⟩:Qf),[]⟩:Qa),(⟨(⟨false,[]⟩:Qf),[]⟩:Qa)⟩:Qs)) [.bool false,Ua,Ua,.bool false,Ua,Ua]:=Kl (Qn (c1:=[.bool false,Ua,Ua]) Jd (Qn (c1:=[.bool false,Ua,Ua]) Jd (Jz)))
instance:CUn Ub 342 (.slice 346):=⟨Gt⟩
instance:CZy Ub 3 (i64 0):=⟨_,_,_,ti_3.h,Wh⟩
instance Qzu:CTy Ub 362 2 16 (.agg #[.pointer none,.nilFunc]):=⟨tyI od⟩
instance Jbm:CPl Ub 362 [(0,1),(1,1)]:=⟨⟨_,Um,od⟩⟩
instance Qzv:CTy Ub 364 2 16 (.agg #[.pointer none,.nilFunc]):=⟨tyI od⟩
instance Jbn:CPl Ub 364 [(0,2)]:=⟨⟨_,G7,od⟩⟩
instance Jhc:CSh Ub 364 true 2:=⟨shp G7 rfl Qzv.h⟩
instance Q5k:CTy Ub 367 8 160 (.agg #[.bool false,Ua,Ua,.bool false,Ua,Ua,Ua,Ua]):=⟨tyI od⟩
instance Jbo:CPl Ub 367 [(0,6),(6,1),(7,1)]:=⟨⟨_,Gq,od⟩⟩
theorem Qlr:Zr (Xn (⟨(⟨(⟨(⟨false,[]⟩:Qf),[]⟩:Qa),(⟨(⟨false,[]⟩:Qf),[]⟩:Qa)⟩:Qs),[],[]⟩:Xk)) [.bool false,Ua,Ua,.bool false,Ua,Ua,Ua,Ua]:=Kl (Qn (c1:=[.bool false,Ua,Ua,.bool false,Ua,Ua]) Xd (Qn (c1:=[Ua]) (Js (k:=6)) (Qn (c1:=[Ua]) (Js (k:=6)) (Jz))))
instance Qzw:CTy Ub 342 1 24 (Ua):=⟨tyI od⟩
instance Jek:CFd Ub 367 1 6:=⟨fdA Gq rfl rfl Qzw.h rfl⟩
instance Jhd:CSh Ub 342 false 1:=⟨shp Gt rfl Qzw.h⟩
instance Jel:CFd Ub 367 2 7:=⟨fdA Gq rfl rfl Qzw.h rfl⟩
instance Jhe:CSh Ub 367 true 8:=⟨shp Gq rfl Q5k.h⟩
instance:CZy Ub 346 (Qw (⟨(⟨(⟨false,[]⟩:Qf),[]⟩:Qa),(⟨(⟨false,[]⟩:Qf),[]⟩:Qa)⟩:Qs)):=⟨_,_,_,Qay.h,Xd⟩
instance Jem:CFd Ub 364 0 0:=⟨fdA G7 rfl rfl Qzu.h rfl⟩
instance Qkc:CSh Ub 362 true 2:=⟨shp Um rfl Qzu.h⟩
instance Jhf:CSh Ub 346 true 6:=⟨shp G2 rfl Qay.h⟩
theorem Q3h:MethF Ub 362 "Neg" 302:=⟨od,_,Um⟩
instance Jen:CFd Ub 346 0 0:=⟨fdA G2 rfl rfl ti_53.h rfl⟩
instance Jeo:CFd Ub 346 1 3:=⟨fdA G2 rfl rfl ti_53.h rfl⟩
theorem Q3i:MethF Ub 362 "Pow" 304:=⟨od,_,Um⟩
theorem Q3j:MethF Ub 362 "Add" 299:=⟨od,_,Um⟩
theorem Q3k:MethF Ub 362 "Sub" 306:=⟨od,_,Um⟩
theorem Q3l:MethF Ub 362 "Mul" 301:=⟨od,_,Um⟩
theorem Q3m:MethF Ub 362 "Quo" 305:=⟨od,_,Um⟩
theorem Q5l:MethF Ub 362 "Of" 303:=⟨od,_,Um⟩
instance Jep:CFd Ub 367 0 0:=⟨fdA Gq rfl rfl Qay.h rfl⟩
theorem Q1s:MethF Ub 362 "Fits" 300:=⟨od,_,Um⟩
instance Jeq:CFd Ub 362 0 0:=⟨fdA Um rfl rfl Qln.h rfl⟩
instance ti_1:CTy Ub 1 1 8 (.nilFunc):=⟨tyI od⟩
instance Jer:CFd Ub 362 1 1:=⟨fdA Um rfl rfl ti_1.h rfl⟩
instance sh_1:CSh Ub 1 false 1:=⟨shp underlying1 rfl ti_1.h⟩
instance Jes:CFd Ub 223 0 0:=⟨fdA G1 rfl rfl ti_44.h rfl⟩
instance Jet:CFd Ub 223 1 1:=⟨fdA G1 rfl rfl ti_44.h rfl⟩
theorem Qv6(n:Int)(h1:-9223372036854775808<n)(h2:n<=9223372036854775807)(w:World)(b:Nat)(hw:w.heap[b]?=some (.cells #[.int .i64 n] 3 (0,0))):ItC Ub 108 #[.pointer (some ⟨b,0,none⟩)] n.toNat w:=
 Q9c func108 rfl rfl rfl sh_3.h h1 h2 w b hw
theorem Qv7:∀ args w,(callFunc 108 args).run Ub w=.ok (.enter 108 args) w:=entersF func108 od rfl
abbrev Uc xs:=sli 3 (List.map Qb xs)
abbrev Ud xs:=sli 1 (List.map u32 xs)
abbrev Ue xs:=sli 1 (List.map Qd xs)
abbrev Uf xs:=sli 1 (List.map i64 xs)
abbrev Ug xs:=sli 14 (List.map Jm xs)
abbrev Uh xs:=sli 6 (List.map Qw xs)
abbrev Ui xs:=sli 2 (List.map Q0 xs)
abbrev Uj xs:=sli 3 (List.map Qx xs)
instance:CNs 0 1 _ u32:=⟨trivial⟩
instance:CNs 1 3 _ Qb:=⟨trivial⟩
instance:CNs 2 1 _ i64:=⟨trivial⟩
instance:CNs 3 14 _ Jm:=⟨trivial⟩
instance:CNs 4 1 _ Qd:=⟨trivial⟩
instance:CNs 5 2 _ Q0:=⟨trivial⟩
instance:CNs 6 6 _ Qw:=⟨trivial⟩
instance:CZy Ub 228 (J3 (⟨[],0,false⟩:Jk)):=⟨_,_,_,Jax.h,Qth⟩
instance:CZy Ub 233 (Qos (⟨0,[],0⟩:Qgm)):=⟨_,_,_,Q5b.h,Qso⟩
instance:CZy Ub 160 (Qh (⟨(⟨0,0⟩:Y4),0⟩:Qg)):=⟨_,_,_,Ja1.h,Qv5⟩
instance:CZy Ub 341 (Xm (⟨(⟨(⟨false,[]⟩:Qf),[]⟩:Qa),[],[]⟩:Xj)):=⟨_,_,_,Q5f.h,Qlp⟩
instance:CZy Ub 131 (Qv3 (⟨(⟨(⟨(⟨[],[],0,0⟩:Qk),(⟨[],[],[],[],[]⟩:Qq),[],0⟩:Qe),(⟨(⟨(⟨false,[]⟩:Qf),[]⟩:Qa),(⟨(⟨false,[]⟩:Qf),[]⟩:Qa),(⟨(⟨false,[]⟩:Qf),[]⟩:Qa),(⟨(⟨false,[]⟩:Qf),[]⟩:Qa),(⟨(⟨false,[]⟩:Qf),[]⟩:Qa),0,0⟩:Q7),(⟨(⟨false,[]⟩:Qf),[]⟩:Qa),(⟨(⟨false,[]⟩:Qf),[]⟩:Qa),(⟨(⟨false,[]⟩:Qf),[]⟩:Qa),[]⟩:Jl),(⟨[],(⟨(⟨false,[]⟩:Qf),[]⟩:Qa),[]⟩:Qp),(⟨(⟨false,[]⟩:Qf),[]⟩:Qa)⟩:Qns)):=⟨_,_,_,Jaz.h,Que⟩
instance:CZy Ub 332 (Q1q (⟨(⟨[],[],0,0⟩:Qk),[],[],(⟨(⟨(⟨false,[]⟩:Qf),[]⟩:Qa),[],[]⟩:Kn)⟩:Qsn)):=⟨_,_,_,Jbi.h,Qzt⟩
instance:CZy Ub 367 (Xn (⟨(⟨(⟨(⟨false,[]⟩:Qf),[]⟩:Qa),(⟨(⟨false,[]⟩:Qf),[]⟩:Qa)⟩:Qs),[],[]⟩:Xk)):=⟨_,_,_,Q5k.h,Qlr⟩
instance:CFo Ub:=⟨fol⟩
abbrev FO{R:Type}(f:Nat)(a:List Ly)(s:R->Ly)(m:Option R):Prop:=∀ r,m=some r->FnOk Ub f a [] (s r) []
abbrev FM{R:Type}(f:Nat)(a:List Ly)(i:List (Nat×Ct))(s:R->Ly)(o:R->List (Nat×Ct))(m:Option R):Prop:=∀ r,m=some r->FnOk Ub f a i (s r) (o r)
instance{x}:CIF (Qb x):=⟨CIF.h⟩
instance{x}:CIF (Qj x):=⟨CIF.h⟩
instance{x}:CIF (Qw x):=⟨CIF.h⟩
instance{x}:CIF (Vr x):=⟨CIF.h⟩
instance{x}:CIF (Kd x):=⟨CIF.h⟩
instance{x}:CIF (Xn x):=⟨CIF.h⟩
end Go.Proofs.YtmnalemmhfjacaaGreatDoor
