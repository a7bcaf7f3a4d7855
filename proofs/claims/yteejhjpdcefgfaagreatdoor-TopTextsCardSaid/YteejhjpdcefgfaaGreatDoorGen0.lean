import Derived.Test.YteejhjpdcefgfaaGreatDoorSP
import Derived.Test.YteejhjpdcefgfaaGreatDoorBld
import Derived.Test.YteejhjpdcefgfaaGreatDoorLib
import Derived.Test.YteejhjpdcefgfaaGreatDoorSG
import Derived.Test.YteejhjpdcefgfaaGreatDoorST
import Derived.Test.YteejhjpdcefgfaaGreatDoorMod
set_option maxRecDepth 100000
set_option maxHeartbeats 4000000
namespace Go.Proofs.YteejhjpdcefgfaaGreatDoor
open Go Go.RowKit Tryz
abbrev Ua:Value:=.slice none 0 0
noncomputable abbrev Ub:=Tryz.prog
abbrev Uq:=underlying49
abbrev Ur:=underlying50
abbrev Us:=underlying436
abbrev Ut:=underlying36
abbrev Uu:=underlying27
abbrev Uv:=underlying3
abbrev Uw:=underlying9
abbrev Ux:=underlying109
abbrev Uy:=underlying121
abbrev Uz:=underlying65
abbrev U0:=underlying60
abbrev U1:=underlying364
abbrev U2:=underlying40
abbrev U4:=underlying62
abbrev U5:=underlying150
abbrev U6:=underlying69
abbrev U7:=underlying42
abbrev U8:=underlying52
abbrev U9:=underlying306
abbrev Ga:=underlying80
abbrev Gb:=underlying33
abbrev Gc:=underlying157
abbrev Gd:=underlying48
abbrev Ge:=underlying219
abbrev Gf:=underlying54
abbrev Gg:=underlying233
abbrev Gh:=underlying167
abbrev Gi:=underlying173
abbrev Gj:=underlying208
abbrev Gk:=underlying174
abbrev Gl:=underlying46
abbrev Gm:=underlying87
abbrev Gn:=underlying35
abbrev Gp:=underlying29
abbrev Gq:=underlying239
abbrev Gr:=underlying56
abbrev Gs:=underlying82
abbrev Gt:=underlying388
abbrev Gu:=underlying440
abbrev Gv:=underlying177
abbrev Gw:=underlying420
abbrev Gx:=underlying444
abbrev Gy:=underlying191
abbrev Gz:=underlying114
abbrev G0:=underlying240
abbrev G1:=underlying393
abbrev G2:=underlying112
abbrev G3:=underlying68
abbrev G4:=underlying22
abbrev G5:=underlying38
abbrev G6:=underlying214
abbrev G7:=underlying58
abbrev G8:=underlying144
abbrev G9:=underlying97
abbrev Aa:=underlying71
abbrev Ab:=underlying111
abbrev Ac:=underlying325
abbrev Ad:=underlying197
abbrev Ae:=underlying331
abbrev Af:=underlying5
abbrev Ah:=underlying194
abbrev Ai:=underlying204
abbrev Aj:=underlying25
abbrev Ak:=underlying153
abbrev Al:=underlying398
abbrev Am:=underlying254
abbrev An:=underlying438
theorem ownK:ownKnob Tryz.prog.godebug=none:=od
theorem laidOutK:laidOutB Ub=true:=od
abbrev Qat(xs:List Nat):Ly:=sli 1 (xs.map u32)
abbrev K6(x:Q0):Ly:=.agg [i64 x.Op,i64 x.I,Qat x.N]
abbrev Qab(xs:List Q0):Ly:=sli 3 (xs.map K6)
abbrev Qbj(x:Kk):Ly:=.agg [str x.As,Qab x.Code]
abbrev Qiy(xs:List Kk):Ly:=sli 2 (xs.map Qbj)
abbrev Qgi(xs:List (List Q0)):Ly:=sli 1 (xs.map Qab)
abbrev Kh(x:Jr):Ly:=.agg [Qiy x.Aq,Qgi x.Ar]
abbrev Qz(x:Qp):Ly:=.agg [bl x.Neg,Qat x.N,Qat x.D]
abbrev Qa1(x:K4):Ly:=.agg [i64 x.Op,i64 x.A,i64 x.B,Qz x.N]
abbrev Qh4(xs:List K4):Ly:=sli 6 (xs.map Qa1)
abbrev Q0h(xs:List Int):Ly:=sli 1 (xs.map i64)
abbrev Wj(x:Vk):Ly:=.agg [Qh4 x.Code,Q0h x.Ar,i64 x.Dim,i64 x.Par]
abbrev Js(xs:List Qp):Ly:=sli 3 (xs.map Qz)
abbrev Qgj(xs:List (List Qp)):Ly:=sli 1 (xs.map Js)
abbrev Xj(x:K5):Ly:=.agg [str x.As,Js x.C,Qgj x.A,Js x.B,Js x.E]
abbrev Z1(x:J0):Ly:=.agg [Wj x.Tape,Xj x.Ao,Js x.P,i64 x.Az]
abbrev Qal(x:Vs):Ly:=.agg [Qz x.Tol,Qz x.A4,Qz x.Low,Qz x.A3,Qz x.A0,i64 x.Fine,i64 x.A1]
abbrev X8(x:Kd):Ly:=.agg [Z1 x.Ap,Qal x.Au,Qz x.Ax,Qz x.End,Qz x.Ay,Js x.Y]
instance{x}:CIF (X8 x):=⟨CIF.h⟩
abbrev Q1(x:Qe):Ly:=.agg [bl x.Neg,Qat x.A2]
abbrev Qb(x:Qa):Ly:=.agg [Q1 x.Num,Qat x.Den]
theorem J3{a0_0_ a0_1_ a1_}:IF (.agg [.agg [bl a0_0_,sli 1 a0_1_],sli 1 a1_]):=Qnw (Yh (Qnw (Yh if_bl (Yh Yw (Qka)))) (Yh Yw (Qka)))
abbrev Q4(x:Qu):Ly:=.agg [i64 x.Op,i64 x.A,i64 x.B,Qb x.N]
instance{x}:CIF (Q4 x):=⟨CIF.h⟩
abbrev Q3c(xs:List Qu):Ly:=sli 6 (xs.map Q4)
abbrev Q6(x:Qv):Ly:=.agg [Q3c x.Code,Q0h x.Ar,i64 x.Dim,i64 x.Par]
abbrev Qf(xs:List Qa):Ly:=sli 3 (xs.map Qb)
abbrev Qg6(xs:List (List Qa)):Ly:=sli 1 (xs.map Qf)
abbrev Je(x:Ql):Ly:=.agg [str x.As,Qf x.C,Qg6 x.A,Qf x.B,Qf x.E]
abbrev Qs(x:Qq):Ly:=.agg [Q6 x.Tape,Je x.Ao,Qf x.P,i64 x.Az]
abbrev Vw(x:Jb):Ly:=.agg [Qb x.Tol,Qb x.A4,Qb x.Low,Qb x.A3,Qb x.A0,i64 x.Fine,i64 x.A1]
instance{x}:CIF (Vw x):=⟨CIF.h⟩
abbrev Jt(x:Jc):Ly:=.agg [Qs x.Ap,Vw x.Au,Qb x.Ax,Qb x.End,Qb x.Ay,Qf x.Y]
instance{x}:CIF (Jt x):=⟨CIF.h⟩
abbrev Qmf(x:Qi5):Ly:=.agg [str x.a0,str x.a1,str x.a2,str x.a3,str x.a4,str x.a5]
abbrev Qh(x:Qc):Ly:=.agg [i64 x.Aw,i64 x.Step,i64 x.A5,i64 x.At]
theorem Qau{a0_ a1_ a2_ a3_}:IF (.agg [i64 a0_,i64 a1_,i64 a2_,i64 a3_]):=Qnw (Yh K0 (Yh K0 (Yh K0 (Yh K0 (Qka)))))
abbrev Kc(x:Q9):Ly:=.agg [str x.rest,i64 x.at_,bl x.over]
abbrev Qo(x:Qg):Ly:=.agg [i64 x.Aw,str x.Av,i64 x.At]
abbrev Jag(xs:List (List UInt8)):Ly:=sli 1 (xs.map str)
abbrev Jh(x:Q7):Ly:=.agg [Qb x.T,Qb x.Want,Qb x.H,Qb x.Err,Qf x.Y,bl x.Ok]
instance{x}:CIF (Jh x):=⟨CIF.h⟩
abbrev Q42(xs:List Q7):Ly:=sli 14 (xs.map Jh)
abbrev Ja(x:Jf):Ly:=.agg [Q42 x.Tries,Qb x.T,Qf x.Y]
instance{x}:CIF (Ja x):=⟨CIF.h⟩
abbrev Qlx(x:Ku):Ly:=.agg [i64 x.op,i64 x.a,i64 x.b]
abbrev Qq7(x:Qq5):Ly:=.agg [Jt x.k,Ja x.h,Qb x.want]
instance{x}:CIF (Qq7 x):=⟨CIF.h⟩
abbrev Vq(x:Wa):Ly:=.agg [Qg6 x.Ys,Qg6 x.Ks,Qf x.Next,Qf x.Err]
abbrev Qm5(x:Zo):Ly:=.agg [i64 x.Seen,i64 x.Peak]
abbrev Qn(x:Qk):Ly:=.agg [Qm5 x.Count,i64 x.limit]
theorem Kz{a0_0_ a0_1_ a1_}:IF (.agg [.agg [i64 a0_0_,i64 a0_1_],i64 a1_]):=Qnw (Yh (Qnw (Yh K0 (Yh K0 (Qka)))) (Yh K0 (Qka)))
abbrev Qac(x:Xh):Ly:=.agg [Qb x.T,Qf x.Y,Qf x.P]
instance{x}:CIF (Qac x):=⟨CIF.h⟩
abbrev Wz(x:Xq):Ly:=.agg [Qb x.T,Qf x.Y,Qf x.P]
instance{x}:CIF (Wz x):=⟨CIF.h⟩
abbrev Kj(x:Jn):Ly:=.agg [Qf x.Y,Qf x.P]
abbrev Vb(x:Vy):Ly:=.agg [i64 x.Every,Qf x.Sizes,Qf x.Ts,Qg6 x.Ys]
abbrev Q2(x:Qw):Ly:=.agg [i64 x.From,i64 x.To]
abbrev Qw7(xs:List Qw):Ly:=sli 2 (xs.map Q2)
abbrev Qg7(x:Qbv):Ly:=.agg [Qw7 x.l]
abbrev Qa2(x:Wu):Ly:=.agg [Qb x.T,Qf x.Y,Qf x.P]
instance{x}:CIF (Qa2 x):=⟨CIF.h⟩
abbrev Qwn(x:Qwm):Ly:=.agg [Q6 x.t,Qf x.done,Qf x.co,Qa2 x.grad]
instance{x}:CIF (Qwn x):=⟨CIF.h⟩
abbrev Qm(x:Qd):Ly:=.agg [i64 x.Op,i64 x.I,Qat x.N]
theorem Qim{a0_ a1_ a2_}:IF (.agg [i64 a0_,i64 a1_,sli 1 a2_]):=Qnw (Yh K0 (Yh K0 (Yh Yw (Qka))))
abbrev Jl(xs:List Qd):Ly:=sli 3 (xs.map Qm)
abbrev Vh(x:Qy):Ly:=.agg [str x.As,Jl x.Code]
abbrev Q43(xs:List Qy):Ly:=sli 2 (xs.map Vh)
abbrev Qyi(xs:List (List Qd)):Ly:=sli 1 (xs.map Jl)
abbrev Ju(x:Qt):Ly:=.agg [Q43 x.Aq,Qyi x.Ar]
abbrev Qnr(x:Qif):Ly:=.agg [u8 x.a0,u8 x.a1,u8 x.a2,u8 x.a3,u8 x.a4,u8 x.a5,u8 x.a6,u8 x.a7,u8 x.a8]
abbrev Qft(x:J5):Ly:=.agg [i64 x.op,i64 x.a,i64 x.b,str x.n]
abbrev Qe7(x:Kf):Ly:=.agg [str x.text,i64 x.rank]
abbrev Q44(xs:List Qg):Ly:=sli 3 (xs.map Qo)
abbrev Q0i(x:Qq6):Ly:=.agg [Q44 x.words,i64 x.at_,i64 x.end_,i64 x.deep,Jag x.names]
instance ti_25:CTy Ub 25 2 48 (.agg #[Ua,Ua]):=⟨tyI od⟩
instance sh_25:CSh Ub 25 true 2:=⟨shp Aj rfl ti_25.h⟩
instance ti_22:CTy Ub 22 1 24 (Ua):=⟨tyI od⟩
instance Jng:CFd Ub 25 0 0:=⟨fdA Aj rfl rfl ti_22.h rfl⟩
instance:CUn Ub 22 (.slice 89):=⟨G4⟩
instance sh_22:CSh Ub 22 false 1:=⟨shp G4 rfl ti_22.h⟩
instance ti_23:CTy Ub 23 1 24 (Ua):=⟨tyI od⟩
instance Jnh:CFd Ub 25 1 1:=⟨fdA Aj rfl rfl ti_23.h rfl⟩
instance:CUn Ub 23 (.slice 87):=⟨underlying23⟩
instance sh_23:CSh Ub 23 false 1:=⟨shp underlying23 rfl ti_23.h⟩
instance ti_89:CTy Ub 89 2 40 (.agg #[.string ⟨#[]⟩,Ua]):=⟨tyI od⟩
instance ti_9:CTy Ub 9 1 16 (.string ⟨#[]⟩):=⟨tyI od⟩
instance Jni:CFd Ub 89 0 0:=⟨fdA underlying89 rfl rfl ti_9.h rfl⟩
instance:CUn Ub 9 (.string):=⟨Uw⟩
instance sh_9:CSh Ub 9 false 1:=⟨shp Uw rfl ti_9.h⟩
instance ti_87:CTy Ub 87 1 24 (Ua):=⟨tyI od⟩
instance Jnj:CFd Ub 89 1 1:=⟨fdA underlying89 rfl rfl ti_87.h rfl⟩
instance:CUn Ub 87 (.slice 153):=⟨Gm⟩
instance sh_87:CSh Ub 87 false 1:=⟨shp Gm rfl ti_87.h⟩
instance Q45:CTy Ub 153 3 40 (.agg #[.int .i64 0,.int .i64 0,Ua]):=⟨tyI od⟩
instance ti_36:CTy Ub 36 1 24 (Ua):=⟨tyI od⟩
instance Jkw:CFd Ub 153 2 2:=⟨fdA Ak rfl rfl ti_36.h rfl⟩
instance:CUn Ub 36 (.slice 269):=⟨Ut⟩
instance sh_36:CSh Ub 36 false 1:=⟨shp Ut rfl ti_36.h⟩
instance ti_42:CTy Ub 42 38 696 (.agg #[Ua,Ua,.int .i64 0,.int .i64 0,.string ⟨#[]⟩,Ua,Ua,Ua,Ua,Ua,.int .i64 0,.bool false,Ua,Ua,.bool false,Ua,Ua,.bool false,Ua,Ua,.bool false,Ua,Ua,.bool false,Ua,Ua,.int .i64 0,.int .i64 0,.bool false,Ua,Ua,.bool false,Ua,Ua,.bool false,Ua,Ua,Ua]):=⟨tyI od⟩
instance sh_42:CSh Ub 42 true 38:=⟨shp U7 rfl ti_42.h⟩
instance ti_35:CTy Ub 35 11 208 (.agg #[Ua,Ua,.int .i64 0,.int .i64 0,.string ⟨#[]⟩,Ua,Ua,Ua,Ua,Ua,.int .i64 0]):=⟨tyI od⟩
instance Jnk:CFd Ub 42 0 0:=⟨fdA U7 rfl rfl ti_35.h rfl⟩
instance sh_35:CSh Ub 35 true 11:=⟨shp Gn rfl ti_35.h⟩
instance ti_29:CTy Ub 29 4 64 (.agg #[Ua,Ua,.int .i64 0,.int .i64 0]):=⟨tyI od⟩
instance Jnl:CFd Ub 35 0 0:=⟨fdA Gn rfl rfl ti_29.h rfl⟩
instance sh_29:CSh Ub 29 true 4:=⟨shp Gp rfl ti_29.h⟩
instance ti_26:CTy Ub 26 1 24 (Ua):=⟨tyI od⟩
instance Jnm:CFd Ub 29 0 0:=⟨fdA Gp rfl rfl ti_26.h rfl⟩
instance:CUn Ub 26 (.slice 239):=⟨underlying26⟩
instance sh_26:CSh Ub 26 false 1:=⟨shp underlying26 rfl ti_26.h⟩
instance Jb0:CTy Ub 239 6 80 (.agg #[.int .i64 0,.int .i64 0,.int .i64 0,.bool false,Ua,Ua]):=⟨tyI od⟩
instance ti_38:CTy Ub 38 3 56 (.agg #[.bool false,Ua,Ua]):=⟨tyI od⟩
instance Jkx:CFd Ub 239 3 3:=⟨fdA Gq rfl rfl ti_38.h rfl⟩
instance sh_38:CSh Ub 38 true 3:=⟨shp G5 rfl ti_38.h⟩
instance Jnn:CFd Ub 38 1 1:=⟨fdA G5 rfl rfl ti_36.h rfl⟩
instance Jno:CFd Ub 38 2 2:=⟨fdA G5 rfl rfl ti_36.h rfl⟩
instance ti_27:CTy Ub 27 1 24 (Ua):=⟨tyI od⟩
instance Jnp:CFd Ub 29 1 1:=⟨fdA Gp rfl rfl ti_27.h rfl⟩
instance:CUn Ub 27 (.slice 3):=⟨Uu⟩
instance sh_27:CSh Ub 27 false 1:=⟨shp Uu rfl ti_27.h⟩
instance ti_33:CTy Ub 33 5 112 (.agg #[.string ⟨#[]⟩,Ua,Ua,Ua,Ua]):=⟨tyI od⟩
instance Jnq:CFd Ub 35 1 4:=⟨fdA Gn rfl rfl ti_33.h rfl⟩
instance sh_33:CSh Ub 33 true 5:=⟨shp Gb rfl ti_33.h⟩
instance Jnr:CFd Ub 33 0 0:=⟨fdA Gb rfl rfl ti_9.h rfl⟩
instance ti_31:CTy Ub 31 1 24 (Ua):=⟨tyI od⟩
instance Jns:CFd Ub 33 2 2:=⟨fdA Gb rfl rfl ti_31.h rfl⟩
instance:CUn Ub 31 (.slice 30):=⟨underlying31⟩
instance sh_31:CSh Ub 31 false 1:=⟨shp underlying31 rfl ti_31.h⟩
instance ti_30:CTy Ub 30 1 24 (Ua):=⟨tyI od⟩
instance Jnt:CFd Ub 33 3 3:=⟨fdA Gb rfl rfl ti_30.h rfl⟩
instance:CUn Ub 30 (.slice 38):=⟨underlying30⟩
instance sh_30:CSh Ub 30 false 1:=⟨shp underlying30 rfl ti_30.h⟩
instance Jnu:CFd Ub 33 1 1:=⟨fdA Gb rfl rfl ti_30.h rfl⟩
instance Jnv:CFd Ub 33 4 4:=⟨fdA Gb rfl rfl ti_30.h rfl⟩
instance Jnw:CFd Ub 35 2 9:=⟨fdA Gn rfl rfl ti_30.h rfl⟩
instance ti_3:CTy Ub 3 1 8 (.int .i64 0):=⟨tyI od⟩
instance Jnx:CFd Ub 35 3 10:=⟨fdA Gn rfl rfl ti_3.h rfl⟩
instance:CUn Ub 3 (.int .i64):=⟨Uv⟩
instance sh_3:CSh Ub 3 false 1:=⟨shp Uv rfl ti_3.h⟩
instance ti_40:CTy Ub 40 17 296 (.agg #[.bool false,Ua,Ua,.bool false,Ua,Ua,.bool false,Ua,Ua,.bool false,Ua,Ua,.bool false,Ua,Ua,.int .i64 0,.int .i64 0]):=⟨tyI od⟩
instance Jny:CFd Ub 42 1 11:=⟨fdA U7 rfl rfl ti_40.h rfl⟩
instance sh_40:CSh Ub 40 true 17:=⟨shp U2 rfl ti_40.h⟩
instance Jnz:CFd Ub 40 0 0:=⟨fdA U2 rfl rfl ti_38.h rfl⟩
instance Jn0:CFd Ub 40 1 3:=⟨fdA U2 rfl rfl ti_38.h rfl⟩
instance Jn1:CFd Ub 40 2 6:=⟨fdA U2 rfl rfl ti_38.h rfl⟩
instance Jn2:CFd Ub 40 3 9:=⟨fdA U2 rfl rfl ti_38.h rfl⟩
instance Jn3:CFd Ub 40 4 12:=⟨fdA U2 rfl rfl ti_38.h rfl⟩
instance Jn4:CFd Ub 40 6 16:=⟨fdA U2 rfl rfl ti_3.h rfl⟩
instance Jn5:CFd Ub 42 2 28:=⟨fdA U7 rfl rfl ti_38.h rfl⟩
instance Jn6:CFd Ub 42 3 31:=⟨fdA U7 rfl rfl ti_38.h rfl⟩
instance Jn7:CFd Ub 42 4 34:=⟨fdA U7 rfl rfl ti_38.h rfl⟩
instance Jn8:CFd Ub 42 5 37:=⟨fdA U7 rfl rfl ti_30.h rfl⟩
instance ti_62:CTy Ub 62 38 696 (.agg #[Ua,Ua,.int .i64 0,.int .i64 0,.string ⟨#[]⟩,Ua,Ua,Ua,Ua,Ua,.int .i64 0,.bool false,Ua,Ua,.bool false,Ua,Ua,.bool false,Ua,Ua,.bool false,Ua,Ua,.bool false,Ua,Ua,.int .i64 0,.int .i64 0,.bool false,Ua,Ua,.bool false,Ua,Ua,.bool false,Ua,Ua,Ua]):=⟨tyI od⟩
theorem Vo:Zr (Q1 (⟨false,[]⟩:Qe)) [.bool false,Ua]:=K3 (Qi (c1:=[.bool false]) zr_bl (Qi (c1:=[Ua]) (J2 (k:=1)) (Ka)))
theorem Jo:Zr (Qb (⟨(⟨false,[]⟩:Qe),[]⟩:Qa)) [.bool false,Ua,Ua]:=K3 (Qi (c1:=[.bool false,Ua]) Vo (Qi (c1:=[Ua]) (J2 (k:=1)) (Ka)))
theorem Qju:Zr (Vw (⟨(⟨(⟨false,[]⟩:Qe),[]⟩:Qa),(⟨(⟨false,[]⟩:Qe),[]⟩:Qa),(⟨(⟨false,[]⟩:Qe),[]⟩:Qa),(⟨(⟨false,[]⟩:Qe),[]⟩:Qa),(⟨(⟨false,[]⟩:Qe),[]⟩:Qa),0,0⟩:Jb)) [.bool false,Ua,Ua,.bool false,Ua,Ua,.bool false,Ua,Ua,.bool false,Ua,Ua,.bool false,Ua,Ua,.int .i64 0,.int .i64 0]:=K3 (Qi (c1:=[.bool false,Ua,Ua]) Jo (Qi (c1:=[.bool false,Ua,Ua]) Jo (Qi (c1:=[.bool false,Ua,Ua]) Jo (Qi (c1:=[.bool false,Ua,Ua]) Jo (Qi (c1:=[.bool false,Ua,Ua]) Jo (Qi (c1:=[.int .i64 0]) Vc (Qi (c1:=[.int .i64 0]) Vc (Ka))))))))
theorem Zx:Zr (Je (⟨[],[],[],[],[]⟩:Ql)) [.string ⟨#[]⟩,Ua,Ua,Ua,Ua]:=K3 (Qi (c1:=[.string ⟨#[]⟩]) Qen (Qi (c1:=[Ua]) (J2 (k:=3)) (Qi (c1:=[Ua]) (J2 (k:=1)) (Qi (c1:=[Ua]) (J2 (k:=3)) (Qi (c1:=[Ua]) (J2 (k:=3)) (Ka))))))
theorem Qh5:Zr (Q6 (⟨[],[],0,0⟩:Qv)) [Ua,Ua,.int .i64 0,.int .i64 0]:=K3 (Qi (c1:=[Ua]) (J2 (k:=6)) (Qi (c1:=[Ua]) (J2 (k:=1)) (Qi (c1:=[.int .i64 0]) Vc (Qi (c1:=[.int .i64 0]) Vc (Ka)))))
theorem Qad:Zr (Qs (⟨(⟨[],[],0,0⟩:Qv),(⟨[],[],[],[],[]⟩:Ql),[],0⟩:Qq)) [Ua,Ua,.int .i64 0,.int .i64 0,.string ⟨#[]⟩,Ua,Ua,Ua,Ua,Ua,.int .i64 0]:=K3 (Qi (c1:=[Ua,Ua,.int .i64 0,.int .i64 0]) Qh5 (Qi (c1:=[.string ⟨#[]⟩,Ua,Ua,Ua,Ua]) Zx (Qi (c1:=[Ua]) (J2 (k:=3)) (Qi (c1:=[.int .i64 0]) Vc (Ka)))))
theorem Qjv:Zr (Jt (⟨(⟨(⟨[],[],0,0⟩:Qv),(⟨[],[],[],[],[]⟩:Ql),[],0⟩:Qq),(⟨(⟨(⟨false,[]⟩:Qe),[]⟩:Qa),(⟨(⟨false,[]⟩:Qe),[]⟩:Qa),(⟨(⟨false,[]⟩:Qe),[]⟩:Qa),(⟨(⟨false,[]⟩:Qe),[]⟩:Qa),(⟨(⟨false,[]⟩:Qe),[]⟩:Qa),0,0⟩:Jb),(⟨(⟨false,[]⟩:Qe),[]⟩:Qa),(⟨(⟨false,[]⟩:Qe),[]⟩:Qa),(⟨(⟨false,[]⟩:Qe),[]⟩:Qa),[]⟩:Jc)) [Ua,Ua,.int .i64 0,.int .i64 0,.string ⟨#[]⟩,Ua,Ua,Ua,Ua,Ua,.int .i64 0,.bool false,Ua,Ua,.bool false,Ua,Ua,.bool false,Ua,Ua,.bool false,Ua,Ua,.bool false,Ua,Ua,.int .i64 0,.int .i64 0,.bool false,Ua,Ua,.bool false,Ua,Ua,.bool false,Ua,Ua,Ua]:=K3 (Qi (c1:=[Ua,Ua,.int .i64 0,.int .i64 0,.string ⟨#[]⟩,Ua,Ua,Ua,Ua,Ua,.int .i64 0]) Qad (Qi (c1:=[.bool false,Ua,Ua,.bool false,Ua,Ua,.bool false,Ua,Ua,.bool false,Ua,Ua,.bool false,Ua,Ua,.int .i64 0,.int .i64 0]) Qju (Qi (c1:=[.bool false,Ua,Ua]) Jo (Qi (c1:=[.bool false,Ua,Ua]) Jo (Qi (c1:=[.bool false,Ua,Ua]) Jo (Qi (c1:=[Ua]) (J2 (k:=3)) (Ka)))))))
instance:CZy Ub 62 (Jt (⟨(⟨(⟨[],[],0,0⟩:Qv),(⟨[],[],[],[],[]⟩:Ql),[],0⟩:Qq),(⟨(⟨(⟨false,[]⟩:Qe),[]⟩:Qa),(⟨(⟨false,[]⟩:Qe),[]⟩:Qa),(⟨(⟨false,[]⟩:Qe),[]⟩:Qa),(⟨(⟨false,[]⟩:Qe),[]⟩:Qa),(⟨(⟨false,[]⟩:Qe),[]⟩:Qa),0,0⟩:Jb),(⟨(⟨false,[]⟩:Qe),[]⟩:Qa),(⟨(⟨false,[]⟩:Qe),[]⟩:Qa),(⟨(⟨false,[]⟩:Qe),[]⟩:Qa),[]⟩:Jc)):=⟨_,_,_,ti_62.h,Qjv⟩
instance Qgk:CTy Ub 157 6 80 (.agg #[.int .i64 0,.int .i64 0,.int .i64 0,.bool false,Ua,Ua]):=⟨tyI od⟩
instance Qog:CPl Ub 157 [(0,1),(1,1),(2,1),(3,3)]:=⟨⟨_,Gc,od⟩⟩
theorem Qbf:Zr (Q4 (⟨0,0,0,(⟨(⟨false,[]⟩:Qe),[]⟩:Qa)⟩:Qu)) [.int .i64 0,.int .i64 0,.int .i64 0,.bool false,Ua,Ua]:=K3 (Qi (c1:=[.int .i64 0]) Vc (Qi (c1:=[.int .i64 0]) Vc (Qi (c1:=[.int .i64 0]) Vc (Qi (c1:=[.bool false,Ua,Ua]) Jo (Ka)))))
instance:CUn Ub 46 (.slice 157):=⟨Gl⟩
instance ti_48:CTy Ub 48 4 64 (.agg #[Ua,Ua,.int .i64 0,.int .i64 0]):=⟨tyI od⟩
instance pl_48:CPl Ub 48 [(0,1),(1,1),(2,1),(3,1)]:=⟨⟨_,Gd,od⟩⟩
instance:CZy Ub 48 (Q6 (⟨[],[],0,0⟩:Qv)):=⟨_,_,_,ti_48.h,Qh5⟩
instance sh_48:CSh Ub 48 true 4:=⟨shp Gd rfl ti_48.h⟩
instance ti_52:CTy Ub 52 5 112 (.agg #[.string ⟨#[]⟩,Ua,Ua,Ua,Ua]):=⟨tyI od⟩
instance:CZy Ub 52 (Je (⟨[],[],[],[],[]⟩:Ql)):=⟨_,_,_,ti_52.h,Zx⟩
instance Q46:CTy Ub 240 6 96 (.agg #[.string ⟨#[]⟩,.string ⟨#[]⟩,.string ⟨#[]⟩,.string ⟨#[]⟩,.string ⟨#[]⟩,.string ⟨#[]⟩]):=⟨tyI od⟩
theorem Quj:Zr (Qmf (⟨[],[],[],[],[],[]⟩:Qi5)) [.string ⟨#[]⟩,.string ⟨#[]⟩,.string ⟨#[]⟩,.string ⟨#[]⟩,.string ⟨#[]⟩,.string ⟨#[]⟩]:=K3 (Qi (c1:=[.string ⟨#[]⟩]) Qen (Qi (c1:=[.string ⟨#[]⟩]) Qen (Qi (c1:=[.string ⟨#[]⟩]) Qen (Qi (c1:=[.string ⟨#[]⟩]) Qen (Qi (c1:=[.string ⟨#[]⟩]) Qen (Qi (c1:=[.string ⟨#[]⟩]) Qen (Ka)))))))
instance:CZy Ub 240 (Qmf (⟨[],[],[],[],[],[]⟩:Qi5)):=⟨_,_,_,Q46.h,Quj⟩
instance:CUn Ub 240 (.array 6 9):=⟨G0⟩
instance Jpi:CSh Ub 240 true 6:=⟨shp G0 rfl Q46.h⟩
instance ti_65:CTy Ub 65 4 32 (.agg #[.int .i64 0,.int .i64 0,.int .i64 0,.int .i64 0]):=⟨tyI od⟩
theorem Qj:Zr (Qh (⟨0,0,0,0⟩:Qc)) [.int .i64 0,.int .i64 0,.int .i64 0,.int .i64 0]:=K3 (Qi (c1:=[.int .i64 0]) Vc (Qi (c1:=[.int .i64 0]) Vc (Qi (c1:=[.int .i64 0]) Vc (Qi (c1:=[.int .i64 0]) Vc (Ka)))))
instance:CZy Ub 65 (Qh (⟨0,0,0,0⟩:Qc)):=⟨_,_,_,ti_65.h,Qj⟩
instance pl_52:CPl Ub 52 [(0,1),(1,1),(2,1),(3,1),(4,1)]:=⟨⟨_,U8,od⟩⟩
instance pl_65:CPl Ub 65 [(0,1),(1,1),(2,1),(3,1)]:=⟨⟨_,Uz,od⟩⟩
instance sh_52:CSh Ub 52 true 5:=⟨shp U8 rfl ti_52.h⟩
instance sh_65:CSh Ub 65 true 4:=⟨shp Uz rfl ti_65.h⟩
instance Jiw:CTy Ub 214 3 32 (.agg #[.string ⟨#[]⟩,.int .i64 0,.bool false]):=⟨tyI od⟩
instance Jix:CPl Ub 214 [(0,1),(1,1),(2,1)]:=⟨⟨_,G6,od⟩⟩
theorem Qw8:Zr (Kc (⟨[],0,false⟩:Q9)) [.string ⟨#[]⟩,.int .i64 0,.bool false]:=K3 (Qi (c1:=[.string ⟨#[]⟩]) Qen (Qi (c1:=[.int .i64 0]) Vc (Qi (c1:=[.bool false]) zr_bl (Ka))))
instance ti_4:CTy Ub 4 1 1 (.bool false):=⟨tyI od⟩
instance Jky:CFd Ub 214 2 2:=⟨fdA G6 rfl rfl ti_4.h rfl⟩
instance:CUn Ub 4 (.bool):=⟨underlying4⟩
instance sh_4:CSh Ub 4 false 1:=⟨shp underlying4 rfl ti_4.h⟩
instance Jkz:CFd Ub 214 1 1:=⟨fdA G6 rfl rfl ti_3.h rfl⟩
theorem fol:Tryz.prog.follows .mixedOrders=true:=od
instance Jk0:CFd Ub 214 0 0:=⟨fdA G6 rfl rfl ti_9.h rfl⟩
instance Jn9:CFd Ub 52 0 0:=⟨fdA U8 rfl rfl ti_9.h rfl⟩
instance Qmr:CTy Ub 219 3 32 (.agg #[.int .i64 0,.string ⟨#[]⟩,.int .i64 0]):=⟨tyI od⟩
instance Quk:CPl Ub 219 [(0,1),(1,1),(2,1)]:=⟨⟨_,Ge,od⟩⟩
theorem Qg0:Zr (Qo (⟨0,[],0⟩:Qg)) [.int .i64 0,.string ⟨#[]⟩,.int .i64 0]:=K3 (Qi (c1:=[.int .i64 0]) Vc (Qi (c1:=[.string ⟨#[]⟩]) Qen (Qi (c1:=[.int .i64 0]) Vc (Ka))))
instance Jk1:CFd Ub 219 1 1:=⟨fdA Ge rfl rfl ti_9.h rfl⟩
instance Jk2:CFd Ub 219 0 0:=⟨fdA Ge rfl rfl ti_3.h rfl⟩
instance:CUn Ub 21 (.int .i32):=⟨underlying21⟩
instance:CUn Ub 5 (.int .u8):=⟨Af⟩
instance ti_58:CTy Ub 58 3 56 (.agg #[.bool false,Ua,Ua]):=⟨tyI od⟩
instance:CZy Ub 58 (Qb (⟨(⟨false,[]⟩:Qe),[]⟩:Qa)):=⟨_,_,_,ti_58.h,Jo⟩
instance ti_56:CTy Ub 56 2 32 (.agg #[.bool false,Ua]):=⟨tyI od⟩
instance:CZy Ub 56 (Q1 (⟨false,[]⟩:Qe)):=⟨_,_,_,ti_56.h,Vo⟩
instance:CUn Ub 269 (.int .u32):=⟨underlying269⟩
instance Qbg:CTy Ub 269 1 4 (.int .u32 0):=⟨tyI od⟩
instance Jpj:CSh Ub 269 false 1:=⟨shp underlying269 rfl Qbg.h⟩
instance:CUn Ub 181 (.int .u64):=⟨underlying181⟩
theorem J4:EqF Ub 2 65 (λx:Qc=>.agg [i64 x.Aw,i64 x.Step,i64 x.A5,i64 x.At]) Qr:=
 Qr6 Uz od (Qdj rfl rfl sh_3.h (λ_=>rfl) (λ_=>rfl) (Qfm (λx:Qc=>x.Aw) (Qie (n:=0) Uv)) (Qdj rfl rfl sh_3.h (λ_=>rfl) (λ_=>rfl) (Qfm (λx:Qc=>x.Step) (Qie (n:=0) Uv)) (Qdj rfl rfl sh_3.h (λ_=>rfl) (λ_=>rfl) (Qfm (λx:Qc=>x.A5) (Qie (n:=0) Uv)) (Qdj rfl rfl sh_3.h (λ_=>rfl) (λ_=>rfl) (Qfm (λx:Qc=>x.At) (Qie (n:=0) Uv)) (Qw5)))))
theorem eg_65:Tryz.prog.eqGuardType Tryz.prog.depth 65=false:=od
instance Joa:CFd Ub 65 3 3:=⟨fdA Uz rfl rfl ti_3.h rfl⟩
instance pl_56:CPl Ub 56 [(0,1),(1,1)]:=⟨⟨_,Gr,od⟩⟩
instance sh_56:CSh Ub 56 true 2:=⟨shp Gr rfl ti_56.h⟩
instance pl_58:CPl Ub 58 [(0,2),(2,1)]:=⟨⟨_,G7,od⟩⟩
instance sh_58:CSh Ub 58 true 3:=⟨shp G7 rfl ti_58.h⟩
instance Job:CFd Ub 56 1 1:=⟨fdA Gr rfl rfl ti_36.h rfl⟩
instance Joc:CFd Ub 56 0 0:=⟨fdA Gr rfl rfl ti_4.h rfl⟩
instance:CUn Ub 393 (.slice 36):=⟨G1⟩
instance:CUn Ub 121 (.slice 9):=⟨Uy⟩
instance:CUn Ub 49 (.slice 58):=⟨Uq⟩
instance ti_49:CTy Ub 49 1 24 (Ua):=⟨tyI od⟩
instance Jod:CFd Ub 52 1 1:=⟨fdA U8 rfl rfl ti_49.h rfl⟩
instance sh_49:CSh Ub 49 false 1:=⟨shp Uq rfl ti_49.h⟩
instance ti_50:CTy Ub 50 1 24 (Ua):=⟨tyI od⟩
instance Joe:CFd Ub 52 2 2:=⟨fdA U8 rfl rfl ti_50.h rfl⟩
instance:CUn Ub 50 (.slice 49):=⟨Ur⟩
instance sh_50:CSh Ub 50 false 1:=⟨shp Ur rfl ti_50.h⟩
instance Jof:CFd Ub 52 3 3:=⟨fdA U8 rfl rfl ti_49.h rfl⟩
instance Jog:CFd Ub 52 4 4:=⟨fdA U8 rfl rfl ti_49.h rfl⟩
instance Joh:CFd Ub 58 1 2:=⟨fdA G7 rfl rfl ti_36.h rfl⟩
instance Joi:CFd Ub 58 0 0:=⟨fdA G7 rfl rfl ti_56.h rfl⟩
instance ti_60:CTy Ub 60 17 296 (.agg #[.bool false,Ua,Ua,.bool false,Ua,Ua,.bool false,Ua,Ua,.bool false,Ua,Ua,.bool false,Ua,Ua,.int .i64 0,.int .i64 0]):=⟨tyI od⟩
instance:CZy Ub 60 (Vw (⟨(⟨(⟨false,[]⟩:Qe),[]⟩:Qa),(⟨(⟨false,[]⟩:Qe),[]⟩:Qa),(⟨(⟨false,[]⟩:Qe),[]⟩:Qa),(⟨(⟨false,[]⟩:Qe),[]⟩:Qa),(⟨(⟨false,[]⟩:Qe),[]⟩:Qa),0,0⟩:Jb)):=⟨_,_,_,ti_60.h,Qju⟩
instance pl_60:CPl Ub 60 [(0,3),(3,3),(6,3),(9,3),(12,3),(15,1),(16,1)]:=⟨⟨_,U0,od⟩⟩
instance sh_60:CSh Ub 60 true 17:=⟨shp U0 rfl ti_60.h⟩
instance Joj:CFd Ub 60 0 0:=⟨fdA U0 rfl rfl ti_58.h rfl⟩
instance ti_54:CTy Ub 54 11 208 (.agg #[Ua,Ua,.int .i64 0,.int .i64 0,.string ⟨#[]⟩,Ua,Ua,Ua,Ua,Ua,.int .i64 0]):=⟨tyI od⟩
instance pl_54:CPl Ub 54 [(0,4),(4,5),(9,1),(10,1)]:=⟨⟨_,Gf,od⟩⟩
instance pl_62:CPl Ub 62 [(0,11),(11,17),(28,3),(31,3),(34,3),(37,1)]:=⟨⟨_,U4,od⟩⟩
instance sh_62:CSh Ub 62 true 38:=⟨shp U4 rfl ti_62.h⟩
instance ti_82:CTy Ub 82 5 104 (.agg #[Ua,.bool false,Ua,Ua,Ua]):=⟨tyI od⟩
theorem Qg8:Zr (Ja (⟨[],(⟨(⟨false,[]⟩:Qe),[]⟩:Qa),[]⟩:Jf)) [Ua,.bool false,Ua,Ua,Ua]:=K3 (Qi (c1:=[Ua]) (J2 (k:=14)) (Qi (c1:=[.bool false,Ua,Ua]) Jo (Qi (c1:=[Ua]) (J2 (k:=3)) (Ka))))
instance:CZy Ub 82 (Ja (⟨[],(⟨(⟨false,[]⟩:Qe),[]⟩:Qa),[]⟩:Jf)):=⟨_,_,_,ti_82.h,Qg8⟩
instance Jok:CFd Ub 62 0 0:=⟨fdA U4 rfl rfl ti_54.h rfl⟩
instance sh_54:CSh Ub 54 true 11:=⟨shp Gf rfl ti_54.h⟩
instance Jol:CFd Ub 54 0 0:=⟨fdA Gf rfl rfl ti_48.h rfl⟩
instance Jom:CFd Ub 48 2 2:=⟨fdA Gd rfl rfl ti_3.h rfl⟩
instance Jon:CFd Ub 48 3 3:=⟨fdA Gd rfl rfl ti_3.h rfl⟩
instance Joo:CFd Ub 48 1 1:=⟨fdA Gd rfl rfl ti_27.h rfl⟩
instance ti_46:CTy Ub 46 1 24 (Ua):=⟨tyI od⟩
instance Jop:CFd Ub 48 0 0:=⟨fdA Gd rfl rfl ti_46.h rfl⟩
instance sh_46:CSh Ub 46 false 1:=⟨shp Gl rfl ti_46.h⟩
instance Jpk:CSh Ub 157 true 6:=⟨shp Gc rfl Qgk.h⟩
instance:CZy Ub 157 (Q4 (⟨0,0,0,(⟨(⟨false,[]⟩:Qe),[]⟩:Qa)⟩:Qu)):=⟨_,_,_,Qgk.h,Qbf⟩
instance Jk3:CFd Ub 157 0 0:=⟨fdA Gc rfl rfl ti_3.h rfl⟩
instance Qul:CTy Ub 398 3 24 (.agg #[.int .i64 0,.int .i64 0,.int .i64 0]):=⟨tyI od⟩
theorem Qg9:Zr (Qlx (⟨0,0,0⟩:Ku)) [.int .i64 0,.int .i64 0,.int .i64 0]:=K3 (Qi (c1:=[.int .i64 0]) Vc (Qi (c1:=[.int .i64 0]) Vc (Qi (c1:=[.int .i64 0]) Vc (Ka))))
instance:CZy Ub 398 (Qlx (⟨0,0,0⟩:Ku)):=⟨_,_,_,Qul.h,Qg9⟩
instance Jk4:CFd Ub 157 1 1:=⟨fdA Gc rfl rfl ti_3.h rfl⟩
instance Jk5:CFd Ub 157 2 2:=⟨fdA Gc rfl rfl ti_3.h rfl⟩
instance Q47:CPl Ub 398 [(0,1),(1,1),(2,1)]:=⟨⟨_,Al,od⟩⟩
instance Jpl:CSh Ub 398 true 3:=⟨shp Al rfl Qul.h⟩
theorem Q48:EqF Ub 2 398 (λx:Ku=>.agg [i64 x.op,i64 x.a,i64 x.b]) Qap:=
 Qr6 Al od (Qdj rfl rfl sh_3.h (λ_=>rfl) (λ_=>rfl) (Qfm (λx:Ku=>x.op) (Qie (n:=0) Uv)) (Qdj rfl rfl sh_3.h (λ_=>rfl) (λ_=>rfl) (Qfm (λx:Ku=>x.a) (Qie (n:=0) Uv)) (Qdj rfl rfl sh_3.h (λ_=>rfl) (λ_=>rfl) (Qfm (λx:Ku=>x.b) (Qie (n:=0) Uv)) (Qw5))))
theorem Jb1:Tryz.prog.eqGuardType Tryz.prog.depth 398=false:=od
instance Jk6:CFd Ub 157 3 3:=⟨fdA Gc rfl rfl ti_58.h rfl⟩
instance Joq:CFd Ub 54 1 4:=⟨fdA Gf rfl rfl ti_52.h rfl⟩
instance Jor:CFd Ub 54 2 9:=⟨fdA Gf rfl rfl ti_49.h rfl⟩
instance Jos:CFd Ub 62 1 11:=⟨fdA U4 rfl rfl ti_60.h rfl⟩
instance Jot:CFd Ub 60 1 3:=⟨fdA U0 rfl rfl ti_58.h rfl⟩
instance Jou:CFd Ub 60 2 6:=⟨fdA U0 rfl rfl ti_58.h rfl⟩
instance Jov:CFd Ub 60 3 9:=⟨fdA U0 rfl rfl ti_58.h rfl⟩
instance Jow:CFd Ub 60 4 12:=⟨fdA U0 rfl rfl ti_58.h rfl⟩
instance Jox:CFd Ub 60 5 15:=⟨fdA U0 rfl rfl ti_3.h rfl⟩
instance Joy:CFd Ub 60 6 16:=⟨fdA U0 rfl rfl ti_3.h rfl⟩
instance Joz:CFd Ub 62 5 37:=⟨fdA U4 rfl rfl ti_49.h rfl⟩
instance Jo0:CFd Ub 62 3 31:=⟨fdA U4 rfl rfl ti_58.h rfl⟩
instance Jo1:CFd Ub 62 2 28:=⟨fdA U4 rfl rfl ti_58.h rfl⟩
instance Jo2:CFd Ub 62 4 34:=⟨fdA U4 rfl rfl ti_58.h rfl⟩
instance pl_82:CPl Ub 82 [(0,1),(1,3),(4,1)]:=⟨⟨_,Gs,od⟩⟩
instance sh_82:CSh Ub 82 true 5:=⟨shp Gs rfl ti_82.h⟩
instance Jiy:CTy Ub 144 46 856 (.agg #[Ua,Ua,.int .i64 0,.int .i64 0,.string ⟨#[]⟩,Ua,Ua,Ua,Ua,Ua,.int .i64 0,.bool false,Ua,Ua,.bool false,Ua,Ua,.bool false,Ua,Ua,.bool false,Ua,Ua,.bool false,Ua,Ua,.int .i64 0,.int .i64 0,.bool false,Ua,Ua,.bool false,Ua,Ua,.bool false,Ua,Ua,Ua,Ua,.bool false,Ua,Ua,Ua,.bool false,Ua,Ua]):=⟨tyI od⟩
instance Jiz:CPl Ub 144 [(0,38),(38,5),(43,3)]:=⟨⟨_,G8,od⟩⟩
theorem Qyj:Zr (Qq7 (⟨(⟨(⟨(⟨[],[],0,0⟩:Qv),(⟨[],[],[],[],[]⟩:Ql),[],0⟩:Qq),(⟨(⟨(⟨false,[]⟩:Qe),[]⟩:Qa),(⟨(⟨false,[]⟩:Qe),[]⟩:Qa),(⟨(⟨false,[]⟩:Qe),[]⟩:Qa),(⟨(⟨false,[]⟩:Qe),[]⟩:Qa),(⟨(⟨false,[]⟩:Qe),[]⟩:Qa),0,0⟩:Jb),(⟨(⟨false,[]⟩:Qe),[]⟩:Qa),(⟨(⟨false,[]⟩:Qe),[]⟩:Qa),(⟨(⟨false,[]⟩:Qe),[]⟩:Qa),[]⟩:Jc),(⟨[],(⟨(⟨false,[]⟩:Qe),[]⟩:Qa),[]⟩:Jf),(⟨(⟨false,[]⟩:Qe),[]⟩:Qa)⟩:Qq5)) [Ua,Ua,.int .i64 0,.int .i64 0,.string ⟨#[]⟩,Ua,Ua,Ua,Ua,Ua,.int .i64 0,.bool false,Ua,Ua,.bool false,Ua,Ua,.bool false,Ua,Ua,.bool false,Ua,Ua,.bool false,Ua,Ua,.int .i64 0,.int .i64 0,.bool false,Ua,Ua,.bool false,Ua,Ua,.bool false,Ua,Ua,Ua,Ua,.bool false,Ua,Ua,Ua,.bool false,Ua,Ua]:=K3 (Qi (c1:=[Ua,Ua,.int .i64 0,.int .i64 0,.string ⟨#[]⟩,Ua,Ua,Ua,Ua,Ua,.int .i64 0,.bool false,Ua,Ua,.bool false,Ua,Ua,.bool false,Ua,Ua,.bool false,Ua,Ua,.bool false,Ua,Ua,.int .i64 0,.int .i64 0,.bool false,Ua,Ua,.bool false,Ua,Ua,.bool false,Ua,Ua,Ua]) Qjv (Qi (c1:=[Ua,.bool false,Ua,Ua,Ua]) Qg8 (Qi (c1:=[.bool false,Ua,Ua]) Jo (Ka))))
instance Jk7:CFd Ub 144 1 38:=⟨fdA G8 rfl rfl ti_82.h rfl⟩
instance Jo3:CFd Ub 82 1 1:=⟨fdA Gs rfl rfl ti_58.h rfl⟩
instance Jk8:CFd Ub 144 0 0:=⟨fdA G8 rfl rfl ti_62.h rfl⟩
instance ti_80:CTy Ub 80 1 24 (Ua):=⟨tyI od⟩
instance Jo4:CFd Ub 82 0 0:=⟨fdA Gs rfl rfl ti_80.h rfl⟩
instance:CUn Ub 80 (.slice 150):=⟨Ga⟩
instance sh_80:CSh Ub 80 false 1:=⟨shp Ga rfl ti_80.h⟩
instance Jk9:CFd Ub 144 2 43:=⟨fdA G8 rfl rfl ti_58.h rfl⟩
instance Jo5:CFd Ub 82 2 4:=⟨fdA Gs rfl rfl ti_49.h rfl⟩
instance Qq8:CTy Ub 233 4 96 (.agg #[Ua,Ua,Ua,Ua]):=⟨tyI od⟩
theorem Qk8:Zr (Vq (⟨[],[],[],[]⟩:Wa)) [Ua,Ua,Ua,Ua]:=K3 (Qi (c1:=[Ua]) (J2 (k:=1)) (Qi (c1:=[Ua]) (J2 (k:=1)) (Qi (c1:=[Ua]) (J2 (k:=3)) (Qi (c1:=[Ua]) (J2 (k:=3)) (Ka)))))
instance:CZy Ub 233 (Vq (⟨[],[],[],[]⟩:Wa)):=⟨_,_,_,Qq8.h,Qk8⟩
instance Jb2:CPl Ub 233 [(0,1),(1,1),(2,1),(3,1)]:=⟨⟨_,Gg,od⟩⟩
instance Jpm:CSh Ub 233 true 4:=⟨shp Gg rfl Qq8.h⟩
instance Jo6:CFd Ub 54 3 10:=⟨fdA Gf rfl rfl ti_3.h rfl⟩
instance Ji0:CTy Ub 254 3 24 (.agg #[.int .i64 0,.int .i64 0,.int .i64 0]):=⟨tyI od⟩
instance Ji1:CPl Ub 254 [(0,2),(2,1)]:=⟨⟨_,Am,od⟩⟩
theorem Q0j:Zr (Qm5 (⟨0,0⟩:Zo)) [.int .i64 0,.int .i64 0]:=K3 (Qi (c1:=[.int .i64 0]) Vc (Qi (c1:=[.int .i64 0]) Vc (Ka)))
theorem Q0k:Zr (Qn (⟨(⟨0,0⟩:Zo),0⟩:Qk)) [.int .i64 0,.int .i64 0,.int .i64 0]:=K3 (Qi (c1:=[.int .i64 0,.int .i64 0]) Q0j (Qi (c1:=[.int .i64 0]) Vc (Ka)))
instance Ji2:CTy Ub 306 23 448 (.agg #[Ua,Ua,.int .i64 0,.int .i64 0,.string ⟨#[]⟩,Ua,Ua,Ua,Ua,Ua,.int .i64 0,.bool false,Ua,Ua,.bool false,Ua,Ua,Ua,.pointer none,Ua,Ua,Ua,Ua]):=⟨tyI od⟩
instance Ji3:CPl Ub 306 [(0,11),(11,3),(14,3),(17,1),(18,1),(19,4)]:=⟨⟨_,U9,od⟩⟩
instance Jla:CFd Ub 306 0 0:=⟨fdA U9 rfl rfl ti_54.h rfl⟩
instance Jlb:CFd Ub 306 3 17:=⟨fdA U9 rfl rfl ti_49.h rfl⟩
instance Jlc:CFd Ub 306 5 19:=⟨fdA U9 rfl rfl Qq8.h rfl⟩
instance Jld:CFd Ub 233 1 1:=⟨fdA Gg rfl rfl ti_50.h rfl⟩
instance Jle:CFd Ub 306 2 14:=⟨fdA U9 rfl rfl ti_58.h rfl⟩
instance Qum:CTy Ub 170 1 8 (.pointer none):=⟨tyI od⟩
instance Jlf:CFd Ub 306 4 18:=⟨fdA U9 rfl rfl Qum.h rfl⟩
instance Jpn:CSh Ub 170 false 1:=⟨shp underlying170 rfl Qum.h⟩
instance Ji4:CTy Ub 252 2 16 (.agg #[.int .i64 0,.int .i64 0]):=⟨tyI od⟩
instance Jlg:CFd Ub 254 0 0:=⟨fdA Am rfl rfl Ji4.h rfl⟩
instance Jlh:CFd Ub 252 0 0:=⟨fdA underlying252 rfl rfl ti_3.h rfl⟩
instance Jli:CFd Ub 252 1 1:=⟨fdA underlying252 rfl rfl ti_3.h rfl⟩
instance Jlj:CFd Ub 254 1 2:=⟨fdA Am rfl rfl ti_3.h rfl⟩
instance Jlk:CFd Ub 306 1 11:=⟨fdA U9 rfl rfl ti_58.h rfl⟩
instance Qun:CTy Ub 388 5 104 (.agg #[.bool false,Ua,Ua,Ua,Ua]):=⟨tyI od⟩
theorem Qjw:Zr (Qac (⟨(⟨(⟨false,[]⟩:Qe),[]⟩:Qa),[],[]⟩:Xh)) [.bool false,Ua,Ua,Ua,Ua]:=K3 (Qi (c1:=[.bool false,Ua,Ua]) Jo (Qi (c1:=[Ua]) (J2 (k:=3)) (Qi (c1:=[Ua]) (J2 (k:=3)) (Ka))))
instance:CZy Ub 388 (Qac (⟨(⟨(⟨false,[]⟩:Qe),[]⟩:Qa),[],[]⟩:Xh)):=⟨_,_,_,Qun.h,Qjw⟩
instance Q49:CPl Ub 388 [(0,3),(3,1),(4,1)]:=⟨⟨_,Gt,od⟩⟩
instance Jpo:CSh Ub 388 true 5:=⟨shp Gt rfl Qun.h⟩
instance Jll:CFd Ub 388 0 0:=⟨fdA Gt rfl rfl ti_58.h rfl⟩
instance Jlm:CFd Ub 388 1 3:=⟨fdA Gt rfl rfl ti_49.h rfl⟩
instance Jln:CFd Ub 388 2 4:=⟨fdA Gt rfl rfl ti_49.h rfl⟩
instance Q5a:CTy Ub 436 1 8 (.agg #[.pointer none]):=⟨tyI od⟩
instance Ji5:CPl Ub 436 [(0,1)]:=⟨⟨_,Us,od⟩⟩
instance Q5b:CTy Ub 438 1 8 (.agg #[.pointer none]):=⟨tyI od⟩
instance Ji6:CPl Ub 438 [(0,1)]:=⟨⟨_,An,od⟩⟩
instance Jpp:CSh Ub 438 true 1:=⟨shp An rfl Q5b.h⟩
instance Jb3:CTy Ub 440 5 104 (.agg #[.bool false,Ua,Ua,Ua,Ua]):=⟨tyI od⟩
instance Ji7:CPl Ub 440 [(0,3),(3,1),(4,1)]:=⟨⟨_,Gu,od⟩⟩
theorem Qoh:Zr (Wz (⟨(⟨(⟨false,[]⟩:Qe),[]⟩:Qa),[],[]⟩:Xq)) [.bool false,Ua,Ua,Ua,Ua]:=K3 (Qi (c1:=[.bool false,Ua,Ua]) Jo (Qi (c1:=[Ua]) (J2 (k:=3)) (Qi (c1:=[Ua]) (J2 (k:=3)) (Ka))))
instance Jlo:CFd Ub 440 1 3:=⟨fdA Gu rfl rfl ti_49.h rfl⟩
instance Jlp:CFd Ub 440 2 4:=⟨fdA Gu rfl rfl ti_49.h rfl⟩
instance Jpq:CSh Ub 440 true 5:=⟨shp Gu rfl Jb3.h⟩
instance Jlq:CFd Ub 438 0 0:=⟨fdA An rfl rfl Q5a.h rfl⟩
instance Qms:CSh Ub 436 true 1:=⟨shp Us rfl Q5a.h⟩
theorem Jah:MethF Ub 436 "Neg" 376:=⟨od,_,Us⟩
theorem Jai:MethF Ub 436 "Pow" 378:=⟨od,_,Us⟩
theorem Jaj:MethF Ub 436 "Add" 373:=⟨od,_,Us⟩
theorem Jak:MethF Ub 436 "Sub" 380:=⟨od,_,Us⟩
theorem Jal:MethF Ub 436 "Mul" 375:=⟨od,_,Us⟩
theorem Jam:MethF Ub 436 "Quo" 379:=⟨od,_,Us⟩
theorem Jb4:MethF Ub 436 "Of" 377:=⟨od,_,Us⟩
instance Jlr:CFd Ub 440 0 0:=⟨fdA Gu rfl rfl ti_58.h rfl⟩
theorem Q79:MethF Ub 436 "Fits" 374:=⟨od,_,Us⟩
instance Jls:CFd Ub 436 0 0:=⟨fdA Us rfl rfl Qum.h rfl⟩
instance Jo7:CFd Ub 65 2 2:=⟨fdA Uz rfl rfl ti_3.h rfl⟩
instance Jlt:CFd Ub 233 0 0:=⟨fdA Gg rfl rfl ti_50.h rfl⟩
instance Jlu:CFd Ub 233 2 2:=⟨fdA Gg rfl rfl ti_49.h rfl⟩
instance Jlv:CFd Ub 233 3 3:=⟨fdA Gg rfl rfl ti_49.h rfl⟩
instance Jo8:CFd Ub 65 1 1:=⟨fdA Uz rfl rfl ti_3.h rfl⟩
instance Qmt:CTy Ub 150 14 256 (.agg #[.bool false,Ua,Ua,.bool false,Ua,Ua,.bool false,Ua,Ua,.bool false,Ua,Ua,Ua,.bool false]):=⟨tyI od⟩
instance Jb5:CPl Ub 150 [(0,3),(3,3),(6,3),(9,3),(12,1),(13,1)]:=⟨⟨_,U5,od⟩⟩
theorem Qqe:Zr (Jh (⟨(⟨(⟨false,[]⟩:Qe),[]⟩:Qa),(⟨(⟨false,[]⟩:Qe),[]⟩:Qa),(⟨(⟨false,[]⟩:Qe),[]⟩:Qa),(⟨(⟨false,[]⟩:Qe),[]⟩:Qa),[],false⟩:Q7)) [.bool false,Ua,Ua,.bool false,Ua,Ua,.bool false,Ua,Ua,.bool false,Ua,Ua,Ua,.bool false]:=K3 (Qi (c1:=[.bool false,Ua,Ua]) Jo (Qi (c1:=[.bool false,Ua,Ua]) Jo (Qi (c1:=[.bool false,Ua,Ua]) Jo (Qi (c1:=[.bool false,Ua,Ua]) Jo (Qi (c1:=[Ua]) (J2 (k:=3)) (Qi (c1:=[.bool false]) zr_bl (Ka)))))))
instance:CZy Ub 150 (Jh (⟨(⟨(⟨false,[]⟩:Qe),[]⟩:Qa),(⟨(⟨false,[]⟩:Qe),[]⟩:Qa),(⟨(⟨false,[]⟩:Qe),[]⟩:Qa),(⟨(⟨false,[]⟩:Qe),[]⟩:Qa),[],false⟩:Q7)):=⟨_,_,_,Qmt.h,Qqe⟩
instance Jpr:CSh Ub 150 true 14:=⟨shp U5 rfl Qmt.h⟩
instance Jlw:CFd Ub 150 5 13:=⟨fdA U5 rfl rfl ti_4.h rfl⟩
theorem Jgj:∃ fs F,Tryz.prog.underlying 56=some (.struct fs)/\fs[1]?=some F/\F.offset=1/\Shp Ub F.type false 1:=⟨_,_,Gr,rfl,rfl,sh_36.h⟩
instance ti_97:CTy Ub 97 2 48 (.agg #[Ua,Ua]):=⟨tyI od⟩
theorem W7:Zr (Kj (⟨[],[]⟩:Jn)) [Ua,Ua]:=K3 (Qi (c1:=[Ua]) (J2 (k:=3)) (Qi (c1:=[Ua]) (J2 (k:=3)) (Ka)))
instance:CZy Ub 97 (Kj (⟨[],[]⟩:Jn)):=⟨_,_,_,ti_97.h,W7⟩
instance Jlx:CFd Ub 150 0 0:=⟨fdA U5 rfl rfl ti_58.h rfl⟩
instance Jly:CFd Ub 150 1 3:=⟨fdA U5 rfl rfl ti_58.h rfl⟩
instance Jlz:CFd Ub 150 2 6:=⟨fdA U5 rfl rfl ti_58.h rfl⟩
instance Jl0:CFd Ub 150 3 9:=⟨fdA U5 rfl rfl ti_58.h rfl⟩
instance Jl1:CFd Ub 150 4 12:=⟨fdA U5 rfl rfl ti_49.h rfl⟩
instance pl_97:CPl Ub 97 [(0,1),(1,1)]:=⟨⟨_,G9,od⟩⟩
instance sh_97:CSh Ub 97 true 2:=⟨shp G9 rfl ti_97.h⟩
instance Qyk:CTy Ub 167 4 80 (.agg #[.int .i64 0,Ua,Ua,Ua]):=⟨tyI od⟩
theorem Qup:Zr (Vb (⟨0,[],[],[]⟩:Vy)) [.int .i64 0,Ua,Ua,Ua]:=K3 (Qi (c1:=[.int .i64 0]) Vc (Qi (c1:=[Ua]) (J2 (k:=3)) (Qi (c1:=[Ua]) (J2 (k:=3)) (Qi (c1:=[Ua]) (J2 (k:=1)) (Ka)))))
instance:CZy Ub 167 (Vb (⟨0,[],[],[]⟩:Vy)):=⟨_,_,_,Qyk.h,Qup⟩
instance Ji8:CPl Ub 167 [(0,1),(1,1),(2,1),(3,1)]:=⟨⟨_,Gh,od⟩⟩
instance Jps:CSh Ub 167 true 4:=⟨shp Gh rfl Qyk.h⟩
instance Jl2:CFd Ub 167 1 1:=⟨fdA Gh rfl rfl ti_49.h rfl⟩
instance Jl3:CFd Ub 167 2 2:=⟨fdA Gh rfl rfl ti_49.h rfl⟩
instance Jl4:CFd Ub 167 3 3:=⟨fdA Gh rfl rfl ti_50.h rfl⟩
instance Ji9:CTy Ub 173 18 344 (.agg #[Ua,Ua,.int .i64 0,.int .i64 0,.string ⟨#[]⟩,Ua,Ua,Ua,Ua,Ua,.int .i64 0,.int .i64 0,Ua,Ua,Ua,Ua,Ua,.pointer none]):=⟨tyI od⟩
instance Jja:CPl Ub 173 [(0,11),(11,4),(15,1),(16,1),(17,1)]:=⟨⟨_,Gi,od⟩⟩
instance Jl5:CFd Ub 173 1 11:=⟨fdA Gi rfl rfl Qyk.h rfl⟩
instance Jb6:CTy Ub 256 1 24 (.agg #[Ua]):=⟨tyI od⟩
theorem Qm6:Zr (Qg7 (⟨[]⟩:Qbv)) [Ua]:=K3 (Qi (c1:=[Ua]) (J2 (k:=2)) (Ka))
instance:CZy Ub 256 (Qg7 (⟨[]⟩:Qbv)):=⟨_,_,_,Jb6.h,Qm6⟩
instance Qq9:CTy Ub 177 2 16 (.agg #[.int .i64 0,.int .i64 0]):=⟨tyI od⟩
instance Jjb:CPl Ub 177 [(0,1),(1,1)]:=⟨⟨_,Gv,od⟩⟩
theorem Qpm:Zr (Q2 (⟨0,0⟩:Qw)) [.int .i64 0,.int .i64 0]:=K3 (Qi (c1:=[.int .i64 0]) Vc (Qi (c1:=[.int .i64 0]) Vc (Ka)))
instance:CUn Ub 174 (.slice 177):=⟨Gk⟩
instance Jb7:CTy Ub 174 1 24 (Ua):=⟨tyI od⟩
instance Jl6:CFd Ub 256 0 0:=⟨fdA underlying256 rfl rfl Jb7.h rfl⟩
instance Jpt:CSh Ub 174 false 1:=⟨shp Gk rfl Jb7.h⟩
instance:CZy Ub 177 (Q2 (⟨0,0⟩:Qw)):=⟨_,_,_,Qq9.h,Qpm⟩
instance Jpu:CSh Ub 177 true 2:=⟨shp Gv rfl Qq9.h⟩
instance Jjc:CTy Ub 165 1 8 (.pointer none):=⟨tyI od⟩
instance Jpv:CSh Ub 165 false 1:=⟨shp underlying165 rfl Jjc.h⟩
instance Jl7:CFd Ub 173 0 0:=⟨fdA Gi rfl rfl ti_54.h rfl⟩
instance Jl8:CFd Ub 167 0 0:=⟨fdA Gh rfl rfl ti_3.h rfl⟩
theorem Jen:EqF Ub 2 177 (λx:Qw=>.agg [i64 x.From,i64 x.To]) Qn3:=
 Qr6 Gv od (Qdj rfl rfl sh_3.h (λ_=>rfl) (λ_=>rfl) (Qfm (λx:Qw=>x.From) (Qie (n:=0) Uv)) (Qdj rfl rfl sh_3.h (λ_=>rfl) (λ_=>rfl) (Qfm (λx:Qw=>x.To) (Qie (n:=0) Uv)) (Qw5)))
theorem Jjd:Tryz.prog.eqGuardType Tryz.prog.depth 177=false:=od
instance Jl9:CFd Ub 177 0 0:=⟨fdA Gv rfl rfl ti_3.h rfl⟩
instance Jma:CFd Ub 177 1 1:=⟨fdA Gv rfl rfl ti_3.h rfl⟩
instance:CZy Ub 50 (sli 1 (List.map Qf [])):=⟨_,_,_,ti_50.h,(J2 (k:=1))⟩
instance:CZy Ub 49 (sli 3 (List.map Qb [])):=⟨_,_,_,ti_49.h,(J2 (k:=3))⟩
instance Jmb:CFd Ub 173 2 15:=⟨fdA Gi rfl rfl ti_49.h rfl⟩
instance Jo9:CFd Ub 65 0 0:=⟨fdA Uz rfl rfl ti_3.h rfl⟩
instance Jpa:CFd Ub 97 0 0:=⟨fdA G9 rfl rfl ti_49.h rfl⟩
instance Jpb:CFd Ub 97 1 1:=⟨fdA G9 rfl rfl ti_49.h rfl⟩
instance Jje:CTy Ub 364 26 520 (.agg #[Ua,Ua,.int .i64 0,.int .i64 0,.string ⟨#[]⟩,Ua,Ua,Ua,Ua,Ua,.int .i64 0,.bool false,Ua,Ua,.bool false,Ua,Ua,Ua,Ua,Ua,Ua,Ua,Ua,Ua,Ua,.pointer none]):=⟨tyI od⟩
instance Jjf:CPl Ub 364 [(0,11),(11,3),(14,3),(17,1),(18,4),(22,1),(23,2),(25,1)]:=⟨⟨_,U1,od⟩⟩
instance Jmc:CFd Ub 364 6 23:=⟨fdA U1 rfl rfl ti_97.h rfl⟩
instance Jmd:CFd Ub 364 0 0:=⟨fdA U1 rfl rfl ti_54.h rfl⟩
instance Jme:CFd Ub 364 3 17:=⟨fdA U1 rfl rfl ti_49.h rfl⟩
instance Jmf:CFd Ub 364 5 22:=⟨fdA U1 rfl rfl ti_50.h rfl⟩
instance Jmg:CFd Ub 364 2 14:=⟨fdA U1 rfl rfl ti_58.h rfl⟩
instance Jmh:CFd Ub 364 7 25:=⟨fdA U1 rfl rfl Qum.h rfl⟩
instance Jmi:CFd Ub 364 1 11:=⟨fdA U1 rfl rfl ti_58.h rfl⟩
instance Jmj:CFd Ub 364 4 18:=⟨fdA U1 rfl rfl Qq8.h rfl⟩
instance Qyl:CTy Ub 420 5 104 (.agg #[.bool false,Ua,Ua,Ua,Ua]):=⟨tyI od⟩
theorem Qoi:Zr (Qa2 (⟨(⟨(⟨false,[]⟩:Qe),[]⟩:Qa),[],[]⟩:Wu)) [.bool false,Ua,Ua,Ua,Ua]:=K3 (Qi (c1:=[.bool false,Ua,Ua]) Jo (Qi (c1:=[Ua]) (J2 (k:=3)) (Qi (c1:=[Ua]) (J2 (k:=3)) (Ka))))
instance:CZy Ub 420 (Qa2 (⟨(⟨(⟨false,[]⟩:Qe),[]⟩:Qa),[],[]⟩:Wu)):=⟨_,_,_,Qyl.h,Qoi⟩
instance Jjg:CPl Ub 420 [(0,3),(3,1),(4,1)]:=⟨⟨_,Gw,od⟩⟩
instance Jpw:CSh Ub 420 true 5:=⟨shp Gw rfl Qyl.h⟩
instance Jjh:CTy Ub 444 11 216 (.agg #[Ua,Ua,.int .i64 0,.int .i64 0,Ua,Ua,.bool false,Ua,Ua,Ua,Ua]):=⟨tyI od⟩
instance Jji:CPl Ub 444 [(0,4),(4,1),(5,1),(6,5)]:=⟨⟨_,Gx,od⟩⟩
theorem Q5c:Zr (Qwn (⟨(⟨[],[],0,0⟩:Qv),[],[],(⟨(⟨(⟨false,[]⟩:Qe),[]⟩:Qa),[],[]⟩:Wu)⟩:Qwm)) [Ua,Ua,.int .i64 0,.int .i64 0,Ua,Ua,.bool false,Ua,Ua,Ua,Ua]:=K3 (Qi (c1:=[Ua,Ua,.int .i64 0,.int .i64 0]) Qh5 (Qi (c1:=[Ua]) (J2 (k:=3)) (Qi (c1:=[Ua]) (J2 (k:=3)) (Qi (c1:=[.bool false,Ua,Ua,Ua,Ua]) Qoi (Ka)))))
instance Jmk:CFd Ub 444 2 5:=⟨fdA Gx rfl rfl ti_49.h rfl⟩
instance Jml:CFd Ub 444 0 0:=⟨fdA Gx rfl rfl ti_48.h rfl⟩
instance Jmm:CFd Ub 444 3 6:=⟨fdA Gx rfl rfl Qyl.h rfl⟩
instance Jmn:CFd Ub 420 0 0:=⟨fdA Gw rfl rfl ti_58.h rfl⟩
instance Jmo:CFd Ub 420 1 3:=⟨fdA Gw rfl rfl ti_49.h rfl⟩
instance Jmp:CFd Ub 420 2 4:=⟨fdA Gw rfl rfl ti_49.h rfl⟩
instance Jmq:CFd Ub 444 1 4:=⟨fdA Gx rfl rfl ti_49.h rfl⟩
instance Jmr:CFd Ub 173 3 16:=⟨fdA Gi rfl rfl ti_49.h rfl⟩
instance Jms:CFd Ub 173 4 17:=⟨fdA Gi rfl rfl Qum.h rfl⟩
instance:CZy Ub 54 (Qs (⟨(⟨[],[],0,0⟩:Qv),(⟨[],[],[],[],[]⟩:Ql),[],0⟩:Qq)):=⟨_,_,_,ti_54.h,Qad⟩
instance Jpc:CFd Ub 29 2 2:=⟨fdA Gp rfl rfl ti_3.h rfl⟩
instance Jpd:CFd Ub 29 3 3:=⟨fdA Gp rfl rfl ti_3.h rfl⟩
instance Jpx:CSh Ub 239 true 6:=⟨shp Gq rfl Jb0.h⟩
theorem Qo8:Zr (Qz (⟨false,[],[]⟩:Qp)) [.bool false,Ua,Ua]:=K3 (Qi (c1:=[.bool false]) zr_bl (Qi (c1:=[Ua]) (J2 (k:=1)) (Qi (c1:=[Ua]) (J2 (k:=1)) (Ka))))
theorem Qo9:Zr (Qa1 (⟨0,0,0,(⟨false,[],[]⟩:Qp)⟩:K4)) [.int .i64 0,.int .i64 0,.int .i64 0,.bool false,Ua,Ua]:=K3 (Qi (c1:=[.int .i64 0]) Vc (Qi (c1:=[.int .i64 0]) Vc (Qi (c1:=[.int .i64 0]) Vc (Qi (c1:=[.bool false,Ua,Ua]) Qo8 (Ka)))))
instance:CZy Ub 239 (Qa1 (⟨0,0,0,(⟨false,[],[]⟩:Qp)⟩:K4)):=⟨_,_,_,Jb0.h,Qo9⟩
instance Jmt:CFd Ub 239 0 0:=⟨fdA Gq rfl rfl ti_3.h rfl⟩
instance Jmu:CFd Ub 239 1 1:=⟨fdA Gq rfl rfl ti_3.h rfl⟩
instance Jmv:CFd Ub 239 2 2:=⟨fdA Gq rfl rfl ti_3.h rfl⟩
instance Jpe:CFd Ub 38 0 0:=⟨fdA G5 rfl rfl ti_4.h rfl⟩
instance Jpf:CFd Ub 40 5 15:=⟨fdA U2 rfl rfl ti_3.h rfl⟩
instance ti_71:CTy Ub 71 2 48 (.agg #[Ua,Ua]):=⟨tyI od⟩
theorem Qjx:Zr (Ju (⟨[],[]⟩:Qt)) [Ua,Ua]:=K3 (Qi (c1:=[Ua]) (J2 (k:=2)) (Qi (c1:=[Ua]) (J2 (k:=1)) (Ka)))
instance:CZy Ub 71 (Ju (⟨[],[]⟩:Qt)):=⟨_,_,_,ti_71.h,Qjx⟩
instance ti_68:CTy Ub 68 1 24 (Ua):=⟨tyI od⟩
instance Jpg:CFd Ub 71 0 0:=⟨fdA Aa rfl rfl ti_68.h rfl⟩
instance:CUn Ub 68 (.slice 111):=⟨G3⟩
instance sh_68:CSh Ub 68 false 1:=⟨shp G3 rfl ti_68.h⟩
instance Jmw:CFd Ub 153 0 0:=⟨fdA Ak rfl rfl ti_3.h rfl⟩
instance Jmx:CFd Ub 153 1 1:=⟨fdA Ak rfl rfl ti_3.h rfl⟩
instance Y1:CTy Ub 191 3 40 (.agg #[.int .i64 0,.int .i64 0,Ua]):=⟨tyI od⟩
instance Qjh:CPl Ub 191 [(0,1),(1,1),(2,1)]:=⟨⟨_,Gy,od⟩⟩
theorem Yl:Zr (Qm (⟨0,0,[]⟩:Qd)) [.int .i64 0,.int .i64 0,Ua]:=K3 (Qi (c1:=[.int .i64 0]) Vc (Qi (c1:=[.int .i64 0]) Vc (Qi (c1:=[Ua]) (J2 (k:=1)) (Ka))))
instance:CUn Ub 109 (.slice 191):=⟨Ux⟩
instance Qra:CTy Ub 111 2 40 (.agg #[.string ⟨#[]⟩,Ua]):=⟨tyI od⟩
instance Jb8:CPl Ub 111 [(0,1),(1,1)]:=⟨⟨_,Ab,od⟩⟩
theorem Qqf:Zr (Vh (⟨[],[]⟩:Qy)) [.string ⟨#[]⟩,Ua]:=K3 (Qi (c1:=[.string ⟨#[]⟩]) Qen (Qi (c1:=[Ua]) (J2 (k:=3)) (Ka)))
instance ti_69:CTy Ub 69 1 24 (Ua):=⟨tyI od⟩
instance Jph:CFd Ub 71 1 1:=⟨fdA Aa rfl rfl ti_69.h rfl⟩
instance:CUn Ub 69 (.slice 109):=⟨U6⟩
instance sh_69:CSh Ub 69 false 1:=⟨shp U6 rfl ti_69.h⟩
instance Qoj:CTy Ub 109 1 24 (Ua):=⟨tyI od⟩
instance sh_71:CSh Ub 71 true 2:=⟨shp Aa rfl ti_71.h⟩
instance Jpy:CSh Ub 111 true 2:=⟨shp Ab rfl Qra.h⟩
instance:CZy Ub 111 (Vh (⟨[],[]⟩:Qy)):=⟨_,_,_,Qra.h,Qqf⟩
instance Jmy:CFd Ub 111 1 1:=⟨fdA Ab rfl rfl Qoj.h rfl⟩
instance Jpz:CSh Ub 109 false 1:=⟨shp Ux rfl Qoj.h⟩
instance Jp0:CSh Ub 191 true 3:=⟨shp Gy rfl Y1.h⟩
instance:CZy Ub 191 (Qm (⟨0,0,[]⟩:Qd)):=⟨_,_,_,Y1.h,Yl⟩
instance Jmz:CFd Ub 191 0 0:=⟨fdA Gy rfl rfl ti_3.h rfl⟩
instance Jm0:CFd Ub 191 1 1:=⟨fdA Gy rfl rfl ti_3.h rfl⟩
instance Jm1:CFd Ub 191 2 2:=⟨fdA Gy rfl rfl ti_36.h rfl⟩
instance Jm2:CFd Ub 111 0 0:=⟨fdA Ab rfl rfl ti_9.h rfl⟩
instance Jjj:CTy Ub 331 9 9 (.agg #[.int .u8 0,.int .u8 0,.int .u8 0,.int .u8 0,.int .u8 0,.int .u8 0,.int .u8 0,.int .u8 0,.int .u8 0]):=⟨tyI od⟩
theorem Jeo:Zr (Qnr (⟨0,0,0,0,0,0,0,0,0⟩:Qif)) [.int .u8 0,.int .u8 0,.int .u8 0,.int .u8 0,.int .u8 0,.int .u8 0,.int .u8 0,.int .u8 0,.int .u8 0]:=K3 (Qi (c1:=[.int .u8 0]) zr_u8 (Qi (c1:=[.int .u8 0]) zr_u8 (Qi (c1:=[.int .u8 0]) zr_u8 (Qi (c1:=[.int .u8 0]) zr_u8 (Qi (c1:=[.int .u8 0]) zr_u8 (Qi (c1:=[.int .u8 0]) zr_u8 (Qi (c1:=[.int .u8 0]) zr_u8 (Qi (c1:=[.int .u8 0]) zr_u8 (Qi (c1:=[.int .u8 0]) zr_u8 (Ka))))))))))
instance:CZy Ub 331 (Qnr (⟨0,0,0,0,0,0,0,0,0⟩:Qif)):=⟨_,_,_,Jjj.h,Jeo⟩
instance ti_5:CTy Ub 5 1 1 (.int .u8 0):=⟨tyI od⟩
instance:CUn Ub 331 (.array 9 5):=⟨Ae⟩
instance sh_5:CSh Ub 5 false 1:=⟨shp Af rfl ti_5.h⟩
theorem Q5d:∀ l:List Nat,l.length=9->(.agg (l.map u8):Ly)=Qnr (Qpj l)
 | [a0,a1,a2,a3,a4,a5,a6,a7,a8],_=>rfl
 | [],h=>by simp at h
 | [_],h=>by simp at h
 | [_,_],h=>by simp at h
 | [_,_,_],h=>by simp at h
 | [_,_,_,_],h=>by simp at h
 | [_,_,_,_,_],h=>by simp at h
 | [_,_,_,_,_,_],h=>by simp at h
 | [_,_,_,_,_,_,_],h=>by simp at h
 | [_,_,_,_,_,_,_,_],h=>by simp at h
 | _::_::_::_::_::_::_::_::_::_::_,h=>by simp at h
instance:CUn Ub 118 (.slice 5):=⟨underlying118⟩
instance Jb9:CTy Ub 120 2 32 (.agg #[.pointer none,Ua]):=⟨tyI od⟩
def Qdt(x:J5):Value:=kv4 x.op x.a x.b x.n
theorem Jca:KeyS Ub 325 Qdt Zc:=keyS4 (λx:J5=>x.op) (λx=>x.a) (λx=>x.b) (λx=>x.n) Ac od ⟨rfl,rfl,rfl,rfl⟩ ⟨rfl,rfl,rfl,rfl⟩ rfl rfl rfl rfl sh_3.h sh_3.h sh_3.h sh_9.h Uv Uv Uv Uw
theorem Jcb{p:J5}:∀ w S γ v,Ly.val w S γ (Qft p) v->v=Qdt p:=lv4
instance Jjk:CTy Ub 114 4 80 (.agg #[Ua,.map none,Ua,Ua]):=⟨tyI od⟩
instance Jjl:CPl Ub 114 [(0,1),(1,1),(2,1),(3,1)]:=⟨⟨_,Gz,od⟩⟩
instance Jm3:CFd Ub 114 2 2:=⟨fdA Gz rfl rfl ti_27.h rfl⟩
instance Q5e:CTy Ub 325 4 40 (.agg #[.int .i64 0,.int .i64 0,.int .i64 0,.string ⟨#[]⟩]):=⟨tyI od⟩
instance Jjm:CPl Ub 325 [(0,1),(1,1),(2,1),(3,1)]:=⟨⟨_,Ac,od⟩⟩
theorem Qwo:Zr (Qft (⟨0,0,0,[]⟩:J5)) [.int .i64 0,.int .i64 0,.int .i64 0,.string ⟨#[]⟩]:=K3 (Qi (c1:=[.int .i64 0]) Vc (Qi (c1:=[.int .i64 0]) Vc (Qi (c1:=[.int .i64 0]) Vc (Qi (c1:=[.string ⟨#[]⟩]) Qen (Ka)))))
instance:CZy Ub 325 (Qft (⟨0,0,0,[]⟩:J5)):=⟨_,_,_,Q5e.h,Qwo⟩
instance Jp1:CSh Ub 325 true 4:=⟨shp Ac rfl Q5e.h⟩
instance Jm4:CFd Ub 325 3 3:=⟨fdA Ac rfl rfl ti_9.h rfl⟩
instance Jcc:CTy Ub 112 1 8 (.map none):=⟨tyI od⟩
instance Jm5:CFd Ub 114 1 1:=⟨fdA Gz rfl rfl Jcc.h rfl⟩
instance:CUn Ub 112 (.map 325 3):=⟨G2⟩
instance Jp2:CSh Ub 112 false 1:=⟨shp G2 rfl Jcc.h⟩
instance Jm6:CFd Ub 114 0 0:=⟨fdA Gz rfl rfl ti_46.h rfl⟩
instance Jm7:CFd Ub 114 3 3:=⟨fdA Gz rfl rfl ti_27.h rfl⟩
instance:CUn Ub 194 (.slice 197):=⟨Ah⟩
instance Qym:CTy Ub 197 2 24 (.agg #[.string ⟨#[]⟩,.int .i64 0]):=⟨tyI od⟩
instance Jp3:CSh Ub 197 true 2:=⟨shp Ad rfl Qym.h⟩
instance Jm8:CFd Ub 197 1 1:=⟨fdA Ad rfl rfl ti_3.h rfl⟩
instance Jm9:CFd Ub 197 0 0:=⟨fdA Ad rfl rfl ti_9.h rfl⟩
instance Jjn:CPl Ub 197 [(0,1),(1,1)]:=⟨⟨_,Ad,od⟩⟩
theorem Q3d:Zr (Qe7 (⟨[],0⟩:Kf)) [.string ⟨#[]⟩,.int .i64 0]:=K3 (Qi (c1:=[.string ⟨#[]⟩]) Qen (Qi (c1:=[.int .i64 0]) Vc (Ka)))
instance:CUn Ub 204 (.slice 219):=⟨Ai⟩
instance Jjo:CTy Ub 208 5 72 (.agg #[Ua,.int .i64 0,.int .i64 0,.int .i64 0,Ua]):=⟨tyI od⟩
instance Jjp:CPl Ub 208 [(0,1),(1,1),(2,1),(3,1),(4,1)]:=⟨⟨_,Gj,od⟩⟩
theorem Qyn:Zr (Q0i (⟨[],0,0,0,[]⟩:Qq6)) [Ua,.int .i64 0,.int .i64 0,.int .i64 0,Ua]:=K3 (Qi (c1:=[Ua]) (J2 (k:=3)) (Qi (c1:=[.int .i64 0]) Vc (Qi (c1:=[.int .i64 0]) Vc (Qi (c1:=[.int .i64 0]) Vc (Qi (c1:=[Ua]) (J2 (k:=1)) (Ka))))))
instance pl_71:CPl Ub 71 [(0,1),(1,1)]:=⟨⟨_,Aa,od⟩⟩
instance:CZy Ub 219 (Qo (⟨0,[],0⟩:Qg)):=⟨_,_,_,Qmr.h,Qg0⟩
instance Jna:CFd Ub 208 1 1:=⟨fdA Gj rfl rfl ti_3.h rfl⟩
instance Jcd:CTy Ub 204 1 24 (Ua):=⟨tyI od⟩
instance Jnb:CFd Ub 208 0 0:=⟨fdA Gj rfl rfl Jcd.h rfl⟩
instance Jp4:CSh Ub 204 false 1:=⟨shp Ai rfl Jcd.h⟩
instance Jp5:CSh Ub 219 true 3:=⟨shp Ge rfl Qmr.h⟩
theorem Jep:∃ fs F,Tryz.prog.underlying 219=some (.struct fs)/\fs[1]?=some F/\F.offset=1/\Shp Ub F.type false 1:=⟨_,_,Ge,rfl,rfl,sh_9.h⟩
instance Jnc:CFd Ub 208 2 2:=⟨fdA Gj rfl rfl ti_3.h rfl⟩
instance Jnd:CFd Ub 219 2 2:=⟨fdA Ge rfl rfl ti_3.h rfl⟩
instance Jne:CFd Ub 208 3 3:=⟨fdA Gj rfl rfl ti_3.h rfl⟩
instance Jce:CTy Ub 121 1 24 (Ua):=⟨tyI od⟩
instance Jnf:CFd Ub 208 4 4:=⟨fdA Gj rfl rfl Jce.h rfl⟩
instance Jp6:CSh Ub 121 false 1:=⟨shp Uy rfl Jce.h⟩
theorem Q0l(n:Int)(h1:-9223372036854775808<n)(h2:n<=9223372036854775807)(w:World)(b:Nat)(hw:w.heap[b]?=some (.cells #[.int .i64 n] 3 (0,0))):ItC Ub 189 #[.pointer (some ⟨b,0,none⟩)] n.toNat w:=
 Jgi func189 rfl rfl rfl sh_3.h h1 h2 w b hw
theorem Q0m:∀ args w,(callFunc 189 args).run Ub w=.ok (.enter 189 args) w:=entersF func189 od rfl
abbrev Uc xs:=sli 3 (List.map Qb xs)
abbrev Ud xs:=sli 1 (List.map u32 xs)
abbrev Ue xs:=sli 3 (List.map Qo xs)
abbrev Uf xs:=sli 3 (List.map Qm xs)
abbrev Ug xs:=sli 1 (List.map Qf xs)
abbrev Uh xs:=sli 1 (List.map i64 xs)
abbrev Ui xs:=sli 14 (List.map Jh xs)
abbrev Uj xs:=sli 1 (List.map Jl xs)
abbrev Uk xs:=sli 2 (List.map Vh xs)
abbrev Ul xs:=sli 6 (List.map Q4 xs)
abbrev Um xs:=sli 2 (List.map Q2 xs)
abbrev Un xs:=sli 1 (List.map str xs)
abbrev Uo xs:=sli 3 (List.map K6 xs)
abbrev Up xs:=sli 3 (List.map Qz xs)
instance:CNs 0 1 _ u32:=⟨trivial⟩
instance:CNs 1 3 _ Qb:=⟨trivial⟩
instance:CNs 2 1 _ i64:=⟨trivial⟩
instance:CNs 3 14 _ Jh:=⟨trivial⟩
instance:CNs 4 1 _ Qf:=⟨trivial⟩
instance:CNs 5 2 _ Q2:=⟨trivial⟩
instance:CNs 6 3 _ Qm:=⟨trivial⟩
instance:CNs 7 1 _ Jl:=⟨trivial⟩
instance:CNs 8 3 _ Qo:=⟨trivial⟩
instance:CZy Ub 214 (Kc (⟨[],0,false⟩:Q9)):=⟨_,_,_,Jiw.h,Qw8⟩
instance:CZy Ub 254 (Qn (⟨(⟨0,0⟩:Zo),0⟩:Qk)):=⟨_,_,_,Ji0.h,Q0k⟩
instance:CZy Ub 440 (Wz (⟨(⟨(⟨false,[]⟩:Qe),[]⟩:Qa),[],[]⟩:Xq)):=⟨_,_,_,Jb3.h,Qoh⟩
instance:CZy Ub 144 (Qq7 (⟨(⟨(⟨(⟨[],[],0,0⟩:Qv),(⟨[],[],[],[],[]⟩:Ql),[],0⟩:Qq),(⟨(⟨(⟨false,[]⟩:Qe),[]⟩:Qa),(⟨(⟨false,[]⟩:Qe),[]⟩:Qa),(⟨(⟨false,[]⟩:Qe),[]⟩:Qa),(⟨(⟨false,[]⟩:Qe),[]⟩:Qa),(⟨(⟨false,[]⟩:Qe),[]⟩:Qa),0,0⟩:Jb),(⟨(⟨false,[]⟩:Qe),[]⟩:Qa),(⟨(⟨false,[]⟩:Qe),[]⟩:Qa),(⟨(⟨false,[]⟩:Qe),[]⟩:Qa),[]⟩:Jc),(⟨[],(⟨(⟨false,[]⟩:Qe),[]⟩:Qa),[]⟩:Jf),(⟨(⟨false,[]⟩:Qe),[]⟩:Qa)⟩:Qq5)):=⟨_,_,_,Jiy.h,Qyj⟩
instance:CZy Ub 444 (Qwn (⟨(⟨[],[],0,0⟩:Qv),[],[],(⟨(⟨(⟨false,[]⟩:Qe),[]⟩:Qa),[],[]⟩:Wu)⟩:Qwm)):=⟨_,_,_,Jjh.h,Q5c⟩
instance:CZy Ub 197 (Qe7 (⟨[],0⟩:Kf)):=⟨_,_,_,Qym.h,Q3d⟩
instance:CZy Ub 208 (Q0i (⟨[],0,0,0,[]⟩:Qq6)):=⟨_,_,_,Jjo.h,Qyn⟩
instance:CFo Ub:=⟨fol⟩
abbrev FO{R:Type}(f:Nat)(a:List Ly)(s:R->Ly)(m:Option R):Prop:=∀ r,m=some r->FnOk Ub f a [] (s r) []
abbrev FM{R:Type}(f:Nat)(a:List Ly)(i:List (Nat×Ct))(s:R->Ly)(o:R->List (Nat×Ct))(m:Option R):Prop:=∀ r,m=some r->FnOk Ub f a i (s r) (o r)
instance{x}:CIF (Qb x):=⟨CIF.h⟩
instance{x}:CIF (Qs x):=⟨CIF.h⟩
instance{x}:CIF (Vw x):=⟨CIF.h⟩
instance{x}:CIF (Jt x):=⟨CIF.h⟩
end Go.Proofs.YteejhjpdcefgfaaGreatDoor
