import Derived.Test.YtkkfedionkhgnaaGreatDoorBld
import Derived.Test.YtkkfedionkhgnaaGreatDoorLib
import Derived.Test.YtkkfedionkhgnaaGreatDoorSE
import Derived.Test.YtkkfedionkhgnaaGreatDoorSG
import Derived.Test.YtkkfedionkhgnaaGreatDoorMod
set_option maxRecDepth 100000
set_option maxHeartbeats 4000000
namespace Go.Proofs.YtkkfedionkhgnaaGreatDoor
open Go Go.RowKit Tryz
abbrev Ua:Value:=.slice none 0 0
noncomputable abbrev Ub:=Tryz.prog
abbrev Ul:=underlying32
abbrev Um:=underlying46
abbrev Un:=underlying47
abbrev Uo:=underlying437
abbrev Up:=underlying463
abbrev Uq:=underlying3
abbrev Ur:=underlying9
abbrev Us:=underlying155
abbrev Ut:=underlying394
abbrev Uu:=underlying164
abbrev Uv:=underlying166
abbrev Uw:=underlying26
abbrev Ux:=underlying49
abbrev Uy:=underlying60
abbrev Uz:=underlying232
abbrev U0:=underlying23
abbrev U4:=underlying78
abbrev U5:=underlying27
abbrev U6:=underlying29
abbrev U7:=underlying138
abbrev U8:=underlying45
abbrev U9:=underlying51
abbrev Ga:=underlying64
abbrev Gb:=underlying174
abbrev Gc:=underlying178
abbrev Gd:=underlying189
abbrev Ge:=underlying275
abbrev Gf:=underlying179
abbrev Gg:=underlying31
abbrev Gh:=underlying25
abbrev Gi:=underlying217
abbrev Gj:=underlying34
abbrev Gk:=underlying315
abbrev Gl:=underlying467
abbrev Gm:=underlying442
abbrev Gn:=underlying80
abbrev Gp:=underlying182
abbrev Gq:=underlying475
abbrev Gr:=underlying496
abbrev Gs:=underlying107
abbrev Gt:=underlying340
abbrev Gu:=underlying279
abbrev Gv:=underlying282
abbrev Gw:=underlying102
abbrev Gx:=underlying218
abbrev Gy:=underlying382
abbrev Gz:=underlying374
abbrev G0:=underlying36
abbrev G1:=underlying358
abbrev G2:=underlying54
abbrev G3:=underlying56
abbrev G4:=underlying66
abbrev G5:=underlying378
abbrev G6:=underlying76
abbrev G7:=underlying88
abbrev G8:=underlying343
abbrev G9:=underlying93
abbrev Aa:=underlying116
abbrev Ab:=underlying123
abbrev Ac:=underlying421
abbrev Ad:=underlying5
abbrev Ae:=underlying227
abbrev Af:=underlying43
abbrev Ah:=underlying38
abbrev Ai:=underlying362
abbrev Aj:=underlying448
abbrev Ak:=underlying237
abbrev Al:=underlying465
abbrev Am:=underlying439
theorem ownK:ownKnob Tryz.prog.godebug=none:=by kernel_rfl
theorem laidOutK:laidOutB Ub=true:=by kernel_rfl
abbrev Qae(xs:List Nat):Ly:=sli 1 (xs.map u32)
abbrev Qg(x:Qc):Ly:=.agg [bl x.Neg,Qae x.N,Qae x.D]
abbrev Qfs(x:Zg):Ly:=.agg [i64 x.Op,i64 x.A,i64 x.B,Qg x.N]
abbrev Q5d(xs:List Int):Ly:=sli 1 (xs.map i64)
abbrev Qf(xs:List Qc):Ly:=sli 3 (xs.map Qg)
abbrev K2(xs:List (List Qc)):Ly:=sli 1 (xs.map Qf)
abbrev Qz(x:Qh):Ly:=.agg [bl x.Neg,Qae x.Ao]
abbrev Qb(x:Qa):Ly:=.agg [Qz x.Num,Qae x.Den]
theorem Jc{a0_0_ a0_1_ a1_}:IF (.agg [.agg [bl a0_0_,sli 1 a0_1_],sli 1 a1_]):=Qfe (V7 (Qfe (V7 if_bl (V7 Xb (Qbw)))) (V7 Xb (Qbw)))
abbrev J3(x:Q8):Ly:=.agg [i64 x.Op,i64 x.A,i64 x.B,Qb x.N]
abbrev Qwj(xs:List Q8):Ly:=sli 6 (xs.map J3)
abbrev Q6(x:Qx):Ly:=.agg [Qwj x.Code,Q5d x.Outs,i64 x.Dim,i64 x.Par]
abbrev Qe(xs:List Qa):Ly:=sli 3 (xs.map Qb)
abbrev Zp(xs:List (List Qa)):Ly:=sli 1 (xs.map Qe)
abbrev Jd(x:Q0):Ly:=.agg [str x.Name,Qe x.C,Zp x.A,Qe x.B,Qe x.E]
abbrev Qi9(x:Qfk):Ly:=.agg [str x.a0,str x.a1,str x.a2,str x.a3,str x.a4,str x.a5]
abbrev Ql(x:Qd):Ly:=.agg [i64 x.Ap,i64 x.Step,i64 x.Aq,i64 x.At]
abbrev Jr(x:Jg):Ly:=.agg [str x.rest,i64 x.at_,bl x.over]
abbrev Qoy(x:Qhh):Ly:=.agg [i64 x.Ap,str x.Text,i64 x.At]
abbrev Qk(x:Qo):Ly:=.agg [Q6 x.Tape,Jd x.An,Qe x.P,i64 x.Bits]
abbrev Q2(x:Q3):Ly:=.agg [Zp x.Ys,Zp x.Ks,Qe x.Next,Qe x.Err]
abbrev Xg(x:Jo):Ly:=.agg [Qe x.Next,Qe x.Err,Q2 x.Made]
abbrev Qis(x:Jz):Ly:=.agg [i64 x.op,i64 x.a,i64 x.b]
abbrev Qj1(x:Ya):Ly:=.agg [i64 x.Seen,i64 x.Peak]
abbrev Qi(x:Qn):Ly:=.agg [Qj1 x.Count,i64 x.limit]
theorem Qw{a0_0_ a0_1_ a1_}:IF (.agg [.agg [i64 a0_0_,i64 a0_1_],i64 a1_]):=Qfe (V7 (Qfe (V7 Ka (V7 Ka (Qbw)))) (V7 Ka (Qbw)))
abbrev Vs(x:Kq):Ly:=.agg [Qb x.T,Qe x.Y,Qe x.P]
abbrev Wk(x:Wh):Ly:=.agg [Qb x.T,Qe x.Y,Qe x.P]
abbrev Qr(x:Qq):Ly:=.agg [Qb x.V,Qb x.D]
theorem J5{a0_0_0_ a0_0_1_ a0_1_ a1_0_0_ a1_0_1_ a1_1_}:IF (.agg [.agg [.agg [bl a0_0_0_,sli 1 a0_0_1_],sli 1 a0_1_],.agg [.agg [bl a1_0_0_,sli 1 a1_0_1_],sli 1 a1_1_]]):=Qfe (V7 (Qfe (V7 (Qfe (V7 if_bl (V7 Xb (Qbw)))) (V7 Xb (Qbw)))) (V7 (Qfe (V7 (Qfe (V7 if_bl (V7 Xb (Qbw)))) (V7 Xb (Qbw)))) (Qbw)))
abbrev Qph(xs:List Qq):Ly:=sli 6 (xs.map Qr)
abbrev Wl(x:Wi):Ly:=.agg [Qr x.T,Qph x.Y,Qph x.P]
abbrev Qkl(x:Qgu):Ly:=.agg [u8 x.a0,u8 x.a1,u8 x.a2,u8 x.a3,u8 x.a4,u8 x.a5,u8 x.a6,u8 x.a7,u8 x.a8]
abbrev Qgx(x:Qb0):Ly:=.agg [Qg x.T,Qg x.Want,Qg x.H,Qg x.Err,Qf x.Y,bl x.Ok]
abbrev J0(x:Jq):Ly:=.agg [Qb x.T,Qb x.Want,Qb x.H,Qb x.Err,Qe x.Y,bl x.Ok]
abbrev Qxt(xs:List Jq):Ly:=sli 14 (xs.map J0)
abbrev Q5(x:Jf):Ly:=.agg [Qxt x.Ar,Qb x.T,Qe x.Y]
abbrev Ju(x:Je):Ly:=.agg [Qe x.Y,Qe x.P]
abbrev Kb(x:Kv):Ly:=.agg [i64 x.Every,Qe x.Sizes,Qe x.Ts,Zp x.Ys]
abbrev Qu(x:Qp):Ly:=.agg [i64 x.From,i64 x.To]
abbrev Qsg(xs:List Qp):Ly:=sli 2 (xs.map Qu)
abbrev Qdn(x:Zy):Ly:=.agg [Qsg x.l]
abbrev Qab(x:Vm):Ly:=.agg [Qb x.T,Qe x.Y,Qe x.P]
abbrev Qzf(x:Qrs):Ly:=.agg [Q6 x.t,Qe x.done,Qe x.co,Qab x.grad]
abbrev Qqd(x:Qkw):Ly:=.agg [i64 x.Kept,i64 x.Again,i64 x.Most]
abbrev Qft(x:Zh):Ly:=.agg [i64 x.Ap,str x.Text,i64 x.At]
abbrev K6(x:Qv):Ly:=.agg [bl x.Neg,Qae x.Ao]
abbrev Qfu(x:Qbf):Ly:=.agg [Qf x.Y,Qf x.P]
abbrev Qxu(x:Qsf):Ly:=.agg [i64 x.a0,i64 x.a1,i64 x.a2,i64 x.a3]
abbrev Qfv(x:Qbh):Ly:=.agg [i64 x.Every,Qf x.Sizes,Qf x.Ts,K2 x.Ys]
abbrev Qfw(x:Qbe):Ly:=.agg [K2 x.Ys,K2 x.Ks,Qf x.Next,Qf x.Err]
abbrev Qxv(x:Qse):Ly:=.agg [i64 x.a0,i64 x.a1,i64 x.a2]
abbrev Qe5(x:Qaq):Ly:=.agg [Qg x.T,Qf x.Y,Qf x.P]
abbrev Qfx(x:Qbg):Ly:=.agg [Qg x.T,Qf x.Y,Qf x.P]
abbrev Vt(x:Jv):Ly:=.agg [Zp x.Y,Zp x.P]
abbrev Q4(x:Qy):Ly:=.agg [K2 x.Y,K2 x.P]
instance ti_31:CTy Ub 31 11 208 (.agg #[Ua,Ua,.int .i64 0,.int .i64 0,.string ⟨#[]⟩,Ua,Ua,Ua,Ua,Ua,.int .i64 0]):=⟨tyI (by kernel_rfl)⟩
instance sh_31:CSh Ub 31 true 11:=⟨shp Gg rfl ti_31.h⟩
instance ti_25:CTy Ub 25 4 64 (.agg #[Ua,Ua,.int .i64 0,.int .i64 0]):=⟨tyI (by kernel_rfl)⟩
instance Jba:CFd Ub 31 0 0:=⟨fdA Gg rfl rfl ti_25.h rfl⟩
instance sh_25:CSh Ub 25 true 4:=⟨shp Gh rfl ti_25.h⟩
instance ti_22:CTy Ub 22 1 24 (Ua):=⟨tyI (by kernel_rfl)⟩
instance Jbb:CFd Ub 25 0 0:=⟨fdA Gh rfl rfl ti_22.h rfl⟩
instance:CUn Ub 22 (.slice 217):=⟨underlying22⟩
instance sh_22:CSh Ub 22 false 1:=⟨shp underlying22 rfl ti_22.h⟩
instance Q2e:CTy Ub 217 6 80 (.agg #[.int .i64 0,.int .i64 0,.int .i64 0,.bool false,Ua,Ua]):=⟨tyI (by kernel_rfl)⟩
instance ti_34:CTy Ub 34 3 56 (.agg #[.bool false,Ua,Ua]):=⟨tyI (by kernel_rfl)⟩
instance Q72:CFd Ub 217 3 3:=⟨fdA Gi rfl rfl ti_34.h rfl⟩
instance sh_34:CSh Ub 34 true 3:=⟨shp Gj rfl ti_34.h⟩
instance ti_32:CTy Ub 32 1 24 (Ua):=⟨tyI (by kernel_rfl)⟩
instance Jbc:CFd Ub 34 1 1:=⟨fdA Gj rfl rfl ti_32.h rfl⟩
instance:CUn Ub 32 (.slice 286):=⟨Ul⟩
instance sh_32:CSh Ub 32 false 1:=⟨shp Ul rfl ti_32.h⟩
instance Jbd:CFd Ub 34 2 2:=⟨fdA Gj rfl rfl ti_32.h rfl⟩
instance ti_23:CTy Ub 23 1 24 (Ua):=⟨tyI (by kernel_rfl)⟩
instance Jbe:CFd Ub 25 1 1:=⟨fdA Gh rfl rfl ti_23.h rfl⟩
instance:CUn Ub 23 (.slice 3):=⟨U0⟩
instance sh_23:CSh Ub 23 false 1:=⟨shp U0 rfl ti_23.h⟩
instance ti_29:CTy Ub 29 5 112 (.agg #[.string ⟨#[]⟩,Ua,Ua,Ua,Ua]):=⟨tyI (by kernel_rfl)⟩
instance Jbf:CFd Ub 31 1 4:=⟨fdA Gg rfl rfl ti_29.h rfl⟩
instance sh_29:CSh Ub 29 true 5:=⟨shp U6 rfl ti_29.h⟩
instance ti_9:CTy Ub 9 1 16 (.string ⟨#[]⟩):=⟨tyI (by kernel_rfl)⟩
instance Jbg:CFd Ub 29 0 0:=⟨fdA U6 rfl rfl ti_9.h rfl⟩
instance:CUn Ub 9 (.string):=⟨Ur⟩
instance sh_9:CSh Ub 9 false 1:=⟨shp Ur rfl ti_9.h⟩
instance ti_27:CTy Ub 27 1 24 (Ua):=⟨tyI (by kernel_rfl)⟩
instance Jbh:CFd Ub 29 2 2:=⟨fdA U6 rfl rfl ti_27.h rfl⟩
instance:CUn Ub 27 (.slice 26):=⟨U5⟩
instance sh_27:CSh Ub 27 false 1:=⟨shp U5 rfl ti_27.h⟩
instance ti_26:CTy Ub 26 1 24 (Ua):=⟨tyI (by kernel_rfl)⟩
instance Jbi:CFd Ub 29 3 3:=⟨fdA U6 rfl rfl ti_26.h rfl⟩
instance:CUn Ub 26 (.slice 34):=⟨Uw⟩
instance sh_26:CSh Ub 26 false 1:=⟨shp Uw rfl ti_26.h⟩
instance Jbj:CFd Ub 29 1 1:=⟨fdA U6 rfl rfl ti_26.h rfl⟩
instance Jbk:CFd Ub 29 4 4:=⟨fdA U6 rfl rfl ti_26.h rfl⟩
instance Jbl:CFd Ub 31 2 9:=⟨fdA Gg rfl rfl ti_26.h rfl⟩
instance ti_36:CTy Ub 36 7 136 (.agg #[.bool false,Ua,Ua,.bool false,Ua,Ua,Ua]):=⟨tyI (by kernel_rfl)⟩
instance sh_36:CSh Ub 36 true 7:=⟨shp G0 rfl ti_36.h⟩
instance Jbm:CFd Ub 36 0 0:=⟨fdA G0 rfl rfl ti_34.h rfl⟩
instance Jbn:CFd Ub 36 1 3:=⟨fdA G0 rfl rfl ti_34.h rfl⟩
instance Jbo:CFd Ub 36 2 6:=⟨fdA G0 rfl rfl ti_26.h rfl⟩
instance ti_38:CTy Ub 38 2 48 (.agg #[Ua,Ua]):=⟨tyI (by kernel_rfl)⟩
instance sh_38:CSh Ub 38 true 2:=⟨shp Ah rfl ti_38.h⟩
instance Jbp:CFd Ub 38 0 0:=⟨fdA Ah rfl rfl ti_26.h rfl⟩
instance Jbq:CFd Ub 38 1 1:=⟨fdA Ah rfl rfl ti_26.h rfl⟩
instance Qnj:CTy Ub 138 6 80 (.agg #[.int .i64 0,.int .i64 0,.int .i64 0,.bool false,Ua,Ua]):=⟨tyI (by kernel_rfl)⟩
instance Qxw:CPl Ub 138 [(0,1),(1,1),(2,1),(3,3)]:=⟨⟨_,U7,by kernel_rfl⟩⟩
theorem Vo:Zr (Qz (⟨false,[]⟩:Qh)) [.bool false,Ua]:=Jl (Qj (c1:=[.bool false]) zr_bl (Qj (c1:=[Ua]) (Q7 (k:=1)) (Jb)))
theorem Jp:Zr (Qb (⟨(⟨false,[]⟩:Qh),[]⟩:Qa)) [.bool false,Ua,Ua]:=Jl (Qj (c1:=[.bool false,Ua]) Vo (Qj (c1:=[Ua]) (Q7 (k:=1)) (Jb)))
theorem Qhu:Zr (J3 (⟨0,0,0,(⟨(⟨false,[]⟩:Qh),[]⟩:Qa)⟩:Q8)) [.int .i64 0,.int .i64 0,.int .i64 0,.bool false,Ua,Ua]:=Jl (Qj (c1:=[.int .i64 0]) Kd (Qj (c1:=[.int .i64 0]) Kd (Qj (c1:=[.int .i64 0]) Kd (Qj (c1:=[.bool false,Ua,Ua]) Jp (Jb)))))
instance:CUn Ub 43 (.slice 138):=⟨Af⟩
instance ti_3:CTy Ub 3 1 8 (.int .i64 0):=⟨tyI (by kernel_rfl)⟩
instance ti_45:CTy Ub 45 4 64 (.agg #[Ua,Ua,.int .i64 0,.int .i64 0]):=⟨tyI (by kernel_rfl)⟩
instance pl_45:CPl Ub 45 [(0,1),(1,1),(2,1),(3,1)]:=⟨⟨_,U8,by kernel_rfl⟩⟩
theorem Qhv:Zr (Q6 (⟨[],[],0,0⟩:Qx)) [Ua,Ua,.int .i64 0,.int .i64 0]:=Jl (Qj (c1:=[Ua]) (Q7 (k:=6)) (Qj (c1:=[Ua]) (Q7 (k:=1)) (Qj (c1:=[.int .i64 0]) Kd (Qj (c1:=[.int .i64 0]) Kd (Jb)))))
instance:CZy Ub 45 (Q6 (⟨[],[],0,0⟩:Qx)):=⟨_,_,_,ti_45.h,Qhv⟩
instance sh_45:CSh Ub 45 true 4:=⟨shp U8 rfl ti_45.h⟩
instance ti_49:CTy Ub 49 5 112 (.agg #[.string ⟨#[]⟩,Ua,Ua,Ua,Ua]):=⟨tyI (by kernel_rfl)⟩
theorem Zd:Zr (Jd (⟨[],[],[],[],[]⟩:Q0)) [.string ⟨#[]⟩,Ua,Ua,Ua,Ua]:=Jl (Qj (c1:=[.string ⟨#[]⟩]) Qds (Qj (c1:=[Ua]) (Q7 (k:=3)) (Qj (c1:=[Ua]) (Q7 (k:=1)) (Qj (c1:=[Ua]) (Q7 (k:=3)) (Qj (c1:=[Ua]) (Q7 (k:=3)) (Jb))))))
instance:CZy Ub 49 (Jd (⟨[],[],[],[],[]⟩:Q0)):=⟨_,_,_,ti_49.h,Zd⟩
instance Qxx:CTy Ub 218 6 96 (.agg #[.string ⟨#[]⟩,.string ⟨#[]⟩,.string ⟨#[]⟩,.string ⟨#[]⟩,.string ⟨#[]⟩,.string ⟨#[]⟩]):=⟨tyI (by kernel_rfl)⟩
theorem Qqe:Zr (Qi9 (⟨[],[],[],[],[],[]⟩:Qfk)) [.string ⟨#[]⟩,.string ⟨#[]⟩,.string ⟨#[]⟩,.string ⟨#[]⟩,.string ⟨#[]⟩,.string ⟨#[]⟩]:=Jl (Qj (c1:=[.string ⟨#[]⟩]) Qds (Qj (c1:=[.string ⟨#[]⟩]) Qds (Qj (c1:=[.string ⟨#[]⟩]) Qds (Qj (c1:=[.string ⟨#[]⟩]) Qds (Qj (c1:=[.string ⟨#[]⟩]) Qds (Qj (c1:=[.string ⟨#[]⟩]) Qds (Jb)))))))
instance:CZy Ub 218 (Qi9 (⟨[],[],[],[],[],[]⟩:Qfk)):=⟨_,_,_,Qxx.h,Qqe⟩
instance:CUn Ub 218 (.array 6 9):=⟨Gx⟩
instance Jcw:CSh Ub 218 true 6:=⟨shp Gx rfl Qxx.h⟩
instance ti_60:CTy Ub 60 4 32 (.agg #[.int .i64 0,.int .i64 0,.int .i64 0,.int .i64 0]):=⟨tyI (by kernel_rfl)⟩
theorem Qm:Zr (Ql (⟨0,0,0,0⟩:Qd)) [.int .i64 0,.int .i64 0,.int .i64 0,.int .i64 0]:=Jl (Qj (c1:=[.int .i64 0]) Kd (Qj (c1:=[.int .i64 0]) Kd (Qj (c1:=[.int .i64 0]) Kd (Qj (c1:=[.int .i64 0]) Kd (Jb)))))
instance:CZy Ub 60 (Ql (⟨0,0,0,0⟩:Qd)):=⟨_,_,_,ti_60.h,Qm⟩
instance pl_49:CPl Ub 49 [(0,1),(1,1),(2,1),(3,1),(4,1)]:=⟨⟨_,Ux,by kernel_rfl⟩⟩
instance pl_60:CPl Ub 60 [(0,1),(1,1),(2,1),(3,1)]:=⟨⟨_,Uy,by kernel_rfl⟩⟩
instance sh_49:CSh Ub 49 true 5:=⟨shp Ux rfl ti_49.h⟩
instance sh_60:CSh Ub 60 true 4:=⟨shp Uy rfl ti_60.h⟩
instance Q6o:CTy Ub 358 3 32 (.agg #[.string ⟨#[]⟩,.int .i64 0,.bool false]):=⟨tyI (by kernel_rfl)⟩
instance Q6p:CPl Ub 358 [(0,1),(1,1),(2,1)]:=⟨⟨_,G1,by kernel_rfl⟩⟩
theorem Qsh:Zr (Jr (⟨[],0,false⟩:Jg)) [.string ⟨#[]⟩,.int .i64 0,.bool false]:=Jl (Qj (c1:=[.string ⟨#[]⟩]) Qds (Qj (c1:=[.int .i64 0]) Kd (Qj (c1:=[.bool false]) zr_bl (Jb))))
instance ti_4:CTy Ub 4 1 1 (.bool false):=⟨tyI (by kernel_rfl)⟩
instance Q73:CFd Ub 358 2 2:=⟨fdA G1 rfl rfl ti_4.h rfl⟩
instance:CUn Ub 4 (.bool):=⟨underlying4⟩
instance sh_4:CSh Ub 4 false 1:=⟨shp underlying4 rfl ti_4.h⟩
instance Q74:CFd Ub 358 1 1:=⟨fdA G1 rfl rfl ti_3.h rfl⟩
instance:CUn Ub 3 (.int .i64):=⟨Uq⟩
instance sh_3:CSh Ub 3 false 1:=⟨shp Uq rfl ti_3.h⟩
theorem fol:Tryz.prog.follows .mixedOrders=true:=by kernel_rfl
instance Q75:CFd Ub 358 0 0:=⟨fdA G1 rfl rfl ti_9.h rfl⟩
instance Jbr:CFd Ub 49 0 0:=⟨fdA Ux rfl rfl ti_9.h rfl⟩
instance Q2f:CTy Ub 362 3 32 (.agg #[.int .i64 0,.string ⟨#[]⟩,.int .i64 0]):=⟨tyI (by kernel_rfl)⟩
instance Q2g:CPl Ub 362 [(0,1),(1,1),(2,1)]:=⟨⟨_,Ai,by kernel_rfl⟩⟩
theorem Qrt:Zr (Qoy (⟨0,[],0⟩:Qhh)) [.int .i64 0,.string ⟨#[]⟩,.int .i64 0]:=Jl (Qj (c1:=[.int .i64 0]) Kd (Qj (c1:=[.string ⟨#[]⟩]) Qds (Qj (c1:=[.int .i64 0]) Kd (Jb))))
instance Q76:CFd Ub 362 1 1:=⟨fdA Ai rfl rfl ti_9.h rfl⟩
instance Q77:CFd Ub 362 0 0:=⟨fdA Ai rfl rfl ti_3.h rfl⟩
instance:CUn Ub 21 (.int .i32):=⟨underlying21⟩
instance:CUn Ub 5 (.int .u8):=⟨Ad⟩
instance ti_56:CTy Ub 56 3 56 (.agg #[.bool false,Ua,Ua]):=⟨tyI (by kernel_rfl)⟩
instance:CZy Ub 56 (Qb (⟨(⟨false,[]⟩:Qh),[]⟩:Qa)):=⟨_,_,_,ti_56.h,Jp⟩
instance ti_54:CTy Ub 54 2 32 (.agg #[.bool false,Ua]):=⟨tyI (by kernel_rfl)⟩
instance:CZy Ub 54 (Qz (⟨false,[]⟩:Qh)):=⟨_,_,_,ti_54.h,Vo⟩
instance:CUn Ub 286 (.int .u32):=⟨underlying286⟩
instance Ke:CTy Ub 286 1 4 (.int .u32 0):=⟨tyI (by kernel_rfl)⟩
instance Jcx:CSh Ub 286 false 1:=⟨shp underlying286 rfl Ke.h⟩
instance:CUn Ub 226 (.int .u64):=⟨underlying226⟩
theorem Jm:EqF Ub 2 60 (λx:Qd=>.agg [i64 x.Ap,i64 x.Step,i64 x.Aq,i64 x.At]) Qs:=
 Qoh Uy (by kernel_rfl) (Qaw rfl rfl sh_3.h (λ_=>rfl) (λ_=>rfl) (Qcj (λx:Qd=>x.Ap) (Qeo (n:=0) Uq)) (Qaw rfl rfl sh_3.h (λ_=>rfl) (λ_=>rfl) (Qcj (λx:Qd=>x.Step) (Qeo (n:=0) Uq)) (Qaw rfl rfl sh_3.h (λ_=>rfl) (λ_=>rfl) (Qcj (λx:Qd=>x.Aq) (Qeo (n:=0) Uq)) (Qaw rfl rfl sh_3.h (λ_=>rfl) (λ_=>rfl) (Qcj (λx:Qd=>x.At) (Qeo (n:=0) Uq)) (Qsc)))))
theorem eg_60:Tryz.prog.eqGuardType Tryz.prog.depth 60=false:=by kernel_rfl
instance Jbs:CFd Ub 60 3 3:=⟨fdA Uy rfl rfl ti_3.h rfl⟩
instance pl_54:CPl Ub 54 [(0,1),(1,1)]:=⟨⟨_,G2,by kernel_rfl⟩⟩
instance sh_54:CSh Ub 54 true 2:=⟨shp G2 rfl ti_54.h⟩
instance pl_56:CPl Ub 56 [(0,2),(2,1)]:=⟨⟨_,G3,by kernel_rfl⟩⟩
instance sh_56:CSh Ub 56 true 3:=⟨shp G3 rfl ti_56.h⟩
instance Jbt:CFd Ub 54 1 1:=⟨fdA G2 rfl rfl ti_32.h rfl⟩
instance Jbu:CFd Ub 54 0 0:=⟨fdA G2 rfl rfl ti_4.h rfl⟩
instance:CUn Ub 382 (.slice 32):=⟨Gy⟩
instance:CUn Ub 227 (.slice 9):=⟨Ae⟩
instance:CUn Ub 46 (.slice 56):=⟨Um⟩
instance ti_46:CTy Ub 46 1 24 (Ua):=⟨tyI (by kernel_rfl)⟩
instance Jbv:CFd Ub 49 1 1:=⟨fdA Ux rfl rfl ti_46.h rfl⟩
instance sh_46:CSh Ub 46 false 1:=⟨shp Um rfl ti_46.h⟩
instance ti_47:CTy Ub 47 1 24 (Ua):=⟨tyI (by kernel_rfl)⟩
instance Jbw:CFd Ub 49 2 2:=⟨fdA Ux rfl rfl ti_47.h rfl⟩
instance:CUn Ub 47 (.slice 46):=⟨Un⟩
instance sh_47:CSh Ub 47 false 1:=⟨shp Un rfl ti_47.h⟩
instance Jbx:CFd Ub 49 3 3:=⟨fdA Ux rfl rfl ti_46.h rfl⟩
instance Jby:CFd Ub 49 4 4:=⟨fdA Ux rfl rfl ti_46.h rfl⟩
instance Jbz:CFd Ub 56 1 2:=⟨fdA G3 rfl rfl ti_32.h rfl⟩
instance Jb0:CFd Ub 56 0 0:=⟨fdA G3 rfl rfl ti_54.h rfl⟩
instance ti_51:CTy Ub 51 11 208 (.agg #[Ua,Ua,.int .i64 0,.int .i64 0,.string ⟨#[]⟩,Ua,Ua,Ua,Ua,Ua,.int .i64 0]):=⟨tyI (by kernel_rfl)⟩
instance pl_51:CPl Ub 51 [(0,4),(4,5),(9,1),(10,1)]:=⟨⟨_,U9,by kernel_rfl⟩⟩
theorem Zq:Zr (Qk (⟨(⟨[],[],0,0⟩:Qx),(⟨[],[],[],[],[]⟩:Q0),[],0⟩:Qo)) [Ua,Ua,.int .i64 0,.int .i64 0,.string ⟨#[]⟩,Ua,Ua,Ua,Ua,Ua,.int .i64 0]:=Jl (Qj (c1:=[Ua,Ua,.int .i64 0,.int .i64 0]) Qhv (Qj (c1:=[.string ⟨#[]⟩,Ua,Ua,Ua,Ua]) Zd (Qj (c1:=[Ua]) (Q7 (k:=3)) (Qj (c1:=[.int .i64 0]) Kd (Jb)))))
instance:CZy Ub 51 (Qk (⟨(⟨[],[],0,0⟩:Qx),(⟨[],[],[],[],[]⟩:Q0),[],0⟩:Qo)):=⟨_,_,_,ti_51.h,Zq⟩
instance sh_51:CSh Ub 51 true 11:=⟨shp U9 rfl ti_51.h⟩
instance ti_66:CTy Ub 66 6 144 (.agg #[Ua,Ua,Ua,Ua,Ua,Ua]):=⟨tyI (by kernel_rfl)⟩
theorem Qb9:Zr (Q2 (⟨[],[],[],[]⟩:Q3)) [Ua,Ua,Ua,Ua]:=Jl (Qj (c1:=[Ua]) (Q7 (k:=1)) (Qj (c1:=[Ua]) (Q7 (k:=1)) (Qj (c1:=[Ua]) (Q7 (k:=3)) (Qj (c1:=[Ua]) (Q7 (k:=3)) (Jb)))))
theorem Zu:Zr (Xg (⟨[],[],(⟨[],[],[],[]⟩:Q3)⟩:Jo)) [Ua,Ua,Ua,Ua,Ua,Ua]:=Jl (Qj (c1:=[Ua]) (Q7 (k:=3)) (Qj (c1:=[Ua]) (Q7 (k:=3)) (Qj (c1:=[Ua,Ua,Ua,Ua]) Qb9 (Jb))))
instance:CZy Ub 66 (Xg (⟨[],[],(⟨[],[],[],[]⟩:Q3)⟩:Jo)):=⟨_,_,_,ti_66.h,Zu⟩
instance ti_64:CTy Ub 64 4 96 (.agg #[Ua,Ua,Ua,Ua]):=⟨tyI (by kernel_rfl)⟩
instance:CZy Ub 64 (Q2 (⟨[],[],[],[]⟩:Q3)):=⟨_,_,_,ti_64.h,Qb9⟩
instance Jb1:CFd Ub 51 0 0:=⟨fdA U9 rfl rfl ti_45.h rfl⟩
instance Jb2:CFd Ub 45 2 2:=⟨fdA U8 rfl rfl ti_3.h rfl⟩
instance Jb3:CFd Ub 45 3 3:=⟨fdA U8 rfl rfl ti_3.h rfl⟩
instance Jb4:CFd Ub 45 1 1:=⟨fdA U8 rfl rfl ti_23.h rfl⟩
instance ti_43:CTy Ub 43 1 24 (Ua):=⟨tyI (by kernel_rfl)⟩
instance Jb5:CFd Ub 45 0 0:=⟨fdA U8 rfl rfl ti_43.h rfl⟩
instance sh_43:CSh Ub 43 false 1:=⟨shp Af rfl ti_43.h⟩
instance Jcy:CSh Ub 138 true 6:=⟨shp U7 rfl Qnj.h⟩
instance:CZy Ub 138 (J3 (⟨0,0,0,(⟨(⟨false,[]⟩:Qh),[]⟩:Qa)⟩:Q8)):=⟨_,_,_,Qnj.h,Qhu⟩
instance Q78:CFd Ub 138 0 0:=⟨fdA U7 rfl rfl ti_3.h rfl⟩
instance Qqf:CTy Ub 448 3 24 (.agg #[.int .i64 0,.int .i64 0,.int .i64 0]):=⟨tyI (by kernel_rfl)⟩
theorem Qdo:Zr (Qis (⟨0,0,0⟩:Jz)) [.int .i64 0,.int .i64 0,.int .i64 0]:=Jl (Qj (c1:=[.int .i64 0]) Kd (Qj (c1:=[.int .i64 0]) Kd (Qj (c1:=[.int .i64 0]) Kd (Jb))))
instance:CZy Ub 448 (Qis (⟨0,0,0⟩:Jz)):=⟨_,_,_,Qqf.h,Qdo⟩
instance Q79:CFd Ub 138 1 1:=⟨fdA U7 rfl rfl ti_3.h rfl⟩
instance Q8a:CFd Ub 138 2 2:=⟨fdA U7 rfl rfl ti_3.h rfl⟩
instance Qxy:CPl Ub 448 [(0,1),(1,1),(2,1)]:=⟨⟨_,Aj,by kernel_rfl⟩⟩
instance Jcz:CSh Ub 448 true 3:=⟨shp Aj rfl Qqf.h⟩
theorem Qxz:EqF Ub 2 448 (λx:Jz=>.agg [i64 x.op,i64 x.a,i64 x.b]) Zc:=
 Qoh Aj (by kernel_rfl) (Qaw rfl rfl sh_3.h (λ_=>rfl) (λ_=>rfl) (Qcj (λx:Jz=>x.op) (Qeo (n:=0) Uq)) (Qaw rfl rfl sh_3.h (λ_=>rfl) (λ_=>rfl) (Qcj (λx:Jz=>x.a) (Qeo (n:=0) Uq)) (Qaw rfl rfl sh_3.h (λ_=>rfl) (λ_=>rfl) (Qcj (λx:Jz=>x.b) (Qeo (n:=0) Uq)) (Qsc))))
theorem Q2h:Tryz.prog.eqGuardType Tryz.prog.depth 448=false:=by kernel_rfl
instance Q8b:CFd Ub 138 3 3:=⟨fdA U7 rfl rfl ti_56.h rfl⟩
instance Jb6:CFd Ub 51 1 4:=⟨fdA U9 rfl rfl ti_49.h rfl⟩
instance Jb7:CFd Ub 51 2 9:=⟨fdA U9 rfl rfl ti_46.h rfl⟩
instance pl_64:CPl Ub 64 [(0,1),(1,1),(2,1),(3,1)]:=⟨⟨_,Ga,by kernel_rfl⟩⟩
instance sh_64:CSh Ub 64 true 4:=⟨shp Ga rfl ti_64.h⟩
instance Jb8:CFd Ub 51 3 10:=⟨fdA U9 rfl rfl ti_3.h rfl⟩
instance Q6q:CTy Ub 237 3 24 (.agg #[.int .i64 0,.int .i64 0,.int .i64 0]):=⟨tyI (by kernel_rfl)⟩
instance Q6r:CPl Ub 237 [(0,2),(2,1)]:=⟨⟨_,Ak,by kernel_rfl⟩⟩
theorem Qul:Zr (Qj1 (⟨0,0⟩:Ya)) [.int .i64 0,.int .i64 0]:=Jl (Qj (c1:=[.int .i64 0]) Kd (Qj (c1:=[.int .i64 0]) Kd (Jb)))
theorem Qum:Zr (Qi (⟨(⟨0,0⟩:Ya),0⟩:Qn)) [.int .i64 0,.int .i64 0,.int .i64 0]:=Jl (Qj (c1:=[.int .i64 0,.int .i64 0]) Qul (Qj (c1:=[.int .i64 0]) Kd (Jb)))
instance Q6s:CTy Ub 232 23 448 (.agg #[Ua,Ua,.int .i64 0,.int .i64 0,.string ⟨#[]⟩,Ua,Ua,Ua,Ua,Ua,.int .i64 0,.bool false,Ua,Ua,.bool false,Ua,Ua,Ua,.pointer none,Ua,Ua,Ua,Ua]):=⟨tyI (by kernel_rfl)⟩
instance Q6t:CPl Ub 232 [(0,11),(11,3),(14,3),(17,1),(18,1),(19,4)]:=⟨⟨_,Uz,by kernel_rfl⟩⟩
instance Q8c:CFd Ub 232 0 0:=⟨fdA Uz rfl rfl ti_51.h rfl⟩
instance Q8d:CFd Ub 232 3 17:=⟨fdA Uz rfl rfl ti_46.h rfl⟩
instance Q8e:CFd Ub 232 5 19:=⟨fdA Uz rfl rfl ti_64.h rfl⟩
instance Jb9:CFd Ub 64 1 1:=⟨fdA Ga rfl rfl ti_47.h rfl⟩
instance Q8f:CFd Ub 232 2 14:=⟨fdA Uz rfl rfl ti_56.h rfl⟩
instance Qla:CTy Ub 152 1 8 (.pointer none):=⟨tyI (by kernel_rfl)⟩
instance Q8g:CFd Ub 232 4 18:=⟨fdA Uz rfl rfl Qla.h rfl⟩
instance Jc0:CSh Ub 152 false 1:=⟨shp underlying152 rfl Qla.h⟩
instance Q6u:CTy Ub 235 2 16 (.agg #[.int .i64 0,.int .i64 0]):=⟨tyI (by kernel_rfl)⟩
instance Q8h:CFd Ub 237 0 0:=⟨fdA Ak rfl rfl Q6u.h rfl⟩
instance Q8i:CFd Ub 235 0 0:=⟨fdA underlying235 rfl rfl ti_3.h rfl⟩
instance Q8j:CFd Ub 235 1 1:=⟨fdA underlying235 rfl rfl ti_3.h rfl⟩
instance Q8k:CFd Ub 237 1 2:=⟨fdA Ak rfl rfl ti_3.h rfl⟩
instance Q8l:CFd Ub 232 1 11:=⟨fdA Uz rfl rfl ti_56.h rfl⟩
instance Qlb:CTy Ub 315 5 104 (.agg #[.bool false,Ua,Ua,Ua,Ua]):=⟨tyI (by kernel_rfl)⟩
theorem Qau:Zr (Vs (⟨(⟨(⟨false,[]⟩:Qh),[]⟩:Qa),[],[]⟩:Kq)) [.bool false,Ua,Ua,Ua,Ua]:=Jl (Qj (c1:=[.bool false,Ua,Ua]) Jp (Qj (c1:=[Ua]) (Q7 (k:=3)) (Qj (c1:=[Ua]) (Q7 (k:=3)) (Jb))))
instance:CZy Ub 315 (Vs (⟨(⟨(⟨false,[]⟩:Qh),[]⟩:Qa),[],[]⟩:Kq)):=⟨_,_,_,Qlb.h,Qau⟩
instance Qqg:CPl Ub 315 [(0,3),(3,1),(4,1)]:=⟨⟨_,Gk,by kernel_rfl⟩⟩
instance Jc1:CSh Ub 315 true 5:=⟨shp Gk rfl Qlb.h⟩
instance Q8m:CFd Ub 315 0 0:=⟨fdA Gk rfl rfl ti_56.h rfl⟩
instance Q8n:CFd Ub 315 1 3:=⟨fdA Gk rfl rfl ti_46.h rfl⟩
instance Q8o:CFd Ub 315 2 4:=⟨fdA Gk rfl rfl ti_46.h rfl⟩
instance Qx0:CTy Ub 463 1 8 (.agg #[.pointer none]):=⟨tyI (by kernel_rfl)⟩
instance Q6v:CPl Ub 463 [(0,1)]:=⟨⟨_,Up,by kernel_rfl⟩⟩
instance Qx1:CTy Ub 465 1 8 (.agg #[.pointer none]):=⟨tyI (by kernel_rfl)⟩
instance Q6w:CPl Ub 465 [(0,1)]:=⟨⟨_,Al,by kernel_rfl⟩⟩
instance Jc2:CSh Ub 465 true 1:=⟨shp Al rfl Qx1.h⟩
instance Q2i:CTy Ub 467 5 104 (.agg #[.bool false,Ua,Ua,Ua,Ua]):=⟨tyI (by kernel_rfl)⟩
instance Q6x:CPl Ub 467 [(0,3),(3,1),(4,1)]:=⟨⟨_,Gl,by kernel_rfl⟩⟩
theorem Qlc:Zr (Wk (⟨(⟨(⟨false,[]⟩:Qh),[]⟩:Qa),[],[]⟩:Wh)) [.bool false,Ua,Ua,Ua,Ua]:=Jl (Qj (c1:=[.bool false,Ua,Ua]) Jp (Qj (c1:=[Ua]) (Q7 (k:=3)) (Qj (c1:=[Ua]) (Q7 (k:=3)) (Jb))))
instance Q8p:CFd Ub 467 1 3:=⟨fdA Gl rfl rfl ti_46.h rfl⟩
instance Q8q:CFd Ub 467 2 4:=⟨fdA Gl rfl rfl ti_46.h rfl⟩
instance Jc3:CSh Ub 467 true 5:=⟨shp Gl rfl Q2i.h⟩
instance Q8r:CFd Ub 465 0 0:=⟨fdA Al rfl rfl Qx0.h rfl⟩
instance Qji:CSh Ub 463 true 1:=⟨shp Up rfl Qx0.h⟩
theorem Q0u:MethF Ub 463 "Neg" 425:=⟨by kernel_rfl,_,Up⟩
theorem Q0v:MethF Ub 463 "Pow" 427:=⟨by kernel_rfl,_,Up⟩
theorem Q0w:MethF Ub 463 "Add" 422:=⟨by kernel_rfl,_,Up⟩
theorem Q0x:MethF Ub 463 "Sub" 429:=⟨by kernel_rfl,_,Up⟩
theorem Q0y:MethF Ub 463 "Mul" 424:=⟨by kernel_rfl,_,Up⟩
theorem Q0z:MethF Ub 463 "Quo" 428:=⟨by kernel_rfl,_,Up⟩
theorem Q2j:MethF Ub 463 "Of" 426:=⟨by kernel_rfl,_,Up⟩
instance Q8s:CFd Ub 467 0 0:=⟨fdA Gl rfl rfl ti_56.h rfl⟩
theorem Qzg:MethF Ub 463 "Fits" 423:=⟨by kernel_rfl,_,Up⟩
instance Q8t:CFd Ub 463 0 0:=⟨fdA Up rfl rfl Qla.h rfl⟩
instance Jca:CFd Ub 60 2 2:=⟨fdA Uy rfl rfl ti_3.h rfl⟩
instance Jcb:CFd Ub 64 0 0:=⟨fdA Ga rfl rfl ti_47.h rfl⟩
instance Jcc:CFd Ub 64 2 2:=⟨fdA Ga rfl rfl ti_46.h rfl⟩
instance Jcd:CFd Ub 64 3 3:=⟨fdA Ga rfl rfl ti_46.h rfl⟩
instance Jce:CFd Ub 60 0 0:=⟨fdA Uy rfl rfl ti_3.h rfl⟩
instance pl_66:CPl Ub 66 [(0,1),(1,1),(2,4)]:=⟨⟨_,G4,by kernel_rfl⟩⟩
instance sh_66:CSh Ub 66 true 6:=⟨shp G4 rfl ti_66.h⟩
instance Q6y:CTy Ub 155 25 496 (.agg #[Ua,Ua,.int .i64 0,.int .i64 0,.string ⟨#[]⟩,Ua,Ua,Ua,Ua,Ua,.int .i64 0,.bool false,Ua,Ua,.bool false,Ua,Ua,Ua,Ua,Ua,Ua,Ua,Ua,Ua,.pointer none]):=⟨tyI (by kernel_rfl)⟩
instance Q6z:CPl Ub 155 [(0,11),(11,3),(14,3),(17,1),(18,1),(19,4),(23,1),(24,1)]:=⟨⟨_,Us,by kernel_rfl⟩⟩
instance Q8u:CFd Ub 155 0 0:=⟨fdA Us rfl rfl ti_51.h rfl⟩
instance Q8v:CFd Ub 155 5 19:=⟨fdA Us rfl rfl ti_64.h rfl⟩
instance Q8w:CFd Ub 155 3 17:=⟨fdA Us rfl rfl ti_46.h rfl⟩
instance Q8x:CFd Ub 155 6 23:=⟨fdA Us rfl rfl ti_47.h rfl⟩
instance Q8y:CFd Ub 155 2 14:=⟨fdA Us rfl rfl ti_56.h rfl⟩
instance Q8z:CFd Ub 155 7 24:=⟨fdA Us rfl rfl Qla.h rfl⟩
instance Q80:CFd Ub 155 1 11:=⟨fdA Us rfl rfl ti_56.h rfl⟩
instance Q81:CFd Ub 155 4 18:=⟨fdA Us rfl rfl ti_46.h rfl⟩
instance Zx:CTy Ub 378 6 112 (.agg #[.bool false,Ua,Ua,.bool false,Ua,Ua]):=⟨tyI (by kernel_rfl)⟩
instance Qeg:CPl Ub 378 [(0,3),(3,3)]:=⟨⟨_,G5,by kernel_rfl⟩⟩
theorem We:Zr (Qr (⟨(⟨(⟨false,[]⟩:Qh),[]⟩:Qa),(⟨(⟨false,[]⟩:Qh),[]⟩:Qa)⟩:Qq)) [.bool false,Ua,Ua,.bool false,Ua,Ua]:=Jl (Qj (c1:=[.bool false,Ua,Ua]) Jp (Qj (c1:=[.bool false,Ua,Ua]) Jp (Jb)))
instance:CUn Ub 374 (.slice 378):=⟨Gz⟩
instance:CZy Ub 3 (i64 0):=⟨_,_,_,ti_3.h,Kd⟩
instance Qx2:CTy Ub 437 2 16 (.agg #[.pointer none,.nilFunc]):=⟨tyI (by kernel_rfl)⟩
instance Q60:CPl Ub 437 [(0,1),(1,1)]:=⟨⟨_,Uo,by kernel_rfl⟩⟩
instance Qx3:CTy Ub 439 2 16 (.agg #[.pointer none,.nilFunc]):=⟨tyI (by kernel_rfl)⟩
instance Q61:CPl Ub 439 [(0,2)]:=⟨⟨_,Am,by kernel_rfl⟩⟩
instance Jc4:CSh Ub 439 true 2:=⟨shp Am rfl Qx3.h⟩
instance Q2k:CTy Ub 442 8 160 (.agg #[.bool false,Ua,Ua,.bool false,Ua,Ua,Ua,Ua]):=⟨tyI (by kernel_rfl)⟩
instance Q62:CPl Ub 442 [(0,6),(6,1),(7,1)]:=⟨⟨_,Gm,by kernel_rfl⟩⟩
theorem Qld:Zr (Wl (⟨(⟨(⟨(⟨false,[]⟩:Qh),[]⟩:Qa),(⟨(⟨false,[]⟩:Qh),[]⟩:Qa)⟩:Qq),[],[]⟩:Wi)) [.bool false,Ua,Ua,.bool false,Ua,Ua,Ua,Ua]:=Jl (Qj (c1:=[.bool false,Ua,Ua,.bool false,Ua,Ua]) We (Qj (c1:=[Ua]) (Q7 (k:=6)) (Qj (c1:=[Ua]) (Q7 (k:=6)) (Jb))))
instance Qx4:CTy Ub 374 1 24 (Ua):=⟨tyI (by kernel_rfl)⟩
instance Q82:CFd Ub 442 1 6:=⟨fdA Gm rfl rfl Qx4.h rfl⟩
instance Jc5:CSh Ub 374 false 1:=⟨shp Gz rfl Qx4.h⟩
instance Q83:CFd Ub 442 2 7:=⟨fdA Gm rfl rfl Qx4.h rfl⟩
instance Jc6:CSh Ub 442 true 8:=⟨shp Gm rfl Q2k.h⟩
instance:CZy Ub 378 (Qr (⟨(⟨(⟨false,[]⟩:Qh),[]⟩:Qa),(⟨(⟨false,[]⟩:Qh),[]⟩:Qa)⟩:Qq)):=⟨_,_,_,Zx.h,We⟩
instance Q84:CFd Ub 439 0 0:=⟨fdA Am rfl rfl Qx2.h rfl⟩
instance Qjj:CSh Ub 437 true 2:=⟨shp Uo rfl Qx2.h⟩
instance Jc7:CSh Ub 378 true 6:=⟨shp G5 rfl Zx.h⟩
theorem Q00:MethF Ub 437 "Neg" 416:=⟨by kernel_rfl,_,Uo⟩
instance Q85:CFd Ub 378 0 0:=⟨fdA G5 rfl rfl ti_56.h rfl⟩
instance Q86:CFd Ub 378 1 3:=⟨fdA G5 rfl rfl ti_56.h rfl⟩
theorem Q01:MethF Ub 437 "Pow" 418:=⟨by kernel_rfl,_,Uo⟩
theorem Q02:MethF Ub 437 "Add" 413:=⟨by kernel_rfl,_,Uo⟩
theorem Q03:MethF Ub 437 "Sub" 420:=⟨by kernel_rfl,_,Uo⟩
theorem Q04:MethF Ub 437 "Mul" 415:=⟨by kernel_rfl,_,Uo⟩
theorem Q05:MethF Ub 437 "Quo" 419:=⟨by kernel_rfl,_,Uo⟩
theorem Q2l:MethF Ub 437 "Of" 417:=⟨by kernel_rfl,_,Uo⟩
instance Q87:CFd Ub 442 0 0:=⟨fdA Gm rfl rfl Zx.h rfl⟩
theorem Qzh:MethF Ub 437 "Fits" 414:=⟨by kernel_rfl,_,Uo⟩
instance Q88:CFd Ub 437 0 0:=⟨fdA Uo rfl rfl Qla.h rfl⟩
instance ti_1:CTy Ub 1 1 8 (.nilFunc):=⟨tyI (by kernel_rfl)⟩
instance Q89:CFd Ub 437 1 1:=⟨fdA Uo rfl rfl ti_1.h rfl⟩
instance sh_1:CSh Ub 1 false 1:=⟨shp underlying1 rfl ti_1.h⟩
instance Jcf:CFd Ub 66 0 0:=⟨fdA G4 rfl rfl ti_46.h rfl⟩
instance Jcg:CFd Ub 66 1 1:=⟨fdA G4 rfl rfl ti_46.h rfl⟩
instance Q63:CTy Ub 421 9 9 (.agg #[.int .u8 0,.int .u8 0,.int .u8 0,.int .u8 0,.int .u8 0,.int .u8 0,.int .u8 0,.int .u8 0,.int .u8 0]):=⟨tyI (by kernel_rfl)⟩
theorem Q35:Zr (Qkl (⟨0,0,0,0,0,0,0,0,0⟩:Qgu)) [.int .u8 0,.int .u8 0,.int .u8 0,.int .u8 0,.int .u8 0,.int .u8 0,.int .u8 0,.int .u8 0,.int .u8 0]:=Jl (Qj (c1:=[.int .u8 0]) zr_u8 (Qj (c1:=[.int .u8 0]) zr_u8 (Qj (c1:=[.int .u8 0]) zr_u8 (Qj (c1:=[.int .u8 0]) zr_u8 (Qj (c1:=[.int .u8 0]) zr_u8 (Qj (c1:=[.int .u8 0]) zr_u8 (Qj (c1:=[.int .u8 0]) zr_u8 (Qj (c1:=[.int .u8 0]) zr_u8 (Qj (c1:=[.int .u8 0]) zr_u8 (Jb))))))))))
instance:CZy Ub 421 (Qkl (⟨0,0,0,0,0,0,0,0,0⟩:Qgu)):=⟨_,_,_,Q63.h,Q35⟩
instance ti_5:CTy Ub 5 1 1 (.int .u8 0):=⟨tyI (by kernel_rfl)⟩
instance:CUn Ub 421 (.array 9 5):=⟨Ac⟩
instance sh_5:CSh Ub 5 false 1:=⟨shp Ad rfl ti_5.h⟩
theorem Qx5:∀ l:List Nat,l.length=9->(.agg (l.map u8):Ly)=Qkl (Qp9 l)
 | [a0,a1,a2,a3,a4,a5,a6,a7,a8],_=>rfl
 | [],h=>by simp at h
 | [_],h=>by simp at h
 | [_,_],h=>by simp at h
 | [_,_,_],h=>by simp at h
 | [_,_,_,_],h=>by simp at h
 | [_,_,_,_,_],h=>by simp at h
 | [_,_,_,_,_,_],h=>by simp at h
 | [_,_,_,_,_,_,_],h=>by simp at h
 | [_,_,_,_,_,_,_,_],h=>by simp at h
 | _::_::_::_::_::_::_::_::_::_::_,h=>by simp at h
instance:CUn Ub 304 (.slice 5):=⟨underlying304⟩
instance Q64:CTy Ub 306 2 32 (.agg #[.pointer none,Ua]):=⟨tyI (by kernel_rfl)⟩
instance Jch:CFd Ub 25 2 2:=⟨fdA Gh rfl rfl ti_3.h rfl⟩
instance Jci:CFd Ub 25 3 3:=⟨fdA Gh rfl rfl ti_3.h rfl⟩
instance Jc8:CSh Ub 217 true 6:=⟨shp Gi rfl Q2e.h⟩
theorem Jj:Zr (Qg (⟨false,[],[]⟩:Qc)) [.bool false,Ua,Ua]:=Jl (Qj (c1:=[.bool false]) zr_bl (Qj (c1:=[Ua]) (Q7 (k:=1)) (Qj (c1:=[Ua]) (Q7 (k:=1)) (Jb))))
theorem Qlv:Zr (Qfs (⟨0,0,0,(⟨false,[],[]⟩:Qc)⟩:Zg)) [.int .i64 0,.int .i64 0,.int .i64 0,.bool false,Ua,Ua]:=Jl (Qj (c1:=[.int .i64 0]) Kd (Qj (c1:=[.int .i64 0]) Kd (Qj (c1:=[.int .i64 0]) Kd (Qj (c1:=[.bool false,Ua,Ua]) Jj (Jb)))))
instance:CZy Ub 217 (Qfs (⟨0,0,0,(⟨false,[],[]⟩:Qc)⟩:Zg)):=⟨_,_,_,Q2e.h,Qlv⟩
instance Q9a:CFd Ub 217 0 0:=⟨fdA Gi rfl rfl ti_3.h rfl⟩
instance Q9b:CFd Ub 217 1 1:=⟨fdA Gi rfl rfl ti_3.h rfl⟩
instance Q9c:CFd Ub 217 2 2:=⟨fdA Gi rfl rfl ti_3.h rfl⟩
instance Jcj:CFd Ub 34 0 0:=⟨fdA Gj rfl rfl ti_4.h rfl⟩
instance Jck:CFd Ub 31 3 10:=⟨fdA Gg rfl rfl ti_3.h rfl⟩
instance ti_76:CTy Ub 76 5 104 (.agg #[Ua,.bool false,Ua,Ua,Ua]):=⟨tyI (by kernel_rfl)⟩
instance sh_76:CSh Ub 76 true 5:=⟨shp G6 rfl ti_76.h⟩
instance ti_74:CTy Ub 74 1 24 (Ua):=⟨tyI (by kernel_rfl)⟩
instance Jcl:CFd Ub 76 0 0:=⟨fdA G6 rfl rfl ti_74.h rfl⟩
instance:CUn Ub 74 (.slice 164):=⟨underlying74⟩
instance sh_74:CSh Ub 74 false 1:=⟨shp underlying74 rfl ti_74.h⟩
instance Jcm:CFd Ub 76 1 1:=⟨fdA G6 rfl rfl ti_34.h rfl⟩
instance Jcn:CFd Ub 76 2 4:=⟨fdA G6 rfl rfl ti_26.h rfl⟩
instance Q2m:CTy Ub 164 14 256 (.agg #[.bool false,Ua,Ua,.bool false,Ua,Ua,.bool false,Ua,Ua,.bool false,Ua,Ua,Ua,.bool false]):=⟨tyI (by kernel_rfl)⟩
instance Jc9:CSh Ub 164 true 14:=⟨shp Uu rfl Q2m.h⟩
instance Q9d:CFd Ub 164 0 0:=⟨fdA Uu rfl rfl ti_34.h rfl⟩
instance Q9e:CFd Ub 164 1 3:=⟨fdA Uu rfl rfl ti_34.h rfl⟩
instance Q9f:CFd Ub 164 2 6:=⟨fdA Uu rfl rfl ti_34.h rfl⟩
instance Q9g:CFd Ub 164 3 9:=⟨fdA Uu rfl rfl ti_34.h rfl⟩
instance Q9h:CFd Ub 164 4 12:=⟨fdA Uu rfl rfl ti_26.h rfl⟩
instance Q9i:CFd Ub 164 5 13:=⟨fdA Uu rfl rfl ti_4.h rfl⟩
instance ti_80:CTy Ub 80 5 104 (.agg #[Ua,.bool false,Ua,Ua,Ua]):=⟨tyI (by kernel_rfl)⟩
theorem Qhw:Zr (Q5 (⟨[],(⟨(⟨false,[]⟩:Qh),[]⟩:Qa),[]⟩:Jf)) [Ua,.bool false,Ua,Ua,Ua]:=Jl (Qj (c1:=[Ua]) (Q7 (k:=14)) (Qj (c1:=[.bool false,Ua,Ua]) Jp (Qj (c1:=[Ua]) (Q7 (k:=3)) (Jb))))
instance:CZy Ub 80 (Q5 (⟨[],(⟨(⟨false,[]⟩:Qh),[]⟩:Qa),[]⟩:Jf)):=⟨_,_,_,ti_80.h,Qhw⟩
instance pl_80:CPl Ub 80 [(0,1),(1,3),(4,1)]:=⟨⟨_,Gn,by kernel_rfl⟩⟩
instance sh_80:CSh Ub 80 true 5:=⟨shp Gn rfl ti_80.h⟩
instance Jco:CFd Ub 80 1 1:=⟨fdA Gn rfl rfl ti_56.h rfl⟩
instance Jcp:CFd Ub 80 2 4:=⟨fdA Gn rfl rfl ti_46.h rfl⟩
instance Jcq:CFd Ub 60 1 1:=⟨fdA Uy rfl rfl ti_3.h rfl⟩
instance ti_78:CTy Ub 78 1 24 (Ua):=⟨tyI (by kernel_rfl)⟩
instance Jcr:CFd Ub 80 0 0:=⟨fdA Gn rfl rfl ti_78.h rfl⟩
instance:CUn Ub 78 (.slice 166):=⟨U4⟩
instance sh_78:CSh Ub 78 false 1:=⟨shp U4 rfl ti_78.h⟩
instance Qjk:CTy Ub 166 14 256 (.agg #[.bool false,Ua,Ua,.bool false,Ua,Ua,.bool false,Ua,Ua,.bool false,Ua,Ua,Ua,.bool false]):=⟨tyI (by kernel_rfl)⟩
instance Q2n:CPl Ub 166 [(0,3),(3,3),(6,3),(9,3),(12,1),(13,1)]:=⟨⟨_,Uv,by kernel_rfl⟩⟩
theorem Qmz:Zr (J0 (⟨(⟨(⟨false,[]⟩:Qh),[]⟩:Qa),(⟨(⟨false,[]⟩:Qh),[]⟩:Qa),(⟨(⟨false,[]⟩:Qh),[]⟩:Qa),(⟨(⟨false,[]⟩:Qh),[]⟩:Qa),[],false⟩:Jq)) [.bool false,Ua,Ua,.bool false,Ua,Ua,.bool false,Ua,Ua,.bool false,Ua,Ua,Ua,.bool false]:=Jl (Qj (c1:=[.bool false,Ua,Ua]) Jp (Qj (c1:=[.bool false,Ua,Ua]) Jp (Qj (c1:=[.bool false,Ua,Ua]) Jp (Qj (c1:=[.bool false,Ua,Ua]) Jp (Qj (c1:=[Ua]) (Q7 (k:=3)) (Qj (c1:=[.bool false]) zr_bl (Jb)))))))
instance Jda:CSh Ub 166 true 14:=⟨shp Uv rfl Qjk.h⟩
instance:CZy Ub 166 (J0 (⟨(⟨(⟨false,[]⟩:Qh),[]⟩:Qa),(⟨(⟨false,[]⟩:Qh),[]⟩:Qa),(⟨(⟨false,[]⟩:Qh),[]⟩:Qa),(⟨(⟨false,[]⟩:Qh),[]⟩:Qa),[],false⟩:Jq)):=⟨_,_,_,Qjk.h,Qmz⟩
instance Q9j:CFd Ub 166 0 0:=⟨fdA Uv rfl rfl ti_56.h rfl⟩
instance Q9k:CFd Ub 166 1 3:=⟨fdA Uv rfl rfl ti_56.h rfl⟩
instance Q9l:CFd Ub 166 2 6:=⟨fdA Uv rfl rfl ti_56.h rfl⟩
instance Q9m:CFd Ub 166 3 9:=⟨fdA Uv rfl rfl ti_56.h rfl⟩
instance Q9n:CFd Ub 166 4 12:=⟨fdA Uv rfl rfl ti_46.h rfl⟩
instance Q9o:CFd Ub 166 5 13:=⟨fdA Uv rfl rfl ti_4.h rfl⟩
theorem Qm0:Zr (Qgx (⟨(⟨false,[],[]⟩:Qc),(⟨false,[],[]⟩:Qc),(⟨false,[],[]⟩:Qc),(⟨false,[],[]⟩:Qc),[],false⟩:Qb0)) [.bool false,Ua,Ua,.bool false,Ua,Ua,.bool false,Ua,Ua,.bool false,Ua,Ua,Ua,.bool false]:=Jl (Qj (c1:=[.bool false,Ua,Ua]) Jj (Qj (c1:=[.bool false,Ua,Ua]) Jj (Qj (c1:=[.bool false,Ua,Ua]) Jj (Qj (c1:=[.bool false,Ua,Ua]) Jj (Qj (c1:=[Ua]) (Q7 (k:=3)) (Qj (c1:=[.bool false]) zr_bl (Jb)))))))
instance:CZy Ub 164 (Qgx (⟨(⟨false,[],[]⟩:Qc),(⟨false,[],[]⟩:Qc),(⟨false,[],[]⟩:Qc),(⟨false,[],[]⟩:Qc),[],false⟩:Qb0)):=⟨_,_,_,Q2m.h,Qm0⟩
instance ti_88:CTy Ub 88 2 48 (.agg #[Ua,Ua]):=⟨tyI (by kernel_rfl)⟩
theorem Vu:Zr (Ju (⟨[],[]⟩:Je)) [Ua,Ua]:=Jl (Qj (c1:=[Ua]) (Q7 (k:=3)) (Qj (c1:=[Ua]) (Q7 (k:=3)) (Jb)))
instance:CZy Ub 88 (Ju (⟨[],[]⟩:Je)):=⟨_,_,_,ti_88.h,Vu⟩
instance pl_88:CPl Ub 88 [(0,1),(1,1)]:=⟨⟨_,G7,by kernel_rfl⟩⟩
instance sh_88:CSh Ub 88 true 2:=⟨shp G7 rfl ti_88.h⟩
instance Qs6:CTy Ub 174 4 80 (.agg #[.int .i64 0,Ua,Ua,Ua]):=⟨tyI (by kernel_rfl)⟩
theorem Qqh:Zr (Kb (⟨0,[],[],[]⟩:Kv)) [.int .i64 0,Ua,Ua,Ua]:=Jl (Qj (c1:=[.int .i64 0]) Kd (Qj (c1:=[Ua]) (Q7 (k:=3)) (Qj (c1:=[Ua]) (Q7 (k:=3)) (Qj (c1:=[Ua]) (Q7 (k:=1)) (Jb)))))
instance:CZy Ub 174 (Kb (⟨0,[],[],[]⟩:Kv)):=⟨_,_,_,Qs6.h,Qqh⟩
instance Q65:CPl Ub 174 [(0,1),(1,1),(2,1),(3,1)]:=⟨⟨_,Gb,by kernel_rfl⟩⟩
instance Jdb:CSh Ub 174 true 4:=⟨shp Gb rfl Qs6.h⟩
instance Q9p:CFd Ub 174 1 1:=⟨fdA Gb rfl rfl ti_46.h rfl⟩
instance Q9q:CFd Ub 174 2 2:=⟨fdA Gb rfl rfl ti_46.h rfl⟩
instance Q9r:CFd Ub 174 3 3:=⟨fdA Gb rfl rfl ti_47.h rfl⟩
instance Q66:CTy Ub 178 18 344 (.agg #[Ua,Ua,.int .i64 0,.int .i64 0,.string ⟨#[]⟩,Ua,Ua,Ua,Ua,Ua,.int .i64 0,.int .i64 0,Ua,Ua,Ua,Ua,Ua,.pointer none]):=⟨tyI (by kernel_rfl)⟩
instance Q67:CPl Ub 178 [(0,11),(11,4),(15,1),(16,1),(17,1)]:=⟨⟨_,Gc,by kernel_rfl⟩⟩
instance Q9s:CFd Ub 178 1 11:=⟨fdA Gc rfl rfl Qs6.h rfl⟩
instance Q2o:CTy Ub 255 1 24 (.agg #[Ua]):=⟨tyI (by kernel_rfl)⟩
theorem Qj2:Zr (Qdn (⟨[]⟩:Zy)) [Ua]:=Jl (Qj (c1:=[Ua]) (Q7 (k:=2)) (Jb))
instance:CZy Ub 255 (Qdn (⟨[]⟩:Zy)):=⟨_,_,_,Q2o.h,Qj2⟩
instance Qnk:CTy Ub 182 2 16 (.agg #[.int .i64 0,.int .i64 0]):=⟨tyI (by kernel_rfl)⟩
instance Q68:CPl Ub 182 [(0,1),(1,1)]:=⟨⟨_,Gp,by kernel_rfl⟩⟩
theorem Qma:Zr (Qu (⟨0,0⟩:Qp)) [.int .i64 0,.int .i64 0]:=Jl (Qj (c1:=[.int .i64 0]) Kd (Qj (c1:=[.int .i64 0]) Kd (Jb)))
instance:CUn Ub 179 (.slice 182):=⟨Gf⟩
instance Q2p:CTy Ub 179 1 24 (Ua):=⟨tyI (by kernel_rfl)⟩
instance Q9t:CFd Ub 255 0 0:=⟨fdA underlying255 rfl rfl Q2p.h rfl⟩
instance Jdc:CSh Ub 179 false 1:=⟨shp Gf rfl Q2p.h⟩
instance:CZy Ub 182 (Qu (⟨0,0⟩:Qp)):=⟨_,_,_,Qnk.h,Qma⟩
instance Jdd:CSh Ub 182 true 2:=⟨shp Gp rfl Qnk.h⟩
instance Q69:CTy Ub 172 1 8 (.pointer none):=⟨tyI (by kernel_rfl)⟩
instance Jde:CSh Ub 172 false 1:=⟨shp underlying172 rfl Q69.h⟩
instance Q9u:CFd Ub 178 0 0:=⟨fdA Gc rfl rfl ti_51.h rfl⟩
instance Q9v:CFd Ub 174 0 0:=⟨fdA Gb rfl rfl ti_3.h rfl⟩
theorem Q36:EqF Ub 2 182 (λx:Qp=>.agg [i64 x.From,i64 x.To]) Qkv:=
 Qoh Gp (by kernel_rfl) (Qaw rfl rfl sh_3.h (λ_=>rfl) (λ_=>rfl) (Qcj (λx:Qp=>x.From) (Qeo (n:=0) Uq)) (Qaw rfl rfl sh_3.h (λ_=>rfl) (λ_=>rfl) (Qcj (λx:Qp=>x.To) (Qeo (n:=0) Uq)) (Qsc)))
theorem Q7a:Tryz.prog.eqGuardType Tryz.prog.depth 182=false:=by kernel_rfl
instance Q9w:CFd Ub 182 0 0:=⟨fdA Gp rfl rfl ti_3.h rfl⟩
instance Q9x:CFd Ub 182 1 1:=⟨fdA Gp rfl rfl ti_3.h rfl⟩
instance:CZy Ub 47 (sli 1 (List.map Qe [])):=⟨_,_,_,ti_47.h,(Q7 (k:=1))⟩
instance:CZy Ub 46 (sli 3 (List.map Qb [])):=⟨_,_,_,ti_46.h,(Q7 (k:=3))⟩
instance Q9y:CFd Ub 178 2 15:=⟨fdA Gc rfl rfl ti_46.h rfl⟩
instance Jcs:CFd Ub 88 0 0:=⟨fdA G7 rfl rfl ti_46.h rfl⟩
instance Jct:CFd Ub 88 1 1:=⟨fdA G7 rfl rfl ti_46.h rfl⟩
instance Q7b:CTy Ub 394 26 520 (.agg #[Ua,Ua,.int .i64 0,.int .i64 0,.string ⟨#[]⟩,Ua,Ua,Ua,Ua,Ua,.int .i64 0,.bool false,Ua,Ua,.bool false,Ua,Ua,Ua,Ua,Ua,Ua,Ua,Ua,Ua,Ua,.pointer none]):=⟨tyI (by kernel_rfl)⟩
instance Q7c:CPl Ub 394 [(0,11),(11,3),(14,3),(17,1),(18,4),(22,1),(23,2),(25,1)]:=⟨⟨_,Ut,by kernel_rfl⟩⟩
instance Q9z:CFd Ub 394 6 23:=⟨fdA Ut rfl rfl ti_88.h rfl⟩
instance Q90:CFd Ub 394 0 0:=⟨fdA Ut rfl rfl ti_51.h rfl⟩
instance Q91:CFd Ub 394 3 17:=⟨fdA Ut rfl rfl ti_46.h rfl⟩
instance Q92:CFd Ub 394 5 22:=⟨fdA Ut rfl rfl ti_47.h rfl⟩
instance Q93:CFd Ub 394 2 14:=⟨fdA Ut rfl rfl ti_56.h rfl⟩
instance Q94:CFd Ub 394 7 25:=⟨fdA Ut rfl rfl Qla.h rfl⟩
instance Q95:CFd Ub 394 1 11:=⟨fdA Ut rfl rfl ti_56.h rfl⟩
instance Q96:CFd Ub 394 4 18:=⟨fdA Ut rfl rfl ti_64.h rfl⟩
instance Qs7:CTy Ub 475 5 104 (.agg #[.bool false,Ua,Ua,Ua,Ua]):=⟨tyI (by kernel_rfl)⟩
theorem Qle:Zr (Qab (⟨(⟨(⟨false,[]⟩:Qh),[]⟩:Qa),[],[]⟩:Vm)) [.bool false,Ua,Ua,Ua,Ua]:=Jl (Qj (c1:=[.bool false,Ua,Ua]) Jp (Qj (c1:=[Ua]) (Q7 (k:=3)) (Qj (c1:=[Ua]) (Q7 (k:=3)) (Jb))))
instance:CZy Ub 475 (Qab (⟨(⟨(⟨false,[]⟩:Qh),[]⟩:Qa),[],[]⟩:Vm)):=⟨_,_,_,Qs7.h,Qle⟩
instance Q7d:CPl Ub 475 [(0,3),(3,1),(4,1)]:=⟨⟨_,Gq,by kernel_rfl⟩⟩
instance Jdf:CSh Ub 475 true 5:=⟨shp Gq rfl Qs7.h⟩
instance Q7e:CTy Ub 496 11 216 (.agg #[Ua,Ua,.int .i64 0,.int .i64 0,Ua,Ua,.bool false,Ua,Ua,Ua,Ua]):=⟨tyI (by kernel_rfl)⟩
instance Q7f:CPl Ub 496 [(0,4),(4,1),(5,1),(6,5)]:=⟨⟨_,Gr,by kernel_rfl⟩⟩
theorem Qx6:Zr (Qzf (⟨(⟨[],[],0,0⟩:Qx),[],[],(⟨(⟨(⟨false,[]⟩:Qh),[]⟩:Qa),[],[]⟩:Vm)⟩:Qrs)) [Ua,Ua,.int .i64 0,.int .i64 0,Ua,Ua,.bool false,Ua,Ua,Ua,Ua]:=Jl (Qj (c1:=[Ua,Ua,.int .i64 0,.int .i64 0]) Qhv (Qj (c1:=[Ua]) (Q7 (k:=3)) (Qj (c1:=[Ua]) (Q7 (k:=3)) (Qj (c1:=[.bool false,Ua,Ua,Ua,Ua]) Qle (Jb)))))
instance Q97:CFd Ub 496 2 5:=⟨fdA Gr rfl rfl ti_46.h rfl⟩
instance Q98:CFd Ub 496 0 0:=⟨fdA Gr rfl rfl ti_45.h rfl⟩
instance Q99:CFd Ub 496 3 6:=⟨fdA Gr rfl rfl Qs7.h rfl⟩
instance Jaa:CFd Ub 475 0 0:=⟨fdA Gq rfl rfl ti_56.h rfl⟩
instance Jab:CFd Ub 475 1 3:=⟨fdA Gq rfl rfl ti_46.h rfl⟩
instance Jac:CFd Ub 475 2 4:=⟨fdA Gq rfl rfl ti_46.h rfl⟩
instance Jad:CFd Ub 496 1 4:=⟨fdA Gr rfl rfl ti_46.h rfl⟩
instance Jae:CFd Ub 178 3 16:=⟨fdA Gc rfl rfl ti_46.h rfl⟩
instance Jaf:CFd Ub 178 4 17:=⟨fdA Gc rfl rfl Qla.h rfl⟩
instance Q2q:CTy Ub 107 3 24 (.agg #[.int .i64 0,.int .i64 0,.int .i64 0]):=⟨tyI (by kernel_rfl)⟩
theorem Qwk:Zr (Qqd (⟨0,0,0⟩:Qkw)) [.int .i64 0,.int .i64 0,.int .i64 0]:=Jl (Qj (c1:=[.int .i64 0]) Kd (Qj (c1:=[.int .i64 0]) Kd (Qj (c1:=[.int .i64 0]) Kd (Jb))))
instance:CZy Ub 107 (Qqd (⟨0,0,0⟩:Qkw)):=⟨_,_,_,Q2q.h,Qwk⟩
instance Jdg:CPl Ub 107 [(0,1),(1,1),(2,1)]:=⟨⟨_,Gs,by kernel_rfl⟩⟩
instance Jdh:CSh Ub 107 true 3:=⟨shp Gs rfl Q2q.h⟩
instance Jag:CFd Ub 107 1 1:=⟨fdA Gs rfl rfl ti_3.h rfl⟩
instance Jah:CFd Ub 107 0 0:=⟨fdA Gs rfl rfl ti_3.h rfl⟩
instance Jai:CFd Ub 107 2 2:=⟨fdA Gs rfl rfl ti_3.h rfl⟩
instance:CZy Ub 34 (Qg (⟨false,[],[]⟩:Qc)):=⟨_,_,_,ti_34.h,Jj⟩
instance pl_34:CPl Ub 34 [(0,1),(1,1),(2,1)]:=⟨⟨_,Gj,by kernel_rfl⟩⟩
instance Q2r:CTy Ub 340 3 32 (.agg #[.int .i64 0,.string ⟨#[]⟩,.int .i64 0]):=⟨tyI (by kernel_rfl)⟩
instance Jdi:CPl Ub 340 [(0,1),(1,1),(2,1)]:=⟨⟨_,Gt,by kernel_rfl⟩⟩
theorem Qlw:Zr (Qft (⟨0,[],0⟩:Zh)) [.int .i64 0,.string ⟨#[]⟩,.int .i64 0]:=Jl (Qj (c1:=[.int .i64 0]) Kd (Qj (c1:=[.string ⟨#[]⟩]) Qds (Qj (c1:=[.int .i64 0]) Kd (Jb))))
instance Jaj:CFd Ub 340 1 1:=⟨fdA Gt rfl rfl ti_9.h rfl⟩
instance:CUn Ub 395 (.slice 340):=⟨underlying395⟩
instance Jak:CFd Ub 340 2 2:=⟨fdA Gt rfl rfl ti_3.h rfl⟩
instance Jal:CFd Ub 340 0 0:=⟨fdA Gt rfl rfl ti_3.h rfl⟩
instance Jdj:CSh Ub 340 true 3:=⟨shp Gt rfl Q2r.h⟩
instance:CZy Ub 340 (Qft (⟨0,[],0⟩:Zh)):=⟨_,_,_,Q2r.h,Qlw⟩
instance Qhx:CTy Ub 343 2 32 (.agg #[.bool false,Ua]):=⟨tyI (by kernel_rfl)⟩
instance Qlf:CPl Ub 343 [(0,1),(1,1)]:=⟨⟨_,G8,by kernel_rfl⟩⟩
theorem Kz:Zr (K6 (⟨false,[]⟩:Qv)) [.bool false,Ua]:=Jl (Qj (c1:=[.bool false]) zr_bl (Qj (c1:=[Ua]) (Q7 (k:=1)) (Jb)))
instance:CZy Ub 343 (K6 (⟨false,[]⟩:Qv)):=⟨_,_,_,Qhx.h,Kz⟩
instance Jdk:CSh Ub 343 true 2:=⟨shp G8 rfl Qhx.h⟩
instance Jam:CFd Ub 343 0 0:=⟨fdA G8 rfl rfl ti_4.h rfl⟩
instance Jan:CFd Ub 343 1 1:=⟨fdA G8 rfl rfl ti_32.h rfl⟩
instance Jdl:CPl Ub 164 [(0,3),(3,3),(6,3),(9,3),(12,1),(13,1)]:=⟨⟨_,Uu,by kernel_rfl⟩⟩
instance ti_93:CTy Ub 93 2 48 (.agg #[Ua,Ua]):=⟨tyI (by kernel_rfl)⟩
theorem Qlx:Zr (Qfu (⟨[],[]⟩:Qbf)) [Ua,Ua]:=Jl (Qj (c1:=[Ua]) (Q7 (k:=3)) (Qj (c1:=[Ua]) (Q7 (k:=3)) (Jb)))
instance:CZy Ub 93 (Qfu (⟨[],[]⟩:Qbf)):=⟨_,_,_,ti_93.h,Qlx⟩
instance pl_93:CPl Ub 93 [(0,1),(1,1)]:=⟨⟨_,G9,by kernel_rfl⟩⟩
instance sh_93:CSh Ub 93 true 2:=⟨shp G9 rfl ti_93.h⟩
instance Jcu:CFd Ub 93 0 0:=⟨fdA G9 rfl rfl ti_26.h rfl⟩
instance Jcv:CFd Ub 93 1 1:=⟨fdA G9 rfl rfl ti_26.h rfl⟩
instance ti_95:CTy Ub 95 4 32 (.agg #[.int .i64 0,.int .i64 0,.int .i64 0,.int .i64 0]):=⟨tyI (by kernel_rfl)⟩
theorem Q2s:Zr (Qxu (⟨0,0,0,0⟩:Qsf)) [.int .i64 0,.int .i64 0,.int .i64 0,.int .i64 0]:=Jl (Qj (c1:=[.int .i64 0]) Kd (Qj (c1:=[.int .i64 0]) Kd (Qj (c1:=[.int .i64 0]) Kd (Qj (c1:=[.int .i64 0]) Kd (Jb)))))
instance:CZy Ub 95 (Qxu (⟨0,0,0,0⟩:Qsf)):=⟨_,_,_,ti_95.h,Q2s⟩
instance Q2t:CTy Ub 189 4 80 (.agg #[.int .i64 0,Ua,Ua,Ua]):=⟨tyI (by kernel_rfl)⟩
theorem Qly:Zr (Qfv (⟨0,[],[],[]⟩:Qbh)) [.int .i64 0,Ua,Ua,Ua]:=Jl (Qj (c1:=[.int .i64 0]) Kd (Qj (c1:=[Ua]) (Q7 (k:=3)) (Qj (c1:=[Ua]) (Q7 (k:=3)) (Qj (c1:=[Ua]) (Q7 (k:=1)) (Jb)))))
instance:CZy Ub 189 (Qfv (⟨0,[],[],[]⟩:Qbh)):=⟨_,_,_,Q2t.h,Qly⟩
instance Jdm:CPl Ub 189 [(0,1),(1,1),(2,1),(3,1)]:=⟨⟨_,Gd,by kernel_rfl⟩⟩
instance Jdn:CSh Ub 189 true 4:=⟨shp Gd rfl Q2t.h⟩
instance Jao:CFd Ub 189 1 1:=⟨fdA Gd rfl rfl ti_26.h rfl⟩
instance Jap:CFd Ub 189 2 2:=⟨fdA Gd rfl rfl ti_26.h rfl⟩
instance Jaq:CFd Ub 189 3 3:=⟨fdA Gd rfl rfl ti_27.h rfl⟩
instance Jar:CFd Ub 189 0 0:=⟨fdA Gd rfl rfl ti_3.h rfl⟩
instance Q2u:CTy Ub 275 4 96 (.agg #[Ua,Ua,Ua,Ua]):=⟨tyI (by kernel_rfl)⟩
theorem Qlz:Zr (Qfw (⟨[],[],[],[]⟩:Qbe)) [Ua,Ua,Ua,Ua]:=Jl (Qj (c1:=[Ua]) (Q7 (k:=1)) (Qj (c1:=[Ua]) (Q7 (k:=1)) (Qj (c1:=[Ua]) (Q7 (k:=3)) (Qj (c1:=[Ua]) (Q7 (k:=3)) (Jb)))))
instance:CZy Ub 275 (Qfw (⟨[],[],[],[]⟩:Qbe)):=⟨_,_,_,Q2u.h,Qlz⟩
instance Q2v:CTy Ub 197 3 24 (.agg #[.int .i64 0,.int .i64 0,.int .i64 0]):=⟨tyI (by kernel_rfl)⟩
theorem Q2w:Zr (Qxv (⟨0,0,0⟩:Qse)) [.int .i64 0,.int .i64 0,.int .i64 0]:=Jl (Qj (c1:=[.int .i64 0]) Kd (Qj (c1:=[.int .i64 0]) Kd (Qj (c1:=[.int .i64 0]) Kd (Jb))))
instance:CZy Ub 197 (Qxv (⟨0,0,0⟩:Qse)):=⟨_,_,_,Q2v.h,Q2w⟩
instance Jdo:CPl Ub 275 [(0,1),(1,1),(2,1),(3,1)]:=⟨⟨_,Ge,by kernel_rfl⟩⟩
instance Jdp:CSh Ub 275 true 4:=⟨shp Ge rfl Q2u.h⟩
instance Jas:CFd Ub 275 1 1:=⟨fdA Ge rfl rfl ti_27.h rfl⟩
instance:CUn Ub 197 (.array 3 3):=⟨underlying197⟩
instance Jdq:CSh Ub 197 true 3:=⟨shp underlying197 rfl Q2v.h⟩
instance Q2x:CTy Ub 279 5 104 (.agg #[.bool false,Ua,Ua,Ua,Ua]):=⟨tyI (by kernel_rfl)⟩
theorem Qlg:Zr (Qe5 (⟨(⟨false,[],[]⟩:Qc),[],[]⟩:Qaq)) [.bool false,Ua,Ua,Ua,Ua]:=Jl (Qj (c1:=[.bool false,Ua,Ua]) Jj (Qj (c1:=[Ua]) (Q7 (k:=3)) (Qj (c1:=[Ua]) (Q7 (k:=3)) (Jb))))
instance:CZy Ub 279 (Qe5 (⟨(⟨false,[],[]⟩:Qc),[],[]⟩:Qaq)):=⟨_,_,_,Q2x.h,Qlg⟩
instance Jdr:CPl Ub 279 [(0,3),(3,1),(4,1)]:=⟨⟨_,Gu,by kernel_rfl⟩⟩
instance Jds:CSh Ub 279 true 5:=⟨shp Gu rfl Q2x.h⟩
instance Jat:CFd Ub 279 0 0:=⟨fdA Gu rfl rfl ti_34.h rfl⟩
instance Jau:CFd Ub 279 1 3:=⟨fdA Gu rfl rfl ti_26.h rfl⟩
instance Jav:CFd Ub 279 2 4:=⟨fdA Gu rfl rfl ti_26.h rfl⟩
instance Jaw:CFd Ub 275 0 0:=⟨fdA Ge rfl rfl ti_27.h rfl⟩
instance Jax:CFd Ub 275 2 2:=⟨fdA Ge rfl rfl ti_26.h rfl⟩
instance Jay:CFd Ub 275 3 3:=⟨fdA Ge rfl rfl ti_26.h rfl⟩
instance:CUn Ub 95 (.array 4 3):=⟨underlying95⟩
instance sh_95:CSh Ub 95 true 4:=⟨shp underlying95 rfl ti_95.h⟩
instance Q2y:CTy Ub 282 5 104 (.agg #[.bool false,Ua,Ua,Ua,Ua]):=⟨tyI (by kernel_rfl)⟩
theorem Ql0:Zr (Qfx (⟨(⟨false,[],[]⟩:Qc),[],[]⟩:Qbg)) [.bool false,Ua,Ua,Ua,Ua]:=Jl (Qj (c1:=[.bool false,Ua,Ua]) Jj (Qj (c1:=[Ua]) (Q7 (k:=3)) (Qj (c1:=[Ua]) (Q7 (k:=3)) (Jb))))
instance:CZy Ub 282 (Qfx (⟨(⟨false,[],[]⟩:Qc),[],[]⟩:Qbg)):=⟨_,_,_,Q2y.h,Ql0⟩
instance Jdt:CPl Ub 282 [(0,3),(3,1),(4,1)]:=⟨⟨_,Gv,by kernel_rfl⟩⟩
instance Jdu:CSh Ub 282 true 5:=⟨shp Gv rfl Q2y.h⟩
instance Jaz:CFd Ub 282 0 0:=⟨fdA Gv rfl rfl ti_34.h rfl⟩
instance Ja0:CFd Ub 282 1 3:=⟨fdA Gv rfl rfl ti_26.h rfl⟩
instance Ja1:CFd Ub 282 2 4:=⟨fdA Gv rfl rfl ti_26.h rfl⟩
instance Q7g:CTy Ub 102 20 392 (.agg #[Ua,Ua,.int .i64 0,.int .i64 0,.string ⟨#[]⟩,Ua,Ua,Ua,Ua,Ua,.int .i64 0,.bool false,Ua,Ua,.bool false,Ua,Ua,Ua,Ua,Ua]):=⟨tyI (by kernel_rfl)⟩
instance Jdv:CSh Ub 102 true 20:=⟨shp Gw rfl Q7g.h⟩
instance Ja2:CFd Ub 102 0 0:=⟨fdA Gw rfl rfl ti_31.h rfl⟩
instance Ja3:CFd Ub 102 1 11:=⟨fdA Gw rfl rfl ti_36.h rfl⟩
instance Ja4:CFd Ub 102 2 18:=⟨fdA Gw rfl rfl ti_26.h rfl⟩
instance Ja5:CFd Ub 102 3 19:=⟨fdA Gw rfl rfl ti_26.h rfl⟩
instance Qfy:CTy Ub 116 2 48 (.agg #[Ua,Ua]):=⟨tyI (by kernel_rfl)⟩
theorem Qac:Zr (Vt (⟨[],[]⟩:Jv)) [Ua,Ua]:=Jl (Qj (c1:=[Ua]) (Q7 (k:=1)) (Qj (c1:=[Ua]) (Q7 (k:=1)) (Jb)))
instance:CZy Ub 116 (Vt (⟨[],[]⟩:Jv)):=⟨_,_,_,Qfy.h,Qac⟩
instance Qlh:CPl Ub 116 [(0,1),(1,1)]:=⟨⟨_,Aa,by kernel_rfl⟩⟩
instance Jdw:CSh Ub 116 true 2:=⟨shp Aa rfl Qfy.h⟩
instance Ja6:CFd Ub 116 0 0:=⟨fdA Aa rfl rfl ti_47.h rfl⟩
instance Ja7:CFd Ub 116 1 1:=⟨fdA Aa rfl rfl ti_47.h rfl⟩
instance Ja8:CFd Ub 123 0 0:=⟨fdA Ab rfl rfl ti_27.h rfl⟩
instance Ja9:CFd Ub 123 1 1:=⟨fdA Ab rfl rfl ti_27.h rfl⟩
instance Qli:CTy Ub 123 2 48 (.agg #[Ua,Ua]):=⟨tyI (by kernel_rfl)⟩
instance Qqi:CPl Ub 123 [(0,1),(1,1)]:=⟨⟨_,Ab,by kernel_rfl⟩⟩
theorem Xv:Zr (Q4 (⟨[],[]⟩:Qy)) [Ua,Ua]:=Jl (Qj (c1:=[Ua]) (Q7 (k:=1)) (Qj (c1:=[Ua]) (Q7 (k:=1)) (Jb)))
instance:CZy Ub 123 (Q4 (⟨[],[]⟩:Qy)):=⟨_,_,_,Qli.h,Xv⟩
instance Jdx:CSh Ub 123 true 2:=⟨shp Ab rfl Qli.h⟩
theorem Qun(n:Int)(h1:-9223372036854775808<n)(h2:n≤9223372036854775807)(w:World)(b:Nat)(hw:w.heap[b]?=some (.cells #[.int .i64 n] 3 (0,0))):ItC Ub 210 #[.pointer (some ⟨b,0,none⟩)] n.toNat w:=
 Q5c func210 rfl rfl rfl sh_3.h h1 h2 w b hw
theorem Qup:∀ args w,(callFunc 210 args).run Ub w=.ok (.enter 210 args) w:=entersF func210 (by kernel_rfl) rfl
abbrev Uc xs:=sli 3 (List.map Qb xs)
abbrev Ud xs:=sli 1 (List.map u32 xs)
abbrev Ue xs:=sli 1 (List.map Qe xs)
abbrev Uf xs:=sli 1 (List.map Qf xs)
abbrev Ug xs:=sli 3 (List.map Qg xs)
abbrev Uh xs:=sli 1 (List.map i64 xs)
abbrev Ui xs:=sli 14 (List.map J0 xs)
abbrev Uj xs:=sli 6 (List.map Qr xs)
abbrev Uk xs:=sli 2 (List.map Qu xs)
instance{x}:CIF (Qb x):=⟨CIF.h⟩
instance{x}:CIF (Qr x):=⟨CIF.h⟩
instance{x}:CIF (Wl x):=⟨CIF.h⟩
end Go.Proofs.YtkkfedionkhgnaaGreatDoor
