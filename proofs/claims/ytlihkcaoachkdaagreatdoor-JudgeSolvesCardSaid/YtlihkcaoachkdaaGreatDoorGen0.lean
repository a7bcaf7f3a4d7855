import Derived.Test.YtlihkcaoachkdaaGreatDoorMod
import Derived.Test.YtlihkcaoachkdaaGreatDoorSC
import Derived.Test.YtlihkcaoachkdaaGreatDoorBld
import Derived.Test.YtlihkcaoachkdaaGreatDoorLib
import Derived.Test.YtlihkcaoachkdaaGreatDoorChecked
set_option maxRecDepth 100000
set_option maxHeartbeats 4000000
namespace Go.Proofs.YtlihkcaoachkdaaGreatDoor
open Go Go.RowKit
theorem ownK:ownKnob Tryz.prog.godebug=none:=by kernel_rfl
theorem laidOutK:laidOutB Tryz.prog=true:=by kernel_rfl
abbrev Yh(xs:List Nat):Ly:=sli 1 (xs.map u32)
abbrev Qf(x:Qe):Ly:=.agg [bl x.Neg,Yh x.N,Yh x.D]
abbrev W4(x:Jf):Ly:=.agg [i64 x.Op,i64 x.A,i64 x.B,Qf x.N]
abbrev Yz(xs:List Jf):Ly:=sli 6 (xs.map W4)
abbrev Qle(xs:List Int):Ly:=sli 1 (xs.map i64)
abbrev Kd(x:Je):Ly:=.agg [Yz x.Code,Qle x.Outs,i64 x.Dim,i64 x.Par]
abbrev Qn(xs:List Qe):Ly:=sli 3 (xs.map Qf)
abbrev Vv(xs:List (List Qe)):Ly:=sli 1 (xs.map Qn)
abbrev Kt(x:Ja):Ly:=.agg [str x.Name,Qn x.C,Vv x.A,Qn x.B,Qn x.E]
abbrev Vd(x:Q4):Ly:=.agg [Kd x.Tape,Kt x.Scheme,Qn x.P,i64 x.Bits]
abbrev Vr(x:Jh):Ly:=.agg [Qf x.Tol,Qf x.Safe,Qf x.Low,Qf x.High,Qf x.Least,i64 x.Fine,i64 x.Most]
abbrev J1(x:Q3):Ly:=.agg [Vd x.Problem,Vr x.Rules,Qf x.Start,Qf x.End,Qf x.First,Qn x.Y]
abbrev Q1(x:Qd):Ly:=.agg [bl x.Neg,Yh x.Abs]
abbrev Qb(x:Qa):Ly:=.agg [Q1 x.Num,Yh x.Den]
theorem Ju{a0_0_ a0_1_ a1_}:IF (.agg [.agg [bl a0_0_,sli 1 a0_1_],sli 1 a1_]):=Qk9 (Ym (Qk9 (Ym if_bl (Ym Qfv (Qgy)))) (Ym Qfv (Qgy)))
abbrev Ko(x:Q7):Ly:=.agg [i64 x.Op,i64 x.A,i64 x.B,Qb x.N]
abbrev Qtw(xs:List Q7):Ly:=sli 6 (xs.map Ko)
abbrev Kj(x:Q2):Ly:=.agg [Qtw x.Code,Qle x.Outs,i64 x.Dim,i64 x.Par]
abbrev Qg(xs:List Qa):Ly:=sli 3 (xs.map Qb)
abbrev Qgh(xs:List (List Qa)):Ly:=sli 1 (xs.map Qg)
abbrev Jl(x:Qr):Ly:=.agg [str x.Name,Qg x.C,Qgh x.A,Qg x.B,Qg x.E]
abbrev Q8(x:Ql):Ly:=.agg [Kj x.Tape,Jl x.Scheme,Qg x.P,i64 x.Bits]
abbrev K2(x:Qw):Ly:=.agg [Qb x.Tol,Qb x.Safe,Qb x.Low,Qb x.High,Qb x.Least,i64 x.Fine,i64 x.Most]
abbrev Q5(x:Qy):Ly:=.agg [Q8 x.Problem,K2 x.Rules,Qb x.Start,Qb x.End,Qb x.First,Qg x.Y]
abbrev Qhh(x:Qev):Ly:=.agg [str x.a0,str x.a1,str x.a2,str x.a3,str x.a4,str x.a5]
abbrev Qo(x:Qc):Ly:=.agg [i64 x.Kind,i64 x.Step,i64 x.Stage,i64 x.At]
theorem Qap{a0_ a1_ a2_ a3_}:IF (.agg [i64 a0_,i64 a1_,i64 a2_,i64 a3_]):=Qk9 (Ym Qcz (Ym Qcz (Ym Qcz (Ym Qcz (Qgy)))))
abbrev Jy(x:Jk):Ly:=.agg [str x.rest,i64 x.at_,bl x.over]
abbrev Ql5(x:Qeg):Ly:=.agg [i64 x.Kind,str x.Text,i64 x.At]
abbrev Qu(x:Qm):Ly:=.agg [Qb x.T,Qb x.Want,Qb x.H,Qb x.Err,Qg x.Y,bl x.Ok]
abbrev Qu5(xs:List Qm):Ly:=sli 14 (xs.map Qu)
abbrev Qj(x:Qi):Ly:=.agg [Qu5 x.Tries,Qb x.T,Qg x.Y]
abbrev Qg6(x:J5):Ly:=.agg [i64 x.op,i64 x.a,i64 x.b]
abbrev Qrx(x:Qlc):Ly:=.agg [Q5 x.k,Qj x.h,Qb x.want]
abbrev Qhi(x:Yl):Ly:=.agg [Qgh x.Ys,Qgh x.Ks,Qg x.Next,Qg x.Err]
abbrev Qh6(x:X4):Ly:=.agg [i64 x.Seen,i64 x.Peak]
abbrev Qs(x:Qp):Ly:=.agg [Qh6 x.Count,i64 x.limit]
theorem Ka{a0_0_ a0_1_ a1_}:IF (.agg [.agg [i64 a0_0_,i64 a0_1_],i64 a1_]):=Qk9 (Ym (Qk9 (Ym Qcz (Ym Qcz (Qgy)))) (Ym Qcz (Qgy)))
abbrev Qat(x:Xb):Ly:=.agg [Qb x.T,Qg x.Y,Qg x.P]
abbrev Wr(x:Wq):Ly:=.agg [Qb x.T,Qg x.Y,Qg x.P]
abbrev Qe4(x:Zl):Ly:=.agg [i64 x.Kind,str x.Text,i64 x.At]
abbrev Qep(x:Qa1):Ly:=.agg [bl x.Neg,Yh x.Abs]
abbrev Yi(x:Jw):Ly:=.agg [Qf x.T,Qf x.Want,Qf x.H,Qf x.Err,Qn x.Y,bl x.Ok]
abbrev Qeq(xs:List Jw):Ly:=sli 14 (xs.map Yi)
abbrev J8(x:Jq):Ly:=.agg [Qeq x.Tries,Qf x.T,Qn x.Y]
abbrev Qu6(x:Qpq):Ly:=.agg [i64 x.a0,i64 x.a1,i64 x.a2,i64 x.a3]
abbrev Qe5(x:Qbq):Ly:=.agg [Vv x.Ys,Vv x.Ks,Qn x.Next,Qn x.Err]
abbrev Qu7(x:Qpr):Ly:=.agg [i64 x.a0,i64 x.a1,i64 x.a2]
abbrev Qer(x:Qa2):Ly:=.agg [Qf x.T,Qn x.Y,Qn x.P]
abbrev Qw5(x:Qrv):Ly:=.agg [u8 x.a0,u8 x.a1,u8 x.a2,u8 x.a3,u8 x.a4,u8 x.a5,u8 x.a6,u8 x.a7,u8 x.a8]
abbrev V0(x:Qv):Ly:=.agg [i64 x.What,i64 x.Try]
abbrev Wj(x:W0):Ly:=.agg [Q5 x.k,Qj x.h]
instance ti_38:CTy Tryz.prog 38 38 696 (.agg #[.slice none 0 0,.slice none 0 0,.int .i64 0,.int .i64 0,.string ⟨#[]⟩,.slice none 0 0,.slice none 0 0,.slice none 0 0,.slice none 0 0,.slice none 0 0,.int .i64 0,.bool false,.slice none 0 0,.slice none 0 0,.bool false,.slice none 0 0,.slice none 0 0,.bool false,.slice none 0 0,.slice none 0 0,.bool false,.slice none 0 0,.slice none 0 0,.bool false,.slice none 0 0,.slice none 0 0,.int .i64 0,.int .i64 0,.bool false,.slice none 0 0,.slice none 0 0,.bool false,.slice none 0 0,.slice none 0 0,.bool false,.slice none 0 0,.slice none 0 0,.slice none 0 0]):=⟨tyI (by kernel_rfl)⟩
instance sh_38:CSh Tryz.prog 38 true 38:=⟨shp Tryz.underlying38 rfl ti_38.h⟩
instance ti_31:CTy Tryz.prog 31 11 208 (.agg #[.slice none 0 0,.slice none 0 0,.int .i64 0,.int .i64 0,.string ⟨#[]⟩,.slice none 0 0,.slice none 0 0,.slice none 0 0,.slice none 0 0,.slice none 0 0,.int .i64 0]):=⟨tyI (by kernel_rfl)⟩
instance Q5m:CFd Tryz.prog 38 0 0:=⟨fdA Tryz.underlying38 rfl rfl ti_31.h rfl⟩
instance sh_31:CSh Tryz.prog 31 true 11:=⟨shp Tryz.underlying31 rfl ti_31.h⟩
instance ti_25:CTy Tryz.prog 25 4 64 (.agg #[.slice none 0 0,.slice none 0 0,.int .i64 0,.int .i64 0]):=⟨tyI (by kernel_rfl)⟩
instance Q5n:CFd Tryz.prog 31 0 0:=⟨fdA Tryz.underlying31 rfl rfl ti_25.h rfl⟩
instance sh_25:CSh Tryz.prog 25 true 4:=⟨shp Tryz.underlying25 rfl ti_25.h⟩
instance ti_22:CTy Tryz.prog 22 1 24 (.slice none 0 0):=⟨tyI (by kernel_rfl)⟩
instance Q5o:CFd Tryz.prog 25 0 0:=⟨fdA Tryz.underlying25 rfl rfl ti_22.h rfl⟩
instance:CUn Tryz.prog 22 (.slice 232):=⟨Tryz.underlying22⟩
instance sh_22:CSh Tryz.prog 22 false 1:=⟨shp Tryz.underlying22 rfl ti_22.h⟩
instance Qy1:CTy Tryz.prog 232 6 80 (.agg #[.int .i64 0,.int .i64 0,.int .i64 0,.bool false,.slice none 0 0,.slice none 0 0]):=⟨tyI (by kernel_rfl)⟩
instance ti_34:CTy Tryz.prog 34 3 56 (.agg #[.bool false,.slice none 0 0,.slice none 0 0]):=⟨tyI (by kernel_rfl)⟩
instance Q3z:CFd Tryz.prog 232 3 3:=⟨fdA Tryz.underlying232 rfl rfl ti_34.h rfl⟩
instance sh_34:CSh Tryz.prog 34 true 3:=⟨shp Tryz.underlying34 rfl ti_34.h⟩
instance ti_32:CTy Tryz.prog 32 1 24 (.slice none 0 0):=⟨tyI (by kernel_rfl)⟩
instance Q5p:CFd Tryz.prog 34 1 1:=⟨fdA Tryz.underlying34 rfl rfl ti_32.h rfl⟩
instance:CUn Tryz.prog 32 (.slice 189):=⟨Tryz.underlying32⟩
instance sh_32:CSh Tryz.prog 32 false 1:=⟨shp Tryz.underlying32 rfl ti_32.h⟩
instance Q5q:CFd Tryz.prog 34 2 2:=⟨fdA Tryz.underlying34 rfl rfl ti_32.h rfl⟩
instance ti_23:CTy Tryz.prog 23 1 24 (.slice none 0 0):=⟨tyI (by kernel_rfl)⟩
instance Q5r:CFd Tryz.prog 25 1 1:=⟨fdA Tryz.underlying25 rfl rfl ti_23.h rfl⟩
instance:CUn Tryz.prog 23 (.slice 3):=⟨Tryz.underlying23⟩
instance sh_23:CSh Tryz.prog 23 false 1:=⟨shp Tryz.underlying23 rfl ti_23.h⟩
instance ti_29:CTy Tryz.prog 29 5 112 (.agg #[.string ⟨#[]⟩,.slice none 0 0,.slice none 0 0,.slice none 0 0,.slice none 0 0]):=⟨tyI (by kernel_rfl)⟩
instance Q5s:CFd Tryz.prog 31 1 4:=⟨fdA Tryz.underlying31 rfl rfl ti_29.h rfl⟩
instance sh_29:CSh Tryz.prog 29 true 5:=⟨shp Tryz.underlying29 rfl ti_29.h⟩
instance ti_9:CTy Tryz.prog 9 1 16 (.string ⟨#[]⟩):=⟨tyI (by kernel_rfl)⟩
instance Q5t:CFd Tryz.prog 29 0 0:=⟨fdA Tryz.underlying29 rfl rfl ti_9.h rfl⟩
instance:CUn Tryz.prog 9 (.string):=⟨Tryz.underlying9⟩
instance sh_9:CSh Tryz.prog 9 false 1:=⟨shp Tryz.underlying9 rfl ti_9.h⟩
instance ti_27:CTy Tryz.prog 27 1 24 (.slice none 0 0):=⟨tyI (by kernel_rfl)⟩
instance Q5u:CFd Tryz.prog 29 2 2:=⟨fdA Tryz.underlying29 rfl rfl ti_27.h rfl⟩
instance:CUn Tryz.prog 27 (.slice 26):=⟨Tryz.underlying27⟩
instance sh_27:CSh Tryz.prog 27 false 1:=⟨shp Tryz.underlying27 rfl ti_27.h⟩
instance ti_26:CTy Tryz.prog 26 1 24 (.slice none 0 0):=⟨tyI (by kernel_rfl)⟩
instance Q5v:CFd Tryz.prog 29 3 3:=⟨fdA Tryz.underlying29 rfl rfl ti_26.h rfl⟩
instance:CUn Tryz.prog 26 (.slice 34):=⟨Tryz.underlying26⟩
instance sh_26:CSh Tryz.prog 26 false 1:=⟨shp Tryz.underlying26 rfl ti_26.h⟩
instance Q5w:CFd Tryz.prog 29 1 1:=⟨fdA Tryz.underlying29 rfl rfl ti_26.h rfl⟩
instance Q5x:CFd Tryz.prog 29 4 4:=⟨fdA Tryz.underlying29 rfl rfl ti_26.h rfl⟩
instance Q5y:CFd Tryz.prog 31 2 9:=⟨fdA Tryz.underlying31 rfl rfl ti_26.h rfl⟩
instance ti_3:CTy Tryz.prog 3 1 8 (.int .i64 0):=⟨tyI (by kernel_rfl)⟩
instance Q5z:CFd Tryz.prog 31 3 10:=⟨fdA Tryz.underlying31 rfl rfl ti_3.h rfl⟩
instance:CUn Tryz.prog 3 (.int .i64):=⟨Tryz.underlying3⟩
instance sh_3:CSh Tryz.prog 3 false 1:=⟨shp Tryz.underlying3 rfl ti_3.h⟩
instance ti_36:CTy Tryz.prog 36 17 296 (.agg #[.bool false,.slice none 0 0,.slice none 0 0,.bool false,.slice none 0 0,.slice none 0 0,.bool false,.slice none 0 0,.slice none 0 0,.bool false,.slice none 0 0,.slice none 0 0,.bool false,.slice none 0 0,.slice none 0 0,.int .i64 0,.int .i64 0]):=⟨tyI (by kernel_rfl)⟩
instance Q50:CFd Tryz.prog 38 1 11:=⟨fdA Tryz.underlying38 rfl rfl ti_36.h rfl⟩
instance sh_36:CSh Tryz.prog 36 true 17:=⟨shp Tryz.underlying36 rfl ti_36.h⟩
instance Q51:CFd Tryz.prog 36 0 0:=⟨fdA Tryz.underlying36 rfl rfl ti_34.h rfl⟩
instance Q52:CFd Tryz.prog 36 1 3:=⟨fdA Tryz.underlying36 rfl rfl ti_34.h rfl⟩
instance Q53:CFd Tryz.prog 36 2 6:=⟨fdA Tryz.underlying36 rfl rfl ti_34.h rfl⟩
instance Q54:CFd Tryz.prog 36 3 9:=⟨fdA Tryz.underlying36 rfl rfl ti_34.h rfl⟩
instance Q55:CFd Tryz.prog 36 4 12:=⟨fdA Tryz.underlying36 rfl rfl ti_34.h rfl⟩
instance Q56:CFd Tryz.prog 36 6 16:=⟨fdA Tryz.underlying36 rfl rfl ti_3.h rfl⟩
instance Q57:CFd Tryz.prog 38 2 28:=⟨fdA Tryz.underlying38 rfl rfl ti_34.h rfl⟩
instance Q58:CFd Tryz.prog 38 3 31:=⟨fdA Tryz.underlying38 rfl rfl ti_34.h rfl⟩
instance Q59:CFd Tryz.prog 38 4 34:=⟨fdA Tryz.underlying38 rfl rfl ti_34.h rfl⟩
instance Q6a:CFd Tryz.prog 38 5 37:=⟨fdA Tryz.underlying38 rfl rfl ti_26.h rfl⟩
instance ti_57:CTy Tryz.prog 57 38 696 (.agg #[.slice none 0 0,.slice none 0 0,.int .i64 0,.int .i64 0,.string ⟨#[]⟩,.slice none 0 0,.slice none 0 0,.slice none 0 0,.slice none 0 0,.slice none 0 0,.int .i64 0,.bool false,.slice none 0 0,.slice none 0 0,.bool false,.slice none 0 0,.slice none 0 0,.bool false,.slice none 0 0,.slice none 0 0,.bool false,.slice none 0 0,.slice none 0 0,.bool false,.slice none 0 0,.slice none 0 0,.int .i64 0,.int .i64 0,.bool false,.slice none 0 0,.slice none 0 0,.bool false,.slice none 0 0,.slice none 0 0,.bool false,.slice none 0 0,.slice none 0 0,.slice none 0 0]):=⟨tyI (by kernel_rfl)⟩
theorem Kz:Zr (Q1 (⟨false,[]⟩:Qd)) [.bool false,.slice none 0 0]:=Kb (Qh (c1:=[.bool false]) zr_bl (Qh (c1:=[.slice none 0 0]) (Jz (k:=1)) (Js)))
theorem Jm:Zr (Qb (⟨(⟨false,[]⟩:Qd),[]⟩:Qa)) [.bool false,.slice none 0 0,.slice none 0 0]:=Kb (Qh (c1:=[.bool false,.slice none 0 0]) Kz (Qh (c1:=[.slice none 0 0]) (Jz (k:=1)) (Js)))
theorem Qfa:Zr (K2 (⟨(⟨(⟨false,[]⟩:Qd),[]⟩:Qa),(⟨(⟨false,[]⟩:Qd),[]⟩:Qa),(⟨(⟨false,[]⟩:Qd),[]⟩:Qa),(⟨(⟨false,[]⟩:Qd),[]⟩:Qa),(⟨(⟨false,[]⟩:Qd),[]⟩:Qa),0,0⟩:Qw)) [.bool false,.slice none 0 0,.slice none 0 0,.bool false,.slice none 0 0,.slice none 0 0,.bool false,.slice none 0 0,.slice none 0 0,.bool false,.slice none 0 0,.slice none 0 0,.bool false,.slice none 0 0,.slice none 0 0,.int .i64 0,.int .i64 0]:=Kb (Qh (c1:=[.bool false,.slice none 0 0,.slice none 0 0]) Jm (Qh (c1:=[.bool false,.slice none 0 0,.slice none 0 0]) Jm (Qh (c1:=[.bool false,.slice none 0 0,.slice none 0 0]) Jm (Qh (c1:=[.bool false,.slice none 0 0,.slice none 0 0]) Jm (Qh (c1:=[.bool false,.slice none 0 0,.slice none 0 0]) Jm (Qh (c1:=[.int .i64 0]) Kg (Qh (c1:=[.int .i64 0]) Kg (Js))))))))
theorem Yd:Zr (Jl (⟨[],[],[],[],[]⟩:Qr)) [.string ⟨#[]⟩,.slice none 0 0,.slice none 0 0,.slice none 0 0,.slice none 0 0]:=Kb (Qh (c1:=[.string ⟨#[]⟩]) Qc0 (Qh (c1:=[.slice none 0 0]) (Jz (k:=3)) (Qh (c1:=[.slice none 0 0]) (Jz (k:=1)) (Qh (c1:=[.slice none 0 0]) (Jz (k:=3)) (Qh (c1:=[.slice none 0 0]) (Jz (k:=3)) (Js))))))
theorem Qja:Zr (Kj (⟨[],[],0,0⟩:Q2)) [.slice none 0 0,.slice none 0 0,.int .i64 0,.int .i64 0]:=Kb (Qh (c1:=[.slice none 0 0]) (Jz (k:=6)) (Qh (c1:=[.slice none 0 0]) (Jz (k:=1)) (Qh (c1:=[.int .i64 0]) Kg (Qh (c1:=[.int .i64 0]) Kg (Js)))))
theorem Qbj:Zr (Q8 (⟨(⟨[],[],0,0⟩:Q2),(⟨[],[],[],[],[]⟩:Qr),[],0⟩:Ql)) [.slice none 0 0,.slice none 0 0,.int .i64 0,.int .i64 0,.string ⟨#[]⟩,.slice none 0 0,.slice none 0 0,.slice none 0 0,.slice none 0 0,.slice none 0 0,.int .i64 0]:=Kb (Qh (c1:=[.slice none 0 0,.slice none 0 0,.int .i64 0,.int .i64 0]) Qja (Qh (c1:=[.string ⟨#[]⟩,.slice none 0 0,.slice none 0 0,.slice none 0 0,.slice none 0 0]) Yd (Qh (c1:=[.slice none 0 0]) (Jz (k:=3)) (Qh (c1:=[.int .i64 0]) Kg (Js)))))
theorem Qc7:Zr (Q5 (⟨(⟨(⟨[],[],0,0⟩:Q2),(⟨[],[],[],[],[]⟩:Qr),[],0⟩:Ql),(⟨(⟨(⟨false,[]⟩:Qd),[]⟩:Qa),(⟨(⟨false,[]⟩:Qd),[]⟩:Qa),(⟨(⟨false,[]⟩:Qd),[]⟩:Qa),(⟨(⟨false,[]⟩:Qd),[]⟩:Qa),(⟨(⟨false,[]⟩:Qd),[]⟩:Qa),0,0⟩:Qw),(⟨(⟨false,[]⟩:Qd),[]⟩:Qa),(⟨(⟨false,[]⟩:Qd),[]⟩:Qa),(⟨(⟨false,[]⟩:Qd),[]⟩:Qa),[]⟩:Qy)) [.slice none 0 0,.slice none 0 0,.int .i64 0,.int .i64 0,.string ⟨#[]⟩,.slice none 0 0,.slice none 0 0,.slice none 0 0,.slice none 0 0,.slice none 0 0,.int .i64 0,.bool false,.slice none 0 0,.slice none 0 0,.bool false,.slice none 0 0,.slice none 0 0,.bool false,.slice none 0 0,.slice none 0 0,.bool false,.slice none 0 0,.slice none 0 0,.bool false,.slice none 0 0,.slice none 0 0,.int .i64 0,.int .i64 0,.bool false,.slice none 0 0,.slice none 0 0,.bool false,.slice none 0 0,.slice none 0 0,.bool false,.slice none 0 0,.slice none 0 0,.slice none 0 0]:=Kb (Qh (c1:=[.slice none 0 0,.slice none 0 0,.int .i64 0,.int .i64 0,.string ⟨#[]⟩,.slice none 0 0,.slice none 0 0,.slice none 0 0,.slice none 0 0,.slice none 0 0,.int .i64 0]) Qbj (Qh (c1:=[.bool false,.slice none 0 0,.slice none 0 0,.bool false,.slice none 0 0,.slice none 0 0,.bool false,.slice none 0 0,.slice none 0 0,.bool false,.slice none 0 0,.slice none 0 0,.bool false,.slice none 0 0,.slice none 0 0,.int .i64 0,.int .i64 0]) Qfa (Qh (c1:=[.bool false,.slice none 0 0,.slice none 0 0]) Jm (Qh (c1:=[.bool false,.slice none 0 0,.slice none 0 0]) Jm (Qh (c1:=[.bool false,.slice none 0 0,.slice none 0 0]) Jm (Qh (c1:=[.slice none 0 0]) (Jz (k:=3)) (Js)))))))
instance:CZy Tryz.prog 57 (Q5 (⟨(⟨(⟨[],[],0,0⟩:Q2),(⟨[],[],[],[],[]⟩:Qr),[],0⟩:Ql),(⟨(⟨(⟨false,[]⟩:Qd),[]⟩:Qa),(⟨(⟨false,[]⟩:Qd),[]⟩:Qa),(⟨(⟨false,[]⟩:Qd),[]⟩:Qa),(⟨(⟨false,[]⟩:Qd),[]⟩:Qa),(⟨(⟨false,[]⟩:Qd),[]⟩:Qa),0,0⟩:Qw),(⟨(⟨false,[]⟩:Qd),[]⟩:Qa),(⟨(⟨false,[]⟩:Qd),[]⟩:Qa),(⟨(⟨false,[]⟩:Qd),[]⟩:Qa),[]⟩:Qy)):=⟨_,_,_,ti_57.h,Qc7⟩
instance Qlf:CTy Tryz.prog 164 6 80 (.agg #[.int .i64 0,.int .i64 0,.int .i64 0,.bool false,.slice none 0 0,.slice none 0 0]):=⟨tyI (by kernel_rfl)⟩
instance Qy2:CPl Tryz.prog 164 [(0,1),(1,1),(2,1),(3,3)]:=⟨⟨_,Tryz.underlying164,by kernel_rfl⟩⟩
theorem Qjb:Zr (Ko (⟨0,0,0,(⟨(⟨false,[]⟩:Qd),[]⟩:Qa)⟩:Q7)) [.int .i64 0,.int .i64 0,.int .i64 0,.bool false,.slice none 0 0,.slice none 0 0]:=Kb (Qh (c1:=[.int .i64 0]) Kg (Qh (c1:=[.int .i64 0]) Kg (Qh (c1:=[.int .i64 0]) Kg (Qh (c1:=[.bool false,.slice none 0 0,.slice none 0 0]) Jm (Js)))))
instance:CUn Tryz.prog 41 (.slice 164):=⟨Tryz.underlying41⟩
instance ti_43:CTy Tryz.prog 43 4 64 (.agg #[.slice none 0 0,.slice none 0 0,.int .i64 0,.int .i64 0]):=⟨tyI (by kernel_rfl)⟩
instance pl_43:CPl Tryz.prog 43 [(0,1),(1,1),(2,1),(3,1)]:=⟨⟨_,Tryz.underlying43,by kernel_rfl⟩⟩
instance:CZy Tryz.prog 43 (Kj (⟨[],[],0,0⟩:Q2)):=⟨_,_,_,ti_43.h,Qja⟩
instance sh_43:CSh Tryz.prog 43 true 4:=⟨shp Tryz.underlying43 rfl ti_43.h⟩
instance ti_47:CTy Tryz.prog 47 5 112 (.agg #[.string ⟨#[]⟩,.slice none 0 0,.slice none 0 0,.slice none 0 0,.slice none 0 0]):=⟨tyI (by kernel_rfl)⟩
instance:CZy Tryz.prog 47 (Jl (⟨[],[],[],[],[]⟩:Qr)):=⟨_,_,_,ti_47.h,Yd⟩
instance Qu8:CTy Tryz.prog 233 6 96 (.agg #[.string ⟨#[]⟩,.string ⟨#[]⟩,.string ⟨#[]⟩,.string ⟨#[]⟩,.string ⟨#[]⟩,.string ⟨#[]⟩]):=⟨tyI (by kernel_rfl)⟩
theorem Qnj:Zr (Qhh (⟨[],[],[],[],[],[]⟩:Qev)) [.string ⟨#[]⟩,.string ⟨#[]⟩,.string ⟨#[]⟩,.string ⟨#[]⟩,.string ⟨#[]⟩,.string ⟨#[]⟩]:=Kb (Qh (c1:=[.string ⟨#[]⟩]) Qc0 (Qh (c1:=[.string ⟨#[]⟩]) Qc0 (Qh (c1:=[.string ⟨#[]⟩]) Qc0 (Qh (c1:=[.string ⟨#[]⟩]) Qc0 (Qh (c1:=[.string ⟨#[]⟩]) Qc0 (Qh (c1:=[.string ⟨#[]⟩]) Qc0 (Js)))))))
instance:CZy Tryz.prog 233 (Qhh (⟨[],[],[],[],[],[]⟩:Qev)):=⟨_,_,_,Qu8.h,Qnj⟩
instance:CUn Tryz.prog 233 (.array 6 9):=⟨Tryz.underlying233⟩
instance Q7p:CSh Tryz.prog 233 true 6:=⟨shp Tryz.underlying233 rfl Qu8.h⟩
instance ti_63:CTy Tryz.prog 63 4 32 (.agg #[.int .i64 0,.int .i64 0,.int .i64 0,.int .i64 0]):=⟨tyI (by kernel_rfl)⟩
theorem Qq:Zr (Qo (⟨0,0,0,0⟩:Qc)) [.int .i64 0,.int .i64 0,.int .i64 0,.int .i64 0]:=Kb (Qh (c1:=[.int .i64 0]) Kg (Qh (c1:=[.int .i64 0]) Kg (Qh (c1:=[.int .i64 0]) Kg (Qh (c1:=[.int .i64 0]) Kg (Js)))))
instance:CZy Tryz.prog 63 (Qo (⟨0,0,0,0⟩:Qc)):=⟨_,_,_,ti_63.h,Qq⟩
instance pl_47:CPl Tryz.prog 47 [(0,1),(1,1),(2,1),(3,1),(4,1)]:=⟨⟨_,Tryz.underlying47,by kernel_rfl⟩⟩
instance pl_63:CPl Tryz.prog 63 [(0,1),(1,1),(2,1),(3,1)]:=⟨⟨_,Tryz.underlying63,by kernel_rfl⟩⟩
instance sh_47:CSh Tryz.prog 47 true 5:=⟨shp Tryz.underlying47 rfl ti_47.h⟩
instance sh_63:CSh Tryz.prog 63 true 4:=⟨shp Tryz.underlying63 rfl ti_63.h⟩
instance Q26:CTy Tryz.prog 323 3 32 (.agg #[.string ⟨#[]⟩,.int .i64 0,.bool false]):=⟨tyI (by kernel_rfl)⟩
instance Q27:CPl Tryz.prog 323 [(0,1),(1,1),(2,1)]:=⟨⟨_,Tryz.underlying323,by kernel_rfl⟩⟩
theorem Qps:Zr (Jy (⟨[],0,false⟩:Jk)) [.string ⟨#[]⟩,.int .i64 0,.bool false]:=Kb (Qh (c1:=[.string ⟨#[]⟩]) Qc0 (Qh (c1:=[.int .i64 0]) Kg (Qh (c1:=[.bool false]) zr_bl (Js))))
instance ti_4:CTy Tryz.prog 4 1 1 (.bool false):=⟨tyI (by kernel_rfl)⟩
instance Q30:CFd Tryz.prog 323 2 2:=⟨fdA Tryz.underlying323 rfl rfl ti_4.h rfl⟩
instance:CUn Tryz.prog 4 (.bool):=⟨Tryz.underlying4⟩
instance sh_4:CSh Tryz.prog 4 false 1:=⟨shp Tryz.underlying4 rfl ti_4.h⟩
instance Q31:CFd Tryz.prog 323 1 1:=⟨fdA Tryz.underlying323 rfl rfl ti_3.h rfl⟩
theorem fol:Tryz.prog.follows .mixedOrders=true:=by kernel_rfl
instance Q32:CFd Tryz.prog 323 0 0:=⟨fdA Tryz.underlying323 rfl rfl ti_9.h rfl⟩
instance Q6b:CFd Tryz.prog 47 0 0:=⟨fdA Tryz.underlying47 rfl rfl ti_9.h rfl⟩
instance Qy3:CTy Tryz.prog 313 3 32 (.agg #[.int .i64 0,.string ⟨#[]⟩,.int .i64 0]):=⟨tyI (by kernel_rfl)⟩
instance Qy4:CPl Tryz.prog 313 [(0,1),(1,1),(2,1)]:=⟨⟨_,Tryz.underlying313,by kernel_rfl⟩⟩
theorem Qo5:Zr (Ql5 (⟨0,[],0⟩:Qeg)) [.int .i64 0,.string ⟨#[]⟩,.int .i64 0]:=Kb (Qh (c1:=[.int .i64 0]) Kg (Qh (c1:=[.string ⟨#[]⟩]) Qc0 (Qh (c1:=[.int .i64 0]) Kg (Js))))
instance Q33:CFd Tryz.prog 313 1 1:=⟨fdA Tryz.underlying313 rfl rfl ti_9.h rfl⟩
instance Q34:CFd Tryz.prog 313 0 0:=⟨fdA Tryz.underlying313 rfl rfl ti_3.h rfl⟩
instance:CUn Tryz.prog 21 (.int .i32):=⟨Tryz.underlying21⟩
instance:CUn Tryz.prog 5 (.int .u8):=⟨Tryz.underlying5⟩
instance ti_53:CTy Tryz.prog 53 3 56 (.agg #[.bool false,.slice none 0 0,.slice none 0 0]):=⟨tyI (by kernel_rfl)⟩
instance:CZy Tryz.prog 53 (Qb (⟨(⟨false,[]⟩:Qd),[]⟩:Qa)):=⟨_,_,_,ti_53.h,Jm⟩
instance ti_51:CTy Tryz.prog 51 2 32 (.agg #[.bool false,.slice none 0 0]):=⟨tyI (by kernel_rfl)⟩
instance:CZy Tryz.prog 51 (Q1 (⟨false,[]⟩:Qd)):=⟨_,_,_,ti_51.h,Kz⟩
instance:CUn Tryz.prog 189 (.int .u32):=⟨Tryz.underlying189⟩
instance Qau:CTy Tryz.prog 189 1 4 (.int .u32 0):=⟨tyI (by kernel_rfl)⟩
instance Q7q:CSh Tryz.prog 189 false 1:=⟨shp Tryz.underlying189 rfl Qau.h⟩
instance:CUn Tryz.prog 151 (.int .u64):=⟨Tryz.underlying151⟩
theorem Kk:EqF Tryz.prog 2 63 (λx:Qc=>.agg [i64 x.Kind,i64 x.Step,i64 x.Stage,i64 x.At]) Qx:=
 Ql2 Tryz.underlying63 (by kernel_rfl) (Qbb rfl rfl sh_3.h (λ_=>rfl) (λ_=>rfl) (Qcn (λx:Qc=>x.Kind) (Qef (n:=0) Tryz.underlying3)) (Qbb rfl rfl sh_3.h (λ_=>rfl) (λ_=>rfl) (Qcn (λx:Qc=>x.Step) (Qef (n:=0) Tryz.underlying3)) (Qbb rfl rfl sh_3.h (λ_=>rfl) (λ_=>rfl) (Qcn (λx:Qc=>x.Stage) (Qef (n:=0) Tryz.underlying3)) (Qbb rfl rfl sh_3.h (λ_=>rfl) (λ_=>rfl) (Qcn (λx:Qc=>x.At) (Qef (n:=0) Tryz.underlying3)) (Qpo)))))
theorem eg_63:Tryz.prog.eqGuardType Tryz.prog.depth 63=false:=by kernel_rfl
instance Q6c:CFd Tryz.prog 63 3 3:=⟨fdA Tryz.underlying63 rfl rfl ti_3.h rfl⟩
instance pl_51:CPl Tryz.prog 51 [(0,1),(1,1)]:=⟨⟨_,Tryz.underlying51,by kernel_rfl⟩⟩
instance sh_51:CSh Tryz.prog 51 true 2:=⟨shp Tryz.underlying51 rfl ti_51.h⟩
instance pl_53:CPl Tryz.prog 53 [(0,2),(2,1)]:=⟨⟨_,Tryz.underlying53,by kernel_rfl⟩⟩
instance sh_53:CSh Tryz.prog 53 true 3:=⟨shp Tryz.underlying53 rfl ti_53.h⟩
instance Q6d:CFd Tryz.prog 51 1 1:=⟨fdA Tryz.underlying51 rfl rfl ti_32.h rfl⟩
instance Q6e:CFd Tryz.prog 51 0 0:=⟨fdA Tryz.underlying51 rfl rfl ti_4.h rfl⟩
instance:CUn Tryz.prog 271 (.slice 32):=⟨Tryz.underlying271⟩
instance:CUn Tryz.prog 238 (.slice 9):=⟨Tryz.underlying238⟩
instance:CUn Tryz.prog 44 (.slice 53):=⟨Tryz.underlying44⟩
instance ti_44:CTy Tryz.prog 44 1 24 (.slice none 0 0):=⟨tyI (by kernel_rfl)⟩
instance Q6f:CFd Tryz.prog 47 1 1:=⟨fdA Tryz.underlying47 rfl rfl ti_44.h rfl⟩
instance sh_44:CSh Tryz.prog 44 false 1:=⟨shp Tryz.underlying44 rfl ti_44.h⟩
instance ti_45:CTy Tryz.prog 45 1 24 (.slice none 0 0):=⟨tyI (by kernel_rfl)⟩
instance Q6g:CFd Tryz.prog 47 2 2:=⟨fdA Tryz.underlying47 rfl rfl ti_45.h rfl⟩
instance:CUn Tryz.prog 45 (.slice 44):=⟨Tryz.underlying45⟩
instance sh_45:CSh Tryz.prog 45 false 1:=⟨shp Tryz.underlying45 rfl ti_45.h⟩
instance Q6h:CFd Tryz.prog 47 3 3:=⟨fdA Tryz.underlying47 rfl rfl ti_44.h rfl⟩
instance Q6i:CFd Tryz.prog 47 4 4:=⟨fdA Tryz.underlying47 rfl rfl ti_44.h rfl⟩
instance Q6j:CFd Tryz.prog 53 1 2:=⟨fdA Tryz.underlying53 rfl rfl ti_32.h rfl⟩
instance Q6k:CFd Tryz.prog 53 0 0:=⟨fdA Tryz.underlying53 rfl rfl ti_51.h rfl⟩
instance ti_55:CTy Tryz.prog 55 17 296 (.agg #[.bool false,.slice none 0 0,.slice none 0 0,.bool false,.slice none 0 0,.slice none 0 0,.bool false,.slice none 0 0,.slice none 0 0,.bool false,.slice none 0 0,.slice none 0 0,.bool false,.slice none 0 0,.slice none 0 0,.int .i64 0,.int .i64 0]):=⟨tyI (by kernel_rfl)⟩
instance:CZy Tryz.prog 55 (K2 (⟨(⟨(⟨false,[]⟩:Qd),[]⟩:Qa),(⟨(⟨false,[]⟩:Qd),[]⟩:Qa),(⟨(⟨false,[]⟩:Qd),[]⟩:Qa),(⟨(⟨false,[]⟩:Qd),[]⟩:Qa),(⟨(⟨false,[]⟩:Qd),[]⟩:Qa),0,0⟩:Qw)):=⟨_,_,_,ti_55.h,Qfa⟩
instance pl_55:CPl Tryz.prog 55 [(0,3),(3,3),(6,3),(9,3),(12,3),(15,1),(16,1)]:=⟨⟨_,Tryz.underlying55,by kernel_rfl⟩⟩
instance sh_55:CSh Tryz.prog 55 true 17:=⟨shp Tryz.underlying55 rfl ti_55.h⟩
instance Q6l:CFd Tryz.prog 55 0 0:=⟨fdA Tryz.underlying55 rfl rfl ti_53.h rfl⟩
instance ti_49:CTy Tryz.prog 49 11 208 (.agg #[.slice none 0 0,.slice none 0 0,.int .i64 0,.int .i64 0,.string ⟨#[]⟩,.slice none 0 0,.slice none 0 0,.slice none 0 0,.slice none 0 0,.slice none 0 0,.int .i64 0]):=⟨tyI (by kernel_rfl)⟩
instance pl_49:CPl Tryz.prog 49 [(0,4),(4,5),(9,1),(10,1)]:=⟨⟨_,Tryz.underlying49,by kernel_rfl⟩⟩
instance pl_57:CPl Tryz.prog 57 [(0,11),(11,17),(28,3),(31,3),(34,3),(37,1)]:=⟨⟨_,Tryz.underlying57,by kernel_rfl⟩⟩
instance sh_57:CSh Tryz.prog 57 true 38:=⟨shp Tryz.underlying57 rfl ti_57.h⟩
instance ti_61:CTy Tryz.prog 61 5 104 (.agg #[.slice none 0 0,.bool false,.slice none 0 0,.slice none 0 0,.slice none 0 0]):=⟨tyI (by kernel_rfl)⟩
theorem Wm:Zr (Qj (⟨[],(⟨(⟨false,[]⟩:Qd),[]⟩:Qa),[]⟩:Qi)) [.slice none 0 0,.bool false,.slice none 0 0,.slice none 0 0,.slice none 0 0]:=Kb (Qh (c1:=[.slice none 0 0]) (Jz (k:=14)) (Qh (c1:=[.bool false,.slice none 0 0,.slice none 0 0]) Jm (Qh (c1:=[.slice none 0 0]) (Jz (k:=3)) (Js))))
instance:CZy Tryz.prog 61 (Qj (⟨[],(⟨(⟨false,[]⟩:Qd),[]⟩:Qa),[]⟩:Qi)):=⟨_,_,_,ti_61.h,Wm⟩
instance Q6m:CFd Tryz.prog 57 0 0:=⟨fdA Tryz.underlying57 rfl rfl ti_49.h rfl⟩
instance sh_49:CSh Tryz.prog 49 true 11:=⟨shp Tryz.underlying49 rfl ti_49.h⟩
instance Q6n:CFd Tryz.prog 49 0 0:=⟨fdA Tryz.underlying49 rfl rfl ti_43.h rfl⟩
instance Q6o:CFd Tryz.prog 43 2 2:=⟨fdA Tryz.underlying43 rfl rfl ti_3.h rfl⟩
instance Q6p:CFd Tryz.prog 43 3 3:=⟨fdA Tryz.underlying43 rfl rfl ti_3.h rfl⟩
instance Q6q:CFd Tryz.prog 43 1 1:=⟨fdA Tryz.underlying43 rfl rfl ti_23.h rfl⟩
instance ti_41:CTy Tryz.prog 41 1 24 (.slice none 0 0):=⟨tyI (by kernel_rfl)⟩
instance Q6r:CFd Tryz.prog 43 0 0:=⟨fdA Tryz.underlying43 rfl rfl ti_41.h rfl⟩
instance sh_41:CSh Tryz.prog 41 false 1:=⟨shp Tryz.underlying41 rfl ti_41.h⟩
instance Q7r:CSh Tryz.prog 164 true 6:=⟨shp Tryz.underlying164 rfl Qlf.h⟩
instance:CZy Tryz.prog 164 (Ko (⟨0,0,0,(⟨(⟨false,[]⟩:Qd),[]⟩:Qa)⟩:Q7)):=⟨_,_,_,Qlf.h,Qjb⟩
instance Q35:CFd Tryz.prog 164 0 0:=⟨fdA Tryz.underlying164 rfl rfl ti_3.h rfl⟩
instance Qnk:CTy Tryz.prog 350 3 24 (.agg #[.int .i64 0,.int .i64 0,.int .i64 0]):=⟨tyI (by kernel_rfl)⟩
theorem Qdp:Zr (Qg6 (⟨0,0,0⟩:J5)) [.int .i64 0,.int .i64 0,.int .i64 0]:=Kb (Qh (c1:=[.int .i64 0]) Kg (Qh (c1:=[.int .i64 0]) Kg (Qh (c1:=[.int .i64 0]) Kg (Js))))
instance:CZy Tryz.prog 350 (Qg6 (⟨0,0,0⟩:J5)):=⟨_,_,_,Qnk.h,Qdp⟩
instance Q36:CFd Tryz.prog 164 1 1:=⟨fdA Tryz.underlying164 rfl rfl ti_3.h rfl⟩
instance Q37:CFd Tryz.prog 164 2 2:=⟨fdA Tryz.underlying164 rfl rfl ti_3.h rfl⟩
instance Qu9:CPl Tryz.prog 350 [(0,1),(1,1),(2,1)]:=⟨⟨_,Tryz.underlying350,by kernel_rfl⟩⟩
instance Q7s:CSh Tryz.prog 350 true 3:=⟨shp Tryz.underlying350 rfl Qnk.h⟩
theorem Qva:EqF Tryz.prog 2 350 (λx:J5=>.agg [i64 x.op,i64 x.a,i64 x.b]) Zh:=
 Ql2 Tryz.underlying350 (by kernel_rfl) (Qbb rfl rfl sh_3.h (λ_=>rfl) (λ_=>rfl) (Qcn (λx:J5=>x.op) (Qef (n:=0) Tryz.underlying3)) (Qbb rfl rfl sh_3.h (λ_=>rfl) (λ_=>rfl) (Qcn (λx:J5=>x.a) (Qef (n:=0) Tryz.underlying3)) (Qbb rfl rfl sh_3.h (λ_=>rfl) (λ_=>rfl) (Qcn (λx:J5=>x.b) (Qef (n:=0) Tryz.underlying3)) (Qpo))))
theorem Qy5:Tryz.prog.eqGuardType Tryz.prog.depth 350=false:=by kernel_rfl
instance Q38:CFd Tryz.prog 164 3 3:=⟨fdA Tryz.underlying164 rfl rfl ti_53.h rfl⟩
instance Q6s:CFd Tryz.prog 49 1 4:=⟨fdA Tryz.underlying49 rfl rfl ti_47.h rfl⟩
instance Q6t:CFd Tryz.prog 49 2 9:=⟨fdA Tryz.underlying49 rfl rfl ti_44.h rfl⟩
instance Q6u:CFd Tryz.prog 57 1 11:=⟨fdA Tryz.underlying57 rfl rfl ti_55.h rfl⟩
instance Q6v:CFd Tryz.prog 55 1 3:=⟨fdA Tryz.underlying55 rfl rfl ti_53.h rfl⟩
instance Q6w:CFd Tryz.prog 55 2 6:=⟨fdA Tryz.underlying55 rfl rfl ti_53.h rfl⟩
instance Q6x:CFd Tryz.prog 55 3 9:=⟨fdA Tryz.underlying55 rfl rfl ti_53.h rfl⟩
instance Q6y:CFd Tryz.prog 55 4 12:=⟨fdA Tryz.underlying55 rfl rfl ti_53.h rfl⟩
instance Q6z:CFd Tryz.prog 55 5 15:=⟨fdA Tryz.underlying55 rfl rfl ti_3.h rfl⟩
instance Q60:CFd Tryz.prog 55 6 16:=⟨fdA Tryz.underlying55 rfl rfl ti_3.h rfl⟩
instance Q61:CFd Tryz.prog 57 5 37:=⟨fdA Tryz.underlying57 rfl rfl ti_44.h rfl⟩
instance Q62:CFd Tryz.prog 57 3 31:=⟨fdA Tryz.underlying57 rfl rfl ti_53.h rfl⟩
instance Q63:CFd Tryz.prog 57 2 28:=⟨fdA Tryz.underlying57 rfl rfl ti_53.h rfl⟩
instance Q64:CFd Tryz.prog 57 4 34:=⟨fdA Tryz.underlying57 rfl rfl ti_53.h rfl⟩
instance pl_61:CPl Tryz.prog 61 [(0,1),(1,3),(4,1)]:=⟨⟨_,Tryz.underlying61,by kernel_rfl⟩⟩
instance sh_61:CSh Tryz.prog 61 true 5:=⟨shp Tryz.underlying61 rfl ti_61.h⟩
instance Q28:CTy Tryz.prog 119 46 856 (.agg #[.slice none 0 0,.slice none 0 0,.int .i64 0,.int .i64 0,.string ⟨#[]⟩,.slice none 0 0,.slice none 0 0,.slice none 0 0,.slice none 0 0,.slice none 0 0,.int .i64 0,.bool false,.slice none 0 0,.slice none 0 0,.bool false,.slice none 0 0,.slice none 0 0,.bool false,.slice none 0 0,.slice none 0 0,.bool false,.slice none 0 0,.slice none 0 0,.bool false,.slice none 0 0,.slice none 0 0,.int .i64 0,.int .i64 0,.bool false,.slice none 0 0,.slice none 0 0,.bool false,.slice none 0 0,.slice none 0 0,.bool false,.slice none 0 0,.slice none 0 0,.slice none 0 0,.slice none 0 0,.bool false,.slice none 0 0,.slice none 0 0,.slice none 0 0,.bool false,.slice none 0 0,.slice none 0 0]):=⟨tyI (by kernel_rfl)⟩
instance Q29:CPl Tryz.prog 119 [(0,38),(38,5),(43,3)]:=⟨⟨_,Tryz.underlying119,by kernel_rfl⟩⟩
theorem Qql:Zr (Qrx (⟨(⟨(⟨(⟨[],[],0,0⟩:Q2),(⟨[],[],[],[],[]⟩:Qr),[],0⟩:Ql),(⟨(⟨(⟨false,[]⟩:Qd),[]⟩:Qa),(⟨(⟨false,[]⟩:Qd),[]⟩:Qa),(⟨(⟨false,[]⟩:Qd),[]⟩:Qa),(⟨(⟨false,[]⟩:Qd),[]⟩:Qa),(⟨(⟨false,[]⟩:Qd),[]⟩:Qa),0,0⟩:Qw),(⟨(⟨false,[]⟩:Qd),[]⟩:Qa),(⟨(⟨false,[]⟩:Qd),[]⟩:Qa),(⟨(⟨false,[]⟩:Qd),[]⟩:Qa),[]⟩:Qy),(⟨[],(⟨(⟨false,[]⟩:Qd),[]⟩:Qa),[]⟩:Qi),(⟨(⟨false,[]⟩:Qd),[]⟩:Qa)⟩:Qlc)) [.slice none 0 0,.slice none 0 0,.int .i64 0,.int .i64 0,.string ⟨#[]⟩,.slice none 0 0,.slice none 0 0,.slice none 0 0,.slice none 0 0,.slice none 0 0,.int .i64 0,.bool false,.slice none 0 0,.slice none 0 0,.bool false,.slice none 0 0,.slice none 0 0,.bool false,.slice none 0 0,.slice none 0 0,.bool false,.slice none 0 0,.slice none 0 0,.bool false,.slice none 0 0,.slice none 0 0,.int .i64 0,.int .i64 0,.bool false,.slice none 0 0,.slice none 0 0,.bool false,.slice none 0 0,.slice none 0 0,.bool false,.slice none 0 0,.slice none 0 0,.slice none 0 0,.slice none 0 0,.bool false,.slice none 0 0,.slice none 0 0,.slice none 0 0,.bool false,.slice none 0 0,.slice none 0 0]:=Kb (Qh (c1:=[.slice none 0 0,.slice none 0 0,.int .i64 0,.int .i64 0,.string ⟨#[]⟩,.slice none 0 0,.slice none 0 0,.slice none 0 0,.slice none 0 0,.slice none 0 0,.int .i64 0,.bool false,.slice none 0 0,.slice none 0 0,.bool false,.slice none 0 0,.slice none 0 0,.bool false,.slice none 0 0,.slice none 0 0,.bool false,.slice none 0 0,.slice none 0 0,.bool false,.slice none 0 0,.slice none 0 0,.int .i64 0,.int .i64 0,.bool false,.slice none 0 0,.slice none 0 0,.bool false,.slice none 0 0,.slice none 0 0,.bool false,.slice none 0 0,.slice none 0 0,.slice none 0 0]) Qc7 (Qh (c1:=[.slice none 0 0,.bool false,.slice none 0 0,.slice none 0 0,.slice none 0 0]) Wm (Qh (c1:=[.bool false,.slice none 0 0,.slice none 0 0]) Jm (Js))))
instance Q39:CFd Tryz.prog 119 1 38:=⟨fdA Tryz.underlying119 rfl rfl ti_61.h rfl⟩
instance Q65:CFd Tryz.prog 61 1 1:=⟨fdA Tryz.underlying61 rfl rfl ti_53.h rfl⟩
instance Q4a:CFd Tryz.prog 119 0 0:=⟨fdA Tryz.underlying119 rfl rfl ti_57.h rfl⟩
instance ti_59:CTy Tryz.prog 59 1 24 (.slice none 0 0):=⟨tyI (by kernel_rfl)⟩
instance Q66:CFd Tryz.prog 61 0 0:=⟨fdA Tryz.underlying61 rfl rfl ti_59.h rfl⟩
instance:CUn Tryz.prog 59 (.slice 82):=⟨Tryz.underlying59⟩
instance sh_59:CSh Tryz.prog 59 false 1:=⟨shp Tryz.underlying59 rfl ti_59.h⟩
instance Q4b:CFd Tryz.prog 119 2 43:=⟨fdA Tryz.underlying119 rfl rfl ti_53.h rfl⟩
instance Q67:CFd Tryz.prog 61 2 4:=⟨fdA Tryz.underlying61 rfl rfl ti_44.h rfl⟩
instance Qnl:CTy Tryz.prog 183 4 96 (.agg #[.slice none 0 0,.slice none 0 0,.slice none 0 0,.slice none 0 0]):=⟨tyI (by kernel_rfl)⟩
theorem Qjc:Zr (Qhi (⟨[],[],[],[]⟩:Yl)) [.slice none 0 0,.slice none 0 0,.slice none 0 0,.slice none 0 0]:=Kb (Qh (c1:=[.slice none 0 0]) (Jz (k:=1)) (Qh (c1:=[.slice none 0 0]) (Jz (k:=1)) (Qh (c1:=[.slice none 0 0]) (Jz (k:=3)) (Qh (c1:=[.slice none 0 0]) (Jz (k:=3)) (Js)))))
instance:CZy Tryz.prog 183 (Qhi (⟨[],[],[],[]⟩:Yl)):=⟨_,_,_,Qnl.h,Qjc⟩
instance Qy6:CPl Tryz.prog 183 [(0,1),(1,1),(2,1),(3,1)]:=⟨⟨_,Tryz.underlying183,by kernel_rfl⟩⟩
instance Q7t:CSh Tryz.prog 183 true 4:=⟨shp Tryz.underlying183 rfl Qnl.h⟩
instance Q68:CFd Tryz.prog 49 3 10:=⟨fdA Tryz.underlying49 rfl rfl ti_3.h rfl⟩
instance Q3a:CTy Tryz.prog 298 3 24 (.agg #[.int .i64 0,.int .i64 0,.int .i64 0]):=⟨tyI (by kernel_rfl)⟩
instance Q3b:CPl Tryz.prog 298 [(0,2),(2,1)]:=⟨⟨_,Tryz.underlying298,by kernel_rfl⟩⟩
theorem Qry:Zr (Qh6 (⟨0,0⟩:X4)) [.int .i64 0,.int .i64 0]:=Kb (Qh (c1:=[.int .i64 0]) Kg (Qh (c1:=[.int .i64 0]) Kg (Js)))
theorem Qrz:Zr (Qs (⟨(⟨0,0⟩:X4),0⟩:Qp)) [.int .i64 0,.int .i64 0,.int .i64 0]:=Kb (Qh (c1:=[.int .i64 0,.int .i64 0]) Qry (Qh (c1:=[.int .i64 0]) Kg (Js)))
instance Q3c:CTy Tryz.prog 247 23 448 (.agg #[.slice none 0 0,.slice none 0 0,.int .i64 0,.int .i64 0,.string ⟨#[]⟩,.slice none 0 0,.slice none 0 0,.slice none 0 0,.slice none 0 0,.slice none 0 0,.int .i64 0,.bool false,.slice none 0 0,.slice none 0 0,.bool false,.slice none 0 0,.slice none 0 0,.slice none 0 0,.pointer none,.slice none 0 0,.slice none 0 0,.slice none 0 0,.slice none 0 0]):=⟨tyI (by kernel_rfl)⟩
instance Q3d:CPl Tryz.prog 247 [(0,11),(11,3),(14,3),(17,1),(18,1),(19,4)]:=⟨⟨_,Tryz.underlying247,by kernel_rfl⟩⟩
instance Q4c:CFd Tryz.prog 247 0 0:=⟨fdA Tryz.underlying247 rfl rfl ti_49.h rfl⟩
instance Q4d:CFd Tryz.prog 247 3 17:=⟨fdA Tryz.underlying247 rfl rfl ti_44.h rfl⟩
instance Q4e:CFd Tryz.prog 247 5 19:=⟨fdA Tryz.underlying247 rfl rfl Qnl.h rfl⟩
instance Q4f:CFd Tryz.prog 183 1 1:=⟨fdA Tryz.underlying183 rfl rfl ti_45.h rfl⟩
instance Q4g:CFd Tryz.prog 247 2 14:=⟨fdA Tryz.underlying247 rfl rfl ti_53.h rfl⟩
instance Qvb:CTy Tryz.prog 244 1 8 (.pointer none):=⟨tyI (by kernel_rfl)⟩
instance Q4h:CFd Tryz.prog 247 4 18:=⟨fdA Tryz.underlying247 rfl rfl Qvb.h rfl⟩
instance Q7u:CSh Tryz.prog 244 false 1:=⟨shp Tryz.underlying244 rfl Qvb.h⟩
instance Q3e:CTy Tryz.prog 296 2 16 (.agg #[.int .i64 0,.int .i64 0]):=⟨tyI (by kernel_rfl)⟩
instance Q4i:CFd Tryz.prog 298 0 0:=⟨fdA Tryz.underlying298 rfl rfl Q3e.h rfl⟩
instance Q4j:CFd Tryz.prog 296 0 0:=⟨fdA Tryz.underlying296 rfl rfl ti_3.h rfl⟩
instance Q4k:CFd Tryz.prog 296 1 1:=⟨fdA Tryz.underlying296 rfl rfl ti_3.h rfl⟩
instance Q4l:CFd Tryz.prog 298 1 2:=⟨fdA Tryz.underlying298 rfl rfl ti_3.h rfl⟩
instance Q4m:CFd Tryz.prog 247 1 11:=⟨fdA Tryz.underlying247 rfl rfl ti_53.h rfl⟩
instance Qqm:CTy Tryz.prog 335 5 104 (.agg #[.bool false,.slice none 0 0,.slice none 0 0,.slice none 0 0,.slice none 0 0]):=⟨tyI (by kernel_rfl)⟩
theorem Qh7:Zr (Qat (⟨(⟨(⟨false,[]⟩:Qd),[]⟩:Qa),[],[]⟩:Xb)) [.bool false,.slice none 0 0,.slice none 0 0,.slice none 0 0,.slice none 0 0]:=Kb (Qh (c1:=[.bool false,.slice none 0 0,.slice none 0 0]) Jm (Qh (c1:=[.slice none 0 0]) (Jz (k:=3)) (Qh (c1:=[.slice none 0 0]) (Jz (k:=3)) (Js))))
instance:CZy Tryz.prog 335 (Qat (⟨(⟨(⟨false,[]⟩:Qd),[]⟩:Qa),[],[]⟩:Xb)):=⟨_,_,_,Qqm.h,Qh7⟩
instance Qy7:CPl Tryz.prog 335 [(0,3),(3,1),(4,1)]:=⟨⟨_,Tryz.underlying335,by kernel_rfl⟩⟩
instance Q7v:CSh Tryz.prog 335 true 5:=⟨shp Tryz.underlying335 rfl Qqm.h⟩
instance Q4n:CFd Tryz.prog 335 0 0:=⟨fdA Tryz.underlying335 rfl rfl ti_53.h rfl⟩
instance Q4o:CFd Tryz.prog 335 1 3:=⟨fdA Tryz.underlying335 rfl rfl ti_44.h rfl⟩
instance Q4p:CFd Tryz.prog 335 2 4:=⟨fdA Tryz.underlying335 rfl rfl ti_44.h rfl⟩
instance Qvc:CTy Tryz.prog 393 1 8 (.agg #[.pointer none]):=⟨tyI (by kernel_rfl)⟩
instance Q3f:CPl Tryz.prog 393 [(0,1)]:=⟨⟨_,Tryz.underlying393,by kernel_rfl⟩⟩
instance Qvd:CTy Tryz.prog 395 1 8 (.agg #[.pointer none]):=⟨tyI (by kernel_rfl)⟩
instance Q3g:CPl Tryz.prog 395 [(0,1)]:=⟨⟨_,Tryz.underlying395,by kernel_rfl⟩⟩
instance Q7w:CSh Tryz.prog 395 true 1:=⟨shp Tryz.underlying395 rfl Qvd.h⟩
instance Qy8:CTy Tryz.prog 397 5 104 (.agg #[.bool false,.slice none 0 0,.slice none 0 0,.slice none 0 0,.slice none 0 0]):=⟨tyI (by kernel_rfl)⟩
instance Q3h:CPl Tryz.prog 397 [(0,3),(3,1),(4,1)]:=⟨⟨_,Tryz.underlying397,by kernel_rfl⟩⟩
theorem Qjd:Zr (Wr (⟨(⟨(⟨false,[]⟩:Qd),[]⟩:Qa),[],[]⟩:Wq)) [.bool false,.slice none 0 0,.slice none 0 0,.slice none 0 0,.slice none 0 0]:=Kb (Qh (c1:=[.bool false,.slice none 0 0,.slice none 0 0]) Jm (Qh (c1:=[.slice none 0 0]) (Jz (k:=3)) (Qh (c1:=[.slice none 0 0]) (Jz (k:=3)) (Js))))
instance Q4q:CFd Tryz.prog 397 1 3:=⟨fdA Tryz.underlying397 rfl rfl ti_44.h rfl⟩
instance Q4r:CFd Tryz.prog 397 2 4:=⟨fdA Tryz.underlying397 rfl rfl ti_44.h rfl⟩
instance Q7x:CSh Tryz.prog 397 true 5:=⟨shp Tryz.underlying397 rfl Qy8.h⟩
instance Q4s:CFd Tryz.prog 395 0 0:=⟨fdA Tryz.underlying395 rfl rfl Qvc.h rfl⟩
instance Qht:CSh Tryz.prog 393 true 1:=⟨shp Tryz.underlying393 rfl Qvc.h⟩
theorem Qxu:MethF Tryz.prog 393 "Neg" 372:=⟨by kernel_rfl,_,Tryz.underlying393⟩
theorem Qxv:MethF Tryz.prog 393 "Pow" 374:=⟨by kernel_rfl,_,Tryz.underlying393⟩
theorem Qxw:MethF Tryz.prog 393 "Add" 369:=⟨by kernel_rfl,_,Tryz.underlying393⟩
theorem Qxx:MethF Tryz.prog 393 "Sub" 376:=⟨by kernel_rfl,_,Tryz.underlying393⟩
theorem Qxy:MethF Tryz.prog 393 "Mul" 371:=⟨by kernel_rfl,_,Tryz.underlying393⟩
theorem Qxz:MethF Tryz.prog 393 "Quo" 375:=⟨by kernel_rfl,_,Tryz.underlying393⟩
theorem Qy9:MethF Tryz.prog 393 "Of" 373:=⟨by kernel_rfl,_,Tryz.underlying393⟩
instance Q4t:CFd Tryz.prog 397 0 0:=⟨fdA Tryz.underlying397 rfl rfl ti_53.h rfl⟩
theorem Qwj:MethF Tryz.prog 393 "Fits" 370:=⟨by kernel_rfl,_,Tryz.underlying393⟩
instance Q4u:CFd Tryz.prog 393 0 0:=⟨fdA Tryz.underlying393 rfl rfl Qvb.h rfl⟩
instance Q69:CFd Tryz.prog 63 2 2:=⟨fdA Tryz.underlying63 rfl rfl ti_3.h rfl⟩
instance Q4v:CFd Tryz.prog 183 0 0:=⟨fdA Tryz.underlying183 rfl rfl ti_45.h rfl⟩
instance Q4w:CFd Tryz.prog 183 2 2:=⟨fdA Tryz.underlying183 rfl rfl ti_44.h rfl⟩
instance Q4x:CFd Tryz.prog 183 3 3:=⟨fdA Tryz.underlying183 rfl rfl ti_44.h rfl⟩
instance Q7a:CFd Tryz.prog 63 1 1:=⟨fdA Tryz.underlying63 rfl rfl ti_3.h rfl⟩
instance ti_82:CTy Tryz.prog 82 14 256 (.agg #[.bool false,.slice none 0 0,.slice none 0 0,.bool false,.slice none 0 0,.slice none 0 0,.bool false,.slice none 0 0,.slice none 0 0,.bool false,.slice none 0 0,.slice none 0 0,.slice none 0 0,.bool false]):=⟨tyI (by kernel_rfl)⟩
instance pl_82:CPl Tryz.prog 82 [(0,3),(3,3),(6,3),(9,3),(12,1),(13,1)]:=⟨⟨_,Tryz.underlying82,by kernel_rfl⟩⟩
theorem Qdk:Zr (Qu (⟨(⟨(⟨false,[]⟩:Qd),[]⟩:Qa),(⟨(⟨false,[]⟩:Qd),[]⟩:Qa),(⟨(⟨false,[]⟩:Qd),[]⟩:Qa),(⟨(⟨false,[]⟩:Qd),[]⟩:Qa),[],false⟩:Qm)) [.bool false,.slice none 0 0,.slice none 0 0,.bool false,.slice none 0 0,.slice none 0 0,.bool false,.slice none 0 0,.slice none 0 0,.bool false,.slice none 0 0,.slice none 0 0,.slice none 0 0,.bool false]:=Kb (Qh (c1:=[.bool false,.slice none 0 0,.slice none 0 0]) Jm (Qh (c1:=[.bool false,.slice none 0 0,.slice none 0 0]) Jm (Qh (c1:=[.bool false,.slice none 0 0,.slice none 0 0]) Jm (Qh (c1:=[.bool false,.slice none 0 0,.slice none 0 0]) Jm (Qh (c1:=[.slice none 0 0]) (Jz (k:=3)) (Qh (c1:=[.bool false]) zr_bl (Js)))))))
instance:CZy Tryz.prog 82 (Qu (⟨(⟨(⟨false,[]⟩:Qd),[]⟩:Qa),(⟨(⟨false,[]⟩:Qd),[]⟩:Qa),(⟨(⟨false,[]⟩:Qd),[]⟩:Qa),(⟨(⟨false,[]⟩:Qd),[]⟩:Qa),[],false⟩:Qm)):=⟨_,_,_,ti_82.h,Qdk⟩
instance sh_82:CSh Tryz.prog 82 true 14:=⟨shp Tryz.underlying82 rfl ti_82.h⟩
instance Q7b:CFd Tryz.prog 82 5 13:=⟨fdA Tryz.underlying82 rfl rfl ti_4.h rfl⟩
theorem Q1u:∃ fs F,Tryz.prog.underlying 51=some (.struct fs)∧fs[1]?=some F∧F.offset=1∧Shp Tryz.prog F.type false 1:=⟨_,_,Tryz.underlying51,rfl,rfl,sh_32.h⟩
instance Q7c:CFd Tryz.prog 82 3 9:=⟨fdA Tryz.underlying82 rfl rfl ti_53.h rfl⟩
instance:CZy Tryz.prog 49 (Q8 (⟨(⟨[],[],0,0⟩:Q2),(⟨[],[],[],[],[]⟩:Qr),[],0⟩:Ql)):=⟨_,_,_,ti_49.h,Qbj⟩
instance Q7d:CFd Tryz.prog 25 2 2:=⟨fdA Tryz.underlying25 rfl rfl ti_3.h rfl⟩
instance Q7e:CFd Tryz.prog 25 3 3:=⟨fdA Tryz.underlying25 rfl rfl ti_3.h rfl⟩
instance Q7y:CSh Tryz.prog 232 true 6:=⟨shp Tryz.underlying232 rfl Qy1.h⟩
theorem Ji:Zr (Qf (⟨false,[],[]⟩:Qe)) [.bool false,.slice none 0 0,.slice none 0 0]:=Kb (Qh (c1:=[.bool false]) zr_bl (Qh (c1:=[.slice none 0 0]) (Jz (k:=1)) (Qh (c1:=[.slice none 0 0]) (Jz (k:=1)) (Js))))
theorem Qjz:Zr (W4 (⟨0,0,0,(⟨false,[],[]⟩:Qe)⟩:Jf)) [.int .i64 0,.int .i64 0,.int .i64 0,.bool false,.slice none 0 0,.slice none 0 0]:=Kb (Qh (c1:=[.int .i64 0]) Kg (Qh (c1:=[.int .i64 0]) Kg (Qh (c1:=[.int .i64 0]) Kg (Qh (c1:=[.bool false,.slice none 0 0,.slice none 0 0]) Ji (Js)))))
instance:CZy Tryz.prog 232 (W4 (⟨0,0,0,(⟨false,[],[]⟩:Qe)⟩:Jf)):=⟨_,_,_,Qy1.h,Qjz⟩
instance Q4y:CFd Tryz.prog 232 0 0:=⟨fdA Tryz.underlying232 rfl rfl ti_3.h rfl⟩
instance Q4z:CFd Tryz.prog 232 1 1:=⟨fdA Tryz.underlying232 rfl rfl ti_3.h rfl⟩
instance Q40:CFd Tryz.prog 232 2 2:=⟨fdA Tryz.underlying232 rfl rfl ti_3.h rfl⟩
instance Q7f:CFd Tryz.prog 34 0 0:=⟨fdA Tryz.underlying34 rfl rfl ti_4.h rfl⟩
instance Q7g:CFd Tryz.prog 36 5 15:=⟨fdA Tryz.underlying36 rfl rfl ti_3.h rfl⟩
theorem Qje:Zr (Vr (⟨(⟨false,[],[]⟩:Qe),(⟨false,[],[]⟩:Qe),(⟨false,[],[]⟩:Qe),(⟨false,[],[]⟩:Qe),(⟨false,[],[]⟩:Qe),0,0⟩:Jh)) [.bool false,.slice none 0 0,.slice none 0 0,.bool false,.slice none 0 0,.slice none 0 0,.bool false,.slice none 0 0,.slice none 0 0,.bool false,.slice none 0 0,.slice none 0 0,.bool false,.slice none 0 0,.slice none 0 0,.int .i64 0,.int .i64 0]:=Kb (Qh (c1:=[.bool false,.slice none 0 0,.slice none 0 0]) Ji (Qh (c1:=[.bool false,.slice none 0 0,.slice none 0 0]) Ji (Qh (c1:=[.bool false,.slice none 0 0,.slice none 0 0]) Ji (Qh (c1:=[.bool false,.slice none 0 0,.slice none 0 0]) Ji (Qh (c1:=[.bool false,.slice none 0 0,.slice none 0 0]) Ji (Qh (c1:=[.int .i64 0]) Kg (Qh (c1:=[.int .i64 0]) Kg (Js))))))))
theorem Qio:Zr (Kt (⟨[],[],[],[],[]⟩:Ja)) [.string ⟨#[]⟩,.slice none 0 0,.slice none 0 0,.slice none 0 0,.slice none 0 0]:=Kb (Qh (c1:=[.string ⟨#[]⟩]) Qc0 (Qh (c1:=[.slice none 0 0]) (Jz (k:=3)) (Qh (c1:=[.slice none 0 0]) (Jz (k:=1)) (Qh (c1:=[.slice none 0 0]) (Jz (k:=3)) (Qh (c1:=[.slice none 0 0]) (Jz (k:=3)) (Js))))))
theorem Qj0:Zr (Kd (⟨[],[],0,0⟩:Je)) [.slice none 0 0,.slice none 0 0,.int .i64 0,.int .i64 0]:=Kb (Qh (c1:=[.slice none 0 0]) (Jz (k:=6)) (Qh (c1:=[.slice none 0 0]) (Jz (k:=1)) (Qh (c1:=[.int .i64 0]) Kg (Qh (c1:=[.int .i64 0]) Kg (Js)))))
theorem Qh8:Zr (Vd (⟨(⟨[],[],0,0⟩:Je),(⟨[],[],[],[],[]⟩:Ja),[],0⟩:Q4)) [.slice none 0 0,.slice none 0 0,.int .i64 0,.int .i64 0,.string ⟨#[]⟩,.slice none 0 0,.slice none 0 0,.slice none 0 0,.slice none 0 0,.slice none 0 0,.int .i64 0]:=Kb (Qh (c1:=[.slice none 0 0,.slice none 0 0,.int .i64 0,.int .i64 0]) Qj0 (Qh (c1:=[.string ⟨#[]⟩,.slice none 0 0,.slice none 0 0,.slice none 0 0,.slice none 0 0]) Qio (Qh (c1:=[.slice none 0 0]) (Jz (k:=3)) (Qh (c1:=[.int .i64 0]) Kg (Js)))))
theorem Qj1:Zr (J1 (⟨(⟨(⟨[],[],0,0⟩:Je),(⟨[],[],[],[],[]⟩:Ja),[],0⟩:Q4),(⟨(⟨false,[],[]⟩:Qe),(⟨false,[],[]⟩:Qe),(⟨false,[],[]⟩:Qe),(⟨false,[],[]⟩:Qe),(⟨false,[],[]⟩:Qe),0,0⟩:Jh),(⟨false,[],[]⟩:Qe),(⟨false,[],[]⟩:Qe),(⟨false,[],[]⟩:Qe),[]⟩:Q3)) [.slice none 0 0,.slice none 0 0,.int .i64 0,.int .i64 0,.string ⟨#[]⟩,.slice none 0 0,.slice none 0 0,.slice none 0 0,.slice none 0 0,.slice none 0 0,.int .i64 0,.bool false,.slice none 0 0,.slice none 0 0,.bool false,.slice none 0 0,.slice none 0 0,.bool false,.slice none 0 0,.slice none 0 0,.bool false,.slice none 0 0,.slice none 0 0,.bool false,.slice none 0 0,.slice none 0 0,.int .i64 0,.int .i64 0,.bool false,.slice none 0 0,.slice none 0 0,.bool false,.slice none 0 0,.slice none 0 0,.bool false,.slice none 0 0,.slice none 0 0,.slice none 0 0]:=Kb (Qh (c1:=[.slice none 0 0,.slice none 0 0,.int .i64 0,.int .i64 0,.string ⟨#[]⟩,.slice none 0 0,.slice none 0 0,.slice none 0 0,.slice none 0 0,.slice none 0 0,.int .i64 0]) Qh8 (Qh (c1:=[.bool false,.slice none 0 0,.slice none 0 0,.bool false,.slice none 0 0,.slice none 0 0,.bool false,.slice none 0 0,.slice none 0 0,.bool false,.slice none 0 0,.slice none 0 0,.bool false,.slice none 0 0,.slice none 0 0,.int .i64 0,.int .i64 0]) Qje (Qh (c1:=[.bool false,.slice none 0 0,.slice none 0 0]) Ji (Qh (c1:=[.bool false,.slice none 0 0,.slice none 0 0]) Ji (Qh (c1:=[.bool false,.slice none 0 0,.slice none 0 0]) Ji (Qh (c1:=[.slice none 0 0]) (Jz (k:=3)) (Js)))))))
instance:CZy Tryz.prog 38 (J1 (⟨(⟨(⟨[],[],0,0⟩:Je),(⟨[],[],[],[],[]⟩:Ja),[],0⟩:Q4),(⟨(⟨false,[],[]⟩:Qe),(⟨false,[],[]⟩:Qe),(⟨false,[],[]⟩:Qe),(⟨false,[],[]⟩:Qe),(⟨false,[],[]⟩:Qe),0,0⟩:Jh),(⟨false,[],[]⟩:Qe),(⟨false,[],[]⟩:Qe),(⟨false,[],[]⟩:Qe),[]⟩:Q3)):=⟨_,_,_,ti_38.h,Qj1⟩
instance:CZy Tryz.prog 34 (Qf (⟨false,[],[]⟩:Qe)):=⟨_,_,_,ti_34.h,Ji⟩
instance pl_34:CPl Tryz.prog 34 [(0,1),(1,1),(2,1)]:=⟨⟨_,Tryz.underlying34,by kernel_rfl⟩⟩
instance Qza:CTy Tryz.prog 258 3 32 (.agg #[.int .i64 0,.string ⟨#[]⟩,.int .i64 0]):=⟨tyI (by kernel_rfl)⟩
instance Q7z:CPl Tryz.prog 258 [(0,1),(1,1),(2,1)]:=⟨⟨_,Tryz.underlying258,by kernel_rfl⟩⟩
theorem Qj2:Zr (Qe4 (⟨0,[],0⟩:Zl)) [.int .i64 0,.string ⟨#[]⟩,.int .i64 0]:=Kb (Qh (c1:=[.int .i64 0]) Kg (Qh (c1:=[.string ⟨#[]⟩]) Qc0 (Qh (c1:=[.int .i64 0]) Kg (Js))))
instance Q41:CFd Tryz.prog 258 1 1:=⟨fdA Tryz.underlying258 rfl rfl ti_9.h rfl⟩
instance:CUn Tryz.prog 307 (.slice 258):=⟨Tryz.underlying307⟩
instance Q42:CFd Tryz.prog 258 2 2:=⟨fdA Tryz.underlying258 rfl rfl ti_3.h rfl⟩
instance Q43:CFd Tryz.prog 258 0 0:=⟨fdA Tryz.underlying258 rfl rfl ti_3.h rfl⟩
instance Q70:CSh Tryz.prog 258 true 3:=⟨shp Tryz.underlying258 rfl Qza.h⟩
instance:CZy Tryz.prog 258 (Qe4 (⟨0,[],0⟩:Zl)):=⟨_,_,_,Qza.h,Qj2⟩
instance Qzb:CTy Tryz.prog 216 2 32 (.agg #[.bool false,.slice none 0 0]):=⟨tyI (by kernel_rfl)⟩
instance Q71:CPl Tryz.prog 216 [(0,1),(1,1)]:=⟨⟨_,Tryz.underlying216,by kernel_rfl⟩⟩
theorem Qjf:Zr (Qep (⟨false,[]⟩:Qa1)) [.bool false,.slice none 0 0]:=Kb (Qh (c1:=[.bool false]) zr_bl (Qh (c1:=[.slice none 0 0]) (Jz (k:=1)) (Js)))
instance:CZy Tryz.prog 216 (Qep (⟨false,[]⟩:Qa1)):=⟨_,_,_,Qzb.h,Qjf⟩
instance Q72:CSh Tryz.prog 216 true 2:=⟨shp Tryz.underlying216 rfl Qzb.h⟩
instance Q44:CFd Tryz.prog 216 0 0:=⟨fdA Tryz.underlying216 rfl rfl ti_4.h rfl⟩
instance Q45:CFd Tryz.prog 216 1 1:=⟨fdA Tryz.underlying216 rfl rfl ti_32.h rfl⟩
instance ti_70:CTy Tryz.prog 70 5 104 (.agg #[.slice none 0 0,.bool false,.slice none 0 0,.slice none 0 0,.slice none 0 0]):=⟨tyI (by kernel_rfl)⟩
instance pl_70:CPl Tryz.prog 70 [(0,1),(1,3),(4,1)]:=⟨⟨_,Tryz.underlying70,by kernel_rfl⟩⟩
theorem Qh9:Zr (J8 (⟨[],(⟨false,[],[]⟩:Qe),[]⟩:Jq)) [.slice none 0 0,.bool false,.slice none 0 0,.slice none 0 0,.slice none 0 0]:=Kb (Qh (c1:=[.slice none 0 0]) (Jz (k:=14)) (Qh (c1:=[.bool false,.slice none 0 0,.slice none 0 0]) Ji (Qh (c1:=[.slice none 0 0]) (Jz (k:=3)) (Js))))
instance:CZy Tryz.prog 70 (J8 (⟨[],(⟨false,[],[]⟩:Qe),[]⟩:Jq)):=⟨_,_,_,ti_70.h,Qh9⟩
instance sh_70:CSh Tryz.prog 70 true 5:=⟨shp Tryz.underlying70 rfl ti_70.h⟩
instance ti_68:CTy Tryz.prog 68 1 24 (.slice none 0 0):=⟨tyI (by kernel_rfl)⟩
instance Q7h:CFd Tryz.prog 70 0 0:=⟨fdA Tryz.underlying70 rfl rfl ti_68.h rfl⟩
instance:CUn Tryz.prog 68 (.slice 143):=⟨Tryz.underlying68⟩
instance sh_68:CSh Tryz.prog 68 false 1:=⟨shp Tryz.underlying68 rfl ti_68.h⟩
instance Q7i:CFd Tryz.prog 82 0 0:=⟨fdA Tryz.underlying82 rfl rfl ti_53.h rfl⟩
instance Q7j:CFd Tryz.prog 82 1 3:=⟨fdA Tryz.underlying82 rfl rfl ti_53.h rfl⟩
instance Q7k:CFd Tryz.prog 82 2 6:=⟨fdA Tryz.underlying82 rfl rfl ti_53.h rfl⟩
instance Q7l:CFd Tryz.prog 82 4 12:=⟨fdA Tryz.underlying82 rfl rfl ti_44.h rfl⟩
instance Qzc:CTy Tryz.prog 143 14 256 (.agg #[.bool false,.slice none 0 0,.slice none 0 0,.bool false,.slice none 0 0,.slice none 0 0,.bool false,.slice none 0 0,.slice none 0 0,.bool false,.slice none 0 0,.slice none 0 0,.slice none 0 0,.bool false]):=⟨tyI (by kernel_rfl)⟩
instance Q73:CPl Tryz.prog 143 [(0,3),(3,3),(6,3),(9,3),(12,1),(13,1)]:=⟨⟨_,Tryz.underlying143,by kernel_rfl⟩⟩
theorem Qkw:Zr (Yi (⟨(⟨false,[],[]⟩:Qe),(⟨false,[],[]⟩:Qe),(⟨false,[],[]⟩:Qe),(⟨false,[],[]⟩:Qe),[],false⟩:Jw)) [.bool false,.slice none 0 0,.slice none 0 0,.bool false,.slice none 0 0,.slice none 0 0,.bool false,.slice none 0 0,.slice none 0 0,.bool false,.slice none 0 0,.slice none 0 0,.slice none 0 0,.bool false]:=Kb (Qh (c1:=[.bool false,.slice none 0 0,.slice none 0 0]) Ji (Qh (c1:=[.bool false,.slice none 0 0,.slice none 0 0]) Ji (Qh (c1:=[.bool false,.slice none 0 0,.slice none 0 0]) Ji (Qh (c1:=[.bool false,.slice none 0 0,.slice none 0 0]) Ji (Qh (c1:=[.slice none 0 0]) (Jz (k:=3)) (Qh (c1:=[.bool false]) zr_bl (Js)))))))
instance Q7m:CFd Tryz.prog 70 1 1:=⟨fdA Tryz.underlying70 rfl rfl ti_34.h rfl⟩
instance Q7n:CFd Tryz.prog 70 2 4:=⟨fdA Tryz.underlying70 rfl rfl ti_26.h rfl⟩
instance Q74:CSh Tryz.prog 143 true 14:=⟨shp Tryz.underlying143 rfl Qzc.h⟩
instance:CZy Tryz.prog 143 (Yi (⟨(⟨false,[],[]⟩:Qe),(⟨false,[],[]⟩:Qe),(⟨false,[],[]⟩:Qe),(⟨false,[],[]⟩:Qe),[],false⟩:Jw)):=⟨_,_,_,Qzc.h,Qkw⟩
instance Q46:CFd Tryz.prog 143 5 13:=⟨fdA Tryz.underlying143 rfl rfl ti_4.h rfl⟩
instance Q47:CFd Tryz.prog 143 0 0:=⟨fdA Tryz.underlying143 rfl rfl ti_34.h rfl⟩
instance Q48:CFd Tryz.prog 143 1 3:=⟨fdA Tryz.underlying143 rfl rfl ti_34.h rfl⟩
instance Q49:CFd Tryz.prog 143 2 6:=⟨fdA Tryz.underlying143 rfl rfl ti_34.h rfl⟩
instance Q5a:CFd Tryz.prog 143 3 9:=⟨fdA Tryz.underlying143 rfl rfl ti_34.h rfl⟩
instance Q5b:CFd Tryz.prog 143 4 12:=⟨fdA Tryz.underlying143 rfl rfl ti_26.h rfl⟩
instance ti_72:CTy Tryz.prog 72 4 32 (.agg #[.int .i64 0,.int .i64 0,.int .i64 0,.int .i64 0]):=⟨tyI (by kernel_rfl)⟩
theorem Qzd:Zr (Qu6 (⟨0,0,0,0⟩:Qpq)) [.int .i64 0,.int .i64 0,.int .i64 0,.int .i64 0]:=Kb (Qh (c1:=[.int .i64 0]) Kg (Qh (c1:=[.int .i64 0]) Kg (Qh (c1:=[.int .i64 0]) Kg (Qh (c1:=[.int .i64 0]) Kg (Js)))))
instance:CZy Tryz.prog 72 (Qu6 (⟨0,0,0,0⟩:Qpq)):=⟨_,_,_,ti_72.h,Qzd⟩
instance:CUn Tryz.prog 72 (.array 4 3):=⟨Tryz.underlying72⟩
instance sh_72:CSh Tryz.prog 72 true 4:=⟨shp Tryz.underlying72 rfl ti_72.h⟩
instance Qze:CTy Tryz.prog 137 4 96 (.agg #[.slice none 0 0,.slice none 0 0,.slice none 0 0,.slice none 0 0]):=⟨tyI (by kernel_rfl)⟩
theorem Qj3:Zr (Qe5 (⟨[],[],[],[]⟩:Qbq)) [.slice none 0 0,.slice none 0 0,.slice none 0 0,.slice none 0 0]:=Kb (Qh (c1:=[.slice none 0 0]) (Jz (k:=1)) (Qh (c1:=[.slice none 0 0]) (Jz (k:=1)) (Qh (c1:=[.slice none 0 0]) (Jz (k:=3)) (Qh (c1:=[.slice none 0 0]) (Jz (k:=3)) (Js)))))
instance:CZy Tryz.prog 137 (Qe5 (⟨[],[],[],[]⟩:Qbq)):=⟨_,_,_,Qze.h,Qj3⟩
instance Qzf:CTy Tryz.prog 138 3 24 (.agg #[.int .i64 0,.int .i64 0,.int .i64 0]):=⟨tyI (by kernel_rfl)⟩
theorem Qzg:Zr (Qu7 (⟨0,0,0⟩:Qpr)) [.int .i64 0,.int .i64 0,.int .i64 0]:=Kb (Qh (c1:=[.int .i64 0]) Kg (Qh (c1:=[.int .i64 0]) Kg (Qh (c1:=[.int .i64 0]) Kg (Js))))
instance:CZy Tryz.prog 138 (Qu7 (⟨0,0,0⟩:Qpr)):=⟨_,_,_,Qzf.h,Qzg⟩
instance Q75:CPl Tryz.prog 137 [(0,1),(1,1),(2,1),(3,1)]:=⟨⟨_,Tryz.underlying137,by kernel_rfl⟩⟩
instance Q76:CSh Tryz.prog 137 true 4:=⟨shp Tryz.underlying137 rfl Qze.h⟩
instance Q5c:CFd Tryz.prog 137 1 1:=⟨fdA Tryz.underlying137 rfl rfl ti_27.h rfl⟩
instance:CUn Tryz.prog 138 (.array 3 3):=⟨Tryz.underlying138⟩
instance Q77:CSh Tryz.prog 138 true 3:=⟨shp Tryz.underlying138 rfl Qzf.h⟩
instance Qzh:CTy Tryz.prog 210 5 104 (.agg #[.bool false,.slice none 0 0,.slice none 0 0,.slice none 0 0,.slice none 0 0]):=⟨tyI (by kernel_rfl)⟩
theorem Qjg:Zr (Qer (⟨(⟨false,[],[]⟩:Qe),[],[]⟩:Qa2)) [.bool false,.slice none 0 0,.slice none 0 0,.slice none 0 0,.slice none 0 0]:=Kb (Qh (c1:=[.bool false,.slice none 0 0,.slice none 0 0]) Ji (Qh (c1:=[.slice none 0 0]) (Jz (k:=3)) (Qh (c1:=[.slice none 0 0]) (Jz (k:=3)) (Js))))
instance:CZy Tryz.prog 210 (Qer (⟨(⟨false,[],[]⟩:Qe),[],[]⟩:Qa2)):=⟨_,_,_,Qzh.h,Qjg⟩
instance Q78:CPl Tryz.prog 210 [(0,3),(3,1),(4,1)]:=⟨⟨_,Tryz.underlying210,by kernel_rfl⟩⟩
instance Q79:CSh Tryz.prog 210 true 5:=⟨shp Tryz.underlying210 rfl Qzh.h⟩
instance Q5d:CFd Tryz.prog 210 0 0:=⟨fdA Tryz.underlying210 rfl rfl ti_34.h rfl⟩
instance Q5e:CFd Tryz.prog 210 1 3:=⟨fdA Tryz.underlying210 rfl rfl ti_26.h rfl⟩
instance Q5f:CFd Tryz.prog 210 2 4:=⟨fdA Tryz.underlying210 rfl rfl ti_26.h rfl⟩
instance Q5g:CFd Tryz.prog 137 0 0:=⟨fdA Tryz.underlying137 rfl rfl ti_27.h rfl⟩
instance Q5h:CFd Tryz.prog 137 2 2:=⟨fdA Tryz.underlying137 rfl rfl ti_26.h rfl⟩
instance Q5i:CFd Tryz.prog 137 3 3:=⟨fdA Tryz.underlying137 rfl rfl ti_26.h rfl⟩
instance Q7o:CFd Tryz.prog 63 0 0:=⟨fdA Tryz.underlying63 rfl rfl ti_3.h rfl⟩
instance Q3i:CTy Tryz.prog 368 9 9 (.agg #[.int .u8 0,.int .u8 0,.int .u8 0,.int .u8 0,.int .u8 0,.int .u8 0,.int .u8 0,.int .u8 0,.int .u8 0]):=⟨tyI (by kernel_rfl)⟩
theorem Q0o:Zr (Qw5 (⟨0,0,0,0,0,0,0,0,0⟩:Qrv)) [.int .u8 0,.int .u8 0,.int .u8 0,.int .u8 0,.int .u8 0,.int .u8 0,.int .u8 0,.int .u8 0,.int .u8 0]:=Kb (Qh (c1:=[.int .u8 0]) zr_u8 (Qh (c1:=[.int .u8 0]) zr_u8 (Qh (c1:=[.int .u8 0]) zr_u8 (Qh (c1:=[.int .u8 0]) zr_u8 (Qh (c1:=[.int .u8 0]) zr_u8 (Qh (c1:=[.int .u8 0]) zr_u8 (Qh (c1:=[.int .u8 0]) zr_u8 (Qh (c1:=[.int .u8 0]) zr_u8 (Qh (c1:=[.int .u8 0]) zr_u8 (Js))))))))))
instance:CZy Tryz.prog 368 (Qw5 (⟨0,0,0,0,0,0,0,0,0⟩:Qrv)):=⟨_,_,_,Q3i.h,Q0o⟩
instance ti_5:CTy Tryz.prog 5 1 1 (.int .u8 0):=⟨tyI (by kernel_rfl)⟩
instance:CUn Tryz.prog 368 (.array 9 5):=⟨Tryz.underlying368⟩
instance sh_5:CSh Tryz.prog 5 false 1:=⟨shp Tryz.underlying5 rfl ti_5.h⟩
instance:CUn Tryz.prog 283 (.slice 5):=⟨Tryz.underlying283⟩
instance Q8a:CTy Tryz.prog 285 2 32 (.agg #[.pointer none,.slice none 0 0]):=⟨tyI (by kernel_rfl)⟩
instance Qc8:CTy Tryz.prog 171 2 16 (.agg #[.int .i64 0,.int .i64 0]):=⟨tyI (by kernel_rfl)⟩
theorem Vl:Zr (V0 (⟨0,0⟩:Qv)) [.int .i64 0,.int .i64 0]:=Kb (Qh (c1:=[.int .i64 0]) Kg (Qh (c1:=[.int .i64 0]) Kg (Js)))
instance:CZy Tryz.prog 171 (V0 (⟨0,0⟩:Qv)):=⟨_,_,_,Qc8.h,Vl⟩
instance Qe6:CPl Tryz.prog 171 [(0,1),(1,1)]:=⟨⟨_,Tryz.underlying171,by kernel_rfl⟩⟩
instance Q8b:CSh Tryz.prog 171 true 2:=⟨shp Tryz.underlying171 rfl Qc8.h⟩
instance Qve:CTy Tryz.prog 175 43 800 (.agg #[.slice none 0 0,.slice none 0 0,.int .i64 0,.int .i64 0,.string ⟨#[]⟩,.slice none 0 0,.slice none 0 0,.slice none 0 0,.slice none 0 0,.slice none 0 0,.int .i64 0,.bool false,.slice none 0 0,.slice none 0 0,.bool false,.slice none 0 0,.slice none 0 0,.bool false,.slice none 0 0,.slice none 0 0,.bool false,.slice none 0 0,.slice none 0 0,.bool false,.slice none 0 0,.slice none 0 0,.int .i64 0,.int .i64 0,.bool false,.slice none 0 0,.slice none 0 0,.bool false,.slice none 0 0,.slice none 0 0,.bool false,.slice none 0 0,.slice none 0 0,.slice none 0 0,.slice none 0 0,.bool false,.slice none 0 0,.slice none 0 0,.slice none 0 0]):=⟨tyI (by kernel_rfl)⟩
instance Qzi:CPl Tryz.prog 175 [(0,38),(38,5)]:=⟨⟨_,Tryz.underlying175,by kernel_rfl⟩⟩
theorem Qkb:Zr (Wj (⟨(⟨(⟨(⟨[],[],0,0⟩:Q2),(⟨[],[],[],[],[]⟩:Qr),[],0⟩:Ql),(⟨(⟨(⟨false,[]⟩:Qd),[]⟩:Qa),(⟨(⟨false,[]⟩:Qd),[]⟩:Qa),(⟨(⟨false,[]⟩:Qd),[]⟩:Qa),(⟨(⟨false,[]⟩:Qd),[]⟩:Qa),(⟨(⟨false,[]⟩:Qd),[]⟩:Qa),0,0⟩:Qw),(⟨(⟨false,[]⟩:Qd),[]⟩:Qa),(⟨(⟨false,[]⟩:Qd),[]⟩:Qa),(⟨(⟨false,[]⟩:Qd),[]⟩:Qa),[]⟩:Qy),(⟨[],(⟨(⟨false,[]⟩:Qd),[]⟩:Qa),[]⟩:Qi)⟩:W0)) [.slice none 0 0,.slice none 0 0,.int .i64 0,.int .i64 0,.string ⟨#[]⟩,.slice none 0 0,.slice none 0 0,.slice none 0 0,.slice none 0 0,.slice none 0 0,.int .i64 0,.bool false,.slice none 0 0,.slice none 0 0,.bool false,.slice none 0 0,.slice none 0 0,.bool false,.slice none 0 0,.slice none 0 0,.bool false,.slice none 0 0,.slice none 0 0,.bool false,.slice none 0 0,.slice none 0 0,.int .i64 0,.int .i64 0,.bool false,.slice none 0 0,.slice none 0 0,.bool false,.slice none 0 0,.slice none 0 0,.bool false,.slice none 0 0,.slice none 0 0,.slice none 0 0,.slice none 0 0,.bool false,.slice none 0 0,.slice none 0 0,.slice none 0 0]:=Kb (Qh (c1:=[.slice none 0 0,.slice none 0 0,.int .i64 0,.int .i64 0,.string ⟨#[]⟩,.slice none 0 0,.slice none 0 0,.slice none 0 0,.slice none 0 0,.slice none 0 0,.int .i64 0,.bool false,.slice none 0 0,.slice none 0 0,.bool false,.slice none 0 0,.slice none 0 0,.bool false,.slice none 0 0,.slice none 0 0,.bool false,.slice none 0 0,.slice none 0 0,.bool false,.slice none 0 0,.slice none 0 0,.int .i64 0,.int .i64 0,.bool false,.slice none 0 0,.slice none 0 0,.bool false,.slice none 0 0,.slice none 0 0,.bool false,.slice none 0 0,.slice none 0 0,.slice none 0 0]) Qc7 (Qh (c1:=[.slice none 0 0,.bool false,.slice none 0 0,.slice none 0 0,.slice none 0 0]) Wm (Js)))
instance Q5j:CFd Tryz.prog 175 1 38:=⟨fdA Tryz.underlying175 rfl rfl ti_61.h rfl⟩
instance Q5k:CFd Tryz.prog 175 0 0:=⟨fdA Tryz.underlying175 rfl rfl ti_57.h rfl⟩
instance Q8c:CSh Tryz.prog 175 true 43:=⟨shp Tryz.underlying175 rfl Qve.h⟩
theorem Ql6:EqF Tryz.prog 2 171 (λx:Qv=>.agg [i64 x.What,i64 x.Try]) K9:=
 Ql2 Tryz.underlying171 (by kernel_rfl) (Qbb rfl rfl sh_3.h (λ_=>rfl) (λ_=>rfl) (Qcn (λx:Qv=>x.What) (Qef (n:=0) Tryz.underlying3)) (Qbb rfl rfl sh_3.h (λ_=>rfl) (λ_=>rfl) (Qcn (λx:Qv=>x.Try) (Qef (n:=0) Tryz.underlying3)) (Qpo)))
theorem Qqn:Tryz.prog.eqGuardType Tryz.prog.depth 171=false:=by kernel_rfl
instance Q5l:CFd Tryz.prog 171 0 0:=⟨fdA Tryz.underlying171 rfl rfl ti_3.h rfl⟩
end Go.Proofs.YtlihkcaoachkdaaGreatDoor
