import Derived.Test.YtlihkcaoachkdaaGreatDoorMod
import Derived.Test.YtlihkcaoachkdaaGreatDoorSC
import Derived.Test.YtlihkcaoachkdaaGreatDoorLib
import Derived.Test.YtlihkcaoachkdaaGreatDoorChecked
set_option maxRecDepth 100000
set_option maxHeartbeats 4000000
namespace Go.Proofs.YtlihkcaoachkdaaGreatDoor
open Go Go.RowKit
theorem ownK:ownKnob Tryz.prog.godebug=none:=by kernel_rfl
theorem laidOutK:laidOutB Tryz.prog=true:=by kernel_rfl
abbrev Zf(xs:List Nat):Ly:=sli 1 (xs.map u32)
abbrev Qo(x:Qf):Ly:=.agg [bl x.Neg,Zf x.N,Zf x.D]
abbrev Xx(x:Jr):Ly:=.agg [i64 x.Op,i64 x.A,i64 x.B,Qo x.N]
abbrev Qcd(xs:List Jr):Ly:=sli 6 (xs.map Xx)
abbrev Qn6(xs:List Int):Ly:=sli 1 (xs.map i64)
abbrev Kr(x:Jx):Ly:=.agg [Qcd x.Code,Qn6 x.Outs,i64 x.Dim,i64 x.Par]
abbrev Q5(xs:List Qf):Ly:=sli 3 (xs.map Qo)
abbrev Qbb(xs:List (List Qf)):Ly:=sli 1 (xs.map Q5)
abbrev Vh(x:Js):Ly:=.agg [str x.Name,Q5 x.C,Qbb x.A,Q5 x.B,Q5 x.E]
abbrev W6(x:Q8):Ly:=.agg [Kr x.Tape,Vh x.Scheme,Q5 x.P,i64 x.Bits]
abbrev Xp(x:J1):Ly:=.agg [Qo x.Tol,Qo x.Safe,Qo x.Low,Qo x.High,Qo x.Least,i64 x.Fine,i64 x.Most]
abbrev K6(x:Jg):Ly:=.agg [W6 x.Problem,Xp x.Rules,Qo x.Start,Qo x.End,Qo x.First,Q5 x.Y]
abbrev Qq(x:Qd):Ly:=.agg [bl x.Neg,Zf x.Abs]
abbrev Qb(x:Qa):Ly:=.agg [Qq x.Num,Zf x.Den]
theorem Jd{a0_0_ a0_1_ a1_}:IF (.agg [.agg [bl a0_0_,sli 1 a0_1_],sli 1 a1_]):=Qif (Xa (Qif (Xa if_bl (Xa Qdt (Qew)))) (Xa Qdt (Qew)))
abbrev Jy(x:Qs):Ly:=.agg [i64 x.Op,i64 x.A,i64 x.B,Qb x.N]
abbrev Qp6(xs:List Qs):Ly:=sli 6 (xs.map Jy)
abbrev Ju(x:Qr):Ly:=.agg [Qp6 x.Code,Qn6 x.Outs,i64 x.Dim,i64 x.Par]
abbrev Qe(xs:List Qa):Ly:=sli 3 (xs.map Qb)
abbrev Qej(xs:List (List Qa)):Ly:=sli 1 (xs.map Qe)
abbrev Q3(x:Qj):Ly:=.agg [str x.Name,Qe x.C,Qej x.A,Qe x.B,Qe x.E]
abbrev Qv(x:Qg):Ly:=.agg [Ju x.Tape,Q3 x.Scheme,Qe x.P,i64 x.Bits]
abbrev Kb(x:Qu):Ly:=.agg [Qb x.Tol,Qb x.Safe,Qb x.Low,Qb x.High,Qb x.Least,i64 x.Fine,i64 x.Most]
abbrev Ja(x:Q4):Ly:=.agg [Qv x.Problem,Kb x.Rules,Qb x.Start,Qb x.End,Qb x.First,Qe x.Y]
abbrev Qfg(x:Qcu):Ly:=.agg [str x.a0,str x.a1,str x.a2,str x.a3,str x.a4,str x.a5]
abbrev Qi(x:Qc):Ly:=.agg [i64 x.Kind,i64 x.Step,i64 x.Stage,i64 x.At]
theorem Yw{a0_ a1_ a2_ a3_}:IF (.agg [i64 a0_,i64 a1_,i64 a2_,i64 a3_]):=Qif (Xa Qa3 (Xa Qa3 (Xa Qa3 (Xa Qa3 (Qew)))))
abbrev Jf(x:Q2):Ly:=.agg [str x.rest,i64 x.at_,bl x.over]
abbrev Qi2(x:Qci):Ly:=.agg [i64 x.Kind,str x.Text,i64 x.At]
abbrev Qz(x:Qp):Ly:=.agg [Qb x.T,Qb x.Want,Qb x.H,Qb x.Err,Qe x.Y,bl x.Ok]
abbrev Qrc(xs:List Qp):Ly:=sli 14 (xs.map Qz)
abbrev Qx(x:Qn):Ly:=.agg [Qrc x.Tries,Qb x.T,Qe x.Y]
abbrev Qe4(x:Jo):Ly:=.agg [i64 x.op,i64 x.a,i64 x.b]
abbrev Qn7(x:Qii):Ly:=.agg [Ja x.k,Qx x.h,Qb x.want]
abbrev Qfh(x:W8):Ly:=.agg [Qej x.Ys,Qej x.Ks,Qe x.Next,Qe x.Err]
abbrev Qf5(x:Wt):Ly:=.agg [i64 x.Seen,i64 x.Peak]
abbrev Qm(x:Qh):Ly:=.agg [Qf5 x.Count,i64 x.limit]
theorem Jq{a0_0_ a0_1_ a1_}:IF (.agg [.agg [i64 a0_0_,i64 a0_1_],i64 a1_]):=Qif (Xa (Qif (Xa Qa3 (Xa Qa3 (Qew)))) (Xa Qa3 (Qew)))
abbrev Y2(x:V3):Ly:=.agg [Qb x.T,Qe x.Y,Qe x.P]
abbrev Vo(x:Vm):Ly:=.agg [Qb x.T,Qe x.Y,Qe x.P]
instance ti_38:CTy Tryz.prog 38 38 696 (.agg #[.slice none 0 0,.slice none 0 0,.int .i64 0,.int .i64 0,.string ⟨#[]⟩,.slice none 0 0,.slice none 0 0,.slice none 0 0,.slice none 0 0,.slice none 0 0,.int .i64 0,.bool false,.slice none 0 0,.slice none 0 0,.bool false,.slice none 0 0,.slice none 0 0,.bool false,.slice none 0 0,.slice none 0 0,.bool false,.slice none 0 0,.slice none 0 0,.bool false,.slice none 0 0,.slice none 0 0,.int .i64 0,.int .i64 0,.bool false,.slice none 0 0,.slice none 0 0,.bool false,.slice none 0 0,.slice none 0 0,.bool false,.slice none 0 0,.slice none 0 0,.slice none 0 0]):=⟨tyI (by kernel_rfl)⟩
instance sh_38:CSh Tryz.prog 38 true 38:=⟨shp Tryz.underlying38 rfl ti_38.h⟩
instance ti_31:CTy Tryz.prog 31 11 208 (.agg #[.slice none 0 0,.slice none 0 0,.int .i64 0,.int .i64 0,.string ⟨#[]⟩,.slice none 0 0,.slice none 0 0,.slice none 0 0,.slice none 0 0,.slice none 0 0,.int .i64 0]):=⟨tyI (by kernel_rfl)⟩
instance Q0y:CFd Tryz.prog 38 0 0:=⟨fdA Tryz.underlying38 rfl rfl ti_31.h rfl⟩
instance sh_31:CSh Tryz.prog 31 true 11:=⟨shp Tryz.underlying31 rfl ti_31.h⟩
instance ti_25:CTy Tryz.prog 25 4 64 (.agg #[.slice none 0 0,.slice none 0 0,.int .i64 0,.int .i64 0]):=⟨tyI (by kernel_rfl)⟩
instance Q0z:CFd Tryz.prog 31 0 0:=⟨fdA Tryz.underlying31 rfl rfl ti_25.h rfl⟩
instance sh_25:CSh Tryz.prog 25 true 4:=⟨shp Tryz.underlying25 rfl ti_25.h⟩
instance ti_22:CTy Tryz.prog 22 1 24 (.slice none 0 0):=⟨tyI (by kernel_rfl)⟩
instance Q00:CFd Tryz.prog 25 0 0:=⟨fdA Tryz.underlying25 rfl rfl ti_22.h rfl⟩
instance:CUn Tryz.prog 22 (.slice 232):=⟨Tryz.underlying22⟩
instance sh_22:CSh Tryz.prog 22 false 1:=⟨shp Tryz.underlying22 rfl ti_22.h⟩
instance Qu5:CTy Tryz.prog 232 6 80 (.agg #[.int .i64 0,.int .i64 0,.int .i64 0,.bool false,.slice none 0 0,.slice none 0 0]):=⟨tyI (by kernel_rfl)⟩
instance ti_34:CTy Tryz.prog 34 3 56 (.agg #[.bool false,.slice none 0 0,.slice none 0 0]):=⟨tyI (by kernel_rfl)⟩
instance Qzw:CFd Tryz.prog 232 3 3:=⟨fdA Tryz.underlying232 rfl rfl ti_34.h rfl⟩
instance sh_34:CSh Tryz.prog 34 true 3:=⟨shp Tryz.underlying34 rfl ti_34.h⟩
instance ti_32:CTy Tryz.prog 32 1 24 (.slice none 0 0):=⟨tyI (by kernel_rfl)⟩
instance Q01:CFd Tryz.prog 34 1 1:=⟨fdA Tryz.underlying34 rfl rfl ti_32.h rfl⟩
instance:CUn Tryz.prog 32 (.slice 189):=⟨Tryz.underlying32⟩
instance sh_32:CSh Tryz.prog 32 false 1:=⟨shp Tryz.underlying32 rfl ti_32.h⟩
instance Q02:CFd Tryz.prog 34 2 2:=⟨fdA Tryz.underlying34 rfl rfl ti_32.h rfl⟩
instance ti_23:CTy Tryz.prog 23 1 24 (.slice none 0 0):=⟨tyI (by kernel_rfl)⟩
instance Q03:CFd Tryz.prog 25 1 1:=⟨fdA Tryz.underlying25 rfl rfl ti_23.h rfl⟩
instance:CUn Tryz.prog 23 (.slice 3):=⟨Tryz.underlying23⟩
instance sh_23:CSh Tryz.prog 23 false 1:=⟨shp Tryz.underlying23 rfl ti_23.h⟩
instance ti_29:CTy Tryz.prog 29 5 112 (.agg #[.string ⟨#[]⟩,.slice none 0 0,.slice none 0 0,.slice none 0 0,.slice none 0 0]):=⟨tyI (by kernel_rfl)⟩
instance Q04:CFd Tryz.prog 31 1 4:=⟨fdA Tryz.underlying31 rfl rfl ti_29.h rfl⟩
instance sh_29:CSh Tryz.prog 29 true 5:=⟨shp Tryz.underlying29 rfl ti_29.h⟩
instance ti_9:CTy Tryz.prog 9 1 16 (.string ⟨#[]⟩):=⟨tyI (by kernel_rfl)⟩
instance Q05:CFd Tryz.prog 29 0 0:=⟨fdA Tryz.underlying29 rfl rfl ti_9.h rfl⟩
instance:CUn Tryz.prog 9 (.string):=⟨Tryz.underlying9⟩
instance sh_9:CSh Tryz.prog 9 false 1:=⟨shp Tryz.underlying9 rfl ti_9.h⟩
instance ti_27:CTy Tryz.prog 27 1 24 (.slice none 0 0):=⟨tyI (by kernel_rfl)⟩
instance Q06:CFd Tryz.prog 29 2 2:=⟨fdA Tryz.underlying29 rfl rfl ti_27.h rfl⟩
instance:CUn Tryz.prog 27 (.slice 26):=⟨Tryz.underlying27⟩
instance sh_27:CSh Tryz.prog 27 false 1:=⟨shp Tryz.underlying27 rfl ti_27.h⟩
instance ti_26:CTy Tryz.prog 26 1 24 (.slice none 0 0):=⟨tyI (by kernel_rfl)⟩
instance Q07:CFd Tryz.prog 29 3 3:=⟨fdA Tryz.underlying29 rfl rfl ti_26.h rfl⟩
instance:CUn Tryz.prog 26 (.slice 34):=⟨Tryz.underlying26⟩
instance sh_26:CSh Tryz.prog 26 false 1:=⟨shp Tryz.underlying26 rfl ti_26.h⟩
instance Q08:CFd Tryz.prog 29 1 1:=⟨fdA Tryz.underlying29 rfl rfl ti_26.h rfl⟩
instance Q09:CFd Tryz.prog 29 4 4:=⟨fdA Tryz.underlying29 rfl rfl ti_26.h rfl⟩
instance Q1a:CFd Tryz.prog 31 2 9:=⟨fdA Tryz.underlying31 rfl rfl ti_26.h rfl⟩
instance ti_3:CTy Tryz.prog 3 1 8 (.int .i64 0):=⟨tyI (by kernel_rfl)⟩
instance Q1b:CFd Tryz.prog 31 3 10:=⟨fdA Tryz.underlying31 rfl rfl ti_3.h rfl⟩
instance:CUn Tryz.prog 3 (.int .i64):=⟨Tryz.underlying3⟩
instance sh_3:CSh Tryz.prog 3 false 1:=⟨shp Tryz.underlying3 rfl ti_3.h⟩
instance ti_36:CTy Tryz.prog 36 17 296 (.agg #[.bool false,.slice none 0 0,.slice none 0 0,.bool false,.slice none 0 0,.slice none 0 0,.bool false,.slice none 0 0,.slice none 0 0,.bool false,.slice none 0 0,.slice none 0 0,.bool false,.slice none 0 0,.slice none 0 0,.int .i64 0,.int .i64 0]):=⟨tyI (by kernel_rfl)⟩
instance Q1c:CFd Tryz.prog 38 1 11:=⟨fdA Tryz.underlying38 rfl rfl ti_36.h rfl⟩
instance sh_36:CSh Tryz.prog 36 true 17:=⟨shp Tryz.underlying36 rfl ti_36.h⟩
instance Q1d:CFd Tryz.prog 36 0 0:=⟨fdA Tryz.underlying36 rfl rfl ti_34.h rfl⟩
instance Q1e:CFd Tryz.prog 36 1 3:=⟨fdA Tryz.underlying36 rfl rfl ti_34.h rfl⟩
instance Q1f:CFd Tryz.prog 36 2 6:=⟨fdA Tryz.underlying36 rfl rfl ti_34.h rfl⟩
instance Q1g:CFd Tryz.prog 36 3 9:=⟨fdA Tryz.underlying36 rfl rfl ti_34.h rfl⟩
instance Q1h:CFd Tryz.prog 36 4 12:=⟨fdA Tryz.underlying36 rfl rfl ti_34.h rfl⟩
instance Q1i:CFd Tryz.prog 36 6 16:=⟨fdA Tryz.underlying36 rfl rfl ti_3.h rfl⟩
instance Q1j:CFd Tryz.prog 38 2 28:=⟨fdA Tryz.underlying38 rfl rfl ti_34.h rfl⟩
instance Q1k:CFd Tryz.prog 38 3 31:=⟨fdA Tryz.underlying38 rfl rfl ti_34.h rfl⟩
instance Q1l:CFd Tryz.prog 38 4 34:=⟨fdA Tryz.underlying38 rfl rfl ti_34.h rfl⟩
instance Q1m:CFd Tryz.prog 38 5 37:=⟨fdA Tryz.underlying38 rfl rfl ti_26.h rfl⟩
instance ti_57:CTy Tryz.prog 57 38 696 (.agg #[.slice none 0 0,.slice none 0 0,.int .i64 0,.int .i64 0,.string ⟨#[]⟩,.slice none 0 0,.slice none 0 0,.slice none 0 0,.slice none 0 0,.slice none 0 0,.int .i64 0,.bool false,.slice none 0 0,.slice none 0 0,.bool false,.slice none 0 0,.slice none 0 0,.bool false,.slice none 0 0,.slice none 0 0,.bool false,.slice none 0 0,.slice none 0 0,.bool false,.slice none 0 0,.slice none 0 0,.int .i64 0,.int .i64 0,.bool false,.slice none 0 0,.slice none 0 0,.bool false,.slice none 0 0,.slice none 0 0,.bool false,.slice none 0 0,.slice none 0 0,.slice none 0 0]):=⟨tyI (by kernel_rfl)⟩
theorem J4:Zr (Qq (⟨false,[]⟩:Qd)) [.bool false,.slice none 0 0]:=K9 (Qk (c1:=[.bool false]) zr_bl (Qk (c1:=[.slice none 0 0]) (Kv (k:=1)) (Kd)))
theorem Jb:Zr (Qb (⟨(⟨false,[]⟩:Qd),[]⟩:Qa)) [.bool false,.slice none 0 0,.slice none 0 0]:=K9 (Qk (c1:=[.bool false,.slice none 0 0]) J4 (Qk (c1:=[.slice none 0 0]) (Kv (k:=1)) (Kd)))
theorem Qda:Zr (Kb (⟨(⟨(⟨false,[]⟩:Qd),[]⟩:Qa),(⟨(⟨false,[]⟩:Qd),[]⟩:Qa),(⟨(⟨false,[]⟩:Qd),[]⟩:Qa),(⟨(⟨false,[]⟩:Qd),[]⟩:Qa),(⟨(⟨false,[]⟩:Qd),[]⟩:Qa),0,0⟩:Qu)) [.bool false,.slice none 0 0,.slice none 0 0,.bool false,.slice none 0 0,.slice none 0 0,.bool false,.slice none 0 0,.slice none 0 0,.bool false,.slice none 0 0,.slice none 0 0,.bool false,.slice none 0 0,.slice none 0 0,.int .i64 0,.int .i64 0]:=K9 (Qk (c1:=[.bool false,.slice none 0 0,.slice none 0 0]) Jb (Qk (c1:=[.bool false,.slice none 0 0,.slice none 0 0]) Jb (Qk (c1:=[.bool false,.slice none 0 0,.slice none 0 0]) Jb (Qk (c1:=[.bool false,.slice none 0 0,.slice none 0 0]) Jb (Qk (c1:=[.bool false,.slice none 0 0,.slice none 0 0]) Jb (Qk (c1:=[.int .i64 0]) Vj (Qk (c1:=[.int .i64 0]) Vj (Kd))))))))
theorem W3:Zr (Q3 (⟨[],[],[],[],[]⟩:Qj)) [.string ⟨#[]⟩,.slice none 0 0,.slice none 0 0,.slice none 0 0,.slice none 0 0]:=K9 (Qk (c1:=[.string ⟨#[]⟩]) Qct (Qk (c1:=[.slice none 0 0]) (Kv (k:=3)) (Qk (c1:=[.slice none 0 0]) (Kv (k:=1)) (Qk (c1:=[.slice none 0 0]) (Kv (k:=3)) (Qk (c1:=[.slice none 0 0]) (Kv (k:=3)) (Kd))))))
theorem Qgy:Zr (Ju (⟨[],[],0,0⟩:Qr)) [.slice none 0 0,.slice none 0 0,.int .i64 0,.int .i64 0]:=K9 (Qk (c1:=[.slice none 0 0]) (Kv (k:=6)) (Qk (c1:=[.slice none 0 0]) (Kv (k:=1)) (Qk (c1:=[.int .i64 0]) Vj (Qk (c1:=[.int .i64 0]) Vj (Kd)))))
theorem Zt:Zr (Qv (⟨(⟨[],[],0,0⟩:Qr),(⟨[],[],[],[],[]⟩:Qj),[],0⟩:Qg)) [.slice none 0 0,.slice none 0 0,.int .i64 0,.int .i64 0,.string ⟨#[]⟩,.slice none 0 0,.slice none 0 0,.slice none 0 0,.slice none 0 0,.slice none 0 0,.int .i64 0]:=K9 (Qk (c1:=[.slice none 0 0,.slice none 0 0,.int .i64 0,.int .i64 0]) Qgy (Qk (c1:=[.string ⟨#[]⟩,.slice none 0 0,.slice none 0 0,.slice none 0 0,.slice none 0 0]) W3 (Qk (c1:=[.slice none 0 0]) (Kv (k:=3)) (Qk (c1:=[.int .i64 0]) Vj (Kd)))))
theorem Qdb:Zr (Ja (⟨(⟨(⟨[],[],0,0⟩:Qr),(⟨[],[],[],[],[]⟩:Qj),[],0⟩:Qg),(⟨(⟨(⟨false,[]⟩:Qd),[]⟩:Qa),(⟨(⟨false,[]⟩:Qd),[]⟩:Qa),(⟨(⟨false,[]⟩:Qd),[]⟩:Qa),(⟨(⟨false,[]⟩:Qd),[]⟩:Qa),(⟨(⟨false,[]⟩:Qd),[]⟩:Qa),0,0⟩:Qu),(⟨(⟨false,[]⟩:Qd),[]⟩:Qa),(⟨(⟨false,[]⟩:Qd),[]⟩:Qa),(⟨(⟨false,[]⟩:Qd),[]⟩:Qa),[]⟩:Q4)) [.slice none 0 0,.slice none 0 0,.int .i64 0,.int .i64 0,.string ⟨#[]⟩,.slice none 0 0,.slice none 0 0,.slice none 0 0,.slice none 0 0,.slice none 0 0,.int .i64 0,.bool false,.slice none 0 0,.slice none 0 0,.bool false,.slice none 0 0,.slice none 0 0,.bool false,.slice none 0 0,.slice none 0 0,.bool false,.slice none 0 0,.slice none 0 0,.bool false,.slice none 0 0,.slice none 0 0,.int .i64 0,.int .i64 0,.bool false,.slice none 0 0,.slice none 0 0,.bool false,.slice none 0 0,.slice none 0 0,.bool false,.slice none 0 0,.slice none 0 0,.slice none 0 0]:=K9 (Qk (c1:=[.slice none 0 0,.slice none 0 0,.int .i64 0,.int .i64 0,.string ⟨#[]⟩,.slice none 0 0,.slice none 0 0,.slice none 0 0,.slice none 0 0,.slice none 0 0,.int .i64 0]) Zt (Qk (c1:=[.bool false,.slice none 0 0,.slice none 0 0,.bool false,.slice none 0 0,.slice none 0 0,.bool false,.slice none 0 0,.slice none 0 0,.bool false,.slice none 0 0,.slice none 0 0,.bool false,.slice none 0 0,.slice none 0 0,.int .i64 0,.int .i64 0]) Qda (Qk (c1:=[.bool false,.slice none 0 0,.slice none 0 0]) Jb (Qk (c1:=[.bool false,.slice none 0 0,.slice none 0 0]) Jb (Qk (c1:=[.bool false,.slice none 0 0,.slice none 0 0]) Jb (Qk (c1:=[.slice none 0 0]) (Kv (k:=3)) (Kd)))))))
instance:CZy Tryz.prog 57 (Ja (⟨(⟨(⟨[],[],0,0⟩:Qr),(⟨[],[],[],[],[]⟩:Qj),[],0⟩:Qg),(⟨(⟨(⟨false,[]⟩:Qd),[]⟩:Qa),(⟨(⟨false,[]⟩:Qd),[]⟩:Qa),(⟨(⟨false,[]⟩:Qd),[]⟩:Qa),(⟨(⟨false,[]⟩:Qd),[]⟩:Qa),(⟨(⟨false,[]⟩:Qd),[]⟩:Qa),0,0⟩:Qu),(⟨(⟨false,[]⟩:Qd),[]⟩:Qa),(⟨(⟨false,[]⟩:Qd),[]⟩:Qa),(⟨(⟨false,[]⟩:Qd),[]⟩:Qa),[]⟩:Q4)):=⟨_,_,_,ti_57.h,Qdb⟩
instance Qij:CTy Tryz.prog 164 6 80 (.agg #[.int .i64 0,.int .i64 0,.int .i64 0,.bool false,.slice none 0 0,.slice none 0 0]):=⟨tyI (by kernel_rfl)⟩
instance Qu6:CPl Tryz.prog 164 [(0,1),(1,1),(2,1),(3,3)]:=⟨⟨_,Tryz.underlying164,by kernel_rfl⟩⟩
theorem Qgz:Zr (Jy (⟨0,0,0,(⟨(⟨false,[]⟩:Qd),[]⟩:Qa)⟩:Qs)) [.int .i64 0,.int .i64 0,.int .i64 0,.bool false,.slice none 0 0,.slice none 0 0]:=K9 (Qk (c1:=[.int .i64 0]) Vj (Qk (c1:=[.int .i64 0]) Vj (Qk (c1:=[.int .i64 0]) Vj (Qk (c1:=[.bool false,.slice none 0 0,.slice none 0 0]) Jb (Kd)))))
instance:CUn Tryz.prog 41 (.slice 164):=⟨Tryz.underlying41⟩
instance ti_43:CTy Tryz.prog 43 4 64 (.agg #[.slice none 0 0,.slice none 0 0,.int .i64 0,.int .i64 0]):=⟨tyI (by kernel_rfl)⟩
instance pl_43:CPl Tryz.prog 43 [(0,1),(1,1),(2,1),(3,1)]:=⟨⟨_,Tryz.underlying43,by kernel_rfl⟩⟩
instance:CZy Tryz.prog 43 (Ju (⟨[],[],0,0⟩:Qr)):=⟨_,_,_,ti_43.h,Qgy⟩
instance sh_43:CSh Tryz.prog 43 true 4:=⟨shp Tryz.underlying43 rfl ti_43.h⟩
instance ti_47:CTy Tryz.prog 47 5 112 (.agg #[.string ⟨#[]⟩,.slice none 0 0,.slice none 0 0,.slice none 0 0,.slice none 0 0]):=⟨tyI (by kernel_rfl)⟩
instance:CZy Tryz.prog 47 (Q3 (⟨[],[],[],[],[]⟩:Qj)):=⟨_,_,_,ti_47.h,W3⟩
instance Qrd:CTy Tryz.prog 233 6 96 (.agg #[.string ⟨#[]⟩,.string ⟨#[]⟩,.string ⟨#[]⟩,.string ⟨#[]⟩,.string ⟨#[]⟩,.string ⟨#[]⟩]):=⟨tyI (by kernel_rfl)⟩
theorem Qkh:Zr (Qfg (⟨[],[],[],[],[],[]⟩:Qcu)) [.string ⟨#[]⟩,.string ⟨#[]⟩,.string ⟨#[]⟩,.string ⟨#[]⟩,.string ⟨#[]⟩,.string ⟨#[]⟩]:=K9 (Qk (c1:=[.string ⟨#[]⟩]) Qct (Qk (c1:=[.string ⟨#[]⟩]) Qct (Qk (c1:=[.string ⟨#[]⟩]) Qct (Qk (c1:=[.string ⟨#[]⟩]) Qct (Qk (c1:=[.string ⟨#[]⟩]) Qct (Qk (c1:=[.string ⟨#[]⟩]) Qct (Kd)))))))
instance:CZy Tryz.prog 233 (Qfg (⟨[],[],[],[],[],[]⟩:Qcu)):=⟨_,_,_,Qrd.h,Qkh⟩
instance:CUn Tryz.prog 233 (.array 6 9):=⟨Tryz.underlying233⟩
instance Q2x:CSh Tryz.prog 233 true 6:=⟨shp Tryz.underlying233 rfl Qrd.h⟩
instance ti_63:CTy Tryz.prog 63 4 32 (.agg #[.int .i64 0,.int .i64 0,.int .i64 0,.int .i64 0]):=⟨tyI (by kernel_rfl)⟩
theorem Ql:Zr (Qi (⟨0,0,0,0⟩:Qc)) [.int .i64 0,.int .i64 0,.int .i64 0,.int .i64 0]:=K9 (Qk (c1:=[.int .i64 0]) Vj (Qk (c1:=[.int .i64 0]) Vj (Qk (c1:=[.int .i64 0]) Vj (Qk (c1:=[.int .i64 0]) Vj (Kd)))))
instance:CZy Tryz.prog 63 (Qi (⟨0,0,0,0⟩:Qc)):=⟨_,_,_,ti_63.h,Ql⟩
instance pl_47:CPl Tryz.prog 47 [(0,1),(1,1),(2,1),(3,1),(4,1)]:=⟨⟨_,Tryz.underlying47,by kernel_rfl⟩⟩
instance pl_63:CPl Tryz.prog 63 [(0,1),(1,1),(2,1),(3,1)]:=⟨⟨_,Tryz.underlying63,by kernel_rfl⟩⟩
instance sh_47:CSh Tryz.prog 47 true 5:=⟨shp Tryz.underlying47 rfl ti_47.h⟩
instance sh_63:CSh Tryz.prog 63 true 4:=⟨shp Tryz.underlying63 rfl ti_63.h⟩
instance Qyz:CTy Tryz.prog 323 3 32 (.agg #[.string ⟨#[]⟩,.int .i64 0,.bool false]):=⟨tyI (by kernel_rfl)⟩
instance Qy0:CPl Tryz.prog 323 [(0,1),(1,1),(2,1)]:=⟨⟨_,Tryz.underlying323,by kernel_rfl⟩⟩
theorem Ql6:Zr (Jf (⟨[],0,false⟩:Q2)) [.string ⟨#[]⟩,.int .i64 0,.bool false]:=K9 (Qk (c1:=[.string ⟨#[]⟩]) Qct (Qk (c1:=[.int .i64 0]) Vj (Qk (c1:=[.bool false]) zr_bl (Kd))))
instance ti_4:CTy Tryz.prog 4 1 1 (.bool false):=⟨tyI (by kernel_rfl)⟩
instance Qzx:CFd Tryz.prog 323 2 2:=⟨fdA Tryz.underlying323 rfl rfl ti_4.h rfl⟩
instance:CUn Tryz.prog 4 (.bool):=⟨Tryz.underlying4⟩
instance sh_4:CSh Tryz.prog 4 false 1:=⟨shp Tryz.underlying4 rfl ti_4.h⟩
instance Qzy:CFd Tryz.prog 323 1 1:=⟨fdA Tryz.underlying323 rfl rfl ti_3.h rfl⟩
theorem fol:Tryz.prog.follows .mixedOrders=true:=by kernel_rfl
instance Qzz:CFd Tryz.prog 323 0 0:=⟨fdA Tryz.underlying323 rfl rfl ti_9.h rfl⟩
instance Q1n:CFd Tryz.prog 47 0 0:=⟨fdA Tryz.underlying47 rfl rfl ti_9.h rfl⟩
instance Qu7:CTy Tryz.prog 313 3 32 (.agg #[.int .i64 0,.string ⟨#[]⟩,.int .i64 0]):=⟨tyI (by kernel_rfl)⟩
instance Qu8:CPl Tryz.prog 313 [(0,1),(1,1),(2,1)]:=⟨⟨_,Tryz.underlying313,by kernel_rfl⟩⟩
theorem Qlq:Zr (Qi2 (⟨0,[],0⟩:Qci)) [.int .i64 0,.string ⟨#[]⟩,.int .i64 0]:=K9 (Qk (c1:=[.int .i64 0]) Vj (Qk (c1:=[.string ⟨#[]⟩]) Qct (Qk (c1:=[.int .i64 0]) Vj (Kd))))
instance Qz0:CFd Tryz.prog 313 1 1:=⟨fdA Tryz.underlying313 rfl rfl ti_9.h rfl⟩
instance Qz1:CFd Tryz.prog 313 0 0:=⟨fdA Tryz.underlying313 rfl rfl ti_3.h rfl⟩
instance:CUn Tryz.prog 21 (.int .i32):=⟨Tryz.underlying21⟩
instance:CUn Tryz.prog 5 (.int .u8):=⟨Tryz.underlying5⟩
instance ti_53:CTy Tryz.prog 53 3 56 (.agg #[.bool false,.slice none 0 0,.slice none 0 0]):=⟨tyI (by kernel_rfl)⟩
instance:CZy Tryz.prog 53 (Qb (⟨(⟨false,[]⟩:Qd),[]⟩:Qa)):=⟨_,_,_,ti_53.h,Jb⟩
instance ti_51:CTy Tryz.prog 51 2 32 (.agg #[.bool false,.slice none 0 0]):=⟨tyI (by kernel_rfl)⟩
instance:CZy Tryz.prog 51 (Qq (⟨false,[]⟩:Qd)):=⟨_,_,_,ti_51.h,J4⟩
instance:CUn Tryz.prog 189 (.int .u32):=⟨Tryz.underlying189⟩
instance Y3:CTy Tryz.prog 189 1 4 (.int .u32 0):=⟨tyI (by kernel_rfl)⟩
instance Q2y:CSh Tryz.prog 189 false 1:=⟨shp Tryz.underlying189 rfl Y3.h⟩
instance:CUn Tryz.prog 151 (.int .u64):=⟨Tryz.underlying151⟩
theorem J9:EqF Tryz.prog 2 63 (λx:Qc=>.agg [i64 x.Kind,i64 x.Step,i64 x.Stage,i64 x.At]) Qt:=
 Qmq Tryz.underlying63 (by kernel_rfl) (Qbu rfl rfl sh_3.h (λ_=>rfl) (λ_=>rfl) (Qdd (λx:Qc=>x.Kind) (Qe0 (n:=0) Tryz.underlying3)) (Qbu rfl rfl sh_3.h (λ_=>rfl) (λ_=>rfl) (Qdd (λx:Qc=>x.Step) (Qe0 (n:=0) Tryz.underlying3)) (Qbu rfl rfl sh_3.h (λ_=>rfl) (λ_=>rfl) (Qdd (λx:Qc=>x.Stage) (Qe0 (n:=0) Tryz.underlying3)) (Qbu rfl rfl sh_3.h (λ_=>rfl) (λ_=>rfl) (Qdd (λx:Qc=>x.At) (Qe0 (n:=0) Tryz.underlying3)) (Qq6)))))
theorem eg_63:Tryz.prog.eqGuardType Tryz.prog.depth 63=false:=by kernel_rfl
instance Q1o:CFd Tryz.prog 63 3 3:=⟨fdA Tryz.underlying63 rfl rfl ti_3.h rfl⟩
instance pl_51:CPl Tryz.prog 51 [(0,1),(1,1)]:=⟨⟨_,Tryz.underlying51,by kernel_rfl⟩⟩
instance sh_51:CSh Tryz.prog 51 true 2:=⟨shp Tryz.underlying51 rfl ti_51.h⟩
instance pl_53:CPl Tryz.prog 53 [(0,2),(2,1)]:=⟨⟨_,Tryz.underlying53,by kernel_rfl⟩⟩
instance sh_53:CSh Tryz.prog 53 true 3:=⟨shp Tryz.underlying53 rfl ti_53.h⟩
instance Q1p:CFd Tryz.prog 51 1 1:=⟨fdA Tryz.underlying51 rfl rfl ti_32.h rfl⟩
instance Q1q:CFd Tryz.prog 51 0 0:=⟨fdA Tryz.underlying51 rfl rfl ti_4.h rfl⟩
instance:CUn Tryz.prog 271 (.slice 32):=⟨Tryz.underlying271⟩
instance:CUn Tryz.prog 238 (.slice 9):=⟨Tryz.underlying238⟩
instance:CUn Tryz.prog 44 (.slice 53):=⟨Tryz.underlying44⟩
instance ti_44:CTy Tryz.prog 44 1 24 (.slice none 0 0):=⟨tyI (by kernel_rfl)⟩
instance Q1r:CFd Tryz.prog 47 1 1:=⟨fdA Tryz.underlying47 rfl rfl ti_44.h rfl⟩
instance sh_44:CSh Tryz.prog 44 false 1:=⟨shp Tryz.underlying44 rfl ti_44.h⟩
instance ti_45:CTy Tryz.prog 45 1 24 (.slice none 0 0):=⟨tyI (by kernel_rfl)⟩
instance Q1s:CFd Tryz.prog 47 2 2:=⟨fdA Tryz.underlying47 rfl rfl ti_45.h rfl⟩
instance:CUn Tryz.prog 45 (.slice 44):=⟨Tryz.underlying45⟩
instance sh_45:CSh Tryz.prog 45 false 1:=⟨shp Tryz.underlying45 rfl ti_45.h⟩
instance Q1t:CFd Tryz.prog 47 3 3:=⟨fdA Tryz.underlying47 rfl rfl ti_44.h rfl⟩
instance Q1u:CFd Tryz.prog 47 4 4:=⟨fdA Tryz.underlying47 rfl rfl ti_44.h rfl⟩
instance Q1v:CFd Tryz.prog 53 1 2:=⟨fdA Tryz.underlying53 rfl rfl ti_32.h rfl⟩
instance Q1w:CFd Tryz.prog 53 0 0:=⟨fdA Tryz.underlying53 rfl rfl ti_51.h rfl⟩
instance ti_55:CTy Tryz.prog 55 17 296 (.agg #[.bool false,.slice none 0 0,.slice none 0 0,.bool false,.slice none 0 0,.slice none 0 0,.bool false,.slice none 0 0,.slice none 0 0,.bool false,.slice none 0 0,.slice none 0 0,.bool false,.slice none 0 0,.slice none 0 0,.int .i64 0,.int .i64 0]):=⟨tyI (by kernel_rfl)⟩
instance:CZy Tryz.prog 55 (Kb (⟨(⟨(⟨false,[]⟩:Qd),[]⟩:Qa),(⟨(⟨false,[]⟩:Qd),[]⟩:Qa),(⟨(⟨false,[]⟩:Qd),[]⟩:Qa),(⟨(⟨false,[]⟩:Qd),[]⟩:Qa),(⟨(⟨false,[]⟩:Qd),[]⟩:Qa),0,0⟩:Qu)):=⟨_,_,_,ti_55.h,Qda⟩
instance pl_55:CPl Tryz.prog 55 [(0,3),(3,3),(6,3),(9,3),(12,3),(15,1),(16,1)]:=⟨⟨_,Tryz.underlying55,by kernel_rfl⟩⟩
instance sh_55:CSh Tryz.prog 55 true 17:=⟨shp Tryz.underlying55 rfl ti_55.h⟩
instance Q1x:CFd Tryz.prog 55 0 0:=⟨fdA Tryz.underlying55 rfl rfl ti_53.h rfl⟩
instance ti_49:CTy Tryz.prog 49 11 208 (.agg #[.slice none 0 0,.slice none 0 0,.int .i64 0,.int .i64 0,.string ⟨#[]⟩,.slice none 0 0,.slice none 0 0,.slice none 0 0,.slice none 0 0,.slice none 0 0,.int .i64 0]):=⟨tyI (by kernel_rfl)⟩
instance pl_49:CPl Tryz.prog 49 [(0,4),(4,5),(9,1),(10,1)]:=⟨⟨_,Tryz.underlying49,by kernel_rfl⟩⟩
instance pl_57:CPl Tryz.prog 57 [(0,11),(11,17),(28,3),(31,3),(34,3),(37,1)]:=⟨⟨_,Tryz.underlying57,by kernel_rfl⟩⟩
instance sh_57:CSh Tryz.prog 57 true 38:=⟨shp Tryz.underlying57 rfl ti_57.h⟩
instance ti_61:CTy Tryz.prog 61 5 104 (.agg #[.slice none 0 0,.bool false,.slice none 0 0,.slice none 0 0,.slice none 0 0]):=⟨tyI (by kernel_rfl)⟩
theorem X8:Zr (Qx (⟨[],(⟨(⟨false,[]⟩:Qd),[]⟩:Qa),[]⟩:Qn)) [.slice none 0 0,.bool false,.slice none 0 0,.slice none 0 0,.slice none 0 0]:=K9 (Qk (c1:=[.slice none 0 0]) (Kv (k:=14)) (Qk (c1:=[.bool false,.slice none 0 0,.slice none 0 0]) Jb (Qk (c1:=[.slice none 0 0]) (Kv (k:=3)) (Kd))))
instance:CZy Tryz.prog 61 (Qx (⟨[],(⟨(⟨false,[]⟩:Qd),[]⟩:Qa),[]⟩:Qn)):=⟨_,_,_,ti_61.h,X8⟩
instance Q1y:CFd Tryz.prog 57 0 0:=⟨fdA Tryz.underlying57 rfl rfl ti_49.h rfl⟩
instance sh_49:CSh Tryz.prog 49 true 11:=⟨shp Tryz.underlying49 rfl ti_49.h⟩
instance Q1z:CFd Tryz.prog 49 0 0:=⟨fdA Tryz.underlying49 rfl rfl ti_43.h rfl⟩
instance Q10:CFd Tryz.prog 43 2 2:=⟨fdA Tryz.underlying43 rfl rfl ti_3.h rfl⟩
instance Q11:CFd Tryz.prog 43 3 3:=⟨fdA Tryz.underlying43 rfl rfl ti_3.h rfl⟩
instance Q12:CFd Tryz.prog 43 1 1:=⟨fdA Tryz.underlying43 rfl rfl ti_23.h rfl⟩
instance ti_41:CTy Tryz.prog 41 1 24 (.slice none 0 0):=⟨tyI (by kernel_rfl)⟩
instance Q13:CFd Tryz.prog 43 0 0:=⟨fdA Tryz.underlying43 rfl rfl ti_41.h rfl⟩
instance sh_41:CSh Tryz.prog 41 false 1:=⟨shp Tryz.underlying41 rfl ti_41.h⟩
instance Q2z:CSh Tryz.prog 164 true 6:=⟨shp Tryz.underlying164 rfl Qij.h⟩
instance:CZy Tryz.prog 164 (Jy (⟨0,0,0,(⟨(⟨false,[]⟩:Qd),[]⟩:Qa)⟩:Qs)):=⟨_,_,_,Qij.h,Qgz⟩
instance Qz2:CFd Tryz.prog 164 0 0:=⟨fdA Tryz.underlying164 rfl rfl ti_3.h rfl⟩
instance Qki:CTy Tryz.prog 350 3 24 (.agg #[.int .i64 0,.int .i64 0,.int .i64 0]):=⟨tyI (by kernel_rfl)⟩
theorem Qbo:Zr (Qe4 (⟨0,0,0⟩:Jo)) [.int .i64 0,.int .i64 0,.int .i64 0]:=K9 (Qk (c1:=[.int .i64 0]) Vj (Qk (c1:=[.int .i64 0]) Vj (Qk (c1:=[.int .i64 0]) Vj (Kd))))
instance:CZy Tryz.prog 350 (Qe4 (⟨0,0,0⟩:Jo)):=⟨_,_,_,Qki.h,Qbo⟩
instance Qz3:CFd Tryz.prog 164 1 1:=⟨fdA Tryz.underlying164 rfl rfl ti_3.h rfl⟩
instance Qz4:CFd Tryz.prog 164 2 2:=⟨fdA Tryz.underlying164 rfl rfl ti_3.h rfl⟩
instance Qre:CPl Tryz.prog 350 [(0,1),(1,1),(2,1)]:=⟨⟨_,Tryz.underlying350,by kernel_rfl⟩⟩
instance Q20:CSh Tryz.prog 350 true 3:=⟨shp Tryz.underlying350 rfl Qki.h⟩
theorem Qrf:EqF Tryz.prog 2 350 (λx:Jo=>.agg [i64 x.op,i64 x.a,i64 x.b]) Xs:=
 Qmq Tryz.underlying350 (by kernel_rfl) (Qbu rfl rfl sh_3.h (λ_=>rfl) (λ_=>rfl) (Qdd (λx:Jo=>x.op) (Qe0 (n:=0) Tryz.underlying3)) (Qbu rfl rfl sh_3.h (λ_=>rfl) (λ_=>rfl) (Qdd (λx:Jo=>x.a) (Qe0 (n:=0) Tryz.underlying3)) (Qbu rfl rfl sh_3.h (λ_=>rfl) (λ_=>rfl) (Qdd (λx:Jo=>x.b) (Qe0 (n:=0) Tryz.underlying3)) (Qq6))))
theorem Qu9:Tryz.prog.eqGuardType Tryz.prog.depth 350=false:=by kernel_rfl
instance Qz5:CFd Tryz.prog 164 3 3:=⟨fdA Tryz.underlying164 rfl rfl ti_53.h rfl⟩
instance Q14:CFd Tryz.prog 49 1 4:=⟨fdA Tryz.underlying49 rfl rfl ti_47.h rfl⟩
instance Q15:CFd Tryz.prog 49 2 9:=⟨fdA Tryz.underlying49 rfl rfl ti_44.h rfl⟩
instance Q16:CFd Tryz.prog 57 1 11:=⟨fdA Tryz.underlying57 rfl rfl ti_55.h rfl⟩
instance Q17:CFd Tryz.prog 55 1 3:=⟨fdA Tryz.underlying55 rfl rfl ti_53.h rfl⟩
instance Q18:CFd Tryz.prog 55 2 6:=⟨fdA Tryz.underlying55 rfl rfl ti_53.h rfl⟩
instance Q19:CFd Tryz.prog 55 3 9:=⟨fdA Tryz.underlying55 rfl rfl ti_53.h rfl⟩
instance Q2a:CFd Tryz.prog 55 4 12:=⟨fdA Tryz.underlying55 rfl rfl ti_53.h rfl⟩
instance Q2b:CFd Tryz.prog 55 5 15:=⟨fdA Tryz.underlying55 rfl rfl ti_3.h rfl⟩
instance Q2c:CFd Tryz.prog 55 6 16:=⟨fdA Tryz.underlying55 rfl rfl ti_3.h rfl⟩
instance Q2d:CFd Tryz.prog 57 5 37:=⟨fdA Tryz.underlying57 rfl rfl ti_44.h rfl⟩
instance Q2e:CFd Tryz.prog 57 3 31:=⟨fdA Tryz.underlying57 rfl rfl ti_53.h rfl⟩
instance Q2f:CFd Tryz.prog 57 2 28:=⟨fdA Tryz.underlying57 rfl rfl ti_53.h rfl⟩
instance Q2g:CFd Tryz.prog 57 4 34:=⟨fdA Tryz.underlying57 rfl rfl ti_53.h rfl⟩
instance pl_61:CPl Tryz.prog 61 [(0,1),(1,3),(4,1)]:=⟨⟨_,Tryz.underlying61,by kernel_rfl⟩⟩
instance sh_61:CSh Tryz.prog 61 true 5:=⟨shp Tryz.underlying61 rfl ti_61.h⟩
instance Qy1:CTy Tryz.prog 119 46 856 (.agg #[.slice none 0 0,.slice none 0 0,.int .i64 0,.int .i64 0,.string ⟨#[]⟩,.slice none 0 0,.slice none 0 0,.slice none 0 0,.slice none 0 0,.slice none 0 0,.int .i64 0,.bool false,.slice none 0 0,.slice none 0 0,.bool false,.slice none 0 0,.slice none 0 0,.bool false,.slice none 0 0,.slice none 0 0,.bool false,.slice none 0 0,.slice none 0 0,.bool false,.slice none 0 0,.slice none 0 0,.int .i64 0,.int .i64 0,.bool false,.slice none 0 0,.slice none 0 0,.bool false,.slice none 0 0,.slice none 0 0,.bool false,.slice none 0 0,.slice none 0 0,.slice none 0 0,.slice none 0 0,.bool false,.slice none 0 0,.slice none 0 0,.slice none 0 0,.bool false,.slice none 0 0,.slice none 0 0]):=⟨tyI (by kernel_rfl)⟩
instance Qy2:CPl Tryz.prog 119 [(0,38),(38,5),(43,3)]:=⟨⟨_,Tryz.underlying119,by kernel_rfl⟩⟩
theorem Qmw:Zr (Qn7 (⟨(⟨(⟨(⟨[],[],0,0⟩:Qr),(⟨[],[],[],[],[]⟩:Qj),[],0⟩:Qg),(⟨(⟨(⟨false,[]⟩:Qd),[]⟩:Qa),(⟨(⟨false,[]⟩:Qd),[]⟩:Qa),(⟨(⟨false,[]⟩:Qd),[]⟩:Qa),(⟨(⟨false,[]⟩:Qd),[]⟩:Qa),(⟨(⟨false,[]⟩:Qd),[]⟩:Qa),0,0⟩:Qu),(⟨(⟨false,[]⟩:Qd),[]⟩:Qa),(⟨(⟨false,[]⟩:Qd),[]⟩:Qa),(⟨(⟨false,[]⟩:Qd),[]⟩:Qa),[]⟩:Q4),(⟨[],(⟨(⟨false,[]⟩:Qd),[]⟩:Qa),[]⟩:Qn),(⟨(⟨false,[]⟩:Qd),[]⟩:Qa)⟩:Qii)) [.slice none 0 0,.slice none 0 0,.int .i64 0,.int .i64 0,.string ⟨#[]⟩,.slice none 0 0,.slice none 0 0,.slice none 0 0,.slice none 0 0,.slice none 0 0,.int .i64 0,.bool false,.slice none 0 0,.slice none 0 0,.bool false,.slice none 0 0,.slice none 0 0,.bool false,.slice none 0 0,.slice none 0 0,.bool false,.slice none 0 0,.slice none 0 0,.bool false,.slice none 0 0,.slice none 0 0,.int .i64 0,.int .i64 0,.bool false,.slice none 0 0,.slice none 0 0,.bool false,.slice none 0 0,.slice none 0 0,.bool false,.slice none 0 0,.slice none 0 0,.slice none 0 0,.slice none 0 0,.bool false,.slice none 0 0,.slice none 0 0,.slice none 0 0,.bool false,.slice none 0 0,.slice none 0 0]:=K9 (Qk (c1:=[.slice none 0 0,.slice none 0 0,.int .i64 0,.int .i64 0,.string ⟨#[]⟩,.slice none 0 0,.slice none 0 0,.slice none 0 0,.slice none 0 0,.slice none 0 0,.int .i64 0,.bool false,.slice none 0 0,.slice none 0 0,.bool false,.slice none 0 0,.slice none 0 0,.bool false,.slice none 0 0,.slice none 0 0,.bool false,.slice none 0 0,.slice none 0 0,.bool false,.slice none 0 0,.slice none 0 0,.int .i64 0,.int .i64 0,.bool false,.slice none 0 0,.slice none 0 0,.bool false,.slice none 0 0,.slice none 0 0,.bool false,.slice none 0 0,.slice none 0 0,.slice none 0 0]) Qdb (Qk (c1:=[.slice none 0 0,.bool false,.slice none 0 0,.slice none 0 0,.slice none 0 0]) X8 (Qk (c1:=[.bool false,.slice none 0 0,.slice none 0 0]) Jb (Kd))))
instance Qz6:CFd Tryz.prog 119 1 38:=⟨fdA Tryz.underlying119 rfl rfl ti_61.h rfl⟩
instance Q2h:CFd Tryz.prog 61 1 1:=⟨fdA Tryz.underlying61 rfl rfl ti_53.h rfl⟩
instance Qz7:CFd Tryz.prog 119 0 0:=⟨fdA Tryz.underlying119 rfl rfl ti_57.h rfl⟩
instance ti_59:CTy Tryz.prog 59 1 24 (.slice none 0 0):=⟨tyI (by kernel_rfl)⟩
instance Q2i:CFd Tryz.prog 61 0 0:=⟨fdA Tryz.underlying61 rfl rfl ti_59.h rfl⟩
instance:CUn Tryz.prog 59 (.slice 82):=⟨Tryz.underlying59⟩
instance sh_59:CSh Tryz.prog 59 false 1:=⟨shp Tryz.underlying59 rfl ti_59.h⟩
instance Qz8:CFd Tryz.prog 119 2 43:=⟨fdA Tryz.underlying119 rfl rfl ti_53.h rfl⟩
instance Q2j:CFd Tryz.prog 61 2 4:=⟨fdA Tryz.underlying61 rfl rfl ti_44.h rfl⟩
instance Qkj:CTy Tryz.prog 183 4 96 (.agg #[.slice none 0 0,.slice none 0 0,.slice none 0 0,.slice none 0 0]):=⟨tyI (by kernel_rfl)⟩
theorem Qg0:Zr (Qfh (⟨[],[],[],[]⟩:W8)) [.slice none 0 0,.slice none 0 0,.slice none 0 0,.slice none 0 0]:=K9 (Qk (c1:=[.slice none 0 0]) (Kv (k:=1)) (Qk (c1:=[.slice none 0 0]) (Kv (k:=1)) (Qk (c1:=[.slice none 0 0]) (Kv (k:=3)) (Qk (c1:=[.slice none 0 0]) (Kv (k:=3)) (Kd)))))
instance:CZy Tryz.prog 183 (Qfh (⟨[],[],[],[]⟩:W8)):=⟨_,_,_,Qkj.h,Qg0⟩
instance Qva:CPl Tryz.prog 183 [(0,1),(1,1),(2,1),(3,1)]:=⟨⟨_,Tryz.underlying183,by kernel_rfl⟩⟩
instance Q21:CSh Tryz.prog 183 true 4:=⟨shp Tryz.underlying183 rfl Qkj.h⟩
instance Q2k:CFd Tryz.prog 49 3 10:=⟨fdA Tryz.underlying49 rfl rfl ti_3.h rfl⟩
instance Qy3:CTy Tryz.prog 298 3 24 (.agg #[.int .i64 0,.int .i64 0,.int .i64 0]):=⟨tyI (by kernel_rfl)⟩
instance Qy4:CPl Tryz.prog 298 [(0,2),(2,1)]:=⟨⟨_,Tryz.underlying298,by kernel_rfl⟩⟩
theorem Qn8:Zr (Qf5 (⟨0,0⟩:Wt)) [.int .i64 0,.int .i64 0]:=K9 (Qk (c1:=[.int .i64 0]) Vj (Qk (c1:=[.int .i64 0]) Vj (Kd)))
theorem Qn9:Zr (Qm (⟨(⟨0,0⟩:Wt),0⟩:Qh)) [.int .i64 0,.int .i64 0,.int .i64 0]:=K9 (Qk (c1:=[.int .i64 0,.int .i64 0]) Qn8 (Qk (c1:=[.int .i64 0]) Vj (Kd)))
instance Qy5:CTy Tryz.prog 247 23 448 (.agg #[.slice none 0 0,.slice none 0 0,.int .i64 0,.int .i64 0,.string ⟨#[]⟩,.slice none 0 0,.slice none 0 0,.slice none 0 0,.slice none 0 0,.slice none 0 0,.int .i64 0,.bool false,.slice none 0 0,.slice none 0 0,.bool false,.slice none 0 0,.slice none 0 0,.slice none 0 0,.pointer none,.slice none 0 0,.slice none 0 0,.slice none 0 0,.slice none 0 0]):=⟨tyI (by kernel_rfl)⟩
instance Qy6:CPl Tryz.prog 247 [(0,11),(11,3),(14,3),(17,1),(18,1),(19,4)]:=⟨⟨_,Tryz.underlying247,by kernel_rfl⟩⟩
instance Qz9:CFd Tryz.prog 247 0 0:=⟨fdA Tryz.underlying247 rfl rfl ti_49.h rfl⟩
instance Q0a:CFd Tryz.prog 247 3 17:=⟨fdA Tryz.underlying247 rfl rfl ti_44.h rfl⟩
instance Q0b:CFd Tryz.prog 247 5 19:=⟨fdA Tryz.underlying247 rfl rfl Qkj.h rfl⟩
instance Q0c:CFd Tryz.prog 183 1 1:=⟨fdA Tryz.underlying183 rfl rfl ti_45.h rfl⟩
instance Q0d:CFd Tryz.prog 247 2 14:=⟨fdA Tryz.underlying247 rfl rfl ti_53.h rfl⟩
instance Qrg:CTy Tryz.prog 244 1 8 (.pointer none):=⟨tyI (by kernel_rfl)⟩
instance Q0e:CFd Tryz.prog 247 4 18:=⟨fdA Tryz.underlying247 rfl rfl Qrg.h rfl⟩
instance Q22:CSh Tryz.prog 244 false 1:=⟨shp Tryz.underlying244 rfl Qrg.h⟩
instance Qy7:CTy Tryz.prog 296 2 16 (.agg #[.int .i64 0,.int .i64 0]):=⟨tyI (by kernel_rfl)⟩
instance Q0f:CFd Tryz.prog 298 0 0:=⟨fdA Tryz.underlying298 rfl rfl Qy7.h rfl⟩
instance Q0g:CFd Tryz.prog 296 0 0:=⟨fdA Tryz.underlying296 rfl rfl ti_3.h rfl⟩
instance Q0h:CFd Tryz.prog 296 1 1:=⟨fdA Tryz.underlying296 rfl rfl ti_3.h rfl⟩
instance Q0i:CFd Tryz.prog 298 1 2:=⟨fdA Tryz.underlying298 rfl rfl ti_3.h rfl⟩
instance Q0j:CFd Tryz.prog 247 1 11:=⟨fdA Tryz.underlying247 rfl rfl ti_53.h rfl⟩
instance Qmx:CTy Tryz.prog 335 5 104 (.agg #[.bool false,.slice none 0 0,.slice none 0 0,.slice none 0 0,.slice none 0 0]):=⟨tyI (by kernel_rfl)⟩
theorem Qf6:Zr (Y2 (⟨(⟨(⟨false,[]⟩:Qd),[]⟩:Qa),[],[]⟩:V3)) [.bool false,.slice none 0 0,.slice none 0 0,.slice none 0 0,.slice none 0 0]:=K9 (Qk (c1:=[.bool false,.slice none 0 0,.slice none 0 0]) Jb (Qk (c1:=[.slice none 0 0]) (Kv (k:=3)) (Qk (c1:=[.slice none 0 0]) (Kv (k:=3)) (Kd))))
instance:CZy Tryz.prog 335 (Y2 (⟨(⟨(⟨false,[]⟩:Qd),[]⟩:Qa),[],[]⟩:V3)):=⟨_,_,_,Qmx.h,Qf6⟩
instance Qvb:CPl Tryz.prog 335 [(0,3),(3,1),(4,1)]:=⟨⟨_,Tryz.underlying335,by kernel_rfl⟩⟩
instance Q23:CSh Tryz.prog 335 true 5:=⟨shp Tryz.underlying335 rfl Qmx.h⟩
instance Q0k:CFd Tryz.prog 335 0 0:=⟨fdA Tryz.underlying335 rfl rfl ti_53.h rfl⟩
instance Q0l:CFd Tryz.prog 335 1 3:=⟨fdA Tryz.underlying335 rfl rfl ti_44.h rfl⟩
instance Q0m:CFd Tryz.prog 335 2 4:=⟨fdA Tryz.underlying335 rfl rfl ti_44.h rfl⟩
instance Qrh:CTy Tryz.prog 393 1 8 (.agg #[.pointer none]):=⟨tyI (by kernel_rfl)⟩
instance Qy8:CPl Tryz.prog 393 [(0,1)]:=⟨⟨_,Tryz.underlying393,by kernel_rfl⟩⟩
instance Qri:CTy Tryz.prog 395 1 8 (.agg #[.pointer none]):=⟨tyI (by kernel_rfl)⟩
instance Qy9:CPl Tryz.prog 395 [(0,1)]:=⟨⟨_,Tryz.underlying395,by kernel_rfl⟩⟩
instance Q24:CSh Tryz.prog 395 true 1:=⟨shp Tryz.underlying395 rfl Qri.h⟩
instance Qvc:CTy Tryz.prog 397 5 104 (.agg #[.bool false,.slice none 0 0,.slice none 0 0,.slice none 0 0,.slice none 0 0]):=⟨tyI (by kernel_rfl)⟩
instance Qza:CPl Tryz.prog 397 [(0,3),(3,1),(4,1)]:=⟨⟨_,Tryz.underlying397,by kernel_rfl⟩⟩
theorem Qg1:Zr (Vo (⟨(⟨(⟨false,[]⟩:Qd),[]⟩:Qa),[],[]⟩:Vm)) [.bool false,.slice none 0 0,.slice none 0 0,.slice none 0 0,.slice none 0 0]:=K9 (Qk (c1:=[.bool false,.slice none 0 0,.slice none 0 0]) Jb (Qk (c1:=[.slice none 0 0]) (Kv (k:=3)) (Qk (c1:=[.slice none 0 0]) (Kv (k:=3)) (Kd))))
instance Q0n:CFd Tryz.prog 397 1 3:=⟨fdA Tryz.underlying397 rfl rfl ti_44.h rfl⟩
instance Q0o:CFd Tryz.prog 397 2 4:=⟨fdA Tryz.underlying397 rfl rfl ti_44.h rfl⟩
instance Q25:CSh Tryz.prog 397 true 5:=⟨shp Tryz.underlying397 rfl Qvc.h⟩
instance Q0p:CFd Tryz.prog 395 0 0:=⟨fdA Tryz.underlying395 rfl rfl Qrh.h rfl⟩
instance Qfs:CSh Tryz.prog 393 true 1:=⟨shp Tryz.underlying393 rfl Qrh.h⟩
theorem Qtw:MethF Tryz.prog 393 "Neg" 372:=⟨by kernel_rfl,_,Tryz.underlying393⟩
theorem Qtx:MethF Tryz.prog 393 "Pow" 374:=⟨by kernel_rfl,_,Tryz.underlying393⟩
theorem Qty:MethF Tryz.prog 393 "Add" 369:=⟨by kernel_rfl,_,Tryz.underlying393⟩
theorem Qtz:MethF Tryz.prog 393 "Sub" 376:=⟨by kernel_rfl,_,Tryz.underlying393⟩
theorem Qt0:MethF Tryz.prog 393 "Mul" 371:=⟨by kernel_rfl,_,Tryz.underlying393⟩
theorem Qt1:MethF Tryz.prog 393 "Quo" 375:=⟨by kernel_rfl,_,Tryz.underlying393⟩
theorem Qvd:MethF Tryz.prog 393 "Of" 373:=⟨by kernel_rfl,_,Tryz.underlying393⟩
instance Q0q:CFd Tryz.prog 397 0 0:=⟨fdA Tryz.underlying397 rfl rfl ti_53.h rfl⟩
theorem Qsp:MethF Tryz.prog 393 "Fits" 370:=⟨by kernel_rfl,_,Tryz.underlying393⟩
instance Q0r:CFd Tryz.prog 393 0 0:=⟨fdA Tryz.underlying393 rfl rfl Qrg.h rfl⟩
instance Q2l:CFd Tryz.prog 63 2 2:=⟨fdA Tryz.underlying63 rfl rfl ti_3.h rfl⟩
instance Q0s:CFd Tryz.prog 183 0 0:=⟨fdA Tryz.underlying183 rfl rfl ti_45.h rfl⟩
instance Q0t:CFd Tryz.prog 183 2 2:=⟨fdA Tryz.underlying183 rfl rfl ti_44.h rfl⟩
instance Q0u:CFd Tryz.prog 183 3 3:=⟨fdA Tryz.underlying183 rfl rfl ti_44.h rfl⟩
instance Q2m:CFd Tryz.prog 63 1 1:=⟨fdA Tryz.underlying63 rfl rfl ti_3.h rfl⟩
instance ti_82:CTy Tryz.prog 82 14 256 (.agg #[.bool false,.slice none 0 0,.slice none 0 0,.bool false,.slice none 0 0,.slice none 0 0,.bool false,.slice none 0 0,.slice none 0 0,.bool false,.slice none 0 0,.slice none 0 0,.slice none 0 0,.bool false]):=⟨tyI (by kernel_rfl)⟩
instance pl_82:CPl Tryz.prog 82 [(0,3),(3,3),(6,3),(9,3),(12,1),(13,1)]:=⟨⟨_,Tryz.underlying82,by kernel_rfl⟩⟩
theorem Qfi:Zr (Qz (⟨(⟨(⟨false,[]⟩:Qd),[]⟩:Qa),(⟨(⟨false,[]⟩:Qd),[]⟩:Qa),(⟨(⟨false,[]⟩:Qd),[]⟩:Qa),(⟨(⟨false,[]⟩:Qd),[]⟩:Qa),[],false⟩:Qp)) [.bool false,.slice none 0 0,.slice none 0 0,.bool false,.slice none 0 0,.slice none 0 0,.bool false,.slice none 0 0,.slice none 0 0,.bool false,.slice none 0 0,.slice none 0 0,.slice none 0 0,.bool false]:=K9 (Qk (c1:=[.bool false,.slice none 0 0,.slice none 0 0]) Jb (Qk (c1:=[.bool false,.slice none 0 0,.slice none 0 0]) Jb (Qk (c1:=[.bool false,.slice none 0 0,.slice none 0 0]) Jb (Qk (c1:=[.bool false,.slice none 0 0,.slice none 0 0]) Jb (Qk (c1:=[.slice none 0 0]) (Kv (k:=3)) (Qk (c1:=[.bool false]) zr_bl (Kd)))))))
instance:CZy Tryz.prog 82 (Qz (⟨(⟨(⟨false,[]⟩:Qd),[]⟩:Qa),(⟨(⟨false,[]⟩:Qd),[]⟩:Qa),(⟨(⟨false,[]⟩:Qd),[]⟩:Qa),(⟨(⟨false,[]⟩:Qd),[]⟩:Qa),[],false⟩:Qp)):=⟨_,_,_,ti_82.h,Qfi⟩
instance sh_82:CSh Tryz.prog 82 true 14:=⟨shp Tryz.underlying82 rfl ti_82.h⟩
instance Q2n:CFd Tryz.prog 82 5 13:=⟨fdA Tryz.underlying82 rfl rfl ti_4.h rfl⟩
theorem Qxm:∃ fs F,Tryz.prog.underlying 51=some (.struct fs)∧fs[1]?=some F∧F.offset=1∧Shp Tryz.prog F.type false 1:=⟨_,_,Tryz.underlying51,rfl,rfl,sh_32.h⟩
instance Q2o:CFd Tryz.prog 82 3 9:=⟨fdA Tryz.underlying82 rfl rfl ti_53.h rfl⟩
instance:CZy Tryz.prog 49 (Qv (⟨(⟨[],[],0,0⟩:Qr),(⟨[],[],[],[],[]⟩:Qj),[],0⟩:Qg)):=⟨_,_,_,ti_49.h,Zt⟩
instance Q2p:CFd Tryz.prog 25 2 2:=⟨fdA Tryz.underlying25 rfl rfl ti_3.h rfl⟩
instance Q2q:CFd Tryz.prog 25 3 3:=⟨fdA Tryz.underlying25 rfl rfl ti_3.h rfl⟩
instance Q26:CSh Tryz.prog 232 true 6:=⟨shp Tryz.underlying232 rfl Qu5.h⟩
theorem Qhe:Zr (Qo (⟨false,[],[]⟩:Qf)) [.bool false,.slice none 0 0,.slice none 0 0]:=K9 (Qk (c1:=[.bool false]) zr_bl (Qk (c1:=[.slice none 0 0]) (Kv (k:=1)) (Qk (c1:=[.slice none 0 0]) (Kv (k:=1)) (Kd))))
theorem Qhf:Zr (Xx (⟨0,0,0,(⟨false,[],[]⟩:Qf)⟩:Jr)) [.int .i64 0,.int .i64 0,.int .i64 0,.bool false,.slice none 0 0,.slice none 0 0]:=K9 (Qk (c1:=[.int .i64 0]) Vj (Qk (c1:=[.int .i64 0]) Vj (Qk (c1:=[.int .i64 0]) Vj (Qk (c1:=[.bool false,.slice none 0 0,.slice none 0 0]) Qhe (Kd)))))
instance:CZy Tryz.prog 232 (Xx (⟨0,0,0,(⟨false,[],[]⟩:Qf)⟩:Jr)):=⟨_,_,_,Qu5.h,Qhf⟩
instance Q0v:CFd Tryz.prog 232 0 0:=⟨fdA Tryz.underlying232 rfl rfl ti_3.h rfl⟩
instance Q0w:CFd Tryz.prog 232 1 1:=⟨fdA Tryz.underlying232 rfl rfl ti_3.h rfl⟩
instance Q0x:CFd Tryz.prog 232 2 2:=⟨fdA Tryz.underlying232 rfl rfl ti_3.h rfl⟩
instance Q2r:CFd Tryz.prog 34 0 0:=⟨fdA Tryz.underlying34 rfl rfl ti_4.h rfl⟩
instance Q2s:CFd Tryz.prog 36 5 15:=⟨fdA Tryz.underlying36 rfl rfl ti_3.h rfl⟩
instance Q2t:CFd Tryz.prog 82 0 0:=⟨fdA Tryz.underlying82 rfl rfl ti_53.h rfl⟩
instance Q2u:CFd Tryz.prog 82 1 3:=⟨fdA Tryz.underlying82 rfl rfl ti_53.h rfl⟩
instance Q2v:CFd Tryz.prog 82 2 6:=⟨fdA Tryz.underlying82 rfl rfl ti_53.h rfl⟩
instance Q2w:CFd Tryz.prog 82 4 12:=⟨fdA Tryz.underlying82 rfl rfl ti_44.h rfl⟩
end Go.Proofs.YtlihkcaoachkdaaGreatDoor
