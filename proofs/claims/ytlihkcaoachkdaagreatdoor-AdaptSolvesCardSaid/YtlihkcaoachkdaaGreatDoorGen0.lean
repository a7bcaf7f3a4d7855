import Derived.Test.YtlihkcaoachkdaaGreatDoorMod
import Derived.Test.YtlihkcaoachkdaaGreatDoorSC
import Derived.Test.YtlihkcaoachkdaaGreatDoorLib
import Derived.Test.YtlihkcaoachkdaaGreatDoorChecked
set_option maxRecDepth 100000
set_option maxHeartbeats 4000000
namespace Go.Proofs.YtlihkcaoachkdaaGreatDoor
open Go Go.RowKit
theorem ownK:ownKnob Tryz.prog.godebug=none:=by kernel_rfl
theorem laidOutK:laidOutB Tryz.prog=true:=by kernel_rfl
abbrev Qc0(xs:List Nat):Ly:=sli 1 (xs.map u32)
abbrev Qc(x:Qa):Ly:=.agg [bl x.Neg,Qc0 x.N,Qc0 x.D]
abbrev J3(x:Js):Ly:=.agg [i64 x.Op,i64 x.A,i64 x.B,Qc x.N]
abbrev Qg1(xs:List Js):Ly:=sli 6 (xs.map J3)
abbrev Qw7(xs:List Int):Ly:=sli 1 (xs.map i64)
abbrev Jh(x:Q6):Ly:=.agg [Qg1 x.Code,Qw7 x.Outs,i64 x.Dim,i64 x.Par]
abbrev Qi(xs:List Qa):Ly:=sli 3 (xs.map Qc)
abbrev Qag(xs:List (List Qa)):Ly:=sli 1 (xs.map Qi)
abbrev Q8(x:Q3):Ly:=.agg [str x.Name,Qi x.C,Qag x.A,Qi x.B,Qi x.E]
abbrev Kd(x:Qv):Ly:=.agg [Jh x.Tape,Q8 x.Scheme,Qi x.P,i64 x.Bits]
abbrev Kg(x:Je):Ly:=.agg [Qc x.Tol,Qc x.Safe,Qc x.Low,Qc x.High,Qc x.Least,i64 x.Fine,i64 x.Most]
abbrev Jo(x:Q0):Ly:=.agg [Kd x.Problem,Kg x.Rules,Qc x.Start,Qc x.End,Qc x.First,Qi x.Y]
abbrev Q2(x:Qf):Ly:=.agg [bl x.Neg,Qc0 x.Abs]
abbrev Qd(x:Qb):Ly:=.agg [Q2 x.Num,Qc0 x.Den]
theorem J4{a0_0_ a0_1_ a1_}:IF (.agg [.agg [bl a0_0_,sli 1 a0_1_],sli 1 a1_]):=Qpw (Qa0 (Qpw (Qa0 if_bl (Qa0 Qlc (Qkh)))) (Qa0 Qlc (Qkh)))
abbrev Vg(x:Q5):Ly:=.agg [i64 x.Op,i64 x.A,i64 x.B,Qd x.N]
abbrev Qzc(xs:List Q5):Ly:=sli 6 (xs.map Vg)
abbrev K8(x:Q1):Ly:=.agg [Qzc x.Code,Qw7 x.Outs,i64 x.Dim,i64 x.Par]
abbrev Qj(xs:List Qb):Ly:=sli 3 (xs.map Qd)
abbrev Qjw(xs:List (List Qb)):Ly:=sli 1 (xs.map Qj)
abbrev Jm(x:Qq):Ly:=.agg [str x.Name,Qj x.C,Qjw x.A,Qj x.B,Qj x.E]
abbrev Jg(x:Qw):Ly:=.agg [K8 x.Tape,Jm x.Scheme,Qj x.P,i64 x.Bits]
abbrev Vv(x:Ja):Ly:=.agg [Qd x.Tol,Qd x.Safe,Qd x.Low,Qd x.High,Qd x.Least,i64 x.Fine,i64 x.Most]
abbrev Ke(x:Jq):Ly:=.agg [Jg x.Problem,Vv x.Rules,Qd x.Start,Qd x.End,Qd x.First,Qj x.Y]
abbrev Qk5(x:Qhv):Ly:=.agg [str x.a0,str x.a1,str x.a2,str x.a3,str x.a4,str x.a5]
abbrev Qp(x:Qe):Ly:=.agg [i64 x.Kind,i64 x.Step,i64 x.Stage,i64 x.At]
theorem Qc1{a0_ a1_ a2_ a3_}:IF (.agg [i64 a0_,i64 a1_,i64 a2_,i64 a3_]):=Qpw (Qa0 Qdt (Qa0 Qdt (Qa0 Qdt (Qa0 Qdt (Qkh)))))
abbrev J8(x:Jl):Ly:=.agg [str x.rest,i64 x.at_,bl x.over]
abbrev Qq3(x:Qg9):Ly:=.agg [i64 x.Kind,str x.Text,i64 x.At]
abbrev Kq(x:Jf):Ly:=.agg [Qd x.T,Qd x.Want,Qd x.H,Qd x.Err,Qj x.Y,bl x.Ok]
abbrev Q0j(xs:List Jf):Ly:=sli 14 (xs.map Kq)
abbrev Kr(x:Ji):Ly:=.agg [Q0j x.Tries,Qd x.T,Qj x.Y]
abbrev Qko(x:Ko):Ly:=.agg [i64 x.op,i64 x.a,i64 x.b]
abbrev Qw8(x:Qpy):Ly:=.agg [Ke x.k,Kr x.h,Qd x.want]
abbrev Qk6(x:Qay):Ly:=.agg [Qjw x.Ys,Qjw x.Ks,Qj x.Next,Qj x.Err]
abbrev Qly(x:Qac):Ly:=.agg [i64 x.Seen,i64 x.Peak]
abbrev Qs(x:Qn):Ly:=.agg [Qly x.Count,i64 x.limit]
theorem Kw{a0_0_ a0_1_ a1_}:IF (.agg [.agg [i64 a0_0_,i64 a0_1_],i64 a1_]):=Qpw (Qa0 (Qpw (Qa0 Qdt (Qa0 Qdt (Qkh)))) (Qa0 Qdt (Qkh)))
abbrev Qc8(x:Y4):Ly:=.agg [Qd x.T,Qj x.Y,Qj x.P]
abbrev X0(x:Xx):Ly:=.agg [Qd x.T,Qj x.Y,Qj x.P]
abbrev Ql(x:Qg):Ly:=.agg [i64 x.Kind,str x.Text,i64 x.At]
abbrev Qx(x:Qk):Ly:=.agg [bl x.Neg,Qc0 x.Abs]
abbrev Jy(x:Qr):Ly:=.agg [Qc x.T,Qc x.Want,Qc x.H,Qc x.Err,Qi x.Y,bl x.Ok]
abbrev Qnw(xs:List Qr):Ly:=sli 14 (xs.map Jy)
abbrev Qz(x:Qm):Ly:=.agg [Qnw x.Tries,Qc x.T,Qi x.Y]
abbrev Qfo(x:X7):Ly:=.agg [i64 x.a0,i64 x.a1,i64 x.a2,i64 x.a3]
abbrev Yn(x:Q9):Ly:=.agg [Qag x.Ys,Qag x.Ks,Qi x.Next,Qi x.Err]
abbrev Qkp(x:Yr):Ly:=.agg [i64 x.a0,i64 x.a1,i64 x.a2]
abbrev X4(x:W3):Ly:=.agg [Qc x.T,Qi x.Y,Qi x.P]
instance ti_38:CTy Tryz.prog 38 38 696 (.agg #[.slice none 0 0,.slice none 0 0,.int .i64 0,.int .i64 0,.string ⟨#[]⟩,.slice none 0 0,.slice none 0 0,.slice none 0 0,.slice none 0 0,.slice none 0 0,.int .i64 0,.bool false,.slice none 0 0,.slice none 0 0,.bool false,.slice none 0 0,.slice none 0 0,.bool false,.slice none 0 0,.slice none 0 0,.bool false,.slice none 0 0,.slice none 0 0,.bool false,.slice none 0 0,.slice none 0 0,.int .i64 0,.int .i64 0,.bool false,.slice none 0 0,.slice none 0 0,.bool false,.slice none 0 0,.slice none 0 0,.bool false,.slice none 0 0,.slice none 0 0,.slice none 0 0]):=⟨tyI (by kernel_rfl)⟩
instance sh_38:CSh Tryz.prog 38 true 38:=⟨shp Tryz.underlying38 rfl ti_38.h⟩
instance ti_31:CTy Tryz.prog 31 11 208 (.agg #[.slice none 0 0,.slice none 0 0,.int .i64 0,.int .i64 0,.string ⟨#[]⟩,.slice none 0 0,.slice none 0 0,.slice none 0 0,.slice none 0 0,.slice none 0 0,.int .i64 0]):=⟨tyI (by kernel_rfl)⟩
instance Jb9:CFd Tryz.prog 38 0 0:=⟨fdA Tryz.underlying38 rfl rfl ti_31.h rfl⟩
instance sh_31:CSh Tryz.prog 31 true 11:=⟨shp Tryz.underlying31 rfl ti_31.h⟩
instance ti_25:CTy Tryz.prog 25 4 64 (.agg #[.slice none 0 0,.slice none 0 0,.int .i64 0,.int .i64 0]):=⟨tyI (by kernel_rfl)⟩
instance Jca:CFd Tryz.prog 31 0 0:=⟨fdA Tryz.underlying31 rfl rfl ti_25.h rfl⟩
instance sh_25:CSh Tryz.prog 25 true 4:=⟨shp Tryz.underlying25 rfl ti_25.h⟩
instance ti_22:CTy Tryz.prog 22 1 24 (.slice none 0 0):=⟨tyI (by kernel_rfl)⟩
instance Jcb:CFd Tryz.prog 25 0 0:=⟨fdA Tryz.underlying25 rfl rfl ti_22.h rfl⟩
instance:CUn Tryz.prog 22 (.slice 232):=⟨Tryz.underlying22⟩
instance sh_22:CSh Tryz.prog 22 false 1:=⟨shp Tryz.underlying22 rfl ti_22.h⟩
instance Q4r:CTy Tryz.prog 232 6 80 (.agg #[.int .i64 0,.int .i64 0,.int .i64 0,.bool false,.slice none 0 0,.slice none 0 0]):=⟨tyI (by kernel_rfl)⟩
instance ti_34:CTy Tryz.prog 34 3 56 (.agg #[.bool false,.slice none 0 0,.slice none 0 0]):=⟨tyI (by kernel_rfl)⟩
instance Jap:CFd Tryz.prog 232 3 3:=⟨fdA Tryz.underlying232 rfl rfl ti_34.h rfl⟩
instance sh_34:CSh Tryz.prog 34 true 3:=⟨shp Tryz.underlying34 rfl ti_34.h⟩
instance ti_32:CTy Tryz.prog 32 1 24 (.slice none 0 0):=⟨tyI (by kernel_rfl)⟩
instance Jcc:CFd Tryz.prog 34 1 1:=⟨fdA Tryz.underlying34 rfl rfl ti_32.h rfl⟩
instance:CUn Tryz.prog 32 (.slice 189):=⟨Tryz.underlying32⟩
instance sh_32:CSh Tryz.prog 32 false 1:=⟨shp Tryz.underlying32 rfl ti_32.h⟩
instance Jcd:CFd Tryz.prog 34 2 2:=⟨fdA Tryz.underlying34 rfl rfl ti_32.h rfl⟩
instance ti_23:CTy Tryz.prog 23 1 24 (.slice none 0 0):=⟨tyI (by kernel_rfl)⟩
instance Jce:CFd Tryz.prog 25 1 1:=⟨fdA Tryz.underlying25 rfl rfl ti_23.h rfl⟩
instance:CUn Tryz.prog 23 (.slice 3):=⟨Tryz.underlying23⟩
instance sh_23:CSh Tryz.prog 23 false 1:=⟨shp Tryz.underlying23 rfl ti_23.h⟩
instance ti_29:CTy Tryz.prog 29 5 112 (.agg #[.string ⟨#[]⟩,.slice none 0 0,.slice none 0 0,.slice none 0 0,.slice none 0 0]):=⟨tyI (by kernel_rfl)⟩
instance Jcf:CFd Tryz.prog 31 1 4:=⟨fdA Tryz.underlying31 rfl rfl ti_29.h rfl⟩
instance sh_29:CSh Tryz.prog 29 true 5:=⟨shp Tryz.underlying29 rfl ti_29.h⟩
instance ti_9:CTy Tryz.prog 9 1 16 (.string ⟨#[]⟩):=⟨tyI (by kernel_rfl)⟩
instance Jcg:CFd Tryz.prog 29 0 0:=⟨fdA Tryz.underlying29 rfl rfl ti_9.h rfl⟩
instance:CUn Tryz.prog 9 (.string):=⟨Tryz.underlying9⟩
instance sh_9:CSh Tryz.prog 9 false 1:=⟨shp Tryz.underlying9 rfl ti_9.h⟩
instance ti_27:CTy Tryz.prog 27 1 24 (.slice none 0 0):=⟨tyI (by kernel_rfl)⟩
instance Jch:CFd Tryz.prog 29 2 2:=⟨fdA Tryz.underlying29 rfl rfl ti_27.h rfl⟩
instance:CUn Tryz.prog 27 (.slice 26):=⟨Tryz.underlying27⟩
instance sh_27:CSh Tryz.prog 27 false 1:=⟨shp Tryz.underlying27 rfl ti_27.h⟩
instance ti_26:CTy Tryz.prog 26 1 24 (.slice none 0 0):=⟨tyI (by kernel_rfl)⟩
instance Jci:CFd Tryz.prog 29 3 3:=⟨fdA Tryz.underlying29 rfl rfl ti_26.h rfl⟩
instance:CUn Tryz.prog 26 (.slice 34):=⟨Tryz.underlying26⟩
instance sh_26:CSh Tryz.prog 26 false 1:=⟨shp Tryz.underlying26 rfl ti_26.h⟩
instance Jcj:CFd Tryz.prog 29 1 1:=⟨fdA Tryz.underlying29 rfl rfl ti_26.h rfl⟩
instance Jck:CFd Tryz.prog 29 4 4:=⟨fdA Tryz.underlying29 rfl rfl ti_26.h rfl⟩
instance Jcl:CFd Tryz.prog 31 2 9:=⟨fdA Tryz.underlying31 rfl rfl ti_26.h rfl⟩
instance ti_3:CTy Tryz.prog 3 1 8 (.int .i64 0):=⟨tyI (by kernel_rfl)⟩
instance Jcm:CFd Tryz.prog 31 3 10:=⟨fdA Tryz.underlying31 rfl rfl ti_3.h rfl⟩
instance:CUn Tryz.prog 3 (.int .i64):=⟨Tryz.underlying3⟩
instance sh_3:CSh Tryz.prog 3 false 1:=⟨shp Tryz.underlying3 rfl ti_3.h⟩
instance ti_36:CTy Tryz.prog 36 17 296 (.agg #[.bool false,.slice none 0 0,.slice none 0 0,.bool false,.slice none 0 0,.slice none 0 0,.bool false,.slice none 0 0,.slice none 0 0,.bool false,.slice none 0 0,.slice none 0 0,.bool false,.slice none 0 0,.slice none 0 0,.int .i64 0,.int .i64 0]):=⟨tyI (by kernel_rfl)⟩
instance Jcn:CFd Tryz.prog 38 1 11:=⟨fdA Tryz.underlying38 rfl rfl ti_36.h rfl⟩
instance sh_36:CSh Tryz.prog 36 true 17:=⟨shp Tryz.underlying36 rfl ti_36.h⟩
instance Jco:CFd Tryz.prog 36 0 0:=⟨fdA Tryz.underlying36 rfl rfl ti_34.h rfl⟩
instance Jcp:CFd Tryz.prog 36 1 3:=⟨fdA Tryz.underlying36 rfl rfl ti_34.h rfl⟩
instance Jcq:CFd Tryz.prog 36 2 6:=⟨fdA Tryz.underlying36 rfl rfl ti_34.h rfl⟩
instance Jcr:CFd Tryz.prog 36 3 9:=⟨fdA Tryz.underlying36 rfl rfl ti_34.h rfl⟩
instance Jcs:CFd Tryz.prog 36 4 12:=⟨fdA Tryz.underlying36 rfl rfl ti_34.h rfl⟩
instance Jct:CFd Tryz.prog 36 6 16:=⟨fdA Tryz.underlying36 rfl rfl ti_3.h rfl⟩
instance Jcu:CFd Tryz.prog 38 2 28:=⟨fdA Tryz.underlying38 rfl rfl ti_34.h rfl⟩
instance Jcv:CFd Tryz.prog 38 3 31:=⟨fdA Tryz.underlying38 rfl rfl ti_34.h rfl⟩
instance Jcw:CFd Tryz.prog 38 4 34:=⟨fdA Tryz.underlying38 rfl rfl ti_34.h rfl⟩
instance Jcx:CFd Tryz.prog 38 5 37:=⟨fdA Tryz.underlying38 rfl rfl ti_26.h rfl⟩
instance ti_57:CTy Tryz.prog 57 38 696 (.agg #[.slice none 0 0,.slice none 0 0,.int .i64 0,.int .i64 0,.string ⟨#[]⟩,.slice none 0 0,.slice none 0 0,.slice none 0 0,.slice none 0 0,.slice none 0 0,.int .i64 0,.bool false,.slice none 0 0,.slice none 0 0,.bool false,.slice none 0 0,.slice none 0 0,.bool false,.slice none 0 0,.slice none 0 0,.bool false,.slice none 0 0,.slice none 0 0,.bool false,.slice none 0 0,.slice none 0 0,.int .i64 0,.int .i64 0,.bool false,.slice none 0 0,.slice none 0 0,.bool false,.slice none 0 0,.slice none 0 0,.bool false,.slice none 0 0,.slice none 0 0,.slice none 0 0]):=⟨tyI (by kernel_rfl)⟩
theorem Vp:Zr (Q2 (⟨false,[]⟩:Qf)) [.bool false,.slice none 0 0]:=K9 (Qh (c1:=[.bool false]) zr_bl (Qh (c1:=[.slice none 0 0]) (J6 (k:=1)) (Kc)))
theorem Jz:Zr (Qd (⟨(⟨false,[]⟩:Qf),[]⟩:Qb)) [.bool false,.slice none 0 0,.slice none 0 0]:=K9 (Qh (c1:=[.bool false,.slice none 0 0]) Vp (Qh (c1:=[.slice none 0 0]) (J6 (k:=1)) (Kc)))
theorem Qig:Zr (Vv (⟨(⟨(⟨false,[]⟩:Qf),[]⟩:Qb),(⟨(⟨false,[]⟩:Qf),[]⟩:Qb),(⟨(⟨false,[]⟩:Qf),[]⟩:Qb),(⟨(⟨false,[]⟩:Qf),[]⟩:Qb),(⟨(⟨false,[]⟩:Qf),[]⟩:Qb),0,0⟩:Ja)) [.bool false,.slice none 0 0,.slice none 0 0,.bool false,.slice none 0 0,.slice none 0 0,.bool false,.slice none 0 0,.slice none 0 0,.bool false,.slice none 0 0,.slice none 0 0,.bool false,.slice none 0 0,.slice none 0 0,.int .i64 0,.int .i64 0]:=K9 (Qh (c1:=[.bool false,.slice none 0 0,.slice none 0 0]) Jz (Qh (c1:=[.bool false,.slice none 0 0,.slice none 0 0]) Jz (Qh (c1:=[.bool false,.slice none 0 0,.slice none 0 0]) Jz (Qh (c1:=[.bool false,.slice none 0 0,.slice none 0 0]) Jz (Qh (c1:=[.bool false,.slice none 0 0,.slice none 0 0]) Jz (Qh (c1:=[.int .i64 0]) Vb (Qh (c1:=[.int .i64 0]) Vb (Kc))))))))
theorem Qal:Zr (Jm (⟨[],[],[],[],[]⟩:Qq)) [.string ⟨#[]⟩,.slice none 0 0,.slice none 0 0,.slice none 0 0,.slice none 0 0]:=K9 (Qh (c1:=[.string ⟨#[]⟩]) Qfs (Qh (c1:=[.slice none 0 0]) (J6 (k:=3)) (Qh (c1:=[.slice none 0 0]) (J6 (k:=1)) (Qh (c1:=[.slice none 0 0]) (J6 (k:=3)) (Qh (c1:=[.slice none 0 0]) (J6 (k:=3)) (Kc))))))
theorem Qm0:Zr (K8 (⟨[],[],0,0⟩:Q1)) [.slice none 0 0,.slice none 0 0,.int .i64 0,.int .i64 0]:=K9 (Qh (c1:=[.slice none 0 0]) (J6 (k:=6)) (Qh (c1:=[.slice none 0 0]) (J6 (k:=1)) (Qh (c1:=[.int .i64 0]) Vb (Qh (c1:=[.int .i64 0]) Vb (Kc)))))
theorem Qd3:Zr (Jg (⟨(⟨[],[],0,0⟩:Q1),(⟨[],[],[],[],[]⟩:Qq),[],0⟩:Qw)) [.slice none 0 0,.slice none 0 0,.int .i64 0,.int .i64 0,.string ⟨#[]⟩,.slice none 0 0,.slice none 0 0,.slice none 0 0,.slice none 0 0,.slice none 0 0,.int .i64 0]:=K9 (Qh (c1:=[.slice none 0 0,.slice none 0 0,.int .i64 0,.int .i64 0]) Qm0 (Qh (c1:=[.string ⟨#[]⟩,.slice none 0 0,.slice none 0 0,.slice none 0 0,.slice none 0 0]) Qal (Qh (c1:=[.slice none 0 0]) (J6 (k:=3)) (Qh (c1:=[.int .i64 0]) Vb (Kc)))))
theorem Qih:Zr (Ke (⟨(⟨(⟨[],[],0,0⟩:Q1),(⟨[],[],[],[],[]⟩:Qq),[],0⟩:Qw),(⟨(⟨(⟨false,[]⟩:Qf),[]⟩:Qb),(⟨(⟨false,[]⟩:Qf),[]⟩:Qb),(⟨(⟨false,[]⟩:Qf),[]⟩:Qb),(⟨(⟨false,[]⟩:Qf),[]⟩:Qb),(⟨(⟨false,[]⟩:Qf),[]⟩:Qb),0,0⟩:Ja),(⟨(⟨false,[]⟩:Qf),[]⟩:Qb),(⟨(⟨false,[]⟩:Qf),[]⟩:Qb),(⟨(⟨false,[]⟩:Qf),[]⟩:Qb),[]⟩:Jq)) [.slice none 0 0,.slice none 0 0,.int .i64 0,.int .i64 0,.string ⟨#[]⟩,.slice none 0 0,.slice none 0 0,.slice none 0 0,.slice none 0 0,.slice none 0 0,.int .i64 0,.bool false,.slice none 0 0,.slice none 0 0,.bool false,.slice none 0 0,.slice none 0 0,.bool false,.slice none 0 0,.slice none 0 0,.bool false,.slice none 0 0,.slice none 0 0,.bool false,.slice none 0 0,.slice none 0 0,.int .i64 0,.int .i64 0,.bool false,.slice none 0 0,.slice none 0 0,.bool false,.slice none 0 0,.slice none 0 0,.bool false,.slice none 0 0,.slice none 0 0,.slice none 0 0]:=K9 (Qh (c1:=[.slice none 0 0,.slice none 0 0,.int .i64 0,.int .i64 0,.string ⟨#[]⟩,.slice none 0 0,.slice none 0 0,.slice none 0 0,.slice none 0 0,.slice none 0 0,.int .i64 0]) Qd3 (Qh (c1:=[.bool false,.slice none 0 0,.slice none 0 0,.bool false,.slice none 0 0,.slice none 0 0,.bool false,.slice none 0 0,.slice none 0 0,.bool false,.slice none 0 0,.slice none 0 0,.bool false,.slice none 0 0,.slice none 0 0,.int .i64 0,.int .i64 0]) Qig (Qh (c1:=[.bool false,.slice none 0 0,.slice none 0 0]) Jz (Qh (c1:=[.bool false,.slice none 0 0,.slice none 0 0]) Jz (Qh (c1:=[.bool false,.slice none 0 0,.slice none 0 0]) Jz (Qh (c1:=[.slice none 0 0]) (J6 (k:=3)) (Kc)))))))
instance:CZy Tryz.prog 57 (Ke (⟨(⟨(⟨[],[],0,0⟩:Q1),(⟨[],[],[],[],[]⟩:Qq),[],0⟩:Qw),(⟨(⟨(⟨false,[]⟩:Qf),[]⟩:Qb),(⟨(⟨false,[]⟩:Qf),[]⟩:Qb),(⟨(⟨false,[]⟩:Qf),[]⟩:Qb),(⟨(⟨false,[]⟩:Qf),[]⟩:Qb),(⟨(⟨false,[]⟩:Qf),[]⟩:Qb),0,0⟩:Ja),(⟨(⟨false,[]⟩:Qf),[]⟩:Qb),(⟨(⟨false,[]⟩:Qf),[]⟩:Qb),(⟨(⟨false,[]⟩:Qf),[]⟩:Qb),[]⟩:Jq)):=⟨_,_,_,ti_57.h,Qih⟩
instance Qpz:CTy Tryz.prog 164 6 80 (.agg #[.int .i64 0,.int .i64 0,.int .i64 0,.bool false,.slice none 0 0,.slice none 0 0]):=⟨tyI (by kernel_rfl)⟩
instance Q4s:CPl Tryz.prog 164 [(0,1),(1,1),(2,1),(3,3)]:=⟨⟨_,Tryz.underlying164,by kernel_rfl⟩⟩
theorem Qm1:Zr (Vg (⟨0,0,0,(⟨(⟨false,[]⟩:Qf),[]⟩:Qb)⟩:Q5)) [.int .i64 0,.int .i64 0,.int .i64 0,.bool false,.slice none 0 0,.slice none 0 0]:=K9 (Qh (c1:=[.int .i64 0]) Vb (Qh (c1:=[.int .i64 0]) Vb (Qh (c1:=[.int .i64 0]) Vb (Qh (c1:=[.bool false,.slice none 0 0,.slice none 0 0]) Jz (Kc)))))
instance:CUn Tryz.prog 41 (.slice 164):=⟨Tryz.underlying41⟩
instance ti_43:CTy Tryz.prog 43 4 64 (.agg #[.slice none 0 0,.slice none 0 0,.int .i64 0,.int .i64 0]):=⟨tyI (by kernel_rfl)⟩
instance pl_43:CPl Tryz.prog 43 [(0,1),(1,1),(2,1),(3,1)]:=⟨⟨_,Tryz.underlying43,by kernel_rfl⟩⟩
instance:CZy Tryz.prog 43 (K8 (⟨[],[],0,0⟩:Q1)):=⟨_,_,_,ti_43.h,Qm0⟩
instance sh_43:CSh Tryz.prog 43 true 4:=⟨shp Tryz.underlying43 rfl ti_43.h⟩
instance ti_47:CTy Tryz.prog 47 5 112 (.agg #[.string ⟨#[]⟩,.slice none 0 0,.slice none 0 0,.slice none 0 0,.slice none 0 0]):=⟨tyI (by kernel_rfl)⟩
instance:CZy Tryz.prog 47 (Jm (⟨[],[],[],[],[]⟩:Qq)):=⟨_,_,_,ti_47.h,Qal⟩
instance Q0k:CTy Tryz.prog 233 6 96 (.agg #[.string ⟨#[]⟩,.string ⟨#[]⟩,.string ⟨#[]⟩,.string ⟨#[]⟩,.string ⟨#[]⟩,.string ⟨#[]⟩]):=⟨tyI (by kernel_rfl)⟩
theorem Qsk:Zr (Qk5 (⟨[],[],[],[],[],[]⟩:Qhv)) [.string ⟨#[]⟩,.string ⟨#[]⟩,.string ⟨#[]⟩,.string ⟨#[]⟩,.string ⟨#[]⟩,.string ⟨#[]⟩]:=K9 (Qh (c1:=[.string ⟨#[]⟩]) Qfs (Qh (c1:=[.string ⟨#[]⟩]) Qfs (Qh (c1:=[.string ⟨#[]⟩]) Qfs (Qh (c1:=[.string ⟨#[]⟩]) Qfs (Qh (c1:=[.string ⟨#[]⟩]) Qfs (Qh (c1:=[.string ⟨#[]⟩]) Qfs (Kc)))))))
instance:CZy Tryz.prog 233 (Qk5 (⟨[],[],[],[],[],[]⟩:Qhv)):=⟨_,_,_,Q0k.h,Qsk⟩
instance:CUn Tryz.prog 233 (.array 6 9):=⟨Tryz.underlying233⟩
instance Jeb:CSh Tryz.prog 233 true 6:=⟨shp Tryz.underlying233 rfl Q0k.h⟩
instance ti_63:CTy Tryz.prog 63 4 32 (.agg #[.int .i64 0,.int .i64 0,.int .i64 0,.int .i64 0]):=⟨tyI (by kernel_rfl)⟩
theorem Qt:Zr (Qp (⟨0,0,0,0⟩:Qe)) [.int .i64 0,.int .i64 0,.int .i64 0,.int .i64 0]:=K9 (Qh (c1:=[.int .i64 0]) Vb (Qh (c1:=[.int .i64 0]) Vb (Qh (c1:=[.int .i64 0]) Vb (Qh (c1:=[.int .i64 0]) Vb (Kc)))))
instance:CZy Tryz.prog 63 (Qp (⟨0,0,0,0⟩:Qe)):=⟨_,_,_,ti_63.h,Qt⟩
instance pl_47:CPl Tryz.prog 47 [(0,1),(1,1),(2,1),(3,1),(4,1)]:=⟨⟨_,Tryz.underlying47,by kernel_rfl⟩⟩
instance pl_63:CPl Tryz.prog 63 [(0,1),(1,1),(2,1),(3,1)]:=⟨⟨_,Tryz.underlying63,by kernel_rfl⟩⟩
instance sh_47:CSh Tryz.prog 47 true 5:=⟨shp Tryz.underlying47 rfl ti_47.h⟩
instance sh_63:CSh Tryz.prog 63 true 4:=⟨shp Tryz.underlying63 rfl ti_63.h⟩
instance Q9m:CTy Tryz.prog 323 3 32 (.agg #[.string ⟨#[]⟩,.int .i64 0,.bool false]):=⟨tyI (by kernel_rfl)⟩
instance Q9n:CPl Tryz.prog 323 [(0,1),(1,1),(2,1)]:=⟨⟨_,Tryz.underlying323,by kernel_rfl⟩⟩
theorem Qun:Zr (J8 (⟨[],0,false⟩:Jl)) [.string ⟨#[]⟩,.int .i64 0,.bool false]:=K9 (Qh (c1:=[.string ⟨#[]⟩]) Qfs (Qh (c1:=[.int .i64 0]) Vb (Qh (c1:=[.bool false]) zr_bl (Kc))))
instance ti_4:CTy Tryz.prog 4 1 1 (.bool false):=⟨tyI (by kernel_rfl)⟩
instance Jaq:CFd Tryz.prog 323 2 2:=⟨fdA Tryz.underlying323 rfl rfl ti_4.h rfl⟩
instance:CUn Tryz.prog 4 (.bool):=⟨Tryz.underlying4⟩
instance sh_4:CSh Tryz.prog 4 false 1:=⟨shp Tryz.underlying4 rfl ti_4.h⟩
instance Jar:CFd Tryz.prog 323 1 1:=⟨fdA Tryz.underlying323 rfl rfl ti_3.h rfl⟩
theorem fol:Tryz.prog.follows .mixedOrders=true:=by kernel_rfl
instance Jas:CFd Tryz.prog 323 0 0:=⟨fdA Tryz.underlying323 rfl rfl ti_9.h rfl⟩
instance Jcy:CFd Tryz.prog 47 0 0:=⟨fdA Tryz.underlying47 rfl rfl ti_9.h rfl⟩
instance Q4t:CTy Tryz.prog 313 3 32 (.agg #[.int .i64 0,.string ⟨#[]⟩,.int .i64 0]):=⟨tyI (by kernel_rfl)⟩
instance Q4u:CPl Tryz.prog 313 [(0,1),(1,1),(2,1)]:=⟨⟨_,Tryz.underlying313,by kernel_rfl⟩⟩
theorem Qt9:Zr (Qq3 (⟨0,[],0⟩:Qg9)) [.int .i64 0,.string ⟨#[]⟩,.int .i64 0]:=K9 (Qh (c1:=[.int .i64 0]) Vb (Qh (c1:=[.string ⟨#[]⟩]) Qfs (Qh (c1:=[.int .i64 0]) Vb (Kc))))
instance Jat:CFd Tryz.prog 313 1 1:=⟨fdA Tryz.underlying313 rfl rfl ti_9.h rfl⟩
instance Jau:CFd Tryz.prog 313 0 0:=⟨fdA Tryz.underlying313 rfl rfl ti_3.h rfl⟩
instance:CUn Tryz.prog 21 (.int .i32):=⟨Tryz.underlying21⟩
instance:CUn Tryz.prog 5 (.int .u8):=⟨Tryz.underlying5⟩
instance ti_53:CTy Tryz.prog 53 3 56 (.agg #[.bool false,.slice none 0 0,.slice none 0 0]):=⟨tyI (by kernel_rfl)⟩
instance:CZy Tryz.prog 53 (Qd (⟨(⟨false,[]⟩:Qf),[]⟩:Qb)):=⟨_,_,_,ti_53.h,Jz⟩
instance ti_51:CTy Tryz.prog 51 2 32 (.agg #[.bool false,.slice none 0 0]):=⟨tyI (by kernel_rfl)⟩
instance:CZy Tryz.prog 51 (Q2 (⟨false,[]⟩:Qf)):=⟨_,_,_,ti_51.h,Vp⟩
instance:CUn Tryz.prog 189 (.int .u32):=⟨Tryz.underlying189⟩
instance K6:CTy Tryz.prog 189 1 4 (.int .u32 0):=⟨tyI (by kernel_rfl)⟩
instance Jec:CSh Tryz.prog 189 false 1:=⟨shp Tryz.underlying189 rfl K6.h⟩
instance:CUn Tryz.prog 151 (.int .u64):=⟨Tryz.underlying151⟩
theorem K4:EqF Tryz.prog 2 63 (λx:Qe=>.agg [i64 x.Kind,i64 x.Step,i64 x.Stage,i64 x.At]) Q7:=
 Qvh Tryz.underlying63 (by kernel_rfl) (Qgk rfl rfl sh_3.h (λ_=>rfl) (λ_=>rfl) (Qim (λx:Qe=>x.Kind) (Qkk (n:=0) Tryz.underlying3)) (Qgk rfl rfl sh_3.h (λ_=>rfl) (λ_=>rfl) (Qim (λx:Qe=>x.Step) (Qkk (n:=0) Tryz.underlying3)) (Qgk rfl rfl sh_3.h (λ_=>rfl) (λ_=>rfl) (Qim (λx:Qe=>x.Stage) (Qkk (n:=0) Tryz.underlying3)) (Qgk rfl rfl sh_3.h (λ_=>rfl) (λ_=>rfl) (Qim (λx:Qe=>x.At) (Qkk (n:=0) Tryz.underlying3)) (Q0c)))))
theorem eg_63:Tryz.prog.eqGuardType Tryz.prog.depth 63=false:=by kernel_rfl
instance Jcz:CFd Tryz.prog 63 3 3:=⟨fdA Tryz.underlying63 rfl rfl ti_3.h rfl⟩
instance pl_51:CPl Tryz.prog 51 [(0,1),(1,1)]:=⟨⟨_,Tryz.underlying51,by kernel_rfl⟩⟩
instance sh_51:CSh Tryz.prog 51 true 2:=⟨shp Tryz.underlying51 rfl ti_51.h⟩
instance pl_53:CPl Tryz.prog 53 [(0,2),(2,1)]:=⟨⟨_,Tryz.underlying53,by kernel_rfl⟩⟩
instance sh_53:CSh Tryz.prog 53 true 3:=⟨shp Tryz.underlying53 rfl ti_53.h⟩
instance Jc0:CFd Tryz.prog 51 1 1:=⟨fdA Tryz.underlying51 rfl rfl ti_32.h rfl⟩
instance Jc1:CFd Tryz.prog 51 0 0:=⟨fdA Tryz.underlying51 rfl rfl ti_4.h rfl⟩
instance:CUn Tryz.prog 271 (.slice 32):=⟨Tryz.underlying271⟩
instance:CUn Tryz.prog 238 (.slice 9):=⟨Tryz.underlying238⟩
instance:CUn Tryz.prog 44 (.slice 53):=⟨Tryz.underlying44⟩
instance ti_44:CTy Tryz.prog 44 1 24 (.slice none 0 0):=⟨tyI (by kernel_rfl)⟩
instance Jc2:CFd Tryz.prog 47 1 1:=⟨fdA Tryz.underlying47 rfl rfl ti_44.h rfl⟩
instance sh_44:CSh Tryz.prog 44 false 1:=⟨shp Tryz.underlying44 rfl ti_44.h⟩
instance ti_45:CTy Tryz.prog 45 1 24 (.slice none 0 0):=⟨tyI (by kernel_rfl)⟩
instance Jc3:CFd Tryz.prog 47 2 2:=⟨fdA Tryz.underlying47 rfl rfl ti_45.h rfl⟩
instance:CUn Tryz.prog 45 (.slice 44):=⟨Tryz.underlying45⟩
instance sh_45:CSh Tryz.prog 45 false 1:=⟨shp Tryz.underlying45 rfl ti_45.h⟩
instance Jc4:CFd Tryz.prog 47 3 3:=⟨fdA Tryz.underlying47 rfl rfl ti_44.h rfl⟩
instance Jc5:CFd Tryz.prog 47 4 4:=⟨fdA Tryz.underlying47 rfl rfl ti_44.h rfl⟩
instance Jc6:CFd Tryz.prog 53 1 2:=⟨fdA Tryz.underlying53 rfl rfl ti_32.h rfl⟩
instance Jc7:CFd Tryz.prog 53 0 0:=⟨fdA Tryz.underlying53 rfl rfl ti_51.h rfl⟩
instance ti_55:CTy Tryz.prog 55 17 296 (.agg #[.bool false,.slice none 0 0,.slice none 0 0,.bool false,.slice none 0 0,.slice none 0 0,.bool false,.slice none 0 0,.slice none 0 0,.bool false,.slice none 0 0,.slice none 0 0,.bool false,.slice none 0 0,.slice none 0 0,.int .i64 0,.int .i64 0]):=⟨tyI (by kernel_rfl)⟩
instance:CZy Tryz.prog 55 (Vv (⟨(⟨(⟨false,[]⟩:Qf),[]⟩:Qb),(⟨(⟨false,[]⟩:Qf),[]⟩:Qb),(⟨(⟨false,[]⟩:Qf),[]⟩:Qb),(⟨(⟨false,[]⟩:Qf),[]⟩:Qb),(⟨(⟨false,[]⟩:Qf),[]⟩:Qb),0,0⟩:Ja)):=⟨_,_,_,ti_55.h,Qig⟩
instance pl_55:CPl Tryz.prog 55 [(0,3),(3,3),(6,3),(9,3),(12,3),(15,1),(16,1)]:=⟨⟨_,Tryz.underlying55,by kernel_rfl⟩⟩
instance sh_55:CSh Tryz.prog 55 true 17:=⟨shp Tryz.underlying55 rfl ti_55.h⟩
instance Jc8:CFd Tryz.prog 55 0 0:=⟨fdA Tryz.underlying55 rfl rfl ti_53.h rfl⟩
instance ti_49:CTy Tryz.prog 49 11 208 (.agg #[.slice none 0 0,.slice none 0 0,.int .i64 0,.int .i64 0,.string ⟨#[]⟩,.slice none 0 0,.slice none 0 0,.slice none 0 0,.slice none 0 0,.slice none 0 0,.int .i64 0]):=⟨tyI (by kernel_rfl)⟩
instance pl_49:CPl Tryz.prog 49 [(0,4),(4,5),(9,1),(10,1)]:=⟨⟨_,Tryz.underlying49,by kernel_rfl⟩⟩
instance pl_57:CPl Tryz.prog 57 [(0,11),(11,17),(28,3),(31,3),(34,3),(37,1)]:=⟨⟨_,Tryz.underlying57,by kernel_rfl⟩⟩
instance sh_57:CSh Tryz.prog 57 true 38:=⟨shp Tryz.underlying57 rfl ti_57.h⟩
instance ti_61:CTy Tryz.prog 61 5 104 (.agg #[.slice none 0 0,.bool false,.slice none 0 0,.slice none 0 0,.slice none 0 0]):=⟨tyI (by kernel_rfl)⟩
theorem Qgc:Zr (Kr (⟨[],(⟨(⟨false,[]⟩:Qf),[]⟩:Qb),[]⟩:Ji)) [.slice none 0 0,.bool false,.slice none 0 0,.slice none 0 0,.slice none 0 0]:=K9 (Qh (c1:=[.slice none 0 0]) (J6 (k:=14)) (Qh (c1:=[.bool false,.slice none 0 0,.slice none 0 0]) Jz (Qh (c1:=[.slice none 0 0]) (J6 (k:=3)) (Kc))))
instance:CZy Tryz.prog 61 (Kr (⟨[],(⟨(⟨false,[]⟩:Qf),[]⟩:Qb),[]⟩:Ji)):=⟨_,_,_,ti_61.h,Qgc⟩
instance Jc9:CFd Tryz.prog 57 0 0:=⟨fdA Tryz.underlying57 rfl rfl ti_49.h rfl⟩
instance sh_49:CSh Tryz.prog 49 true 11:=⟨shp Tryz.underlying49 rfl ti_49.h⟩
instance Jda:CFd Tryz.prog 49 0 0:=⟨fdA Tryz.underlying49 rfl rfl ti_43.h rfl⟩
instance Jdb:CFd Tryz.prog 43 2 2:=⟨fdA Tryz.underlying43 rfl rfl ti_3.h rfl⟩
instance Jdc:CFd Tryz.prog 43 3 3:=⟨fdA Tryz.underlying43 rfl rfl ti_3.h rfl⟩
instance Jdd:CFd Tryz.prog 43 1 1:=⟨fdA Tryz.underlying43 rfl rfl ti_23.h rfl⟩
instance ti_41:CTy Tryz.prog 41 1 24 (.slice none 0 0):=⟨tyI (by kernel_rfl)⟩
instance Jde:CFd Tryz.prog 43 0 0:=⟨fdA Tryz.underlying43 rfl rfl ti_41.h rfl⟩
instance sh_41:CSh Tryz.prog 41 false 1:=⟨shp Tryz.underlying41 rfl ti_41.h⟩
instance Jed:CSh Tryz.prog 164 true 6:=⟨shp Tryz.underlying164 rfl Qpz.h⟩
instance:CZy Tryz.prog 164 (Vg (⟨0,0,0,(⟨(⟨false,[]⟩:Qf),[]⟩:Qb)⟩:Q5)):=⟨_,_,_,Qpz.h,Qm1⟩
instance Jav:CFd Tryz.prog 164 0 0:=⟨fdA Tryz.underlying164 rfl rfl ti_3.h rfl⟩
instance Qsl:CTy Tryz.prog 350 3 24 (.agg #[.int .i64 0,.int .i64 0,.int .i64 0]):=⟨tyI (by kernel_rfl)⟩
theorem Qgd:Zr (Qko (⟨0,0,0⟩:Ko)) [.int .i64 0,.int .i64 0,.int .i64 0]:=K9 (Qh (c1:=[.int .i64 0]) Vb (Qh (c1:=[.int .i64 0]) Vb (Qh (c1:=[.int .i64 0]) Vb (Kc))))
instance:CZy Tryz.prog 350 (Qko (⟨0,0,0⟩:Ko)):=⟨_,_,_,Qsl.h,Qgd⟩
instance Jaw:CFd Tryz.prog 164 1 1:=⟨fdA Tryz.underlying164 rfl rfl ti_3.h rfl⟩
instance Jax:CFd Tryz.prog 164 2 2:=⟨fdA Tryz.underlying164 rfl rfl ti_3.h rfl⟩
instance Q0l:CPl Tryz.prog 350 [(0,1),(1,1),(2,1)]:=⟨⟨_,Tryz.underlying350,by kernel_rfl⟩⟩
instance Jee:CSh Tryz.prog 350 true 3:=⟨shp Tryz.underlying350 rfl Qsl.h⟩
theorem Q0m:EqF Tryz.prog 2 350 (λx:Ko=>.agg [i64 x.op,i64 x.a,i64 x.b]) Qbu:=
 Qvh Tryz.underlying350 (by kernel_rfl) (Qgk rfl rfl sh_3.h (λ_=>rfl) (λ_=>rfl) (Qim (λx:Ko=>x.op) (Qkk (n:=0) Tryz.underlying3)) (Qgk rfl rfl sh_3.h (λ_=>rfl) (λ_=>rfl) (Qim (λx:Ko=>x.a) (Qkk (n:=0) Tryz.underlying3)) (Qgk rfl rfl sh_3.h (λ_=>rfl) (λ_=>rfl) (Qim (λx:Ko=>x.b) (Qkk (n:=0) Tryz.underlying3)) (Q0c))))
theorem Q4v:Tryz.prog.eqGuardType Tryz.prog.depth 350=false:=by kernel_rfl
instance Jay:CFd Tryz.prog 164 3 3:=⟨fdA Tryz.underlying164 rfl rfl ti_53.h rfl⟩
instance Jdf:CFd Tryz.prog 49 1 4:=⟨fdA Tryz.underlying49 rfl rfl ti_47.h rfl⟩
instance Jdg:CFd Tryz.prog 49 2 9:=⟨fdA Tryz.underlying49 rfl rfl ti_44.h rfl⟩
instance Jdh:CFd Tryz.prog 57 1 11:=⟨fdA Tryz.underlying57 rfl rfl ti_55.h rfl⟩
instance Jdi:CFd Tryz.prog 55 1 3:=⟨fdA Tryz.underlying55 rfl rfl ti_53.h rfl⟩
instance Jdj:CFd Tryz.prog 55 2 6:=⟨fdA Tryz.underlying55 rfl rfl ti_53.h rfl⟩
instance Jdk:CFd Tryz.prog 55 3 9:=⟨fdA Tryz.underlying55 rfl rfl ti_53.h rfl⟩
instance Jdl:CFd Tryz.prog 55 4 12:=⟨fdA Tryz.underlying55 rfl rfl ti_53.h rfl⟩
instance Jdm:CFd Tryz.prog 55 5 15:=⟨fdA Tryz.underlying55 rfl rfl ti_3.h rfl⟩
instance Jdn:CFd Tryz.prog 55 6 16:=⟨fdA Tryz.underlying55 rfl rfl ti_3.h rfl⟩
instance Jdo:CFd Tryz.prog 57 5 37:=⟨fdA Tryz.underlying57 rfl rfl ti_44.h rfl⟩
instance Jdp:CFd Tryz.prog 57 3 31:=⟨fdA Tryz.underlying57 rfl rfl ti_53.h rfl⟩
instance Jdq:CFd Tryz.prog 57 2 28:=⟨fdA Tryz.underlying57 rfl rfl ti_53.h rfl⟩
instance Jdr:CFd Tryz.prog 57 4 34:=⟨fdA Tryz.underlying57 rfl rfl ti_53.h rfl⟩
instance pl_61:CPl Tryz.prog 61 [(0,1),(1,3),(4,1)]:=⟨⟨_,Tryz.underlying61,by kernel_rfl⟩⟩
instance sh_61:CSh Tryz.prog 61 true 5:=⟨shp Tryz.underlying61 rfl ti_61.h⟩
instance Q9o:CTy Tryz.prog 119 46 856 (.agg #[.slice none 0 0,.slice none 0 0,.int .i64 0,.int .i64 0,.string ⟨#[]⟩,.slice none 0 0,.slice none 0 0,.slice none 0 0,.slice none 0 0,.slice none 0 0,.int .i64 0,.bool false,.slice none 0 0,.slice none 0 0,.bool false,.slice none 0 0,.slice none 0 0,.bool false,.slice none 0 0,.slice none 0 0,.bool false,.slice none 0 0,.slice none 0 0,.bool false,.slice none 0 0,.slice none 0 0,.int .i64 0,.int .i64 0,.bool false,.slice none 0 0,.slice none 0 0,.bool false,.slice none 0 0,.slice none 0 0,.bool false,.slice none 0 0,.slice none 0 0,.slice none 0 0,.slice none 0 0,.bool false,.slice none 0 0,.slice none 0 0,.slice none 0 0,.bool false,.slice none 0 0,.slice none 0 0]):=⟨tyI (by kernel_rfl)⟩
instance Q9p:CPl Tryz.prog 119 [(0,38),(38,5),(43,3)]:=⟨⟨_,Tryz.underlying119,by kernel_rfl⟩⟩
theorem Qvn:Zr (Qw8 (⟨(⟨(⟨(⟨[],[],0,0⟩:Q1),(⟨[],[],[],[],[]⟩:Qq),[],0⟩:Qw),(⟨(⟨(⟨false,[]⟩:Qf),[]⟩:Qb),(⟨(⟨false,[]⟩:Qf),[]⟩:Qb),(⟨(⟨false,[]⟩:Qf),[]⟩:Qb),(⟨(⟨false,[]⟩:Qf),[]⟩:Qb),(⟨(⟨false,[]⟩:Qf),[]⟩:Qb),0,0⟩:Ja),(⟨(⟨false,[]⟩:Qf),[]⟩:Qb),(⟨(⟨false,[]⟩:Qf),[]⟩:Qb),(⟨(⟨false,[]⟩:Qf),[]⟩:Qb),[]⟩:Jq),(⟨[],(⟨(⟨false,[]⟩:Qf),[]⟩:Qb),[]⟩:Ji),(⟨(⟨false,[]⟩:Qf),[]⟩:Qb)⟩:Qpy)) [.slice none 0 0,.slice none 0 0,.int .i64 0,.int .i64 0,.string ⟨#[]⟩,.slice none 0 0,.slice none 0 0,.slice none 0 0,.slice none 0 0,.slice none 0 0,.int .i64 0,.bool false,.slice none 0 0,.slice none 0 0,.bool false,.slice none 0 0,.slice none 0 0,.bool false,.slice none 0 0,.slice none 0 0,.bool false,.slice none 0 0,.slice none 0 0,.bool false,.slice none 0 0,.slice none 0 0,.int .i64 0,.int .i64 0,.bool false,.slice none 0 0,.slice none 0 0,.bool false,.slice none 0 0,.slice none 0 0,.bool false,.slice none 0 0,.slice none 0 0,.slice none 0 0,.slice none 0 0,.bool false,.slice none 0 0,.slice none 0 0,.slice none 0 0,.bool false,.slice none 0 0,.slice none 0 0]:=K9 (Qh (c1:=[.slice none 0 0,.slice none 0 0,.int .i64 0,.int .i64 0,.string ⟨#[]⟩,.slice none 0 0,.slice none 0 0,.slice none 0 0,.slice none 0 0,.slice none 0 0,.int .i64 0,.bool false,.slice none 0 0,.slice none 0 0,.bool false,.slice none 0 0,.slice none 0 0,.bool false,.slice none 0 0,.slice none 0 0,.bool false,.slice none 0 0,.slice none 0 0,.bool false,.slice none 0 0,.slice none 0 0,.int .i64 0,.int .i64 0,.bool false,.slice none 0 0,.slice none 0 0,.bool false,.slice none 0 0,.slice none 0 0,.bool false,.slice none 0 0,.slice none 0 0,.slice none 0 0]) Qih (Qh (c1:=[.slice none 0 0,.bool false,.slice none 0 0,.slice none 0 0,.slice none 0 0]) Qgc (Qh (c1:=[.bool false,.slice none 0 0,.slice none 0 0]) Jz (Kc))))
instance Jaz:CFd Tryz.prog 119 1 38:=⟨fdA Tryz.underlying119 rfl rfl ti_61.h rfl⟩
instance Jds:CFd Tryz.prog 61 1 1:=⟨fdA Tryz.underlying61 rfl rfl ti_53.h rfl⟩
instance Ja0:CFd Tryz.prog 119 0 0:=⟨fdA Tryz.underlying119 rfl rfl ti_57.h rfl⟩
instance ti_59:CTy Tryz.prog 59 1 24 (.slice none 0 0):=⟨tyI (by kernel_rfl)⟩
instance Jdt:CFd Tryz.prog 61 0 0:=⟨fdA Tryz.underlying61 rfl rfl ti_59.h rfl⟩
instance:CUn Tryz.prog 59 (.slice 82):=⟨Tryz.underlying59⟩
instance sh_59:CSh Tryz.prog 59 false 1:=⟨shp Tryz.underlying59 rfl ti_59.h⟩
instance Ja1:CFd Tryz.prog 119 2 43:=⟨fdA Tryz.underlying119 rfl rfl ti_53.h rfl⟩
instance Jdu:CFd Tryz.prog 61 2 4:=⟨fdA Tryz.underlying61 rfl rfl ti_44.h rfl⟩
instance Qsm:CTy Tryz.prog 183 4 96 (.agg #[.slice none 0 0,.slice none 0 0,.slice none 0 0,.slice none 0 0]):=⟨tyI (by kernel_rfl)⟩
theorem Qm2:Zr (Qk6 (⟨[],[],[],[]⟩:Qay)) [.slice none 0 0,.slice none 0 0,.slice none 0 0,.slice none 0 0]:=K9 (Qh (c1:=[.slice none 0 0]) (J6 (k:=1)) (Qh (c1:=[.slice none 0 0]) (J6 (k:=1)) (Qh (c1:=[.slice none 0 0]) (J6 (k:=3)) (Qh (c1:=[.slice none 0 0]) (J6 (k:=3)) (Kc)))))
instance:CZy Tryz.prog 183 (Qk6 (⟨[],[],[],[]⟩:Qay)):=⟨_,_,_,Qsm.h,Qm2⟩
instance Q4w:CPl Tryz.prog 183 [(0,1),(1,1),(2,1),(3,1)]:=⟨⟨_,Tryz.underlying183,by kernel_rfl⟩⟩
instance Jef:CSh Tryz.prog 183 true 4:=⟨shp Tryz.underlying183 rfl Qsm.h⟩
instance Jdv:CFd Tryz.prog 49 3 10:=⟨fdA Tryz.underlying49 rfl rfl ti_3.h rfl⟩
instance Q9q:CTy Tryz.prog 298 3 24 (.agg #[.int .i64 0,.int .i64 0,.int .i64 0]):=⟨tyI (by kernel_rfl)⟩
instance Q9r:CPl Tryz.prog 298 [(0,2),(2,1)]:=⟨⟨_,Tryz.underlying298,by kernel_rfl⟩⟩
theorem Qw9:Zr (Qly (⟨0,0⟩:Qac)) [.int .i64 0,.int .i64 0]:=K9 (Qh (c1:=[.int .i64 0]) Vb (Qh (c1:=[.int .i64 0]) Vb (Kc)))
theorem Qxa:Zr (Qs (⟨(⟨0,0⟩:Qac),0⟩:Qn)) [.int .i64 0,.int .i64 0,.int .i64 0]:=K9 (Qh (c1:=[.int .i64 0,.int .i64 0]) Qw9 (Qh (c1:=[.int .i64 0]) Vb (Kc)))
instance Q9s:CTy Tryz.prog 247 23 448 (.agg #[.slice none 0 0,.slice none 0 0,.int .i64 0,.int .i64 0,.string ⟨#[]⟩,.slice none 0 0,.slice none 0 0,.slice none 0 0,.slice none 0 0,.slice none 0 0,.int .i64 0,.bool false,.slice none 0 0,.slice none 0 0,.bool false,.slice none 0 0,.slice none 0 0,.slice none 0 0,.pointer none,.slice none 0 0,.slice none 0 0,.slice none 0 0,.slice none 0 0]):=⟨tyI (by kernel_rfl)⟩
instance Q9t:CPl Tryz.prog 247 [(0,11),(11,3),(14,3),(17,1),(18,1),(19,4)]:=⟨⟨_,Tryz.underlying247,by kernel_rfl⟩⟩
instance Ja2:CFd Tryz.prog 247 0 0:=⟨fdA Tryz.underlying247 rfl rfl ti_49.h rfl⟩
instance Ja3:CFd Tryz.prog 247 3 17:=⟨fdA Tryz.underlying247 rfl rfl ti_44.h rfl⟩
instance Ja4:CFd Tryz.prog 247 5 19:=⟨fdA Tryz.underlying247 rfl rfl Qsm.h rfl⟩
instance Ja5:CFd Tryz.prog 183 1 1:=⟨fdA Tryz.underlying183 rfl rfl ti_45.h rfl⟩
instance Ja6:CFd Tryz.prog 247 2 14:=⟨fdA Tryz.underlying247 rfl rfl ti_53.h rfl⟩
instance Q0n:CTy Tryz.prog 244 1 8 (.pointer none):=⟨tyI (by kernel_rfl)⟩
instance Ja7:CFd Tryz.prog 247 4 18:=⟨fdA Tryz.underlying247 rfl rfl Q0n.h rfl⟩
instance Jeg:CSh Tryz.prog 244 false 1:=⟨shp Tryz.underlying244 rfl Q0n.h⟩
instance Q9u:CTy Tryz.prog 296 2 16 (.agg #[.int .i64 0,.int .i64 0]):=⟨tyI (by kernel_rfl)⟩
instance Ja8:CFd Tryz.prog 298 0 0:=⟨fdA Tryz.underlying298 rfl rfl Q9u.h rfl⟩
instance Ja9:CFd Tryz.prog 296 0 0:=⟨fdA Tryz.underlying296 rfl rfl ti_3.h rfl⟩
instance Jba:CFd Tryz.prog 296 1 1:=⟨fdA Tryz.underlying296 rfl rfl ti_3.h rfl⟩
instance Jbb:CFd Tryz.prog 298 1 2:=⟨fdA Tryz.underlying298 rfl rfl ti_3.h rfl⟩
instance Jbc:CFd Tryz.prog 247 1 11:=⟨fdA Tryz.underlying247 rfl rfl ti_53.h rfl⟩
instance Qvo:CTy Tryz.prog 335 5 104 (.agg #[.bool false,.slice none 0 0,.slice none 0 0,.slice none 0 0,.slice none 0 0]):=⟨tyI (by kernel_rfl)⟩
theorem Qlz:Zr (Qc8 (⟨(⟨(⟨false,[]⟩:Qf),[]⟩:Qb),[],[]⟩:Y4)) [.bool false,.slice none 0 0,.slice none 0 0,.slice none 0 0,.slice none 0 0]:=K9 (Qh (c1:=[.bool false,.slice none 0 0,.slice none 0 0]) Jz (Qh (c1:=[.slice none 0 0]) (J6 (k:=3)) (Qh (c1:=[.slice none 0 0]) (J6 (k:=3)) (Kc))))
instance:CZy Tryz.prog 335 (Qc8 (⟨(⟨(⟨false,[]⟩:Qf),[]⟩:Qb),[],[]⟩:Y4)):=⟨_,_,_,Qvo.h,Qlz⟩
instance Q4x:CPl Tryz.prog 335 [(0,3),(3,1),(4,1)]:=⟨⟨_,Tryz.underlying335,by kernel_rfl⟩⟩
instance Jeh:CSh Tryz.prog 335 true 5:=⟨shp Tryz.underlying335 rfl Qvo.h⟩
instance Jbd:CFd Tryz.prog 335 0 0:=⟨fdA Tryz.underlying335 rfl rfl ti_53.h rfl⟩
instance Jbe:CFd Tryz.prog 335 1 3:=⟨fdA Tryz.underlying335 rfl rfl ti_44.h rfl⟩
instance Jbf:CFd Tryz.prog 335 2 4:=⟨fdA Tryz.underlying335 rfl rfl ti_44.h rfl⟩
instance Q0o:CTy Tryz.prog 393 1 8 (.agg #[.pointer none]):=⟨tyI (by kernel_rfl)⟩
instance Q9v:CPl Tryz.prog 393 [(0,1)]:=⟨⟨_,Tryz.underlying393,by kernel_rfl⟩⟩
instance Q0p:CTy Tryz.prog 395 1 8 (.agg #[.pointer none]):=⟨tyI (by kernel_rfl)⟩
instance Q9w:CPl Tryz.prog 395 [(0,1)]:=⟨⟨_,Tryz.underlying395,by kernel_rfl⟩⟩
instance Jei:CSh Tryz.prog 395 true 1:=⟨shp Tryz.underlying395 rfl Q0p.h⟩
instance Q4y:CTy Tryz.prog 397 5 104 (.agg #[.bool false,.slice none 0 0,.slice none 0 0,.slice none 0 0,.slice none 0 0]):=⟨tyI (by kernel_rfl)⟩
instance Q9x:CPl Tryz.prog 397 [(0,3),(3,1),(4,1)]:=⟨⟨_,Tryz.underlying397,by kernel_rfl⟩⟩
theorem Qm3:Zr (X0 (⟨(⟨(⟨false,[]⟩:Qf),[]⟩:Qb),[],[]⟩:Xx)) [.bool false,.slice none 0 0,.slice none 0 0,.slice none 0 0,.slice none 0 0]:=K9 (Qh (c1:=[.bool false,.slice none 0 0,.slice none 0 0]) Jz (Qh (c1:=[.slice none 0 0]) (J6 (k:=3)) (Qh (c1:=[.slice none 0 0]) (J6 (k:=3)) (Kc))))
instance Jbg:CFd Tryz.prog 397 1 3:=⟨fdA Tryz.underlying397 rfl rfl ti_44.h rfl⟩
instance Jbh:CFd Tryz.prog 397 2 4:=⟨fdA Tryz.underlying397 rfl rfl ti_44.h rfl⟩
instance Jej:CSh Tryz.prog 397 true 5:=⟨shp Tryz.underlying397 rfl Q4y.h⟩
instance Jbi:CFd Tryz.prog 395 0 0:=⟨fdA Tryz.underlying395 rfl rfl Q0o.h rfl⟩
instance Qlk:CSh Tryz.prog 393 true 1:=⟨shp Tryz.underlying393 rfl Q0o.h⟩
theorem Q3g:MethF Tryz.prog 393 "Neg" 372:=⟨by kernel_rfl,_,Tryz.underlying393⟩
theorem Q3h:MethF Tryz.prog 393 "Pow" 374:=⟨by kernel_rfl,_,Tryz.underlying393⟩
theorem Q3i:MethF Tryz.prog 393 "Add" 369:=⟨by kernel_rfl,_,Tryz.underlying393⟩
theorem Q3j:MethF Tryz.prog 393 "Sub" 376:=⟨by kernel_rfl,_,Tryz.underlying393⟩
theorem Q3k:MethF Tryz.prog 393 "Mul" 371:=⟨by kernel_rfl,_,Tryz.underlying393⟩
theorem Q3l:MethF Tryz.prog 393 "Quo" 375:=⟨by kernel_rfl,_,Tryz.underlying393⟩
theorem Q4z:MethF Tryz.prog 393 "Of" 373:=⟨by kernel_rfl,_,Tryz.underlying393⟩
instance Jbj:CFd Tryz.prog 397 0 0:=⟨fdA Tryz.underlying397 rfl rfl ti_53.h rfl⟩
theorem Q14:MethF Tryz.prog 393 "Fits" 370:=⟨by kernel_rfl,_,Tryz.underlying393⟩
instance Jbk:CFd Tryz.prog 393 0 0:=⟨fdA Tryz.underlying393 rfl rfl Q0n.h rfl⟩
instance Jdw:CFd Tryz.prog 63 2 2:=⟨fdA Tryz.underlying63 rfl rfl ti_3.h rfl⟩
instance Jbl:CFd Tryz.prog 183 0 0:=⟨fdA Tryz.underlying183 rfl rfl ti_45.h rfl⟩
instance Jbm:CFd Tryz.prog 183 2 2:=⟨fdA Tryz.underlying183 rfl rfl ti_44.h rfl⟩
instance Jbn:CFd Tryz.prog 183 3 3:=⟨fdA Tryz.underlying183 rfl rfl ti_44.h rfl⟩
instance Jdx:CFd Tryz.prog 63 1 1:=⟨fdA Tryz.underlying63 rfl rfl ti_3.h rfl⟩
instance ti_82:CTy Tryz.prog 82 14 256 (.agg #[.bool false,.slice none 0 0,.slice none 0 0,.bool false,.slice none 0 0,.slice none 0 0,.bool false,.slice none 0 0,.slice none 0 0,.bool false,.slice none 0 0,.slice none 0 0,.slice none 0 0,.bool false]):=⟨tyI (by kernel_rfl)⟩
instance pl_82:CPl Tryz.prog 82 [(0,3),(3,3),(6,3),(9,3),(12,1),(13,1)]:=⟨⟨_,Tryz.underlying82,by kernel_rfl⟩⟩
theorem Qo7:Zr (Kq (⟨(⟨(⟨false,[]⟩:Qf),[]⟩:Qb),(⟨(⟨false,[]⟩:Qf),[]⟩:Qb),(⟨(⟨false,[]⟩:Qf),[]⟩:Qb),(⟨(⟨false,[]⟩:Qf),[]⟩:Qb),[],false⟩:Jf)) [.bool false,.slice none 0 0,.slice none 0 0,.bool false,.slice none 0 0,.slice none 0 0,.bool false,.slice none 0 0,.slice none 0 0,.bool false,.slice none 0 0,.slice none 0 0,.slice none 0 0,.bool false]:=K9 (Qh (c1:=[.bool false,.slice none 0 0,.slice none 0 0]) Jz (Qh (c1:=[.bool false,.slice none 0 0,.slice none 0 0]) Jz (Qh (c1:=[.bool false,.slice none 0 0,.slice none 0 0]) Jz (Qh (c1:=[.bool false,.slice none 0 0,.slice none 0 0]) Jz (Qh (c1:=[.slice none 0 0]) (J6 (k:=3)) (Qh (c1:=[.bool false]) zr_bl (Kc)))))))
instance:CZy Tryz.prog 82 (Kq (⟨(⟨(⟨false,[]⟩:Qf),[]⟩:Qb),(⟨(⟨false,[]⟩:Qf),[]⟩:Qb),(⟨(⟨false,[]⟩:Qf),[]⟩:Qb),(⟨(⟨false,[]⟩:Qf),[]⟩:Qb),[],false⟩:Jf)):=⟨_,_,_,ti_82.h,Qo7⟩
instance sh_82:CSh Tryz.prog 82 true 14:=⟨shp Tryz.underlying82 rfl ti_82.h⟩
instance Jdy:CFd Tryz.prog 82 5 13:=⟨fdA Tryz.underlying82 rfl rfl ti_4.h rfl⟩
theorem Q7z:∃ fs F,Tryz.prog.underlying 51=some (.struct fs)∧fs[1]?=some F∧F.offset=1∧Shp Tryz.prog F.type false 1:=⟨_,_,Tryz.underlying51,rfl,rfl,sh_32.h⟩
instance Jdz:CFd Tryz.prog 82 3 9:=⟨fdA Tryz.underlying82 rfl rfl ti_53.h rfl⟩
instance:CZy Tryz.prog 49 (Jg (⟨(⟨[],[],0,0⟩:Q1),(⟨[],[],[],[],[]⟩:Qq),[],0⟩:Qw)):=⟨_,_,_,ti_49.h,Qd3⟩
instance Jd0:CFd Tryz.prog 25 2 2:=⟨fdA Tryz.underlying25 rfl rfl ti_3.h rfl⟩
instance Jd1:CFd Tryz.prog 25 3 3:=⟨fdA Tryz.underlying25 rfl rfl ti_3.h rfl⟩
instance Jek:CSh Tryz.prog 232 true 6:=⟨shp Tryz.underlying232 rfl Q4r.h⟩
theorem Qu:Zr (Qc (⟨false,[],[]⟩:Qa)) [.bool false,.slice none 0 0,.slice none 0 0]:=K9 (Qh (c1:=[.bool false]) zr_bl (Qh (c1:=[.slice none 0 0]) (J6 (k:=1)) (Qh (c1:=[.slice none 0 0]) (J6 (k:=1)) (Kc))))
theorem Qnx:Zr (J3 (⟨0,0,0,(⟨false,[],[]⟩:Qa)⟩:Js)) [.int .i64 0,.int .i64 0,.int .i64 0,.bool false,.slice none 0 0,.slice none 0 0]:=K9 (Qh (c1:=[.int .i64 0]) Vb (Qh (c1:=[.int .i64 0]) Vb (Qh (c1:=[.int .i64 0]) Vb (Qh (c1:=[.bool false,.slice none 0 0,.slice none 0 0]) Qu (Kc)))))
instance:CZy Tryz.prog 232 (J3 (⟨0,0,0,(⟨false,[],[]⟩:Qa)⟩:Js)):=⟨_,_,_,Q4r.h,Qnx⟩
instance Jbo:CFd Tryz.prog 232 0 0:=⟨fdA Tryz.underlying232 rfl rfl ti_3.h rfl⟩
instance Jbp:CFd Tryz.prog 232 1 1:=⟨fdA Tryz.underlying232 rfl rfl ti_3.h rfl⟩
instance Jbq:CFd Tryz.prog 232 2 2:=⟨fdA Tryz.underlying232 rfl rfl ti_3.h rfl⟩
instance Jd2:CFd Tryz.prog 34 0 0:=⟨fdA Tryz.underlying34 rfl rfl ti_4.h rfl⟩
instance Jd3:CFd Tryz.prog 36 5 15:=⟨fdA Tryz.underlying36 rfl rfl ti_3.h rfl⟩
theorem Qm4:Zr (Kg (⟨(⟨false,[],[]⟩:Qa),(⟨false,[],[]⟩:Qa),(⟨false,[],[]⟩:Qa),(⟨false,[],[]⟩:Qa),(⟨false,[],[]⟩:Qa),0,0⟩:Je)) [.bool false,.slice none 0 0,.slice none 0 0,.bool false,.slice none 0 0,.slice none 0 0,.bool false,.slice none 0 0,.slice none 0 0,.bool false,.slice none 0 0,.slice none 0 0,.bool false,.slice none 0 0,.slice none 0 0,.int .i64 0,.int .i64 0]:=K9 (Qh (c1:=[.bool false,.slice none 0 0,.slice none 0 0]) Qu (Qh (c1:=[.bool false,.slice none 0 0,.slice none 0 0]) Qu (Qh (c1:=[.bool false,.slice none 0 0,.slice none 0 0]) Qu (Qh (c1:=[.bool false,.slice none 0 0,.slice none 0 0]) Qu (Qh (c1:=[.bool false,.slice none 0 0,.slice none 0 0]) Qu (Qh (c1:=[.int .i64 0]) Vb (Qh (c1:=[.int .i64 0]) Vb (Kc))))))))
theorem Qmf:Zr (Q8 (⟨[],[],[],[],[]⟩:Q3)) [.string ⟨#[]⟩,.slice none 0 0,.slice none 0 0,.slice none 0 0,.slice none 0 0]:=K9 (Qh (c1:=[.string ⟨#[]⟩]) Qfs (Qh (c1:=[.slice none 0 0]) (J6 (k:=3)) (Qh (c1:=[.slice none 0 0]) (J6 (k:=1)) (Qh (c1:=[.slice none 0 0]) (J6 (k:=3)) (Qh (c1:=[.slice none 0 0]) (J6 (k:=3)) (Kc))))))
theorem Qny:Zr (Jh (⟨[],[],0,0⟩:Q6)) [.slice none 0 0,.slice none 0 0,.int .i64 0,.int .i64 0]:=K9 (Qh (c1:=[.slice none 0 0]) (J6 (k:=6)) (Qh (c1:=[.slice none 0 0]) (J6 (k:=1)) (Qh (c1:=[.int .i64 0]) Vb (Qh (c1:=[.int .i64 0]) Vb (Kc)))))
theorem Ql0:Zr (Kd (⟨(⟨[],[],0,0⟩:Q6),(⟨[],[],[],[],[]⟩:Q3),[],0⟩:Qv)) [.slice none 0 0,.slice none 0 0,.int .i64 0,.int .i64 0,.string ⟨#[]⟩,.slice none 0 0,.slice none 0 0,.slice none 0 0,.slice none 0 0,.slice none 0 0,.int .i64 0]:=K9 (Qh (c1:=[.slice none 0 0,.slice none 0 0,.int .i64 0,.int .i64 0]) Qny (Qh (c1:=[.string ⟨#[]⟩,.slice none 0 0,.slice none 0 0,.slice none 0 0,.slice none 0 0]) Qmf (Qh (c1:=[.slice none 0 0]) (J6 (k:=3)) (Qh (c1:=[.int .i64 0]) Vb (Kc)))))
theorem Qnz:Zr (Jo (⟨(⟨(⟨[],[],0,0⟩:Q6),(⟨[],[],[],[],[]⟩:Q3),[],0⟩:Qv),(⟨(⟨false,[],[]⟩:Qa),(⟨false,[],[]⟩:Qa),(⟨false,[],[]⟩:Qa),(⟨false,[],[]⟩:Qa),(⟨false,[],[]⟩:Qa),0,0⟩:Je),(⟨false,[],[]⟩:Qa),(⟨false,[],[]⟩:Qa),(⟨false,[],[]⟩:Qa),[]⟩:Q0)) [.slice none 0 0,.slice none 0 0,.int .i64 0,.int .i64 0,.string ⟨#[]⟩,.slice none 0 0,.slice none 0 0,.slice none 0 0,.slice none 0 0,.slice none 0 0,.int .i64 0,.bool false,.slice none 0 0,.slice none 0 0,.bool false,.slice none 0 0,.slice none 0 0,.bool false,.slice none 0 0,.slice none 0 0,.bool false,.slice none 0 0,.slice none 0 0,.bool false,.slice none 0 0,.slice none 0 0,.int .i64 0,.int .i64 0,.bool false,.slice none 0 0,.slice none 0 0,.bool false,.slice none 0 0,.slice none 0 0,.bool false,.slice none 0 0,.slice none 0 0,.slice none 0 0]:=K9 (Qh (c1:=[.slice none 0 0,.slice none 0 0,.int .i64 0,.int .i64 0,.string ⟨#[]⟩,.slice none 0 0,.slice none 0 0,.slice none 0 0,.slice none 0 0,.slice none 0 0,.int .i64 0]) Ql0 (Qh (c1:=[.bool false,.slice none 0 0,.slice none 0 0,.bool false,.slice none 0 0,.slice none 0 0,.bool false,.slice none 0 0,.slice none 0 0,.bool false,.slice none 0 0,.slice none 0 0,.bool false,.slice none 0 0,.slice none 0 0,.int .i64 0,.int .i64 0]) Qm4 (Qh (c1:=[.bool false,.slice none 0 0,.slice none 0 0]) Qu (Qh (c1:=[.bool false,.slice none 0 0,.slice none 0 0]) Qu (Qh (c1:=[.bool false,.slice none 0 0,.slice none 0 0]) Qu (Qh (c1:=[.slice none 0 0]) (J6 (k:=3)) (Kc)))))))
instance:CZy Tryz.prog 38 (Jo (⟨(⟨(⟨[],[],0,0⟩:Q6),(⟨[],[],[],[],[]⟩:Q3),[],0⟩:Qv),(⟨(⟨false,[],[]⟩:Qa),(⟨false,[],[]⟩:Qa),(⟨false,[],[]⟩:Qa),(⟨false,[],[]⟩:Qa),(⟨false,[],[]⟩:Qa),0,0⟩:Je),(⟨false,[],[]⟩:Qa),(⟨false,[],[]⟩:Qa),(⟨false,[],[]⟩:Qa),[]⟩:Q0)):=⟨_,_,_,ti_38.h,Qnz⟩
instance:CZy Tryz.prog 34 (Qc (⟨false,[],[]⟩:Qa)):=⟨_,_,_,ti_34.h,Qu⟩
instance pl_34:CPl Tryz.prog 34 [(0,1),(1,1),(2,1)]:=⟨⟨_,Tryz.underlying34,by kernel_rfl⟩⟩
instance Qck:CTy Tryz.prog 258 3 32 (.agg #[.int .i64 0,.string ⟨#[]⟩,.int .i64 0]):=⟨tyI (by kernel_rfl)⟩
instance Q40:CPl Tryz.prog 258 [(0,1),(1,1),(2,1)]:=⟨⟨_,Tryz.underlying258,by kernel_rfl⟩⟩
theorem Qdi:Zr (Ql (⟨0,[],0⟩:Qg)) [.int .i64 0,.string ⟨#[]⟩,.int .i64 0]:=K9 (Qh (c1:=[.int .i64 0]) Vb (Qh (c1:=[.string ⟨#[]⟩]) Qfs (Qh (c1:=[.int .i64 0]) Vb (Kc))))
instance Jbr:CFd Tryz.prog 258 1 1:=⟨fdA Tryz.underlying258 rfl rfl ti_9.h rfl⟩
instance:CUn Tryz.prog 307 (.slice 258):=⟨Tryz.underlying307⟩
instance Jbs:CFd Tryz.prog 258 2 2:=⟨fdA Tryz.underlying258 rfl rfl ti_3.h rfl⟩
instance Jbt:CFd Tryz.prog 258 0 0:=⟨fdA Tryz.underlying258 rfl rfl ti_3.h rfl⟩
instance Jel:CSh Tryz.prog 258 true 3:=⟨shp Tryz.underlying258 rfl Qck.h⟩
instance:CZy Tryz.prog 258 (Ql (⟨0,[],0⟩:Qg)):=⟨_,_,_,Qck.h,Qdi⟩
instance Qd4:CTy Tryz.prog 216 2 32 (.agg #[.bool false,.slice none 0 0]):=⟨tyI (by kernel_rfl)⟩
instance Qf0:CPl Tryz.prog 216 [(0,1),(1,1)]:=⟨⟨_,Tryz.underlying216,by kernel_rfl⟩⟩
theorem J0:Zr (Qx (⟨false,[]⟩:Qk)) [.bool false,.slice none 0 0]:=K9 (Qh (c1:=[.bool false]) zr_bl (Qh (c1:=[.slice none 0 0]) (J6 (k:=1)) (Kc)))
instance:CZy Tryz.prog 216 (Qx (⟨false,[]⟩:Qk)):=⟨_,_,_,Qd4.h,J0⟩
instance Jem:CSh Tryz.prog 216 true 2:=⟨shp Tryz.underlying216 rfl Qd4.h⟩
instance Jbu:CFd Tryz.prog 216 0 0:=⟨fdA Tryz.underlying216 rfl rfl ti_4.h rfl⟩
instance Jbv:CFd Tryz.prog 216 1 1:=⟨fdA Tryz.underlying216 rfl rfl ti_32.h rfl⟩
instance ti_70:CTy Tryz.prog 70 5 104 (.agg #[.slice none 0 0,.bool false,.slice none 0 0,.slice none 0 0,.slice none 0 0]):=⟨tyI (by kernel_rfl)⟩
instance pl_70:CPl Tryz.prog 70 [(0,1),(1,3),(4,1)]:=⟨⟨_,Tryz.underlying70,by kernel_rfl⟩⟩
theorem Qah:Zr (Qz (⟨[],(⟨false,[],[]⟩:Qa),[]⟩:Qm)) [.slice none 0 0,.bool false,.slice none 0 0,.slice none 0 0,.slice none 0 0]:=K9 (Qh (c1:=[.slice none 0 0]) (J6 (k:=14)) (Qh (c1:=[.bool false,.slice none 0 0,.slice none 0 0]) Qu (Qh (c1:=[.slice none 0 0]) (J6 (k:=3)) (Kc))))
instance:CZy Tryz.prog 70 (Qz (⟨[],(⟨false,[],[]⟩:Qa),[]⟩:Qm)):=⟨_,_,_,ti_70.h,Qah⟩
instance sh_70:CSh Tryz.prog 70 true 5:=⟨shp Tryz.underlying70 rfl ti_70.h⟩
instance ti_68:CTy Tryz.prog 68 1 24 (.slice none 0 0):=⟨tyI (by kernel_rfl)⟩
instance Jd4:CFd Tryz.prog 70 0 0:=⟨fdA Tryz.underlying70 rfl rfl ti_68.h rfl⟩
instance:CUn Tryz.prog 68 (.slice 143):=⟨Tryz.underlying68⟩
instance sh_68:CSh Tryz.prog 68 false 1:=⟨shp Tryz.underlying68 rfl ti_68.h⟩
instance Jd5:CFd Tryz.prog 82 0 0:=⟨fdA Tryz.underlying82 rfl rfl ti_53.h rfl⟩
instance Jd6:CFd Tryz.prog 82 1 3:=⟨fdA Tryz.underlying82 rfl rfl ti_53.h rfl⟩
instance Jd7:CFd Tryz.prog 82 2 6:=⟨fdA Tryz.underlying82 rfl rfl ti_53.h rfl⟩
instance Jd8:CFd Tryz.prog 82 4 12:=⟨fdA Tryz.underlying82 rfl rfl ti_44.h rfl⟩
instance Qp0:CTy Tryz.prog 143 14 256 (.agg #[.bool false,.slice none 0 0,.slice none 0 0,.bool false,.slice none 0 0,.slice none 0 0,.bool false,.slice none 0 0,.slice none 0 0,.bool false,.slice none 0 0,.slice none 0 0,.slice none 0 0,.bool false]):=⟨tyI (by kernel_rfl)⟩
instance Q41:CPl Tryz.prog 143 [(0,3),(3,3),(6,3),(9,3),(12,1),(13,1)]:=⟨⟨_,Tryz.underlying143,by kernel_rfl⟩⟩
theorem Qef:Zr (Jy (⟨(⟨false,[],[]⟩:Qa),(⟨false,[],[]⟩:Qa),(⟨false,[],[]⟩:Qa),(⟨false,[],[]⟩:Qa),[],false⟩:Qr)) [.bool false,.slice none 0 0,.slice none 0 0,.bool false,.slice none 0 0,.slice none 0 0,.bool false,.slice none 0 0,.slice none 0 0,.bool false,.slice none 0 0,.slice none 0 0,.slice none 0 0,.bool false]:=K9 (Qh (c1:=[.bool false,.slice none 0 0,.slice none 0 0]) Qu (Qh (c1:=[.bool false,.slice none 0 0,.slice none 0 0]) Qu (Qh (c1:=[.bool false,.slice none 0 0,.slice none 0 0]) Qu (Qh (c1:=[.bool false,.slice none 0 0,.slice none 0 0]) Qu (Qh (c1:=[.slice none 0 0]) (J6 (k:=3)) (Qh (c1:=[.bool false]) zr_bl (Kc)))))))
instance Jd9:CFd Tryz.prog 70 1 1:=⟨fdA Tryz.underlying70 rfl rfl ti_34.h rfl⟩
instance Jea:CFd Tryz.prog 70 2 4:=⟨fdA Tryz.underlying70 rfl rfl ti_26.h rfl⟩
instance Jen:CSh Tryz.prog 143 true 14:=⟨shp Tryz.underlying143 rfl Qp0.h⟩
instance:CZy Tryz.prog 143 (Jy (⟨(⟨false,[],[]⟩:Qa),(⟨false,[],[]⟩:Qa),(⟨false,[],[]⟩:Qa),(⟨false,[],[]⟩:Qa),[],false⟩:Qr)):=⟨_,_,_,Qp0.h,Qef⟩
instance Jbw:CFd Tryz.prog 143 5 13:=⟨fdA Tryz.underlying143 rfl rfl ti_4.h rfl⟩
instance Jbx:CFd Tryz.prog 143 0 0:=⟨fdA Tryz.underlying143 rfl rfl ti_34.h rfl⟩
instance Jby:CFd Tryz.prog 143 1 3:=⟨fdA Tryz.underlying143 rfl rfl ti_34.h rfl⟩
instance Jbz:CFd Tryz.prog 143 2 6:=⟨fdA Tryz.underlying143 rfl rfl ti_34.h rfl⟩
instance Jb0:CFd Tryz.prog 143 3 9:=⟨fdA Tryz.underlying143 rfl rfl ti_34.h rfl⟩
instance Jb1:CFd Tryz.prog 143 4 12:=⟨fdA Tryz.underlying143 rfl rfl ti_26.h rfl⟩
instance ti_72:CTy Tryz.prog 72 4 32 (.agg #[.int .i64 0,.int .i64 0,.int .i64 0,.int .i64 0]):=⟨tyI (by kernel_rfl)⟩
theorem Qll:Zr (Qfo (⟨0,0,0,0⟩:X7)) [.int .i64 0,.int .i64 0,.int .i64 0,.int .i64 0]:=K9 (Qh (c1:=[.int .i64 0]) Vb (Qh (c1:=[.int .i64 0]) Vb (Qh (c1:=[.int .i64 0]) Vb (Qh (c1:=[.int .i64 0]) Vb (Kc)))))
instance:CZy Tryz.prog 72 (Qfo (⟨0,0,0,0⟩:X7)):=⟨_,_,_,ti_72.h,Qll⟩
instance:CUn Tryz.prog 72 (.array 4 3):=⟨Tryz.underlying72⟩
instance sh_72:CSh Tryz.prog 72 true 4:=⟨shp Tryz.underlying72 rfl ti_72.h⟩
instance Qm5:CTy Tryz.prog 137 4 96 (.agg #[.slice none 0 0,.slice none 0 0,.slice none 0 0,.slice none 0 0]):=⟨tyI (by kernel_rfl)⟩
theorem Zw:Zr (Yn (⟨[],[],[],[]⟩:Q9)) [.slice none 0 0,.slice none 0 0,.slice none 0 0,.slice none 0 0]:=K9 (Qh (c1:=[.slice none 0 0]) (J6 (k:=1)) (Qh (c1:=[.slice none 0 0]) (J6 (k:=1)) (Qh (c1:=[.slice none 0 0]) (J6 (k:=3)) (Qh (c1:=[.slice none 0 0]) (J6 (k:=3)) (Kc)))))
instance:CZy Tryz.prog 137 (Yn (⟨[],[],[],[]⟩:Q9)):=⟨_,_,_,Qm5.h,Zw⟩
instance Qm6:CTy Tryz.prog 138 3 24 (.agg #[.int .i64 0,.int .i64 0,.int .i64 0]):=⟨tyI (by kernel_rfl)⟩
theorem Qix:Zr (Qkp (⟨0,0,0⟩:Yr)) [.int .i64 0,.int .i64 0,.int .i64 0]:=K9 (Qh (c1:=[.int .i64 0]) Vb (Qh (c1:=[.int .i64 0]) Vb (Qh (c1:=[.int .i64 0]) Vb (Kc))))
instance:CZy Tryz.prog 138 (Qkp (⟨0,0,0⟩:Yr)):=⟨_,_,_,Qm6.h,Qix⟩
instance Qsn:CPl Tryz.prog 137 [(0,1),(1,1),(2,1),(3,1)]:=⟨⟨_,Tryz.underlying137,by kernel_rfl⟩⟩
instance Jeo:CSh Tryz.prog 137 true 4:=⟨shp Tryz.underlying137 rfl Qm5.h⟩
instance Jb2:CFd Tryz.prog 137 1 1:=⟨fdA Tryz.underlying137 rfl rfl ti_27.h rfl⟩
instance:CUn Tryz.prog 138 (.array 3 3):=⟨Tryz.underlying138⟩
instance Jep:CSh Tryz.prog 138 true 3:=⟨shp Tryz.underlying138 rfl Qm6.h⟩
instance Q0q:CTy Tryz.prog 210 5 104 (.agg #[.bool false,.slice none 0 0,.slice none 0 0,.slice none 0 0,.slice none 0 0]):=⟨tyI (by kernel_rfl)⟩
theorem Qg2:Zr (X4 (⟨(⟨false,[],[]⟩:Qa),[],[]⟩:W3)) [.bool false,.slice none 0 0,.slice none 0 0,.slice none 0 0,.slice none 0 0]:=K9 (Qh (c1:=[.bool false,.slice none 0 0,.slice none 0 0]) Qu (Qh (c1:=[.slice none 0 0]) (J6 (k:=3)) (Qh (c1:=[.slice none 0 0]) (J6 (k:=3)) (Kc))))
instance:CZy Tryz.prog 210 (X4 (⟨(⟨false,[],[]⟩:Qa),[],[]⟩:W3)):=⟨_,_,_,Q0q.h,Qg2⟩
instance Q9y:CPl Tryz.prog 210 [(0,3),(3,1),(4,1)]:=⟨⟨_,Tryz.underlying210,by kernel_rfl⟩⟩
instance Jeq:CSh Tryz.prog 210 true 5:=⟨shp Tryz.underlying210 rfl Q0q.h⟩
instance Jb3:CFd Tryz.prog 210 0 0:=⟨fdA Tryz.underlying210 rfl rfl ti_34.h rfl⟩
instance Jb4:CFd Tryz.prog 210 1 3:=⟨fdA Tryz.underlying210 rfl rfl ti_26.h rfl⟩
instance Jb5:CFd Tryz.prog 210 2 4:=⟨fdA Tryz.underlying210 rfl rfl ti_26.h rfl⟩
instance Jb6:CFd Tryz.prog 137 0 0:=⟨fdA Tryz.underlying137 rfl rfl ti_27.h rfl⟩
instance Jb7:CFd Tryz.prog 137 2 2:=⟨fdA Tryz.underlying137 rfl rfl ti_26.h rfl⟩
instance Jb8:CFd Tryz.prog 137 3 3:=⟨fdA Tryz.underlying137 rfl rfl ti_26.h rfl⟩
theorem Q6h:∃ fs F,Tryz.prog.underlying 216=some (.struct fs)∧fs[1]?=some F∧F.offset=1∧Shp Tryz.prog F.type false 1:=⟨_,_,Tryz.underlying216,rfl,rfl,sh_32.h⟩
end Go.Proofs.YtlihkcaoachkdaaGreatDoor
