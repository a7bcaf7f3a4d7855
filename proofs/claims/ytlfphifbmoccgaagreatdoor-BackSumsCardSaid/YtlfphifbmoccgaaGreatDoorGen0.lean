import Derived.Test.YtlfphifbmoccgaaGreatDoorChecked
import Derived.Test.YtlfphifbmoccgaaGreatDoorSC
import Derived.Test.YtlfphifbmoccgaaGreatDoorBld
import Derived.Test.YtlfphifbmoccgaaGreatDoorLib
import Derived.Test.YtlfphifbmoccgaaGreatDoorMod
set_option maxRecDepth 100000
set_option maxHeartbeats 4000000
namespace Go.Proofs.YtlfphifbmoccgaaGreatDoor
open Go Go.RowKit
theorem ownK:ownKnob Tryz.prog.godebug=none:=by kernel_rfl
theorem laidOutK:laidOutB Tryz.prog=true:=by kernel_rfl
abbrev Zo(xs:List Nat):Ly:=sli 1 (xs.map u32)
abbrev Qe(x:Qc):Ly:=.agg [bl x.Neg,Zo x.N,Zo x.D]
abbrev Yc(x:Jk):Ly:=.agg [i64 x.Op,i64 x.A,i64 x.B,Qe x.N]
abbrev Qab(xs:List Jk):Ly:=sli 6 (xs.map Yc)
abbrev Qoh(xs:List Int):Ly:=sli 1 (xs.map i64)
abbrev K2(x:Jl):Ly:=.agg [Qab x.Code,Qoh x.Outs,i64 x.Dim,i64 x.Par]
abbrev Ql(xs:List Qc):Ly:=sli 3 (xs.map Qe)
abbrev W0(xs:List (List Qc)):Ly:=sli 1 (xs.map Ql)
abbrev Vh(x:Jd):Ly:=.agg [str x.Name,Ql x.C,W0 x.A,Ql x.B,Ql x.E]
abbrev Kf(x:Qx):Ly:=.agg [K2 x.Tape,Vh x.Scheme,Ql x.P,i64 x.Bits]
abbrev Yd(x:J9):Ly:=.agg [Qe x.T,Qe x.H,Ql x.Y]
abbrev Xb(x:Kt):Ly:=.agg [Ql x.U,Ql x.V]
abbrev Jg(x:Qf):Ly:=.agg [bl x.Neg,Zo x.Abs]
abbrev Qb(x:Qa):Ly:=.agg [Jg x.Num,Zo x.Den]
theorem J3{a0_0_ a0_1_ a1_}:IF (.agg [.agg [bl a0_0_,sli 1 a0_1_],sli 1 a1_]):=Qi8 (Ym (Qi8 (Ym if_bl (Ym Qap (Qfw)))) (Ym Qap (Qfw)))
abbrev Kb(x:Qs):Ly:=.agg [i64 x.Op,i64 x.A,i64 x.B,Qb x.N]
abbrev Q1o(xs:List Qs):Ly:=sli 6 (xs.map Kb)
abbrev Jc(x:Qm):Ly:=.agg [Q1o x.Code,Qoh x.Outs,i64 x.Dim,i64 x.Par]
abbrev Qg(xs:List Qa):Ly:=sli 3 (xs.map Qb)
abbrev Qlj(xs:List (List Qa)):Ly:=sli 1 (xs.map Qg)
abbrev Jn(x:Qt):Ly:=.agg [str x.Name,Qg x.C,Qlj x.A,Qg x.B,Qg x.E]
abbrev Qm0(x:Qjb):Ly:=.agg [str x.a0,str x.a1,str x.a2,str x.a3,str x.a4,str x.a5]
abbrev Qq(x:Qd):Ly:=.agg [i64 x.Kind,i64 x.Step,i64 x.Stage,i64 x.At]
abbrev Kn(x:J7):Ly:=.agg [str x.rest,i64 x.at_,bl x.over]
abbrev Qsg(x:Qis):Ly:=.agg [i64 x.Kind,str x.Text,i64 x.At]
abbrev Qr(x:Qh):Ly:=.agg [Jc x.Tape,Jn x.Scheme,Qg x.P,i64 x.Bits]
abbrev Jj(x:Q2):Ly:=.agg [Qlj x.Ys,Qlj x.Ks,Qg x.Next,Qg x.Err]
abbrev V7(x:Jv):Ly:=.agg [Qg x.Next,Qg x.Err,Jj x.Made]
abbrev Qmf(x:K7):Ly:=.agg [i64 x.op,i64 x.a,i64 x.b]
abbrev Qno(x:Qa5):Ly:=.agg [i64 x.Seen,i64 x.Peak]
abbrev Qk(x:Qj):Ly:=.agg [Qno x.Count,i64 x.limit]
theorem Q9{a0_0_ a0_1_ a1_}:IF (.agg [.agg [i64 a0_0_,i64 a0_1_],i64 a1_]):=Qi8 (Ym (Qi8 (Ym Xl (Ym Xl (Qfw)))) (Ym Xl (Qfw)))
abbrev X4(x:Va):Ly:=.agg [Qb x.T,Qg x.Y,Qg x.P]
abbrev Y6(x:Y0):Ly:=.agg [Qb x.T,Qg x.Y,Qg x.P]
abbrev Q0(x:Qv):Ly:=.agg [Qb x.V,Qb x.D]
theorem Vf{a0_0_0_ a0_0_1_ a0_1_ a1_0_0_ a1_0_1_ a1_1_}:IF (.agg [.agg [.agg [bl a0_0_0_,sli 1 a0_0_1_],sli 1 a0_1_],.agg [.agg [bl a1_0_0_,sli 1 a1_0_1_],sli 1 a1_1_]]):=Qi8 (Ym (Qi8 (Ym (Qi8 (Ym if_bl (Ym Qap (Qfw)))) (Ym Qap (Qfw)))) (Ym (Qi8 (Ym (Qi8 (Ym if_bl (Ym Qap (Qfw)))) (Ym Qap (Qfw)))) (Qfw)))
abbrev Qs4(xs:List Qv):Ly:=sli 6 (xs.map Q0)
abbrev Y7(x:Y3):Ly:=.agg [Q0 x.T,Qs4 x.Y,Qs4 x.P]
abbrev Qoi(x:Qkh):Ly:=.agg [u8 x.a0,u8 x.a1,u8 x.a2,u8 x.a3,u8 x.a4,u8 x.a5,u8 x.a6,u8 x.a7,u8 x.a8]
abbrev Qjj(x:Qch):Ly:=.agg [i64 x.Kind,str x.Text,i64 x.At]
abbrev W5(x:Q8):Ly:=.agg [bl x.Neg,Zo x.Abs]
abbrev Q20(x:Qww):Ly:=.agg [i64 x.a0,i64 x.a1,i64 x.a2]
abbrev Qjk(x:Qe6):Ly:=.agg [W0 x.Ys,W0 x.Ks,Ql x.Next,Ql x.Err]
abbrev Qi5(x:Qdx):Ly:=.agg [Qe x.T,Ql x.Y,Ql x.P]
abbrev J2(x:Jm):Ly:=.agg [Qg x.Y,Qg x.P]
abbrev Qdg(x:Vc):Ly:=.agg [Qb x.T,Qg x.Y,Qg x.P]
abbrev Q41(x:Qv7):Ly:=.agg [Jc x.t,Qg x.done,Qg x.co,Qdg x.grad]
abbrev K3(x:Jw):Ly:=.agg [Ql x.Y,Ql x.P]
abbrev Qjl(x:Qe7):Ly:=.agg [Qe x.T,Ql x.Y,Ql x.P]
abbrev Qmg(x:Qh0):Ly:=.agg [i64 x.a0,i64 x.a1]
abbrev Qi6(x:Qaq):Ly:=.agg [Qe x.Tol,Qe x.Safe,Qe x.Low,Qe x.High,Qe x.Least,i64 x.Fine,i64 x.Most]
abbrev Qjm(x:Qe8):Ly:=.agg [Kf x.Problem,Qi6 x.Rules,Qe x.Start,Qe x.End,Qe x.First,Ql x.Y]
abbrev Qbi(x:Jr):Ly:=.agg [Qe x.T,Qe x.Want,Qe x.H,Qe x.Err,Ql x.Y,bl x.Ok]
abbrev Qi7(xs:List Jr):Ly:=sli 14 (xs.map Qbi)
abbrev J8(x:Ja):Ly:=.agg [Qi7 x.Tries,Qe x.T,Ql x.Y]
abbrev Qox(x:Qck):Ly:=.agg [Qb x.Tol,Qb x.Safe,Qb x.Low,Qb x.High,Qb x.Least,i64 x.Fine,i64 x.Most]
abbrev Qt4(x:Qot):Ly:=.agg [Qr x.Problem,Qox x.Rules,Qb x.Start,Qb x.End,Qb x.First,Qg x.Y]
abbrev Kz(x:Q3):Ly:=.agg [Qb x.T,Qb x.Want,Qb x.H,Qb x.Err,Qg x.Y,bl x.Ok]
abbrev Q21(xs:List Q3):Ly:=sli 14 (xs.map Kz)
abbrev Kk(x:Jh):Ly:=.agg [Q21 x.Tries,Qb x.T,Qg x.Y]
abbrev Qp8(x:Qk5):Ly:=.agg [i64 x.What,i64 x.Try]
abbrev Q22(x:Qwx):Ly:=.agg [i64 x.a0,i64 x.a1,i64 x.a2,i64 x.a3]
instance ti_31:CTy Tryz.prog 31 11 208 (.agg #[.slice none 0 0,.slice none 0 0,.int .i64 0,.int .i64 0,.string ⟨#[]⟩,.slice none 0 0,.slice none 0 0,.slice none 0 0,.slice none 0 0,.slice none 0 0,.int .i64 0]):=⟨tyI (by kernel_rfl)⟩
instance sh_31:CSh Tryz.prog 31 true 11:=⟨shp Tryz.underlying31 rfl ti_31.h⟩
instance ti_25:CTy Tryz.prog 25 4 64 (.agg #[.slice none 0 0,.slice none 0 0,.int .i64 0,.int .i64 0]):=⟨tyI (by kernel_rfl)⟩
instance Jhv:CFd Tryz.prog 31 0 0:=⟨fdA Tryz.underlying31 rfl rfl ti_25.h rfl⟩
instance sh_25:CSh Tryz.prog 25 true 4:=⟨shp Tryz.underlying25 rfl ti_25.h⟩
instance ti_22:CTy Tryz.prog 22 1 24 (.slice none 0 0):=⟨tyI (by kernel_rfl)⟩
instance Jhw:CFd Tryz.prog 25 0 0:=⟨fdA Tryz.underlying25 rfl rfl ti_22.h rfl⟩
instance:CUn Tryz.prog 22 (.slice 250):=⟨Tryz.underlying22⟩
instance sh_22:CSh Tryz.prog 22 false 1:=⟨shp Tryz.underlying22 rfl ti_22.h⟩
instance Q7v:CTy Tryz.prog 250 6 80 (.agg #[.int .i64 0,.int .i64 0,.int .i64 0,.bool false,.slice none 0 0,.slice none 0 0]):=⟨tyI (by kernel_rfl)⟩
instance ti_34:CTy Tryz.prog 34 3 56 (.agg #[.bool false,.slice none 0 0,.slice none 0 0]):=⟨tyI (by kernel_rfl)⟩
instance Jeg:CFd Tryz.prog 250 3 3:=⟨fdA Tryz.underlying250 rfl rfl ti_34.h rfl⟩
instance sh_34:CSh Tryz.prog 34 true 3:=⟨shp Tryz.underlying34 rfl ti_34.h⟩
instance ti_32:CTy Tryz.prog 32 1 24 (.slice none 0 0):=⟨tyI (by kernel_rfl)⟩
instance Jhx:CFd Tryz.prog 34 1 1:=⟨fdA Tryz.underlying34 rfl rfl ti_32.h rfl⟩
instance:CUn Tryz.prog 32 (.slice 184):=⟨Tryz.underlying32⟩
instance sh_32:CSh Tryz.prog 32 false 1:=⟨shp Tryz.underlying32 rfl ti_32.h⟩
instance Jhy:CFd Tryz.prog 34 2 2:=⟨fdA Tryz.underlying34 rfl rfl ti_32.h rfl⟩
instance ti_23:CTy Tryz.prog 23 1 24 (.slice none 0 0):=⟨tyI (by kernel_rfl)⟩
instance Jhz:CFd Tryz.prog 25 1 1:=⟨fdA Tryz.underlying25 rfl rfl ti_23.h rfl⟩
instance:CUn Tryz.prog 23 (.slice 3):=⟨Tryz.underlying23⟩
instance sh_23:CSh Tryz.prog 23 false 1:=⟨shp Tryz.underlying23 rfl ti_23.h⟩
instance ti_29:CTy Tryz.prog 29 5 112 (.agg #[.string ⟨#[]⟩,.slice none 0 0,.slice none 0 0,.slice none 0 0,.slice none 0 0]):=⟨tyI (by kernel_rfl)⟩
instance Jh0:CFd Tryz.prog 31 1 4:=⟨fdA Tryz.underlying31 rfl rfl ti_29.h rfl⟩
instance sh_29:CSh Tryz.prog 29 true 5:=⟨shp Tryz.underlying29 rfl ti_29.h⟩
instance ti_9:CTy Tryz.prog 9 1 16 (.string ⟨#[]⟩):=⟨tyI (by kernel_rfl)⟩
instance Jh1:CFd Tryz.prog 29 0 0:=⟨fdA Tryz.underlying29 rfl rfl ti_9.h rfl⟩
instance:CUn Tryz.prog 9 (.string):=⟨Tryz.underlying9⟩
instance sh_9:CSh Tryz.prog 9 false 1:=⟨shp Tryz.underlying9 rfl ti_9.h⟩
instance ti_27:CTy Tryz.prog 27 1 24 (.slice none 0 0):=⟨tyI (by kernel_rfl)⟩
instance Jh2:CFd Tryz.prog 29 2 2:=⟨fdA Tryz.underlying29 rfl rfl ti_27.h rfl⟩
instance:CUn Tryz.prog 27 (.slice 26):=⟨Tryz.underlying27⟩
instance sh_27:CSh Tryz.prog 27 false 1:=⟨shp Tryz.underlying27 rfl ti_27.h⟩
instance ti_26:CTy Tryz.prog 26 1 24 (.slice none 0 0):=⟨tyI (by kernel_rfl)⟩
instance Jh3:CFd Tryz.prog 29 3 3:=⟨fdA Tryz.underlying29 rfl rfl ti_26.h rfl⟩
instance:CUn Tryz.prog 26 (.slice 34):=⟨Tryz.underlying26⟩
instance sh_26:CSh Tryz.prog 26 false 1:=⟨shp Tryz.underlying26 rfl ti_26.h⟩
instance Jh4:CFd Tryz.prog 29 1 1:=⟨fdA Tryz.underlying29 rfl rfl ti_26.h rfl⟩
instance Jh5:CFd Tryz.prog 29 4 4:=⟨fdA Tryz.underlying29 rfl rfl ti_26.h rfl⟩
instance Jh6:CFd Tryz.prog 31 2 9:=⟨fdA Tryz.underlying31 rfl rfl ti_26.h rfl⟩
instance ti_36:CTy Tryz.prog 36 7 136 (.agg #[.bool false,.slice none 0 0,.slice none 0 0,.bool false,.slice none 0 0,.slice none 0 0,.slice none 0 0]):=⟨tyI (by kernel_rfl)⟩
instance sh_36:CSh Tryz.prog 36 true 7:=⟨shp Tryz.underlying36 rfl ti_36.h⟩
instance Jh7:CFd Tryz.prog 36 0 0:=⟨fdA Tryz.underlying36 rfl rfl ti_34.h rfl⟩
instance Jh8:CFd Tryz.prog 36 1 3:=⟨fdA Tryz.underlying36 rfl rfl ti_34.h rfl⟩
instance Jh9:CFd Tryz.prog 36 2 6:=⟨fdA Tryz.underlying36 rfl rfl ti_26.h rfl⟩
instance ti_38:CTy Tryz.prog 38 2 48 (.agg #[.slice none 0 0,.slice none 0 0]):=⟨tyI (by kernel_rfl)⟩
instance sh_38:CSh Tryz.prog 38 true 2:=⟨shp Tryz.underlying38 rfl ti_38.h⟩
instance Jia:CFd Tryz.prog 38 0 0:=⟨fdA Tryz.underlying38 rfl rfl ti_26.h rfl⟩
instance Jib:CFd Tryz.prog 38 1 1:=⟨fdA Tryz.underlying38 rfl rfl ti_26.h rfl⟩
instance ti_3:CTy Tryz.prog 3 1 8 (.int .i64 0):=⟨tyI (by kernel_rfl)⟩
instance Jic:CFd Tryz.prog 31 3 10:=⟨fdA Tryz.underlying31 rfl rfl ti_3.h rfl⟩
instance:CUn Tryz.prog 3 (.int .i64):=⟨Tryz.underlying3⟩
instance sh_3:CSh Tryz.prog 3 false 1:=⟨shp Tryz.underlying3 rfl ti_3.h⟩
instance Qet:CTy Tryz.prog 165 6 80 (.agg #[.int .i64 0,.int .i64 0,.int .i64 0,.bool false,.slice none 0 0,.slice none 0 0]):=⟨tyI (by kernel_rfl)⟩
instance Qm9:CPl Tryz.prog 165 [(0,1),(1,1),(2,1),(3,3)]:=⟨⟨_,Tryz.underlying165,by kernel_rfl⟩⟩
theorem Xy:Zr (Jg (⟨false,[]⟩:Qf)) [.bool false,.slice none 0 0]:=Ki (Qi (c1:=[.bool false]) zr_bl (Qi (c1:=[.slice none 0 0]) (Jz (k:=1)) (J0)))
theorem Js:Zr (Qb (⟨(⟨false,[]⟩:Qf),[]⟩:Qa)) [.bool false,.slice none 0 0,.slice none 0 0]:=Ki (Qi (c1:=[.bool false,.slice none 0 0]) Xy (Qi (c1:=[.slice none 0 0]) (Jz (k:=1)) (J0)))
theorem Qbv:Zr (Kb (⟨0,0,0,(⟨(⟨false,[]⟩:Qf),[]⟩:Qa)⟩:Qs)) [.int .i64 0,.int .i64 0,.int .i64 0,.bool false,.slice none 0 0,.slice none 0 0]:=Ki (Qi (c1:=[.int .i64 0]) K9 (Qi (c1:=[.int .i64 0]) K9 (Qi (c1:=[.int .i64 0]) K9 (Qi (c1:=[.bool false,.slice none 0 0,.slice none 0 0]) Js (J0)))))
instance:CUn Tryz.prog 53 (.slice 165):=⟨Tryz.underlying53⟩
instance ti_55:CTy Tryz.prog 55 4 64 (.agg #[.slice none 0 0,.slice none 0 0,.int .i64 0,.int .i64 0]):=⟨tyI (by kernel_rfl)⟩
instance pl_55:CPl Tryz.prog 55 [(0,1),(1,1),(2,1),(3,1)]:=⟨⟨_,Tryz.underlying55,by kernel_rfl⟩⟩
theorem Qf7:Zr (Jc (⟨[],[],0,0⟩:Qm)) [.slice none 0 0,.slice none 0 0,.int .i64 0,.int .i64 0]:=Ki (Qi (c1:=[.slice none 0 0]) (Jz (k:=6)) (Qi (c1:=[.slice none 0 0]) (Jz (k:=1)) (Qi (c1:=[.int .i64 0]) K9 (Qi (c1:=[.int .i64 0]) K9 (J0)))))
instance:CZy Tryz.prog 55 (Jc (⟨[],[],0,0⟩:Qm)):=⟨_,_,_,ti_55.h,Qf7⟩
instance sh_55:CSh Tryz.prog 55 true 4:=⟨shp Tryz.underlying55 rfl ti_55.h⟩
instance ti_57:CTy Tryz.prog 57 5 112 (.agg #[.string ⟨#[]⟩,.slice none 0 0,.slice none 0 0,.slice none 0 0,.slice none 0 0]):=⟨tyI (by kernel_rfl)⟩
theorem Qa9:Zr (Jn (⟨[],[],[],[],[]⟩:Qt)) [.string ⟨#[]⟩,.slice none 0 0,.slice none 0 0,.slice none 0 0,.slice none 0 0]:=Ki (Qi (c1:=[.string ⟨#[]⟩]) Qg3 (Qi (c1:=[.slice none 0 0]) (Jz (k:=3)) (Qi (c1:=[.slice none 0 0]) (Jz (k:=1)) (Qi (c1:=[.slice none 0 0]) (Jz (k:=3)) (Qi (c1:=[.slice none 0 0]) (Jz (k:=3)) (J0))))))
instance:CZy Tryz.prog 57 (Jn (⟨[],[],[],[],[]⟩:Qt)):=⟨_,_,_,ti_57.h,Qa9⟩
instance Q23:CTy Tryz.prog 251 6 96 (.agg #[.string ⟨#[]⟩,.string ⟨#[]⟩,.string ⟨#[]⟩,.string ⟨#[]⟩,.string ⟨#[]⟩,.string ⟨#[]⟩]):=⟨tyI (by kernel_rfl)⟩
theorem Qt5:Zr (Qm0 (⟨[],[],[],[],[],[]⟩:Qjb)) [.string ⟨#[]⟩,.string ⟨#[]⟩,.string ⟨#[]⟩,.string ⟨#[]⟩,.string ⟨#[]⟩,.string ⟨#[]⟩]:=Ki (Qi (c1:=[.string ⟨#[]⟩]) Qg3 (Qi (c1:=[.string ⟨#[]⟩]) Qg3 (Qi (c1:=[.string ⟨#[]⟩]) Qg3 (Qi (c1:=[.string ⟨#[]⟩]) Qg3 (Qi (c1:=[.string ⟨#[]⟩]) Qg3 (Qi (c1:=[.string ⟨#[]⟩]) Qg3 (J0)))))))
instance:CZy Tryz.prog 251 (Qm0 (⟨[],[],[],[],[],[]⟩:Qjb)):=⟨_,_,_,Q23.h,Qt5⟩
instance:CUn Tryz.prog 251 (.array 6 9):=⟨Tryz.underlying251⟩
instance Jjg:CSh Tryz.prog 251 true 6:=⟨shp Tryz.underlying251 rfl Q23.h⟩
instance ti_50:CTy Tryz.prog 50 4 32 (.agg #[.int .i64 0,.int .i64 0,.int .i64 0,.int .i64 0]):=⟨tyI (by kernel_rfl)⟩
theorem Qn:Zr (Qq (⟨0,0,0,0⟩:Qd)) [.int .i64 0,.int .i64 0,.int .i64 0,.int .i64 0]:=Ki (Qi (c1:=[.int .i64 0]) K9 (Qi (c1:=[.int .i64 0]) K9 (Qi (c1:=[.int .i64 0]) K9 (Qi (c1:=[.int .i64 0]) K9 (J0)))))
instance:CZy Tryz.prog 50 (Qq (⟨0,0,0,0⟩:Qd)):=⟨_,_,_,ti_50.h,Qn⟩
instance pl_57:CPl Tryz.prog 57 [(0,1),(1,1),(2,1),(3,1),(4,1)]:=⟨⟨_,Tryz.underlying57,by kernel_rfl⟩⟩
instance pl_50:CPl Tryz.prog 50 [(0,1),(1,1),(2,1),(3,1)]:=⟨⟨_,Tryz.underlying50,by kernel_rfl⟩⟩
instance sh_57:CSh Tryz.prog 57 true 5:=⟨shp Tryz.underlying57 rfl ti_57.h⟩
instance sh_50:CSh Tryz.prog 50 true 4:=⟨shp Tryz.underlying50 rfl ti_50.h⟩
instance Jc7:CTy Tryz.prog 366 3 32 (.agg #[.string ⟨#[]⟩,.int .i64 0,.bool false]):=⟨tyI (by kernel_rfl)⟩
instance Jc8:CPl Tryz.prog 366 [(0,1),(1,1),(2,1)]:=⟨⟨_,Tryz.underlying366,by kernel_rfl⟩⟩
theorem Qwy:Zr (Kn (⟨[],0,false⟩:J7)) [.string ⟨#[]⟩,.int .i64 0,.bool false]:=Ki (Qi (c1:=[.string ⟨#[]⟩]) Qg3 (Qi (c1:=[.int .i64 0]) K9 (Qi (c1:=[.bool false]) zr_bl (J0))))
instance ti_4:CTy Tryz.prog 4 1 1 (.bool false):=⟨tyI (by kernel_rfl)⟩
instance Jeh:CFd Tryz.prog 366 2 2:=⟨fdA Tryz.underlying366 rfl rfl ti_4.h rfl⟩
instance:CUn Tryz.prog 4 (.bool):=⟨Tryz.underlying4⟩
instance sh_4:CSh Tryz.prog 4 false 1:=⟨shp Tryz.underlying4 rfl ti_4.h⟩
instance Jei:CFd Tryz.prog 366 1 1:=⟨fdA Tryz.underlying366 rfl rfl ti_3.h rfl⟩
theorem fol:Tryz.prog.follows .mixedOrders=true:=by kernel_rfl
instance Jej:CFd Tryz.prog 366 0 0:=⟨fdA Tryz.underlying366 rfl rfl ti_9.h rfl⟩
instance Jid:CFd Tryz.prog 57 0 0:=⟨fdA Tryz.underlying57 rfl rfl ti_9.h rfl⟩
instance Q7w:CTy Tryz.prog 370 3 32 (.agg #[.int .i64 0,.string ⟨#[]⟩,.int .i64 0]):=⟨tyI (by kernel_rfl)⟩
instance Q7x:CPl Tryz.prog 370 [(0,1),(1,1),(2,1)]:=⟨⟨_,Tryz.underlying370,by kernel_rfl⟩⟩
theorem Qv8:Zr (Qsg (⟨0,[],0⟩:Qis)) [.int .i64 0,.string ⟨#[]⟩,.int .i64 0]:=Ki (Qi (c1:=[.int .i64 0]) K9 (Qi (c1:=[.string ⟨#[]⟩]) Qg3 (Qi (c1:=[.int .i64 0]) K9 (J0))))
instance Jek:CFd Tryz.prog 370 1 1:=⟨fdA Tryz.underlying370 rfl rfl ti_9.h rfl⟩
instance Jel:CFd Tryz.prog 370 0 0:=⟨fdA Tryz.underlying370 rfl rfl ti_3.h rfl⟩
instance:CUn Tryz.prog 21 (.int .i32):=⟨Tryz.underlying21⟩
instance:CUn Tryz.prog 5 (.int .u8):=⟨Tryz.underlying5⟩
instance ti_64:CTy Tryz.prog 64 3 56 (.agg #[.bool false,.slice none 0 0,.slice none 0 0]):=⟨tyI (by kernel_rfl)⟩
instance:CZy Tryz.prog 64 (Qb (⟨(⟨false,[]⟩:Qf),[]⟩:Qa)):=⟨_,_,_,ti_64.h,Js⟩
instance ti_62:CTy Tryz.prog 62 2 32 (.agg #[.bool false,.slice none 0 0]):=⟨tyI (by kernel_rfl)⟩
instance:CZy Tryz.prog 62 (Jg (⟨false,[]⟩:Qf)):=⟨_,_,_,ti_62.h,Xy⟩
instance:CUn Tryz.prog 184 (.int .u32):=⟨Tryz.underlying184⟩
instance Vz:CTy Tryz.prog 184 1 4 (.int .u32 0):=⟨tyI (by kernel_rfl)⟩
instance Jjh:CSh Tryz.prog 184 false 1:=⟨shp Tryz.underlying184 rfl Vz.h⟩
instance:CUn Tryz.prog 205 (.int .u64):=⟨Tryz.underlying205⟩
theorem J5:EqF Tryz.prog 2 50 (λx:Qd=>.agg [i64 x.Kind,i64 x.Step,i64 x.Stage,i64 x.At]) Qo:=
 Qxo Tryz.underlying50 (by kernel_rfl) (Qhw rfl rfl sh_3.h (λ_=>rfl) (λ_=>rfl) (Qka (λx:Qd=>x.Kind) (Ql9 (n:=0) Tryz.underlying3)) (Qhw rfl rfl sh_3.h (λ_=>rfl) (λ_=>rfl) (Qka (λx:Qd=>x.Step) (Ql9 (n:=0) Tryz.underlying3)) (Qhw rfl rfl sh_3.h (λ_=>rfl) (λ_=>rfl) (Qka (λx:Qd=>x.Stage) (Ql9 (n:=0) Tryz.underlying3)) (Qhw rfl rfl sh_3.h (λ_=>rfl) (λ_=>rfl) (Qka (λx:Qd=>x.At) (Ql9 (n:=0) Tryz.underlying3)) (Q2o)))))
theorem eg_50:Tryz.prog.eqGuardType Tryz.prog.depth 50=false:=by kernel_rfl
instance Jie:CFd Tryz.prog 50 3 3:=⟨fdA Tryz.underlying50 rfl rfl ti_3.h rfl⟩
instance pl_62:CPl Tryz.prog 62 [(0,1),(1,1)]:=⟨⟨_,Tryz.underlying62,by kernel_rfl⟩⟩
instance sh_62:CSh Tryz.prog 62 true 2:=⟨shp Tryz.underlying62 rfl ti_62.h⟩
instance pl_64:CPl Tryz.prog 64 [(0,2),(2,1)]:=⟨⟨_,Tryz.underlying64,by kernel_rfl⟩⟩
instance sh_64:CSh Tryz.prog 64 true 3:=⟨shp Tryz.underlying64 rfl ti_64.h⟩
instance Jif:CFd Tryz.prog 62 1 1:=⟨fdA Tryz.underlying62 rfl rfl ti_32.h rfl⟩
instance Jig:CFd Tryz.prog 62 0 0:=⟨fdA Tryz.underlying62 rfl rfl ti_4.h rfl⟩
instance:CUn Tryz.prog 395 (.slice 32):=⟨Tryz.underlying395⟩
instance:CUn Tryz.prog 257 (.slice 9):=⟨Tryz.underlying257⟩
instance:CUn Tryz.prog 43 (.slice 64):=⟨Tryz.underlying43⟩
instance ti_43:CTy Tryz.prog 43 1 24 (.slice none 0 0):=⟨tyI (by kernel_rfl)⟩
instance Jih:CFd Tryz.prog 57 1 1:=⟨fdA Tryz.underlying57 rfl rfl ti_43.h rfl⟩
instance sh_43:CSh Tryz.prog 43 false 1:=⟨shp Tryz.underlying43 rfl ti_43.h⟩
instance ti_44:CTy Tryz.prog 44 1 24 (.slice none 0 0):=⟨tyI (by kernel_rfl)⟩
instance Jii:CFd Tryz.prog 57 2 2:=⟨fdA Tryz.underlying57 rfl rfl ti_44.h rfl⟩
instance:CUn Tryz.prog 44 (.slice 43):=⟨Tryz.underlying44⟩
instance sh_44:CSh Tryz.prog 44 false 1:=⟨shp Tryz.underlying44 rfl ti_44.h⟩
instance Jij:CFd Tryz.prog 57 3 3:=⟨fdA Tryz.underlying57 rfl rfl ti_43.h rfl⟩
instance Jik:CFd Tryz.prog 57 4 4:=⟨fdA Tryz.underlying57 rfl rfl ti_43.h rfl⟩
instance Jil:CFd Tryz.prog 64 1 2:=⟨fdA Tryz.underlying64 rfl rfl ti_32.h rfl⟩
instance Jim:CFd Tryz.prog 64 0 0:=⟨fdA Tryz.underlying64 rfl rfl ti_62.h rfl⟩
instance ti_59:CTy Tryz.prog 59 11 208 (.agg #[.slice none 0 0,.slice none 0 0,.int .i64 0,.int .i64 0,.string ⟨#[]⟩,.slice none 0 0,.slice none 0 0,.slice none 0 0,.slice none 0 0,.slice none 0 0,.int .i64 0]):=⟨tyI (by kernel_rfl)⟩
instance pl_59:CPl Tryz.prog 59 [(0,4),(4,5),(9,1),(10,1)]:=⟨⟨_,Tryz.underlying59,by kernel_rfl⟩⟩
theorem Zu:Zr (Qr (⟨(⟨[],[],0,0⟩:Qm),(⟨[],[],[],[],[]⟩:Qt),[],0⟩:Qh)) [.slice none 0 0,.slice none 0 0,.int .i64 0,.int .i64 0,.string ⟨#[]⟩,.slice none 0 0,.slice none 0 0,.slice none 0 0,.slice none 0 0,.slice none 0 0,.int .i64 0]:=Ki (Qi (c1:=[.slice none 0 0,.slice none 0 0,.int .i64 0,.int .i64 0]) Qf7 (Qi (c1:=[.string ⟨#[]⟩,.slice none 0 0,.slice none 0 0,.slice none 0 0,.slice none 0 0]) Qa9 (Qi (c1:=[.slice none 0 0]) (Jz (k:=3)) (Qi (c1:=[.int .i64 0]) K9 (J0)))))
instance:CZy Tryz.prog 59 (Qr (⟨(⟨[],[],0,0⟩:Qm),(⟨[],[],[],[],[]⟩:Qt),[],0⟩:Qh)):=⟨_,_,_,ti_59.h,Zu⟩
instance sh_59:CSh Tryz.prog 59 true 11:=⟨shp Tryz.underlying59 rfl ti_59.h⟩
instance ti_48:CTy Tryz.prog 48 6 144 (.agg #[.slice none 0 0,.slice none 0 0,.slice none 0 0,.slice none 0 0,.slice none 0 0,.slice none 0 0]):=⟨tyI (by kernel_rfl)⟩
theorem Qf8:Zr (Jj (⟨[],[],[],[]⟩:Q2)) [.slice none 0 0,.slice none 0 0,.slice none 0 0,.slice none 0 0]:=Ki (Qi (c1:=[.slice none 0 0]) (Jz (k:=1)) (Qi (c1:=[.slice none 0 0]) (Jz (k:=1)) (Qi (c1:=[.slice none 0 0]) (Jz (k:=3)) (Qi (c1:=[.slice none 0 0]) (Jz (k:=3)) (J0)))))
theorem Qcw:Zr (V7 (⟨[],[],(⟨[],[],[],[]⟩:Q2)⟩:Jv)) [.slice none 0 0,.slice none 0 0,.slice none 0 0,.slice none 0 0,.slice none 0 0,.slice none 0 0]:=Ki (Qi (c1:=[.slice none 0 0]) (Jz (k:=3)) (Qi (c1:=[.slice none 0 0]) (Jz (k:=3)) (Qi (c1:=[.slice none 0 0,.slice none 0 0,.slice none 0 0,.slice none 0 0]) Qf8 (J0))))
instance:CZy Tryz.prog 48 (V7 (⟨[],[],(⟨[],[],[],[]⟩:Q2)⟩:Jv)):=⟨_,_,_,ti_48.h,Qcw⟩
instance ti_46:CTy Tryz.prog 46 4 96 (.agg #[.slice none 0 0,.slice none 0 0,.slice none 0 0,.slice none 0 0]):=⟨tyI (by kernel_rfl)⟩
instance:CZy Tryz.prog 46 (Jj (⟨[],[],[],[]⟩:Q2)):=⟨_,_,_,ti_46.h,Qf8⟩
instance Jin:CFd Tryz.prog 59 0 0:=⟨fdA Tryz.underlying59 rfl rfl ti_55.h rfl⟩
instance Jio:CFd Tryz.prog 55 2 2:=⟨fdA Tryz.underlying55 rfl rfl ti_3.h rfl⟩
instance Jip:CFd Tryz.prog 55 3 3:=⟨fdA Tryz.underlying55 rfl rfl ti_3.h rfl⟩
instance Jiq:CFd Tryz.prog 55 1 1:=⟨fdA Tryz.underlying55 rfl rfl ti_23.h rfl⟩
instance ti_53:CTy Tryz.prog 53 1 24 (.slice none 0 0):=⟨tyI (by kernel_rfl)⟩
instance Jir:CFd Tryz.prog 55 0 0:=⟨fdA Tryz.underlying55 rfl rfl ti_53.h rfl⟩
instance sh_53:CSh Tryz.prog 53 false 1:=⟨shp Tryz.underlying53 rfl ti_53.h⟩
instance Jji:CSh Tryz.prog 165 true 6:=⟨shp Tryz.underlying165 rfl Qet.h⟩
instance:CZy Tryz.prog 165 (Kb (⟨0,0,0,(⟨(⟨false,[]⟩:Qf),[]⟩:Qa)⟩:Qs)):=⟨_,_,_,Qet.h,Qbv⟩
instance Jem:CFd Tryz.prog 165 0 0:=⟨fdA Tryz.underlying165 rfl rfl ti_3.h rfl⟩
instance Qt6:CTy Tryz.prog 467 3 24 (.agg #[.int .i64 0,.int .i64 0,.int .i64 0]):=⟨tyI (by kernel_rfl)⟩
theorem Qhp:Zr (Qmf (⟨0,0,0⟩:K7)) [.int .i64 0,.int .i64 0,.int .i64 0]:=Ki (Qi (c1:=[.int .i64 0]) K9 (Qi (c1:=[.int .i64 0]) K9 (Qi (c1:=[.int .i64 0]) K9 (J0))))
instance:CZy Tryz.prog 467 (Qmf (⟨0,0,0⟩:K7)):=⟨_,_,_,Qt6.h,Qhp⟩
instance Jen:CFd Tryz.prog 165 1 1:=⟨fdA Tryz.underlying165 rfl rfl ti_3.h rfl⟩
instance Jeo:CFd Tryz.prog 165 2 2:=⟨fdA Tryz.underlying165 rfl rfl ti_3.h rfl⟩
instance Q24:CPl Tryz.prog 467 [(0,1),(1,1),(2,1)]:=⟨⟨_,Tryz.underlying467,by kernel_rfl⟩⟩
instance Jjj:CSh Tryz.prog 467 true 3:=⟨shp Tryz.underlying467 rfl Qt6.h⟩
theorem Q25:EqF Tryz.prog 2 467 (λx:K7=>.agg [i64 x.op,i64 x.a,i64 x.b]) Qcd:=
 Qxo Tryz.underlying467 (by kernel_rfl) (Qhw rfl rfl sh_3.h (λ_=>rfl) (λ_=>rfl) (Qka (λx:K7=>x.op) (Ql9 (n:=0) Tryz.underlying3)) (Qhw rfl rfl sh_3.h (λ_=>rfl) (λ_=>rfl) (Qka (λx:K7=>x.a) (Ql9 (n:=0) Tryz.underlying3)) (Qhw rfl rfl sh_3.h (λ_=>rfl) (λ_=>rfl) (Qka (λx:K7=>x.b) (Ql9 (n:=0) Tryz.underlying3)) (Q2o))))
theorem Q7y:Tryz.prog.eqGuardType Tryz.prog.depth 467=false:=by kernel_rfl
instance Jep:CFd Tryz.prog 165 3 3:=⟨fdA Tryz.underlying165 rfl rfl ti_64.h rfl⟩
instance Jis:CFd Tryz.prog 59 1 4:=⟨fdA Tryz.underlying59 rfl rfl ti_57.h rfl⟩
instance Jit:CFd Tryz.prog 59 2 9:=⟨fdA Tryz.underlying59 rfl rfl ti_43.h rfl⟩
instance pl_46:CPl Tryz.prog 46 [(0,1),(1,1),(2,1),(3,1)]:=⟨⟨_,Tryz.underlying46,by kernel_rfl⟩⟩
instance sh_46:CSh Tryz.prog 46 true 4:=⟨shp Tryz.underlying46 rfl ti_46.h⟩
instance Jiu:CFd Tryz.prog 59 3 10:=⟨fdA Tryz.underlying59 rfl rfl ti_3.h rfl⟩
instance Jc9:CTy Tryz.prog 267 3 24 (.agg #[.int .i64 0,.int .i64 0,.int .i64 0]):=⟨tyI (by kernel_rfl)⟩
instance Jda:CPl Tryz.prog 267 [(0,2),(2,1)]:=⟨⟨_,Tryz.underlying267,by kernel_rfl⟩⟩
theorem Qzj:Zr (Qno (⟨0,0⟩:Qa5)) [.int .i64 0,.int .i64 0]:=Ki (Qi (c1:=[.int .i64 0]) K9 (Qi (c1:=[.int .i64 0]) K9 (J0)))
theorem Qzk:Zr (Qk (⟨(⟨0,0⟩:Qa5),0⟩:Qj)) [.int .i64 0,.int .i64 0,.int .i64 0]:=Ki (Qi (c1:=[.int .i64 0,.int .i64 0]) Qzj (Qi (c1:=[.int .i64 0]) K9 (J0)))
instance Jdb:CTy Tryz.prog 263 23 448 (.agg #[.slice none 0 0,.slice none 0 0,.int .i64 0,.int .i64 0,.string ⟨#[]⟩,.slice none 0 0,.slice none 0 0,.slice none 0 0,.slice none 0 0,.slice none 0 0,.int .i64 0,.bool false,.slice none 0 0,.slice none 0 0,.bool false,.slice none 0 0,.slice none 0 0,.slice none 0 0,.pointer none,.slice none 0 0,.slice none 0 0,.slice none 0 0,.slice none 0 0]):=⟨tyI (by kernel_rfl)⟩
instance Jdc:CPl Tryz.prog 263 [(0,11),(11,3),(14,3),(17,1),(18,1),(19,4)]:=⟨⟨_,Tryz.underlying263,by kernel_rfl⟩⟩
instance Jeq:CFd Tryz.prog 263 0 0:=⟨fdA Tryz.underlying263 rfl rfl ti_59.h rfl⟩
instance Jer:CFd Tryz.prog 263 3 17:=⟨fdA Tryz.underlying263 rfl rfl ti_43.h rfl⟩
instance Jes:CFd Tryz.prog 263 5 19:=⟨fdA Tryz.underlying263 rfl rfl ti_46.h rfl⟩
instance Jiv:CFd Tryz.prog 46 1 1:=⟨fdA Tryz.underlying46 rfl rfl ti_44.h rfl⟩
instance Jet:CFd Tryz.prog 263 2 14:=⟨fdA Tryz.underlying263 rfl rfl ti_64.h rfl⟩
instance Qrb:CTy Tryz.prog 174 1 8 (.pointer none):=⟨tyI (by kernel_rfl)⟩
instance Jeu:CFd Tryz.prog 263 4 18:=⟨fdA Tryz.underlying263 rfl rfl Qrb.h rfl⟩
instance Jjk:CSh Tryz.prog 174 false 1:=⟨shp Tryz.underlying174 rfl Qrb.h⟩
instance Jdd:CTy Tryz.prog 265 2 16 (.agg #[.int .i64 0,.int .i64 0]):=⟨tyI (by kernel_rfl)⟩
instance Jev:CFd Tryz.prog 267 0 0:=⟨fdA Tryz.underlying267 rfl rfl Jdd.h rfl⟩
instance Jew:CFd Tryz.prog 265 0 0:=⟨fdA Tryz.underlying265 rfl rfl ti_3.h rfl⟩
instance Jex:CFd Tryz.prog 265 1 1:=⟨fdA Tryz.underlying265 rfl rfl ti_3.h rfl⟩
instance Jey:CFd Tryz.prog 267 1 2:=⟨fdA Tryz.underlying267 rfl rfl ti_3.h rfl⟩
instance Jez:CFd Tryz.prog 263 1 11:=⟨fdA Tryz.underlying263 rfl rfl ti_64.h rfl⟩
instance Qoy:CTy Tryz.prog 328 5 104 (.agg #[.bool false,.slice none 0 0,.slice none 0 0,.slice none 0 0,.slice none 0 0]):=⟨tyI (by kernel_rfl)⟩
theorem Qd3:Zr (X4 (⟨(⟨(⟨false,[]⟩:Qf),[]⟩:Qa),[],[]⟩:Va)) [.bool false,.slice none 0 0,.slice none 0 0,.slice none 0 0,.slice none 0 0]:=Ki (Qi (c1:=[.bool false,.slice none 0 0,.slice none 0 0]) Js (Qi (c1:=[.slice none 0 0]) (Jz (k:=3)) (Qi (c1:=[.slice none 0 0]) (Jz (k:=3)) (J0))))
instance:CZy Tryz.prog 328 (X4 (⟨(⟨(⟨false,[]⟩:Qf),[]⟩:Qa),[],[]⟩:Va)):=⟨_,_,_,Qoy.h,Qd3⟩
instance Qt7:CPl Tryz.prog 328 [(0,3),(3,1),(4,1)]:=⟨⟨_,Tryz.underlying328,by kernel_rfl⟩⟩
instance Jjl:CSh Tryz.prog 328 true 5:=⟨shp Tryz.underlying328 rfl Qoy.h⟩
instance Je0:CFd Tryz.prog 328 0 0:=⟨fdA Tryz.underlying328 rfl rfl ti_64.h rfl⟩
instance Je1:CFd Tryz.prog 328 1 3:=⟨fdA Tryz.underlying328 rfl rfl ti_43.h rfl⟩
instance Je2:CFd Tryz.prog 328 2 4:=⟨fdA Tryz.underlying328 rfl rfl ti_43.h rfl⟩
instance Q26:CTy Tryz.prog 451 1 8 (.agg #[.pointer none]):=⟨tyI (by kernel_rfl)⟩
instance Jde:CPl Tryz.prog 451 [(0,1)]:=⟨⟨_,Tryz.underlying451,by kernel_rfl⟩⟩
instance Q27:CTy Tryz.prog 453 1 8 (.agg #[.pointer none]):=⟨tyI (by kernel_rfl)⟩
instance Jdf:CPl Tryz.prog 453 [(0,1)]:=⟨⟨_,Tryz.underlying453,by kernel_rfl⟩⟩
instance Jjm:CSh Tryz.prog 453 true 1:=⟨shp Tryz.underlying453 rfl Q27.h⟩
instance Q7z:CTy Tryz.prog 455 5 104 (.agg #[.bool false,.slice none 0 0,.slice none 0 0,.slice none 0 0,.slice none 0 0]):=⟨tyI (by kernel_rfl)⟩
instance Jdg:CPl Tryz.prog 455 [(0,3),(3,1),(4,1)]:=⟨⟨_,Tryz.underlying455,by kernel_rfl⟩⟩
theorem Qoz:Zr (Y6 (⟨(⟨(⟨false,[]⟩:Qf),[]⟩:Qa),[],[]⟩:Y0)) [.bool false,.slice none 0 0,.slice none 0 0,.slice none 0 0,.slice none 0 0]:=Ki (Qi (c1:=[.bool false,.slice none 0 0,.slice none 0 0]) Js (Qi (c1:=[.slice none 0 0]) (Jz (k:=3)) (Qi (c1:=[.slice none 0 0]) (Jz (k:=3)) (J0))))
instance Je3:CFd Tryz.prog 455 1 3:=⟨fdA Tryz.underlying455 rfl rfl ti_43.h rfl⟩
instance Je4:CFd Tryz.prog 455 2 4:=⟨fdA Tryz.underlying455 rfl rfl ti_43.h rfl⟩
instance Jjn:CSh Tryz.prog 455 true 5:=⟨shp Tryz.underlying455 rfl Q7z.h⟩
instance Je5:CFd Tryz.prog 453 0 0:=⟨fdA Tryz.underlying453 rfl rfl Q26.h rfl⟩
instance Qna:CSh Tryz.prog 451 true 1:=⟨shp Tryz.underlying451 rfl Q26.h⟩
theorem Q6c:MethF Tryz.prog 451 "Neg" 436:=⟨by kernel_rfl,_,Tryz.underlying451⟩
theorem Q6d:MethF Tryz.prog 451 "Pow" 438:=⟨by kernel_rfl,_,Tryz.underlying451⟩
theorem Q6e:MethF Tryz.prog 451 "Add" 433:=⟨by kernel_rfl,_,Tryz.underlying451⟩
theorem Q6f:MethF Tryz.prog 451 "Sub" 440:=⟨by kernel_rfl,_,Tryz.underlying451⟩
theorem Q6g:MethF Tryz.prog 451 "Mul" 435:=⟨by kernel_rfl,_,Tryz.underlying451⟩
theorem Q6h:MethF Tryz.prog 451 "Quo" 439:=⟨by kernel_rfl,_,Tryz.underlying451⟩
theorem Q70:MethF Tryz.prog 451 "Of" 437:=⟨by kernel_rfl,_,Tryz.underlying451⟩
instance Je6:CFd Tryz.prog 455 0 0:=⟨fdA Tryz.underlying455 rfl rfl ti_64.h rfl⟩
theorem Q42:MethF Tryz.prog 451 "Fits" 434:=⟨by kernel_rfl,_,Tryz.underlying451⟩
instance Je7:CFd Tryz.prog 451 0 0:=⟨fdA Tryz.underlying451 rfl rfl Qrb.h rfl⟩
instance Jiw:CFd Tryz.prog 50 2 2:=⟨fdA Tryz.underlying50 rfl rfl ti_3.h rfl⟩
instance Jix:CFd Tryz.prog 46 0 0:=⟨fdA Tryz.underlying46 rfl rfl ti_44.h rfl⟩
instance Jiy:CFd Tryz.prog 46 2 2:=⟨fdA Tryz.underlying46 rfl rfl ti_43.h rfl⟩
instance Jiz:CFd Tryz.prog 46 3 3:=⟨fdA Tryz.underlying46 rfl rfl ti_43.h rfl⟩
instance Ji0:CFd Tryz.prog 50 0 0:=⟨fdA Tryz.underlying50 rfl rfl ti_3.h rfl⟩
instance pl_48:CPl Tryz.prog 48 [(0,1),(1,1),(2,4)]:=⟨⟨_,Tryz.underlying48,by kernel_rfl⟩⟩
instance sh_48:CSh Tryz.prog 48 true 6:=⟨shp Tryz.underlying48 rfl ti_48.h⟩
instance Jdh:CTy Tryz.prog 177 25 496 (.agg #[.slice none 0 0,.slice none 0 0,.int .i64 0,.int .i64 0,.string ⟨#[]⟩,.slice none 0 0,.slice none 0 0,.slice none 0 0,.slice none 0 0,.slice none 0 0,.int .i64 0,.bool false,.slice none 0 0,.slice none 0 0,.bool false,.slice none 0 0,.slice none 0 0,.slice none 0 0,.slice none 0 0,.slice none 0 0,.slice none 0 0,.slice none 0 0,.slice none 0 0,.slice none 0 0,.pointer none]):=⟨tyI (by kernel_rfl)⟩
instance Jdi:CPl Tryz.prog 177 [(0,11),(11,3),(14,3),(17,1),(18,1),(19,4),(23,1),(24,1)]:=⟨⟨_,Tryz.underlying177,by kernel_rfl⟩⟩
instance Je8:CFd Tryz.prog 177 0 0:=⟨fdA Tryz.underlying177 rfl rfl ti_59.h rfl⟩
instance Je9:CFd Tryz.prog 177 5 19:=⟨fdA Tryz.underlying177 rfl rfl ti_46.h rfl⟩
instance Jfa:CFd Tryz.prog 177 3 17:=⟨fdA Tryz.underlying177 rfl rfl ti_43.h rfl⟩
instance Jfb:CFd Tryz.prog 177 6 23:=⟨fdA Tryz.underlying177 rfl rfl ti_44.h rfl⟩
instance Jfc:CFd Tryz.prog 177 2 14:=⟨fdA Tryz.underlying177 rfl rfl ti_64.h rfl⟩
instance Jfd:CFd Tryz.prog 177 7 24:=⟨fdA Tryz.underlying177 rfl rfl Qrb.h rfl⟩
instance Jfe:CFd Tryz.prog 177 1 11:=⟨fdA Tryz.underlying177 rfl rfl ti_64.h rfl⟩
instance Jff:CFd Tryz.prog 177 4 18:=⟨fdA Tryz.underlying177 rfl rfl ti_43.h rfl⟩
instance Qc4:CTy Tryz.prog 387 6 112 (.agg #[.bool false,.slice none 0 0,.slice none 0 0,.bool false,.slice none 0 0,.slice none 0 0]):=⟨tyI (by kernel_rfl)⟩
instance Qih:CPl Tryz.prog 387 [(0,3),(3,3)]:=⟨⟨_,Tryz.underlying387,by kernel_rfl⟩⟩
theorem Yu:Zr (Q0 (⟨(⟨(⟨false,[]⟩:Qf),[]⟩:Qa),(⟨(⟨false,[]⟩:Qf),[]⟩:Qa)⟩:Qv)) [.bool false,.slice none 0 0,.slice none 0 0,.bool false,.slice none 0 0,.slice none 0 0]:=Ki (Qi (c1:=[.bool false,.slice none 0 0,.slice none 0 0]) Js (Qi (c1:=[.bool false,.slice none 0 0,.slice none 0 0]) Js (J0)))
instance:CUn Tryz.prog 383 (.slice 387):=⟨Tryz.underlying383⟩
instance:CZy Tryz.prog 3 (i64 0):=⟨_,_,_,ti_3.h,K9⟩
instance Q28:CTy Tryz.prog 439 2 16 (.agg #[.pointer none,.nilFunc]):=⟨tyI (by kernel_rfl)⟩
instance Jdj:CPl Tryz.prog 439 [(0,1),(1,1)]:=⟨⟨_,Tryz.underlying439,by kernel_rfl⟩⟩
instance Q29:CTy Tryz.prog 441 2 16 (.agg #[.pointer none,.nilFunc]):=⟨tyI (by kernel_rfl)⟩
instance Jdk:CPl Tryz.prog 441 [(0,2)]:=⟨⟨_,Tryz.underlying441,by kernel_rfl⟩⟩
instance Jjo:CSh Tryz.prog 441 true 2:=⟨shp Tryz.underlying441 rfl Q29.h⟩
instance Q71:CTy Tryz.prog 444 8 160 (.agg #[.bool false,.slice none 0 0,.slice none 0 0,.bool false,.slice none 0 0,.slice none 0 0,.slice none 0 0,.slice none 0 0]):=⟨tyI (by kernel_rfl)⟩
instance Jdl:CPl Tryz.prog 444 [(0,6),(6,1),(7,1)]:=⟨⟨_,Tryz.underlying444,by kernel_rfl⟩⟩
theorem Qo0:Zr (Y7 (⟨(⟨(⟨(⟨false,[]⟩:Qf),[]⟩:Qa),(⟨(⟨false,[]⟩:Qf),[]⟩:Qa)⟩:Qv),[],[]⟩:Y3)) [.bool false,.slice none 0 0,.slice none 0 0,.bool false,.slice none 0 0,.slice none 0 0,.slice none 0 0,.slice none 0 0]:=Ki (Qi (c1:=[.bool false,.slice none 0 0,.slice none 0 0,.bool false,.slice none 0 0,.slice none 0 0]) Yu (Qi (c1:=[.slice none 0 0]) (Jz (k:=6)) (Qi (c1:=[.slice none 0 0]) (Jz (k:=6)) (J0))))
instance Q3a:CTy Tryz.prog 383 1 24 (.slice none 0 0):=⟨tyI (by kernel_rfl)⟩
instance Jfg:CFd Tryz.prog 444 1 6:=⟨fdA Tryz.underlying444 rfl rfl Q3a.h rfl⟩
instance Jjp:CSh Tryz.prog 383 false 1:=⟨shp Tryz.underlying383 rfl Q3a.h⟩
instance Jfh:CFd Tryz.prog 444 2 7:=⟨fdA Tryz.underlying444 rfl rfl Q3a.h rfl⟩
instance Jjq:CSh Tryz.prog 444 true 8:=⟨shp Tryz.underlying444 rfl Q71.h⟩
instance:CZy Tryz.prog 387 (Q0 (⟨(⟨(⟨false,[]⟩:Qf),[]⟩:Qa),(⟨(⟨false,[]⟩:Qf),[]⟩:Qa)⟩:Qv)):=⟨_,_,_,Qc4.h,Yu⟩
instance Jfi:CFd Tryz.prog 441 0 0:=⟨fdA Tryz.underlying441 rfl rfl Q28.h rfl⟩
instance Qnb:CSh Tryz.prog 439 true 2:=⟨shp Tryz.underlying439 rfl Q28.h⟩
instance Jjr:CSh Tryz.prog 387 true 6:=⟨shp Tryz.underlying387 rfl Qc4.h⟩
theorem Q6i:MethF Tryz.prog 439 "Neg" 428:=⟨by kernel_rfl,_,Tryz.underlying439⟩
instance Jfj:CFd Tryz.prog 387 0 0:=⟨fdA Tryz.underlying387 rfl rfl ti_64.h rfl⟩
instance Jfk:CFd Tryz.prog 387 1 3:=⟨fdA Tryz.underlying387 rfl rfl ti_64.h rfl⟩
theorem Q6j:MethF Tryz.prog 439 "Pow" 430:=⟨by kernel_rfl,_,Tryz.underlying439⟩
theorem Q6k:MethF Tryz.prog 439 "Add" 425:=⟨by kernel_rfl,_,Tryz.underlying439⟩
theorem Q6l:MethF Tryz.prog 439 "Sub" 432:=⟨by kernel_rfl,_,Tryz.underlying439⟩
theorem Q6m:MethF Tryz.prog 439 "Mul" 427:=⟨by kernel_rfl,_,Tryz.underlying439⟩
theorem Q6n:MethF Tryz.prog 439 "Quo" 431:=⟨by kernel_rfl,_,Tryz.underlying439⟩
theorem Q72:MethF Tryz.prog 439 "Of" 429:=⟨by kernel_rfl,_,Tryz.underlying439⟩
instance Jfl:CFd Tryz.prog 444 0 0:=⟨fdA Tryz.underlying444 rfl rfl Qc4.h rfl⟩
theorem Q43:MethF Tryz.prog 439 "Fits" 426:=⟨by kernel_rfl,_,Tryz.underlying439⟩
instance Jfm:CFd Tryz.prog 439 0 0:=⟨fdA Tryz.underlying439 rfl rfl Qrb.h rfl⟩
instance ti_1:CTy Tryz.prog 1 1 8 (.nilFunc):=⟨tyI (by kernel_rfl)⟩
instance Jfn:CFd Tryz.prog 439 1 1:=⟨fdA Tryz.underlying439 rfl rfl ti_1.h rfl⟩
instance sh_1:CSh Tryz.prog 1 false 1:=⟨shp Tryz.underlying1 rfl ti_1.h⟩
instance Ji1:CFd Tryz.prog 48 0 0:=⟨fdA Tryz.underlying48 rfl rfl ti_43.h rfl⟩
instance Ji2:CFd Tryz.prog 48 1 1:=⟨fdA Tryz.underlying48 rfl rfl ti_43.h rfl⟩
instance Jdm:CTy Tryz.prog 421 9 9 (.agg #[.int .u8 0,.int .u8 0,.int .u8 0,.int .u8 0,.int .u8 0,.int .u8 0,.int .u8 0,.int .u8 0,.int .u8 0]):=⟨tyI (by kernel_rfl)⟩
theorem Q95:Zr (Qoi (⟨0,0,0,0,0,0,0,0,0⟩:Qkh)) [.int .u8 0,.int .u8 0,.int .u8 0,.int .u8 0,.int .u8 0,.int .u8 0,.int .u8 0,.int .u8 0,.int .u8 0]:=Ki (Qi (c1:=[.int .u8 0]) zr_u8 (Qi (c1:=[.int .u8 0]) zr_u8 (Qi (c1:=[.int .u8 0]) zr_u8 (Qi (c1:=[.int .u8 0]) zr_u8 (Qi (c1:=[.int .u8 0]) zr_u8 (Qi (c1:=[.int .u8 0]) zr_u8 (Qi (c1:=[.int .u8 0]) zr_u8 (Qi (c1:=[.int .u8 0]) zr_u8 (Qi (c1:=[.int .u8 0]) zr_u8 (J0))))))))))
instance:CZy Tryz.prog 421 (Qoi (⟨0,0,0,0,0,0,0,0,0⟩:Qkh)):=⟨_,_,_,Jdm.h,Q95⟩
instance ti_5:CTy Tryz.prog 5 1 1 (.int .u8 0):=⟨tyI (by kernel_rfl)⟩
instance:CUn Tryz.prog 421 (.array 9 5):=⟨Tryz.underlying421⟩
instance sh_5:CSh Tryz.prog 5 false 1:=⟨shp Tryz.underlying5 rfl ti_5.h⟩
theorem Q3b:∀ l:List Nat,l.length=9->(.agg (l.map u8):Ly)=Qoi (Qt2 l)
 | [a0,a1,a2,a3,a4,a5,a6,a7,a8],_=>rfl
 | [],h=>by simp at h
 | [_],h=>by simp at h
 | [_,_],h=>by simp at h
 | [_,_,_],h=>by simp at h
 | [_,_,_,_],h=>by simp at h
 | [_,_,_,_,_],h=>by simp at h
 | [_,_,_,_,_,_],h=>by simp at h
 | [_,_,_,_,_,_,_],h=>by simp at h
 | [_,_,_,_,_,_,_,_],h=>by simp at h
 | _::_::_::_::_::_::_::_::_::_::_,h=>by simp at h
instance:CUn Tryz.prog 315 (.slice 5):=⟨Tryz.underlying315⟩
instance Jdn:CTy Tryz.prog 317 2 32 (.agg #[.pointer none,.slice none 0 0]):=⟨tyI (by kernel_rfl)⟩
instance Ji3:CFd Tryz.prog 25 2 2:=⟨fdA Tryz.underlying25 rfl rfl ti_3.h rfl⟩
instance Ji4:CFd Tryz.prog 25 3 3:=⟨fdA Tryz.underlying25 rfl rfl ti_3.h rfl⟩
instance Jjs:CSh Tryz.prog 250 true 6:=⟨shp Tryz.underlying250 rfl Q7v.h⟩
theorem Q4:Zr (Qe (⟨false,[],[]⟩:Qc)) [.bool false,.slice none 0 0,.slice none 0 0]:=Ki (Qi (c1:=[.bool false]) zr_bl (Qi (c1:=[.slice none 0 0]) (Jz (k:=1)) (Qi (c1:=[.slice none 0 0]) (Jz (k:=1)) (J0))))
theorem Qps:Zr (Yc (⟨0,0,0,(⟨false,[],[]⟩:Qc)⟩:Jk)) [.int .i64 0,.int .i64 0,.int .i64 0,.bool false,.slice none 0 0,.slice none 0 0]:=Ki (Qi (c1:=[.int .i64 0]) K9 (Qi (c1:=[.int .i64 0]) K9 (Qi (c1:=[.int .i64 0]) K9 (Qi (c1:=[.bool false,.slice none 0 0,.slice none 0 0]) Q4 (J0)))))
instance:CZy Tryz.prog 250 (Yc (⟨0,0,0,(⟨false,[],[]⟩:Qc)⟩:Jk)):=⟨_,_,_,Q7v.h,Qps⟩
instance Jfo:CFd Tryz.prog 250 0 0:=⟨fdA Tryz.underlying250 rfl rfl ti_3.h rfl⟩
instance Jfp:CFd Tryz.prog 250 1 1:=⟨fdA Tryz.underlying250 rfl rfl ti_3.h rfl⟩
instance Jfq:CFd Tryz.prog 250 2 2:=⟨fdA Tryz.underlying250 rfl rfl ti_3.h rfl⟩
instance Ji5:CFd Tryz.prog 34 0 0:=⟨fdA Tryz.underlying34 rfl rfl ti_4.h rfl⟩
instance:CZy Tryz.prog 34 (Qe (⟨false,[],[]⟩:Qc)):=⟨_,_,_,ti_34.h,Q4⟩
instance pl_34:CPl Tryz.prog 34 [(0,1),(1,1),(2,1)]:=⟨⟨_,Tryz.underlying34,by kernel_rfl⟩⟩
instance Q73:CTy Tryz.prog 276 3 32 (.agg #[.int .i64 0,.string ⟨#[]⟩,.int .i64 0]):=⟨tyI (by kernel_rfl)⟩
instance Jjt:CPl Tryz.prog 276 [(0,1),(1,1),(2,1)]:=⟨⟨_,Tryz.underlying276,by kernel_rfl⟩⟩
theorem Qpt:Zr (Qjj (⟨0,[],0⟩:Qch)) [.int .i64 0,.string ⟨#[]⟩,.int .i64 0]:=Ki (Qi (c1:=[.int .i64 0]) K9 (Qi (c1:=[.string ⟨#[]⟩]) Qg3 (Qi (c1:=[.int .i64 0]) K9 (J0))))
instance Jfr:CFd Tryz.prog 276 1 1:=⟨fdA Tryz.underlying276 rfl rfl ti_9.h rfl⟩
instance:CUn Tryz.prog 335 (.slice 276):=⟨Tryz.underlying335⟩
instance Jfs:CFd Tryz.prog 276 2 2:=⟨fdA Tryz.underlying276 rfl rfl ti_3.h rfl⟩
instance Jft:CFd Tryz.prog 276 0 0:=⟨fdA Tryz.underlying276 rfl rfl ti_3.h rfl⟩
instance Jju:CSh Tryz.prog 276 true 3:=⟨shp Tryz.underlying276 rfl Q73.h⟩
instance:CZy Tryz.prog 276 (Qjj (⟨0,[],0⟩:Qch)):=⟨_,_,_,Q73.h,Qpt⟩
instance Qlk:CTy Tryz.prog 213 2 32 (.agg #[.bool false,.slice none 0 0]):=⟨tyI (by kernel_rfl)⟩
instance Qo1:CPl Tryz.prog 213 [(0,1),(1,1)]:=⟨⟨_,Tryz.underlying213,by kernel_rfl⟩⟩
theorem Wu:Zr (W5 (⟨false,[]⟩:Q8)) [.bool false,.slice none 0 0]:=Ki (Qi (c1:=[.bool false]) zr_bl (Qi (c1:=[.slice none 0 0]) (Jz (k:=1)) (J0)))
instance:CZy Tryz.prog 213 (W5 (⟨false,[]⟩:Q8)):=⟨_,_,_,Qlk.h,Wu⟩
instance Jjv:CSh Tryz.prog 213 true 2:=⟨shp Tryz.underlying213 rfl Qlk.h⟩
instance Jfu:CFd Tryz.prog 213 0 0:=⟨fdA Tryz.underlying213 rfl rfl ti_4.h rfl⟩
instance Jfv:CFd Tryz.prog 213 1 1:=⟨fdA Tryz.underlying213 rfl rfl ti_32.h rfl⟩
instance Ji6:CFd Tryz.prog 48 2 2:=⟨fdA Tryz.underlying48 rfl rfl ti_46.h rfl⟩
instance ti_70:CTy Tryz.prog 70 3 24 (.agg #[.int .i64 0,.int .i64 0,.int .i64 0]):=⟨tyI (by kernel_rfl)⟩
theorem Q74:Zr (Q20 (⟨0,0,0⟩:Qww)) [.int .i64 0,.int .i64 0,.int .i64 0]:=Ki (Qi (c1:=[.int .i64 0]) K9 (Qi (c1:=[.int .i64 0]) K9 (Qi (c1:=[.int .i64 0]) K9 (J0))))
instance:CZy Tryz.prog 70 (Q20 (⟨0,0,0⟩:Qww)):=⟨_,_,_,ti_70.h,Q74⟩
instance ti_74:CTy Tryz.prog 74 4 96 (.agg #[.slice none 0 0,.slice none 0 0,.slice none 0 0,.slice none 0 0]):=⟨tyI (by kernel_rfl)⟩
theorem Qpu:Zr (Qjk (⟨[],[],[],[]⟩:Qe6)) [.slice none 0 0,.slice none 0 0,.slice none 0 0,.slice none 0 0]:=Ki (Qi (c1:=[.slice none 0 0]) (Jz (k:=1)) (Qi (c1:=[.slice none 0 0]) (Jz (k:=1)) (Qi (c1:=[.slice none 0 0]) (Jz (k:=3)) (Qi (c1:=[.slice none 0 0]) (Jz (k:=3)) (J0)))))
instance:CZy Tryz.prog 74 (Qjk (⟨[],[],[],[]⟩:Qe6)):=⟨_,_,_,ti_74.h,Qpu⟩
instance pl_74:CPl Tryz.prog 74 [(0,1),(1,1),(2,1),(3,1)]:=⟨⟨_,Tryz.underlying74,by kernel_rfl⟩⟩
instance sh_74:CSh Tryz.prog 74 true 4:=⟨shp Tryz.underlying74 rfl ti_74.h⟩
instance Ji7:CFd Tryz.prog 74 1 1:=⟨fdA Tryz.underlying74 rfl rfl ti_27.h rfl⟩
instance:CUn Tryz.prog 70 (.array 3 3):=⟨Tryz.underlying70⟩
instance sh_70:CSh Tryz.prog 70 true 3:=⟨shp Tryz.underlying70 rfl ti_70.h⟩
instance Q75:CTy Tryz.prog 191 5 104 (.agg #[.bool false,.slice none 0 0,.slice none 0 0,.slice none 0 0,.slice none 0 0]):=⟨tyI (by kernel_rfl)⟩
theorem Qo2:Zr (Qi5 (⟨(⟨false,[],[]⟩:Qc),[],[]⟩:Qdx)) [.bool false,.slice none 0 0,.slice none 0 0,.slice none 0 0,.slice none 0 0]:=Ki (Qi (c1:=[.bool false,.slice none 0 0,.slice none 0 0]) Q4 (Qi (c1:=[.slice none 0 0]) (Jz (k:=3)) (Qi (c1:=[.slice none 0 0]) (Jz (k:=3)) (J0))))
instance:CZy Tryz.prog 191 (Qi5 (⟨(⟨false,[],[]⟩:Qc),[],[]⟩:Qdx)):=⟨_,_,_,Q75.h,Qo2⟩
instance Jjw:CPl Tryz.prog 191 [(0,3),(3,1),(4,1)]:=⟨⟨_,Tryz.underlying191,by kernel_rfl⟩⟩
instance Jjx:CSh Tryz.prog 191 true 5:=⟨shp Tryz.underlying191 rfl Q75.h⟩
instance Jfw:CFd Tryz.prog 191 0 0:=⟨fdA Tryz.underlying191 rfl rfl ti_34.h rfl⟩
instance Jfx:CFd Tryz.prog 191 1 3:=⟨fdA Tryz.underlying191 rfl rfl ti_26.h rfl⟩
instance Jfy:CFd Tryz.prog 191 2 4:=⟨fdA Tryz.underlying191 rfl rfl ti_26.h rfl⟩
instance Ji8:CFd Tryz.prog 74 0 0:=⟨fdA Tryz.underlying74 rfl rfl ti_27.h rfl⟩
instance Ji9:CFd Tryz.prog 74 2 2:=⟨fdA Tryz.underlying74 rfl rfl ti_26.h rfl⟩
instance Jja:CFd Tryz.prog 74 3 3:=⟨fdA Tryz.underlying74 rfl rfl ti_26.h rfl⟩
instance:CUn Tryz.prog 80 (.array 2 38):=⟨Tryz.underlying80⟩
instance ti_90:CTy Tryz.prog 90 2 48 (.agg #[.slice none 0 0,.slice none 0 0]):=⟨tyI (by kernel_rfl)⟩
theorem X5:Zr (J2 (⟨[],[]⟩:Jm)) [.slice none 0 0,.slice none 0 0]:=Ki (Qi (c1:=[.slice none 0 0]) (Jz (k:=3)) (Qi (c1:=[.slice none 0 0]) (Jz (k:=3)) (J0)))
instance:CZy Tryz.prog 90 (J2 (⟨[],[]⟩:Jm)):=⟨_,_,_,ti_90.h,X5⟩
instance pl_90:CPl Tryz.prog 90 [(0,1),(1,1)]:=⟨⟨_,Tryz.underlying90,by kernel_rfl⟩⟩
instance sh_90:CSh Tryz.prog 90 true 2:=⟨shp Tryz.underlying90 rfl ti_90.h⟩
instance Jjb:CFd Tryz.prog 90 0 0:=⟨fdA Tryz.underlying90 rfl rfl ti_43.h rfl⟩
instance Jjc:CFd Tryz.prog 90 1 1:=⟨fdA Tryz.underlying90 rfl rfl ti_43.h rfl⟩
instance Jdo:CTy Tryz.prog 208 26 520 (.agg #[.slice none 0 0,.slice none 0 0,.int .i64 0,.int .i64 0,.string ⟨#[]⟩,.slice none 0 0,.slice none 0 0,.slice none 0 0,.slice none 0 0,.slice none 0 0,.int .i64 0,.bool false,.slice none 0 0,.slice none 0 0,.bool false,.slice none 0 0,.slice none 0 0,.slice none 0 0,.slice none 0 0,.slice none 0 0,.slice none 0 0,.slice none 0 0,.slice none 0 0,.slice none 0 0,.slice none 0 0,.pointer none]):=⟨tyI (by kernel_rfl)⟩
instance Jdp:CPl Tryz.prog 208 [(0,11),(11,3),(14,3),(17,1),(18,4),(22,1),(23,2),(25,1)]:=⟨⟨_,Tryz.underlying208,by kernel_rfl⟩⟩
instance Jfz:CFd Tryz.prog 208 6 23:=⟨fdA Tryz.underlying208 rfl rfl ti_90.h rfl⟩
instance Jf0:CFd Tryz.prog 208 0 0:=⟨fdA Tryz.underlying208 rfl rfl ti_59.h rfl⟩
instance Jf1:CFd Tryz.prog 208 3 17:=⟨fdA Tryz.underlying208 rfl rfl ti_43.h rfl⟩
instance Jf2:CFd Tryz.prog 208 5 22:=⟨fdA Tryz.underlying208 rfl rfl ti_44.h rfl⟩
instance Jf3:CFd Tryz.prog 208 2 14:=⟨fdA Tryz.underlying208 rfl rfl ti_64.h rfl⟩
instance Jf4:CFd Tryz.prog 208 7 25:=⟨fdA Tryz.underlying208 rfl rfl Qrb.h rfl⟩
instance Jf5:CFd Tryz.prog 208 1 11:=⟨fdA Tryz.underlying208 rfl rfl ti_64.h rfl⟩
instance Jf6:CFd Tryz.prog 208 4 18:=⟨fdA Tryz.underlying208 rfl rfl ti_46.h rfl⟩
instance Qxy:CTy Tryz.prog 347 5 104 (.agg #[.bool false,.slice none 0 0,.slice none 0 0,.slice none 0 0,.slice none 0 0]):=⟨tyI (by kernel_rfl)⟩
theorem Qo3:Zr (Qdg (⟨(⟨(⟨false,[]⟩:Qf),[]⟩:Qa),[],[]⟩:Vc)) [.bool false,.slice none 0 0,.slice none 0 0,.slice none 0 0,.slice none 0 0]:=Ki (Qi (c1:=[.bool false,.slice none 0 0,.slice none 0 0]) Js (Qi (c1:=[.slice none 0 0]) (Jz (k:=3)) (Qi (c1:=[.slice none 0 0]) (Jz (k:=3)) (J0))))
instance:CZy Tryz.prog 347 (Qdg (⟨(⟨(⟨false,[]⟩:Qf),[]⟩:Qa),[],[]⟩:Vc)):=⟨_,_,_,Qxy.h,Qo3⟩
instance Jdq:CPl Tryz.prog 347 [(0,3),(3,1),(4,1)]:=⟨⟨_,Tryz.underlying347,by kernel_rfl⟩⟩
instance Jjy:CSh Tryz.prog 347 true 5:=⟨shp Tryz.underlying347 rfl Qxy.h⟩
instance Jdr:CTy Tryz.prog 403 11 216 (.agg #[.slice none 0 0,.slice none 0 0,.int .i64 0,.int .i64 0,.slice none 0 0,.slice none 0 0,.bool false,.slice none 0 0,.slice none 0 0,.slice none 0 0,.slice none 0 0]):=⟨tyI (by kernel_rfl)⟩
instance Jds:CPl Tryz.prog 403 [(0,4),(4,1),(5,1),(6,5)]:=⟨⟨_,Tryz.underlying403,by kernel_rfl⟩⟩
theorem Q3c:Zr (Q41 (⟨(⟨[],[],0,0⟩:Qm),[],[],(⟨(⟨(⟨false,[]⟩:Qf),[]⟩:Qa),[],[]⟩:Vc)⟩:Qv7)) [.slice none 0 0,.slice none 0 0,.int .i64 0,.int .i64 0,.slice none 0 0,.slice none 0 0,.bool false,.slice none 0 0,.slice none 0 0,.slice none 0 0,.slice none 0 0]:=Ki (Qi (c1:=[.slice none 0 0,.slice none 0 0,.int .i64 0,.int .i64 0]) Qf7 (Qi (c1:=[.slice none 0 0]) (Jz (k:=3)) (Qi (c1:=[.slice none 0 0]) (Jz (k:=3)) (Qi (c1:=[.bool false,.slice none 0 0,.slice none 0 0,.slice none 0 0,.slice none 0 0]) Qo3 (J0)))))
instance Jf7:CFd Tryz.prog 403 2 5:=⟨fdA Tryz.underlying403 rfl rfl ti_43.h rfl⟩
instance Jf8:CFd Tryz.prog 403 0 0:=⟨fdA Tryz.underlying403 rfl rfl ti_55.h rfl⟩
instance Jf9:CFd Tryz.prog 403 3 6:=⟨fdA Tryz.underlying403 rfl rfl Qxy.h rfl⟩
instance Jga:CFd Tryz.prog 347 0 0:=⟨fdA Tryz.underlying347 rfl rfl ti_64.h rfl⟩
instance Jgb:CFd Tryz.prog 347 1 3:=⟨fdA Tryz.underlying347 rfl rfl ti_43.h rfl⟩
instance Jgc:CFd Tryz.prog 347 2 4:=⟨fdA Tryz.underlying347 rfl rfl ti_43.h rfl⟩
instance Jgd:CFd Tryz.prog 403 1 4:=⟨fdA Tryz.underlying403 rfl rfl ti_43.h rfl⟩
instance ti_95:CTy Tryz.prog 95 2 48 (.agg #[.slice none 0 0,.slice none 0 0]):=⟨tyI (by kernel_rfl)⟩
theorem Vs:Zr (K3 (⟨[],[]⟩:Jw)) [.slice none 0 0,.slice none 0 0]:=Ki (Qi (c1:=[.slice none 0 0]) (Jz (k:=3)) (Qi (c1:=[.slice none 0 0]) (Jz (k:=3)) (J0)))
instance:CZy Tryz.prog 95 (K3 (⟨[],[]⟩:Jw)):=⟨_,_,_,ti_95.h,Vs⟩
instance pl_95:CPl Tryz.prog 95 [(0,1),(1,1)]:=⟨⟨_,Tryz.underlying95,by kernel_rfl⟩⟩
instance sh_95:CSh Tryz.prog 95 true 2:=⟨shp Tryz.underlying95 rfl ti_95.h⟩
instance Jjd:CFd Tryz.prog 95 0 0:=⟨fdA Tryz.underlying95 rfl rfl ti_26.h rfl⟩
instance Jje:CFd Tryz.prog 95 1 1:=⟨fdA Tryz.underlying95 rfl rfl ti_26.h rfl⟩
instance Q76:CTy Tryz.prog 210 5 104 (.agg #[.bool false,.slice none 0 0,.slice none 0 0,.slice none 0 0,.slice none 0 0]):=⟨tyI (by kernel_rfl)⟩
theorem Qpv:Zr (Qjl (⟨(⟨false,[],[]⟩:Qc),[],[]⟩:Qe7)) [.bool false,.slice none 0 0,.slice none 0 0,.slice none 0 0,.slice none 0 0]:=Ki (Qi (c1:=[.bool false,.slice none 0 0,.slice none 0 0]) Q4 (Qi (c1:=[.slice none 0 0]) (Jz (k:=3)) (Qi (c1:=[.slice none 0 0]) (Jz (k:=3)) (J0))))
instance:CZy Tryz.prog 210 (Qjl (⟨(⟨false,[],[]⟩:Qc),[],[]⟩:Qe7)):=⟨_,_,_,Q76.h,Qpv⟩
instance Jjz:CPl Tryz.prog 210 [(0,3),(3,1),(4,1)]:=⟨⟨_,Tryz.underlying210,by kernel_rfl⟩⟩
instance Jj0:CSh Tryz.prog 210 true 5:=⟨shp Tryz.underlying210 rfl Q76.h⟩
instance Jge:CFd Tryz.prog 210 0 0:=⟨fdA Tryz.underlying210 rfl rfl ti_34.h rfl⟩
instance Jgf:CFd Tryz.prog 210 1 3:=⟨fdA Tryz.underlying210 rfl rfl ti_26.h rfl⟩
instance Jgg:CFd Tryz.prog 210 2 4:=⟨fdA Tryz.underlying210 rfl rfl ti_26.h rfl⟩
instance:CUn Tryz.prog 100 (.array 2 26):=⟨Tryz.underlying100⟩
instance:CUn Tryz.prog 104 (.array 2 3):=⟨Tryz.underlying104⟩
instance Q77:CTy Tryz.prog 118 38 696 (.agg #[.slice none 0 0,.slice none 0 0,.int .i64 0,.int .i64 0,.string ⟨#[]⟩,.slice none 0 0,.slice none 0 0,.slice none 0 0,.slice none 0 0,.slice none 0 0,.int .i64 0,.bool false,.slice none 0 0,.slice none 0 0,.bool false,.slice none 0 0,.slice none 0 0,.bool false,.slice none 0 0,.slice none 0 0,.bool false,.slice none 0 0,.slice none 0 0,.bool false,.slice none 0 0,.slice none 0 0,.int .i64 0,.int .i64 0,.bool false,.slice none 0 0,.slice none 0 0,.bool false,.slice none 0 0,.slice none 0 0,.bool false,.slice none 0 0,.slice none 0 0,.slice none 0 0]):=⟨tyI (by kernel_rfl)⟩
instance Jj1:CSh Tryz.prog 118 true 38:=⟨shp Tryz.underlying118 rfl Q77.h⟩
instance Jgh:CFd Tryz.prog 118 0 0:=⟨fdA Tryz.underlying118 rfl rfl ti_31.h rfl⟩
instance Q78:CTy Tryz.prog 116 17 296 (.agg #[.bool false,.slice none 0 0,.slice none 0 0,.bool false,.slice none 0 0,.slice none 0 0,.bool false,.slice none 0 0,.slice none 0 0,.bool false,.slice none 0 0,.slice none 0 0,.bool false,.slice none 0 0,.slice none 0 0,.int .i64 0,.int .i64 0]):=⟨tyI (by kernel_rfl)⟩
instance Jgi:CFd Tryz.prog 118 1 11:=⟨fdA Tryz.underlying118 rfl rfl Q78.h rfl⟩
instance Jj2:CSh Tryz.prog 116 true 17:=⟨shp Tryz.underlying116 rfl Q78.h⟩
instance Jgj:CFd Tryz.prog 116 0 0:=⟨fdA Tryz.underlying116 rfl rfl ti_34.h rfl⟩
instance Jgk:CFd Tryz.prog 116 1 3:=⟨fdA Tryz.underlying116 rfl rfl ti_34.h rfl⟩
instance Jgl:CFd Tryz.prog 116 2 6:=⟨fdA Tryz.underlying116 rfl rfl ti_34.h rfl⟩
instance Jgm:CFd Tryz.prog 116 3 9:=⟨fdA Tryz.underlying116 rfl rfl ti_34.h rfl⟩
instance Jgn:CFd Tryz.prog 116 4 12:=⟨fdA Tryz.underlying116 rfl rfl ti_34.h rfl⟩
instance Jgo:CFd Tryz.prog 116 6 16:=⟨fdA Tryz.underlying116 rfl rfl ti_3.h rfl⟩
instance Jgp:CFd Tryz.prog 118 2 28:=⟨fdA Tryz.underlying118 rfl rfl ti_34.h rfl⟩
instance Jgq:CFd Tryz.prog 118 3 31:=⟨fdA Tryz.underlying118 rfl rfl ti_34.h rfl⟩
instance Jgr:CFd Tryz.prog 118 4 34:=⟨fdA Tryz.underlying118 rfl rfl ti_34.h rfl⟩
instance Jgs:CFd Tryz.prog 118 5 37:=⟨fdA Tryz.underlying118 rfl rfl ti_26.h rfl⟩
instance Q79:CTy Tryz.prog 121 5 104 (.agg #[.slice none 0 0,.bool false,.slice none 0 0,.slice none 0 0,.slice none 0 0]):=⟨tyI (by kernel_rfl)⟩
instance Jj3:CSh Tryz.prog 121 true 5:=⟨shp Tryz.underlying121 rfl Q79.h⟩
instance Q8a:CTy Tryz.prog 119 1 24 (.slice none 0 0):=⟨tyI (by kernel_rfl)⟩
instance Jgt:CFd Tryz.prog 121 0 0:=⟨fdA Tryz.underlying121 rfl rfl Q8a.h rfl⟩
instance:CUn Tryz.prog 119 (.slice 220):=⟨Tryz.underlying119⟩
instance Jj4:CSh Tryz.prog 119 false 1:=⟨shp Tryz.underlying119 rfl Q8a.h⟩
instance Jgu:CFd Tryz.prog 121 1 1:=⟨fdA Tryz.underlying121 rfl rfl ti_34.h rfl⟩
instance Jgv:CFd Tryz.prog 121 2 4:=⟨fdA Tryz.underlying121 rfl rfl ti_26.h rfl⟩
instance Q8b:CTy Tryz.prog 220 14 256 (.agg #[.bool false,.slice none 0 0,.slice none 0 0,.bool false,.slice none 0 0,.slice none 0 0,.bool false,.slice none 0 0,.slice none 0 0,.bool false,.slice none 0 0,.slice none 0 0,.slice none 0 0,.bool false]):=⟨tyI (by kernel_rfl)⟩
instance Jj5:CSh Tryz.prog 220 true 14:=⟨shp Tryz.underlying220 rfl Q8b.h⟩
instance Jgw:CFd Tryz.prog 220 0 0:=⟨fdA Tryz.underlying220 rfl rfl ti_34.h rfl⟩
instance Jgx:CFd Tryz.prog 220 1 3:=⟨fdA Tryz.underlying220 rfl rfl ti_34.h rfl⟩
instance Jgy:CFd Tryz.prog 220 2 6:=⟨fdA Tryz.underlying220 rfl rfl ti_34.h rfl⟩
instance Jgz:CFd Tryz.prog 220 3 9:=⟨fdA Tryz.underlying220 rfl rfl ti_34.h rfl⟩
instance Jg0:CFd Tryz.prog 220 4 12:=⟨fdA Tryz.underlying220 rfl rfl ti_26.h rfl⟩
instance Qxz:CTy Tryz.prog 127 38 696 (.agg #[.slice none 0 0,.slice none 0 0,.int .i64 0,.int .i64 0,.string ⟨#[]⟩,.slice none 0 0,.slice none 0 0,.slice none 0 0,.slice none 0 0,.slice none 0 0,.int .i64 0,.bool false,.slice none 0 0,.slice none 0 0,.bool false,.slice none 0 0,.slice none 0 0,.bool false,.slice none 0 0,.slice none 0 0,.bool false,.slice none 0 0,.slice none 0 0,.bool false,.slice none 0 0,.slice none 0 0,.int .i64 0,.int .i64 0,.bool false,.slice none 0 0,.slice none 0 0,.bool false,.slice none 0 0,.slice none 0 0,.bool false,.slice none 0 0,.slice none 0 0,.slice none 0 0]):=⟨tyI (by kernel_rfl)⟩
theorem Qs5:Zr (Qox (⟨(⟨(⟨false,[]⟩:Qf),[]⟩:Qa),(⟨(⟨false,[]⟩:Qf),[]⟩:Qa),(⟨(⟨false,[]⟩:Qf),[]⟩:Qa),(⟨(⟨false,[]⟩:Qf),[]⟩:Qa),(⟨(⟨false,[]⟩:Qf),[]⟩:Qa),0,0⟩:Qck)) [.bool false,.slice none 0 0,.slice none 0 0,.bool false,.slice none 0 0,.slice none 0 0,.bool false,.slice none 0 0,.slice none 0 0,.bool false,.slice none 0 0,.slice none 0 0,.bool false,.slice none 0 0,.slice none 0 0,.int .i64 0,.int .i64 0]:=Ki (Qi (c1:=[.bool false,.slice none 0 0,.slice none 0 0]) Js (Qi (c1:=[.bool false,.slice none 0 0,.slice none 0 0]) Js (Qi (c1:=[.bool false,.slice none 0 0,.slice none 0 0]) Js (Qi (c1:=[.bool false,.slice none 0 0,.slice none 0 0]) Js (Qi (c1:=[.bool false,.slice none 0 0,.slice none 0 0]) Js (Qi (c1:=[.int .i64 0]) K9 (Qi (c1:=[.int .i64 0]) K9 (J0))))))))
theorem Q1p:Zr (Qt4 (⟨(⟨(⟨[],[],0,0⟩:Qm),(⟨[],[],[],[],[]⟩:Qt),[],0⟩:Qh),(⟨(⟨(⟨false,[]⟩:Qf),[]⟩:Qa),(⟨(⟨false,[]⟩:Qf),[]⟩:Qa),(⟨(⟨false,[]⟩:Qf),[]⟩:Qa),(⟨(⟨false,[]⟩:Qf),[]⟩:Qa),(⟨(⟨false,[]⟩:Qf),[]⟩:Qa),0,0⟩:Qck),(⟨(⟨false,[]⟩:Qf),[]⟩:Qa),(⟨(⟨false,[]⟩:Qf),[]⟩:Qa),(⟨(⟨false,[]⟩:Qf),[]⟩:Qa),[]⟩:Qot)) [.slice none 0 0,.slice none 0 0,.int .i64 0,.int .i64 0,.string ⟨#[]⟩,.slice none 0 0,.slice none 0 0,.slice none 0 0,.slice none 0 0,.slice none 0 0,.int .i64 0,.bool false,.slice none 0 0,.slice none 0 0,.bool false,.slice none 0 0,.slice none 0 0,.bool false,.slice none 0 0,.slice none 0 0,.bool false,.slice none 0 0,.slice none 0 0,.bool false,.slice none 0 0,.slice none 0 0,.int .i64 0,.int .i64 0,.bool false,.slice none 0 0,.slice none 0 0,.bool false,.slice none 0 0,.slice none 0 0,.bool false,.slice none 0 0,.slice none 0 0,.slice none 0 0]:=Ki (Qi (c1:=[.slice none 0 0,.slice none 0 0,.int .i64 0,.int .i64 0,.string ⟨#[]⟩,.slice none 0 0,.slice none 0 0,.slice none 0 0,.slice none 0 0,.slice none 0 0,.int .i64 0]) Zu (Qi (c1:=[.bool false,.slice none 0 0,.slice none 0 0,.bool false,.slice none 0 0,.slice none 0 0,.bool false,.slice none 0 0,.slice none 0 0,.bool false,.slice none 0 0,.slice none 0 0,.bool false,.slice none 0 0,.slice none 0 0,.int .i64 0,.int .i64 0]) Qs5 (Qi (c1:=[.bool false,.slice none 0 0,.slice none 0 0]) Js (Qi (c1:=[.bool false,.slice none 0 0,.slice none 0 0]) Js (Qi (c1:=[.bool false,.slice none 0 0,.slice none 0 0]) Js (Qi (c1:=[.slice none 0 0]) (Jz (k:=3)) (J0)))))))
instance:CZy Tryz.prog 127 (Qt4 (⟨(⟨(⟨[],[],0,0⟩:Qm),(⟨[],[],[],[],[]⟩:Qt),[],0⟩:Qh),(⟨(⟨(⟨false,[]⟩:Qf),[]⟩:Qa),(⟨(⟨false,[]⟩:Qf),[]⟩:Qa),(⟨(⟨false,[]⟩:Qf),[]⟩:Qa),(⟨(⟨false,[]⟩:Qf),[]⟩:Qa),(⟨(⟨false,[]⟩:Qf),[]⟩:Qa),0,0⟩:Qck),(⟨(⟨false,[]⟩:Qf),[]⟩:Qa),(⟨(⟨false,[]⟩:Qf),[]⟩:Qa),(⟨(⟨false,[]⟩:Qf),[]⟩:Qa),[]⟩:Qot)):=⟨_,_,_,Qxz.h,Q1p⟩
instance Q3d:CTy Tryz.prog 125 17 296 (.agg #[.bool false,.slice none 0 0,.slice none 0 0,.bool false,.slice none 0 0,.slice none 0 0,.bool false,.slice none 0 0,.slice none 0 0,.bool false,.slice none 0 0,.slice none 0 0,.bool false,.slice none 0 0,.slice none 0 0,.int .i64 0,.int .i64 0]):=⟨tyI (by kernel_rfl)⟩
instance:CZy Tryz.prog 125 (Qox (⟨(⟨(⟨false,[]⟩:Qf),[]⟩:Qa),(⟨(⟨false,[]⟩:Qf),[]⟩:Qa),(⟨(⟨false,[]⟩:Qf),[]⟩:Qa),(⟨(⟨false,[]⟩:Qf),[]⟩:Qa),(⟨(⟨false,[]⟩:Qf),[]⟩:Qa),0,0⟩:Qck)):=⟨_,_,_,Q3d.h,Qs5⟩
instance Jj6:CPl Tryz.prog 125 [(0,3),(3,3),(6,3),(9,3),(12,3),(15,1),(16,1)]:=⟨⟨_,Tryz.underlying125,by kernel_rfl⟩⟩
instance Jj7:CSh Tryz.prog 125 true 17:=⟨shp Tryz.underlying125 rfl Q3d.h⟩
instance Jg1:CFd Tryz.prog 125 0 0:=⟨fdA Tryz.underlying125 rfl rfl ti_64.h rfl⟩
instance Jj8:CPl Tryz.prog 127 [(0,11),(11,17),(28,3),(31,3),(34,3),(37,1)]:=⟨⟨_,Tryz.underlying127,by kernel_rfl⟩⟩
instance Jj9:CSh Tryz.prog 127 true 38:=⟨shp Tryz.underlying127 rfl Qxz.h⟩
instance Qnc:CTy Tryz.prog 131 5 104 (.agg #[.slice none 0 0,.bool false,.slice none 0 0,.slice none 0 0,.slice none 0 0]):=⟨tyI (by kernel_rfl)⟩
theorem Qll:Zr (Kk (⟨[],(⟨(⟨false,[]⟩:Qf),[]⟩:Qa),[]⟩:Jh)) [.slice none 0 0,.bool false,.slice none 0 0,.slice none 0 0,.slice none 0 0]:=Ki (Qi (c1:=[.slice none 0 0]) (Jz (k:=14)) (Qi (c1:=[.bool false,.slice none 0 0,.slice none 0 0]) Js (Qi (c1:=[.slice none 0 0]) (Jz (k:=3)) (J0))))
instance:CZy Tryz.prog 131 (Kk (⟨[],(⟨(⟨false,[]⟩:Qf),[]⟩:Qa),[]⟩:Jh)):=⟨_,_,_,Qnc.h,Qll⟩
instance Jg2:CFd Tryz.prog 127 0 0:=⟨fdA Tryz.underlying127 rfl rfl ti_59.h rfl⟩
instance Jg3:CFd Tryz.prog 127 1 11:=⟨fdA Tryz.underlying127 rfl rfl Q3d.h rfl⟩
instance Jg4:CFd Tryz.prog 125 1 3:=⟨fdA Tryz.underlying125 rfl rfl ti_64.h rfl⟩
instance Jg5:CFd Tryz.prog 125 2 6:=⟨fdA Tryz.underlying125 rfl rfl ti_64.h rfl⟩
instance Jg6:CFd Tryz.prog 125 3 9:=⟨fdA Tryz.underlying125 rfl rfl ti_64.h rfl⟩
instance Jg7:CFd Tryz.prog 125 4 12:=⟨fdA Tryz.underlying125 rfl rfl ti_64.h rfl⟩
instance Jg8:CFd Tryz.prog 125 5 15:=⟨fdA Tryz.underlying125 rfl rfl ti_3.h rfl⟩
instance Jg9:CFd Tryz.prog 125 6 16:=⟨fdA Tryz.underlying125 rfl rfl ti_3.h rfl⟩
instance Jha:CFd Tryz.prog 127 5 37:=⟨fdA Tryz.underlying127 rfl rfl ti_43.h rfl⟩
instance Jhb:CFd Tryz.prog 127 3 31:=⟨fdA Tryz.underlying127 rfl rfl ti_64.h rfl⟩
instance Jhc:CFd Tryz.prog 127 2 28:=⟨fdA Tryz.underlying127 rfl rfl ti_64.h rfl⟩
instance Jhd:CFd Tryz.prog 127 4 34:=⟨fdA Tryz.underlying127 rfl rfl ti_64.h rfl⟩
instance Qx0:CPl Tryz.prog 131 [(0,1),(1,3),(4,1)]:=⟨⟨_,Tryz.underlying131,by kernel_rfl⟩⟩
instance Jka:CSh Tryz.prog 131 true 5:=⟨shp Tryz.underlying131 rfl Qnc.h⟩
instance Jkb:CTy Tryz.prog 353 46 856 (.agg #[.slice none 0 0,.slice none 0 0,.int .i64 0,.int .i64 0,.string ⟨#[]⟩,.slice none 0 0,.slice none 0 0,.slice none 0 0,.slice none 0 0,.slice none 0 0,.int .i64 0,.bool false,.slice none 0 0,.slice none 0 0,.bool false,.slice none 0 0,.slice none 0 0,.bool false,.slice none 0 0,.slice none 0 0,.bool false,.slice none 0 0,.slice none 0 0,.bool false,.slice none 0 0,.slice none 0 0,.int .i64 0,.int .i64 0,.bool false,.slice none 0 0,.slice none 0 0,.bool false,.slice none 0 0,.slice none 0 0,.bool false,.slice none 0 0,.slice none 0 0,.slice none 0 0,.slice none 0 0,.bool false,.slice none 0 0,.slice none 0 0,.slice none 0 0,.bool false,.slice none 0 0,.slice none 0 0]):=⟨tyI (by kernel_rfl)⟩
instance Jkc:CPl Tryz.prog 353 [(0,38),(38,5),(43,3)]:=⟨⟨_,Tryz.underlying353,by kernel_rfl⟩⟩
instance Jhe:CFd Tryz.prog 353 1 38:=⟨fdA Tryz.underlying353 rfl rfl Qnc.h rfl⟩
instance Jhf:CFd Tryz.prog 131 1 1:=⟨fdA Tryz.underlying131 rfl rfl ti_64.h rfl⟩
instance Jhg:CFd Tryz.prog 353 0 0:=⟨fdA Tryz.underlying353 rfl rfl Qxz.h rfl⟩
instance Q8c:CTy Tryz.prog 129 1 24 (.slice none 0 0):=⟨tyI (by kernel_rfl)⟩
instance Jhh:CFd Tryz.prog 131 0 0:=⟨fdA Tryz.underlying131 rfl rfl Q8c.h rfl⟩
instance:CUn Tryz.prog 129 (.slice 226):=⟨Tryz.underlying129⟩
instance Jkd:CSh Tryz.prog 129 false 1:=⟨shp Tryz.underlying129 rfl Q8c.h⟩
instance Jhi:CFd Tryz.prog 353 2 43:=⟨fdA Tryz.underlying353 rfl rfl ti_64.h rfl⟩
instance Jhj:CFd Tryz.prog 131 2 4:=⟨fdA Tryz.underlying131 rfl rfl ti_43.h rfl⟩
instance Jjf:CFd Tryz.prog 50 1 1:=⟨fdA Tryz.underlying50 rfl rfl ti_3.h rfl⟩
instance Qjn:CTy Tryz.prog 226 14 256 (.agg #[.bool false,.slice none 0 0,.slice none 0 0,.bool false,.slice none 0 0,.slice none 0 0,.bool false,.slice none 0 0,.slice none 0 0,.bool false,.slice none 0 0,.slice none 0 0,.slice none 0 0,.bool false]):=⟨tyI (by kernel_rfl)⟩
instance Q3e:CPl Tryz.prog 226 [(0,3),(3,3),(6,3),(9,3),(12,1),(13,1)]:=⟨⟨_,Tryz.underlying226,by kernel_rfl⟩⟩
theorem Qm1:Zr (Kz (⟨(⟨(⟨false,[]⟩:Qf),[]⟩:Qa),(⟨(⟨false,[]⟩:Qf),[]⟩:Qa),(⟨(⟨false,[]⟩:Qf),[]⟩:Qa),(⟨(⟨false,[]⟩:Qf),[]⟩:Qa),[],false⟩:Q3)) [.bool false,.slice none 0 0,.slice none 0 0,.bool false,.slice none 0 0,.slice none 0 0,.bool false,.slice none 0 0,.slice none 0 0,.bool false,.slice none 0 0,.slice none 0 0,.slice none 0 0,.bool false]:=Ki (Qi (c1:=[.bool false,.slice none 0 0,.slice none 0 0]) Js (Qi (c1:=[.bool false,.slice none 0 0,.slice none 0 0]) Js (Qi (c1:=[.bool false,.slice none 0 0,.slice none 0 0]) Js (Qi (c1:=[.bool false,.slice none 0 0,.slice none 0 0]) Js (Qi (c1:=[.slice none 0 0]) (Jz (k:=3)) (Qi (c1:=[.bool false]) zr_bl (J0)))))))
instance:CZy Tryz.prog 226 (Kz (⟨(⟨(⟨false,[]⟩:Qf),[]⟩:Qa),(⟨(⟨false,[]⟩:Qf),[]⟩:Qa),(⟨(⟨false,[]⟩:Qf),[]⟩:Qa),(⟨(⟨false,[]⟩:Qf),[]⟩:Qa),[],false⟩:Q3)):=⟨_,_,_,Qjn.h,Qm1⟩
instance Jke:CSh Tryz.prog 226 true 14:=⟨shp Tryz.underlying226 rfl Qjn.h⟩
instance Jhk:CFd Tryz.prog 226 5 13:=⟨fdA Tryz.underlying226 rfl rfl ti_4.h rfl⟩
instance Q8d:CTy Tryz.prog 134 2 16 (.agg #[.int .i64 0,.int .i64 0]):=⟨tyI (by kernel_rfl)⟩
theorem Qwz:Zr (Qp8 (⟨0,0⟩:Qk5)) [.int .i64 0,.int .i64 0]:=Ki (Qi (c1:=[.int .i64 0]) K9 (Qi (c1:=[.int .i64 0]) K9 (J0)))
instance:CZy Tryz.prog 134 (Qp8 (⟨0,0⟩:Qk5)):=⟨_,_,_,Q8d.h,Qwz⟩
instance Jkf:CPl Tryz.prog 134 [(0,1),(1,1)]:=⟨⟨_,Tryz.underlying134,by kernel_rfl⟩⟩
instance Jkg:CSh Tryz.prog 134 true 2:=⟨shp Tryz.underlying134 rfl Q8d.h⟩
instance Jdt:CTy Tryz.prog 229 43 800 (.agg #[.slice none 0 0,.slice none 0 0,.int .i64 0,.int .i64 0,.string ⟨#[]⟩,.slice none 0 0,.slice none 0 0,.slice none 0 0,.slice none 0 0,.slice none 0 0,.int .i64 0,.bool false,.slice none 0 0,.slice none 0 0,.bool false,.slice none 0 0,.slice none 0 0,.bool false,.slice none 0 0,.slice none 0 0,.bool false,.slice none 0 0,.slice none 0 0,.bool false,.slice none 0 0,.slice none 0 0,.int .i64 0,.int .i64 0,.bool false,.slice none 0 0,.slice none 0 0,.bool false,.slice none 0 0,.slice none 0 0,.bool false,.slice none 0 0,.slice none 0 0,.slice none 0 0,.slice none 0 0,.bool false,.slice none 0 0,.slice none 0 0,.slice none 0 0]):=⟨tyI (by kernel_rfl)⟩
instance Jkh:CPl Tryz.prog 229 [(0,38),(38,5)]:=⟨⟨_,Tryz.underlying229,by kernel_rfl⟩⟩
instance Jhl:CFd Tryz.prog 229 1 38:=⟨fdA Tryz.underlying229 rfl rfl Qnc.h rfl⟩
instance Jhm:CFd Tryz.prog 226 0 0:=⟨fdA Tryz.underlying226 rfl rfl ti_64.h rfl⟩
instance Jhn:CFd Tryz.prog 226 1 3:=⟨fdA Tryz.underlying226 rfl rfl ti_64.h rfl⟩
instance Jho:CFd Tryz.prog 226 2 6:=⟨fdA Tryz.underlying226 rfl rfl ti_64.h rfl⟩
instance Jhp:CFd Tryz.prog 226 3 9:=⟨fdA Tryz.underlying226 rfl rfl ti_64.h rfl⟩
instance Jhq:CFd Tryz.prog 226 4 12:=⟨fdA Tryz.underlying226 rfl rfl ti_43.h rfl⟩
instance Jhr:CFd Tryz.prog 229 0 0:=⟨fdA Tryz.underlying229 rfl rfl Qxz.h rfl⟩
instance Jki:CSh Tryz.prog 229 true 43:=⟨shp Tryz.underlying229 rfl Jdt.h⟩
instance Jhs:CFd Tryz.prog 134 0 0:=⟨fdA Tryz.underlying134 rfl rfl ti_3.h rfl⟩
instance Jht:CFd Tryz.prog 116 5 15:=⟨fdA Tryz.underlying116 rfl rfl ti_3.h rfl⟩
theorem Qqv:Zr (Qbi (⟨(⟨false,[],[]⟩:Qc),(⟨false,[],[]⟩:Qc),(⟨false,[],[]⟩:Qc),(⟨false,[],[]⟩:Qc),[],false⟩:Jr)) [.bool false,.slice none 0 0,.slice none 0 0,.bool false,.slice none 0 0,.slice none 0 0,.bool false,.slice none 0 0,.slice none 0 0,.bool false,.slice none 0 0,.slice none 0 0,.slice none 0 0,.bool false]:=Ki (Qi (c1:=[.bool false,.slice none 0 0,.slice none 0 0]) Q4 (Qi (c1:=[.bool false,.slice none 0 0,.slice none 0 0]) Q4 (Qi (c1:=[.bool false,.slice none 0 0,.slice none 0 0]) Q4 (Qi (c1:=[.bool false,.slice none 0 0,.slice none 0 0]) Q4 (Qi (c1:=[.slice none 0 0]) (Jz (k:=3)) (Qi (c1:=[.bool false]) zr_bl (J0)))))))
instance:CZy Tryz.prog 220 (Qbi (⟨(⟨false,[],[]⟩:Qc),(⟨false,[],[]⟩:Qc),(⟨false,[],[]⟩:Qc),(⟨false,[],[]⟩:Qc),[],false⟩:Jr)):=⟨_,_,_,Q8b.h,Qqv⟩
instance Jhu:CFd Tryz.prog 220 5 13:=⟨fdA Tryz.underlying220 rfl rfl ti_4.h rfl⟩
theorem Qo4:Zr (Qi6 (⟨(⟨false,[],[]⟩:Qc),(⟨false,[],[]⟩:Qc),(⟨false,[],[]⟩:Qc),(⟨false,[],[]⟩:Qc),(⟨false,[],[]⟩:Qc),0,0⟩:Qaq)) [.bool false,.slice none 0 0,.slice none 0 0,.bool false,.slice none 0 0,.slice none 0 0,.bool false,.slice none 0 0,.slice none 0 0,.bool false,.slice none 0 0,.slice none 0 0,.bool false,.slice none 0 0,.slice none 0 0,.int .i64 0,.int .i64 0]:=Ki (Qi (c1:=[.bool false,.slice none 0 0,.slice none 0 0]) Q4 (Qi (c1:=[.bool false,.slice none 0 0,.slice none 0 0]) Q4 (Qi (c1:=[.bool false,.slice none 0 0,.slice none 0 0]) Q4 (Qi (c1:=[.bool false,.slice none 0 0,.slice none 0 0]) Q4 (Qi (c1:=[.bool false,.slice none 0 0,.slice none 0 0]) Q4 (Qi (c1:=[.int .i64 0]) K9 (Qi (c1:=[.int .i64 0]) K9 (J0))))))))
theorem Qn3:Zr (Vh (⟨[],[],[],[],[]⟩:Jd)) [.string ⟨#[]⟩,.slice none 0 0,.slice none 0 0,.slice none 0 0,.slice none 0 0]:=Ki (Qi (c1:=[.string ⟨#[]⟩]) Qg3 (Qi (c1:=[.slice none 0 0]) (Jz (k:=3)) (Qi (c1:=[.slice none 0 0]) (Jz (k:=1)) (Qi (c1:=[.slice none 0 0]) (Jz (k:=3)) (Qi (c1:=[.slice none 0 0]) (Jz (k:=3)) (J0))))))
theorem Qpw:Zr (K2 (⟨[],[],0,0⟩:Jl)) [.slice none 0 0,.slice none 0 0,.int .i64 0,.int .i64 0]:=Ki (Qi (c1:=[.slice none 0 0]) (Jz (k:=6)) (Qi (c1:=[.slice none 0 0]) (Jz (k:=1)) (Qi (c1:=[.int .i64 0]) K9 (Qi (c1:=[.int .i64 0]) K9 (J0)))))
theorem Qnp:Zr (Kf (⟨(⟨[],[],0,0⟩:Jl),(⟨[],[],[],[],[]⟩:Jd),[],0⟩:Qx)) [.slice none 0 0,.slice none 0 0,.int .i64 0,.int .i64 0,.string ⟨#[]⟩,.slice none 0 0,.slice none 0 0,.slice none 0 0,.slice none 0 0,.slice none 0 0,.int .i64 0]:=Ki (Qi (c1:=[.slice none 0 0,.slice none 0 0,.int .i64 0,.int .i64 0]) Qpw (Qi (c1:=[.string ⟨#[]⟩,.slice none 0 0,.slice none 0 0,.slice none 0 0,.slice none 0 0]) Qn3 (Qi (c1:=[.slice none 0 0]) (Jz (k:=3)) (Qi (c1:=[.int .i64 0]) K9 (J0)))))
theorem Qpx:Zr (Qjm (⟨(⟨(⟨[],[],0,0⟩:Jl),(⟨[],[],[],[],[]⟩:Jd),[],0⟩:Qx),(⟨(⟨false,[],[]⟩:Qc),(⟨false,[],[]⟩:Qc),(⟨false,[],[]⟩:Qc),(⟨false,[],[]⟩:Qc),(⟨false,[],[]⟩:Qc),0,0⟩:Qaq),(⟨false,[],[]⟩:Qc),(⟨false,[],[]⟩:Qc),(⟨false,[],[]⟩:Qc),[]⟩:Qe8)) [.slice none 0 0,.slice none 0 0,.int .i64 0,.int .i64 0,.string ⟨#[]⟩,.slice none 0 0,.slice none 0 0,.slice none 0 0,.slice none 0 0,.slice none 0 0,.int .i64 0,.bool false,.slice none 0 0,.slice none 0 0,.bool false,.slice none 0 0,.slice none 0 0,.bool false,.slice none 0 0,.slice none 0 0,.bool false,.slice none 0 0,.slice none 0 0,.bool false,.slice none 0 0,.slice none 0 0,.int .i64 0,.int .i64 0,.bool false,.slice none 0 0,.slice none 0 0,.bool false,.slice none 0 0,.slice none 0 0,.bool false,.slice none 0 0,.slice none 0 0,.slice none 0 0]:=Ki (Qi (c1:=[.slice none 0 0,.slice none 0 0,.int .i64 0,.int .i64 0,.string ⟨#[]⟩,.slice none 0 0,.slice none 0 0,.slice none 0 0,.slice none 0 0,.slice none 0 0,.int .i64 0]) Qnp (Qi (c1:=[.bool false,.slice none 0 0,.slice none 0 0,.bool false,.slice none 0 0,.slice none 0 0,.bool false,.slice none 0 0,.slice none 0 0,.bool false,.slice none 0 0,.slice none 0 0,.bool false,.slice none 0 0,.slice none 0 0,.int .i64 0,.int .i64 0]) Qo4 (Qi (c1:=[.bool false,.slice none 0 0,.slice none 0 0]) Q4 (Qi (c1:=[.bool false,.slice none 0 0,.slice none 0 0]) Q4 (Qi (c1:=[.bool false,.slice none 0 0,.slice none 0 0]) Q4 (Qi (c1:=[.slice none 0 0]) (Jz (k:=3)) (J0)))))))
instance:CZy Tryz.prog 118 (Qjm (⟨(⟨(⟨[],[],0,0⟩:Jl),(⟨[],[],[],[],[]⟩:Jd),[],0⟩:Qx),(⟨(⟨false,[],[]⟩:Qc),(⟨false,[],[]⟩:Qc),(⟨false,[],[]⟩:Qc),(⟨false,[],[]⟩:Qc),(⟨false,[],[]⟩:Qc),0,0⟩:Qaq),(⟨false,[],[]⟩:Qc),(⟨false,[],[]⟩:Qc),(⟨false,[],[]⟩:Qc),[]⟩:Qe8)):=⟨_,_,_,Q77.h,Qpx⟩
instance Jkj:CPl Tryz.prog 121 [(0,1),(1,3),(4,1)]:=⟨⟨_,Tryz.underlying121,by kernel_rfl⟩⟩
theorem Qnq:Zr (J8 (⟨[],(⟨false,[],[]⟩:Qc),[]⟩:Ja)) [.slice none 0 0,.bool false,.slice none 0 0,.slice none 0 0,.slice none 0 0]:=Ki (Qi (c1:=[.slice none 0 0]) (Jz (k:=14)) (Qi (c1:=[.bool false,.slice none 0 0,.slice none 0 0]) Q4 (Qi (c1:=[.slice none 0 0]) (Jz (k:=3)) (J0))))
instance:CZy Tryz.prog 121 (J8 (⟨[],(⟨false,[],[]⟩:Qc),[]⟩:Ja)):=⟨_,_,_,Q79.h,Qnq⟩
instance Jkk:CPl Tryz.prog 220 [(0,3),(3,3),(6,3),(9,3),(12,1),(13,1)]:=⟨⟨_,Tryz.underlying220,by kernel_rfl⟩⟩
instance Q8e:CTy Tryz.prog 104 2 16 (.agg #[.int .i64 0,.int .i64 0]):=⟨tyI (by kernel_rfl)⟩
theorem Q8f:Zr (Qmg (⟨0,0⟩:Qh0)) [.int .i64 0,.int .i64 0]:=Ki (Qi (c1:=[.int .i64 0]) K9 (Qi (c1:=[.int .i64 0]) K9 (J0)))
instance:CZy Tryz.prog 104 (Qmg (⟨0,0⟩:Qh0)):=⟨_,_,_,Q8e.h,Q8f⟩
instance Jkl:CSh Tryz.prog 104 true 2:=⟨shp Tryz.underlying104 rfl Q8e.h⟩
instance Q8g:CTy Tryz.prog 150 4 32 (.agg #[.int .i64 0,.int .i64 0,.int .i64 0,.int .i64 0]):=⟨tyI (by kernel_rfl)⟩
theorem Q8h:Zr (Q22 (⟨0,0,0,0⟩:Qwx)) [.int .i64 0,.int .i64 0,.int .i64 0,.int .i64 0]:=Ki (Qi (c1:=[.int .i64 0]) K9 (Qi (c1:=[.int .i64 0]) K9 (Qi (c1:=[.int .i64 0]) K9 (Qi (c1:=[.int .i64 0]) K9 (J0)))))
instance:CZy Tryz.prog 150 (Q22 (⟨0,0,0,0⟩:Qwx)):=⟨_,_,_,Q8g.h,Q8h⟩
instance:CUn Tryz.prog 150 (.array 4 3):=⟨Tryz.underlying150⟩
instance Jkm:CSh Tryz.prog 150 true 4:=⟨shp Tryz.underlying150 rfl Q8g.h⟩
instance{x}:CIF (Qb x):=⟨CIF.h⟩
instance{x}:CIF (Q0 x):=⟨CIF.h⟩
instance{x}:CIF (Y7 x):=⟨CIF.h⟩
end Go.Proofs.YtlfphifbmoccgaaGreatDoor
