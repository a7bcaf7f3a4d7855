import Derived.Test.YtlihkcaoachkdaaGreatDoorMod
import Derived.Test.YtlihkcaoachkdaaGreatDoorSC
import Derived.Test.YtlihkcaoachkdaaGreatDoorBld
import Derived.Test.YtlihkcaoachkdaaGreatDoorLib
import Derived.Test.YtlihkcaoachkdaaGreatDoorChecked
set_option maxRecDepth 100000
set_option maxHeartbeats 4000000
namespace Go.Proofs.YtlihkcaoachkdaaGreatDoor
open Go Go.RowKit
theorem ownK:ownKnob Tryz.prog.godebug=none:=by kernel_rfl
theorem laidOutK:laidOutB Tryz.prog=true:=by kernel_rfl
abbrev Qbz(xs:List Nat):Ly:=sli 1 (xs.map u32)
abbrev Qc(x:Qa):Ly:=.agg [bl x.Neg,Qbz x.N,Qbz x.D]
abbrev Jt(x:Jp):Ly:=.agg [i64 x.Op,i64 x.A,i64 x.B,Qc x.N]
abbrev Qfy(xs:List Jp):Ly:=sli 6 (xs.map Jt)
abbrev Qvk(xs:List Int):Ly:=sli 1 (xs.map i64)
abbrev Je(x:Jc):Ly:=.agg [Qfy x.Code,Qvk x.Outs,i64 x.Dim,i64 x.Par]
abbrev Qg(xs:List Qa):Ly:=sli 3 (xs.map Qc)
abbrev Zk(xs:List (List Qa)):Ly:=sli 1 (xs.map Qg)
abbrev Q8(x:Ja):Ly:=.agg [str x.Name,Qg x.C,Zk x.A,Qg x.B,Qg x.E]
abbrev Jb(x:Qt):Ly:=.agg [Je x.Tape,Q8 x.Scheme,Qg x.P,i64 x.Bits]
abbrev Jo(x:Qk):Ly:=.agg [Qc x.T,Qc x.Want,Qc x.H,Qc x.Err,Qg x.Y,bl x.Ok]
abbrev Qgl(xs:List Qk):Ly:=sli 14 (xs.map Jo)
abbrev Ql(x:Qi):Ly:=.agg [Qgl x.Tries,Qc x.T,Qg x.Y]
abbrev Q4(x:Qf):Ly:=.agg [bl x.Neg,Qbz x.Abs]
abbrev Qd(x:Qb):Ly:=.agg [Q4 x.Num,Qbz x.Den]
theorem Jx{a0_0_ a0_1_ a1_}:IF (.agg [.agg [bl a0_0_,sli 1 a0_1_],sli 1 a1_]):=Qqs (Qc3 (Qqs (Qc3 if_bl (Qc3 Qgm (Qlh)))) (Qc3 Qgm (Qlh)))
abbrev Kx(x:Q2):Ly:=.agg [i64 x.Op,i64 x.A,i64 x.B,Qd x.N]
abbrev Qxx(xs:List Q2):Ly:=sli 6 (xs.map Kx)
abbrev Kj(x:Q0):Ly:=.agg [Qxx x.Code,Qvk x.Outs,i64 x.Dim,i64 x.Par]
abbrev Qj(xs:List Qb):Ly:=sli 3 (xs.map Qd)
abbrev Qis(xs:List (List Qb)):Ly:=sli 1 (xs.map Qj)
abbrev Jj(x:Qr):Ly:=.agg [str x.Name,Qj x.C,Qis x.A,Qj x.B,Qj x.E]
abbrev Qj4(x:Qgp):Ly:=.agg [str x.a0,str x.a1,str x.a2,str x.a3,str x.a4,str x.a5]
abbrev Qv(x:Qe):Ly:=.agg [i64 x.Kind,i64 x.Step,i64 x.Stage,i64 x.At]
abbrev Jy(x:Ji):Ly:=.agg [str x.rest,i64 x.at_,bl x.over]
abbrev Qpn(x:Qf7):Ly:=.agg [i64 x.Kind,str x.Text,i64 x.At]
abbrev Q7(x:Qs):Ly:=.agg [Kj x.Tape,Jj x.Scheme,Qj x.P,i64 x.Bits]
abbrev Ju(x:Qy):Ly:=.agg [Qd x.T,Qd x.Want,Qd x.H,Qd x.Err,Qj x.Y,bl x.Ok]
abbrev Qza(xs:List Qy):Ly:=sli 14 (xs.map Ju)
abbrev Q5(x:Qw):Ly:=.agg [Qza x.Tries,Qd x.T,Qj x.Y]
abbrev Qjp(x:J6):Ly:=.agg [i64 x.op,i64 x.a,i64 x.b]
abbrev Qj5(x:Z2):Ly:=.agg [Qis x.Ys,Qis x.Ks,Qj x.Next,Qj x.Err]
abbrev Qkt(x:Zh):Ly:=.agg [i64 x.Seen,i64 x.Peak]
abbrev Qp(x:Qo):Ly:=.agg [Qkt x.Count,i64 x.limit]
theorem Kd{a0_0_ a0_1_ a1_}:IF (.agg [.agg [i64 a0_0_,i64 a0_1_],i64 a1_]):=Qqs (Qc3 (Qqs (Qc3 Qen (Qc3 Qen (Qlh)))) (Qc3 Qen (Qlh)))
abbrev Qb7(x:Ye):Ly:=.agg [Qd x.T,Qj x.Y,Qj x.P]
abbrev Xh(x:Xe):Ly:=.agg [Qd x.T,Qj x.Y,Qj x.P]
abbrev Qlk(x:Qhn):Ly:=.agg [u8 x.a0,u8 x.a1,u8 x.a2,u8 x.a3,u8 x.a4,u8 x.a5,u8 x.a6,u8 x.a7,u8 x.a8]
abbrev Qm(x:Qh):Ly:=.agg [i64 x.Kind,str x.Text,i64 x.At]
abbrev Vm(x:Q1):Ly:=.agg [bl x.Neg,Qbz x.Abs]
abbrev Qjq(x:Qb4):Ly:=.agg [i64 x.a0,i64 x.a1,i64 x.a2,i64 x.a3]
abbrev X5(x:Q6):Ly:=.agg [Zk x.Ys,Zk x.Ks,Qg x.Next,Qg x.Err]
abbrev Qjr(x:X8):Ly:=.agg [i64 x.a0,i64 x.a1,i64 x.a2]
abbrev Xi(x:Wg):Ly:=.agg [Qc x.T,Qg x.Y,Qg x.P]
instance ti_31:CTy Tryz.prog 31 11 208 (.agg #[.slice none 0 0,.slice none 0 0,.int .i64 0,.int .i64 0,.string ⟨#[]⟩,.slice none 0 0,.slice none 0 0,.slice none 0 0,.slice none 0 0,.slice none 0 0,.int .i64 0]):=⟨tyI (by kernel_rfl)⟩
instance sh_31:CSh Tryz.prog 31 true 11:=⟨shp Tryz.underlying31 rfl ti_31.h⟩
instance ti_25:CTy Tryz.prog 25 4 64 (.agg #[.slice none 0 0,.slice none 0 0,.int .i64 0,.int .i64 0]):=⟨tyI (by kernel_rfl)⟩
instance Ja1:CFd Tryz.prog 31 0 0:=⟨fdA Tryz.underlying31 rfl rfl ti_25.h rfl⟩
instance sh_25:CSh Tryz.prog 25 true 4:=⟨shp Tryz.underlying25 rfl ti_25.h⟩
instance ti_22:CTy Tryz.prog 22 1 24 (.slice none 0 0):=⟨tyI (by kernel_rfl)⟩
instance Ja2:CFd Tryz.prog 25 0 0:=⟨fdA Tryz.underlying25 rfl rfl ti_22.h rfl⟩
instance:CUn Tryz.prog 22 (.slice 232):=⟨Tryz.underlying22⟩
instance sh_22:CSh Tryz.prog 22 false 1:=⟨shp Tryz.underlying22 rfl ti_22.h⟩
instance Q3o:CTy Tryz.prog 232 6 80 (.agg #[.int .i64 0,.int .i64 0,.int .i64 0,.bool false,.slice none 0 0,.slice none 0 0]):=⟨tyI (by kernel_rfl)⟩
instance ti_34:CTy Tryz.prog 34 3 56 (.agg #[.bool false,.slice none 0 0,.slice none 0 0]):=⟨tyI (by kernel_rfl)⟩
instance Q9k:CFd Tryz.prog 232 3 3:=⟨fdA Tryz.underlying232 rfl rfl ti_34.h rfl⟩
instance sh_34:CSh Tryz.prog 34 true 3:=⟨shp Tryz.underlying34 rfl ti_34.h⟩
instance ti_32:CTy Tryz.prog 32 1 24 (.slice none 0 0):=⟨tyI (by kernel_rfl)⟩
instance Ja3:CFd Tryz.prog 34 1 1:=⟨fdA Tryz.underlying34 rfl rfl ti_32.h rfl⟩
instance:CUn Tryz.prog 32 (.slice 189):=⟨Tryz.underlying32⟩
instance sh_32:CSh Tryz.prog 32 false 1:=⟨shp Tryz.underlying32 rfl ti_32.h⟩
instance Ja4:CFd Tryz.prog 34 2 2:=⟨fdA Tryz.underlying34 rfl rfl ti_32.h rfl⟩
instance ti_23:CTy Tryz.prog 23 1 24 (.slice none 0 0):=⟨tyI (by kernel_rfl)⟩
instance Ja5:CFd Tryz.prog 25 1 1:=⟨fdA Tryz.underlying25 rfl rfl ti_23.h rfl⟩
instance:CUn Tryz.prog 23 (.slice 3):=⟨Tryz.underlying23⟩
instance sh_23:CSh Tryz.prog 23 false 1:=⟨shp Tryz.underlying23 rfl ti_23.h⟩
instance ti_29:CTy Tryz.prog 29 5 112 (.agg #[.string ⟨#[]⟩,.slice none 0 0,.slice none 0 0,.slice none 0 0,.slice none 0 0]):=⟨tyI (by kernel_rfl)⟩
instance Ja6:CFd Tryz.prog 31 1 4:=⟨fdA Tryz.underlying31 rfl rfl ti_29.h rfl⟩
instance sh_29:CSh Tryz.prog 29 true 5:=⟨shp Tryz.underlying29 rfl ti_29.h⟩
instance ti_9:CTy Tryz.prog 9 1 16 (.string ⟨#[]⟩):=⟨tyI (by kernel_rfl)⟩
instance Ja7:CFd Tryz.prog 29 0 0:=⟨fdA Tryz.underlying29 rfl rfl ti_9.h rfl⟩
instance:CUn Tryz.prog 9 (.string):=⟨Tryz.underlying9⟩
instance sh_9:CSh Tryz.prog 9 false 1:=⟨shp Tryz.underlying9 rfl ti_9.h⟩
instance ti_27:CTy Tryz.prog 27 1 24 (.slice none 0 0):=⟨tyI (by kernel_rfl)⟩
instance Ja8:CFd Tryz.prog 29 2 2:=⟨fdA Tryz.underlying29 rfl rfl ti_27.h rfl⟩
instance:CUn Tryz.prog 27 (.slice 26):=⟨Tryz.underlying27⟩
instance sh_27:CSh Tryz.prog 27 false 1:=⟨shp Tryz.underlying27 rfl ti_27.h⟩
instance ti_26:CTy Tryz.prog 26 1 24 (.slice none 0 0):=⟨tyI (by kernel_rfl)⟩
instance Ja9:CFd Tryz.prog 29 3 3:=⟨fdA Tryz.underlying29 rfl rfl ti_26.h rfl⟩
instance:CUn Tryz.prog 26 (.slice 34):=⟨Tryz.underlying26⟩
instance sh_26:CSh Tryz.prog 26 false 1:=⟨shp Tryz.underlying26 rfl ti_26.h⟩
instance Jba:CFd Tryz.prog 29 1 1:=⟨fdA Tryz.underlying29 rfl rfl ti_26.h rfl⟩
instance Jbb:CFd Tryz.prog 29 4 4:=⟨fdA Tryz.underlying29 rfl rfl ti_26.h rfl⟩
instance Jbc:CFd Tryz.prog 31 2 9:=⟨fdA Tryz.underlying31 rfl rfl ti_26.h rfl⟩
instance ti_70:CTy Tryz.prog 70 5 104 (.agg #[.slice none 0 0,.bool false,.slice none 0 0,.slice none 0 0,.slice none 0 0]):=⟨tyI (by kernel_rfl)⟩
instance sh_70:CSh Tryz.prog 70 true 5:=⟨shp Tryz.underlying70 rfl ti_70.h⟩
instance ti_68:CTy Tryz.prog 68 1 24 (.slice none 0 0):=⟨tyI (by kernel_rfl)⟩
instance Jbd:CFd Tryz.prog 70 0 0:=⟨fdA Tryz.underlying70 rfl rfl ti_68.h rfl⟩
instance:CUn Tryz.prog 68 (.slice 143):=⟨Tryz.underlying68⟩
instance sh_68:CSh Tryz.prog 68 false 1:=⟨shp Tryz.underlying68 rfl ti_68.h⟩
instance Jbe:CFd Tryz.prog 70 1 1:=⟨fdA Tryz.underlying70 rfl rfl ti_34.h rfl⟩
instance Jbf:CFd Tryz.prog 70 2 4:=⟨fdA Tryz.underlying70 rfl rfl ti_26.h rfl⟩
instance Qke:CTy Tryz.prog 143 14 256 (.agg #[.bool false,.slice none 0 0,.slice none 0 0,.bool false,.slice none 0 0,.slice none 0 0,.bool false,.slice none 0 0,.slice none 0 0,.bool false,.slice none 0 0,.slice none 0 0,.slice none 0 0,.bool false]):=⟨tyI (by kernel_rfl)⟩
instance Jcd:CSh Tryz.prog 143 true 14:=⟨shp Tryz.underlying143 rfl Qke.h⟩
instance Q9l:CFd Tryz.prog 143 0 0:=⟨fdA Tryz.underlying143 rfl rfl ti_34.h rfl⟩
instance Q9m:CFd Tryz.prog 143 1 3:=⟨fdA Tryz.underlying143 rfl rfl ti_34.h rfl⟩
instance Q9n:CFd Tryz.prog 143 2 6:=⟨fdA Tryz.underlying143 rfl rfl ti_34.h rfl⟩
instance Q9o:CFd Tryz.prog 143 3 9:=⟨fdA Tryz.underlying143 rfl rfl ti_34.h rfl⟩
instance Q9p:CFd Tryz.prog 143 4 12:=⟨fdA Tryz.underlying143 rfl rfl ti_26.h rfl⟩
instance ti_3:CTy Tryz.prog 3 1 8 (.int .i64 0):=⟨tyI (by kernel_rfl)⟩
instance Jbg:CFd Tryz.prog 31 3 10:=⟨fdA Tryz.underlying31 rfl rfl ti_3.h rfl⟩
instance:CUn Tryz.prog 3 (.int .i64):=⟨Tryz.underlying3⟩
instance sh_3:CSh Tryz.prog 3 false 1:=⟨shp Tryz.underlying3 rfl ti_3.h⟩
instance Qoi:CTy Tryz.prog 164 6 80 (.agg #[.int .i64 0,.int .i64 0,.int .i64 0,.bool false,.slice none 0 0,.slice none 0 0]):=⟨tyI (by kernel_rfl)⟩
instance Q3p:CPl Tryz.prog 164 [(0,1),(1,1),(2,1),(3,3)]:=⟨⟨_,Tryz.underlying164,by kernel_rfl⟩⟩
theorem Wk:Zr (Q4 (⟨false,[]⟩:Qf)) [.bool false,.slice none 0 0]:=Vf (Qn (c1:=[.bool false]) zr_bl (Qn (c1:=[.slice none 0 0]) (J7 (k:=1)) (Kk)))
theorem K0:Zr (Qd (⟨(⟨false,[]⟩:Qf),[]⟩:Qb)) [.bool false,.slice none 0 0,.slice none 0 0]:=Vf (Qn (c1:=[.bool false,.slice none 0 0]) Wk (Qn (c1:=[.slice none 0 0]) (J7 (k:=1)) (Kk)))
theorem Qly:Zr (Kx (⟨0,0,0,(⟨(⟨false,[]⟩:Qf),[]⟩:Qb)⟩:Q2)) [.int .i64 0,.int .i64 0,.int .i64 0,.bool false,.slice none 0 0,.slice none 0 0]:=Vf (Qn (c1:=[.int .i64 0]) Vn (Qn (c1:=[.int .i64 0]) Vn (Qn (c1:=[.int .i64 0]) Vn (Qn (c1:=[.bool false,.slice none 0 0,.slice none 0 0]) K0 (Kk)))))
instance:CUn Tryz.prog 41 (.slice 164):=⟨Tryz.underlying41⟩
instance ti_43:CTy Tryz.prog 43 4 64 (.agg #[.slice none 0 0,.slice none 0 0,.int .i64 0,.int .i64 0]):=⟨tyI (by kernel_rfl)⟩
instance pl_43:CPl Tryz.prog 43 [(0,1),(1,1),(2,1),(3,1)]:=⟨⟨_,Tryz.underlying43,by kernel_rfl⟩⟩
theorem Qlz:Zr (Kj (⟨[],[],0,0⟩:Q0)) [.slice none 0 0,.slice none 0 0,.int .i64 0,.int .i64 0]:=Vf (Qn (c1:=[.slice none 0 0]) (J7 (k:=6)) (Qn (c1:=[.slice none 0 0]) (J7 (k:=1)) (Qn (c1:=[.int .i64 0]) Vn (Qn (c1:=[.int .i64 0]) Vn (Kk)))))
instance:CZy Tryz.prog 43 (Kj (⟨[],[],0,0⟩:Q0)):=⟨_,_,_,ti_43.h,Qlz⟩
instance sh_43:CSh Tryz.prog 43 true 4:=⟨shp Tryz.underlying43 rfl ti_43.h⟩
instance ti_47:CTy Tryz.prog 47 5 112 (.agg #[.string ⟨#[]⟩,.slice none 0 0,.slice none 0 0,.slice none 0 0,.slice none 0 0]):=⟨tyI (by kernel_rfl)⟩
theorem Zm:Zr (Jj (⟨[],[],[],[],[]⟩:Qr)) [.string ⟨#[]⟩,.slice none 0 0,.slice none 0 0,.slice none 0 0,.slice none 0 0]:=Vf (Qn (c1:=[.string ⟨#[]⟩]) Qfe (Qn (c1:=[.slice none 0 0]) (J7 (k:=3)) (Qn (c1:=[.slice none 0 0]) (J7 (k:=1)) (Qn (c1:=[.slice none 0 0]) (J7 (k:=3)) (Qn (c1:=[.slice none 0 0]) (J7 (k:=3)) (Kk))))))
instance:CZy Tryz.prog 47 (Jj (⟨[],[],[],[],[]⟩:Qr)):=⟨_,_,_,ti_47.h,Zm⟩
instance Qzb:CTy Tryz.prog 233 6 96 (.agg #[.string ⟨#[]⟩,.string ⟨#[]⟩,.string ⟨#[]⟩,.string ⟨#[]⟩,.string ⟨#[]⟩,.string ⟨#[]⟩]):=⟨tyI (by kernel_rfl)⟩
theorem Qq4:Zr (Qj4 (⟨[],[],[],[],[],[]⟩:Qgp)) [.string ⟨#[]⟩,.string ⟨#[]⟩,.string ⟨#[]⟩,.string ⟨#[]⟩,.string ⟨#[]⟩,.string ⟨#[]⟩]:=Vf (Qn (c1:=[.string ⟨#[]⟩]) Qfe (Qn (c1:=[.string ⟨#[]⟩]) Qfe (Qn (c1:=[.string ⟨#[]⟩]) Qfe (Qn (c1:=[.string ⟨#[]⟩]) Qfe (Qn (c1:=[.string ⟨#[]⟩]) Qfe (Qn (c1:=[.string ⟨#[]⟩]) Qfe (Kk)))))))
instance:CZy Tryz.prog 233 (Qj4 (⟨[],[],[],[],[],[]⟩:Qgp)):=⟨_,_,_,Qzb.h,Qq4⟩
instance:CUn Tryz.prog 233 (.array 6 9):=⟨Tryz.underlying233⟩
instance Jce:CSh Tryz.prog 233 true 6:=⟨shp Tryz.underlying233 rfl Qzb.h⟩
instance ti_63:CTy Tryz.prog 63 4 32 (.agg #[.int .i64 0,.int .i64 0,.int .i64 0,.int .i64 0]):=⟨tyI (by kernel_rfl)⟩
theorem Qu:Zr (Qv (⟨0,0,0,0⟩:Qe)) [.int .i64 0,.int .i64 0,.int .i64 0,.int .i64 0]:=Vf (Qn (c1:=[.int .i64 0]) Vn (Qn (c1:=[.int .i64 0]) Vn (Qn (c1:=[.int .i64 0]) Vn (Qn (c1:=[.int .i64 0]) Vn (Kk)))))
instance:CZy Tryz.prog 63 (Qv (⟨0,0,0,0⟩:Qe)):=⟨_,_,_,ti_63.h,Qu⟩
instance pl_47:CPl Tryz.prog 47 [(0,1),(1,1),(2,1),(3,1),(4,1)]:=⟨⟨_,Tryz.underlying47,by kernel_rfl⟩⟩
instance pl_63:CPl Tryz.prog 63 [(0,1),(1,1),(2,1),(3,1)]:=⟨⟨_,Tryz.underlying63,by kernel_rfl⟩⟩
instance sh_47:CSh Tryz.prog 47 true 5:=⟨shp Tryz.underlying47 rfl ti_47.h⟩
instance sh_63:CSh Tryz.prog 63 true 4:=⟨shp Tryz.underlying63 rfl ti_63.h⟩
instance Q8i:CTy Tryz.prog 323 3 32 (.agg #[.string ⟨#[]⟩,.int .i64 0,.bool false]):=⟨tyI (by kernel_rfl)⟩
instance Q8j:CPl Tryz.prog 323 [(0,1),(1,1),(2,1)]:=⟨⟨_,Tryz.underlying323,by kernel_rfl⟩⟩
theorem Qs2:Zr (Jy (⟨[],0,false⟩:Ji)) [.string ⟨#[]⟩,.int .i64 0,.bool false]:=Vf (Qn (c1:=[.string ⟨#[]⟩]) Qfe (Qn (c1:=[.int .i64 0]) Vn (Qn (c1:=[.bool false]) zr_bl (Kk))))
instance ti_4:CTy Tryz.prog 4 1 1 (.bool false):=⟨tyI (by kernel_rfl)⟩
instance Q9q:CFd Tryz.prog 323 2 2:=⟨fdA Tryz.underlying323 rfl rfl ti_4.h rfl⟩
instance:CUn Tryz.prog 4 (.bool):=⟨Tryz.underlying4⟩
instance sh_4:CSh Tryz.prog 4 false 1:=⟨shp Tryz.underlying4 rfl ti_4.h⟩
instance Q9r:CFd Tryz.prog 323 1 1:=⟨fdA Tryz.underlying323 rfl rfl ti_3.h rfl⟩
theorem fol:Tryz.prog.follows .mixedOrders=true:=by kernel_rfl
instance Q9s:CFd Tryz.prog 323 0 0:=⟨fdA Tryz.underlying323 rfl rfl ti_9.h rfl⟩
instance Jbh:CFd Tryz.prog 47 0 0:=⟨fdA Tryz.underlying47 rfl rfl ti_9.h rfl⟩
instance Q3q:CTy Tryz.prog 313 3 32 (.agg #[.int .i64 0,.string ⟨#[]⟩,.int .i64 0]):=⟨tyI (by kernel_rfl)⟩
instance Q3r:CPl Tryz.prog 313 [(0,1),(1,1),(2,1)]:=⟨⟨_,Tryz.underlying313,by kernel_rfl⟩⟩
theorem Qsj:Zr (Qpn (⟨0,[],0⟩:Qf7)) [.int .i64 0,.string ⟨#[]⟩,.int .i64 0]:=Vf (Qn (c1:=[.int .i64 0]) Vn (Qn (c1:=[.string ⟨#[]⟩]) Qfe (Qn (c1:=[.int .i64 0]) Vn (Kk))))
instance Q9t:CFd Tryz.prog 313 1 1:=⟨fdA Tryz.underlying313 rfl rfl ti_9.h rfl⟩
instance Q9u:CFd Tryz.prog 313 0 0:=⟨fdA Tryz.underlying313 rfl rfl ti_3.h rfl⟩
instance:CUn Tryz.prog 21 (.int .i32):=⟨Tryz.underlying21⟩
instance:CUn Tryz.prog 5 (.int .u8):=⟨Tryz.underlying5⟩
instance ti_53:CTy Tryz.prog 53 3 56 (.agg #[.bool false,.slice none 0 0,.slice none 0 0]):=⟨tyI (by kernel_rfl)⟩
instance:CZy Tryz.prog 53 (Qd (⟨(⟨false,[]⟩:Qf),[]⟩:Qb)):=⟨_,_,_,ti_53.h,K0⟩
instance ti_51:CTy Tryz.prog 51 2 32 (.agg #[.bool false,.slice none 0 0]):=⟨tyI (by kernel_rfl)⟩
instance:CZy Tryz.prog 51 (Q4 (⟨false,[]⟩:Qf)):=⟨_,_,_,ti_51.h,Wk⟩
instance:CUn Tryz.prog 189 (.int .u32):=⟨Tryz.underlying189⟩
instance Kr:CTy Tryz.prog 189 1 4 (.int .u32 0):=⟨tyI (by kernel_rfl)⟩
instance Jcf:CSh Tryz.prog 189 false 1:=⟨shp Tryz.underlying189 rfl Kr.h⟩
instance:CUn Tryz.prog 151 (.int .u64):=⟨Tryz.underlying151⟩
theorem Vo:EqF Tryz.prog 2 63 (λx:Qe=>.agg [i64 x.Kind,i64 x.Step,i64 x.Stage,i64 x.At]) Q9:=
 Qtw Tryz.underlying63 (by kernel_rfl) (Qfh rfl rfl sh_3.h (λ_=>rfl) (λ_=>rfl) (Qhf (λx:Qe=>x.Kind) (Qjk (n:=0) Tryz.underlying3)) (Qfh rfl rfl sh_3.h (λ_=>rfl) (λ_=>rfl) (Qhf (λx:Qe=>x.Step) (Qjk (n:=0) Tryz.underlying3)) (Qfh rfl rfl sh_3.h (λ_=>rfl) (λ_=>rfl) (Qhf (λx:Qe=>x.Stage) (Qjk (n:=0) Tryz.underlying3)) (Qfh rfl rfl sh_3.h (λ_=>rfl) (λ_=>rfl) (Qhf (λx:Qe=>x.At) (Qjk (n:=0) Tryz.underlying3)) (Qy1)))))
theorem eg_63:Tryz.prog.eqGuardType Tryz.prog.depth 63=false:=by kernel_rfl
instance Jbi:CFd Tryz.prog 63 3 3:=⟨fdA Tryz.underlying63 rfl rfl ti_3.h rfl⟩
instance pl_51:CPl Tryz.prog 51 [(0,1),(1,1)]:=⟨⟨_,Tryz.underlying51,by kernel_rfl⟩⟩
instance sh_51:CSh Tryz.prog 51 true 2:=⟨shp Tryz.underlying51 rfl ti_51.h⟩
instance pl_53:CPl Tryz.prog 53 [(0,2),(2,1)]:=⟨⟨_,Tryz.underlying53,by kernel_rfl⟩⟩
instance sh_53:CSh Tryz.prog 53 true 3:=⟨shp Tryz.underlying53 rfl ti_53.h⟩
instance Jbj:CFd Tryz.prog 51 1 1:=⟨fdA Tryz.underlying51 rfl rfl ti_32.h rfl⟩
instance Jbk:CFd Tryz.prog 51 0 0:=⟨fdA Tryz.underlying51 rfl rfl ti_4.h rfl⟩
instance:CUn Tryz.prog 271 (.slice 32):=⟨Tryz.underlying271⟩
instance:CUn Tryz.prog 238 (.slice 9):=⟨Tryz.underlying238⟩
instance:CUn Tryz.prog 44 (.slice 53):=⟨Tryz.underlying44⟩
instance ti_44:CTy Tryz.prog 44 1 24 (.slice none 0 0):=⟨tyI (by kernel_rfl)⟩
instance Jbl:CFd Tryz.prog 47 1 1:=⟨fdA Tryz.underlying47 rfl rfl ti_44.h rfl⟩
instance sh_44:CSh Tryz.prog 44 false 1:=⟨shp Tryz.underlying44 rfl ti_44.h⟩
instance ti_45:CTy Tryz.prog 45 1 24 (.slice none 0 0):=⟨tyI (by kernel_rfl)⟩
instance Jbm:CFd Tryz.prog 47 2 2:=⟨fdA Tryz.underlying47 rfl rfl ti_45.h rfl⟩
instance:CUn Tryz.prog 45 (.slice 44):=⟨Tryz.underlying45⟩
instance sh_45:CSh Tryz.prog 45 false 1:=⟨shp Tryz.underlying45 rfl ti_45.h⟩
instance Jbn:CFd Tryz.prog 47 3 3:=⟨fdA Tryz.underlying47 rfl rfl ti_44.h rfl⟩
instance Jbo:CFd Tryz.prog 47 4 4:=⟨fdA Tryz.underlying47 rfl rfl ti_44.h rfl⟩
instance Jbp:CFd Tryz.prog 53 1 2:=⟨fdA Tryz.underlying53 rfl rfl ti_32.h rfl⟩
instance Jbq:CFd Tryz.prog 53 0 0:=⟨fdA Tryz.underlying53 rfl rfl ti_51.h rfl⟩
instance ti_49:CTy Tryz.prog 49 11 208 (.agg #[.slice none 0 0,.slice none 0 0,.int .i64 0,.int .i64 0,.string ⟨#[]⟩,.slice none 0 0,.slice none 0 0,.slice none 0 0,.slice none 0 0,.slice none 0 0,.int .i64 0]):=⟨tyI (by kernel_rfl)⟩
instance pl_49:CPl Tryz.prog 49 [(0,4),(4,5),(9,1),(10,1)]:=⟨⟨_,Tryz.underlying49,by kernel_rfl⟩⟩
theorem Qe9:Zr (Q7 (⟨(⟨[],[],0,0⟩:Q0),(⟨[],[],[],[],[]⟩:Qr),[],0⟩:Qs)) [.slice none 0 0,.slice none 0 0,.int .i64 0,.int .i64 0,.string ⟨#[]⟩,.slice none 0 0,.slice none 0 0,.slice none 0 0,.slice none 0 0,.slice none 0 0,.int .i64 0]:=Vf (Qn (c1:=[.slice none 0 0,.slice none 0 0,.int .i64 0,.int .i64 0]) Qlz (Qn (c1:=[.string ⟨#[]⟩,.slice none 0 0,.slice none 0 0,.slice none 0 0,.slice none 0 0]) Zm (Qn (c1:=[.slice none 0 0]) (J7 (k:=3)) (Qn (c1:=[.int .i64 0]) Vn (Kk)))))
instance ti_61:CTy Tryz.prog 61 5 104 (.agg #[.slice none 0 0,.bool false,.slice none 0 0,.slice none 0 0,.slice none 0 0]):=⟨tyI (by kernel_rfl)⟩
theorem Qit:Zr (Q5 (⟨[],(⟨(⟨false,[]⟩:Qf),[]⟩:Qb),[]⟩:Qw)) [.slice none 0 0,.bool false,.slice none 0 0,.slice none 0 0,.slice none 0 0]:=Vf (Qn (c1:=[.slice none 0 0]) (J7 (k:=14)) (Qn (c1:=[.bool false,.slice none 0 0,.slice none 0 0]) K0 (Qn (c1:=[.slice none 0 0]) (J7 (k:=3)) (Kk))))
instance:CZy Tryz.prog 61 (Q5 (⟨[],(⟨(⟨false,[]⟩:Qf),[]⟩:Qb),[]⟩:Qw)):=⟨_,_,_,ti_61.h,Qit⟩
instance sh_49:CSh Tryz.prog 49 true 11:=⟨shp Tryz.underlying49 rfl ti_49.h⟩
instance Jbr:CFd Tryz.prog 49 0 0:=⟨fdA Tryz.underlying49 rfl rfl ti_43.h rfl⟩
instance Jbs:CFd Tryz.prog 43 2 2:=⟨fdA Tryz.underlying43 rfl rfl ti_3.h rfl⟩
instance Jbt:CFd Tryz.prog 43 3 3:=⟨fdA Tryz.underlying43 rfl rfl ti_3.h rfl⟩
instance Jbu:CFd Tryz.prog 43 1 1:=⟨fdA Tryz.underlying43 rfl rfl ti_23.h rfl⟩
instance ti_41:CTy Tryz.prog 41 1 24 (.slice none 0 0):=⟨tyI (by kernel_rfl)⟩
instance Jbv:CFd Tryz.prog 43 0 0:=⟨fdA Tryz.underlying43 rfl rfl ti_41.h rfl⟩
instance sh_41:CSh Tryz.prog 41 false 1:=⟨shp Tryz.underlying41 rfl ti_41.h⟩
instance Jcg:CSh Tryz.prog 164 true 6:=⟨shp Tryz.underlying164 rfl Qoi.h⟩
instance:CZy Tryz.prog 164 (Kx (⟨0,0,0,(⟨(⟨false,[]⟩:Qf),[]⟩:Qb)⟩:Q2)):=⟨_,_,_,Qoi.h,Qly⟩
instance Q9v:CFd Tryz.prog 164 0 0:=⟨fdA Tryz.underlying164 rfl rfl ti_3.h rfl⟩
instance Qq5:CTy Tryz.prog 350 3 24 (.agg #[.int .i64 0,.int .i64 0,.int .i64 0]):=⟨tyI (by kernel_rfl)⟩
theorem Qfa:Zr (Qjp (⟨0,0,0⟩:J6)) [.int .i64 0,.int .i64 0,.int .i64 0]:=Vf (Qn (c1:=[.int .i64 0]) Vn (Qn (c1:=[.int .i64 0]) Vn (Qn (c1:=[.int .i64 0]) Vn (Kk))))
instance:CZy Tryz.prog 350 (Qjp (⟨0,0,0⟩:J6)):=⟨_,_,_,Qq5.h,Qfa⟩
instance Q9w:CFd Tryz.prog 164 1 1:=⟨fdA Tryz.underlying164 rfl rfl ti_3.h rfl⟩
instance Q9x:CFd Tryz.prog 164 2 2:=⟨fdA Tryz.underlying164 rfl rfl ti_3.h rfl⟩
instance Qzc:CPl Tryz.prog 350 [(0,1),(1,1),(2,1)]:=⟨⟨_,Tryz.underlying350,by kernel_rfl⟩⟩
instance Jch:CSh Tryz.prog 350 true 3:=⟨shp Tryz.underlying350 rfl Qq5.h⟩
theorem Qzd:EqF Tryz.prog 2 350 (λx:J6=>.agg [i64 x.op,i64 x.a,i64 x.b]) Qar:=
 Qtw Tryz.underlying350 (by kernel_rfl) (Qfh rfl rfl sh_3.h (λ_=>rfl) (λ_=>rfl) (Qhf (λx:J6=>x.op) (Qjk (n:=0) Tryz.underlying3)) (Qfh rfl rfl sh_3.h (λ_=>rfl) (λ_=>rfl) (Qhf (λx:J6=>x.a) (Qjk (n:=0) Tryz.underlying3)) (Qfh rfl rfl sh_3.h (λ_=>rfl) (λ_=>rfl) (Qhf (λx:J6=>x.b) (Qjk (n:=0) Tryz.underlying3)) (Qy1))))
theorem Q3s:Tryz.prog.eqGuardType Tryz.prog.depth 350=false:=by kernel_rfl
instance Q9y:CFd Tryz.prog 164 3 3:=⟨fdA Tryz.underlying164 rfl rfl ti_53.h rfl⟩
instance Jbw:CFd Tryz.prog 49 1 4:=⟨fdA Tryz.underlying49 rfl rfl ti_47.h rfl⟩
instance Jbx:CFd Tryz.prog 49 2 9:=⟨fdA Tryz.underlying49 rfl rfl ti_44.h rfl⟩
instance pl_61:CPl Tryz.prog 61 [(0,1),(1,3),(4,1)]:=⟨⟨_,Tryz.underlying61,by kernel_rfl⟩⟩
instance sh_61:CSh Tryz.prog 61 true 5:=⟨shp Tryz.underlying61 rfl ti_61.h⟩
instance Jby:CFd Tryz.prog 61 1 1:=⟨fdA Tryz.underlying61 rfl rfl ti_53.h rfl⟩
instance Jbz:CFd Tryz.prog 61 2 4:=⟨fdA Tryz.underlying61 rfl rfl ti_44.h rfl⟩
instance Qq6:CTy Tryz.prog 183 4 96 (.agg #[.slice none 0 0,.slice none 0 0,.slice none 0 0,.slice none 0 0]):=⟨tyI (by kernel_rfl)⟩
theorem Ql0:Zr (Qj5 (⟨[],[],[],[]⟩:Z2)) [.slice none 0 0,.slice none 0 0,.slice none 0 0,.slice none 0 0]:=Vf (Qn (c1:=[.slice none 0 0]) (J7 (k:=1)) (Qn (c1:=[.slice none 0 0]) (J7 (k:=1)) (Qn (c1:=[.slice none 0 0]) (J7 (k:=3)) (Qn (c1:=[.slice none 0 0]) (J7 (k:=3)) (Kk)))))
instance:CZy Tryz.prog 183 (Qj5 (⟨[],[],[],[]⟩:Z2)):=⟨_,_,_,Qq6.h,Ql0⟩
instance Q3t:CPl Tryz.prog 183 [(0,1),(1,1),(2,1),(3,1)]:=⟨⟨_,Tryz.underlying183,by kernel_rfl⟩⟩
instance Jci:CSh Tryz.prog 183 true 4:=⟨shp Tryz.underlying183 rfl Qq6.h⟩
instance Jb0:CFd Tryz.prog 49 3 10:=⟨fdA Tryz.underlying49 rfl rfl ti_3.h rfl⟩
instance Q8k:CTy Tryz.prog 298 3 24 (.agg #[.int .i64 0,.int .i64 0,.int .i64 0]):=⟨tyI (by kernel_rfl)⟩
instance Q8l:CPl Tryz.prog 298 [(0,2),(2,1)]:=⟨⟨_,Tryz.underlying298,by kernel_rfl⟩⟩
theorem Qvl:Zr (Qkt (⟨0,0⟩:Zh)) [.int .i64 0,.int .i64 0]:=Vf (Qn (c1:=[.int .i64 0]) Vn (Qn (c1:=[.int .i64 0]) Vn (Kk)))
theorem Qvm:Zr (Qp (⟨(⟨0,0⟩:Zh),0⟩:Qo)) [.int .i64 0,.int .i64 0,.int .i64 0]:=Vf (Qn (c1:=[.int .i64 0,.int .i64 0]) Qvl (Qn (c1:=[.int .i64 0]) Vn (Kk)))
instance Q8m:CTy Tryz.prog 247 23 448 (.agg #[.slice none 0 0,.slice none 0 0,.int .i64 0,.int .i64 0,.string ⟨#[]⟩,.slice none 0 0,.slice none 0 0,.slice none 0 0,.slice none 0 0,.slice none 0 0,.int .i64 0,.bool false,.slice none 0 0,.slice none 0 0,.bool false,.slice none 0 0,.slice none 0 0,.slice none 0 0,.pointer none,.slice none 0 0,.slice none 0 0,.slice none 0 0,.slice none 0 0]):=⟨tyI (by kernel_rfl)⟩
instance Q8n:CPl Tryz.prog 247 [(0,11),(11,3),(14,3),(17,1),(18,1),(19,4)]:=⟨⟨_,Tryz.underlying247,by kernel_rfl⟩⟩
instance Q9z:CFd Tryz.prog 247 0 0:=⟨fdA Tryz.underlying247 rfl rfl ti_49.h rfl⟩
instance Q90:CFd Tryz.prog 247 3 17:=⟨fdA Tryz.underlying247 rfl rfl ti_44.h rfl⟩
instance Q91:CFd Tryz.prog 247 5 19:=⟨fdA Tryz.underlying247 rfl rfl Qq6.h rfl⟩
instance Q92:CFd Tryz.prog 183 1 1:=⟨fdA Tryz.underlying183 rfl rfl ti_45.h rfl⟩
instance Q93:CFd Tryz.prog 247 2 14:=⟨fdA Tryz.underlying247 rfl rfl ti_53.h rfl⟩
instance Qze:CTy Tryz.prog 244 1 8 (.pointer none):=⟨tyI (by kernel_rfl)⟩
instance Q94:CFd Tryz.prog 247 4 18:=⟨fdA Tryz.underlying247 rfl rfl Qze.h rfl⟩
instance Jcj:CSh Tryz.prog 244 false 1:=⟨shp Tryz.underlying244 rfl Qze.h⟩
instance Q8o:CTy Tryz.prog 296 2 16 (.agg #[.int .i64 0,.int .i64 0]):=⟨tyI (by kernel_rfl)⟩
instance Q95:CFd Tryz.prog 298 0 0:=⟨fdA Tryz.underlying298 rfl rfl Q8o.h rfl⟩
instance Q96:CFd Tryz.prog 296 0 0:=⟨fdA Tryz.underlying296 rfl rfl ti_3.h rfl⟩
instance Q97:CFd Tryz.prog 296 1 1:=⟨fdA Tryz.underlying296 rfl rfl ti_3.h rfl⟩
instance Q98:CFd Tryz.prog 298 1 2:=⟨fdA Tryz.underlying298 rfl rfl ti_3.h rfl⟩
instance Q99:CFd Tryz.prog 247 1 11:=⟨fdA Tryz.underlying247 rfl rfl ti_53.h rfl⟩
instance Qt4:CTy Tryz.prog 335 5 104 (.agg #[.bool false,.slice none 0 0,.slice none 0 0,.slice none 0 0,.slice none 0 0]):=⟨tyI (by kernel_rfl)⟩
theorem Qku:Zr (Qb7 (⟨(⟨(⟨false,[]⟩:Qf),[]⟩:Qb),[],[]⟩:Ye)) [.bool false,.slice none 0 0,.slice none 0 0,.slice none 0 0,.slice none 0 0]:=Vf (Qn (c1:=[.bool false,.slice none 0 0,.slice none 0 0]) K0 (Qn (c1:=[.slice none 0 0]) (J7 (k:=3)) (Qn (c1:=[.slice none 0 0]) (J7 (k:=3)) (Kk))))
instance:CZy Tryz.prog 335 (Qb7 (⟨(⟨(⟨false,[]⟩:Qf),[]⟩:Qb),[],[]⟩:Ye)):=⟨_,_,_,Qt4.h,Qku⟩
instance Q3u:CPl Tryz.prog 335 [(0,3),(3,1),(4,1)]:=⟨⟨_,Tryz.underlying335,by kernel_rfl⟩⟩
instance Jck:CSh Tryz.prog 335 true 5:=⟨shp Tryz.underlying335 rfl Qt4.h⟩
instance Jaa:CFd Tryz.prog 335 0 0:=⟨fdA Tryz.underlying335 rfl rfl ti_53.h rfl⟩
instance Jab:CFd Tryz.prog 335 1 3:=⟨fdA Tryz.underlying335 rfl rfl ti_44.h rfl⟩
instance Jac:CFd Tryz.prog 335 2 4:=⟨fdA Tryz.underlying335 rfl rfl ti_44.h rfl⟩
instance Qzf:CTy Tryz.prog 393 1 8 (.agg #[.pointer none]):=⟨tyI (by kernel_rfl)⟩
instance Q8p:CPl Tryz.prog 393 [(0,1)]:=⟨⟨_,Tryz.underlying393,by kernel_rfl⟩⟩
instance Qzg:CTy Tryz.prog 395 1 8 (.agg #[.pointer none]):=⟨tyI (by kernel_rfl)⟩
instance Q8q:CPl Tryz.prog 395 [(0,1)]:=⟨⟨_,Tryz.underlying395,by kernel_rfl⟩⟩
instance Jcl:CSh Tryz.prog 395 true 1:=⟨shp Tryz.underlying395 rfl Qzg.h⟩
instance Q3v:CTy Tryz.prog 397 5 104 (.agg #[.bool false,.slice none 0 0,.slice none 0 0,.slice none 0 0,.slice none 0 0]):=⟨tyI (by kernel_rfl)⟩
instance Q8r:CPl Tryz.prog 397 [(0,3),(3,1),(4,1)]:=⟨⟨_,Tryz.underlying397,by kernel_rfl⟩⟩
theorem Ql1:Zr (Xh (⟨(⟨(⟨false,[]⟩:Qf),[]⟩:Qb),[],[]⟩:Xe)) [.bool false,.slice none 0 0,.slice none 0 0,.slice none 0 0,.slice none 0 0]:=Vf (Qn (c1:=[.bool false,.slice none 0 0,.slice none 0 0]) K0 (Qn (c1:=[.slice none 0 0]) (J7 (k:=3)) (Qn (c1:=[.slice none 0 0]) (J7 (k:=3)) (Kk))))
instance Jad:CFd Tryz.prog 397 1 3:=⟨fdA Tryz.underlying397 rfl rfl ti_44.h rfl⟩
instance Jae:CFd Tryz.prog 397 2 4:=⟨fdA Tryz.underlying397 rfl rfl ti_44.h rfl⟩
instance Jcm:CSh Tryz.prog 397 true 5:=⟨shp Tryz.underlying397 rfl Q3v.h⟩
instance Jaf:CFd Tryz.prog 395 0 0:=⟨fdA Tryz.underlying395 rfl rfl Qzf.h rfl⟩
instance Qkf:CSh Tryz.prog 393 true 1:=⟨shp Tryz.underlying393 rfl Qzf.h⟩
theorem Q2c:MethF Tryz.prog 393 "Neg" 372:=⟨by kernel_rfl,_,Tryz.underlying393⟩
theorem Q2d:MethF Tryz.prog 393 "Pow" 374:=⟨by kernel_rfl,_,Tryz.underlying393⟩
theorem Q2e:MethF Tryz.prog 393 "Add" 369:=⟨by kernel_rfl,_,Tryz.underlying393⟩
theorem Q2f:MethF Tryz.prog 393 "Sub" 376:=⟨by kernel_rfl,_,Tryz.underlying393⟩
theorem Q2g:MethF Tryz.prog 393 "Mul" 371:=⟨by kernel_rfl,_,Tryz.underlying393⟩
theorem Q2h:MethF Tryz.prog 393 "Quo" 375:=⟨by kernel_rfl,_,Tryz.underlying393⟩
theorem Q3w:MethF Tryz.prog 393 "Of" 373:=⟨by kernel_rfl,_,Tryz.underlying393⟩
instance Jag:CFd Tryz.prog 397 0 0:=⟨fdA Tryz.underlying397 rfl rfl ti_53.h rfl⟩
theorem Q01:MethF Tryz.prog 393 "Fits" 370:=⟨by kernel_rfl,_,Tryz.underlying393⟩
instance Jah:CFd Tryz.prog 393 0 0:=⟨fdA Tryz.underlying393 rfl rfl Qze.h rfl⟩
instance Jb1:CFd Tryz.prog 63 2 2:=⟨fdA Tryz.underlying63 rfl rfl ti_3.h rfl⟩
instance Jai:CFd Tryz.prog 183 0 0:=⟨fdA Tryz.underlying183 rfl rfl ti_45.h rfl⟩
instance Jaj:CFd Tryz.prog 183 2 2:=⟨fdA Tryz.underlying183 rfl rfl ti_44.h rfl⟩
instance Jak:CFd Tryz.prog 183 3 3:=⟨fdA Tryz.underlying183 rfl rfl ti_44.h rfl⟩
instance Jb2:CFd Tryz.prog 63 1 1:=⟨fdA Tryz.underlying63 rfl rfl ti_3.h rfl⟩
instance ti_59:CTy Tryz.prog 59 1 24 (.slice none 0 0):=⟨tyI (by kernel_rfl)⟩
instance Jb3:CFd Tryz.prog 61 0 0:=⟨fdA Tryz.underlying61 rfl rfl ti_59.h rfl⟩
instance:CUn Tryz.prog 59 (.slice 82):=⟨Tryz.underlying59⟩
instance sh_59:CSh Tryz.prog 59 false 1:=⟨shp Tryz.underlying59 rfl ti_59.h⟩
instance ti_82:CTy Tryz.prog 82 14 256 (.agg #[.bool false,.slice none 0 0,.slice none 0 0,.bool false,.slice none 0 0,.slice none 0 0,.bool false,.slice none 0 0,.slice none 0 0,.bool false,.slice none 0 0,.slice none 0 0,.slice none 0 0,.bool false]):=⟨tyI (by kernel_rfl)⟩
instance pl_82:CPl Tryz.prog 82 [(0,3),(3,3),(6,3),(9,3),(12,1),(13,1)]:=⟨⟨_,Tryz.underlying82,by kernel_rfl⟩⟩
theorem Qj6:Zr (Ju (⟨(⟨(⟨false,[]⟩:Qf),[]⟩:Qb),(⟨(⟨false,[]⟩:Qf),[]⟩:Qb),(⟨(⟨false,[]⟩:Qf),[]⟩:Qb),(⟨(⟨false,[]⟩:Qf),[]⟩:Qb),[],false⟩:Qy)) [.bool false,.slice none 0 0,.slice none 0 0,.bool false,.slice none 0 0,.slice none 0 0,.bool false,.slice none 0 0,.slice none 0 0,.bool false,.slice none 0 0,.slice none 0 0,.slice none 0 0,.bool false]:=Vf (Qn (c1:=[.bool false,.slice none 0 0,.slice none 0 0]) K0 (Qn (c1:=[.bool false,.slice none 0 0,.slice none 0 0]) K0 (Qn (c1:=[.bool false,.slice none 0 0,.slice none 0 0]) K0 (Qn (c1:=[.bool false,.slice none 0 0,.slice none 0 0]) K0 (Qn (c1:=[.slice none 0 0]) (J7 (k:=3)) (Qn (c1:=[.bool false]) zr_bl (Kk)))))))
instance Q8s:CTy Tryz.prog 368 9 9 (.agg #[.int .u8 0,.int .u8 0,.int .u8 0,.int .u8 0,.int .u8 0,.int .u8 0,.int .u8 0,.int .u8 0,.int .u8 0]):=⟨tyI (by kernel_rfl)⟩
theorem Q5f:Zr (Qlk (⟨0,0,0,0,0,0,0,0,0⟩:Qhn)) [.int .u8 0,.int .u8 0,.int .u8 0,.int .u8 0,.int .u8 0,.int .u8 0,.int .u8 0,.int .u8 0,.int .u8 0]:=Vf (Qn (c1:=[.int .u8 0]) zr_u8 (Qn (c1:=[.int .u8 0]) zr_u8 (Qn (c1:=[.int .u8 0]) zr_u8 (Qn (c1:=[.int .u8 0]) zr_u8 (Qn (c1:=[.int .u8 0]) zr_u8 (Qn (c1:=[.int .u8 0]) zr_u8 (Qn (c1:=[.int .u8 0]) zr_u8 (Qn (c1:=[.int .u8 0]) zr_u8 (Qn (c1:=[.int .u8 0]) zr_u8 (Kk))))))))))
instance:CZy Tryz.prog 368 (Qlk (⟨0,0,0,0,0,0,0,0,0⟩:Qhn)):=⟨_,_,_,Q8s.h,Q5f⟩
instance ti_5:CTy Tryz.prog 5 1 1 (.int .u8 0):=⟨tyI (by kernel_rfl)⟩
instance:CUn Tryz.prog 368 (.array 9 5):=⟨Tryz.underlying368⟩
instance sh_5:CSh Tryz.prog 5 false 1:=⟨shp Tryz.underlying5 rfl ti_5.h⟩
theorem Qzh:∀ l:List Nat,l.length=9->(.agg (l.map u8):Ly)=Qlk (Qq2 l)
 | [a0,a1,a2,a3,a4,a5,a6,a7,a8],_=>rfl
 | [],h=>by simp at h
 | [_],h=>by simp at h
 | [_,_],h=>by simp at h
 | [_,_,_],h=>by simp at h
 | [_,_,_,_],h=>by simp at h
 | [_,_,_,_,_],h=>by simp at h
 | [_,_,_,_,_,_],h=>by simp at h
 | [_,_,_,_,_,_,_],h=>by simp at h
 | [_,_,_,_,_,_,_,_],h=>by simp at h
 | _::_::_::_::_::_::_::_::_::_::_,h=>by simp at h
instance:CUn Tryz.prog 283 (.slice 5):=⟨Tryz.underlying283⟩
instance Q8t:CTy Tryz.prog 285 2 32 (.agg #[.pointer none,.slice none 0 0]):=⟨tyI (by kernel_rfl)⟩
instance:CZy Tryz.prog 49 (Q7 (⟨(⟨[],[],0,0⟩:Q0),(⟨[],[],[],[],[]⟩:Qr),[],0⟩:Qs)):=⟨_,_,_,ti_49.h,Qe9⟩
instance Jb4:CFd Tryz.prog 25 2 2:=⟨fdA Tryz.underlying25 rfl rfl ti_3.h rfl⟩
instance Jb5:CFd Tryz.prog 25 3 3:=⟨fdA Tryz.underlying25 rfl rfl ti_3.h rfl⟩
instance Jcn:CSh Tryz.prog 232 true 6:=⟨shp Tryz.underlying232 rfl Q3o.h⟩
theorem Q3:Zr (Qc (⟨false,[],[]⟩:Qa)) [.bool false,.slice none 0 0,.slice none 0 0]:=Vf (Qn (c1:=[.bool false]) zr_bl (Qn (c1:=[.slice none 0 0]) (J7 (k:=1)) (Qn (c1:=[.slice none 0 0]) (J7 (k:=1)) (Kk))))
theorem Qmp:Zr (Jt (⟨0,0,0,(⟨false,[],[]⟩:Qa)⟩:Jp)) [.int .i64 0,.int .i64 0,.int .i64 0,.bool false,.slice none 0 0,.slice none 0 0]:=Vf (Qn (c1:=[.int .i64 0]) Vn (Qn (c1:=[.int .i64 0]) Vn (Qn (c1:=[.int .i64 0]) Vn (Qn (c1:=[.bool false,.slice none 0 0,.slice none 0 0]) Q3 (Kk)))))
instance:CZy Tryz.prog 232 (Jt (⟨0,0,0,(⟨false,[],[]⟩:Qa)⟩:Jp)):=⟨_,_,_,Q3o.h,Qmp⟩
instance Jal:CFd Tryz.prog 232 0 0:=⟨fdA Tryz.underlying232 rfl rfl ti_3.h rfl⟩
instance Jam:CFd Tryz.prog 232 1 1:=⟨fdA Tryz.underlying232 rfl rfl ti_3.h rfl⟩
instance Jan:CFd Tryz.prog 232 2 2:=⟨fdA Tryz.underlying232 rfl rfl ti_3.h rfl⟩
instance Jb6:CFd Tryz.prog 34 0 0:=⟨fdA Tryz.underlying34 rfl rfl ti_4.h rfl⟩
theorem Qay:Zr (Jo (⟨(⟨false,[],[]⟩:Qa),(⟨false,[],[]⟩:Qa),(⟨false,[],[]⟩:Qa),(⟨false,[],[]⟩:Qa),[],false⟩:Qk)) [.bool false,.slice none 0 0,.slice none 0 0,.bool false,.slice none 0 0,.slice none 0 0,.bool false,.slice none 0 0,.slice none 0 0,.bool false,.slice none 0 0,.slice none 0 0,.slice none 0 0,.bool false]:=Vf (Qn (c1:=[.bool false,.slice none 0 0,.slice none 0 0]) Q3 (Qn (c1:=[.bool false,.slice none 0 0,.slice none 0 0]) Q3 (Qn (c1:=[.bool false,.slice none 0 0,.slice none 0 0]) Q3 (Qn (c1:=[.bool false,.slice none 0 0,.slice none 0 0]) Q3 (Qn (c1:=[.slice none 0 0]) (J7 (k:=3)) (Qn (c1:=[.bool false]) zr_bl (Kk)))))))
instance:CZy Tryz.prog 143 (Jo (⟨(⟨false,[],[]⟩:Qa),(⟨false,[],[]⟩:Qa),(⟨false,[],[]⟩:Qa),(⟨false,[],[]⟩:Qa),[],false⟩:Qk)):=⟨_,_,_,Qke.h,Qay⟩
instance Jao:CFd Tryz.prog 143 5 13:=⟨fdA Tryz.underlying143 rfl rfl ti_4.h rfl⟩
instance sh_82:CSh Tryz.prog 82 true 14:=⟨shp Tryz.underlying82 rfl ti_82.h⟩
instance:CZy Tryz.prog 82 (Ju (⟨(⟨(⟨false,[]⟩:Qf),[]⟩:Qb),(⟨(⟨false,[]⟩:Qf),[]⟩:Qb),(⟨(⟨false,[]⟩:Qf),[]⟩:Qb),(⟨(⟨false,[]⟩:Qf),[]⟩:Qb),[],false⟩:Qy)):=⟨_,_,_,ti_82.h,Qj6⟩
instance Jb7:CFd Tryz.prog 82 5 13:=⟨fdA Tryz.underlying82 rfl rfl ti_4.h rfl⟩
instance Jb8:CFd Tryz.prog 82 0 0:=⟨fdA Tryz.underlying82 rfl rfl ti_53.h rfl⟩
instance Jb9:CFd Tryz.prog 82 1 3:=⟨fdA Tryz.underlying82 rfl rfl ti_53.h rfl⟩
instance Jca:CFd Tryz.prog 82 2 6:=⟨fdA Tryz.underlying82 rfl rfl ti_53.h rfl⟩
instance Jcb:CFd Tryz.prog 82 3 9:=⟨fdA Tryz.underlying82 rfl rfl ti_53.h rfl⟩
instance Jcc:CFd Tryz.prog 82 4 12:=⟨fdA Tryz.underlying82 rfl rfl ti_44.h rfl⟩
theorem Qbf:Zr (Ql (⟨[],(⟨false,[],[]⟩:Qa),[]⟩:Qi)) [.slice none 0 0,.bool false,.slice none 0 0,.slice none 0 0,.slice none 0 0]:=Vf (Qn (c1:=[.slice none 0 0]) (J7 (k:=14)) (Qn (c1:=[.bool false,.slice none 0 0,.slice none 0 0]) Q3 (Qn (c1:=[.slice none 0 0]) (J7 (k:=3)) (Kk))))
instance:CZy Tryz.prog 70 (Ql (⟨[],(⟨false,[],[]⟩:Qa),[]⟩:Qi)):=⟨_,_,_,ti_70.h,Qbf⟩
instance:CZy Tryz.prog 34 (Qc (⟨false,[],[]⟩:Qa)):=⟨_,_,_,ti_34.h,Q3⟩
instance pl_34:CPl Tryz.prog 34 [(0,1),(1,1),(2,1)]:=⟨⟨_,Tryz.underlying34,by kernel_rfl⟩⟩
instance pl_70:CPl Tryz.prog 70 [(0,1),(1,3),(4,1)]:=⟨⟨_,Tryz.underlying70,by kernel_rfl⟩⟩
instance Qzi:CPl Tryz.prog 143 [(0,3),(3,3),(6,3),(9,3),(12,1),(13,1)]:=⟨⟨_,Tryz.underlying143,by kernel_rfl⟩⟩
instance Qbk:CTy Tryz.prog 258 3 32 (.agg #[.int .i64 0,.string ⟨#[]⟩,.int .i64 0]):=⟨tyI (by kernel_rfl)⟩
instance Q3x:CPl Tryz.prog 258 [(0,1),(1,1),(2,1)]:=⟨⟨_,Tryz.underlying258,by kernel_rfl⟩⟩
theorem Qch:Zr (Qm (⟨0,[],0⟩:Qh)) [.int .i64 0,.string ⟨#[]⟩,.int .i64 0]:=Vf (Qn (c1:=[.int .i64 0]) Vn (Qn (c1:=[.string ⟨#[]⟩]) Qfe (Qn (c1:=[.int .i64 0]) Vn (Kk))))
instance Jap:CFd Tryz.prog 258 1 1:=⟨fdA Tryz.underlying258 rfl rfl ti_9.h rfl⟩
instance:CUn Tryz.prog 307 (.slice 258):=⟨Tryz.underlying307⟩
instance Jaq:CFd Tryz.prog 258 2 2:=⟨fdA Tryz.underlying258 rfl rfl ti_3.h rfl⟩
instance Jar:CFd Tryz.prog 258 0 0:=⟨fdA Tryz.underlying258 rfl rfl ti_3.h rfl⟩
instance Jco:CSh Tryz.prog 258 true 3:=⟨shp Tryz.underlying258 rfl Qbk.h⟩
instance:CZy Tryz.prog 258 (Qm (⟨0,[],0⟩:Qh)):=⟨_,_,_,Qbk.h,Qch⟩
instance Qiu:CTy Tryz.prog 216 2 32 (.agg #[.bool false,.slice none 0 0]):=⟨tyI (by kernel_rfl)⟩
instance Ql2:CPl Tryz.prog 216 [(0,1),(1,1)]:=⟨⟨_,Tryz.underlying216,by kernel_rfl⟩⟩
theorem Vc:Zr (Vm (⟨false,[]⟩:Q1)) [.bool false,.slice none 0 0]:=Vf (Qn (c1:=[.bool false]) zr_bl (Qn (c1:=[.slice none 0 0]) (J7 (k:=1)) (Kk)))
instance:CZy Tryz.prog 216 (Vm (⟨false,[]⟩:Q1)):=⟨_,_,_,Qiu.h,Vc⟩
instance Jcp:CSh Tryz.prog 216 true 2:=⟨shp Tryz.underlying216 rfl Qiu.h⟩
instance Jas:CFd Tryz.prog 216 0 0:=⟨fdA Tryz.underlying216 rfl rfl ti_4.h rfl⟩
instance Jat:CFd Tryz.prog 216 1 1:=⟨fdA Tryz.underlying216 rfl rfl ti_32.h rfl⟩
instance ti_72:CTy Tryz.prog 72 4 32 (.agg #[.int .i64 0,.int .i64 0,.int .i64 0,.int .i64 0]):=⟨tyI (by kernel_rfl)⟩
theorem Qq7:Zr (Qjq (⟨0,0,0,0⟩:Qb4)) [.int .i64 0,.int .i64 0,.int .i64 0,.int .i64 0]:=Vf (Qn (c1:=[.int .i64 0]) Vn (Qn (c1:=[.int .i64 0]) Vn (Qn (c1:=[.int .i64 0]) Vn (Qn (c1:=[.int .i64 0]) Vn (Kk)))))
instance:CZy Tryz.prog 72 (Qjq (⟨0,0,0,0⟩:Qb4)):=⟨_,_,_,ti_72.h,Qq7⟩
instance Ql3:CTy Tryz.prog 137 4 96 (.agg #[.slice none 0 0,.slice none 0 0,.slice none 0 0,.slice none 0 0]):=⟨tyI (by kernel_rfl)⟩
theorem Y5:Zr (X5 (⟨[],[],[],[]⟩:Q6)) [.slice none 0 0,.slice none 0 0,.slice none 0 0,.slice none 0 0]:=Vf (Qn (c1:=[.slice none 0 0]) (J7 (k:=1)) (Qn (c1:=[.slice none 0 0]) (J7 (k:=1)) (Qn (c1:=[.slice none 0 0]) (J7 (k:=3)) (Qn (c1:=[.slice none 0 0]) (J7 (k:=3)) (Kk)))))
instance:CZy Tryz.prog 137 (X5 (⟨[],[],[],[]⟩:Q6)):=⟨_,_,_,Ql3.h,Y5⟩
instance Ql4:CTy Tryz.prog 138 3 24 (.agg #[.int .i64 0,.int .i64 0,.int .i64 0]):=⟨tyI (by kernel_rfl)⟩
theorem Qhr:Zr (Qjr (⟨0,0,0⟩:X8)) [.int .i64 0,.int .i64 0,.int .i64 0]:=Vf (Qn (c1:=[.int .i64 0]) Vn (Qn (c1:=[.int .i64 0]) Vn (Qn (c1:=[.int .i64 0]) Vn (Kk))))
instance:CZy Tryz.prog 138 (Qjr (⟨0,0,0⟩:X8)):=⟨_,_,_,Ql4.h,Qhr⟩
instance Qq8:CPl Tryz.prog 137 [(0,1),(1,1),(2,1),(3,1)]:=⟨⟨_,Tryz.underlying137,by kernel_rfl⟩⟩
instance Jcq:CSh Tryz.prog 137 true 4:=⟨shp Tryz.underlying137 rfl Ql3.h⟩
instance Jau:CFd Tryz.prog 137 1 1:=⟨fdA Tryz.underlying137 rfl rfl ti_27.h rfl⟩
instance:CUn Tryz.prog 138 (.array 3 3):=⟨Tryz.underlying138⟩
instance Jcr:CSh Tryz.prog 138 true 3:=⟨shp Tryz.underlying138 rfl Ql4.h⟩
instance Qzj:CTy Tryz.prog 210 5 104 (.agg #[.bool false,.slice none 0 0,.slice none 0 0,.slice none 0 0,.slice none 0 0]):=⟨tyI (by kernel_rfl)⟩
theorem Qfz:Zr (Xi (⟨(⟨false,[],[]⟩:Qa),[],[]⟩:Wg)) [.bool false,.slice none 0 0,.slice none 0 0,.slice none 0 0,.slice none 0 0]:=Vf (Qn (c1:=[.bool false,.slice none 0 0,.slice none 0 0]) Q3 (Qn (c1:=[.slice none 0 0]) (J7 (k:=3)) (Qn (c1:=[.slice none 0 0]) (J7 (k:=3)) (Kk))))
instance:CZy Tryz.prog 210 (Xi (⟨(⟨false,[],[]⟩:Qa),[],[]⟩:Wg)):=⟨_,_,_,Qzj.h,Qfz⟩
instance Q8u:CPl Tryz.prog 210 [(0,3),(3,1),(4,1)]:=⟨⟨_,Tryz.underlying210,by kernel_rfl⟩⟩
instance Jcs:CSh Tryz.prog 210 true 5:=⟨shp Tryz.underlying210 rfl Qzj.h⟩
instance Jav:CFd Tryz.prog 210 0 0:=⟨fdA Tryz.underlying210 rfl rfl ti_34.h rfl⟩
instance Jaw:CFd Tryz.prog 210 1 3:=⟨fdA Tryz.underlying210 rfl rfl ti_26.h rfl⟩
instance Jax:CFd Tryz.prog 210 2 4:=⟨fdA Tryz.underlying210 rfl rfl ti_26.h rfl⟩
instance Jay:CFd Tryz.prog 137 0 0:=⟨fdA Tryz.underlying137 rfl rfl ti_27.h rfl⟩
instance Jaz:CFd Tryz.prog 137 2 2:=⟨fdA Tryz.underlying137 rfl rfl ti_26.h rfl⟩
instance Ja0:CFd Tryz.prog 137 3 3:=⟨fdA Tryz.underlying137 rfl rfl ti_26.h rfl⟩
instance:CUn Tryz.prog 72 (.array 4 3):=⟨Tryz.underlying72⟩
instance sh_72:CSh Tryz.prog 72 true 4:=⟨shp Tryz.underlying72 rfl ti_72.h⟩
end Go.Proofs.YtlihkcaoachkdaaGreatDoor
