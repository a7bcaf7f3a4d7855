import Derived.Test.YthbndkiddockmaaGreatDoorMod
import Derived.Test.YthbndkiddockmaaGreatDoorSC
import Derived.Test.YthbndkiddockmaaGreatDoorBld
import Derived.Test.YthbndkiddockmaaGreatDoorLib
import Derived.Test.YthbndkiddockmaaGreatDoorChecked
set_option maxRecDepth 100000
set_option maxHeartbeats 4000000
namespace Go.Proofs.YthbndkiddockmaaGreatDoor
open Go Go.RowKit
theorem ownK:ownKnob Tryz.prog.godebug=none:=by kernel_rfl
theorem laidOutK:laidOutB Tryz.prog=true:=by kernel_rfl
abbrev Qav(xs:List Nat):Ly:=sli 1 (xs.map u32)
abbrev Qb(x:Qa):Ly:=.agg [bl x.Neg,Qav x.N,Qav x.D]
theorem Qkt{a0_ a1_ a2_}:IF (.agg [bl a0_,sli 1 a1_,sli 1 a2_]):=Qhr (Vb if_bl (Vb Qap (Vb Qap (Qeu))))
abbrev Jo(x:Ja):Ly:=.agg [i64 x.Op,i64 x.A,i64 x.B,Qb x.N]
abbrev Qb7(xs:List Ja):Ly:=sli 6 (xs.map Jo)
abbrev Qrc(xs:List Int):Ly:=sli 1 (xs.map i64)
abbrev Jc(x:Q6):Ly:=.agg [Qb7 x.Code,Qrc x.Outs,i64 x.Dim,i64 x.Par]
abbrev Qh(xs:List Qa):Ly:=sli 3 (xs.map Qb)
abbrev Xo(xs:List (List Qa)):Ly:=sli 1 (xs.map Qh)
abbrev Q5(x:Q4):Ly:=.agg [str x.Name,Qh x.C,Xo x.A,Qh x.B,Qh x.E]
abbrev Qu(x:Qm):Ly:=.agg [Jc x.Tape,Q5 x.Scheme,Qh x.P,i64 x.Bits]
theorem Qi8{a0_0_ a0_1_ a0_2_ a0_3_ a1_0_ a1_1_ a1_2_ a1_3_ a1_4_ a2_ a3_}:IF (.agg [.agg [sli 6 a0_0_,sli 1 a0_1_,i64 a0_2_,i64 a0_3_],.agg [str a1_0_,sli 3 a1_1_,sli 1 a1_2_,sli 3 a1_3_,sli 3 a1_4_],sli 3 a2_,i64 a3_]):=Qhr (Vb (Qhr (Vb Qap (Vb Qap (Vb Qb0 (Vb Qb0 (Qeu)))))) (Vb (Qhr (Vb Qnr (Vb Qap (Vb Qap (Vb Qap (Vb Qap (Qeu))))))) (Vb Qap (Vb Qb0 (Qeu)))))
abbrev Kf(x:J2):Ly:=.agg [Qb x.T,Qb x.H,Qh x.Y]
abbrev Q1(x:Qf):Ly:=.agg [bl x.Neg,Qav x.Abs]
abbrev Qd(x:Qc):Ly:=.agg [Q1 x.Num,Qav x.Den]
theorem Jr{a0_0_ a0_1_ a1_}:IF (.agg [.agg [bl a0_0_,sli 1 a0_1_],sli 1 a1_]):=Qhr (Vb (Qhr (Vb if_bl (Vb Qap (Qeu)))) (Vb Qap (Qeu)))
abbrev Kz(x:Q0):Ly:=.agg [i64 x.Op,i64 x.A,i64 x.B,Qd x.N]
abbrev Qwy(xs:List Q0):Ly:=sli 6 (xs.map Kz)
abbrev Kl(x:Qx):Ly:=.agg [Qwy x.Code,Qrc x.Outs,i64 x.Dim,i64 x.Par]
abbrev Qi(xs:List Qc):Ly:=sli 3 (xs.map Qd)
abbrev Qib(xs:List (List Qc)):Ly:=sli 1 (xs.map Qi)
abbrev Jh(x:Qr):Ly:=.agg [str x.Name,Qi x.C,Qib x.A,Qi x.B,Qi x.E]
abbrev Qjr(x:Qgf):Ly:=.agg [str x.a0,str x.a1,str x.a2,str x.a3,str x.a4,str x.a5]
abbrev Qn(x:Qe):Ly:=.agg [i64 x.Kind,i64 x.Step,i64 x.Stage,i64 x.At]
abbrev Ju(x:Jg):Ly:=.agg [str x.rest,i64 x.at_,bl x.over]
abbrev Qo1(x:Qf0):Ly:=.agg [i64 x.Kind,str x.Text,i64 x.At]
abbrev Qz(x:Qs):Ly:=.agg [Kl x.Tape,Jh x.Scheme,Qi x.P,i64 x.Bits]
abbrev Zl(x:J5):Ly:=.agg [Qd x.T,Qd x.Want,Qd x.H,Qd x.Err,Qi x.Y,bl x.Ok]
abbrev Qx7(xs:List J5):Ly:=sli 14 (xs.map Zl)
abbrev Jw(x:Jd):Ly:=.agg [Qx7 x.Tries,Qd x.T,Qi x.Y]
abbrev Qi9(x:J4):Ly:=.agg [i64 x.op,i64 x.a,i64 x.b]
abbrev Qjs(x:Z3):Ly:=.agg [Qib x.Ys,Qib x.Ks,Qi x.Next,Qi x.Err]
abbrev Qke(x:Zi):Ly:=.agg [i64 x.Seen,i64 x.Peak]
abbrev Qo(x:Ql):Ly:=.agg [Qke x.Count,i64 x.limit]
theorem Kc{a0_0_ a0_1_ a1_}:IF (.agg [.agg [i64 a0_0_,i64 a0_1_],i64 a1_]):=Qhr (Vb (Qhr (Vb Qb0 (Vb Qb0 (Qeu)))) (Vb Qb0 (Qeu)))
abbrev Qb8(x:Yi):Ly:=.agg [Qd x.T,Qi x.Y,Qi x.P]
abbrev Xi(x:Xd):Ly:=.agg [Qd x.T,Qi x.Y,Qi x.P]
abbrev Qk2(x:Qhb):Ly:=.agg [u8 x.a0,u8 x.a1,u8 x.a2,u8 x.a3,u8 x.a4,u8 x.a5,u8 x.a6,u8 x.a7,u8 x.a8]
abbrev Qj(x:Qg):Ly:=.agg [i64 x.Kind,str x.Text,i64 x.At]
abbrev Vn(x:Qy):Ly:=.agg [bl x.Neg,Qav x.Abs]
abbrev J0(x:Qv):Ly:=.agg [Qb x.T,Qb x.Want,Qb x.H,Qb x.Err,Qh x.Y,bl x.Ok]
abbrev Ql5(xs:List Qv):Ly:=sli 14 (xs.map J0)
abbrev Q8(x:Qt):Ly:=.agg [Ql5 x.Tries,Qb x.T,Qh x.Y]
abbrev Qja(x:Qb2):Ly:=.agg [i64 x.a0,i64 x.a1,i64 x.a2,i64 x.a3]
abbrev X6(x:Q7):Ly:=.agg [Xo x.Ys,Xo x.Ks,Qh x.Next,Qh x.Err]
abbrev Qjb(x:X8):Ly:=.agg [i64 x.a0,i64 x.a1,i64 x.a2]
abbrev Xj(x:Wj):Ly:=.agg [Qb x.T,Qh x.Y,Qh x.P]
instance ti_31:CTy Tryz.prog 31 11 208 (.agg #[.slice none 0 0,.slice none 0 0,.int .i64 0,.int .i64 0,.string ⟨#[]⟩,.slice none 0 0,.slice none 0 0,.slice none 0 0,.slice none 0 0,.slice none 0 0,.int .i64 0]):=⟨tyI (by kernel_rfl)⟩
instance sh_31:CSh Tryz.prog 31 true 11:=⟨shp Tryz.underlying31 rfl ti_31.h⟩
instance ti_25:CTy Tryz.prog 25 4 64 (.agg #[.slice none 0 0,.slice none 0 0,.int .i64 0,.int .i64 0]):=⟨tyI (by kernel_rfl)⟩
instance Q85:CFd Tryz.prog 31 0 0:=⟨fdA Tryz.underlying31 rfl rfl ti_25.h rfl⟩
instance sh_25:CSh Tryz.prog 25 true 4:=⟨shp Tryz.underlying25 rfl ti_25.h⟩
instance ti_22:CTy Tryz.prog 22 1 24 (.slice none 0 0):=⟨tyI (by kernel_rfl)⟩
instance Q86:CFd Tryz.prog 25 0 0:=⟨fdA Tryz.underlying25 rfl rfl ti_22.h rfl⟩
instance:CUn Tryz.prog 22 (.slice 144):=⟨Tryz.underlying22⟩
instance sh_22:CSh Tryz.prog 22 false 1:=⟨shp Tryz.underlying22 rfl ti_22.h⟩
instance Q2f:CTy Tryz.prog 144 6 80 (.agg #[.int .i64 0,.int .i64 0,.int .i64 0,.bool false,.slice none 0 0,.slice none 0 0]):=⟨tyI (by kernel_rfl)⟩
instance ti_34:CTy Tryz.prog 34 3 56 (.agg #[.bool false,.slice none 0 0,.slice none 0 0]):=⟨tyI (by kernel_rfl)⟩
instance Q7m:CFd Tryz.prog 144 3 3:=⟨fdA Tryz.underlying144 rfl rfl ti_34.h rfl⟩
instance sh_34:CSh Tryz.prog 34 true 3:=⟨shp Tryz.underlying34 rfl ti_34.h⟩
instance ti_32:CTy Tryz.prog 32 1 24 (.slice none 0 0):=⟨tyI (by kernel_rfl)⟩
instance Q87:CFd Tryz.prog 34 1 1:=⟨fdA Tryz.underlying34 rfl rfl ti_32.h rfl⟩
instance:CUn Tryz.prog 32 (.slice 129):=⟨Tryz.underlying32⟩
instance sh_32:CSh Tryz.prog 32 false 1:=⟨shp Tryz.underlying32 rfl ti_32.h⟩
instance Q88:CFd Tryz.prog 34 2 2:=⟨fdA Tryz.underlying34 rfl rfl ti_32.h rfl⟩
instance ti_23:CTy Tryz.prog 23 1 24 (.slice none 0 0):=⟨tyI (by kernel_rfl)⟩
instance Q89:CFd Tryz.prog 25 1 1:=⟨fdA Tryz.underlying25 rfl rfl ti_23.h rfl⟩
instance:CUn Tryz.prog 23 (.slice 3):=⟨Tryz.underlying23⟩
instance sh_23:CSh Tryz.prog 23 false 1:=⟨shp Tryz.underlying23 rfl ti_23.h⟩
instance ti_29:CTy Tryz.prog 29 5 112 (.agg #[.string ⟨#[]⟩,.slice none 0 0,.slice none 0 0,.slice none 0 0,.slice none 0 0]):=⟨tyI (by kernel_rfl)⟩
instance Q9a:CFd Tryz.prog 31 1 4:=⟨fdA Tryz.underlying31 rfl rfl ti_29.h rfl⟩
instance sh_29:CSh Tryz.prog 29 true 5:=⟨shp Tryz.underlying29 rfl ti_29.h⟩
instance ti_9:CTy Tryz.prog 9 1 16 (.string ⟨#[]⟩):=⟨tyI (by kernel_rfl)⟩
instance Q9b:CFd Tryz.prog 29 0 0:=⟨fdA Tryz.underlying29 rfl rfl ti_9.h rfl⟩
instance:CUn Tryz.prog 9 (.string):=⟨Tryz.underlying9⟩
instance sh_9:CSh Tryz.prog 9 false 1:=⟨shp Tryz.underlying9 rfl ti_9.h⟩
instance ti_27:CTy Tryz.prog 27 1 24 (.slice none 0 0):=⟨tyI (by kernel_rfl)⟩
instance Q9c:CFd Tryz.prog 29 2 2:=⟨fdA Tryz.underlying29 rfl rfl ti_27.h rfl⟩
instance:CUn Tryz.prog 27 (.slice 26):=⟨Tryz.underlying27⟩
instance sh_27:CSh Tryz.prog 27 false 1:=⟨shp Tryz.underlying27 rfl ti_27.h⟩
instance ti_26:CTy Tryz.prog 26 1 24 (.slice none 0 0):=⟨tyI (by kernel_rfl)⟩
instance Q9d:CFd Tryz.prog 29 3 3:=⟨fdA Tryz.underlying29 rfl rfl ti_26.h rfl⟩
instance:CUn Tryz.prog 26 (.slice 34):=⟨Tryz.underlying26⟩
instance sh_26:CSh Tryz.prog 26 false 1:=⟨shp Tryz.underlying26 rfl ti_26.h⟩
instance Q9e:CFd Tryz.prog 29 1 1:=⟨fdA Tryz.underlying29 rfl rfl ti_26.h rfl⟩
instance Q9f:CFd Tryz.prog 29 4 4:=⟨fdA Tryz.underlying29 rfl rfl ti_26.h rfl⟩
instance Q9g:CFd Tryz.prog 31 2 9:=⟨fdA Tryz.underlying31 rfl rfl ti_26.h rfl⟩
instance ti_36:CTy Tryz.prog 36 7 136 (.agg #[.bool false,.slice none 0 0,.slice none 0 0,.bool false,.slice none 0 0,.slice none 0 0,.slice none 0 0]):=⟨tyI (by kernel_rfl)⟩
instance sh_36:CSh Tryz.prog 36 true 7:=⟨shp Tryz.underlying36 rfl ti_36.h⟩
instance Q9h:CFd Tryz.prog 36 0 0:=⟨fdA Tryz.underlying36 rfl rfl ti_34.h rfl⟩
instance Q9i:CFd Tryz.prog 36 1 3:=⟨fdA Tryz.underlying36 rfl rfl ti_34.h rfl⟩
instance Q9j:CFd Tryz.prog 36 2 6:=⟨fdA Tryz.underlying36 rfl rfl ti_26.h rfl⟩
instance ti_3:CTy Tryz.prog 3 1 8 (.int .i64 0):=⟨tyI (by kernel_rfl)⟩
instance Q9k:CFd Tryz.prog 31 3 10:=⟨fdA Tryz.underlying31 rfl rfl ti_3.h rfl⟩
instance:CUn Tryz.prog 3 (.int .i64):=⟨Tryz.underlying3⟩
instance sh_3:CSh Tryz.prog 3 false 1:=⟨shp Tryz.underlying3 rfl ti_3.h⟩
instance ti_95:CTy Tryz.prog 95 6 80 (.agg #[.int .i64 0,.int .i64 0,.int .i64 0,.bool false,.slice none 0 0,.slice none 0 0]):=⟨tyI (by kernel_rfl)⟩
instance pl_95:CPl Tryz.prog 95 [(0,1),(1,1),(2,1),(3,3)]:=⟨⟨_,Tryz.underlying95,by kernel_rfl⟩⟩
theorem Wn:Zr (Q1 (⟨false,[]⟩:Qf)) [.bool false,.slice none 0 0]:=Vg (Qk (c1:=[.bool false]) zr_bl (Qk (c1:=[.slice none 0 0]) (Kd (k:=1)) (Km)))
theorem K2:Zr (Qd (⟨(⟨false,[]⟩:Qf),[]⟩:Qc)) [.bool false,.slice none 0 0,.slice none 0 0]:=Vg (Qk (c1:=[.bool false,.slice none 0 0]) Wn (Qk (c1:=[.slice none 0 0]) (Kd (k:=1)) (Km)))
theorem Qlf:Zr (Kz (⟨0,0,0,(⟨(⟨false,[]⟩:Qf),[]⟩:Qc)⟩:Q0)) [.int .i64 0,.int .i64 0,.int .i64 0,.bool false,.slice none 0 0,.slice none 0 0]:=Vg (Qk (c1:=[.int .i64 0]) Vo (Qk (c1:=[.int .i64 0]) Vo (Qk (c1:=[.int .i64 0]) Vo (Qk (c1:=[.bool false,.slice none 0 0,.slice none 0 0]) K2 (Km)))))
instance:CUn Tryz.prog 53 (.slice 95):=⟨Tryz.underlying53⟩
instance ti_55:CTy Tryz.prog 55 4 64 (.agg #[.slice none 0 0,.slice none 0 0,.int .i64 0,.int .i64 0]):=⟨tyI (by kernel_rfl)⟩
instance pl_55:CPl Tryz.prog 55 [(0,1),(1,1),(2,1),(3,1)]:=⟨⟨_,Tryz.underlying55,by kernel_rfl⟩⟩
theorem Qlg:Zr (Kl (⟨[],[],0,0⟩:Qx)) [.slice none 0 0,.slice none 0 0,.int .i64 0,.int .i64 0]:=Vg (Qk (c1:=[.slice none 0 0]) (Kd (k:=6)) (Qk (c1:=[.slice none 0 0]) (Kd (k:=1)) (Qk (c1:=[.int .i64 0]) Vo (Qk (c1:=[.int .i64 0]) Vo (Km)))))
instance:CZy Tryz.prog 55 (Kl (⟨[],[],0,0⟩:Qx)):=⟨_,_,_,ti_55.h,Qlg⟩
instance sh_55:CSh Tryz.prog 55 true 4:=⟨shp Tryz.underlying55 rfl ti_55.h⟩
instance ti_58:CTy Tryz.prog 58 5 112 (.agg #[.string ⟨#[]⟩,.slice none 0 0,.slice none 0 0,.slice none 0 0,.slice none 0 0]):=⟨tyI (by kernel_rfl)⟩
theorem Zo:Zr (Jh (⟨[],[],[],[],[]⟩:Qr)) [.string ⟨#[]⟩,.slice none 0 0,.slice none 0 0,.slice none 0 0,.slice none 0 0]:=Vg (Qk (c1:=[.string ⟨#[]⟩]) Qff (Qk (c1:=[.slice none 0 0]) (Kd (k:=3)) (Qk (c1:=[.slice none 0 0]) (Kd (k:=1)) (Qk (c1:=[.slice none 0 0]) (Kd (k:=3)) (Qk (c1:=[.slice none 0 0]) (Kd (k:=3)) (Km))))))
instance:CZy Tryz.prog 58 (Jh (⟨[],[],[],[],[]⟩:Qr)):=⟨_,_,_,ti_58.h,Zo⟩
instance Qx8:CTy Tryz.prog 145 6 96 (.agg #[.string ⟨#[]⟩,.string ⟨#[]⟩,.string ⟨#[]⟩,.string ⟨#[]⟩,.string ⟨#[]⟩,.string ⟨#[]⟩]):=⟨tyI (by kernel_rfl)⟩
theorem Qqh:Zr (Qjr (⟨[],[],[],[],[],[]⟩:Qgf)) [.string ⟨#[]⟩,.string ⟨#[]⟩,.string ⟨#[]⟩,.string ⟨#[]⟩,.string ⟨#[]⟩,.string ⟨#[]⟩]:=Vg (Qk (c1:=[.string ⟨#[]⟩]) Qff (Qk (c1:=[.string ⟨#[]⟩]) Qff (Qk (c1:=[.string ⟨#[]⟩]) Qff (Qk (c1:=[.string ⟨#[]⟩]) Qff (Qk (c1:=[.string ⟨#[]⟩]) Qff (Qk (c1:=[.string ⟨#[]⟩]) Qff (Km)))))))
instance:CZy Tryz.prog 145 (Qjr (⟨[],[],[],[],[],[]⟩:Qgf)):=⟨_,_,_,Qx8.h,Qqh⟩
instance:CUn Tryz.prog 145 (.array 6 9):=⟨Tryz.underlying145⟩
instance Jai:CSh Tryz.prog 145 true 6:=⟨shp Tryz.underlying145 rfl Qx8.h⟩
instance ti_50:CTy Tryz.prog 50 4 32 (.agg #[.int .i64 0,.int .i64 0,.int .i64 0,.int .i64 0]):=⟨tyI (by kernel_rfl)⟩
theorem Qq:Zr (Qn (⟨0,0,0,0⟩:Qe)) [.int .i64 0,.int .i64 0,.int .i64 0,.int .i64 0]:=Vg (Qk (c1:=[.int .i64 0]) Vo (Qk (c1:=[.int .i64 0]) Vo (Qk (c1:=[.int .i64 0]) Vo (Qk (c1:=[.int .i64 0]) Vo (Km)))))
instance:CZy Tryz.prog 50 (Qn (⟨0,0,0,0⟩:Qe)):=⟨_,_,_,ti_50.h,Qq⟩
instance pl_58:CPl Tryz.prog 58 [(0,1),(1,1),(2,1),(3,1),(4,1)]:=⟨⟨_,Tryz.underlying58,by kernel_rfl⟩⟩
instance pl_50:CPl Tryz.prog 50 [(0,1),(1,1),(2,1),(3,1)]:=⟨⟨_,Tryz.underlying50,by kernel_rfl⟩⟩
instance sh_58:CSh Tryz.prog 58 true 5:=⟨shp Tryz.underlying58 rfl ti_58.h⟩
instance sh_50:CSh Tryz.prog 50 true 4:=⟨shp Tryz.underlying50 rfl ti_50.h⟩
instance Q6r:CTy Tryz.prog 251 3 32 (.agg #[.string ⟨#[]⟩,.int .i64 0,.bool false]):=⟨tyI (by kernel_rfl)⟩
instance Q6s:CPl Tryz.prog 251 [(0,1),(1,1),(2,1)]:=⟨⟨_,Tryz.underlying251,by kernel_rfl⟩⟩
theorem Qsi:Zr (Ju (⟨[],0,false⟩:Jg)) [.string ⟨#[]⟩,.int .i64 0,.bool false]:=Vg (Qk (c1:=[.string ⟨#[]⟩]) Qff (Qk (c1:=[.int .i64 0]) Vo (Qk (c1:=[.bool false]) zr_bl (Km))))
instance ti_4:CTy Tryz.prog 4 1 1 (.bool false):=⟨tyI (by kernel_rfl)⟩
instance Q7n:CFd Tryz.prog 251 2 2:=⟨fdA Tryz.underlying251 rfl rfl ti_4.h rfl⟩
instance:CUn Tryz.prog 4 (.bool):=⟨Tryz.underlying4⟩
instance sh_4:CSh Tryz.prog 4 false 1:=⟨shp Tryz.underlying4 rfl ti_4.h⟩
instance Q7o:CFd Tryz.prog 251 1 1:=⟨fdA Tryz.underlying251 rfl rfl ti_3.h rfl⟩
theorem fol:Tryz.prog.follows .mixedOrders=true:=by kernel_rfl
instance Q7p:CFd Tryz.prog 251 0 0:=⟨fdA Tryz.underlying251 rfl rfl ti_9.h rfl⟩
instance Q9l:CFd Tryz.prog 58 0 0:=⟨fdA Tryz.underlying58 rfl rfl ti_9.h rfl⟩
instance Q2g:CTy Tryz.prog 255 3 32 (.agg #[.int .i64 0,.string ⟨#[]⟩,.int .i64 0]):=⟨tyI (by kernel_rfl)⟩
instance Q2h:CPl Tryz.prog 255 [(0,1),(1,1),(2,1)]:=⟨⟨_,Tryz.underlying255,by kernel_rfl⟩⟩
theorem Qrx:Zr (Qo1 (⟨0,[],0⟩:Qf0)) [.int .i64 0,.string ⟨#[]⟩,.int .i64 0]:=Vg (Qk (c1:=[.int .i64 0]) Vo (Qk (c1:=[.string ⟨#[]⟩]) Qff (Qk (c1:=[.int .i64 0]) Vo (Km))))
instance Q7q:CFd Tryz.prog 255 1 1:=⟨fdA Tryz.underlying255 rfl rfl ti_9.h rfl⟩
instance Q7r:CFd Tryz.prog 255 0 0:=⟨fdA Tryz.underlying255 rfl rfl ti_3.h rfl⟩
instance:CUn Tryz.prog 21 (.int .i32):=⟨Tryz.underlying21⟩
instance:CUn Tryz.prog 5 (.int .u8):=⟨Tryz.underlying5⟩
instance ti_45:CTy Tryz.prog 45 3 56 (.agg #[.bool false,.slice none 0 0,.slice none 0 0]):=⟨tyI (by kernel_rfl)⟩
instance:CZy Tryz.prog 45 (Qd (⟨(⟨false,[]⟩:Qf),[]⟩:Qc)):=⟨_,_,_,ti_45.h,K2⟩
instance ti_43:CTy Tryz.prog 43 2 32 (.agg #[.bool false,.slice none 0 0]):=⟨tyI (by kernel_rfl)⟩
instance:CZy Tryz.prog 43 (Q1 (⟨false,[]⟩:Qf)):=⟨_,_,_,ti_43.h,Wn⟩
instance:CUn Tryz.prog 129 (.int .u32):=⟨Tryz.underlying129⟩
instance Kt:CTy Tryz.prog 129 1 4 (.int .u32 0):=⟨tyI (by kernel_rfl)⟩
instance Jaj:CSh Tryz.prog 129 false 1:=⟨shp Tryz.underlying129 rfl Kt.h⟩
instance:CUn Tryz.prog 135 (.int .u64):=⟨Tryz.underlying135⟩
theorem K7:EqF Tryz.prog 2 50 (fun x:Qe=>.agg [i64 x.Kind,i64 x.Step,i64 x.Stage,i64 x.At]) Q3:=
 Qs8 Tryz.underlying50 (by kernel_rfl) (Qfi rfl rfl sh_3.h (fun _=>rfl) (fun _=>rfl) (Qg4 (fun x:Qe=>x.Kind) (Qi3 (n:=0) Tryz.underlying3)) (Qfi rfl rfl sh_3.h (fun _=>rfl) (fun _=>rfl) (Qg4 (fun x:Qe=>x.Step) (Qi3 (n:=0) Tryz.underlying3)) (Qfi rfl rfl sh_3.h (fun _=>rfl) (fun _=>rfl) (Qg4 (fun x:Qe=>x.Stage) (Qi3 (n:=0) Tryz.underlying3)) (Qfi rfl rfl sh_3.h (fun _=>rfl) (fun _=>rfl) (Qg4 (fun x:Qe=>x.At) (Qi3 (n:=0) Tryz.underlying3)) (Qxy)))))
theorem eg_50:Tryz.prog.eqGuardType Tryz.prog.depth 50=false:=by kernel_rfl
instance Q9m:CFd Tryz.prog 50 3 3:=⟨fdA Tryz.underlying50 rfl rfl ti_3.h rfl⟩
instance pl_43:CPl Tryz.prog 43 [(0,1),(1,1)]:=⟨⟨_,Tryz.underlying43,by kernel_rfl⟩⟩
instance sh_43:CSh Tryz.prog 43 true 2:=⟨shp Tryz.underlying43 rfl ti_43.h⟩
instance pl_45:CPl Tryz.prog 45 [(0,2),(2,1)]:=⟨⟨_,Tryz.underlying45,by kernel_rfl⟩⟩
instance sh_45:CSh Tryz.prog 45 true 3:=⟨shp Tryz.underlying45 rfl ti_45.h⟩
instance Q9n:CFd Tryz.prog 43 1 1:=⟨fdA Tryz.underlying43 rfl rfl ti_32.h rfl⟩
instance Q9o:CFd Tryz.prog 43 0 0:=⟨fdA Tryz.underlying43 rfl rfl ti_4.h rfl⟩
instance:CUn Tryz.prog 280 (.slice 32):=⟨Tryz.underlying280⟩
instance:CUn Tryz.prog 151 (.slice 9):=⟨Tryz.underlying151⟩
instance:CUn Tryz.prog 46 (.slice 45):=⟨Tryz.underlying46⟩
instance ti_46:CTy Tryz.prog 46 1 24 (.slice none 0 0):=⟨tyI (by kernel_rfl)⟩
instance Q9p:CFd Tryz.prog 58 1 1:=⟨fdA Tryz.underlying58 rfl rfl ti_46.h rfl⟩
instance sh_46:CSh Tryz.prog 46 false 1:=⟨shp Tryz.underlying46 rfl ti_46.h⟩
instance ti_56:CTy Tryz.prog 56 1 24 (.slice none 0 0):=⟨tyI (by kernel_rfl)⟩
instance Q9q:CFd Tryz.prog 58 2 2:=⟨fdA Tryz.underlying58 rfl rfl ti_56.h rfl⟩
instance:CUn Tryz.prog 56 (.slice 46):=⟨Tryz.underlying56⟩
instance sh_56:CSh Tryz.prog 56 false 1:=⟨shp Tryz.underlying56 rfl ti_56.h⟩
instance Q9r:CFd Tryz.prog 58 3 3:=⟨fdA Tryz.underlying58 rfl rfl ti_46.h rfl⟩
instance Q9s:CFd Tryz.prog 58 4 4:=⟨fdA Tryz.underlying58 rfl rfl ti_46.h rfl⟩
instance Q9t:CFd Tryz.prog 45 1 2:=⟨fdA Tryz.underlying45 rfl rfl ti_32.h rfl⟩
instance Q9u:CFd Tryz.prog 45 0 0:=⟨fdA Tryz.underlying45 rfl rfl ti_43.h rfl⟩
instance ti_60:CTy Tryz.prog 60 11 208 (.agg #[.slice none 0 0,.slice none 0 0,.int .i64 0,.int .i64 0,.string ⟨#[]⟩,.slice none 0 0,.slice none 0 0,.slice none 0 0,.slice none 0 0,.slice none 0 0,.int .i64 0]):=⟨tyI (by kernel_rfl)⟩
instance pl_60:CPl Tryz.prog 60 [(0,4),(4,5),(9,1),(10,1)]:=⟨⟨_,Tryz.underlying60,by kernel_rfl⟩⟩
theorem Qe9:Zr (Qz (⟨(⟨[],[],0,0⟩:Qx),(⟨[],[],[],[],[]⟩:Qr),[],0⟩:Qs)) [.slice none 0 0,.slice none 0 0,.int .i64 0,.int .i64 0,.string ⟨#[]⟩,.slice none 0 0,.slice none 0 0,.slice none 0 0,.slice none 0 0,.slice none 0 0,.int .i64 0]:=Vg (Qk (c1:=[.slice none 0 0,.slice none 0 0,.int .i64 0,.int .i64 0]) Qlg (Qk (c1:=[.string ⟨#[]⟩,.slice none 0 0,.slice none 0 0,.slice none 0 0,.slice none 0 0]) Zo (Qk (c1:=[.slice none 0 0]) (Kd (k:=3)) (Qk (c1:=[.int .i64 0]) Vo (Km)))))
instance ti_48:CTy Tryz.prog 48 5 104 (.agg #[.slice none 0 0,.bool false,.slice none 0 0,.slice none 0 0,.slice none 0 0]):=⟨tyI (by kernel_rfl)⟩
theorem Qbb:Zr (Jw (⟨[],(⟨(⟨false,[]⟩:Qf),[]⟩:Qc),[]⟩:Jd)) [.slice none 0 0,.bool false,.slice none 0 0,.slice none 0 0,.slice none 0 0]:=Vg (Qk (c1:=[.slice none 0 0]) (Kd (k:=14)) (Qk (c1:=[.bool false,.slice none 0 0,.slice none 0 0]) K2 (Qk (c1:=[.slice none 0 0]) (Kd (k:=3)) (Km))))
instance:CZy Tryz.prog 48 (Jw (⟨[],(⟨(⟨false,[]⟩:Qf),[]⟩:Qc),[]⟩:Jd)):=⟨_,_,_,ti_48.h,Qbb⟩
instance sh_60:CSh Tryz.prog 60 true 11:=⟨shp Tryz.underlying60 rfl ti_60.h⟩
instance Q9v:CFd Tryz.prog 60 0 0:=⟨fdA Tryz.underlying60 rfl rfl ti_55.h rfl⟩
instance Q9w:CFd Tryz.prog 55 2 2:=⟨fdA Tryz.underlying55 rfl rfl ti_3.h rfl⟩
instance Q9x:CFd Tryz.prog 55 3 3:=⟨fdA Tryz.underlying55 rfl rfl ti_3.h rfl⟩
instance Q9y:CFd Tryz.prog 55 1 1:=⟨fdA Tryz.underlying55 rfl rfl ti_23.h rfl⟩
instance ti_53:CTy Tryz.prog 53 1 24 (.slice none 0 0):=⟨tyI (by kernel_rfl)⟩
instance Q9z:CFd Tryz.prog 55 0 0:=⟨fdA Tryz.underlying55 rfl rfl ti_53.h rfl⟩
instance sh_53:CSh Tryz.prog 53 false 1:=⟨shp Tryz.underlying53 rfl ti_53.h⟩
instance sh_95:CSh Tryz.prog 95 true 6:=⟨shp Tryz.underlying95 rfl ti_95.h⟩
instance:CZy Tryz.prog 95 (Kz (⟨0,0,0,(⟨(⟨false,[]⟩:Qf),[]⟩:Qc)⟩:Q0)):=⟨_,_,_,ti_95.h,Qlf⟩
instance Q90:CFd Tryz.prog 95 0 0:=⟨fdA Tryz.underlying95 rfl rfl ti_3.h rfl⟩
instance Qqi:CTy Tryz.prog 316 3 24 (.agg #[.int .i64 0,.int .i64 0,.int .i64 0]):=⟨tyI (by kernel_rfl)⟩
theorem Qfa:Zr (Qi9 (⟨0,0,0⟩:J4)) [.int .i64 0,.int .i64 0,.int .i64 0]:=Vg (Qk (c1:=[.int .i64 0]) Vo (Qk (c1:=[.int .i64 0]) Vo (Qk (c1:=[.int .i64 0]) Vo (Km))))
instance:CZy Tryz.prog 316 (Qi9 (⟨0,0,0⟩:J4)):=⟨_,_,_,Qqi.h,Qfa⟩
instance Q91:CFd Tryz.prog 95 1 1:=⟨fdA Tryz.underlying95 rfl rfl ti_3.h rfl⟩
instance Q92:CFd Tryz.prog 95 2 2:=⟨fdA Tryz.underlying95 rfl rfl ti_3.h rfl⟩
instance Qx9:CPl Tryz.prog 316 [(0,1),(1,1),(2,1)]:=⟨⟨_,Tryz.underlying316,by kernel_rfl⟩⟩
instance Jak:CSh Tryz.prog 316 true 3:=⟨shp Tryz.underlying316 rfl Qqi.h⟩
theorem Qya:EqF Tryz.prog 2 316 (fun x:J4=>.agg [i64 x.op,i64 x.a,i64 x.b]) Qat:=
 Qs8 Tryz.underlying316 (by kernel_rfl) (Qfi rfl rfl sh_3.h (fun _=>rfl) (fun _=>rfl) (Qg4 (fun x:J4=>x.op) (Qi3 (n:=0) Tryz.underlying3)) (Qfi rfl rfl sh_3.h (fun _=>rfl) (fun _=>rfl) (Qg4 (fun x:J4=>x.a) (Qi3 (n:=0) Tryz.underlying3)) (Qfi rfl rfl sh_3.h (fun _=>rfl) (fun _=>rfl) (Qg4 (fun x:J4=>x.b) (Qi3 (n:=0) Tryz.underlying3)) (Qxy))))
theorem Q2i:Tryz.prog.eqGuardType Tryz.prog.depth 316=false:=by kernel_rfl
instance Q93:CFd Tryz.prog 95 3 3:=⟨fdA Tryz.underlying95 rfl rfl ti_45.h rfl⟩
instance Q94:CFd Tryz.prog 60 1 4:=⟨fdA Tryz.underlying60 rfl rfl ti_58.h rfl⟩
instance Q95:CFd Tryz.prog 60 2 9:=⟨fdA Tryz.underlying60 rfl rfl ti_46.h rfl⟩
instance pl_48:CPl Tryz.prog 48 [(0,1),(1,3),(4,1)]:=⟨⟨_,Tryz.underlying48,by kernel_rfl⟩⟩
instance sh_48:CSh Tryz.prog 48 true 5:=⟨shp Tryz.underlying48 rfl ti_48.h⟩
instance Q96:CFd Tryz.prog 48 1 1:=⟨fdA Tryz.underlying48 rfl rfl ti_45.h rfl⟩
instance Q97:CFd Tryz.prog 48 2 4:=⟨fdA Tryz.underlying48 rfl rfl ti_46.h rfl⟩
instance Qqj:CTy Tryz.prog 108 4 96 (.agg #[.slice none 0 0,.slice none 0 0,.slice none 0 0,.slice none 0 0]):=⟨tyI (by kernel_rfl)⟩
theorem Qlh:Zr (Qjs (⟨[],[],[],[]⟩:Z3)) [.slice none 0 0,.slice none 0 0,.slice none 0 0,.slice none 0 0]:=Vg (Qk (c1:=[.slice none 0 0]) (Kd (k:=1)) (Qk (c1:=[.slice none 0 0]) (Kd (k:=1)) (Qk (c1:=[.slice none 0 0]) (Kd (k:=3)) (Qk (c1:=[.slice none 0 0]) (Kd (k:=3)) (Km)))))
instance:CZy Tryz.prog 108 (Qjs (⟨[],[],[],[]⟩:Z3)):=⟨_,_,_,Qqj.h,Qlh⟩
instance Q2j:CPl Tryz.prog 108 [(0,1),(1,1),(2,1),(3,1)]:=⟨⟨_,Tryz.underlying108,by kernel_rfl⟩⟩
instance Jal:CSh Tryz.prog 108 true 4:=⟨shp Tryz.underlying108 rfl Qqj.h⟩
instance Q98:CFd Tryz.prog 60 3 10:=⟨fdA Tryz.underlying60 rfl rfl ti_3.h rfl⟩
instance Q6t:CTy Tryz.prog 226 3 24 (.agg #[.int .i64 0,.int .i64 0,.int .i64 0]):=⟨tyI (by kernel_rfl)⟩
instance Q6u:CPl Tryz.prog 226 [(0,2),(2,1)]:=⟨⟨_,Tryz.underlying226,by kernel_rfl⟩⟩
theorem Quq:Zr (Qke (⟨0,0⟩:Zi)) [.int .i64 0,.int .i64 0]:=Vg (Qk (c1:=[.int .i64 0]) Vo (Qk (c1:=[.int .i64 0]) Vo (Km)))
theorem Qur:Zr (Qo (⟨(⟨0,0⟩:Zi),0⟩:Ql)) [.int .i64 0,.int .i64 0,.int .i64 0]:=Vg (Qk (c1:=[.int .i64 0,.int .i64 0]) Quq (Qk (c1:=[.int .i64 0]) Vo (Km)))
instance Q6v:CTy Tryz.prog 164 23 448 (.agg #[.slice none 0 0,.slice none 0 0,.int .i64 0,.int .i64 0,.string ⟨#[]⟩,.slice none 0 0,.slice none 0 0,.slice none 0 0,.slice none 0 0,.slice none 0 0,.int .i64 0,.bool false,.slice none 0 0,.slice none 0 0,.bool false,.slice none 0 0,.slice none 0 0,.slice none 0 0,.pointer none,.slice none 0 0,.slice none 0 0,.slice none 0 0,.slice none 0 0]):=⟨tyI (by kernel_rfl)⟩
instance Q6w:CPl Tryz.prog 164 [(0,11),(11,3),(14,3),(17,1),(18,1),(19,4)]:=⟨⟨_,Tryz.underlying164,by kernel_rfl⟩⟩
instance Q7s:CFd Tryz.prog 164 0 0:=⟨fdA Tryz.underlying164 rfl rfl ti_60.h rfl⟩
instance Q7t:CFd Tryz.prog 164 3 17:=⟨fdA Tryz.underlying164 rfl rfl ti_46.h rfl⟩
instance Q7u:CFd Tryz.prog 164 5 19:=⟨fdA Tryz.underlying164 rfl rfl Qqj.h rfl⟩
instance Q7v:CFd Tryz.prog 108 1 1:=⟨fdA Tryz.underlying108 rfl rfl ti_56.h rfl⟩
instance Q7w:CFd Tryz.prog 164 2 14:=⟨fdA Tryz.underlying164 rfl rfl ti_45.h rfl⟩
instance Qyb:CTy Tryz.prog 161 1 8 (.pointer none):=⟨tyI (by kernel_rfl)⟩
instance Q7x:CFd Tryz.prog 164 4 18:=⟨fdA Tryz.underlying164 rfl rfl Qyb.h rfl⟩
instance Jam:CSh Tryz.prog 161 false 1:=⟨shp Tryz.underlying161 rfl Qyb.h⟩
instance Q6x:CTy Tryz.prog 224 2 16 (.agg #[.int .i64 0,.int .i64 0]):=⟨tyI (by kernel_rfl)⟩
instance Q7y:CFd Tryz.prog 226 0 0:=⟨fdA Tryz.underlying226 rfl rfl Q6x.h rfl⟩
instance Q7z:CFd Tryz.prog 224 0 0:=⟨fdA Tryz.underlying224 rfl rfl ti_3.h rfl⟩
instance Q70:CFd Tryz.prog 224 1 1:=⟨fdA Tryz.underlying224 rfl rfl ti_3.h rfl⟩
instance Q71:CFd Tryz.prog 226 1 2:=⟨fdA Tryz.underlying226 rfl rfl ti_3.h rfl⟩
instance Q72:CFd Tryz.prog 164 1 11:=⟨fdA Tryz.underlying164 rfl rfl ti_45.h rfl⟩
instance Qtg:CTy Tryz.prog 271 5 104 (.agg #[.bool false,.slice none 0 0,.slice none 0 0,.slice none 0 0,.slice none 0 0]):=⟨tyI (by kernel_rfl)⟩
theorem Qkf:Zr (Qb8 (⟨(⟨(⟨false,[]⟩:Qf),[]⟩:Qc),[],[]⟩:Yi)) [.bool false,.slice none 0 0,.slice none 0 0,.slice none 0 0,.slice none 0 0]:=Vg (Qk (c1:=[.bool false,.slice none 0 0,.slice none 0 0]) K2 (Qk (c1:=[.slice none 0 0]) (Kd (k:=3)) (Qk (c1:=[.slice none 0 0]) (Kd (k:=3)) (Km))))
instance:CZy Tryz.prog 271 (Qb8 (⟨(⟨(⟨false,[]⟩:Qf),[]⟩:Qc),[],[]⟩:Yi)):=⟨_,_,_,Qtg.h,Qkf⟩
instance Q2k:CPl Tryz.prog 271 [(0,3),(3,1),(4,1)]:=⟨⟨_,Tryz.underlying271,by kernel_rfl⟩⟩
instance Jan:CSh Tryz.prog 271 true 5:=⟨shp Tryz.underlying271 rfl Qtg.h⟩
instance Q73:CFd Tryz.prog 271 0 0:=⟨fdA Tryz.underlying271 rfl rfl ti_45.h rfl⟩
instance Q74:CFd Tryz.prog 271 1 3:=⟨fdA Tryz.underlying271 rfl rfl ti_46.h rfl⟩
instance Q75:CFd Tryz.prog 271 2 4:=⟨fdA Tryz.underlying271 rfl rfl ti_46.h rfl⟩
instance Qyc:CTy Tryz.prog 340 1 8 (.agg #[.pointer none]):=⟨tyI (by kernel_rfl)⟩
instance Q6y:CPl Tryz.prog 340 [(0,1)]:=⟨⟨_,Tryz.underlying340,by kernel_rfl⟩⟩
instance Qyd:CTy Tryz.prog 342 1 8 (.agg #[.pointer none]):=⟨tyI (by kernel_rfl)⟩
instance Q6z:CPl Tryz.prog 342 [(0,1)]:=⟨⟨_,Tryz.underlying342,by kernel_rfl⟩⟩
instance Jao:CSh Tryz.prog 342 true 1:=⟨shp Tryz.underlying342 rfl Qyd.h⟩
instance Q2l:CTy Tryz.prog 344 5 104 (.agg #[.bool false,.slice none 0 0,.slice none 0 0,.slice none 0 0,.slice none 0 0]):=⟨tyI (by kernel_rfl)⟩
instance Q60:CPl Tryz.prog 344 [(0,3),(3,1),(4,1)]:=⟨⟨_,Tryz.underlying344,by kernel_rfl⟩⟩
theorem Qli:Zr (Xi (⟨(⟨(⟨false,[]⟩:Qf),[]⟩:Qc),[],[]⟩:Xd)) [.bool false,.slice none 0 0,.slice none 0 0,.slice none 0 0,.slice none 0 0]:=Vg (Qk (c1:=[.bool false,.slice none 0 0,.slice none 0 0]) K2 (Qk (c1:=[.slice none 0 0]) (Kd (k:=3)) (Qk (c1:=[.slice none 0 0]) (Kd (k:=3)) (Km))))
instance Q76:CFd Tryz.prog 344 1 3:=⟨fdA Tryz.underlying344 rfl rfl ti_46.h rfl⟩
instance Q77:CFd Tryz.prog 344 2 4:=⟨fdA Tryz.underlying344 rfl rfl ti_46.h rfl⟩
instance Jap:CSh Tryz.prog 344 true 5:=⟨shp Tryz.underlying344 rfl Q2l.h⟩
instance Q78:CFd Tryz.prog 342 0 0:=⟨fdA Tryz.underlying342 rfl rfl Qyc.h rfl⟩
instance Qjz:CSh Tryz.prog 340 true 1:=⟨shp Tryz.underlying340 rfl Qyc.h⟩
theorem Q02:MethF Tryz.prog 340 "Neg" 320:=⟨by kernel_rfl,_,Tryz.underlying340⟩
theorem Q03:MethF Tryz.prog 340 "Pow" 322:=⟨by kernel_rfl,_,Tryz.underlying340⟩
theorem Q04:MethF Tryz.prog 340 "Add" 317:=⟨by kernel_rfl,_,Tryz.underlying340⟩
theorem Q05:MethF Tryz.prog 340 "Sub" 324:=⟨by kernel_rfl,_,Tryz.underlying340⟩
theorem Q06:MethF Tryz.prog 340 "Mul" 319:=⟨by kernel_rfl,_,Tryz.underlying340⟩
theorem Q07:MethF Tryz.prog 340 "Quo" 323:=⟨by kernel_rfl,_,Tryz.underlying340⟩
theorem Q2m:MethF Tryz.prog 340 "Of" 321:=⟨by kernel_rfl,_,Tryz.underlying340⟩
instance Q79:CFd Tryz.prog 344 0 0:=⟨fdA Tryz.underlying344 rfl rfl ti_45.h rfl⟩
theorem Qzv:MethF Tryz.prog 340 "Fits" 318:=⟨by kernel_rfl,_,Tryz.underlying340⟩
instance Q8a:CFd Tryz.prog 340 0 0:=⟨fdA Tryz.underlying340 rfl rfl Qyb.h rfl⟩
instance Q99:CFd Tryz.prog 50 2 2:=⟨fdA Tryz.underlying50 rfl rfl ti_3.h rfl⟩
instance Q8b:CFd Tryz.prog 108 0 0:=⟨fdA Tryz.underlying108 rfl rfl ti_56.h rfl⟩
instance Q8c:CFd Tryz.prog 108 2 2:=⟨fdA Tryz.underlying108 rfl rfl ti_46.h rfl⟩
instance Q8d:CFd Tryz.prog 108 3 3:=⟨fdA Tryz.underlying108 rfl rfl ti_46.h rfl⟩
instance Jaa:CFd Tryz.prog 50 1 1:=⟨fdA Tryz.underlying50 rfl rfl ti_3.h rfl⟩
instance ti_41:CTy Tryz.prog 41 1 24 (.slice none 0 0):=⟨tyI (by kernel_rfl)⟩
instance Jab:CFd Tryz.prog 48 0 0:=⟨fdA Tryz.underlying48 rfl rfl ti_41.h rfl⟩
instance:CUn Tryz.prog 41 (.slice 113):=⟨Tryz.underlying41⟩
instance sh_41:CSh Tryz.prog 41 false 1:=⟨shp Tryz.underlying41 rfl ti_41.h⟩
instance Qnu:CTy Tryz.prog 113 14 256 (.agg #[.bool false,.slice none 0 0,.slice none 0 0,.bool false,.slice none 0 0,.slice none 0 0,.bool false,.slice none 0 0,.slice none 0 0,.bool false,.slice none 0 0,.slice none 0 0,.slice none 0 0,.bool false]):=⟨tyI (by kernel_rfl)⟩
instance Q2n:CPl Tryz.prog 113 [(0,3),(3,3),(6,3),(9,3),(12,1),(13,1)]:=⟨⟨_,Tryz.underlying113,by kernel_rfl⟩⟩
theorem Qna:Zr (Zl (⟨(⟨(⟨false,[]⟩:Qf),[]⟩:Qc),(⟨(⟨false,[]⟩:Qf),[]⟩:Qc),(⟨(⟨false,[]⟩:Qf),[]⟩:Qc),(⟨(⟨false,[]⟩:Qf),[]⟩:Qc),[],false⟩:J5)) [.bool false,.slice none 0 0,.slice none 0 0,.bool false,.slice none 0 0,.slice none 0 0,.bool false,.slice none 0 0,.slice none 0 0,.bool false,.slice none 0 0,.slice none 0 0,.slice none 0 0,.bool false]:=Vg (Qk (c1:=[.bool false,.slice none 0 0,.slice none 0 0]) K2 (Qk (c1:=[.bool false,.slice none 0 0,.slice none 0 0]) K2 (Qk (c1:=[.bool false,.slice none 0 0,.slice none 0 0]) K2 (Qk (c1:=[.bool false,.slice none 0 0,.slice none 0 0]) K2 (Qk (c1:=[.slice none 0 0]) (Kd (k:=3)) (Qk (c1:=[.bool false]) zr_bl (Km)))))))
instance Q61:CTy Tryz.prog 304 9 9 (.agg #[.int .u8 0,.int .u8 0,.int .u8 0,.int .u8 0,.int .u8 0,.int .u8 0,.int .u8 0,.int .u8 0,.int .u8 0]):=⟨tyI (by kernel_rfl)⟩
theorem Q3z:Zr (Qk2 (⟨0,0,0,0,0,0,0,0,0⟩:Qhb)) [.int .u8 0,.int .u8 0,.int .u8 0,.int .u8 0,.int .u8 0,.int .u8 0,.int .u8 0,.int .u8 0,.int .u8 0]:=Vg (Qk (c1:=[.int .u8 0]) zr_u8 (Qk (c1:=[.int .u8 0]) zr_u8 (Qk (c1:=[.int .u8 0]) zr_u8 (Qk (c1:=[.int .u8 0]) zr_u8 (Qk (c1:=[.int .u8 0]) zr_u8 (Qk (c1:=[.int .u8 0]) zr_u8 (Qk (c1:=[.int .u8 0]) zr_u8 (Qk (c1:=[.int .u8 0]) zr_u8 (Qk (c1:=[.int .u8 0]) zr_u8 (Km))))))))))
instance:CZy Tryz.prog 304 (Qk2 (⟨0,0,0,0,0,0,0,0,0⟩:Qhb)):=⟨_,_,_,Q61.h,Q3z⟩
instance ti_5:CTy Tryz.prog 5 1 1 (.int .u8 0):=⟨tyI (by kernel_rfl)⟩
instance:CUn Tryz.prog 304 (.array 9 5):=⟨Tryz.underlying304⟩
instance sh_5:CSh Tryz.prog 5 false 1:=⟨shp Tryz.underlying5 rfl ti_5.h⟩
theorem Qye:∀ l:List Nat,l.length=9->(.agg (l.map u8):Ly)=Qk2 (Qqf l)
 | [a0,a1,a2,a3,a4,a5,a6,a7,a8],_=>rfl
 | [],h=>by simp at h
 | [_],h=>by simp at h
 | [_,_],h=>by simp at h
 | [_,_,_],h=>by simp at h
 | [_,_,_,_],h=>by simp at h
 | [_,_,_,_,_],h=>by simp at h
 | [_,_,_,_,_,_],h=>by simp at h
 | [_,_,_,_,_,_,_],h=>by simp at h
 | [_,_,_,_,_,_,_,_],h=>by simp at h
 | _::_::_::_::_::_::_::_::_::_::_,h=>by simp at h
instance:CUn Tryz.prog 212 (.slice 5):=⟨Tryz.underlying212⟩
instance Q62:CTy Tryz.prog 214 2 32 (.agg #[.pointer none,.slice none 0 0]):=⟨tyI (by kernel_rfl)⟩
instance:CZy Tryz.prog 60 (Qz (⟨(⟨[],[],0,0⟩:Qx),(⟨[],[],[],[],[]⟩:Qr),[],0⟩:Qs)):=⟨_,_,_,ti_60.h,Qe9⟩
instance Jac:CFd Tryz.prog 25 2 2:=⟨fdA Tryz.underlying25 rfl rfl ti_3.h rfl⟩
instance Jad:CFd Tryz.prog 25 3 3:=⟨fdA Tryz.underlying25 rfl rfl ti_3.h rfl⟩
instance Jaq:CSh Tryz.prog 144 true 6:=⟨shp Tryz.underlying144 rfl Q2f.h⟩
theorem Q2:Zr (Qb (⟨false,[],[]⟩:Qa)) [.bool false,.slice none 0 0,.slice none 0 0]:=Vg (Qk (c1:=[.bool false]) zr_bl (Qk (c1:=[.slice none 0 0]) (Kd (k:=1)) (Qk (c1:=[.slice none 0 0]) (Kd (k:=1)) (Km))))
theorem Ql6:Zr (Jo (⟨0,0,0,(⟨false,[],[]⟩:Qa)⟩:Ja)) [.int .i64 0,.int .i64 0,.int .i64 0,.bool false,.slice none 0 0,.slice none 0 0]:=Vg (Qk (c1:=[.int .i64 0]) Vo (Qk (c1:=[.int .i64 0]) Vo (Qk (c1:=[.int .i64 0]) Vo (Qk (c1:=[.bool false,.slice none 0 0,.slice none 0 0]) Q2 (Km)))))
instance:CZy Tryz.prog 144 (Jo (⟨0,0,0,(⟨false,[],[]⟩:Qa)⟩:Ja)):=⟨_,_,_,Q2f.h,Ql6⟩
instance Q8e:CFd Tryz.prog 144 0 0:=⟨fdA Tryz.underlying144 rfl rfl ti_3.h rfl⟩
instance Q8f:CFd Tryz.prog 144 1 1:=⟨fdA Tryz.underlying144 rfl rfl ti_3.h rfl⟩
instance Q8g:CFd Tryz.prog 144 2 2:=⟨fdA Tryz.underlying144 rfl rfl ti_3.h rfl⟩
instance Jae:CFd Tryz.prog 34 0 0:=⟨fdA Tryz.underlying34 rfl rfl ti_4.h rfl⟩
instance:CZy Tryz.prog 34 (Qb (⟨false,[],[]⟩:Qa)):=⟨_,_,_,ti_34.h,Q2⟩
instance pl_34:CPl Tryz.prog 34 [(0,1),(1,1),(2,1)]:=⟨⟨_,Tryz.underlying34,by kernel_rfl⟩⟩
instance Qbk:CTy Tryz.prog 237 3 32 (.agg #[.int .i64 0,.string ⟨#[]⟩,.int .i64 0]):=⟨tyI (by kernel_rfl)⟩
instance Q2o:CPl Tryz.prog 237 [(0,1),(1,1),(2,1)]:=⟨⟨_,Tryz.underlying237,by kernel_rfl⟩⟩
theorem Qci:Zr (Qj (⟨0,[],0⟩:Qg)) [.int .i64 0,.string ⟨#[]⟩,.int .i64 0]:=Vg (Qk (c1:=[.int .i64 0]) Vo (Qk (c1:=[.string ⟨#[]⟩]) Qff (Qk (c1:=[.int .i64 0]) Vo (Km))))
instance Q8h:CFd Tryz.prog 237 1 1:=⟨fdA Tryz.underlying237 rfl rfl ti_9.h rfl⟩
instance:CUn Tryz.prog 285 (.slice 237):=⟨Tryz.underlying285⟩
instance Q8i:CFd Tryz.prog 237 2 2:=⟨fdA Tryz.underlying237 rfl rfl ti_3.h rfl⟩
instance Q8j:CFd Tryz.prog 237 0 0:=⟨fdA Tryz.underlying237 rfl rfl ti_3.h rfl⟩
instance Jar:CSh Tryz.prog 237 true 3:=⟨shp Tryz.underlying237 rfl Qbk.h⟩
instance:CZy Tryz.prog 237 (Qj (⟨0,[],0⟩:Qg)):=⟨_,_,_,Qbk.h,Qci⟩
instance Qic:CTy Tryz.prog 189 2 32 (.agg #[.bool false,.slice none 0 0]):=⟨tyI (by kernel_rfl)⟩
instance Qlj:CPl Tryz.prog 189 [(0,1),(1,1)]:=⟨⟨_,Tryz.underlying189,by kernel_rfl⟩⟩
theorem Vd:Zr (Vn (⟨false,[]⟩:Qy)) [.bool false,.slice none 0 0]:=Vg (Qk (c1:=[.bool false]) zr_bl (Qk (c1:=[.slice none 0 0]) (Kd (k:=1)) (Km)))
instance:CZy Tryz.prog 189 (Vn (⟨false,[]⟩:Qy)):=⟨_,_,_,Qic.h,Vd⟩
instance Jas:CSh Tryz.prog 189 true 2:=⟨shp Tryz.underlying189 rfl Qic.h⟩
instance Q8k:CFd Tryz.prog 189 0 0:=⟨fdA Tryz.underlying189 rfl rfl ti_4.h rfl⟩
instance Q8l:CFd Tryz.prog 189 1 1:=⟨fdA Tryz.underlying189 rfl rfl ti_32.h rfl⟩
instance ti_68:CTy Tryz.prog 68 5 104 (.agg #[.slice none 0 0,.bool false,.slice none 0 0,.slice none 0 0,.slice none 0 0]):=⟨tyI (by kernel_rfl)⟩
instance pl_68:CPl Tryz.prog 68 [(0,1),(1,3),(4,1)]:=⟨⟨_,Tryz.underlying68,by kernel_rfl⟩⟩
theorem Zm:Zr (Q8 (⟨[],(⟨false,[],[]⟩:Qa),[]⟩:Qt)) [.slice none 0 0,.bool false,.slice none 0 0,.slice none 0 0,.slice none 0 0]:=Vg (Qk (c1:=[.slice none 0 0]) (Kd (k:=14)) (Qk (c1:=[.bool false,.slice none 0 0,.slice none 0 0]) Q2 (Qk (c1:=[.slice none 0 0]) (Kd (k:=3)) (Km))))
instance:CZy Tryz.prog 68 (Q8 (⟨[],(⟨false,[],[]⟩:Qa),[]⟩:Qt)):=⟨_,_,_,ti_68.h,Zm⟩
instance sh_68:CSh Tryz.prog 68 true 5:=⟨shp Tryz.underlying68 rfl ti_68.h⟩
instance Jat:CSh Tryz.prog 113 true 14:=⟨shp Tryz.underlying113 rfl Qnu.h⟩
instance:CZy Tryz.prog 113 (Zl (⟨(⟨(⟨false,[]⟩:Qf),[]⟩:Qc),(⟨(⟨false,[]⟩:Qf),[]⟩:Qc),(⟨(⟨false,[]⟩:Qf),[]⟩:Qc),(⟨(⟨false,[]⟩:Qf),[]⟩:Qc),[],false⟩:J5)):=⟨_,_,_,Qnu.h,Qna⟩
instance ti_66:CTy Tryz.prog 66 1 24 (.slice none 0 0):=⟨tyI (by kernel_rfl)⟩
instance Jaf:CFd Tryz.prog 68 0 0:=⟨fdA Tryz.underlying68 rfl rfl ti_66.h rfl⟩
instance:CUn Tryz.prog 66 (.slice 127):=⟨Tryz.underlying66⟩
instance sh_66:CSh Tryz.prog 66 false 1:=⟨shp Tryz.underlying66 rfl ti_66.h⟩
instance Q8m:CFd Tryz.prog 113 0 0:=⟨fdA Tryz.underlying113 rfl rfl ti_45.h rfl⟩
instance Q8n:CFd Tryz.prog 113 1 3:=⟨fdA Tryz.underlying113 rfl rfl ti_45.h rfl⟩
instance Q8o:CFd Tryz.prog 113 2 6:=⟨fdA Tryz.underlying113 rfl rfl ti_45.h rfl⟩
instance Q8p:CFd Tryz.prog 113 3 9:=⟨fdA Tryz.underlying113 rfl rfl ti_45.h rfl⟩
instance Q8q:CFd Tryz.prog 113 4 12:=⟨fdA Tryz.underlying113 rfl rfl ti_46.h rfl⟩
instance Q8r:CFd Tryz.prog 113 5 13:=⟨fdA Tryz.underlying113 rfl rfl ti_4.h rfl⟩
instance Qnv:CTy Tryz.prog 127 14 256 (.agg #[.bool false,.slice none 0 0,.slice none 0 0,.bool false,.slice none 0 0,.slice none 0 0,.bool false,.slice none 0 0,.slice none 0 0,.bool false,.slice none 0 0,.slice none 0 0,.slice none 0 0,.bool false]):=⟨tyI (by kernel_rfl)⟩
instance Q2p:CPl Tryz.prog 127 [(0,3),(3,3),(6,3),(9,3),(12,1),(13,1)]:=⟨⟨_,Tryz.underlying127,by kernel_rfl⟩⟩
theorem Qc6:Zr (J0 (⟨(⟨false,[],[]⟩:Qa),(⟨false,[],[]⟩:Qa),(⟨false,[],[]⟩:Qa),(⟨false,[],[]⟩:Qa),[],false⟩:Qv)) [.bool false,.slice none 0 0,.slice none 0 0,.bool false,.slice none 0 0,.slice none 0 0,.bool false,.slice none 0 0,.slice none 0 0,.bool false,.slice none 0 0,.slice none 0 0,.slice none 0 0,.bool false]:=Vg (Qk (c1:=[.bool false,.slice none 0 0,.slice none 0 0]) Q2 (Qk (c1:=[.bool false,.slice none 0 0,.slice none 0 0]) Q2 (Qk (c1:=[.bool false,.slice none 0 0,.slice none 0 0]) Q2 (Qk (c1:=[.bool false,.slice none 0 0,.slice none 0 0]) Q2 (Qk (c1:=[.slice none 0 0]) (Kd (k:=3)) (Qk (c1:=[.bool false]) zr_bl (Km)))))))
instance Jag:CFd Tryz.prog 68 1 1:=⟨fdA Tryz.underlying68 rfl rfl ti_34.h rfl⟩
instance Jah:CFd Tryz.prog 68 2 4:=⟨fdA Tryz.underlying68 rfl rfl ti_26.h rfl⟩
instance Jau:CSh Tryz.prog 127 true 14:=⟨shp Tryz.underlying127 rfl Qnv.h⟩
instance:CZy Tryz.prog 127 (J0 (⟨(⟨false,[],[]⟩:Qa),(⟨false,[],[]⟩:Qa),(⟨false,[],[]⟩:Qa),(⟨false,[],[]⟩:Qa),[],false⟩:Qv)):=⟨_,_,_,Qnv.h,Qc6⟩
instance Q8s:CFd Tryz.prog 127 5 13:=⟨fdA Tryz.underlying127 rfl rfl ti_4.h rfl⟩
instance Q8t:CFd Tryz.prog 127 0 0:=⟨fdA Tryz.underlying127 rfl rfl ti_34.h rfl⟩
instance Q8u:CFd Tryz.prog 127 1 3:=⟨fdA Tryz.underlying127 rfl rfl ti_34.h rfl⟩
instance Q8v:CFd Tryz.prog 127 2 6:=⟨fdA Tryz.underlying127 rfl rfl ti_34.h rfl⟩
instance Q8w:CFd Tryz.prog 127 3 9:=⟨fdA Tryz.underlying127 rfl rfl ti_34.h rfl⟩
instance Q8x:CFd Tryz.prog 127 4 12:=⟨fdA Tryz.underlying127 rfl rfl ti_26.h rfl⟩
instance ti_69:CTy Tryz.prog 69 4 32 (.agg #[.int .i64 0,.int .i64 0,.int .i64 0,.int .i64 0]):=⟨tyI (by kernel_rfl)⟩
theorem Qqk:Zr (Qja (⟨0,0,0,0⟩:Qb2)) [.int .i64 0,.int .i64 0,.int .i64 0,.int .i64 0]:=Vg (Qk (c1:=[.int .i64 0]) Vo (Qk (c1:=[.int .i64 0]) Vo (Qk (c1:=[.int .i64 0]) Vo (Qk (c1:=[.int .i64 0]) Vo (Km)))))
instance:CZy Tryz.prog 69 (Qja (⟨0,0,0,0⟩:Qb2)):=⟨_,_,_,ti_69.h,Qqk⟩
instance Qlk:CTy Tryz.prog 121 4 96 (.agg #[.slice none 0 0,.slice none 0 0,.slice none 0 0,.slice none 0 0]):=⟨tyI (by kernel_rfl)⟩
theorem Y6:Zr (X6 (⟨[],[],[],[]⟩:Q7)) [.slice none 0 0,.slice none 0 0,.slice none 0 0,.slice none 0 0]:=Vg (Qk (c1:=[.slice none 0 0]) (Kd (k:=1)) (Qk (c1:=[.slice none 0 0]) (Kd (k:=1)) (Qk (c1:=[.slice none 0 0]) (Kd (k:=3)) (Qk (c1:=[.slice none 0 0]) (Kd (k:=3)) (Km)))))
instance:CZy Tryz.prog 121 (X6 (⟨[],[],[],[]⟩:Q7)):=⟨_,_,_,Qlk.h,Y6⟩
instance Qll:CTy Tryz.prog 122 3 24 (.agg #[.int .i64 0,.int .i64 0,.int .i64 0]):=⟨tyI (by kernel_rfl)⟩
theorem Qhe:Zr (Qjb (⟨0,0,0⟩:X8)) [.int .i64 0,.int .i64 0,.int .i64 0]:=Vg (Qk (c1:=[.int .i64 0]) Vo (Qk (c1:=[.int .i64 0]) Vo (Qk (c1:=[.int .i64 0]) Vo (Km))))
instance:CZy Tryz.prog 122 (Qjb (⟨0,0,0⟩:X8)):=⟨_,_,_,Qll.h,Qhe⟩
instance Qql:CPl Tryz.prog 121 [(0,1),(1,1),(2,1),(3,1)]:=⟨⟨_,Tryz.underlying121,by kernel_rfl⟩⟩
instance Jav:CSh Tryz.prog 121 true 4:=⟨shp Tryz.underlying121 rfl Qlk.h⟩
instance Q8y:CFd Tryz.prog 121 1 1:=⟨fdA Tryz.underlying121 rfl rfl ti_27.h rfl⟩
instance:CUn Tryz.prog 122 (.array 3 3):=⟨Tryz.underlying122⟩
instance Jaw:CSh Tryz.prog 122 true 3:=⟨shp Tryz.underlying122 rfl Qll.h⟩
instance Qyf:CTy Tryz.prog 182 5 104 (.agg #[.bool false,.slice none 0 0,.slice none 0 0,.slice none 0 0,.slice none 0 0]):=⟨tyI (by kernel_rfl)⟩
theorem Qfu:Zr (Xj (⟨(⟨false,[],[]⟩:Qa),[],[]⟩:Wj)) [.bool false,.slice none 0 0,.slice none 0 0,.slice none 0 0,.slice none 0 0]:=Vg (Qk (c1:=[.bool false,.slice none 0 0,.slice none 0 0]) Q2 (Qk (c1:=[.slice none 0 0]) (Kd (k:=3)) (Qk (c1:=[.slice none 0 0]) (Kd (k:=3)) (Km))))
instance:CZy Tryz.prog 182 (Xj (⟨(⟨false,[],[]⟩:Qa),[],[]⟩:Wj)):=⟨_,_,_,Qyf.h,Qfu⟩
instance Q63:CPl Tryz.prog 182 [(0,3),(3,1),(4,1)]:=⟨⟨_,Tryz.underlying182,by kernel_rfl⟩⟩
instance Jax:CSh Tryz.prog 182 true 5:=⟨shp Tryz.underlying182 rfl Qyf.h⟩
instance Q8z:CFd Tryz.prog 182 0 0:=⟨fdA Tryz.underlying182 rfl rfl ti_34.h rfl⟩
instance Q80:CFd Tryz.prog 182 1 3:=⟨fdA Tryz.underlying182 rfl rfl ti_26.h rfl⟩
instance Q81:CFd Tryz.prog 182 2 4:=⟨fdA Tryz.underlying182 rfl rfl ti_26.h rfl⟩
instance Q82:CFd Tryz.prog 121 0 0:=⟨fdA Tryz.underlying121 rfl rfl ti_27.h rfl⟩
instance Q83:CFd Tryz.prog 121 2 2:=⟨fdA Tryz.underlying121 rfl rfl ti_26.h rfl⟩
instance Q84:CFd Tryz.prog 121 3 3:=⟨fdA Tryz.underlying121 rfl rfl ti_26.h rfl⟩
instance:CUn Tryz.prog 69 (.array 4 3):=⟨Tryz.underlying69⟩
instance sh_69:CSh Tryz.prog 69 true 4:=⟨shp Tryz.underlying69 rfl ti_69.h⟩
theorem Qa2{x0}{x1}:∀ r,Va x0 x1=some r->FnOk Tryz.prog 35 [Qb x0,i64 x1] [] (bl r) []:=by
 unfold Va
 refine fs Tryz.func35 fun w S0 γ hγ=>?_
 refine z [2] ?_
 refine o (bx' 100) ?_
 refine z [31,1] ?_
 refine sjq (fun s3=>[(4,bl s3)]) (fun s3=>[]) ?_ ?_
 · intro j1 hj2
   refine z [6,33,36,39,30,47,30] ?_
   refine sifd 10 rfl ?_ ?_
   · refine z [23,23,23,23,23,38,31,1] ?_
     exact sj (hj2 _) (eR [])
   refine z [22,22,22,22,22,37,31,1] ?_
   exact sj (hj2 _) (eR [])
 intro s3
 refine z [8] ?_
 exact rt []
theorem Qnb{n:Nat}{x0}{x1}{x2}:∀ r,Zb n x0 x1 x2=some r->FnOk Tryz.prog 33 [Jc x0,i64 x1,i64 x2] [] (bl r) []:=by
 unfold Zb
 refine fs Tryz.func33 fun w S0 γ hγ=>?_
 refine z [2] ?_
 refine o (bx' 100) ?_
 refine z [31,1,5,2,31,1,7] ?_
 refine sloopE 0 Lp.go (fun s19=>[(1,i64 x1),(2,i64 x2),(3,.own 100),(6,bl false),(7,i64 s19)]) (fun s19=>[(100,.bx 25 (Jc x0))]) (fun t17=>[(1,i64 x1),(3,.own 100),(6,bl false)]) (fun t17=>[(100,.bx 25 (Jc x0))]) (eR [(100,100)]) ?_ ?_
 · intro hj18 s19
   refine z [5] ?_
   refine sjq (fun s22=>[(1,i64 x1),(2,i64 x2),(3,.own 100),(6,bl false),(7,i64 s19),(17,bl s22)]) (fun s22=>[(100,.bx 25 (Jc x0))]) ?_ ?_
   · intro j20 hj21
     refine z [6,30,33,36,39,46,30] ?_
     refine sifd 13 rfl ?_ ?_
     · refine z [22,22,22,38,1] ?_
       exact sj (hj21 _) (eR [(100,100)])
     refine z [23,23,23,37,1] ?_
     exact sj (hj21 _) (eR [(100,100)])
   intro s22
   refine c ?_ ?_
   · refine z [9,4,5,7,2,33,36,30] ?_
     refine b fun y23 h24=>?_
     refine z [43,92,42,30] ?_
     refine cb (ca Qa2) fun r25=>?_
     refine z [1] ?_
     refine c ?_ ?_
     · refine z [2,31,1,8,12,10] ?_
       refine sU ?_
       refine z [12,10] ?_
       exact rt []
     refine z [9,11,4,6,30,40,31,3] ?_
     exact sgo (eR [(100,100)])
   refine z [14,15] ?_
   exact su (sj (hj18 _) (eR [(100,100)]))
 intro t17
 refine slpk ?_
 refine z [13,4] ?_
 refine sjq (fun s29=>[(6,bl s29)]) (fun s29=>[]) ?_ ?_
 · intro j27 hj28
   refine z [6,33,36,39,30,47,30] ?_
   refine sifd 33 rfl ?_ ?_
   · refine z [23,23,23,23,23,38,31,1] ?_
     exact sj (hj28 _) (eR [])
   refine z [22,22,22,22,22,37,31,1] ?_
   exact sj (hj28 _) (eR [])
 intro s29
 refine z [8] ?_
 exact rt []
theorem Wx{n:Nat}{x0}{x1}{x2}:∀ r,Jn n x0 x1 x2=some r->FnOk Tryz.prog 8 [sli 3 (List.map Qb x0),i64 x1,i64 x2] [] (bl r) []:=by
 unfold Jn
 refine fs Tryz.func8 fun w S0 γ hγ=>?_
 refine z [2,31,1,5,2,31,1,7] ?_
 refine sloopE 0 Lp.go (fun s19=>[(0,sli 3 (List.map Qb x0)),(1,i64 x1),(2,i64 x2),(6,bl false),(7,i64 s19)]) (fun s19=>[]) (fun t17=>[(0,sli 3 (List.map Qb x0)),(1,i64 x1),(6,bl false)]) (fun t17=>[]) eI ?_ ?_
 · intro hj18 s19
   refine z [5] ?_
   refine sjq (fun s22=>[(0,sli 3 (List.map Qb x0)),(1,i64 x1),(2,i64 x2),(6,bl false),(7,i64 s19),(16,bl s22)]) (fun s22=>[]) ?_ ?_
   · intro j20 hj21
     refine z [6,30,30,39,46,30] ?_
     refine sifd 12 rfl ?_ ?_
     · refine z [22,22,22,38,1] ?_
       exact sj (hj21 _) eI
     refine z [23,23,23,37,1] ?_
     exact sj (hj21 _) eI
   intro s22
   refine c ?_ ?_
   · refine z [9,4,5,7,2,30,30] ?_
     refine b fun y23 h24=>?_
     refine z [43,42,30] ?_
     refine cb (ca Qa2) fun r25=>?_
     refine z [1] ?_
     refine c ?_ ?_
     · refine z [2,31,1,8,12,10] ?_
       refine sU ?_
       refine z [12,10] ?_
       exact rt []
     refine z [9,11,4,6,30,40,31,3] ?_
     exact sgo eI
   refine z [14,15] ?_
   exact su (sj (hj18 _) eI)
 intro t17
 refine slpk ?_
 refine z [13,4,2,30,39,30,47,31,1,8] ?_
 exact rt []
theorem Qnc{n:Nat}{x0}{x1}{x2}:∀ r,Zc n x0 x1 x2=some r->FnOk Tryz.prog 34 [Q5 x0,i64 x1,i64 x2] [] (bl r) []:=by
 unfold Zc
 refine fs Tryz.func34 fun w S0 γ hγ=>?_
 refine z [2] ?_
 refine o (bx' 100) ?_
 refine z [31,1,5] ?_
 refine sjq (fun s9=>[(1,i64 x1),(2,i64 x2),(3,.own 100),(6,bl false),(39,bl s9)]) (fun s9=>[(100,.bx 29 (Q5 x0))]) ?_ ?_
 · intro j7 hj8
   refine z [6,33,36,54,47,30] ?_
   refine sifd 12 rfl ?_ ?_
   · refine z [23,23,23,23,23,38,30,23,23,23,23,23,38,30,23,23,23,23,23,38,30,23,23,23,23,23,38,1] ?_
     exact sj (hj8 _) (eR [(100,100)])
   refine z [22,22,22,22,22,37,30] ?_
   refine sifd 19 rfl ?_ ?_
   · refine z [23,23,23,23,23,38,30,23,23,23,23,23,38,30,23,23,23,23,23,38,1] ?_
     exact sj (hj8 _) (eR [(100,100)])
   refine z [22,22,22,22] ?_
   refine b fun r10 h11=>?_
   refine og' (c0 (Wx _ h11)) ?_
   refine z [37,30] ?_
   refine sifd 26 rfl ?_ ?_
   · refine z [23,23,23,23,23,38,30,23,23,23,23,23,38,1] ?_
     exact sj (hj8 _) (eR [(100,100)])
   refine z [22,22,22,22] ?_
   refine b fun r12 h13=>?_
   refine og' (c0 (Wx _ h13)) ?_
   refine z [37,30] ?_
   refine sifd 33 rfl ?_ ?_
   · refine z [23,23,23,23,23,38,1] ?_
     exact sj (hj8 _) (eR [(100,100)])
   refine z [22,22,22,22] ?_
   refine b fun r14 h15=>?_
   refine og' (c0 (Wx _ h15)) ?_
   refine z [37,1] ?_
   exact sj (hj8 _) (eR [(100,100)])
 intro s9
 refine c ?_ ?_
 · refine z [2,31,1,8,10] ?_
   exact rt []
 refine z [9,4,5,2,31,1,7] ?_
 refine sloopE 0 Lp.go (fun s28=>[(1,i64 x1),(2,i64 x2),(3,.own 100),(6,bl false),(7,i64 s28)]) (fun s28=>[(100,.bx 29 (Q5 x0))]) (fun t26=>[(6,bl false)]) (fun t26=>[]) (eR [(100,100)]) ?_ ?_
 · intro hj27 s28
   refine z [5,2,30,33,36,39,46,1] ?_
   refine c ?_ ?_
   · refine z [9,4,5,7,2,33,36,30] ?_
     refine b fun y29 h30=>?_
     refine z [43,42,30,30] ?_
     refine cb (ca Wx) fun r31=>?_
     refine z [1] ?_
     refine c ?_ ?_
     · refine z [2,31,1,8,12,10] ?_
       refine sU ?_
       refine z [12,10] ?_
       exact rt []
     refine z [9,11,4,6,30,40,31,3] ?_
     exact sgo (eR [(100,100)])
   refine z [14,15] ?_
   exact su (sj (hj27 _) (eR []))
 intro t26
 refine slpk ?_
 refine z [13,4,2,31,1,8] ?_
 exact rt []
theorem Qgl{n:Nat}{x0}{x1}{x2}{x3}:∀ r,Xu n x0 x1 x2 x3=some r->FnOk Tryz.prog 6 [Qu x0,i64 x1,i64 x2,i64 x3] [] (bl r) []:=by
 unfold Xu
 refine fs Tryz.func6 fun w S0 γ hγ=>?_
 refine z [2] ?_
 refine o (bx' 100) ?_
 refine z [31,1] ?_
 refine sjq (fun s9=>[(8,bl s9)]) (fun s9=>[]) ?_ ?_
 · intro j7 hj8
   refine z [6,33,36,30,30] ?_
   refine cb (ca Qnb) fun r10=>?_
   refine z [30] ?_
   refine sifd 14 rfl ?_ ?_
   · refine z [23,23,23,23,38,30,23,23,23,23,38,31,1] ?_
     exact sj (hj8 _) (eR [])
   refine z [22,22,22] ?_
   refine b fun r12 h13=>?_
   refine og' (c0 (Qnc _ h13)) ?_
   refine z [37,30] ?_
   refine sifd 20 rfl ?_ ?_
   · refine z [23,23,23,23,38,31,1] ?_
     exact sj (hj8 _) (eR [])
   refine z [22,22,22] ?_
   refine b fun r14 h15=>?_
   refine og' (c0 (Wx _ h15)) ?_
   refine z [37,31,1] ?_
   exact sj (hj8 _) (eR [])
 intro s9
 refine z [8] ?_
 exact rt []
theorem Qgm{n:Nat}{x0}:∀ r,Xt n x0=some r->FnOk Tryz.prog 7 [Kf x0] [] (bl r) []:=by
 unfold Xt
 refine fs Tryz.func7 fun w S0 γ hγ=>?_
 refine z [2] ?_
 refine o (bx' 100) ?_
 refine z [31,1] ?_
 refine sjq (fun s9=>[(2,bl s9)]) (fun s9=>[]) ?_ ?_
 · intro j7 hj8
   refine z [6,33,36] ?_
   refine cb (ca Qa2) fun r10=>?_
   refine z [30] ?_
   refine sifd 6 rfl ?_ ?_
   · refine z [23,23,23,38,30,23,23,23,38,31,1] ?_
     exact sj (hj8 _) (eR [])
   refine z [22,22] ?_
   refine b fun r12 h13=>?_
   refine og' (c0 (Qa2 _ h13)) ?_
   refine z [37,30] ?_
   refine sifd 11 rfl ?_ ?_
   · refine z [23,23,23,38,31,1] ?_
     exact sj (hj8 _) (eR [])
   refine z [22,22] ?_
   refine b fun r14 h15=>?_
   refine og' (c0 (Wx _ h15)) ?_
   refine z [37,31,1] ?_
   exact sj (hj8 _) (eR [])
 intro s9
 refine z [8] ?_
 exact rt []
theorem Qwz:∀ r,Qj8 =some r->FnOk Tryz.prog 73 [] [] (Qjr r) []:=by
 unfold Qj8
 refine fs Tryz.func73 fun w S0 γ hγ=>?_
 refine z [2] ?_
 refine o (al' 100) ?_
 refine z [1,2] ?_
 refine s1 (bldA (l:=[str ([101,117,108,101,114,10,48,124,10,98,32,49]:List UInt8),str ([104,101,117,110,10,48,124,10,49,124,49,10,98,32,49,47,50,44,49,47,50,10,101,32,49,44,48]:List UInt8),str ([109,105,100,112,111,105,110,116,10,48,124,10,49,47,50,124,49,47,50,10,98,32,48,44,49,10,101,32,49,44,48]:List UInt8),str ([114,107,52,10,48,124,10,49,47,50,124,49,47,50,10,49,47,50,124,48,44,49,47,50,10,49,124,48,44,48,44,49,10,98,32,49,47,54,44,49,47,51,44,49,47,51,44,49,47,54]:List UInt8),str ([98,115,50,51,10,48,124,10,49,47,50,124,49,47,50,10,51,47,52,124,48,44,51,47,52,10,49,124,50,47,57,44,49,47,51,44,52,47,57,10,98,32,50,47,57,44,49,47,51,44,52,47,57,44,48,10,101,32,55,47,50,52,44,49,47,52,44,49,47,51,44,49,47,56]:List UInt8),str ([100,112,52,53,10,48,124,10,49,47,53,124,49,47,53,10,51,47,49,48,124,51,47,52,48,44,57,47,52,48,10,52,47,53,124,52,52,47,52,53,44,45,53,54,47,49,53,44,51,50,47,57,10,56,47,57,124,49,57,51,55,50,47,54,53,54,49,44,45,50,53,51,54,48,47,50,49,56,55,44,54,52,52,52,56,47,54,53,54,49,44,45,50,49,50,47,55,50,57,10,49,124,57,48,49,55,47,51,49,54,56,44,45,51,53,53,47,51,51,44,52,54,55,51,50,47,53,50,52,55,44,52,57,47,49,55,54,44,45,53,49,48,51,47,49,56,54,53,54,10,49,124,51,53,47,51,56,52,44,48,44,53,48,48,47,49,49,49,51,44,49,50,53,47,49,57,50,44,45,50,49,56,55,47,54,55,56,52,44,49,49,47,56,52,10,98,32,51,53,47,51,56,52,44,48,44,53,48,48,47,49,49,49,51,44,49,50,53,47,49,57,50,44,45,50,49,56,55,47,54,55,56,52,44,49,49,47,56,52,44,48,10,101,32,53,49,55,57,47,53,55,54,48,48,44,48,44,55,53,55,49,47,49,54,54,57,53,44,51,57,51,47,54,52,48,44,45,57,50,48,57,55,47,51,51,57,50,48,48,44,49,56,55,47,50,49,48,48,44,49,47,52,48]:List UInt8)]) Tryz.underlying145 Qx8.h ti_9.h Qqh rfl ⟨_,_,_,(kS (s:=[101,117,108,101,114,10,48,124,10,98,32,49]) rfl),rfl,rfl,rfl,rfl,rfl,⟨_,_,_,(kS (s:=[104,101,117,110,10,48,124,10,49,124,49,10,98,32,49,47,50,44,49,47,50,10,101,32,49,44,48]) rfl),rfl,rfl,rfl,rfl,rfl,⟨_,_,_,(kS (s:=[109,105,100,112,111,105,110,116,10,48,124,10,49,47,50,124,49,47,50,10,98,32,48,44,49,10,101,32,49,44,48]) rfl),rfl,rfl,rfl,rfl,rfl,⟨_,_,_,(kS (s:=[114,107,52,10,48,124,10,49,47,50,124,49,47,50,10,49,47,50,124,48,44,49,47,50,10,49,124,48,44,48,44,49,10,98,32,49,47,54,44,49,47,51,44,49,47,51,44,49,47,54]) rfl),rfl,rfl,rfl,rfl,rfl,⟨_,_,_,(kS (s:=[98,115,50,51,10,48,124,10,49,47,50,124,49,47,50,10,51,47,52,124,48,44,51,47,52,10,49,124,50,47,57,44,49,47,51,44,52,47,57,10,98,32,50,47,57,44,49,47,51,44,52,47,57,44,48,10,101,32,55,47,50,52,44,49,47,52,44,49,47,51,44,49,47,56]) rfl),rfl,rfl,rfl,rfl,rfl,⟨_,_,_,(kS (s:=[100,112,52,53,10,48,124,10,49,47,53,124,49,47,53,10,51,47,49,48,124,51,47,52,48,44,57,47,52,48,10,52,47,53,124,52,52,47,52,53,44,45,53,54,47,49,53,44,51,50,47,57,10,56,47,57,124,49,57,51,55,50,47,54,53,54,49,44,45,50,53,51,54,48,47,50,49,56,55,44,54,52,52,52,56,47,54,53,54,49,44,45,50,49,50,47,55,50,57,10,49,124,57,48,49,55,47,51,49,54,56,44,45,51,53,53,47,51,51,44,52,54,55,51,50,47,53,50,52,55,44,52,57,47,49,55,54,44,45,53,49,48,51,47,49,56,54,53,54,10,49,124,51,53,47,51,56,52,44,48,44,53,48,48,47,49,49,49,51,44,49,50,53,47,49,57,50,44,45,50,49,56,55,47,54,55,56,52,44,49,49,47,56,52,10,98,32,51,53,47,51,56,52,44,48,44,53,48,48,47,49,49,49,51,44,49,50,53,47,49,57,50,44,45,50,49,56,55,47,54,55,56,52,44,49,49,47,56,52,44,48,10,101,32,53,49,55,57,47,53,55,54,48,48,44,48,44,55,53,55,49,47,49,54,54,57,53,44,51,57,51,47,54,52,48,44,45,57,50,48,57,55,47,51,51,57,50,48,48,44,49,56,55,47,50,49,48,48,44,49,47,52,48]) rfl),rfl,rfl,rfl,rfl,rfl,rfl⟩⟩⟩⟩⟩⟩ rfl) ?_
 refine z [34,1,8] ?_
 exact rt []
theorem Qyg{x0}:∀ r,Qlb x0=some r->FnOk Tryz.prog 74 [str x0] [] (str r) []:=by
 unfold Qlb
 refine fs Tryz.func74 fun w S0 γ hγ=>?_
 refine z [2,31,1,2,30] ?_
 refine cb (ca Qj6) fun r1=>?_
 refine z [30,35,35,35,31,31,31,1,2,30,31,1,8] ?_
 exact rt []
theorem Qcj{x0}:∀ r,Y1 x0=some r->FnOk Tryz.prog 173 [.own 0] [(0,.bx 251 (Ju x0))] (.tup [str r.1,i64 r.2.1,bl r.2.2.1]) [(0,.bx 251 (Ju r.2.2.2))]:=by
 unfold Y1
 refine fs Tryz.func173 fun w S0 γ hγ=>?_
 refine z [2,31,31,31,1,5,2,30,48,33,36,1] ?_
 refine c ?_ ?_
 · refine z [5] ?_
   refine sd ?_
   refine zd [[],[0],[0],[0],[],[],[]] ?_
   refine de fol ?_
   refine z [4,8,10] ?_
   exact rt [(0,0)]
 refine z [9,4,2,30,48,33,36,31,1,2,30,48,33,36] ?_
 refine cb (ca Qj6) fun r1=>?_
 refine z [30,35,35,35,31,31,31,1,2,30,30,30,30,44,48,33] ?_
 refine o (stP (Ju (⟨r1.2.1,x0.at_,x0.over⟩:Jg)) [0]) ?_
 refine z [48,33] ?_
 refine o (stP (Ju (⟨r1.2.1,x0.at_,!r1.2.2⟩:Jg)) [2]) ?_
 refine z [1,2,30,48,33,36,30,54,40,48,33] ?_
 refine o (stP (Ju (⟨r1.2.1,wrap64 (x0.at_+(r1.1.length:Int)),!r1.2.2⟩:Jg)) [1]) ?_
 refine z [1] ?_
 refine sjq (fun s5=>[(2,str ([]:List UInt8)),(3,i64 (0:Int)),(4,bl false),(5,i64 x0.at_),(6,str r1.1)]) (fun s5=>[(0,.bx 251 (Ju s5))]) ?_ ?_
 · intro j3 hj4
   refine z [2,30,1] ?_
   refine c ?_ ?_
   · refine z [6,30,48,33,36,40,48,33] ?_
     refine o (stP (Ju (⟨r1.2.1,wrap64 ((wrap64 (x0.at_+(r1.1.length:Int)))+(1:Int)),!r1.2.2⟩:Jg)) [1]) ?_
     refine z [1] ?_
     exact sj (hj4 _) (eR [(0,0)])
   refine z [9,4] ?_
   exact sj (hj4 _) (eR [(0,0)])
 intro s5
 refine z [2,30,30,31,31,31,1,8] ?_
 exact rt [(0,0)]
theorem Qjt{x0}:∀ r,Qbw x0=some r->FnOk Tryz.prog 251 [u8 x0] [] (bl r) []:=by
 unfold Qbw
 refine fs Tryz.func251 fun w S0 γ hγ=>?_
 refine z [2,31,1] ?_
 refine sjq (fun s3=>[(2,bl s3)]) (fun s3=>[]) ?_ ?_
 · intro j1 hj2
   refine z [6,30,71,30] ?_
   refine sifd 5 rfl ?_ ?_
   · refine z [22,22,38,31,1] ?_
     exact sj (hj2 _) eI
   refine z [23,23,37,31,1] ?_
   exact sj (hj2 _) eI
 intro s3
 refine z [8] ?_
 exact rt []
theorem Qlm{x0}:∀ r,Qb5 x0=some r->FnOk Tryz.prog 252 [u8 x0] [] (bl r) []:=by
 unfold Qb5
 refine fs Tryz.func252 fun w S0 γ hγ=>?_
 refine z [2,31,1] ?_
 refine sjq (fun s3=>[(2,bl s3)]) (fun s3=>[]) ?_ ?_
 · intro j1 hj2
   refine z [6,30,71,30] ?_
   refine sifd 5 rfl ?_ ?_
   · refine z [22,22,38,30] ?_
     refine sifd 9 rfl ?_ ?_
     · refine z [23,23,23,24,24,23,38,30,23,23,38,31,1] ?_
       exact sj (hj2 _) eI
     refine z [22,22,22] ?_
     refine sifd 12 rfl ?_ ?_
     · refine z [22,22,22,37,30] ?_
       refine sifd 17 rfl ?_ ?_
       · refine z [23,23,38,31,1] ?_
         exact sj (hj2 _) eI
       refine z [22,22,37,31,1] ?_
       exact sj (hj2 _) eI
     refine z [23,23,22,37,30,22,22,37,31,1] ?_
     exact sj (hj2 _) eI
   refine z [23,23,37,30,22,22,22] ?_
   refine sifd 12 rfl ?_ ?_
   · refine z [22,22,22,37,30] ?_
     refine sifd 17 rfl ?_ ?_
     · refine z [23,23,38,31,1] ?_
       exact sj (hj2 _) eI
     refine z [22,22,37,31,1] ?_
     exact sj (hj2 _) eI
   refine z [23,23,22,37,30,22,22,37,31,1] ?_
   exact sj (hj2 _) eI
 intro s3
 refine z [8] ?_
 exact rt []
theorem Q08{n:Nat}{x0}:∀ r,Qh3 n x0=some r->FnOk Tryz.prog 253 [u8 x0] [] (bl r) []:=by
 unfold Qh3
 refine fs Tryz.func253 fun w S0 γ hγ=>?_
 refine z [2,31,1,5,2] ?_
 refine so (rngS (y:=100) Tryz.underlying9 (kS (s:=[43,45,42,47,94,40,41,91,93,44,59,61]) rfl) rfl rfl) ?_
 refine z [1,7] ?_
 refine sloopE 0 Lp.go (fun s9=>[(0,u8 x0),(2,bl false),(5,.own 100)]) (fun s9=>[(100,.ob (sIt ([43,45,42,47,94,40,41,91,93,44,59,61]:List UInt8) s9))]) (fun t7=>[(2,bl false)]) (fun t7=>[]) (eR [(100,100)]) ?_ ?_
 · intro hj8 s9
   refine z [2] ?_
   refine sif (fun hb10=>?_) (fun hb10=>?_)
   · refine so (nxtT hb10 rfl rfl rfl rfl) ?_
     refine z [35,1,5] ?_
     refine scT rfl ?_
     refine z [9,4,7,2,35] ?_
     refine sbn (F:=i32) 8 rfl fun z11=>?_
     refine z [31,1,2,30,83,30,66,1] ?_
     refine c ?_ ?_
     · refine z [2,31,1,8,12] ?_
       refine sU ?_
       refine z [12,10] ?_
       exact rt []
     refine z [9,11] ?_
     exact sgo (eR [(100,100)])
   · refine s1 (nxtF hb10 rfl rfl rfl) ?_
     refine z [35,1,5] ?_
     refine scF rfl ?_
     refine z [14,15] ?_
     exact su (sj (hj8 _) (eR []))
 intro t7
 refine slpk ?_
 refine z [13,4,2,31,1,8] ?_
 exact rt []
theorem Q09{n:Nat}{x0}:∀ r,Qh4 n x0=some r->FnOk Tryz.prog 210 [u8 x0] [] (i64 r) []:=by
 unfold Qh4
 refine fs Tryz.func210 fun w S0 γ hγ=>?_
 refine z [2,31,1,5,7,2,30] ?_
 refine cb (ca Qjt) fun r1=>?_
 refine z [31,1] ?_
 refine c ?_ ?_
 · refine z [2,31,1,8,12,10] ?_
   exact rt []
 refine z [2,30] ?_
 refine cb (ca Qlm) fun r3=>?_
 refine z [31,1] ?_
 refine c ?_ ?_
 · refine z [2,31,1,8,12,10] ?_
   exact rt []
 refine z [2,30] ?_
 refine cb (ca Q08) fun r5=>?_
 refine z [31,1] ?_
 refine c ?_ ?_
 · refine z [2,31,1,8,12,10] ?_
   exact rt []
 refine z [9,11,4,2,31,1,8] ?_
 exact rt []
theorem Q1a{x0}{x1}:∀ r,Qh5 x0 x1=some r->FnOk Tryz.prog 254 [i64 x0,u8 x1] [] (bl r) []:=by
 unfold Qh5
 refine fs Tryz.func254 fun w S0 γ hγ=>?_
 refine z [2,31,1] ?_
 refine sjq (fun s13=>[(4,bl s13)]) (fun s13=>[]) ?_ ?_
 · intro j11 hj12
   refine z [6,30,41,30] ?_
   refine sifd 7 rfl ?_ ?_
   · refine z [22] ?_
     refine b fun r14 h15=>?_
     refine og' (c0 (Qjt _ h15)) ?_
     refine z [38,30] ?_
     refine sifd 11 rfl ?_ ?_
     · refine z [23,23,23,24,24,24,24,24,24,23,38,31,1] ?_
       exact sj (hj12 _) eI
     refine z [22,22,22] ?_
     refine sifd 14 rfl ?_ ?_
     · refine z [22] ?_
       refine b fun r16 h17=>?_
       refine og' (c0 (Qlm _ h17)) ?_
       refine z [22] ?_
       refine sifd 17 rfl ?_ ?_
       · refine z [23,23,22,22,37,31,1] ?_
         exact sj (hj12 _) eI
       refine z [22] ?_
       refine b fun r18 h19=>?_
       refine og' (c0 (Qjt _ h19)) ?_
       refine z [22,22,37,31,1] ?_
       exact sj (hj12 _) eI
     refine z [23,23,23,24,24,23,22,37,31,1] ?_
     exact sj (hj12 _) eI
   refine z [23,23,37,30,22,22,22] ?_
   refine sifd 14 rfl ?_ ?_
   · refine z [22] ?_
     refine b fun r20 h21=>?_
     refine og' (c0 (Qlm _ h21)) ?_
     refine z [22] ?_
     refine sifd 17 rfl ?_ ?_
     · refine z [23,23,22,22,37,31,1] ?_
       exact sj (hj12 _) eI
     refine z [22] ?_
     refine b fun r22 h23=>?_
     refine og' (c0 (Qjt _ h23)) ?_
     refine z [22,22,37,31,1] ?_
     exact sj (hj12 _) eI
   refine z [23,23,23,24,24,23,22,37,31,1] ?_
   exact sj (hj12 _) eI
 intro s13
 refine z [8] ?_
 exact rt []
theorem Qry{n:Nat}{x0}{x1}:∀ r,Qgj n x0 x1=some r->FnOk Tryz.prog 211 [str x0,i64 x1] [] (i64 r) []:=by
 unfold Qgj
 refine fs Tryz.func211 fun w S0 γ hγ=>?_
 refine z [2,31,1,2,31,1,5,7] ?_
 refine sloopE 0 (fun t=>t) (fun s27=>[(0,str x0),(1,i64 x1),(4,i64 (0:Int)),(5,i64 s27)]) (fun s27=>[]) (fun t25=>[(4,i64 (0:Int)),(5,i64 t25)]) (fun t25=>[]) eI ?_ ?_
 · intro hj26 s27
   refine z [5] ?_
   refine sjq (fun s34=>[(0,str x0),(1,i64 x1),(4,i64 (0:Int)),(5,i64 s27),(16,bl s34)]) (fun s34=>[]) ?_ ?_
   · intro j32 hj33
     refine z [6,30,30,54,46,30] ?_
     refine sifd 10 rfl ?_ ?_
     · refine z [22,22,22] ?_
       refine b fun y35 h36=>?_
       refine z [22] ?_
       refine b fun r37 h38=>?_
       refine og' (c0 (Q1a _ h38)) ?_
       refine z [38,1] ?_
       exact sj (hj33 _) eI
     refine z [23,23,23,23,23,37,1] ?_
     exact sj (hj33 _) eI
   intro s34
   refine c ?_ ?_
   · refine z [9,4,7,6,30,40,31,3,11] ?_
     exact sgo eI
   refine z [14,15] ?_
   exact su (sj (hj26 _) eI)
 intro t25
 refine z [13,4,2,30,31,1,8] ?_
 exact rt []
theorem Q1b{x0}:∀ r,Qh6 x0=some r->FnOk Tryz.prog 212 [i64 x0] [] (i64 r) []:=by
 unfold Qh6
 refine fs Tryz.func212 fun w S0 γ hγ=>?_
 refine z [2,31,1,5,2,30,1,7,2,41,31,1] ?_
 refine c ?_ ?_
 · refine z [2,31,1,8,12,10] ?_
   exact rt []
 refine z [2,41,31,1] ?_
 refine c ?_ ?_
 · refine z [2,31,1,8,12,10] ?_
   exact rt []
 refine z [9,11,4,2,31,1,8] ?_
 exact rt []
theorem Qrz{n:Nat}{x0}:∀ r,Qe5 n x0=some r->FnOk Tryz.prog 174 [Qo1 x0] [] (bl r) []:=by
 unfold Qe5
 refine fs Tryz.func174 fun w S0 γ hγ=>?_
 refine z [2] ?_
 refine o (bx' 100) ?_
 refine z [31,1,5] ?_
 refine sjq (fun s9=>[(1,.own 100),(2,bl false),(19,bl s9)]) (fun s9=>[(100,.bx 255 (Qo1 x0))]) ?_ ?_
 · intro j7 hj8
   refine sif (fun hb10=>?_) (fun hb10=>?_)
   · refine sd ?_
     refine zd [[100],[100],[]] ?_
     refine dd [] (fun _ _ _ _=>obk hb10 ops) ?_
     refine zd [[],[],[],[],[],[],[],[],[],[],[],[],[]] ?_
     refine de fol ?_
     refine z [4] ?_
     exact sj (hj8 _) (eR [(100,100)])
   refine sif (fun hb11=>?_) (fun hb11=>?_)
   · refine sd ?_
     refine zd [[100],[100],[]] ?_
     refine dd [] (fun _ _ _ _=>obk hb10 ops) ?_
     refine zd [[100],[100],[],[]] ?_
     refine dd [] (fun _ _ _ _=>obk hb11 ops) ?_
     refine zd [[],[],[],[],[],[],[],[]] ?_
     refine de fol ?_
     refine z [4] ?_
     exact sj (hj8 _) (eR [(100,100)])
   refine b fun y12 h13=>?_
   refine b fun r14 h15=>?_
   refine sd ?_
   refine zd [[100],[100],[]] ?_
   refine dd [] (fun _ _ _ _=>obk hb10 ops) ?_
   refine zd [[100],[100],[],[]] ?_
   refine dd [] (fun _ _ _ _=>obk hb11 ops) ?_
   refine zd [[100],[100],[]] ?_
   refine dG [] (fun _ _ _ _=>c0 (Q09 _ h15)) ?_
   refine zd [[100],[100],[],[]] ?_
   refine de fol ?_
   refine z [4] ?_
   exact sj (hj8 _) (eR [(100,100)])
 intro s9
 refine c ?_ ?_
 · refine z [2,31,1,8,10] ?_
   exact rt []
 refine z [9,4] ?_
 refine sjq (fun s23=>[(2,bl s23)]) (fun s23=>[]) ?_ ?_
 · intro j21 hj22
   refine b fun r24 h25=>?_
   refine sif (fun hb26=>?_) (fun hb26=>?_)
   · refine b fun r27 h28=>?_
     refine sd ?_
     refine zd [[100],[100],[100],[100]] ?_
     refine dd [] (fun _ _ _ _=>c0 (Qry _ h25)) ?_
     refine zd [[100],[100],[],[]] ?_
     refine dd [] (fun _ _ _ _=>obk hb26 ops) ?_
     refine zd [[100],[100],[],[100],[100]] ?_
     refine dG [] (fun _ _ _ _=>c0 (Q1b _ h28)) ?_
     refine zd [[],[],[]] ?_
     refine de fol ?_
     refine z [4] ?_
     exact sj (hj22 _) (eR [])
   refine sd ?_
   refine zd [[100],[100],[100],[100]] ?_
   refine dd [] (fun _ _ _ _=>c0 (Qry _ h25)) ?_
   refine zd [[100],[100],[],[]] ?_
   refine dd [] (fun _ _ _ _=>obk hb26 ops) ?_
   refine zd [[],[],[],[],[],[],[],[],[]] ?_
   refine de fol ?_
   refine z [4] ?_
   exact sj (hj22 _) (eR [])
 intro s23
 refine z [8] ?_
 exact rt []
theorem Ql7{x0}{x1}{x2}:∀ r,Qch x0 x1 x2=some r->FnOk Tryz.prog 214 [.own 0,str x1,i64 x2] [(0,.bx 251 (Ju x0))] (.tup []) [(0,.bx 251 (Ju r))]:=by
 unfold Qch
 refine fs Tryz.func214 fun w S0 γ hγ=>?_
 refine z [6,30,30,30,30,30] ?_
 refine b fun y1 h2=>?_
 refine s1 (slS h2 Tryz.underlying9 rfl rfl (bnd rfl) bnd0) ?_
 refine z [30,48,33] ?_
 refine o (stP (Ju (⟨y1,x0.at_,x0.over⟩:Jg)) [0]) ?_
 refine z [48,33] ?_
 refine o (stP (Ju (⟨y1,x2,x0.over⟩:Jg)) [1]) ?_
 refine z [48,33] ?_
 refine o (stP (Ju (⟨y1,x2,false⟩:Jg)) [2]) ?_
 refine z [3] ?_
 exact rt [(0,0)]
theorem Qb9{x0}{x1}:∀ r,Xm x0 x1=some r->FnOk Tryz.prog 279 [str x0,str x1] [] (bl r) []:=by
 unfold Xm
 refine fs Tryz.func279 fun w S0 γ hγ=>?_
 refine z [2,31,1] ?_
 refine sjq (fun s5=>[(4,bl s5)]) (fun s5=>[]) ?_ ?_
 · intro j3 hj4
   refine z [6,30,54,30,54,57,30] ?_
   refine sifd 10 rfl ?_ ?_
   · refine z [22,22,22] ?_
     refine b fun y6 h7=>?_
     refine sg 10 rfl rfl (slS h7 Tryz.underlying9 rfl rfl bnd0 (bnd rfl)) ?_
     refine z [22,22,38,31,1] ?_
     exact sj (hj4 _) eI
   refine z [23,23,23,23,23,23,37,31,1] ?_
   exact sj (hj4 _) eI
 intro s5
 refine z [8] ?_
 exact rt []
theorem Qg5{x0}{x1}:∀ r,Zn x0 x1=some r->FnOk Tryz.prog 257 [str x0,str x1] [] (.tup [str r.1,bl r.2]) []:=by
 unfold Zn
 refine fs Tryz.func257 fun w S0 γ hγ=>?_
 refine z [2,31,31,1,5,2,30,30] ?_
 refine cb (ca Qb9) fun r1=>?_
 refine z [44,1] ?_
 refine c ?_ ?_
 · refine z [2,30,31,31,1,8,10] ?_
   exact rt []
 refine z [9,4,2,30,30,54] ?_
 refine b fun y3 h4=>?_
 refine s1 (slS h4 Tryz.underlying9 rfl rfl (bnd rfl) bnd0) ?_
 refine z [31,31,1,8] ?_
 exact rt []
theorem Qiz{x0}{x1}:∀ r,Qcg x0 x1=some r->FnOk Tryz.prog 216 [str x0,str x1] [] (.tup [str r.1,bl r.2]) []:=by
 unfold Qcg
 refine fs Tryz.func216 fun w S0 γ hγ=>?_
 refine z [2,31,31,1,2,30,30] ?_
 refine cb (ca Qg5) fun r1=>?_
 refine z [35,35,31,31,1,8] ?_
 exact rt []
theorem Qus{n:Nat}{x0}:∀ r,Qi5 n x0=some r->FnOk Tryz.prog 294 [str x0] [] (i64 r) []:=by
 unfold Qi5
 refine fs Tryz.func294 fun w S0 γ hγ=>?_
 refine z [2,31,1,5,2,30,54,30,1,7] ?_
 refine sloopE 0 Lp.go (fun s27=>[(0,str x0),(2,i64 (0:Int)),(5,i64 (x0.length:Int)),(6,i64 s27)]) (fun s27=>[]) (fun t25=>[(0,str x0),(2,i64 (0:Int))]) (fun t25=>[]) eI ?_ ?_
 · intro hj26 s27
   refine z [2,46,1,5] ?_
   refine c ?_ ?_
   · refine z [9,4,5,7,2,30,31,1] ?_
     refine sjq (fun s34=>[(0,str x0),(2,i64 (0:Int)),(3,i64 s27),(5,i64 (x0.length:Int)),(6,i64 s27),(22,bl s34)]) (fun s34=>[]) ?_ ?_
     · intro j32 hj33
       refine z [6,30,30] ?_
       refine b fun y35 h36=>?_
       refine z [90,68,30] ?_
       refine sifd 13 rfl ?_ ?_
       · refine z [23,23,23,23,38,30,23,23,38,1] ?_
         exact sj (hj33 _) eI
       refine z [22,22] ?_
       refine b fun y37 h38=>?_
       refine z [22,22,37,30] ?_
       refine sifd 19 rfl ?_ ?_
       · refine z [23,23,38,1] ?_
         exact sj (hj33 _) eI
       refine z [22,22,37,1] ?_
       exact sj (hj33 _) eI
     intro s34
     refine c ?_ ?_
     · refine z [2,30,31,1,8,12,10] ?_
       refine sU ?_
       refine z [12,10] ?_
       exact rt []
     refine z [9,11,4,6,40,30,3] ?_
     exact sgo eI
   refine z [14,15] ?_
   exact su (sj (hj26 _) eI)
 intro t25
 refine slpk ?_
 refine z [13,4,5,2,30,72,1] ?_
 refine c ?_ ?_
 · refine z [2,31,1,8,10] ?_
   exact rt []
 refine z [9,4,2,31,1,8] ?_
 exact rt []
theorem Qku{x0}{x1}{x2}{x3}:∀ r,Qbn x0 x1 x2 x3=some r->FnOk Tryz.prog 201 [u32 x0,u32 x1,u32 x2,u32 x3] [] (.tup [u32 r.1,u32 r.2]) []:=by
 unfold Qbn
 refine fs Tryz.func201 fun w S0 γ hγ=>?_
 refine z [2,31,31,1,2,30,59,30,59,63,30,59,61,30,59,61] ?_
 refine sbn (F:=u64) 21 rfl fun z1=>?_
 refine z [31,1,2,30] ?_
 refine s1 (shrU uk64 rfl rfl rfl (k64 (x:=32) rfl)) ?_
 refine z [60,30,60,31,31,1,8] ?_
 exact rt []
end Go.Proofs.YthbndkiddockmaaGreatDoor
