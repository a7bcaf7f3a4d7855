import Derived.Test.YtmnlcblemgjeeaaGreatDoorSC
import Derived.Test.YtmnlcblemgjeeaaGreatDoorBld
import Derived.Test.YtmnlcblemgjeeaaGreatDoorLib
import Derived.Test.YtmnlcblemgjeeaaGreatDoorSW
import Derived.Test.YtmnlcblemgjeeaaGreatDoorMod
set_option maxRecDepth 100000
set_option maxHeartbeats 4000000
namespace Go.Proofs.YtmnlcblemgjeeaaGreatDoor
open Go Go.RowKit Tryz
abbrev Ua:Value:=.slice none 0 0
noncomputable abbrev Ub:=Tryz.prog
abbrev Uh:=underlying33
abbrev Ui:=underlying311
abbrev Uj:=underlying34
abbrev Uk:=underlying26
abbrev Ul:=underlying9
abbrev Um:=underlying50
abbrev Un:=underlying3
abbrev Uo:=underlying29
abbrev Up:=underlying36
abbrev Uq:=underlying102
abbrev Ur:=underlying25
abbrev Us:=underlying46
abbrev Ut:=underlying105
abbrev Uu:=underlying52
abbrev Uv:=underlying55
abbrev Uw:=underlying44
abbrev Ux:=underlying211
abbrev Uy:=underlying315
abbrev Uz:=underlying143
abbrev U0:=underlying227
abbrev U1:=underlying28
abbrev U2:=underlying253
abbrev U4:=underlying39
abbrev U5:=underlying41
abbrev U6:=underlying294
abbrev U7:=underlying5
abbrev U8:=underlying149
abbrev U9:=underlying49
abbrev Ga:=underlying224
abbrev Gb:=underlying306
abbrev Gc:=underlying156
abbrev Gd:=underlying313
theorem ownK:ownKnob Tryz.prog.godebug=none:=od
theorem laidOutK:laidOutB Ub=true:=od
abbrev Xp(xs:List Nat):Ly:=sli 1 (xs.map u32)
abbrev Qv(x:Qi):Ly:=.agg [bl x.Neg,Xp x.N,Xp x.D]
abbrev Q7(xs:List Qi):Ly:=sli 3 (xs.map Qv)
abbrev Za(xs:List (List Qi)):Ly:=sli 1 (xs.map Q7)
abbrev Jx(x:Q6):Ly:=.agg [str x.Name,Q7 x.C,Za x.A,Q7 x.B,Q7 x.E]
abbrev Zt(x:J6):Ly:=.agg [Qv x.a0,Qv x.a1,Qv x.a2]
abbrev Qm(x:Qd):Ly:=.agg [bl x.Neg,Xp x.Gg]
abbrev Qb(x:Qa):Ly:=.agg [Qm x.Num,Xp x.Den]
theorem Qo{a0_0_ a0_1_ a1_}:IF (.agg [.agg [bl a0_0_,sli 1 a0_1_],sli 1 a1_]):=Qg0 (X5 (Qg0 (X5 if_bl (X5 Qbv (Qd8)))) (X5 Qbv (Qd8)))
abbrev Qe(xs:List Qa):Ly:=sli 3 (xs.map Qb)
abbrev Qcg(xs:List (List Qa)):Ly:=sli 1 (xs.map Qe)
abbrev Qq(x:Qg):Ly:=.agg [str x.Name,Qe x.C,Qcg x.A,Qe x.B,Qe x.E]
abbrev Qc8(x:Qas):Ly:=.agg [str x.a0,str x.a1,str x.a2,str x.a3,str x.a4,str x.a5]
abbrev Qk(x:Qc):Ly:=.agg [i64 x.Gf,i64 x.Step,i64 x.Stage,i64 x.At]
abbrev Qy(x:Qu):Ly:=.agg [str x.rest,i64 x.at_,bl x.over]
abbrev Qf7(x:Qah):Ly:=.agg [i64 x.Gf,str x.Text,i64 x.At]
abbrev Jo(x:Qp):Ly:=.agg [i64 x.Op,i64 x.A,i64 x.B,Qb x.N]
abbrev Qmz(xs:List Qp):Ly:=sli 6 (xs.map Jo)
abbrev Qt9(xs:List Int):Ly:=sli 1 (xs.map i64)
abbrev Jf(x:Qs):Ly:=.agg [Qmz x.Code,Qt9 x.Outs,i64 x.Dim,i64 x.Par]
abbrev Qw(x:Qn):Ly:=.agg [Jf x.Tape,Qq x.Ge,Qe x.P,i64 x.Bits]
abbrev Zo(x:Vw):Ly:=.agg [Qcg x.Ys,Qcg x.Ks,Qe x.Next,Qe x.Err]
abbrev Qcy(x:Q3):Ly:=.agg [i64 x.op,i64 x.a,i64 x.b]
abbrev Qdt(x:Vo):Ly:=.agg [i64 x.Seen,i64 x.Peak]
abbrev Qh(x:Qf):Ly:=.agg [Qdt x.Count,i64 x.limit]
theorem Q5{a0_0_ a0_1_ a1_}:IF (.agg [.agg [i64 a0_0_,i64 a0_1_],i64 a1_]):=Qg0 (X5 (Qg0 (X5 Xu (X5 Xu (Qd8)))) (X5 Xu (Qd8)))
abbrev Xe(x:K5):Ly:=.agg [Qb x.T,Qe x.Y,Qe x.P]
abbrev Kl(x:Kj):Ly:=.agg [Qb x.T,Qe x.Y,Qe x.P]
abbrev Qea(x:Qbh):Ly:=.agg [u8 x.a0,u8 x.a1,u8 x.a2,u8 x.a3,u8 x.a4,u8 x.a5,u8 x.a6,u8 x.a7,u8 x.a8]
instance ti_25:CTy Ub 25 5 112 (.agg #[.string ⟨#[]⟩,Ua,Ua,Ua,Ua]):=⟨tyI od⟩
instance sh_25:CSh Ub 25 true 5:=⟨shp Ur rfl ti_25.h⟩
instance ti_9:CTy Ub 9 1 16 (.string ⟨#[]⟩):=⟨tyI od⟩
instance Qxe:CFd Ub 25 0 0:=⟨fdA Ur rfl rfl ti_9.h rfl⟩
instance:CUn Ub 9 (.string):=⟨Ul⟩
instance sh_9:CSh Ub 9 false 1:=⟨shp Ul rfl ti_9.h⟩
instance ti_23:CTy Ub 23 1 24 (Ua):=⟨tyI od⟩
instance Qxf:CFd Ub 25 2 2:=⟨fdA Ur rfl rfl ti_23.h rfl⟩
instance:CUn Ub 23 (.slice 22):=⟨underlying23⟩
instance sh_23:CSh Ub 23 false 1:=⟨shp underlying23 rfl ti_23.h⟩
instance ti_22:CTy Ub 22 1 24 (Ua):=⟨tyI od⟩
instance Qxg:CFd Ub 25 3 3:=⟨fdA Ur rfl rfl ti_22.h rfl⟩
instance:CUn Ub 22 (.slice 28):=⟨underlying22⟩
instance sh_22:CSh Ub 22 false 1:=⟨shp underlying22 rfl ti_22.h⟩
instance ti_28:CTy Ub 28 3 56 (.agg #[.bool false,Ua,Ua]):=⟨tyI od⟩
instance sh_28:CSh Ub 28 true 3:=⟨shp U1 rfl ti_28.h⟩
instance ti_26:CTy Ub 26 1 24 (Ua):=⟨tyI od⟩
instance Qxh:CFd Ub 28 1 1:=⟨fdA U1 rfl rfl ti_26.h rfl⟩
instance:CUn Ub 26 (.slice 124):=⟨Uk⟩
instance sh_26:CSh Ub 26 false 1:=⟨shp Uk rfl ti_26.h⟩
instance Qxi:CFd Ub 28 2 2:=⟨fdA U1 rfl rfl ti_26.h rfl⟩
instance Qxj:CFd Ub 25 1 1:=⟨fdA Ur rfl rfl ti_22.h rfl⟩
instance Qxk:CFd Ub 25 4 4:=⟨fdA Ur rfl rfl ti_22.h rfl⟩
instance:CUn Ub 29 (.array 3 28):=⟨Uo⟩
instance ti_36:CTy Ub 36 5 112 (.agg #[.string ⟨#[]⟩,Ua,Ua,Ua,Ua]):=⟨tyI od⟩
theorem Vu:Zr (Qq (⟨[],[],[],[],[]⟩:Qg)) [.string ⟨#[]⟩,Ua,Ua,Ua,Ua]:=Vh (Ql (c1:=[.string ⟨#[]⟩]) Qar (Ql (c1:=[Ua]) (Vg (k:=3)) (Ql (c1:=[Ua]) (Vg (k:=1)) (Ql (c1:=[Ua]) (Vg (k:=3)) (Ql (c1:=[Ua]) (Vg (k:=3)) (Ka))))))
instance:CZy Ub 36 (Qq (⟨[],[],[],[],[]⟩:Qg)):=⟨_,_,_,ti_36.h,Vu⟩
instance Qoa:CTy Ub 143 6 96 (.agg #[.string ⟨#[]⟩,.string ⟨#[]⟩,.string ⟨#[]⟩,.string ⟨#[]⟩,.string ⟨#[]⟩,.string ⟨#[]⟩]):=⟨tyI od⟩
theorem Qhh:Zr (Qc8 (⟨[],[],[],[],[],[]⟩:Qas)) [.string ⟨#[]⟩,.string ⟨#[]⟩,.string ⟨#[]⟩,.string ⟨#[]⟩,.string ⟨#[]⟩,.string ⟨#[]⟩]:=Vh (Ql (c1:=[.string ⟨#[]⟩]) Qar (Ql (c1:=[.string ⟨#[]⟩]) Qar (Ql (c1:=[.string ⟨#[]⟩]) Qar (Ql (c1:=[.string ⟨#[]⟩]) Qar (Ql (c1:=[.string ⟨#[]⟩]) Qar (Ql (c1:=[.string ⟨#[]⟩]) Qar (Ka)))))))
instance:CZy Ub 143 (Qc8 (⟨[],[],[],[],[],[]⟩:Qas)):=⟨_,_,_,Qoa.h,Qhh⟩
instance:CUn Ub 143 (.array 6 9):=⟨Uz⟩
instance Qya:CSh Ub 143 true 6:=⟨shp Uz rfl Qoa.h⟩
instance ti_46:CTy Ub 46 4 32 (.agg #[.int .i64 0,.int .i64 0,.int .i64 0,.int .i64 0]):=⟨tyI od⟩
theorem Qj:Zr (Qk (⟨0,0,0,0⟩:Qc)) [.int .i64 0,.int .i64 0,.int .i64 0,.int .i64 0]:=Vh (Ql (c1:=[.int .i64 0]) Vy (Ql (c1:=[.int .i64 0]) Vy (Ql (c1:=[.int .i64 0]) Vy (Ql (c1:=[.int .i64 0]) Vy (Ka)))))
instance:CZy Ub 46 (Qk (⟨0,0,0,0⟩:Qc)):=⟨_,_,_,ti_46.h,Qj⟩
instance pl_36:CPl Ub 36 [(0,1),(1,1),(2,1),(3,1),(4,1)]:=⟨⟨_,Up,od⟩⟩
instance pl_46:CPl Ub 46 [(0,1),(1,1),(2,1),(3,1)]:=⟨⟨_,Us,od⟩⟩
instance sh_36:CSh Ub 36 true 5:=⟨shp Up rfl ti_36.h⟩
instance sh_46:CSh Ub 46 true 4:=⟨shp Us rfl ti_46.h⟩
instance Qvq:CTy Ub 253 3 32 (.agg #[.string ⟨#[]⟩,.int .i64 0,.bool false]):=⟨tyI od⟩
instance Qvr:CPl Ub 253 [(0,1),(1,1),(2,1)]:=⟨⟨_,U2,od⟩⟩
theorem Qjk:Zr (Qy (⟨[],0,false⟩:Qu)) [.string ⟨#[]⟩,.int .i64 0,.bool false]:=Vh (Ql (c1:=[.string ⟨#[]⟩]) Qar (Ql (c1:=[.int .i64 0]) Vy (Ql (c1:=[.bool false]) zr_bl (Ka))))
instance ti_4:CTy Ub 4 1 1 (.bool false):=⟨tyI od⟩
instance Qwn:CFd Ub 253 2 2:=⟨fdA U2 rfl rfl ti_4.h rfl⟩
instance:CUn Ub 4 (.bool):=⟨underlying4⟩
instance sh_4:CSh Ub 4 false 1:=⟨shp underlying4 rfl ti_4.h⟩
instance ti_3:CTy Ub 3 1 8 (.int .i64 0):=⟨tyI od⟩
instance Qwo:CFd Ub 253 1 1:=⟨fdA U2 rfl rfl ti_3.h rfl⟩
instance:CUn Ub 3 (.int .i64):=⟨Un⟩
instance sh_3:CSh Ub 3 false 1:=⟨shp Un rfl ti_3.h⟩
theorem fol:Tryz.prog.follows .mixedOrders=true:=od
instance Qwp:CFd Ub 253 0 0:=⟨fdA U2 rfl rfl ti_9.h rfl⟩
instance Qxl:CFd Ub 36 0 0:=⟨fdA Up rfl rfl ti_9.h rfl⟩
instance Qrz:CTy Ub 224 3 32 (.agg #[.int .i64 0,.string ⟨#[]⟩,.int .i64 0]):=⟨tyI od⟩
instance Qr0:CPl Ub 224 [(0,1),(1,1),(2,1)]:=⟨⟨_,Ga,od⟩⟩
theorem Qiw:Zr (Qf7 (⟨0,[],0⟩:Qah)) [.int .i64 0,.string ⟨#[]⟩,.int .i64 0]:=Vh (Ql (c1:=[.int .i64 0]) Vy (Ql (c1:=[.string ⟨#[]⟩]) Qar (Ql (c1:=[.int .i64 0]) Vy (Ka))))
instance Qwq:CFd Ub 224 1 1:=⟨fdA Ga rfl rfl ti_9.h rfl⟩
instance Qwr:CFd Ub 224 0 0:=⟨fdA Ga rfl rfl ti_3.h rfl⟩
instance:CUn Ub 21 (.int .i32):=⟨underlying21⟩
instance:CUn Ub 5 (.int .u8):=⟨U7⟩
instance ti_41:CTy Ub 41 3 56 (.agg #[.bool false,Ua,Ua]):=⟨tyI od⟩
theorem J2:Zr (Qm (⟨false,[]⟩:Qd)) [.bool false,Ua]:=Vh (Ql (c1:=[.bool false]) zr_bl (Ql (c1:=[Ua]) (Vg (k:=1)) (Ka)))
theorem Kr:Zr (Qb (⟨(⟨false,[]⟩:Qd),[]⟩:Qa)) [.bool false,Ua,Ua]:=Vh (Ql (c1:=[.bool false,Ua]) J2 (Ql (c1:=[Ua]) (Vg (k:=1)) (Ka)))
instance:CZy Ub 41 (Qb (⟨(⟨false,[]⟩:Qd),[]⟩:Qa)):=⟨_,_,_,ti_41.h,Kr⟩
instance ti_39:CTy Ub 39 2 32 (.agg #[.bool false,Ua]):=⟨tyI od⟩
instance:CZy Ub 39 (Qm (⟨false,[]⟩:Qd)):=⟨_,_,_,ti_39.h,J2⟩
instance:CUn Ub 124 (.int .u32):=⟨underlying124⟩
instance Xf:CTy Ub 124 1 4 (.int .u32 0):=⟨tyI od⟩
instance Qyb:CSh Ub 124 false 1:=⟨shp underlying124 rfl Xf.h⟩
instance:CUn Ub 108 (.int .u64):=⟨underlying108⟩
theorem Ke:EqF Ub 2 46 (λx:Qc=>.agg [i64 x.Gf,i64 x.Step,i64 x.Stage,i64 x.At]) Qt:=
 Qj2 Us od (Z1 rfl rfl sh_3.h (λ_=>rfl) (λ_=>rfl) (Qa8 (λx:Qc=>x.Gf) (Qct (n:=0) Un)) (Z1 rfl rfl sh_3.h (λ_=>rfl) (λ_=>rfl) (Qa8 (λx:Qc=>x.Step) (Qct (n:=0) Un)) (Z1 rfl rfl sh_3.h (λ_=>rfl) (λ_=>rfl) (Qa8 (λx:Qc=>x.Stage) (Qct (n:=0) Un)) (Z1 rfl rfl sh_3.h (λ_=>rfl) (λ_=>rfl) (Qa8 (λx:Qc=>x.At) (Qct (n:=0) Un)) (Qnz)))))
theorem eg_46:Tryz.prog.eqGuardType Tryz.prog.depth 46=false:=od
instance Qxm:CFd Ub 46 3 3:=⟨fdA Us rfl rfl ti_3.h rfl⟩
instance pl_39:CPl Ub 39 [(0,1),(1,1)]:=⟨⟨_,U4,od⟩⟩
instance sh_39:CSh Ub 39 true 2:=⟨shp U4 rfl ti_39.h⟩
instance pl_41:CPl Ub 41 [(0,2),(2,1)]:=⟨⟨_,U5,od⟩⟩
instance sh_41:CSh Ub 41 true 3:=⟨shp U5 rfl ti_41.h⟩
instance Qxn:CFd Ub 39 1 1:=⟨fdA U4 rfl rfl ti_26.h rfl⟩
instance Qxo:CFd Ub 39 0 0:=⟨fdA U4 rfl rfl ti_4.h rfl⟩
instance:CUn Ub 227 (.slice 26):=⟨U0⟩
instance:CUn Ub 149 (.slice 9):=⟨U8⟩
instance:CUn Ub 33 (.slice 41):=⟨Uh⟩
instance ti_33:CTy Ub 33 1 24 (Ua):=⟨tyI od⟩
instance Qxp:CFd Ub 36 1 1:=⟨fdA Up rfl rfl ti_33.h rfl⟩
instance sh_33:CSh Ub 33 false 1:=⟨shp Uh rfl ti_33.h⟩
instance ti_34:CTy Ub 34 1 24 (Ua):=⟨tyI od⟩
instance Qxq:CFd Ub 36 2 2:=⟨fdA Up rfl rfl ti_34.h rfl⟩
instance:CUn Ub 34 (.slice 33):=⟨Uj⟩
instance sh_34:CSh Ub 34 false 1:=⟨shp Uj rfl ti_34.h⟩
instance Qxr:CFd Ub 36 3 3:=⟨fdA Up rfl rfl ti_33.h rfl⟩
instance Qxs:CFd Ub 36 4 4:=⟨fdA Up rfl rfl ti_33.h rfl⟩
instance Qxt:CFd Ub 41 1 2:=⟨fdA U5 rfl rfl ti_26.h rfl⟩
instance Qxu:CFd Ub 41 0 0:=⟨fdA U5 rfl rfl ti_39.h rfl⟩
instance ti_52:CTy Ub 52 4 64 (.agg #[Ua,Ua,.int .i64 0,.int .i64 0]):=⟨tyI od⟩
theorem Qek:Zr (Jf (⟨[],[],0,0⟩:Qs)) [Ua,Ua,.int .i64 0,.int .i64 0]:=Vh (Ql (c1:=[Ua]) (Vg (k:=6)) (Ql (c1:=[Ua]) (Vg (k:=1)) (Ql (c1:=[.int .i64 0]) Vy (Ql (c1:=[.int .i64 0]) Vy (Ka)))))
instance:CZy Ub 52 (Jf (⟨[],[],0,0⟩:Qs)):=⟨_,_,_,ti_52.h,Qek⟩
instance Qfn:CTy Ub 105 6 80 (.agg #[.int .i64 0,.int .i64 0,.int .i64 0,.bool false,Ua,Ua]):=⟨tyI od⟩
instance Qob:CPl Ub 105 [(0,1),(1,1),(2,1),(3,3)]:=⟨⟨_,Ut,od⟩⟩
theorem Qch:Zr (Jo (⟨0,0,0,(⟨(⟨false,[]⟩:Qd),[]⟩:Qa)⟩:Qp)) [.int .i64 0,.int .i64 0,.int .i64 0,.bool false,Ua,Ua]:=Vh (Ql (c1:=[.int .i64 0]) Vy (Ql (c1:=[.int .i64 0]) Vy (Ql (c1:=[.int .i64 0]) Vy (Ql (c1:=[.bool false,Ua,Ua]) Kr (Ka)))))
instance:CUn Ub 49 (.slice 105):=⟨U9⟩
instance:CUn Ub 50 (.slice 3):=⟨Um⟩
instance pl_52:CPl Ub 52 [(0,1),(1,1),(2,1),(3,1)]:=⟨⟨_,Uu,od⟩⟩
instance sh_52:CSh Ub 52 true 4:=⟨shp Uu rfl ti_52.h⟩
instance ti_55:CTy Ub 55 11 208 (.agg #[Ua,Ua,.int .i64 0,.int .i64 0,.string ⟨#[]⟩,Ua,Ua,Ua,Ua,Ua,.int .i64 0]):=⟨tyI od⟩
instance pl_55:CPl Ub 55 [(0,4),(4,5),(9,1),(10,1)]:=⟨⟨_,Uv,od⟩⟩
theorem Qci:Zr (Qw (⟨(⟨[],[],0,0⟩:Qs),(⟨[],[],[],[],[]⟩:Qg),[],0⟩:Qn)) [Ua,Ua,.int .i64 0,.int .i64 0,.string ⟨#[]⟩,Ua,Ua,Ua,Ua,Ua,.int .i64 0]:=Vh (Ql (c1:=[Ua,Ua,.int .i64 0,.int .i64 0]) Qek (Ql (c1:=[.string ⟨#[]⟩,Ua,Ua,Ua,Ua]) Vu (Ql (c1:=[Ua]) (Vg (k:=3)) (Ql (c1:=[.int .i64 0]) Vy (Ka)))))
instance ti_44:CTy Ub 44 4 96 (.agg #[Ua,Ua,Ua,Ua]):=⟨tyI od⟩
theorem Qel:Zr (Zo (⟨[],[],[],[]⟩:Vw)) [Ua,Ua,Ua,Ua]:=Vh (Ql (c1:=[Ua]) (Vg (k:=1)) (Ql (c1:=[Ua]) (Vg (k:=1)) (Ql (c1:=[Ua]) (Vg (k:=3)) (Ql (c1:=[Ua]) (Vg (k:=3)) (Ka)))))
instance:CZy Ub 44 (Zo (⟨[],[],[],[]⟩:Vw)):=⟨_,_,_,ti_44.h,Qel⟩
instance sh_55:CSh Ub 55 true 11:=⟨shp Uv rfl ti_55.h⟩
instance Qxv:CFd Ub 55 0 0:=⟨fdA Uv rfl rfl ti_52.h rfl⟩
instance Qxw:CFd Ub 52 2 2:=⟨fdA Uu rfl rfl ti_3.h rfl⟩
instance Qxx:CFd Ub 52 3 3:=⟨fdA Uu rfl rfl ti_3.h rfl⟩
instance ti_50:CTy Ub 50 1 24 (Ua):=⟨tyI od⟩
instance Qxy:CFd Ub 52 1 1:=⟨fdA Uu rfl rfl ti_50.h rfl⟩
instance sh_50:CSh Ub 50 false 1:=⟨shp Um rfl ti_50.h⟩
instance ti_49:CTy Ub 49 1 24 (Ua):=⟨tyI od⟩
instance Qxz:CFd Ub 52 0 0:=⟨fdA Uu rfl rfl ti_49.h rfl⟩
instance sh_49:CSh Ub 49 false 1:=⟨shp U9 rfl ti_49.h⟩
instance Qyc:CSh Ub 105 true 6:=⟨shp Ut rfl Qfn.h⟩
instance:CZy Ub 105 (Jo (⟨0,0,0,(⟨(⟨false,[]⟩:Qd),[]⟩:Qa)⟩:Qp)):=⟨_,_,_,Qfn.h,Qch⟩
instance Qws:CFd Ub 105 0 0:=⟨fdA Ut rfl rfl ti_3.h rfl⟩
instance Qhi:CTy Ub 306 3 24 (.agg #[.int .i64 0,.int .i64 0,.int .i64 0]):=⟨tyI od⟩
theorem Zu:Zr (Qcy (⟨0,0,0⟩:Q3)) [.int .i64 0,.int .i64 0,.int .i64 0]:=Vh (Ql (c1:=[.int .i64 0]) Vy (Ql (c1:=[.int .i64 0]) Vy (Ql (c1:=[.int .i64 0]) Vy (Ka))))
instance:CZy Ub 306 (Qcy (⟨0,0,0⟩:Q3)):=⟨_,_,_,Qhi.h,Zu⟩
instance Qwt:CFd Ub 105 1 1:=⟨fdA Ut rfl rfl ti_3.h rfl⟩
instance Qwu:CFd Ub 105 2 2:=⟨fdA Ut rfl rfl ti_3.h rfl⟩
instance Qoc:CPl Ub 306 [(0,1),(1,1),(2,1)]:=⟨⟨_,Gb,od⟩⟩
instance Qyd:CSh Ub 306 true 3:=⟨shp Gb rfl Qhi.h⟩
theorem Qod:EqF Ub 2 306 (λx:Q3=>.agg [i64 x.op,i64 x.a,i64 x.b]) Wb:=
 Qj2 Gb od (Z1 rfl rfl sh_3.h (λ_=>rfl) (λ_=>rfl) (Qa8 (λx:Q3=>x.op) (Qct (n:=0) Un)) (Z1 rfl rfl sh_3.h (λ_=>rfl) (λ_=>rfl) (Qa8 (λx:Q3=>x.a) (Qct (n:=0) Un)) (Z1 rfl rfl sh_3.h (λ_=>rfl) (λ_=>rfl) (Qa8 (λx:Q3=>x.b) (Qct (n:=0) Un)) (Qnz))))
theorem Qr1:Tryz.prog.eqGuardType Tryz.prog.depth 306=false:=od
instance Qwv:CFd Ub 105 3 3:=⟨fdA Ut rfl rfl ti_41.h rfl⟩
instance Qx0:CFd Ub 55 1 4:=⟨fdA Uv rfl rfl ti_36.h rfl⟩
instance Qx1:CFd Ub 55 2 9:=⟨fdA Uv rfl rfl ti_33.h rfl⟩
instance pl_44:CPl Ub 44 [(0,1),(1,1),(2,1),(3,1)]:=⟨⟨_,Uw,od⟩⟩
instance sh_44:CSh Ub 44 true 4:=⟨shp Uw rfl ti_44.h⟩
instance Qx2:CFd Ub 55 3 10:=⟨fdA Uv rfl rfl ti_3.h rfl⟩
instance Qvs:CTy Ub 156 3 24 (.agg #[.int .i64 0,.int .i64 0,.int .i64 0]):=⟨tyI od⟩
instance Qvt:CPl Ub 156 [(0,2),(2,1)]:=⟨⟨_,Gc,od⟩⟩
theorem Qli:Zr (Qdt (⟨0,0⟩:Vo)) [.int .i64 0,.int .i64 0]:=Vh (Ql (c1:=[.int .i64 0]) Vy (Ql (c1:=[.int .i64 0]) Vy (Ka)))
theorem Qlj:Zr (Qh (⟨(⟨0,0⟩:Vo),0⟩:Qf)) [.int .i64 0,.int .i64 0,.int .i64 0]:=Vh (Ql (c1:=[.int .i64 0,.int .i64 0]) Qli (Ql (c1:=[.int .i64 0]) Vy (Ka)))
instance Qvu:CTy Ub 102 23 448 (.agg #[Ua,Ua,.int .i64 0,.int .i64 0,.string ⟨#[]⟩,Ua,Ua,Ua,Ua,Ua,.int .i64 0,.bool false,Ua,Ua,.bool false,Ua,Ua,Ua,.pointer none,Ua,Ua,Ua,Ua]):=⟨tyI od⟩
instance Qvv:CPl Ub 102 [(0,11),(11,3),(14,3),(17,1),(18,1),(19,4)]:=⟨⟨_,Uq,od⟩⟩
instance Qww:CFd Ub 102 0 0:=⟨fdA Uq rfl rfl ti_55.h rfl⟩
instance Qwx:CFd Ub 102 3 17:=⟨fdA Uq rfl rfl ti_33.h rfl⟩
instance Qwy:CFd Ub 102 5 19:=⟨fdA Uq rfl rfl ti_44.h rfl⟩
instance Qx3:CFd Ub 44 1 1:=⟨fdA Uw rfl rfl ti_34.h rfl⟩
instance Qwz:CFd Ub 102 2 14:=⟨fdA Uq rfl rfl ti_41.h rfl⟩
instance ti_99:CTy Ub 99 1 8 (.pointer none):=⟨tyI od⟩
instance Qw0:CFd Ub 102 4 18:=⟨fdA Uq rfl rfl ti_99.h rfl⟩
instance sh_99:CSh Ub 99 false 1:=⟨shp underlying99 rfl ti_99.h⟩
instance Qvw:CTy Ub 154 2 16 (.agg #[.int .i64 0,.int .i64 0]):=⟨tyI od⟩
instance Qw1:CFd Ub 156 0 0:=⟨fdA Gc rfl rfl Qvw.h rfl⟩
instance Qw2:CFd Ub 154 0 0:=⟨fdA underlying154 rfl rfl ti_3.h rfl⟩
instance Qw3:CFd Ub 154 1 1:=⟨fdA underlying154 rfl rfl ti_3.h rfl⟩
instance Qw4:CFd Ub 156 1 2:=⟨fdA Gc rfl rfl ti_3.h rfl⟩
instance Qw5:CFd Ub 102 1 11:=⟨fdA Uq rfl rfl ti_41.h rfl⟩
instance Qkc:CTy Ub 211 5 104 (.agg #[.bool false,Ua,Ua,Ua,Ua]):=⟨tyI od⟩
theorem Qdu:Zr (Xe (⟨(⟨(⟨false,[]⟩:Qd),[]⟩:Qa),[],[]⟩:K5)) [.bool false,Ua,Ua,Ua,Ua]:=Vh (Ql (c1:=[.bool false,Ua,Ua]) Kr (Ql (c1:=[Ua]) (Vg (k:=3)) (Ql (c1:=[Ua]) (Vg (k:=3)) (Ka))))
instance:CZy Ub 211 (Xe (⟨(⟨(⟨false,[]⟩:Qd),[]⟩:Qa),[],[]⟩:K5)):=⟨_,_,_,Qkc.h,Qdu⟩
instance Qr2:CPl Ub 211 [(0,3),(3,1),(4,1)]:=⟨⟨_,Ux,od⟩⟩
instance Qye:CSh Ub 211 true 5:=⟨shp Ux rfl Qkc.h⟩
instance Qw6:CFd Ub 211 0 0:=⟨fdA Ux rfl rfl ti_41.h rfl⟩
instance Qw7:CFd Ub 211 1 3:=⟨fdA Ux rfl rfl ti_33.h rfl⟩
instance Qw8:CFd Ub 211 2 4:=⟨fdA Ux rfl rfl ti_33.h rfl⟩
instance Qoe:CTy Ub 311 1 8 (.agg #[.pointer none]):=⟨tyI od⟩
instance Qvx:CPl Ub 311 [(0,1)]:=⟨⟨_,Ui,od⟩⟩
instance Qof:CTy Ub 313 1 8 (.agg #[.pointer none]):=⟨tyI od⟩
instance Qvy:CPl Ub 313 [(0,1)]:=⟨⟨_,Gd,od⟩⟩
instance Qyf:CSh Ub 313 true 1:=⟨shp Gd rfl Qof.h⟩
instance Qr3:CTy Ub 315 5 104 (.agg #[.bool false,Ua,Ua,Ua,Ua]):=⟨tyI od⟩
instance Qvz:CPl Ub 315 [(0,3),(3,1),(4,1)]:=⟨⟨_,Uy,od⟩⟩
theorem Qem:Zr (Kl (⟨(⟨(⟨false,[]⟩:Qd),[]⟩:Qa),[],[]⟩:Kj)) [.bool false,Ua,Ua,Ua,Ua]:=Vh (Ql (c1:=[.bool false,Ua,Ua]) Kr (Ql (c1:=[Ua]) (Vg (k:=3)) (Ql (c1:=[Ua]) (Vg (k:=3)) (Ka))))
instance Qw9:CFd Ub 315 1 3:=⟨fdA Uy rfl rfl ti_33.h rfl⟩
instance Qxa:CFd Ub 315 2 4:=⟨fdA Uy rfl rfl ti_33.h rfl⟩
instance Qyg:CSh Ub 315 true 5:=⟨shp Uy rfl Qr3.h⟩
instance Qxb:CFd Ub 313 0 0:=⟨fdA Gd rfl rfl Qoe.h rfl⟩
instance Qdf:CSh Ub 311 true 1:=⟨shp Ui rfl Qoe.h⟩
theorem Qqk:MethF Ub 311 "Neg" 324:=⟨od,_,Ui⟩
theorem Qql:MethF Ub 311 "Pow" 326:=⟨od,_,Ui⟩
theorem Qqm:MethF Ub 311 "Add" 321:=⟨od,_,Ui⟩
theorem Qqn:MethF Ub 311 "Sub" 328:=⟨od,_,Ui⟩
theorem Qqo:MethF Ub 311 "Mul" 323:=⟨od,_,Ui⟩
theorem Qqp:MethF Ub 311 "Quo" 327:=⟨od,_,Ui⟩
theorem Qr4:MethF Ub 311 "Of" 325:=⟨od,_,Ui⟩
instance Qxc:CFd Ub 315 0 0:=⟨fdA Uy rfl rfl ti_41.h rfl⟩
theorem Qpe:MethF Ub 311 "Fits" 322:=⟨od,_,Ui⟩
instance Qxd:CFd Ub 311 0 0:=⟨fdA Ui rfl rfl ti_99.h rfl⟩
instance Qx4:CFd Ub 46 2 2:=⟨fdA Us rfl rfl ti_3.h rfl⟩
instance Qx5:CFd Ub 44 0 0:=⟨fdA Uw rfl rfl ti_34.h rfl⟩
instance Qx6:CFd Ub 44 2 2:=⟨fdA Uw rfl rfl ti_33.h rfl⟩
instance Qx7:CFd Ub 44 3 3:=⟨fdA Uw rfl rfl ti_33.h rfl⟩
instance Qv0:CTy Ub 294 9 9 (.agg #[.int .u8 0,.int .u8 0,.int .u8 0,.int .u8 0,.int .u8 0,.int .u8 0,.int .u8 0,.int .u8 0,.int .u8 0]):=⟨tyI od⟩
theorem Qs6:Zr (Qea (⟨0,0,0,0,0,0,0,0,0⟩:Qbh)) [.int .u8 0,.int .u8 0,.int .u8 0,.int .u8 0,.int .u8 0,.int .u8 0,.int .u8 0,.int .u8 0,.int .u8 0]:=Vh (Ql (c1:=[.int .u8 0]) zr_u8 (Ql (c1:=[.int .u8 0]) zr_u8 (Ql (c1:=[.int .u8 0]) zr_u8 (Ql (c1:=[.int .u8 0]) zr_u8 (Ql (c1:=[.int .u8 0]) zr_u8 (Ql (c1:=[.int .u8 0]) zr_u8 (Ql (c1:=[.int .u8 0]) zr_u8 (Ql (c1:=[.int .u8 0]) zr_u8 (Ql (c1:=[.int .u8 0]) zr_u8 (Ka))))))))))
instance:CZy Ub 294 (Qea (⟨0,0,0,0,0,0,0,0,0⟩:Qbh)):=⟨_,_,_,Qv0.h,Qs6⟩
instance ti_5:CTy Ub 5 1 1 (.int .u8 0):=⟨tyI od⟩
instance:CUn Ub 294 (.array 9 5):=⟨U6⟩
instance sh_5:CSh Ub 5 false 1:=⟨shp U7 rfl ti_5.h⟩
theorem Qog:∀ l:List Nat,l.length=9->(.agg (l.map u8):Ly)=Qea (Qhf l)
 | [a0,a1,a2,a3,a4,a5,a6,a7,a8],_=>rfl
 | [],h=>by simp at h
 | [_],h=>by simp at h
 | [_,_],h=>by simp at h
 | [_,_,_],h=>by simp at h
 | [_,_,_,_],h=>by simp at h
 | [_,_,_,_,_],h=>by simp at h
 | [_,_,_,_,_,_],h=>by simp at h
 | [_,_,_,_,_,_,_],h=>by simp at h
 | [_,_,_,_,_,_,_,_],h=>by simp at h
 | _::_::_::_::_::_::_::_::_::_::_,h=>by simp at h
instance:CUn Ub 198 (.slice 5):=⟨underlying198⟩
instance Qv1:CTy Ub 200 2 32 (.agg #[.pointer none,Ua]):=⟨tyI od⟩
instance Qx8:CFd Ub 28 0 0:=⟨fdA U1 rfl rfl ti_4.h rfl⟩
instance Qx9:CFd Ub 46 0 0:=⟨fdA Us rfl rfl ti_3.h rfl⟩
abbrev wF(x0:Qg)(x2:List Int)(q:Qa):List (Nat×Ct):=[(0,.sl 3 1 (List.map i64 x2)),(110,.bx 36 (Qq x0)),(111,.bx 41 (Qb (⟨(⟨false,[]⟩:Qd),[]⟩:Qa))),(112,.bx 41 (Qb q))]
theorem wO{x0 x2 q}:Out (wF x0 x2 q):=Qvp rfl
theorem wC{x0 x2 q}:AllR (wF x0 x2 q):=⟨.inl (rc_sl CIFs.h),.inl (rc_bx (rn_id CIF.h)),.inl (rc_bx (rn_id CIF.h)),.inl (rc_bx (rn_id CIF.h)),trivial⟩
theorem lk_ap{β:Type}{f0 m:List (Nat×β)}{y:Nat}{c:Option β}(h1:lk f0 y=none)(h:lk m y=c):lk (f0++m) y=c:=by rw[Qb0,h1];exact h
theorem wK{x0 x2 q q' m}(hz:lk m 0=some (.sl 3 1 (List.map i64 x2)))(h0:lk m 110=some (.bx 36 (Qq x0)))(h1:lk m 111=some (.bx 41 (Qb (⟨(⟨false,[]⟩:Qd),[]⟩:Qa))))(h2:lk m 112=some (.bx 41 (Qb q')))(e:q=q'):∀ y c,lk (wF x0 x2 q) y=some c->∃ c0,lk m y=some c0/\RnC1 [] c0 c:=by subst e;intro y c h;have hh:=h;by_cases a0:y=0;subst a0;cases h;exact⟨_,hz,.inl (rc_sl CIFs.h)⟩;by_cases a:y=110;subst a;cases h;exact⟨_,h0,.inl (rc_bx (rn_id CIF.h))⟩;by_cases b:y=111;subst b;cases h;exact⟨_,h1,.inl (rc_bx (rn_id CIF.h))⟩;by_cases d:y=112;subst d;cases h;exact⟨_,h2,.inl (rc_bx (rn_id CIF.h))⟩;rw[show wF x0 x2 q=(0,_)::(110,_)::(111,_)::(112,_)::[] from rfl,lk_ne a0,lk_ne a,lk_ne b,lk_ne d] at h;cases h
theorem wG{x0 x2 q}{γ:Nm}(hγ:∀ id,lk [(0,Ct.sl 3 1 (List.map i64 x2))] id=none->γ id=none):∀ id v,γ id=some v->∃ c,lk (wF x0 x2 q) id=some c:=by intro id v h;by_cases e:id=0;subst e;exact⟨_,rfl⟩;rw[hγ id (by rw[lk_ne e];rfl)] at h;cases h
theorem Qkd{α:Type}{s:List α}{p:Int}{r:α}(h:getI s p=some r):p=(p.toNat:Int):=by have:=(V9 h).1;omega
theorem rwM7{α:Type}{s:List (List α)}{p:Int}{r:List α}(h:getI s p=some r):getI ((List.range s.length).map λj=>200+j) p=some (200+p.toNat):=by
 obtain⟨n,rfl⟩:∃ n:Nat,p=n:=⟨p.toNat,Qkd h⟩
 have hl:=rwLt h;simp[getI,xo,vz hl]
theorem rw7P{α:Type}{s:List (List α)}{p:Int}{r:List α}(h:getI s p=some r):getI ((List.range s.length).map λj=>if j=p.toNat then 7 else 200+j) p=some 7:=by
 obtain⟨n,rfl⟩:∃ n:Nat,p=n:=⟨p.toNat,Qkd h⟩
 have:=rw7I h
 simpa using this
theorem rwLtP{α:Type}{s:List (List α)}{p:Int}{r:List α}(h:getI s p=some r):p.toNat<s.length:=by have h:=(V9 h).2;rcases xn p.toNat s.length with h' | h';exact h';rw[ol h'] at h;cases h
theorem set7{n i:Nat}(h:i<n):((List.range n).map λj=>if j=i then 7 else 200+j).set i 7=(List.range n).map λj=>if j=i then 7 else 200+j:=Qji (by rw[xo,vz h];simp)
theorem idN{x0 x2 q y}(h:200<=y):lk (idn (wF x0 x2 q)) y=none:=by rw[Qrx,wO y (.inr (.inr h))]
theorem takO{x0 x2 q n i j}(hj:j<n)(hne:j≠i):lk (idn (wF x0 x2 q)++takS n i) (200+j)=some (200+j):=by refine lk_ap (idN om) ?_;rw[Qib,oh om,oh om,oi ⟨om,om,om⟩]
theorem namO{x0 x2 q n i j}(hj:j<n)(hne:j≠i):lk (idn (wF x0 x2 q)++namS n λj=>if j=i then 7 else 200+j) (200+j)=some (200+j):=by refine lk_ap (idN om) ?_;rw[Qbf,oh om,oi ⟨om,om⟩,show 200+j - 200=j by omega,oh hne]
theorem tR_{p:Prop}(h:p:=by (repeat (first | exact trivial | refine⟨⟨_,rfl,(by first | exact rn_id CIF.h | exact J3 rfl)⟩,?_⟩))):p:=h
abbrev wB(x1:List Qa):List (Nat×Ly):=[(1,sli 3 (List.map Qb x1)),(2,.own 0),(3,.own 110),(6,.own 111),(7,bl false),(8,.own 112),(9,.own 100)]
abbrev Uc xs:=sli 3 (List.map Qb xs)
abbrev Ud xs:=sli 1 (List.map u32 xs)
abbrev Ue xs:=sli 1 (List.map Qe xs)
abbrev Uf xs:=sli 1 (List.map i64 xs)
abbrev Ug xs:=sli 3 (List.map Qv xs)
instance:CNs 0 1 _ u32:=⟨trivial⟩
instance:CNs 1 3 _ Qb:=⟨trivial⟩
instance:CNs 2 1 _ i64:=⟨trivial⟩
instance:CNs 3 1 _ Qe:=⟨trivial⟩
instance:CZy Ub 253 (Qy (⟨[],0,false⟩:Qu)):=⟨_,_,_,Qvq.h,Qjk⟩
instance:CZy Ub 224 (Qf7 (⟨0,[],0⟩:Qah)):=⟨_,_,_,Qrz.h,Qiw⟩
instance:CZy Ub 156 (Qh (⟨(⟨0,0⟩:Vo),0⟩:Qf)):=⟨_,_,_,Qvs.h,Qlj⟩
instance:CZy Ub 315 (Kl (⟨(⟨(⟨false,[]⟩:Qd),[]⟩:Qa),[],[]⟩:Kj)):=⟨_,_,_,Qr3.h,Qem⟩
instance:CZy Ub 55 (Qw (⟨(⟨[],[],0,0⟩:Qs),(⟨[],[],[],[],[]⟩:Qg),[],0⟩:Qn)):=⟨_,_,_,ti_55.h,Qci⟩
instance:CFo Ub:=⟨fol⟩
abbrev FO{R:Type}(f:Nat)(a:List Ly)(s:R->Ly)(m:Option R):Prop:=∀ r,m=some r->FnOk Ub f a [] (s r) []
abbrev FM{R:Type}(f:Nat)(a:List Ly)(i:List (Nat×Ct))(s:R->Ly)(o:R->List (Nat×Ct))(m:Option R):Prop:=∀ r,m=some r->FnOk Ub f a i (s r) (o r)
end Go.Proofs.YtmnlcblemgjeeaaGreatDoor
