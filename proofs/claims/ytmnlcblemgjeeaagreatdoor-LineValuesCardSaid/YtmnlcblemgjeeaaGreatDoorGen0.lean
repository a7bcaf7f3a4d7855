import Derived.Test.YtmnlcblemgjeeaaGreatDoorSC
import Derived.Test.YtmnlcblemgjeeaaGreatDoorBld
import Derived.Test.YtmnlcblemgjeeaaGreatDoorLib
import Derived.Test.YtmnlcblemgjeeaaGreatDoorMod
set_option maxRecDepth 100000
set_option maxHeartbeats 4000000
namespace Go.Proofs.YtmnlcblemgjeeaaGreatDoor
open Go Go.RowKit Tryz
abbrev Ua:Value:=.slice none 0 0
noncomputable abbrev Ub:=Tryz.prog
abbrev Uj:=underlying26
abbrev Uk:=underlying33
abbrev Ul:=underlying176
abbrev Um:=underlying22
abbrev Un:=underlying9
abbrev Uo:=underlying3
abbrev Uq:=underlying34
abbrev Ur:=underlying66
abbrev Us:=underlying36
abbrev Ut:=underlying64
abbrev Uu:=underlying105
abbrev Uv:=underlying52
abbrev Uw:=underlying46
abbrev Ux:=underlying83
abbrev Uy:=underlying180
abbrev Uz:=underlying50
abbrev U0:=underlying28
abbrev U1:=underlying55
abbrev U2:=underlying236
abbrev U4:=underlying143
abbrev U5:=underlying227
abbrev U6:=underlying120
abbrev U7:=underlying253
abbrev U8:=underlying39
abbrev U9:=underlying41
abbrev Ga:=underlying75
abbrev Gb:=underlying70
abbrev Gc:=underlying190
abbrev Gd:=underlying294
abbrev Ge:=underlying5
abbrev Gf:=underlying149
abbrev Gg:=underlying49
abbrev Gh:=underlying224
abbrev Gi:=underlying306
theorem ownK:ownKnob Tryz.prog.godebug=none:=ox
theorem laidOutK:laidOutB Ub=true:=ox
abbrev Qak(xs:List Nat):Ly:=sli 1 (xs.map u32)
abbrev Qb(x:Qa):Ly:=.agg [bl x.Neg,Qak x.N,Qak x.D]
theorem Jb{a0_ a1_ a2_}:IF (.agg [bl a0_,sli 1 a1_,sli 1 a2_]):=Qgk (Xd if_bl (Xd Wg (Xd Wg (Qcs))))
abbrev Jp(xs:List Qa):Ly:=sli 3 (xs.map Qb)
abbrev Q4(x:Qi):Ly:=.agg [Jp x.Up,Jp x.Gk]
abbrev Qv(x:Qu):Ly:=.agg [Qb x.T,Jp x.Y,Jp x.U,Jp x.V]
abbrev Qq(x:Qh):Ly:=.agg [bl x.Neg,Qak x.Gj]
abbrev Qd(x:Qc):Ly:=.agg [Qq x.Num,Qak x.Den]
theorem Qhr{a0_0_ a0_1_ a1_}:IF (.agg [.agg [bl a0_0_,sli 1 a0_1_],sli 1 a1_]):=Qgk (Xd (Qgk (Xd if_bl (Xd Wg (Qcs)))) (Xd Wg (Qcs)))
abbrev Kw(x:Q7):Ly:=.agg [i64 x.Op,i64 x.A,i64 x.B,Qd x.N]
abbrev Quc(xs:List Q7):Ly:=sli 6 (xs.map Kw)
abbrev Q2t(xs:List Int):Ly:=sli 1 (xs.map i64)
abbrev Wc(x:Js):Ly:=.agg [Quc x.Code,Q2t x.Outs,i64 x.Dim,i64 x.Par]
abbrev Qo(xs:List Qc):Ly:=sli 3 (xs.map Qd)
abbrev Qq0(xs:List (List Qc)):Ly:=sli 1 (xs.map Qo)
abbrev Jk(x:Qr):Ly:=.agg [str x.Name,Qo x.C,Qq0 x.A,Qo x.B,Qo x.E]
abbrev Qia(x:Qez):Ly:=.agg [str x.a0,str x.a1,str x.a2,str x.a3,str x.a4,str x.a5]
abbrev Qn(x:Qe):Ly:=.agg [i64 x.Kind,i64 x.Step,i64 x.Stage,i64 x.At]
abbrev Jc(x:Qz):Ly:=.agg [str x.rest,i64 x.at_,bl x.over]
abbrev Qm7(x:Qgq):Ly:=.agg [i64 x.Kind,str x.Text,i64 x.At]
abbrev Xs(x:J9):Ly:=.agg [Wc x.Tape,Jk x.Scheme,Qo x.P,i64 x.Bits]
abbrev Yj(x:Wi):Ly:=.agg [Qd x.T,Qo x.Y,Qo x.U,Qo x.V]
abbrev Qg(x:Qf):Ly:=.agg [Qo x.Up,Qo x.Gk]
theorem Jo{a0_ a1_}:IF (.agg [sli 3 a0_,sli 3 a1_]):=Qgk (Xd Wg (Xd Wg (Qcs)))
abbrev J7(xs:List Qf):Ly:=sli 2 (xs.map Qg)
abbrev Qhs(x:Jl):Ly:=.agg [i64 x.op,i64 x.a,i64 x.b]
abbrev Yz(x:Vi):Ly:=.agg [i64 x.degree]
theorem Yt{a0_}:IF (.agg [i64 a0_]):=Qgk (Xd Qew (Qcs))
abbrev Je(x:Q0):Ly:=.agg [Yz x.Arith]
abbrev W1(x:Xl):Ly:=.agg [Xs x.p,Je x.m,J7 x.ps,Qd x.t,J7 x.y]
abbrev Vs(x:Vp):Ly:=.agg [Qg x.T,J7 x.Y,J7 x.P]
abbrev Qji(x:Qf1):Ly:=.agg [u8 x.a0,u8 x.a1,u8 x.a2,u8 x.a3,u8 x.a4,u8 x.a5,u8 x.a6,u8 x.a7,u8 x.a8]
abbrev Ky(x:Qm):Ly:=.agg [bl x.Neg,Qak x.Gj]
abbrev Y6(x:X7):Ly:=.agg [Qd x.s]
theorem Qkh{a0_0_0_ a0_0_1_ a0_1_}:IF (.agg [.agg [.agg [bl a0_0_0_,sli 1 a0_0_1_],sli 1 a0_1_]]):=Qgk (Xd (Qgk (Xd (Qgk (Xd if_bl (Xd Wg (Qcs)))) (Xd Wg (Qcs)))) (Qcs))
instance:CUn Ub 62 (.slice 70):=⟨underlying62⟩
instance ti_28:CTy Ub 28 3 56 (.agg #[.bool false,Ua,Ua]):=⟨tyI ox⟩
instance sh_28:CSh Ub 28 true 3:=⟨shp U0 rfl ti_28.h⟩
instance ti_26:CTy Ub 26 1 24 (Ua):=⟨tyI ox⟩
instance Q5x:CFd Ub 28 1 1:=⟨fdA U0 rfl rfl ti_26.h rfl⟩
instance:CUn Ub 26 (.slice 124):=⟨Uj⟩
instance sh_26:CSh Ub 26 false 1:=⟨shp Uj rfl ti_26.h⟩
instance Q5y:CFd Ub 28 2 2:=⟨fdA U0 rfl rfl ti_26.h rfl⟩
instance ti_22:CTy Ub 22 1 24 (Ua):=⟨tyI ox⟩
instance Q5z:CFd Ub 64 1 3:=⟨fdA Ut rfl rfl ti_22.h rfl⟩
instance:CUn Ub 22 (.slice 28):=⟨Um⟩
instance sh_22:CSh Ub 22 false 1:=⟨shp Um rfl ti_22.h⟩
instance Q50:CFd Ub 64 2 4:=⟨fdA Ut rfl rfl ti_22.h rfl⟩
instance Q51:CFd Ub 64 3 5:=⟨fdA Ut rfl rfl ti_22.h rfl⟩
instance Qoj:CTy Ub 105 6 80 (.agg #[.int .i64 0,.int .i64 0,.int .i64 0,.bool false,Ua,Ua]):=⟨tyI ox⟩
instance Qzs:CPl Ub 105 [(0,1),(1,1),(2,1),(3,3)]:=⟨⟨_,Uu,ox⟩⟩
theorem W2:Zr (Qq (⟨false,[]⟩:Qh)) [.bool false,Ua]:=Xf (Qk (c1:=[.bool false]) zr_bl (Qk (c1:=[Ua]) (Vx (k:=1)) (Vu)))
theorem Yc:Zr (Qd (⟨(⟨false,[]⟩:Qh),[]⟩:Qc)) [.bool false,Ua,Ua]:=Xf (Qk (c1:=[.bool false,Ua]) W2 (Qk (c1:=[Ua]) (Vx (k:=1)) (Vu)))
theorem Qjv:Zr (Kw (⟨0,0,0,(⟨(⟨false,[]⟩:Qh),[]⟩:Qc)⟩:Q7)) [.int .i64 0,.int .i64 0,.int .i64 0,.bool false,Ua,Ua]:=Xf (Qk (c1:=[.int .i64 0]) Zt (Qk (c1:=[.int .i64 0]) Zt (Qk (c1:=[.int .i64 0]) Zt (Qk (c1:=[.bool false,Ua,Ua]) Yc (Vu)))))
instance:CUn Ub 49 (.slice 105):=⟨Gg⟩
instance ti_3:CTy Ub 3 1 8 (.int .i64 0):=⟨tyI ox⟩
instance:CUn Ub 50 (.slice 3):=⟨Uz⟩
instance ti_52:CTy Ub 52 4 64 (.agg #[Ua,Ua,.int .i64 0,.int .i64 0]):=⟨tyI ox⟩
instance pl_52:CPl Ub 52 [(0,1),(1,1),(2,1),(3,1)]:=⟨⟨_,Uv,ox⟩⟩
theorem Qjw:Zr (Wc (⟨[],[],0,0⟩:Js)) [Ua,Ua,.int .i64 0,.int .i64 0]:=Xf (Qk (c1:=[Ua]) (Vx (k:=6)) (Qk (c1:=[Ua]) (Vx (k:=1)) (Qk (c1:=[.int .i64 0]) Zt (Qk (c1:=[.int .i64 0]) Zt (Vu)))))
instance:CZy Ub 52 (Wc (⟨[],[],0,0⟩:Js)):=⟨_,_,_,ti_52.h,Qjw⟩
instance sh_52:CSh Ub 52 true 4:=⟨shp Uv rfl ti_52.h⟩
instance ti_36:CTy Ub 36 5 112 (.agg #[.string ⟨#[]⟩,Ua,Ua,Ua,Ua]):=⟨tyI ox⟩
theorem Zi:Zr (Jk (⟨[],[],[],[],[]⟩:Qr)) [.string ⟨#[]⟩,Ua,Ua,Ua,Ua]:=Xf (Qk (c1:=[.string ⟨#[]⟩]) Qey (Qk (c1:=[Ua]) (Vx (k:=3)) (Qk (c1:=[Ua]) (Vx (k:=1)) (Qk (c1:=[Ua]) (Vx (k:=3)) (Qk (c1:=[Ua]) (Vx (k:=3)) (Vu))))))
instance:CZy Ub 36 (Jk (⟨[],[],[],[],[]⟩:Qr)):=⟨_,_,_,ti_36.h,Zi⟩
instance Qvl:CTy Ub 143 6 96 (.agg #[.string ⟨#[]⟩,.string ⟨#[]⟩,.string ⟨#[]⟩,.string ⟨#[]⟩,.string ⟨#[]⟩,.string ⟨#[]⟩]):=⟨tyI ox⟩
theorem Qok:Zr (Qia (⟨[],[],[],[],[],[]⟩:Qez)) [.string ⟨#[]⟩,.string ⟨#[]⟩,.string ⟨#[]⟩,.string ⟨#[]⟩,.string ⟨#[]⟩,.string ⟨#[]⟩]:=Xf (Qk (c1:=[.string ⟨#[]⟩]) Qey (Qk (c1:=[.string ⟨#[]⟩]) Qey (Qk (c1:=[.string ⟨#[]⟩]) Qey (Qk (c1:=[.string ⟨#[]⟩]) Qey (Qk (c1:=[.string ⟨#[]⟩]) Qey (Qk (c1:=[.string ⟨#[]⟩]) Qey (Vu)))))))
instance:CZy Ub 143 (Qia (⟨[],[],[],[],[],[]⟩:Qez)):=⟨_,_,_,Qvl.h,Qok⟩
instance ti_9:CTy Ub 9 1 16 (.string ⟨#[]⟩):=⟨tyI ox⟩
instance:CUn Ub 143 (.array 6 9):=⟨U4⟩
instance Q6v:CSh Ub 143 true 6:=⟨shp U4 rfl Qvl.h⟩
instance:CUn Ub 9 (.string):=⟨Un⟩
instance sh_9:CSh Ub 9 false 1:=⟨shp Un rfl ti_9.h⟩
instance ti_46:CTy Ub 46 4 32 (.agg #[.int .i64 0,.int .i64 0,.int .i64 0,.int .i64 0]):=⟨tyI ox⟩
theorem Qp:Zr (Qn (⟨0,0,0,0⟩:Qe)) [.int .i64 0,.int .i64 0,.int .i64 0,.int .i64 0]:=Xf (Qk (c1:=[.int .i64 0]) Zt (Qk (c1:=[.int .i64 0]) Zt (Qk (c1:=[.int .i64 0]) Zt (Qk (c1:=[.int .i64 0]) Zt (Vu)))))
instance:CZy Ub 46 (Qn (⟨0,0,0,0⟩:Qe)):=⟨_,_,_,ti_46.h,Qp⟩
instance pl_36:CPl Ub 36 [(0,1),(1,1),(2,1),(3,1),(4,1)]:=⟨⟨_,Us,ox⟩⟩
instance pl_46:CPl Ub 46 [(0,1),(1,1),(2,1),(3,1)]:=⟨⟨_,Uw,ox⟩⟩
instance sh_36:CSh Ub 36 true 5:=⟨shp Us rfl ti_36.h⟩
instance sh_46:CSh Ub 46 true 4:=⟨shp Uw rfl ti_46.h⟩
instance Q4g:CTy Ub 253 3 32 (.agg #[.string ⟨#[]⟩,.int .i64 0,.bool false]):=⟨tyI ox⟩
instance Q4h:CPl Ub 253 [(0,1),(1,1),(2,1)]:=⟨⟨_,U7,ox⟩⟩
theorem Qqd:Zr (Jc (⟨[],0,false⟩:Qz)) [.string ⟨#[]⟩,.int .i64 0,.bool false]:=Xf (Qk (c1:=[.string ⟨#[]⟩]) Qey (Qk (c1:=[.int .i64 0]) Zt (Qk (c1:=[.bool false]) zr_bl (Vu))))
instance ti_4:CTy Ub 4 1 1 (.bool false):=⟨tyI ox⟩
instance Q5b:CFd Ub 253 2 2:=⟨fdA U7 rfl rfl ti_4.h rfl⟩
instance:CUn Ub 4 (.bool):=⟨underlying4⟩
instance sh_4:CSh Ub 4 false 1:=⟨shp underlying4 rfl ti_4.h⟩
instance Q5c:CFd Ub 253 1 1:=⟨fdA U7 rfl rfl ti_3.h rfl⟩
instance:CUn Ub 3 (.int .i64):=⟨Uo⟩
instance sh_3:CSh Ub 3 false 1:=⟨shp Uo rfl ti_3.h⟩
theorem fol:Tryz.prog.follows .mixedOrders=true:=ox
instance Q5d:CFd Ub 253 0 0:=⟨fdA U7 rfl rfl ti_9.h rfl⟩
instance Q52:CFd Ub 36 0 0:=⟨fdA Us rfl rfl ti_9.h rfl⟩
instance Qzt:CTy Ub 224 3 32 (.agg #[.int .i64 0,.string ⟨#[]⟩,.int .i64 0]):=⟨tyI ox⟩
instance Qzu:CPl Ub 224 [(0,1),(1,1),(2,1)]:=⟨⟨_,Gh,ox⟩⟩
theorem Qpu:Zr (Qm7 (⟨0,[],0⟩:Qgq)) [.int .i64 0,.string ⟨#[]⟩,.int .i64 0]:=Xf (Qk (c1:=[.int .i64 0]) Zt (Qk (c1:=[.string ⟨#[]⟩]) Qey (Qk (c1:=[.int .i64 0]) Zt (Vu))))
instance Q5e:CFd Ub 224 1 1:=⟨fdA Gh rfl rfl ti_9.h rfl⟩
instance Q5f:CFd Ub 224 0 0:=⟨fdA Gh rfl rfl ti_3.h rfl⟩
instance:CUn Ub 21 (.int .i32):=⟨underlying21⟩
instance:CUn Ub 5 (.int .u8):=⟨Ge⟩
instance ti_41:CTy Ub 41 3 56 (.agg #[.bool false,Ua,Ua]):=⟨tyI ox⟩
instance:CZy Ub 41 (Qd (⟨(⟨false,[]⟩:Qh),[]⟩:Qc)):=⟨_,_,_,ti_41.h,Yc⟩
instance ti_39:CTy Ub 39 2 32 (.agg #[.bool false,Ua]):=⟨tyI ox⟩
instance:CZy Ub 39 (Qq (⟨false,[]⟩:Qh)):=⟨_,_,_,ti_39.h,W2⟩
instance:CUn Ub 124 (.int .u32):=⟨underlying124⟩
instance Jx:CTy Ub 124 1 4 (.int .u32 0):=⟨tyI ox⟩
instance Q6w:CSh Ub 124 false 1:=⟨shp underlying124 rfl Jx.h⟩
instance:CUn Ub 108 (.int .u64):=⟨underlying108⟩
theorem Zb:EqF Ub 2 46 (λx:Qe=>.agg [i64 x.Kind,i64 x.Step,i64 x.Stage,i64 x.At]) Ka:=
 Qqt Uw ox (Qdg rfl rfl sh_3.h (λ_=>rfl) (λ_=>rfl) (Qft (λx:Qe=>x.Kind) (Qhk (n:=0) Uo)) (Qdg rfl rfl sh_3.h (λ_=>rfl) (λ_=>rfl) (Qft (λx:Qe=>x.Step) (Qhk (n:=0) Uo)) (Qdg rfl rfl sh_3.h (λ_=>rfl) (λ_=>rfl) (Qft (λx:Qe=>x.Stage) (Qhk (n:=0) Uo)) (Qdg rfl rfl sh_3.h (λ_=>rfl) (λ_=>rfl) (Qft (λx:Qe=>x.At) (Qhk (n:=0) Uo)) (Qu8)))))
theorem eg_46:Tryz.prog.eqGuardType Tryz.prog.depth 46=false:=ox
instance Q53:CFd Ub 46 3 3:=⟨fdA Uw rfl rfl ti_3.h rfl⟩
instance pl_39:CPl Ub 39 [(0,1),(1,1)]:=⟨⟨_,U8,ox⟩⟩
instance sh_39:CSh Ub 39 true 2:=⟨shp U8 rfl ti_39.h⟩
instance pl_41:CPl Ub 41 [(0,2),(2,1)]:=⟨⟨_,U9,ox⟩⟩
instance sh_41:CSh Ub 41 true 3:=⟨shp U9 rfl ti_41.h⟩
instance Q54:CFd Ub 39 1 1:=⟨fdA U8 rfl rfl ti_26.h rfl⟩
instance Q55:CFd Ub 39 0 0:=⟨fdA U8 rfl rfl ti_4.h rfl⟩
instance:CUn Ub 227 (.slice 26):=⟨U5⟩
instance:CUn Ub 149 (.slice 9):=⟨Gf⟩
instance:CUn Ub 33 (.slice 41):=⟨Uk⟩
instance ti_33:CTy Ub 33 1 24 (Ua):=⟨tyI ox⟩
instance Q56:CFd Ub 36 1 1:=⟨fdA Us rfl rfl ti_33.h rfl⟩
instance sh_33:CSh Ub 33 false 1:=⟨shp Uk rfl ti_33.h⟩
instance ti_34:CTy Ub 34 1 24 (Ua):=⟨tyI ox⟩
instance Q57:CFd Ub 36 2 2:=⟨fdA Us rfl rfl ti_34.h rfl⟩
instance:CUn Ub 34 (.slice 33):=⟨Uq⟩
instance sh_34:CSh Ub 34 false 1:=⟨shp Uq rfl ti_34.h⟩
instance Q58:CFd Ub 36 3 3:=⟨fdA Us rfl rfl ti_33.h rfl⟩
instance Q59:CFd Ub 36 4 4:=⟨fdA Us rfl rfl ti_33.h rfl⟩
instance Q6a:CFd Ub 41 1 2:=⟨fdA U9 rfl rfl ti_26.h rfl⟩
instance Q6b:CFd Ub 41 0 0:=⟨fdA U9 rfl rfl ti_39.h rfl⟩
instance ti_55:CTy Ub 55 11 208 (.agg #[Ua,Ua,.int .i64 0,.int .i64 0,.string ⟨#[]⟩,Ua,Ua,Ua,Ua,Ua,.int .i64 0]):=⟨tyI ox⟩
instance pl_55:CPl Ub 55 [(0,4),(4,5),(9,1),(10,1)]:=⟨⟨_,U1,ox⟩⟩
theorem Qki:Zr (Xs (⟨(⟨[],[],0,0⟩:Js),(⟨[],[],[],[],[]⟩:Qr),[],0⟩:J9)) [Ua,Ua,.int .i64 0,.int .i64 0,.string ⟨#[]⟩,Ua,Ua,Ua,Ua,Ua,.int .i64 0]:=Xf (Qk (c1:=[Ua,Ua,.int .i64 0,.int .i64 0]) Qjw (Qk (c1:=[.string ⟨#[]⟩,Ua,Ua,Ua,Ua]) Zi (Qk (c1:=[Ua]) (Vx (k:=3)) (Qk (c1:=[.int .i64 0]) Zt (Vu)))))
instance ti_83:CTy Ub 83 6 128 (.agg #[.bool false,Ua,Ua,Ua,Ua,Ua]):=⟨tyI ox⟩
instance pl_83:CPl Ub 83 [(0,3),(3,1),(4,1),(5,1)]:=⟨⟨_,Ux,ox⟩⟩
theorem Qev:Zr (Yj (⟨(⟨(⟨false,[]⟩:Qh),[]⟩:Qc),[],[],[]⟩:Wi)) [.bool false,Ua,Ua,Ua,Ua,Ua]:=Xf (Qk (c1:=[.bool false,Ua,Ua]) Yc (Qk (c1:=[Ua]) (Vx (k:=3)) (Qk (c1:=[Ua]) (Vx (k:=3)) (Qk (c1:=[Ua]) (Vx (k:=3)) (Vu)))))
instance sh_55:CSh Ub 55 true 11:=⟨shp U1 rfl ti_55.h⟩
instance sh_83:CSh Ub 83 true 6:=⟨shp Ux rfl ti_83.h⟩
instance Q6c:CFd Ub 55 0 0:=⟨fdA U1 rfl rfl ti_52.h rfl⟩
instance Q6d:CFd Ub 52 2 2:=⟨fdA Uv rfl rfl ti_3.h rfl⟩
instance Q6e:CFd Ub 52 3 3:=⟨fdA Uv rfl rfl ti_3.h rfl⟩
instance ti_50:CTy Ub 50 1 24 (Ua):=⟨tyI ox⟩
instance Q6f:CFd Ub 52 1 1:=⟨fdA Uv rfl rfl ti_50.h rfl⟩
instance sh_50:CSh Ub 50 false 1:=⟨shp Uz rfl ti_50.h⟩
instance ti_49:CTy Ub 49 1 24 (Ua):=⟨tyI ox⟩
instance Q6g:CFd Ub 52 0 0:=⟨fdA Uv rfl rfl ti_49.h rfl⟩
instance sh_49:CSh Ub 49 false 1:=⟨shp Gg rfl ti_49.h⟩
instance Q6x:CSh Ub 105 true 6:=⟨shp Uu rfl Qoj.h⟩
instance:CZy Ub 105 (Kw (⟨0,0,0,(⟨(⟨false,[]⟩:Qh),[]⟩:Qc)⟩:Q7)):=⟨_,_,_,Qoj.h,Qjv⟩
instance Q5g:CFd Ub 105 0 0:=⟨fdA Uu rfl rfl ti_3.h rfl⟩
instance Qol:CTy Ub 306 3 24 (.agg #[.int .i64 0,.int .i64 0,.int .i64 0]):=⟨tyI ox⟩
theorem Qc8:Zr (Qhs (⟨0,0,0⟩:Jl)) [.int .i64 0,.int .i64 0,.int .i64 0]:=Xf (Qk (c1:=[.int .i64 0]) Zt (Qk (c1:=[.int .i64 0]) Zt (Qk (c1:=[.int .i64 0]) Zt (Vu))))
instance:CZy Ub 306 (Qhs (⟨0,0,0⟩:Jl)):=⟨_,_,_,Qol.h,Qc8⟩
instance Q5h:CFd Ub 105 1 1:=⟨fdA Uu rfl rfl ti_3.h rfl⟩
instance Q5i:CFd Ub 105 2 2:=⟨fdA Uu rfl rfl ti_3.h rfl⟩
instance Qvm:CPl Ub 306 [(0,1),(1,1),(2,1)]:=⟨⟨_,Gi,ox⟩⟩
instance Q6y:CSh Ub 306 true 3:=⟨shp Gi rfl Qol.h⟩
theorem Qvn:EqF Ub 2 306 (λx:Jl=>.agg [i64 x.op,i64 x.a,i64 x.b]) Zh:=
 Qqt Gi ox (Qdg rfl rfl sh_3.h (λ_=>rfl) (λ_=>rfl) (Qft (λx:Jl=>x.op) (Qhk (n:=0) Uo)) (Qdg rfl rfl sh_3.h (λ_=>rfl) (λ_=>rfl) (Qft (λx:Jl=>x.a) (Qhk (n:=0) Uo)) (Qdg rfl rfl sh_3.h (λ_=>rfl) (λ_=>rfl) (Qft (λx:Jl=>x.b) (Qhk (n:=0) Uo)) (Qu8))))
theorem Qzv:Tryz.prog.eqGuardType Tryz.prog.depth 306=false:=ox
instance Q5j:CFd Ub 105 3 3:=⟨fdA Uu rfl rfl ti_41.h rfl⟩
instance Q6h:CFd Ub 55 1 4:=⟨fdA U1 rfl rfl ti_36.h rfl⟩
instance Q6i:CFd Ub 55 2 9:=⟨fdA U1 rfl rfl ti_33.h rfl⟩
instance Q6j:CFd Ub 83 1 3:=⟨fdA Ux rfl rfl ti_33.h rfl⟩
instance Q6k:CFd Ub 83 2 4:=⟨fdA Ux rfl rfl ti_33.h rfl⟩
instance Q6l:CFd Ub 83 3 5:=⟨fdA Ux rfl rfl ti_33.h rfl⟩
instance ti_75:CTy Ub 75 2 48 (.agg #[Ua,Ua]):=⟨tyI ox⟩
theorem Y0:Zr (Qg (⟨[],[]⟩:Qf)) [Ua,Ua]:=Xf (Qk (c1:=[Ua]) (Vx (k:=3)) (Qk (c1:=[Ua]) (Vx (k:=3)) (Vu)))
instance:CZy Ub 75 (Qg (⟨[],[]⟩:Qf)):=⟨_,_,_,ti_75.h,Y0⟩
instance pl_75:CPl Ub 75 [(0,1),(1,1)]:=⟨⟨_,Ga,ox⟩⟩
instance sh_75:CSh Ub 75 true 2:=⟨shp Ga rfl ti_75.h⟩
instance:CUn Ub 66 (.slice 75):=⟨Ur⟩
instance Q6m:CFd Ub 83 0 0:=⟨fdA Ux rfl rfl ti_41.h rfl⟩
instance Q4i:CTy Ub 180 17 320 (.agg #[Ua,Ua,.int .i64 0,.int .i64 0,.string ⟨#[]⟩,Ua,Ua,Ua,Ua,Ua,.int .i64 0,.int .i64 0,Ua,.bool false,Ua,Ua,Ua]):=⟨tyI ox⟩
instance Q4j:CPl Ub 180 [(0,11),(11,1),(12,1),(13,3),(16,1)]:=⟨⟨_,Uy,ox⟩⟩
theorem Qom:Zr (Yz (⟨0⟩:Vi)) [.int .i64 0]:=Xf (Qk (c1:=[.int .i64 0]) Zt (Vu))
theorem Qea:Zr (Je (⟨(⟨0⟩:Vi)⟩:Q0)) [.int .i64 0]:=Xf (Qk (c1:=[.int .i64 0]) Qom (Vu))
theorem Qvo:Zr (W1 (⟨(⟨(⟨[],[],0,0⟩:Js),(⟨[],[],[],[],[]⟩:Qr),[],0⟩:J9),(⟨(⟨0⟩:Vi)⟩:Q0),[],(⟨(⟨false,[]⟩:Qh),[]⟩:Qc),[]⟩:Xl)) [Ua,Ua,.int .i64 0,.int .i64 0,.string ⟨#[]⟩,Ua,Ua,Ua,Ua,Ua,.int .i64 0,.int .i64 0,Ua,.bool false,Ua,Ua,Ua]:=Xf (Qk (c1:=[Ua,Ua,.int .i64 0,.int .i64 0,.string ⟨#[]⟩,Ua,Ua,Ua,Ua,Ua,.int .i64 0]) Qki (Qk (c1:=[.int .i64 0]) Qea (Qk (c1:=[Ua]) (Vx (k:=2)) (Qk (c1:=[.bool false,Ua,Ua]) Yc (Qk (c1:=[Ua]) (Vx (k:=2)) (Vu))))))
instance Qvp:CTy Ub 176 1 8 (.agg #[.int .i64 0]):=⟨tyI ox⟩
instance Q4k:CPl Ub 176 [(0,1)]:=⟨⟨_,Ul,ox⟩⟩
instance Qzw:CTy Ub 178 1 8 (.agg #[.int .i64 0]):=⟨tyI ox⟩
instance Q5k:CFd Ub 180 1 11:=⟨fdA Uy rfl rfl Qzw.h rfl⟩
instance Q5l:CFd Ub 178 0 0:=⟨fdA underlying178 rfl rfl Qvp.h rfl⟩
instance Qii:CSh Ub 176 true 1:=⟨shp Ul rfl Qvp.h⟩
instance ti_66:CTy Ub 66 1 24 (Ua):=⟨tyI ox⟩
instance Q5m:CFd Ub 180 4 16:=⟨fdA Uy rfl rfl ti_66.h rfl⟩
instance sh_66:CSh Ub 66 false 1:=⟨shp Ur rfl ti_66.h⟩
instance:CUn Ub 120 (.slice 66):=⟨U6⟩
instance Q5n:CFd Ub 180 0 0:=⟨fdA Uy rfl rfl ti_55.h rfl⟩
instance Q5o:CFd Ub 180 3 13:=⟨fdA Uy rfl rfl ti_41.h rfl⟩
instance Q6n:CFd Ub 75 1 1:=⟨fdA Ga rfl rfl ti_33.h rfl⟩
instance Q6o:CFd Ub 75 0 0:=⟨fdA Ga rfl rfl ti_33.h rfl⟩
instance Q5p:CFd Ub 180 2 12:=⟨fdA Uy rfl rfl ti_66.h rfl⟩
instance Qvq:CTy Ub 236 4 96 (.agg #[Ua,Ua,Ua,Ua]):=⟨tyI ox⟩
instance Q4l:CPl Ub 236 [(0,2),(2,1),(3,1)]:=⟨⟨_,U2,ox⟩⟩
theorem Qeo:Zr (Vs (⟨(⟨[],[]⟩:Qf),[],[]⟩:Vp)) [Ua,Ua,Ua,Ua]:=Xf (Qk (c1:=[Ua,Ua]) Y0 (Qk (c1:=[Ua]) (Vx (k:=2)) (Qk (c1:=[Ua]) (Vx (k:=2)) (Vu))))
instance:CZy Ub 236 (Vs (⟨(⟨[],[]⟩:Qf),[],[]⟩:Vp)):=⟨_,_,_,Qvq.h,Qeo⟩
instance Q6z:CSh Ub 236 true 4:=⟨shp U2 rfl Qvq.h⟩
instance Q60:CSh Ub 178 true 1:=⟨shp underlying178 rfl Qzw.h⟩
instance Q5q:CFd Ub 236 1 2:=⟨fdA U2 rfl rfl ti_66.h rfl⟩
instance Q5r:CFd Ub 236 2 3:=⟨fdA U2 rfl rfl ti_66.h rfl⟩
theorem Qyi:MethF Ub 176 "Neg" 308:=⟨ox,_,Ul⟩
theorem Qyj:MethF Ub 176 "Pow" 310:=⟨ox,_,Ul⟩
theorem Qyk:MethF Ub 176 "Add" 305:=⟨ox,_,Ul⟩
theorem Qyl:MethF Ub 176 "Sub" 312:=⟨ox,_,Ul⟩
theorem Qym:MethF Ub 176 "Mul" 307:=⟨ox,_,Ul⟩
theorem Qyn:MethF Ub 176 "Quo" 311:=⟨ox,_,Ul⟩
theorem Qzx:MethF Ub 176 "Of" 309:=⟨ox,_,Ul⟩
instance Q5s:CFd Ub 236 0 0:=⟨fdA U2 rfl rfl ti_75.h rfl⟩
theorem Qwz:MethF Ub 176 "Fits" 306:=⟨ox,_,Ul⟩
instance Q5t:CFd Ub 176 0 0:=⟨fdA Ul rfl rfl ti_3.h rfl⟩
instance Q6p:CFd Ub 46 2 2:=⟨fdA Uw rfl rfl ti_3.h rfl⟩
instance Q6q:CFd Ub 46 1 1:=⟨fdA Uw rfl rfl ti_3.h rfl⟩
instance Q4m:CTy Ub 294 9 9 (.agg #[.int .u8 0,.int .u8 0,.int .u8 0,.int .u8 0,.int .u8 0,.int .u8 0,.int .u8 0,.int .u8 0,.int .u8 0]):=⟨tyI ox⟩
theorem Q1g:Zr (Qji (⟨0,0,0,0,0,0,0,0,0⟩:Qf1)) [.int .u8 0,.int .u8 0,.int .u8 0,.int .u8 0,.int .u8 0,.int .u8 0,.int .u8 0,.int .u8 0,.int .u8 0]:=Xf (Qk (c1:=[.int .u8 0]) zr_u8 (Qk (c1:=[.int .u8 0]) zr_u8 (Qk (c1:=[.int .u8 0]) zr_u8 (Qk (c1:=[.int .u8 0]) zr_u8 (Qk (c1:=[.int .u8 0]) zr_u8 (Qk (c1:=[.int .u8 0]) zr_u8 (Qk (c1:=[.int .u8 0]) zr_u8 (Qk (c1:=[.int .u8 0]) zr_u8 (Qk (c1:=[.int .u8 0]) zr_u8 (Vu))))))))))
instance:CZy Ub 294 (Qji (⟨0,0,0,0,0,0,0,0,0⟩:Qf1)):=⟨_,_,_,Q4m.h,Q1g⟩
instance ti_5:CTy Ub 5 1 1 (.int .u8 0):=⟨tyI ox⟩
instance:CUn Ub 294 (.array 9 5):=⟨Gd⟩
instance sh_5:CSh Ub 5 false 1:=⟨shp Ge rfl ti_5.h⟩
theorem Qvr:∀ l:List Nat,l.length=9->(.agg (l.map u8):Ly)=Qji (Qoh l)
 | [a0,a1,a2,a3,a4,a5,a6,a7,a8],_=>rfl
 | [],h=>by simp at h
 | [_],h=>by simp at h
 | [_,_],h=>by simp at h
 | [_,_,_],h=>by simp at h
 | [_,_,_,_],h=>by simp at h
 | [_,_,_,_,_],h=>by simp at h
 | [_,_,_,_,_,_],h=>by simp at h
 | [_,_,_,_,_,_,_],h=>by simp at h
 | [_,_,_,_,_,_,_,_],h=>by simp at h
 | _::_::_::_::_::_::_::_::_::_::_,h=>by simp at h
instance:CUn Ub 198 (.slice 5):=⟨underlying198⟩
instance Q4n:CTy Ub 200 2 32 (.agg #[.pointer none,Ua]):=⟨tyI ox⟩
theorem Ju:Zr (Qb (⟨false,[],[]⟩:Qa)) [.bool false,Ua,Ua]:=Xf (Qk (c1:=[.bool false]) zr_bl (Qk (c1:=[Ua]) (Vx (k:=1)) (Qk (c1:=[Ua]) (Vx (k:=1)) (Vu))))
instance:CZy Ub 28 (Qb (⟨false,[],[]⟩:Qa)):=⟨_,_,_,ti_28.h,Ju⟩
instance pl_28:CPl Ub 28 [(0,1),(1,1),(2,1)]:=⟨⟨_,U0,ox⟩⟩
instance Q6r:CFd Ub 28 0 0:=⟨fdA U0 rfl rfl ti_4.h rfl⟩
instance ti_70:CTy Ub 70 2 48 (.agg #[Ua,Ua]):=⟨tyI ox⟩
instance sh_70:CSh Ub 70 true 2:=⟨shp Gb rfl ti_70.h⟩
instance Q6s:CFd Ub 70 0 0:=⟨fdA Gb rfl rfl ti_22.h rfl⟩
instance Q6t:CFd Ub 70 1 1:=⟨fdA Gb rfl rfl ti_22.h rfl⟩
theorem Zp:Zr (Q4 (⟨[],[]⟩:Qi)) [Ua,Ua]:=Xf (Qk (c1:=[Ua]) (Vx (k:=3)) (Qk (c1:=[Ua]) (Vx (k:=3)) (Vu)))
instance:CZy Ub 70 (Q4 (⟨[],[]⟩:Qi)):=⟨_,_,_,ti_70.h,Zp⟩
instance pl_70:CPl Ub 70 [(0,1),(1,1)]:=⟨⟨_,Gb,ox⟩⟩
instance Qgz:CTy Ub 190 2 32 (.agg #[.bool false,Ua]):=⟨tyI ox⟩
instance Qjx:CPl Ub 190 [(0,1),(1,1)]:=⟨⟨_,Gc,ox⟩⟩
theorem Kl:Zr (Ky (⟨false,[]⟩:Qm)) [.bool false,Ua]:=Xf (Qk (c1:=[.bool false]) zr_bl (Qk (c1:=[Ua]) (Vx (k:=1)) (Vu)))
instance:CZy Ub 190 (Ky (⟨false,[]⟩:Qm)):=⟨_,_,_,Qgz.h,Kl⟩
instance Q61:CSh Ub 190 true 2:=⟨shp Gc rfl Qgz.h⟩
instance Q5u:CFd Ub 190 0 0:=⟨fdA Gc rfl rfl ti_4.h rfl⟩
instance Q5v:CFd Ub 190 1 1:=⟨fdA Gc rfl rfl ti_26.h rfl⟩
instance Qzy:CTy Ub 136 3 56 (.agg #[.bool false,Ua,Ua]):=⟨tyI ox⟩
instance Qzz:CPl Ub 136 [(0,3)]:=⟨⟨_,underlying136,ox⟩⟩
theorem Qnu:Zr (Y6 (⟨(⟨(⟨false,[]⟩:Qh),[]⟩:Qc)⟩:X7)) [.bool false,Ua,Ua]:=Xf (Qk (c1:=[.bool false,Ua,Ua]) Yc (Vu))
instance Q5w:CFd Ub 136 0 0:=⟨fdA underlying136 rfl rfl ti_41.h rfl⟩
instance ti_64:CTy Ub 64 6 128 (.agg #[.bool false,Ua,Ua,Ua,Ua,Ua]):=⟨tyI ox⟩
instance sh_64:CSh Ub 64 true 6:=⟨shp Ut rfl ti_64.h⟩
instance:CZy Ub 83 (Yj (⟨(⟨(⟨false,[]⟩:Qh),[]⟩:Qc),[],[],[]⟩:Wi)):=⟨_,_,_,ti_83.h,Qev⟩
instance Q6u:CFd Ub 64 0 0:=⟨fdA Ut rfl rfl ti_28.h rfl⟩
theorem Qbx:Zr (Qv (⟨(⟨false,[],[]⟩:Qa),[],[],[]⟩:Qu)) [.bool false,Ua,Ua,Ua,Ua,Ua]:=Xf (Qk (c1:=[.bool false,Ua,Ua]) Ju (Qk (c1:=[Ua]) (Vx (k:=3)) (Qk (c1:=[Ua]) (Vx (k:=3)) (Qk (c1:=[Ua]) (Vx (k:=3)) (Vu)))))
instance:CZy Ub 64 (Qv (⟨(⟨false,[],[]⟩:Qa),[],[],[]⟩:Qu)):=⟨_,_,_,ti_64.h,Qbx⟩
instance pl_64:CPl Ub 64 [(0,3),(3,1),(4,1),(5,1)]:=⟨⟨_,Ut,ox⟩⟩
abbrev Uc xs:=sli 1 (List.map u32 xs)
abbrev Ud xs:=sli 3 (List.map Qd xs)
abbrev Ue xs:=sli 3 (List.map Qb xs)
abbrev Uf xs:=sli 2 (List.map Qg xs)
abbrev Ug xs:=sli 1 (List.map Qo xs)
abbrev Uh xs:=sli 1 (List.map i64 xs)
abbrev Ui xs:=sli 2 (List.map Q4 xs)
instance:CNs 0 1 _ u32:=⟨trivial⟩
instance:CNs 1 3 _ Qd:=⟨trivial⟩
instance:CNs 2 1 _ i64:=⟨trivial⟩
instance:CNs 3 2 _ Qg:=⟨trivial⟩
instance:CNs 4 1 _ J7:=⟨trivial⟩
instance:CNs 5 3 _ Qb:=⟨trivial⟩
instance:CZy Ub 253 (Jc (⟨[],0,false⟩:Qz)):=⟨_,_,_,Q4g.h,Qqd⟩
instance:CZy Ub 224 (Qm7 (⟨0,[],0⟩:Qgq)):=⟨_,_,_,Qzt.h,Qpu⟩
instance:CZy Ub 180 (W1 (⟨(⟨(⟨[],[],0,0⟩:Js),(⟨[],[],[],[],[]⟩:Qr),[],0⟩:J9),(⟨(⟨0⟩:Vi)⟩:Q0),[],(⟨(⟨false,[]⟩:Qh),[]⟩:Qc),[]⟩:Xl)):=⟨_,_,_,Q4i.h,Qvo⟩
instance:CZy Ub 176 (Yz (⟨0⟩:Vi)):=⟨_,_,_,Qvp.h,Qom⟩
instance:CZy Ub 136 (Y6 (⟨(⟨(⟨false,[]⟩:Qh),[]⟩:Qc)⟩:X7)):=⟨_,_,_,Qzy.h,Qnu⟩
instance:CZy Ub 55 (Xs (⟨(⟨[],[],0,0⟩:Js),(⟨[],[],[],[],[]⟩:Qr),[],0⟩:J9)):=⟨_,_,_,ti_55.h,Qki⟩
instance:CFo Ub:=⟨fol⟩
abbrev FO{R:Type}(f:Nat)(a:List Ly)(s:R->Ly)(m:Option R):Prop:=∀ r,m=some r->FnOk Ub f a [] (s r) []
abbrev FM{R:Type}(f:Nat)(a:List Ly)(i:List (Nat×Ct))(s:R->Ly)(o:R->List (Nat×Ct))(m:Option R):Prop:=∀ r,m=some r->FnOk Ub f a i (s r) (o r)
end Go.Proofs.YtmnlcblemgjeeaaGreatDoor
