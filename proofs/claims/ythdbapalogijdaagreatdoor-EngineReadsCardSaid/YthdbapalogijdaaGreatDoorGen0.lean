import Derived.Test.YthdbapalogijdaaGreatDoorSP
import Derived.Test.YthdbapalogijdaaGreatDoorBld
import Derived.Test.YthdbapalogijdaaGreatDoorLib
import Derived.Test.YthdbapalogijdaaGreatDoorST
import Derived.Test.YthdbapalogijdaaGreatDoorSD
import Derived.Test.YthdbapalogijdaaGreatDoorMod
set_option maxRecDepth 100000
set_option maxHeartbeats 4000000
namespace Go.Proofs.YthdbapalogijdaaGreatDoor
open Go Go.RowKit Tryz
abbrev Ea(n:Nat):List (List Nat):=List.replicate n []
abbrev Ua:Value:=.slice none 0 0
noncomputable abbrev Ub:=Tryz.prog
abbrev Ut:=underlying37
abbrev Uu:=underlying9
abbrev Uv:=underlying73
abbrev Uw:=underlying103
abbrev Ux:=underlying28
abbrev Uy:=underlying123
abbrev Uz:=underlying80
abbrev U0:=underlying128
abbrev U1:=underlying263
abbrev U2:=underlying3
abbrev U4:=underlying116
abbrev U5:=underlying47
abbrev U6:=underlying72
abbrev U7:=underlying49
abbrev U8:=underlying59
abbrev U9:=underlying43
abbrev Ga:=underlying68
abbrev Gb:=underlying45
abbrev Gc:=underlying265
abbrev Gd:=underlying90
abbrev Ge:=underlying34
abbrev Gf:=underlying62
abbrev Gg:=underlying70
abbrev Gh:=underlying24
abbrev Gi:=underlying31
abbrev Gj:=underlying27
abbrev Gk:=underlying53
abbrev Gl:=underlying340
abbrev Gm:=underlying350
abbrev Gn:=underlying36
abbrev Gp:=underlying30
abbrev Gq:=underlying136
abbrev Gr:=underlying212
abbrev Gs:=underlying58
abbrev Gt:=underlying23
abbrev Gu:=underlying32
abbrev Gv:=underlying210
abbrev Gw:=underlying255
abbrev Gx:=underlying262
abbrev Gy:=underlying107
abbrev Gz:=underlying208
abbrev G0:=underlying66
abbrev G1:=underlying64
abbrev G2:=underlying457
abbrev G3:=underlying524
abbrev G4:=underlying253
abbrev G5:=underlying102
abbrev G6:=underlying52
abbrev G7:=underlying157
abbrev G8:=underlying95
abbrev G9:=underlying26
abbrev Aa:=underlying130
abbrev Ab:=underlying557
abbrev Ac:=underlying39
abbrev Ad:=underlying41
abbrev Ae:=underlying526
abbrev Af:=underlying397
abbrev Ah:=underlying55
abbrev Ai:=underlying270
abbrev Aj:=underlying201
abbrev Ak:=underlying513
abbrev Al:=underlying5
abbrev Am:=underlying346
abbrev An:=underlying394
abbrev Ao:=underlying60
abbrev Ap:=underlying56
abbrev Aq:=underlying155
abbrev Ar:=underlying138
abbrev As:=underlying177
abbrev Au:=underlying125
theorem H9:ownKnob Tryz.prog.godebug=none:=ox
theorem mJ:laidOutB Ub=true:=ox
abbrev mK(xs:Bf):Ly:=bA 1 (xs.map av)
abbrev Q0(x:Qi):Ly:=.agg [ab x.Op,ab x.I,mK x.N]
theorem Eg{a0_ a1_ a2_}:IF (.agg [ab a0_,ab a1_,bA 1 a2_]):=l8 (Ka K8 (Ka K8 (Ka Za (iu))))
abbrev K6(xs:List Qi):Ly:=bA 3 (xs.map Q0)
abbrev Xj(x:Jz):Ly:=.agg [am x.A0,K6 x.Code]
abbrev YC(xs:List Jz):Ly:=bA 2 (xs.map Xj)
abbrev YD(xs:List (List Qi)):Ly:=bA 1 (xs.map K6)
abbrev Kb(x:Qt):Ly:=.agg [YC x.Aw,YD x.Ax]
abbrev J4(x:Qg):Ly:=.agg [bl x.A8,mK x.A7]
abbrev Qk(x:Qb):Ly:=.agg [J4 x.Num,mK x.Den]
theorem Ov{a0_0_ a0_1_ a1_}:IF (.agg [.agg [bl a0_0_,bA 1 a0_1_],bA 1 a1_]):=l8 (Ka (l8 (Ka bM (Ka Za (iu)))) (Ka Za (iu)))
abbrev J5(x:Jk):Ly:=.agg [ab x.Op,ab x.A,ab x.B,Qk x.N]
instance{x}:cm (J5 x):=⟨cm.h⟩
abbrev YE(xs:List Jk):Ly:=bA 6 (xs.map J5)
abbrev Ia(xs:List Int):Ly:=bA 1 (xs.map ab)
abbrev Vf(x:Jq):Ly:=.agg [YE x.Code,Ia x.Ax,ab x.Bc,ab x.Par]
abbrev J0(xs:List Qb):Ly:=bA 3 (xs.map Qk)
abbrev YF(xs:List (List Qb)):Ly:=bA 1 (xs.map J0)
abbrev Kc(x:Q5):Ly:=.agg [am x.A0,J0 x.C,YF x.A,J0 x.B,J0 x.E]
theorem YG{a0_ a1_ a2_ a3_ a4_}:IF (.agg [am a0_,bA 3 a1_,bA 1 a2_,bA 3 a3_,bA 3 a4_]):=l8 (Ka Vv (Ka Za (Ka Za (Ka Za (Ka Za (iu))))))
abbrev oI(x:Jw):Ly:=.agg [Vf x.Tape,Kc x.A3,J0 x.P,ab x.Bits]
abbrev Zh(x:Kq):Ly:=.agg [Qk x.Tol,Qk x.A6,Qk x.Low,Qk x.A9,Qk x.A4,ab x.Fine,ab x.Most]
instance{x}:cm (Zh x):=⟨cm.h⟩
abbrev Xw(x:Kr):Ly:=.agg [oI x.Ay,Zh x.A5,Qk x.Ba,Qk x.End,Qk x.Bb,J0 x.Y]
instance{x}:cm (Xw x):=⟨cm.h⟩
abbrev J8(x:Jo):Ly:=.agg [am x.Do,Kb x.Field,Xw x.A1,J0 x.W,J0 x.U,J0 x.V,Qk x.S,ab x.K]
instance{x}:cm (J8 x):=⟨cm.h⟩
abbrev Qq(x:Qc):Ly:=.agg [ab x.Az,ab x.Step,ab x.Bd,ab x.At]
theorem rJ{a0_ a1_ a2_ a3_}:IF (.agg [ab a0_,ab a1_,ab a2_,ab a3_]):=l8 (Ka K8 (Ka K8 (Ka K8 (Ka K8 (iu)))))
abbrev J1(x:Qn):Ly:=.agg [am x.A0,am x.Av]
theorem Eh{a0_ a1_}:IF (.agg [am a0_,am a1_]):=l8 (Ka Vv (Ka Vv (iu)))
abbrev oJ(x:Kk):Ly:=.agg [am x.s,ab x.at_]
abbrev Qz(x:Qm):Ly:=.agg [ab x.Az,am x.Av,ab x.At]
abbrev uD(x:pS):Ly:=.agg [u8 x.a0,u8 x.a1,u8 x.a2,u8 x.a3,u8 x.a4,u8 x.a5,u8 x.a6,u8 x.a7,u8 x.a8]
abbrev YH(xs:List Qn):Ly:=bA 2 (xs.map J1)
abbrev Jj(x:Jc):Ly:=.agg [YH x.l,am x.where_,Qq x.f]
theorem Zl{a0_ a1_ a2_0_ a2_1_ a2_2_ a2_3_}:IF (.agg [bA 2 a0_,am a1_,.agg [ab a2_0_,ab a2_1_,ab a2_2_,ab a2_3_]]):=l8 (Ka Za (Ka Vv (Ka (l8 (Ka K8 (Ka K8 (Ka K8 (Ka K8 (iu)))))) (iu))))
abbrev Ox(xs:List Be):Ly:=bA 1 (xs.map am)
abbrev YI(xs:List Qm):Ly:=bA 3 (xs.map Qz)
abbrev Oy(x:IP):Ly:=.agg [YI x.words,ab x.at_,ab x.end_,ab x.deep,Ox x.names]
abbrev Ib(x:uN):Ly:=.agg [am x.a0,am x.a1,am x.a2,am x.a3,am x.a4,am x.a5]
abbrev Va(x:J6):Ly:=.agg [am x.rest,ab x.at_,bl x.over]
abbrev rK(x:K7):Ly:=.agg [ab x.op,ab x.a,ab x.b,am x.n]
abbrev Ic(x:Kz):Ly:=.agg [ab x.op,ab x.a,ab x.b]
abbrev uE(x:nT):Ly:=.agg [am x.text,ab x.rank]
abbrev Oz(x:IQ):Ly:=.agg [Qk x.T,Qk x.Want,Qk x.H,Qk x.Err,J0 x.Y,bl x.Ok]
instance{x}:cm (Oz x):=⟨cm.h⟩
abbrev YJ(xs:List IQ):Ly:=bA 14 (xs.map Oz)
abbrev yF(x:yZ):Ly:=.agg [YJ x.Tries,Qk x.T,J0 x.Y]
instance{x}:cm (yF x):=⟨cm.h⟩
abbrev Qj(x:Qd):Ly:=.agg [ab x.Op,ab x.I,mK x.N]
abbrev Jd(xs:List Qd):Ly:=bA 3 (xs.map Qj)
abbrev Vb(x:Q9):Ly:=.agg [am x.A0,Jd x.Code]
abbrev YK(xs:List Q9):Ly:=bA 2 (xs.map Vb)
abbrev YL(xs:List (List Qd)):Ly:=bA 1 (xs.map Jd)
abbrev Qu(x:Qo):Ly:=.agg [YK x.Aw,YL x.Ax]
abbrev Qe(x:Qa):Ly:=.agg [bl x.A8,mK x.N,mK x.D]
theorem OA{a0_ a1_ a2_}:IF (.agg [bl a0_,bA 1 a1_,bA 1 a2_]):=l8 (Ka bM (Ka Za (Ka Za (iu))))
abbrev Q4(x:Qw):Ly:=.agg [ab x.Op,ab x.A,ab x.B,Qe x.N]
abbrev OB(xs:List Qw):Ly:=bA 6 (xs.map Q4)
abbrev Kx(x:Qr):Ly:=.agg [OB x.Code,Ia x.Ax,ab x.Bc,ab x.Par]
abbrev Js(xs:List Qa):Ly:=bA 3 (xs.map Qe)
abbrev YM(xs:List (List Qa)):Ly:=bA 1 (xs.map Js)
abbrev Q8(x:Ql):Ly:=.agg [am x.A0,Js x.C,YM x.A,Js x.B,Js x.E]
abbrev yG(x:Qs):Ly:=.agg [Kx x.Tape,Q8 x.A3,Js x.P,ab x.Bits]
abbrev Vl(x:Qx):Ly:=.agg [Qe x.Tol,Qe x.A6,Qe x.Low,Qe x.A9,Qe x.A4,ab x.Fine,ab x.Most]
abbrev rL(x:Q3):Ly:=.agg [yG x.Ay,Vl x.A5,Qe x.Ba,Qe x.End,Qe x.Bb,Js x.Y]
instance{x}:cm (rL x):=⟨cm.h⟩
abbrev Qy(x:Qv):Ly:=.agg [am x.Do,Qu x.Field,rL x.A1,Js x.W,Js x.U,Js x.V,Qe x.S,ab x.K]
instance{x}:cm (Qy x):=⟨cm.h⟩
abbrev oK(x:Ks):Ly:=.agg [ab x.a0,ab x.a1,ab x.a2,ab x.a3]
abbrev Jg(x:Q1):Ly:=.agg [am x.A0,am x.Av]
theorem YN{a0_ a1_}:IF (.agg [am a0_,am a1_]):=l8 (Ka Vv (Ka Vv (iu)))
abbrev Ei(x:Kt):Ly:=.agg [ab x.a0,ab x.a1]
abbrev Qh(x:Qf):Ly:=.agg [ab x.Az,am x.Av,ab x.At]
abbrev YO(xs:List Qf):Ly:=bA 3 (xs.map Qh)
abbrev YP(xs:List Q1):Ly:=bA 2 (xs.map Jg)
abbrev Jb(x:Q7):Ly:=.agg [YP x.L,am x.Where,oK x.F]
theorem Zz{a0_ a1_ a2_0_ a2_1_ a2_2_ a2_3_}:IF (.agg [bA 2 a0_,am a1_,.agg [ab a2_0_,ab a2_1_,ab a2_2_,ab a2_3_]]):=l8 (Ka Za (Ka Vv (Ka (l8 (Ka K8 (Ka K8 (Ka K8 (Ka K8 (iu)))))) (iu))))
abbrev OC(x:IR):Ly:=.agg [YO x.W,ab x.I,ab x.End,ab x.Deep,Ox x.Names,ab x.Bad]
abbrev V4(x:Jf):Ly:=.agg [bl x.A8,mK x.A7]
abbrev Id(x:Yd):Ly:=.agg [ab x.a0,ab x.a1,ab x.a2]
abbrev OD(x:IS):Ly:=.agg [OB x.Code,Ia x.Where]
instance:cU Ub 9 (.string):=⟨Uu⟩
instance ti_47:bQ Ub 47 48 896 (.agg #[.string ⟨#[]⟩,Ua,Ua,Ua,Ua,.int .i64 0,.int .i64 0,.string ⟨#[]⟩,Ua,Ua,Ua,Ua,Ua,.int .i64 0,.bool false,Ua,Ua,.bool false,Ua,Ua,.bool false,Ua,Ua,.bool false,Ua,Ua,.bool false,Ua,Ua,.int .i64 0,.int .i64 0,.bool false,Ua,Ua,.bool false,Ua,Ua,.bool false,Ua,Ua,Ua,Ua,Ua,Ua,.bool false,Ua,Ua,.int .i64 0]):=⟨bX ox⟩
theorem Zi:Zr (J4 (⟨false,[]⟩:Qg)) [.bool false,Ua]:=V3 (Qp (c1:=[.bool false]) li (Qp (c1:=[Ua]) (K9 (k:=1)) (K3)))
theorem Yh:Zr (Qk (⟨(⟨false,[]⟩:Qg),[]⟩:Qb)) [.bool false,Ua,Ua]:=V3 (Qp (c1:=[.bool false,Ua]) Zi (Qp (c1:=[Ua]) (K9 (k:=1)) (K3)))
theorem OE:Zr (Zh (⟨(⟨(⟨false,[]⟩:Qg),[]⟩:Qb),(⟨(⟨false,[]⟩:Qg),[]⟩:Qb),(⟨(⟨false,[]⟩:Qg),[]⟩:Qb),(⟨(⟨false,[]⟩:Qg),[]⟩:Qb),(⟨(⟨false,[]⟩:Qg),[]⟩:Qb),0,0⟩:Kq)) [.bool false,Ua,Ua,.bool false,Ua,Ua,.bool false,Ua,Ua,.bool false,Ua,Ua,.bool false,Ua,Ua,.int .i64 0,.int .i64 0]:=V3 (Qp (c1:=[.bool false,Ua,Ua]) Yh (Qp (c1:=[.bool false,Ua,Ua]) Yh (Qp (c1:=[.bool false,Ua,Ua]) Yh (Qp (c1:=[.bool false,Ua,Ua]) Yh (Qp (c1:=[.bool false,Ua,Ua]) Yh (Qp (c1:=[.int .i64 0]) Ko (Qp (c1:=[.int .i64 0]) Ko (K3))))))))
theorem OF:Zr (Kc (⟨[],[],[],[],[]⟩:Q5)) [.string ⟨#[]⟩,Ua,Ua,Ua,Ua]:=V3 (Qp (c1:=[.string ⟨#[]⟩]) Zj (Qp (c1:=[Ua]) (K9 (k:=3)) (Qp (c1:=[Ua]) (K9 (k:=1)) (Qp (c1:=[Ua]) (K9 (k:=3)) (Qp (c1:=[Ua]) (K9 (k:=3)) (K3))))))
theorem OG:Zr (Vf (⟨[],[],0,0⟩:Jq)) [Ua,Ua,.int .i64 0,.int .i64 0]:=V3 (Qp (c1:=[Ua]) (K9 (k:=6)) (Qp (c1:=[Ua]) (K9 (k:=1)) (Qp (c1:=[.int .i64 0]) Ko (Qp (c1:=[.int .i64 0]) Ko (K3)))))
theorem OH:Zr (oI (⟨(⟨[],[],0,0⟩:Jq),(⟨[],[],[],[],[]⟩:Q5),[],0⟩:Jw)) [Ua,Ua,.int .i64 0,.int .i64 0,.string ⟨#[]⟩,Ua,Ua,Ua,Ua,Ua,.int .i64 0]:=V3 (Qp (c1:=[Ua,Ua,.int .i64 0,.int .i64 0]) OG (Qp (c1:=[.string ⟨#[]⟩,Ua,Ua,Ua,Ua]) OF (Qp (c1:=[Ua]) (K9 (k:=3)) (Qp (c1:=[.int .i64 0]) Ko (K3)))))
theorem OI:Zr (Xw (⟨(⟨(⟨[],[],0,0⟩:Jq),(⟨[],[],[],[],[]⟩:Q5),[],0⟩:Jw),(⟨(⟨(⟨false,[]⟩:Qg),[]⟩:Qb),(⟨(⟨false,[]⟩:Qg),[]⟩:Qb),(⟨(⟨false,[]⟩:Qg),[]⟩:Qb),(⟨(⟨false,[]⟩:Qg),[]⟩:Qb),(⟨(⟨false,[]⟩:Qg),[]⟩:Qb),0,0⟩:Kq),(⟨(⟨false,[]⟩:Qg),[]⟩:Qb),(⟨(⟨false,[]⟩:Qg),[]⟩:Qb),(⟨(⟨false,[]⟩:Qg),[]⟩:Qb),[]⟩:Kr)) [Ua,Ua,.int .i64 0,.int .i64 0,.string ⟨#[]⟩,Ua,Ua,Ua,Ua,Ua,.int .i64 0,.bool false,Ua,Ua,.bool false,Ua,Ua,.bool false,Ua,Ua,.bool false,Ua,Ua,.bool false,Ua,Ua,.int .i64 0,.int .i64 0,.bool false,Ua,Ua,.bool false,Ua,Ua,.bool false,Ua,Ua,Ua]:=V3 (Qp (c1:=[Ua,Ua,.int .i64 0,.int .i64 0,.string ⟨#[]⟩,Ua,Ua,Ua,Ua,Ua,.int .i64 0]) OH (Qp (c1:=[.bool false,Ua,Ua,.bool false,Ua,Ua,.bool false,Ua,Ua,.bool false,Ua,Ua,.bool false,Ua,Ua,.int .i64 0,.int .i64 0]) OE (Qp (c1:=[.bool false,Ua,Ua]) Yh (Qp (c1:=[.bool false,Ua,Ua]) Yh (Qp (c1:=[.bool false,Ua,Ua]) Yh (Qp (c1:=[Ua]) (K9 (k:=3)) (K3)))))))
theorem OJ:Zr (Kb (⟨[],[]⟩:Qt)) [Ua,Ua]:=V3 (Qp (c1:=[Ua]) (K9 (k:=2)) (Qp (c1:=[Ua]) (K9 (k:=1)) (K3)))
theorem YQ:Zr (J8 (⟨[],(⟨[],[]⟩:Qt),(⟨(⟨(⟨[],[],0,0⟩:Jq),(⟨[],[],[],[],[]⟩:Q5),[],0⟩:Jw),(⟨(⟨(⟨false,[]⟩:Qg),[]⟩:Qb),(⟨(⟨false,[]⟩:Qg),[]⟩:Qb),(⟨(⟨false,[]⟩:Qg),[]⟩:Qb),(⟨(⟨false,[]⟩:Qg),[]⟩:Qb),(⟨(⟨false,[]⟩:Qg),[]⟩:Qb),0,0⟩:Kq),(⟨(⟨false,[]⟩:Qg),[]⟩:Qb),(⟨(⟨false,[]⟩:Qg),[]⟩:Qb),(⟨(⟨false,[]⟩:Qg),[]⟩:Qb),[]⟩:Kr),[],[],[],(⟨(⟨false,[]⟩:Qg),[]⟩:Qb),0⟩:Jo)) [.string ⟨#[]⟩,Ua,Ua,Ua,Ua,.int .i64 0,.int .i64 0,.string ⟨#[]⟩,Ua,Ua,Ua,Ua,Ua,.int .i64 0,.bool false,Ua,Ua,.bool false,Ua,Ua,.bool false,Ua,Ua,.bool false,Ua,Ua,.bool false,Ua,Ua,.int .i64 0,.int .i64 0,.bool false,Ua,Ua,.bool false,Ua,Ua,.bool false,Ua,Ua,Ua,Ua,Ua,Ua,.bool false,Ua,Ua,.int .i64 0]:=V3 (Qp (c1:=[.string ⟨#[]⟩]) Zj (Qp (c1:=[Ua,Ua]) OJ (Qp (c1:=[Ua,Ua,.int .i64 0,.int .i64 0,.string ⟨#[]⟩,Ua,Ua,Ua,Ua,Ua,.int .i64 0,.bool false,Ua,Ua,.bool false,Ua,Ua,.bool false,Ua,Ua,.bool false,Ua,Ua,.bool false,Ua,Ua,.int .i64 0,.int .i64 0,.bool false,Ua,Ua,.bool false,Ua,Ua,.bool false,Ua,Ua,Ua]) OI (Qp (c1:=[Ua]) (K9 (k:=3)) (Qp (c1:=[Ua]) (K9 (k:=3)) (Qp (c1:=[Ua]) (K9 (k:=3)) (Qp (c1:=[.bool false,Ua,Ua]) Yh (Qp (c1:=[.int .i64 0]) Ko (K3)))))))))
instance:dM Ub 47 (J8 (⟨[],(⟨[],[]⟩:Qt),(⟨(⟨(⟨[],[],0,0⟩:Jq),(⟨[],[],[],[],[]⟩:Q5),[],0⟩:Jw),(⟨(⟨(⟨false,[]⟩:Qg),[]⟩:Qb),(⟨(⟨false,[]⟩:Qg),[]⟩:Qb),(⟨(⟨false,[]⟩:Qg),[]⟩:Qb),(⟨(⟨false,[]⟩:Qg),[]⟩:Qb),(⟨(⟨false,[]⟩:Qg),[]⟩:Qb),0,0⟩:Kq),(⟨(⟨false,[]⟩:Qg),[]⟩:Qb),(⟨(⟨false,[]⟩:Qg),[]⟩:Qb),(⟨(⟨false,[]⟩:Qg),[]⟩:Qb),[]⟩:Kr),[],[],[],(⟨(⟨false,[]⟩:Qg),[]⟩:Qb),0⟩:Jo)):=⟨_,_,_,ti_47.h,YQ⟩
instance ti_49:bQ Ub 49 4 32 (.agg #[.int .i64 0,.int .i64 0,.int .i64 0,.int .i64 0]):=⟨bX ox⟩
theorem Ja:Zr (Qq (⟨0,0,0,0⟩:Qc)) [.int .i64 0,.int .i64 0,.int .i64 0,.int .i64 0]:=V3 (Qp (c1:=[.int .i64 0]) Ko (Qp (c1:=[.int .i64 0]) Ko (Qp (c1:=[.int .i64 0]) Ko (Qp (c1:=[.int .i64 0]) Ko (K3)))))
instance:dM Ub 49 (Qq (⟨0,0,0,0⟩:Qc)):=⟨_,_,_,ti_49.h,Ja⟩
instance Jns:bQ Ub 155 2 24 (.agg #[.string ⟨#[]⟩,.int .i64 0]):=⟨bX ox⟩
instance Jnt:eX Ub 155 [(0,1),(1,1)]:=⟨⟨_,Aq,ox⟩⟩
theorem YR:Zr (oJ (⟨[],0⟩:Kk)) [.string ⟨#[]⟩,.int .i64 0]:=V3 (Qp (c1:=[.string ⟨#[]⟩]) Zj (Qp (c1:=[.int .i64 0]) Ko (K3)))
instance ti_3:bQ Ub 3 1 8 (.int .i64 0):=⟨bX ox⟩
instance Jo9:aM Ub 155 1 1:=⟨aO Aq rfl rfl ti_3.h rfl⟩
instance:cU Ub 3 (.int .i64):=⟨U2⟩
instance sh_3:cg Ub 3 false 1:=⟨cy U2 rfl ti_3.h⟩
instance Qhc:bQ Ub 157 2 32 (.agg #[.string ⟨#[]⟩,.string ⟨#[]⟩]):=⟨bX ox⟩
theorem YS:Zr (J1 (⟨[],[]⟩:Qn)) [.string ⟨#[]⟩,.string ⟨#[]⟩]:=V3 (Qp (c1:=[.string ⟨#[]⟩]) Zj (Qp (c1:=[.string ⟨#[]⟩]) Zj (K3)))
instance:dM Ub 157 (J1 (⟨[],[]⟩:Qn)):=⟨_,_,_,Qhc.h,YS⟩
instance ti_9:bQ Ub 9 1 16 (.string ⟨#[]⟩):=⟨bX ox⟩
instance Jpa:aM Ub 155 0 0:=⟨aO Aq rfl rfl ti_9.h rfl⟩
instance sh_9:cg Ub 9 false 1:=⟨cy Uu rfl ti_9.h⟩
instance Qo1:bQ Ub 340 3 32 (.agg #[.int .i64 0,.string ⟨#[]⟩,.int .i64 0]):=⟨bX ox⟩
instance Qwi:eX Ub 340 [(0,1),(1,1),(2,1)]:=⟨⟨_,Gl,ox⟩⟩
theorem YT:Zr (Qz (⟨0,[],0⟩:Qm)) [.int .i64 0,.string ⟨#[]⟩,.int .i64 0]:=V3 (Qp (c1:=[.int .i64 0]) Ko (Qp (c1:=[.string ⟨#[]⟩]) Zj (Qp (c1:=[.int .i64 0]) Ko (K3))))
instance Jpb:aM Ub 340 1 1:=⟨aO Gl rfl rfl ti_9.h rfl⟩
theorem Ej:Tryz.prog.follows .mixedOrders=true:=ox
instance Jpc:aM Ub 340 0 0:=⟨aO Gl rfl rfl ti_3.h rfl⟩
instance:cU Ub 21 (.int .i32):=⟨underlying21⟩
instance:cU Ub 5 (.int .u8):=⟨Al⟩
instance Qs1:eX Ub 157 [(0,1),(1,1)]:=⟨⟨_,G7,ox⟩⟩
instance pl_49:eX Ub 49 [(0,1),(1,1),(2,1),(3,1)]:=⟨⟨_,U7,ox⟩⟩
instance sh_49:cg Ub 49 true 4:=⟨cy U7 rfl ti_49.h⟩
instance Js9:cg Ub 157 true 2:=⟨cy G7 rfl Qhc.h⟩
instance:cU Ub 196 (.int .u32):=⟨underlying196⟩
instance:cU Ub 37 (.slice 196):=⟨Ut⟩
instance Vj:bQ Ub 196 1 4 (.int .u32 0):=⟨bX ox⟩
instance Jta:cg Ub 196 false 1:=⟨cy underlying196 rfl Vj.h⟩
instance:cU Ub 195 (.int .u64):=⟨underlying195⟩
theorem Yp:oE Ub 2 49 (λx:Qc=>.agg [ab x.Az,ab x.Step,ab x.Bd,ab x.At]) Ji:=
 VT U7 ox (tM rfl rfl sh_3.h (λ_=>rfl) (λ_=>rfl) (tL (λx:Qc=>x.Az) (tK (n:=0) U2)) (tM rfl rfl sh_3.h (λ_=>rfl) (λ_=>rfl) (tL (λx:Qc=>x.Step) (tK (n:=0) U2)) (tM rfl rfl sh_3.h (λ_=>rfl) (λ_=>rfl) (tL (λx:Qc=>x.Bd) (tK (n:=0) U2)) (tM rfl rfl sh_3.h (λ_=>rfl) (λ_=>rfl) (tL (λx:Qc=>x.At) (tK (n:=0) U2)) (VS)))))
theorem bH:Tryz.prog.eqGuardType Tryz.prog.depth 49=false:=ox
instance Jnu:bQ Ub 513 9 9 (.agg #[.int .u8 0,.int .u8 0,.int .u8 0,.int .u8 0,.int .u8 0,.int .u8 0,.int .u8 0,.int .u8 0,.int .u8 0]):=⟨bX ox⟩
theorem YU:Zr (uD (⟨0,0,0,0,0,0,0,0,0⟩:pS)) [.int .u8 0,.int .u8 0,.int .u8 0,.int .u8 0,.int .u8 0,.int .u8 0,.int .u8 0,.int .u8 0,.int .u8 0]:=V3 (Qp (c1:=[.int .u8 0]) gf (Qp (c1:=[.int .u8 0]) gf (Qp (c1:=[.int .u8 0]) gf (Qp (c1:=[.int .u8 0]) gf (Qp (c1:=[.int .u8 0]) gf (Qp (c1:=[.int .u8 0]) gf (Qp (c1:=[.int .u8 0]) gf (Qp (c1:=[.int .u8 0]) gf (Qp (c1:=[.int .u8 0]) gf (K3))))))))))
instance:dM Ub 513 (uD (⟨0,0,0,0,0,0,0,0,0⟩:pS)):=⟨_,_,_,Jnu.h,YU⟩
instance ti_5:bQ Ub 5 1 1 (.int .u8 0):=⟨bX ox⟩
instance:cU Ub 513 (.array 9 5):=⟨Ak⟩
instance sh_5:cg Ub 5 false 1:=⟨cy Al rfl ti_5.h⟩
theorem YV:∀ l:Bf,l.length=9->(.agg (l.map u8):Ly)=uD (ET l)
 | [a0,a1,a2,a3,a4,a5,a6,a7,a8],_=>rfl
 | [],h=>by simp at h
 | [_],h=>by simp at h
 | [_,_],h=>by simp at h
 | [_,_,_],h=>by simp at h
 | [_,_,_,_],h=>by simp at h
 | [_,_,_,_,_],h=>by simp at h
 | [_,_,_,_,_,_],h=>by simp at h
 | [_,_,_,_,_,_,_],h=>by simp at h
 | [_,_,_,_,_,_,_,_],h=>by simp at h
 | _::_::_::_::_::_::_::_::_::_::_,h=>by simp at h
instance:cU Ub 293 (.slice 5):=⟨underlying293⟩
instance:cU Ub 80 (.slice 9):=⟨Uz⟩
instance Jax:bQ Ub 295 2 32 (.agg #[.pointer none,Ua]):=⟨bX ox⟩
instance:cU Ub 90 (.slice 157):=⟨Gd⟩
instance Jpd:aM Ub 157 0 0:=⟨aO G7 rfl rfl ti_9.h rfl⟩
instance Jpe:aM Ub 157 1 1:=⟨aO G7 rfl rfl ti_9.h rfl⟩
instance ti_95:bQ Ub 95 6 72 (.agg #[Ua,.string ⟨#[]⟩,.int .i64 0,.int .i64 0,.int .i64 0,.int .i64 0]):=⟨bX ox⟩
instance pl_95:eX Ub 95 [(0,1),(1,1),(2,4)]:=⟨⟨_,G8,ox⟩⟩
theorem YW:Zr (Jj (⟨[],[],(⟨0,0,0,0⟩:Qc)⟩:Jc)) [Ua,.string ⟨#[]⟩,.int .i64 0,.int .i64 0,.int .i64 0,.int .i64 0]:=V3 (Qp (c1:=[Ua]) (K9 (k:=2)) (Qp (c1:=[.string ⟨#[]⟩]) Zj (Qp (c1:=[.int .i64 0,.int .i64 0,.int .i64 0,.int .i64 0]) Ja (K3))))
instance ti_90:bQ Ub 90 1 24 (Ua):=⟨bX ox⟩
instance Jqv:aM Ub 95 0 0:=⟨aO G8 rfl rfl ti_90.h rfl⟩
instance sh_90:cg Ub 90 false 1:=⟨cy Gd rfl ti_90.h⟩
instance Jqw:aM Ub 95 2 2:=⟨aO G8 rfl rfl ti_49.h rfl⟩
instance Jqx:aM Ub 95 1 1:=⟨aO G8 rfl rfl ti_9.h rfl⟩
instance ti_26:bQ Ub 26 2 48 (.agg #[Ua,Ua]):=⟨bX ox⟩
instance:dM Ub 26 (Kb (⟨[],[]⟩:Qt)):=⟨_,_,_,ti_26.h,OJ⟩
instance:cU Ub 346 (.slice 340):=⟨Am⟩
instance Jnv:bQ Ub 350 5 72 (.agg #[Ua,.int .i64 0,.int .i64 0,.int .i64 0,Ua]):=⟨bX ox⟩
instance Jnw:eX Ub 350 [(0,1),(1,1),(2,1),(3,1),(4,1)]:=⟨⟨_,Gm,ox⟩⟩
theorem YX:Zr (Oy (⟨[],0,0,0,[]⟩:IP)) [Ua,.int .i64 0,.int .i64 0,.int .i64 0,Ua]:=V3 (Qp (c1:=[Ua]) (K9 (k:=3)) (Qp (c1:=[.int .i64 0]) Ko (Qp (c1:=[.int .i64 0]) Ko (Qp (c1:=[.int .i64 0]) Ko (Qp (c1:=[Ua]) (K9 (k:=1)) (K3))))))
instance pl_26:eX Ub 26 [(0,1),(1,1)]:=⟨⟨_,G9,ox⟩⟩
instance sh_26:cg Ub 26 true 2:=⟨cy G9 rfl ti_26.h⟩
instance:dM Ub 340 (Qz (⟨0,[],0⟩:Qm)):=⟨_,_,_,Qo1.h,YT⟩
instance Jpf:aM Ub 350 1 1:=⟨aO Gm rfl rfl ti_3.h rfl⟩
instance Jhc:bQ Ub 346 1 24 (Ua):=⟨bX ox⟩
instance Jpg:aM Ub 350 0 0:=⟨aO Gm rfl rfl Jhc.h rfl⟩
instance Jtb:cg Ub 346 false 1:=⟨cy Am rfl Jhc.h⟩
instance Jtc:cg Ub 340 true 3:=⟨cy Gl rfl Qo1.h⟩
theorem YY:∃ fs F,Tryz.prog.underlying 340=some (.struct fs)/\fs[1]?=some F/\F.offset=1/\fB Ub F.type false 1:=⟨_,_,Gl,rfl,rfl,sh_9.h⟩
instance Jph:aM Ub 350 2 2:=⟨aO Gm rfl rfl ti_3.h rfl⟩
instance Jpi:aM Ub 340 2 2:=⟨aO Gl rfl rfl ti_3.h rfl⟩
instance ti_23:bQ Ub 23 1 24 (Ua):=⟨bX ox⟩
instance Jqy:aM Ub 26 0 0:=⟨aO G9 rfl rfl ti_23.h rfl⟩
instance:cU Ub 23 (.slice 130):=⟨Gt⟩
instance sh_23:cg Ub 23 false 1:=⟨cy Gt rfl ti_23.h⟩
instance Qbc:bQ Ub 210 3 40 (.agg #[.int .i64 0,.int .i64 0,Ua]):=⟨bX ox⟩
instance Qo2:eX Ub 210 [(0,1),(1,1),(2,1)]:=⟨⟨_,Gv,ox⟩⟩
theorem YZ:Zr (Q0 (⟨0,0,[]⟩:Qi)) [.int .i64 0,.int .i64 0,Ua]:=V3 (Qp (c1:=[.int .i64 0]) Ko (Qp (c1:=[.int .i64 0]) Ko (Qp (c1:=[Ua]) (K9 (k:=1)) (K3))))
instance:cU Ub 128 (.slice 210):=⟨U0⟩
instance Jpj:aM Ub 350 3 3:=⟨aO Gm rfl rfl ti_3.h rfl⟩
instance ti_80:bQ Ub 80 1 24 (Ua):=⟨bX ox⟩
instance Jpk:aM Ub 350 4 4:=⟨aO Gm rfl rfl ti_80.h rfl⟩
instance sh_80:cg Ub 80 false 1:=⟨cy Uz rfl ti_80.h⟩
instance Qwj:bQ Ub 130 2 40 (.agg #[.string ⟨#[]⟩,Ua]):=⟨bX ox⟩
instance Jnx:eX Ub 130 [(0,1),(1,1)]:=⟨⟨_,Aa,ox⟩⟩
theorem ZA:Zr (Xj (⟨[],[]⟩:Jz)) [.string ⟨#[]⟩,Ua]:=V3 (Qp (c1:=[.string ⟨#[]⟩]) Zj (Qp (c1:=[Ua]) (K9 (k:=3)) (K3)))
instance ti_24:bQ Ub 24 1 24 (Ua):=⟨bX ox⟩
instance Jqz:aM Ub 26 1 1:=⟨aO G9 rfl rfl ti_24.h rfl⟩
instance:cU Ub 24 (.slice 128):=⟨Gh⟩
instance sh_24:cg Ub 24 false 1:=⟨cy Gh rfl ti_24.h⟩
instance Qwk:bQ Ub 128 1 24 (Ua):=⟨bX ox⟩
instance Jq0:aM Ub 47 0 0:=⟨aO U5 rfl rfl ti_9.h rfl⟩
instance Jq1:aM Ub 47 1 1:=⟨aO U5 rfl rfl ti_26.h rfl⟩
instance Jtd:cg Ub 130 true 2:=⟨cy Aa rfl Qwj.h⟩
instance:dM Ub 130 (Xj (⟨[],[]⟩:Jz)):=⟨_,_,_,Qwj.h,ZA⟩
instance Jpl:aM Ub 130 1 1:=⟨aO Aa rfl rfl Qwk.h rfl⟩
instance Jte:cg Ub 128 false 1:=⟨cy U0 rfl Qwk.h⟩
instance Jtf:cg Ub 210 true 3:=⟨cy Gv rfl Qbc.h⟩
instance:dM Ub 210 (Q0 (⟨0,0,[]⟩:Qi)):=⟨_,_,_,Qbc.h,YZ⟩
instance Jpm:aM Ub 210 0 0:=⟨aO Gv rfl rfl ti_3.h rfl⟩
instance Jpn:aM Ub 210 1 1:=⟨aO Gv rfl rfl ti_3.h rfl⟩
instance ti_37:bQ Ub 37 1 24 (Ua):=⟨bX ox⟩
instance Jpo:aM Ub 210 2 2:=⟨aO Gv rfl rfl ti_37.h rfl⟩
instance sh_37:cg Ub 37 false 1:=⟨cy Ut rfl ti_37.h⟩
instance Jpp:aM Ub 130 0 0:=⟨aO Aa rfl rfl ti_9.h rfl⟩
instance:cU Ub 28 (.slice 3):=⟨Ux⟩
instance ti_45:bQ Ub 45 38 696 (.agg #[Ua,Ua,.int .i64 0,.int .i64 0,.string ⟨#[]⟩,Ua,Ua,Ua,Ua,Ua,.int .i64 0,.bool false,Ua,Ua,.bool false,Ua,Ua,.bool false,Ua,Ua,.bool false,Ua,Ua,.bool false,Ua,Ua,.int .i64 0,.int .i64 0,.bool false,Ua,Ua,.bool false,Ua,Ua,.bool false,Ua,Ua,Ua]):=⟨bX ox⟩
instance:dM Ub 45 (Xw (⟨(⟨(⟨[],[],0,0⟩:Jq),(⟨[],[],[],[],[]⟩:Q5),[],0⟩:Jw),(⟨(⟨(⟨false,[]⟩:Qg),[]⟩:Qb),(⟨(⟨false,[]⟩:Qg),[]⟩:Qb),(⟨(⟨false,[]⟩:Qg),[]⟩:Qb),(⟨(⟨false,[]⟩:Qg),[]⟩:Qb),(⟨(⟨false,[]⟩:Qg),[]⟩:Qb),0,0⟩:Kq),(⟨(⟨false,[]⟩:Qg),[]⟩:Qb),(⟨(⟨false,[]⟩:Qg),[]⟩:Qb),(⟨(⟨false,[]⟩:Qg),[]⟩:Qb),[]⟩:Kr)):=⟨_,_,_,ti_45.h,OI⟩
instance ti_36:bQ Ub 36 11 208 (.agg #[Ua,Ua,.int .i64 0,.int .i64 0,.string ⟨#[]⟩,Ua,Ua,Ua,Ua,Ua,.int .i64 0]):=⟨bX ox⟩
instance:dM Ub 36 (oI (⟨(⟨[],[],0,0⟩:Jq),(⟨[],[],[],[],[]⟩:Q5),[],0⟩:Jw)):=⟨_,_,_,ti_36.h,OH⟩
instance ti_34:bQ Ub 34 5 112 (.agg #[.string ⟨#[]⟩,Ua,Ua,Ua,Ua]):=⟨bX ox⟩
instance:dM Ub 34 (Kc (⟨[],[],[],[],[]⟩:Q5)):=⟨_,_,_,ti_34.h,OF⟩
instance Jay:bQ Ub 457 6 96 (.agg #[.string ⟨#[]⟩,.string ⟨#[]⟩,.string ⟨#[]⟩,.string ⟨#[]⟩,.string ⟨#[]⟩,.string ⟨#[]⟩]):=⟨bX ox⟩
theorem ZB:Zr (Ib (⟨[],[],[],[],[],[]⟩:uN)) [.string ⟨#[]⟩,.string ⟨#[]⟩,.string ⟨#[]⟩,.string ⟨#[]⟩,.string ⟨#[]⟩,.string ⟨#[]⟩]:=V3 (Qp (c1:=[.string ⟨#[]⟩]) Zj (Qp (c1:=[.string ⟨#[]⟩]) Zj (Qp (c1:=[.string ⟨#[]⟩]) Zj (Qp (c1:=[.string ⟨#[]⟩]) Zj (Qp (c1:=[.string ⟨#[]⟩]) Zj (Qp (c1:=[.string ⟨#[]⟩]) Zj (K3)))))))
instance:dM Ub 457 (Ib (⟨[],[],[],[],[],[]⟩:uN)):=⟨_,_,_,Jay.h,ZB⟩
instance:cU Ub 457 (.array 6 9):=⟨G2⟩
instance Jtg:cg Ub 457 true 6:=⟨cy G2 rfl Jay.h⟩
instance pl_34:eX Ub 34 [(0,1),(1,1),(2,1),(3,1),(4,1)]:=⟨⟨_,Ge,ox⟩⟩
instance sh_34:cg Ub 34 true 5:=⟨cy Ge rfl ti_34.h⟩
instance Jny:bQ Ub 557 3 32 (.agg #[.string ⟨#[]⟩,.int .i64 0,.bool false]):=⟨bX ox⟩
instance Jnz:eX Ub 557 [(0,1),(1,1),(2,1)]:=⟨⟨_,Ab,ox⟩⟩
theorem ZC:Zr (Va (⟨[],0,false⟩:J6)) [.string ⟨#[]⟩,.int .i64 0,.bool false]:=V3 (Qp (c1:=[.string ⟨#[]⟩]) Zj (Qp (c1:=[.int .i64 0]) Ko (Qp (c1:=[.bool false]) li (K3))))
instance ti_4:bQ Ub 4 1 1 (.bool false):=⟨bX ox⟩
instance Jpq:aM Ub 557 2 2:=⟨aO Ab rfl rfl ti_4.h rfl⟩
instance:cU Ub 4 (.bool):=⟨underlying4⟩
instance sh_4:cg Ub 4 false 1:=⟨cy underlying4 rfl ti_4.h⟩
instance Jpr:aM Ub 557 1 1:=⟨aO Ab rfl rfl ti_3.h rfl⟩
instance Jps:aM Ub 557 0 0:=⟨aO Ab rfl rfl ti_9.h rfl⟩
instance Jq2:aM Ub 34 0 0:=⟨aO Ge rfl rfl ti_9.h rfl⟩
instance ti_41:bQ Ub 41 3 56 (.agg #[.bool false,Ua,Ua]):=⟨bX ox⟩
instance:dM Ub 41 (Qk (⟨(⟨false,[]⟩:Qg),[]⟩:Qb)):=⟨_,_,_,ti_41.h,Yh⟩
instance ti_39:bQ Ub 39 2 32 (.agg #[.bool false,Ua]):=⟨bX ox⟩
instance:dM Ub 39 (J4 (⟨false,[]⟩:Qg)):=⟨_,_,_,ti_39.h,Zi⟩
instance Jq3:aM Ub 49 3 3:=⟨aO U7 rfl rfl ti_3.h rfl⟩
instance pl_39:eX Ub 39 [(0,1),(1,1)]:=⟨⟨_,Ac,ox⟩⟩
instance sh_39:cg Ub 39 true 2:=⟨cy Ac rfl ti_39.h⟩
instance pl_41:eX Ub 41 [(0,2),(2,1)]:=⟨⟨_,Ad,ox⟩⟩
instance sh_41:cg Ub 41 true 3:=⟨cy Ad rfl ti_41.h⟩
instance Jq4:aM Ub 39 1 1:=⟨aO Ac rfl rfl ti_37.h rfl⟩
instance Jq5:aM Ub 39 0 0:=⟨aO Ac rfl rfl ti_4.h rfl⟩
instance:cU Ub 524 (.slice 37):=⟨G3⟩
instance:cU Ub 31 (.slice 41):=⟨Gi⟩
instance ti_31:bQ Ub 31 1 24 (Ua):=⟨bX ox⟩
instance Jq6:aM Ub 34 1 1:=⟨aO Ge rfl rfl ti_31.h rfl⟩
instance sh_31:cg Ub 31 false 1:=⟨cy Gi rfl ti_31.h⟩
instance ti_32:bQ Ub 32 1 24 (Ua):=⟨bX ox⟩
instance Jq7:aM Ub 34 2 2:=⟨aO Ge rfl rfl ti_32.h rfl⟩
instance:cU Ub 32 (.slice 31):=⟨Gu⟩
instance sh_32:cg Ub 32 false 1:=⟨cy Gu rfl ti_32.h⟩
instance Jq8:aM Ub 34 3 3:=⟨aO Ge rfl rfl ti_31.h rfl⟩
instance Jq9:aM Ub 34 4 4:=⟨aO Ge rfl rfl ti_31.h rfl⟩
instance Jra:aM Ub 41 1 2:=⟨aO Ad rfl rfl ti_37.h rfl⟩
instance Jrb:aM Ub 41 0 0:=⟨aO Ad rfl rfl ti_39.h rfl⟩
instance pl_36:eX Ub 36 [(0,4),(4,5),(9,1),(10,1)]:=⟨⟨_,Gn,ox⟩⟩
instance sh_36:cg Ub 36 true 11:=⟨cy Gn rfl ti_36.h⟩
instance pl_45:eX Ub 45 [(0,11),(11,17),(28,3),(31,3),(34,3),(37,1)]:=⟨⟨_,Gb,ox⟩⟩
instance sh_45:cg Ub 45 true 38:=⟨cy Gb rfl ti_45.h⟩
instance ti_43:bQ Ub 43 17 296 (.agg #[.bool false,Ua,Ua,.bool false,Ua,Ua,.bool false,Ua,Ua,.bool false,Ua,Ua,.bool false,Ua,Ua,.int .i64 0,.int .i64 0]):=⟨bX ox⟩
instance:dM Ub 43 (Zh (⟨(⟨(⟨false,[]⟩:Qg),[]⟩:Qb),(⟨(⟨false,[]⟩:Qg),[]⟩:Qb),(⟨(⟨false,[]⟩:Qg),[]⟩:Qb),(⟨(⟨false,[]⟩:Qg),[]⟩:Qb),(⟨(⟨false,[]⟩:Qg),[]⟩:Qb),0,0⟩:Kq)):=⟨_,_,_,ti_43.h,OE⟩
instance pl_43:eX Ub 43 [(0,3),(3,3),(6,3),(9,3),(12,3),(15,1),(16,1)]:=⟨⟨_,U9,ox⟩⟩
instance sh_43:cg Ub 43 true 17:=⟨cy U9 rfl ti_43.h⟩
instance Jrc:aM Ub 43 0 0:=⟨aO U9 rfl rfl ti_41.h rfl⟩
instance Jrd:aM Ub 43 1 3:=⟨aO U9 rfl rfl ti_41.h rfl⟩
instance Jre:aM Ub 43 2 6:=⟨aO U9 rfl rfl ti_41.h rfl⟩
instance Jrf:aM Ub 43 3 9:=⟨aO U9 rfl rfl ti_41.h rfl⟩
instance Jrg:aM Ub 43 4 12:=⟨aO U9 rfl rfl ti_41.h rfl⟩
instance Jrh:aM Ub 43 5 15:=⟨aO U9 rfl rfl ti_3.h rfl⟩
instance Jri:aM Ub 43 6 16:=⟨aO U9 rfl rfl ti_3.h rfl⟩
instance Jrj:aM Ub 45 1 11:=⟨aO Gb rfl rfl ti_43.h rfl⟩
instance Jrk:aM Ub 45 2 28:=⟨aO Gb rfl rfl ti_41.h rfl⟩
instance Jrl:aM Ub 45 3 31:=⟨aO Gb rfl rfl ti_41.h rfl⟩
instance Jrm:aM Ub 45 4 34:=⟨aO Gb rfl rfl ti_41.h rfl⟩
instance Jrn:aM Ub 45 5 37:=⟨aO Gb rfl rfl ti_31.h rfl⟩
instance Jro:aM Ub 47 2 3:=⟨aO U5 rfl rfl ti_45.h rfl⟩
instance Jrp:aM Ub 47 3 41:=⟨aO U5 rfl rfl ti_31.h rfl⟩
instance Jrq:aM Ub 47 4 42:=⟨aO U5 rfl rfl ti_31.h rfl⟩
instance Jrr:aM Ub 47 5 43:=⟨aO U5 rfl rfl ti_31.h rfl⟩
instance Jrs:aM Ub 47 6 44:=⟨aO U5 rfl rfl ti_41.h rfl⟩
instance Jrt:aM Ub 47 7 47:=⟨aO U5 rfl rfl ti_3.h rfl⟩
instance Jru:aM Ub 45 0 0:=⟨aO Gb rfl rfl ti_36.h rfl⟩
instance Jrv:aM Ub 36 2 9:=⟨aO Gn rfl rfl ti_31.h rfl⟩
instance ti_30:bQ Ub 30 4 64 (.agg #[Ua,Ua,.int .i64 0,.int .i64 0]):=⟨bX ox⟩
instance:dM Ub 30 (Vf (⟨[],[],0,0⟩:Jq)):=⟨_,_,_,ti_30.h,OG⟩
instance pl_30:eX Ub 30 [(0,1),(1,1),(2,1),(3,1)]:=⟨⟨_,Gp,ox⟩⟩
instance sh_30:cg Ub 30 true 4:=⟨cy Gp rfl ti_30.h⟩
def lC(x:K7):Value:=rI x.op x.a x.b x.n
theorem OK:mq Ub 526 lC nS:=D8 (λx:K7=>x.op) (λx=>x.a) (λx=>x.b) (λx=>x.n) Ae ox ⟨rfl,rfl,rfl,rfl⟩ ⟨rfl,rfl,rfl,rfl⟩ rfl rfl rfl rfl sh_3.h sh_3.h sh_3.h sh_9.h U2 U2 U2 Uu
theorem OL{p:K7}:∀ w S γ v,Ly.val w S γ (rK p) v->v=lC p:=lv4
instance Jn0:bQ Ub 255 4 80 (.agg #[Ua,.map none,Ua,Ua]):=⟨bX ox⟩
instance Jn1:eX Ub 255 [(0,1),(1,1),(2,1),(3,1)]:=⟨⟨_,Gw,ox⟩⟩
instance ti_28:bQ Ub 28 1 24 (Ua):=⟨bX ox⟩
instance Jpt:aM Ub 255 2 2:=⟨aO Gw rfl rfl ti_28.h rfl⟩
instance sh_28:cg Ub 28 false 1:=⟨cy Ux rfl ti_28.h⟩
instance Qj0:bQ Ub 136 6 80 (.agg #[.int .i64 0,.int .i64 0,.int .i64 0,.bool false,Ua,Ua]):=⟨bX ox⟩
theorem ZD:Zr (J5 (⟨0,0,0,(⟨(⟨false,[]⟩:Qg),[]⟩:Qb)⟩:Jk)) [.int .i64 0,.int .i64 0,.int .i64 0,.bool false,Ua,Ua]:=V3 (Qp (c1:=[.int .i64 0]) Ko (Qp (c1:=[.int .i64 0]) Ko (Qp (c1:=[.int .i64 0]) Ko (Qp (c1:=[.bool false,Ua,Ua]) Yh (K3)))))
instance:dM Ub 136 (J5 (⟨0,0,0,(⟨(⟨false,[]⟩:Qg),[]⟩:Qb)⟩:Jk)):=⟨_,_,_,Qj0.h,ZD⟩
instance Qwl:eX Ub 136 [(0,1),(1,1),(2,1),(3,3)]:=⟨⟨_,Gq,ox⟩⟩
instance Jth:cg Ub 136 true 6:=⟨cy Gq rfl Qj0.h⟩
instance Jpu:aM Ub 136 0 0:=⟨aO Gq rfl rfl ti_3.h rfl⟩
instance Jpv:aM Ub 136 1 1:=⟨aO Gq rfl rfl ti_3.h rfl⟩
instance Jpw:aM Ub 136 2 2:=⟨aO Gq rfl rfl ti_3.h rfl⟩
instance Jaz:bQ Ub 526 4 40 (.agg #[.int .i64 0,.int .i64 0,.int .i64 0,.string ⟨#[]⟩]):=⟨bX ox⟩
instance Jn2:eX Ub 526 [(0,1),(1,1),(2,1),(3,1)]:=⟨⟨_,Ae,ox⟩⟩
theorem ZE:Zr (rK (⟨0,0,0,[]⟩:K7)) [.int .i64 0,.int .i64 0,.int .i64 0,.string ⟨#[]⟩]:=V3 (Qp (c1:=[.int .i64 0]) Ko (Qp (c1:=[.int .i64 0]) Ko (Qp (c1:=[.int .i64 0]) Ko (Qp (c1:=[.string ⟨#[]⟩]) Zj (K3)))))
instance:dM Ub 526 (rK (⟨0,0,0,[]⟩:K7)):=⟨_,_,_,Jaz.h,ZE⟩
instance Jti:cg Ub 526 true 4:=⟨cy Ae rfl Jaz.h⟩
instance Jpx:aM Ub 136 3 3:=⟨aO Gq rfl rfl ti_41.h rfl⟩
instance Jpy:aM Ub 526 3 3:=⟨aO Ae rfl rfl ti_9.h rfl⟩
instance Jhf:bQ Ub 253 1 8 (.map none):=⟨bX ox⟩
instance Jpz:aM Ub 255 1 1:=⟨aO Gw rfl rfl Jhf.h rfl⟩
instance:cU Ub 253 (.map 526 3):=⟨G4⟩
instance Jtj:cg Ub 253 false 1:=⟨cy G4 rfl Jhf.h⟩
instance ti_27:bQ Ub 27 1 24 (Ua):=⟨bX ox⟩
instance Jp0:aM Ub 255 0 0:=⟨aO Gw rfl rfl ti_27.h rfl⟩
instance:cU Ub 27 (.slice 136):=⟨Gj⟩
instance sh_27:cg Ub 27 false 1:=⟨cy Gj rfl ti_27.h⟩
instance Jp1:aM Ub 255 3 3:=⟨aO Gw rfl rfl ti_28.h rfl⟩
instance Jrw:aM Ub 30 1 1:=⟨aO Gp rfl rfl ti_28.h rfl⟩
instance Jrx:aM Ub 30 0 0:=⟨aO Gp rfl rfl ti_27.h rfl⟩
instance Jry:aM Ub 36 0 0:=⟨aO Gn rfl rfl ti_30.h rfl⟩
instance Jrz:aM Ub 30 2 2:=⟨aO Gp rfl rfl ti_3.h rfl⟩
instance Jr0:aM Ub 30 3 3:=⟨aO Gp rfl rfl ti_3.h rfl⟩
instance Qzs:bQ Ub 138 3 24 (.agg #[.int .i64 0,.int .i64 0,.int .i64 0]):=⟨bX ox⟩
theorem ZF:Zr (Ic (⟨0,0,0⟩:Kz)) [.int .i64 0,.int .i64 0,.int .i64 0]:=V3 (Qp (c1:=[.int .i64 0]) Ko (Qp (c1:=[.int .i64 0]) Ko (Qp (c1:=[.int .i64 0]) Ko (K3))))
instance:dM Ub 138 (Ic (⟨0,0,0⟩:Kz)):=⟨_,_,_,Qzs.h,ZF⟩
instance Ja0:eX Ub 138 [(0,1),(1,1),(2,1)]:=⟨⟨_,Ar,ox⟩⟩
instance Jtk:cg Ub 138 true 3:=⟨cy Ar rfl Qzs.h⟩
theorem Ek:oE Ub 2 138 (λx:Kz=>.agg [ab x.op,ab x.a,ab x.b]) Z2:=
 VT Ar ox (tM rfl rfl sh_3.h (λ_=>rfl) (λ_=>rfl) (tL (λx:Kz=>x.op) (tK (n:=0) U2)) (tM rfl rfl sh_3.h (λ_=>rfl) (λ_=>rfl) (tL (λx:Kz=>x.a) (tK (n:=0) U2)) (tM rfl rfl sh_3.h (λ_=>rfl) (λ_=>rfl) (tL (λx:Kz=>x.b) (tK (n:=0) U2)) (VS))))
theorem El:Tryz.prog.eqGuardType Tryz.prog.depth 138=false:=ox
instance Jr1:aM Ub 36 1 4:=⟨aO Gn rfl rfl ti_34.h rfl⟩
instance pl_47:eX Ub 47 [(0,1),(1,2),(3,38),(41,1),(42,1),(43,1),(44,3),(47,1)]:=⟨⟨_,U5,ox⟩⟩
instance sh_47:cg Ub 47 true 48:=⟨cy U5 rfl ti_47.h⟩
instance Jr2:aM Ub 49 0 0:=⟨aO U7 rfl rfl ti_3.h rfl⟩
instance Jr3:aM Ub 49 1 1:=⟨aO U7 rfl rfl ti_3.h rfl⟩
instance Jr4:aM Ub 49 2 2:=⟨aO U7 rfl rfl ti_3.h rfl⟩
instance:cU Ub 394 (.slice 397):=⟨An⟩
instance Q4i:bQ Ub 397 2 24 (.agg #[.string ⟨#[]⟩,.int .i64 0]):=⟨bX ox⟩
instance Jtl:cg Ub 397 true 2:=⟨cy Af rfl Q4i.h⟩
instance Jp2:aM Ub 397 1 1:=⟨aO Af rfl rfl ti_3.h rfl⟩
instance Jp3:aM Ub 397 0 0:=⟨aO Af rfl rfl ti_9.h rfl⟩
instance Jn3:eX Ub 397 [(0,1),(1,1)]:=⟨⟨_,Af,ox⟩⟩
theorem ZG:Zr (uE (⟨[],0⟩:nT)) [.string ⟨#[]⟩,.int .i64 0]:=V3 (Qp (c1:=[.string ⟨#[]⟩]) Zj (Qp (c1:=[.int .i64 0]) Ko (K3)))
instance Jhg:bQ Ub 149 5 104 (.agg #[Ua,.bool false,Ua,Ua,Ua]):=⟨bX ox⟩
theorem ZH:Zr (yF (⟨[],(⟨(⟨false,[]⟩:Qg),[]⟩:Qb),[]⟩:yZ)) [Ua,.bool false,Ua,Ua,Ua]:=V3 (Qp (c1:=[Ua]) (K9 (k:=14)) (Qp (c1:=[.bool false,Ua,Ua]) Yh (Qp (c1:=[Ua]) (K9 (k:=3)) (K3))))
instance:dM Ub 149 (yF (⟨[],(⟨(⟨false,[]⟩:Qg),[]⟩:Qb),[]⟩:yZ)):=⟨_,_,_,Jhg.h,ZH⟩
instance Jtm:cg Ub 149 true 5:=⟨cy underlying149 rfl Jhg.h⟩
instance ti_72:bQ Ub 72 48 896 (.agg #[.string ⟨#[]⟩,Ua,Ua,Ua,Ua,.int .i64 0,.int .i64 0,.string ⟨#[]⟩,Ua,Ua,Ua,Ua,Ua,.int .i64 0,.bool false,Ua,Ua,.bool false,Ua,Ua,.bool false,Ua,Ua,.bool false,Ua,Ua,.bool false,Ua,Ua,.int .i64 0,.int .i64 0,.bool false,Ua,Ua,.bool false,Ua,Ua,.bool false,Ua,Ua,Ua,Ua,Ua,Ua,.bool false,Ua,Ua,.int .i64 0]):=⟨bX ox⟩
theorem Jt:Zr (Qe (⟨false,[],[]⟩:Qa)) [.bool false,Ua,Ua]:=V3 (Qp (c1:=[.bool false]) li (Qp (c1:=[Ua]) (K9 (k:=1)) (Qp (c1:=[Ua]) (K9 (k:=1)) (K3))))
theorem OM:Zr (Vl (⟨(⟨false,[],[]⟩:Qa),(⟨false,[],[]⟩:Qa),(⟨false,[],[]⟩:Qa),(⟨false,[],[]⟩:Qa),(⟨false,[],[]⟩:Qa),0,0⟩:Qx)) [.bool false,Ua,Ua,.bool false,Ua,Ua,.bool false,Ua,Ua,.bool false,Ua,Ua,.bool false,Ua,Ua,.int .i64 0,.int .i64 0]:=V3 (Qp (c1:=[.bool false,Ua,Ua]) Jt (Qp (c1:=[.bool false,Ua,Ua]) Jt (Qp (c1:=[.bool false,Ua,Ua]) Jt (Qp (c1:=[.bool false,Ua,Ua]) Jt (Qp (c1:=[.bool false,Ua,Ua]) Jt (Qp (c1:=[.int .i64 0]) Ko (Qp (c1:=[.int .i64 0]) Ko (K3))))))))
theorem ON:Zr (Q8 (⟨[],[],[],[],[]⟩:Ql)) [.string ⟨#[]⟩,Ua,Ua,Ua,Ua]:=V3 (Qp (c1:=[.string ⟨#[]⟩]) Zj (Qp (c1:=[Ua]) (K9 (k:=3)) (Qp (c1:=[Ua]) (K9 (k:=1)) (Qp (c1:=[Ua]) (K9 (k:=3)) (Qp (c1:=[Ua]) (K9 (k:=3)) (K3))))))
theorem OO:Zr (Kx (⟨[],[],0,0⟩:Qr)) [Ua,Ua,.int .i64 0,.int .i64 0]:=V3 (Qp (c1:=[Ua]) (K9 (k:=6)) (Qp (c1:=[Ua]) (K9 (k:=1)) (Qp (c1:=[.int .i64 0]) Ko (Qp (c1:=[.int .i64 0]) Ko (K3)))))
theorem ZI:Zr (yG (⟨(⟨[],[],0,0⟩:Qr),(⟨[],[],[],[],[]⟩:Ql),[],0⟩:Qs)) [Ua,Ua,.int .i64 0,.int .i64 0,.string ⟨#[]⟩,Ua,Ua,Ua,Ua,Ua,.int .i64 0]:=V3 (Qp (c1:=[Ua,Ua,.int .i64 0,.int .i64 0]) OO (Qp (c1:=[.string ⟨#[]⟩,Ua,Ua,Ua,Ua]) ON (Qp (c1:=[Ua]) (K9 (k:=3)) (Qp (c1:=[.int .i64 0]) Ko (K3)))))
theorem ZJ:Zr (rL (⟨(⟨(⟨[],[],0,0⟩:Qr),(⟨[],[],[],[],[]⟩:Ql),[],0⟩:Qs),(⟨(⟨false,[],[]⟩:Qa),(⟨false,[],[]⟩:Qa),(⟨false,[],[]⟩:Qa),(⟨false,[],[]⟩:Qa),(⟨false,[],[]⟩:Qa),0,0⟩:Qx),(⟨false,[],[]⟩:Qa),(⟨false,[],[]⟩:Qa),(⟨false,[],[]⟩:Qa),[]⟩:Q3)) [Ua,Ua,.int .i64 0,.int .i64 0,.string ⟨#[]⟩,Ua,Ua,Ua,Ua,Ua,.int .i64 0,.bool false,Ua,Ua,.bool false,Ua,Ua,.bool false,Ua,Ua,.bool false,Ua,Ua,.bool false,Ua,Ua,.int .i64 0,.int .i64 0,.bool false,Ua,Ua,.bool false,Ua,Ua,.bool false,Ua,Ua,Ua]:=V3 (Qp (c1:=[Ua,Ua,.int .i64 0,.int .i64 0,.string ⟨#[]⟩,Ua,Ua,Ua,Ua,Ua,.int .i64 0]) ZI (Qp (c1:=[.bool false,Ua,Ua,.bool false,Ua,Ua,.bool false,Ua,Ua,.bool false,Ua,Ua,.bool false,Ua,Ua,.int .i64 0,.int .i64 0]) OM (Qp (c1:=[.bool false,Ua,Ua]) Jt (Qp (c1:=[.bool false,Ua,Ua]) Jt (Qp (c1:=[.bool false,Ua,Ua]) Jt (Qp (c1:=[Ua]) (K9 (k:=3)) (K3)))))))
theorem OP:Zr (Qu (⟨[],[]⟩:Qo)) [Ua,Ua]:=V3 (Qp (c1:=[Ua]) (K9 (k:=2)) (Qp (c1:=[Ua]) (K9 (k:=1)) (K3)))
theorem ZK:Zr (Qy (⟨[],(⟨[],[]⟩:Qo),(⟨(⟨(⟨[],[],0,0⟩:Qr),(⟨[],[],[],[],[]⟩:Ql),[],0⟩:Qs),(⟨(⟨false,[],[]⟩:Qa),(⟨false,[],[]⟩:Qa),(⟨false,[],[]⟩:Qa),(⟨false,[],[]⟩:Qa),(⟨false,[],[]⟩:Qa),0,0⟩:Qx),(⟨false,[],[]⟩:Qa),(⟨false,[],[]⟩:Qa),(⟨false,[],[]⟩:Qa),[]⟩:Q3),[],[],[],(⟨false,[],[]⟩:Qa),0⟩:Qv)) [.string ⟨#[]⟩,Ua,Ua,Ua,Ua,.int .i64 0,.int .i64 0,.string ⟨#[]⟩,Ua,Ua,Ua,Ua,Ua,.int .i64 0,.bool false,Ua,Ua,.bool false,Ua,Ua,.bool false,Ua,Ua,.bool false,Ua,Ua,.bool false,Ua,Ua,.int .i64 0,.int .i64 0,.bool false,Ua,Ua,.bool false,Ua,Ua,.bool false,Ua,Ua,Ua,Ua,Ua,Ua,.bool false,Ua,Ua,.int .i64 0]:=V3 (Qp (c1:=[.string ⟨#[]⟩]) Zj (Qp (c1:=[Ua,Ua]) OP (Qp (c1:=[Ua,Ua,.int .i64 0,.int .i64 0,.string ⟨#[]⟩,Ua,Ua,Ua,Ua,Ua,.int .i64 0,.bool false,Ua,Ua,.bool false,Ua,Ua,.bool false,Ua,Ua,.bool false,Ua,Ua,.bool false,Ua,Ua,.int .i64 0,.int .i64 0,.bool false,Ua,Ua,.bool false,Ua,Ua,.bool false,Ua,Ua,Ua]) ZJ (Qp (c1:=[Ua]) (K9 (k:=3)) (Qp (c1:=[Ua]) (K9 (k:=3)) (Qp (c1:=[Ua]) (K9 (k:=3)) (Qp (c1:=[.bool false,Ua,Ua]) Jt (Qp (c1:=[.int .i64 0]) Ko (K3)))))))))
instance:dM Ub 72 (Qy (⟨[],(⟨[],[]⟩:Qo),(⟨(⟨(⟨[],[],0,0⟩:Qr),(⟨[],[],[],[],[]⟩:Ql),[],0⟩:Qs),(⟨(⟨false,[],[]⟩:Qa),(⟨false,[],[]⟩:Qa),(⟨false,[],[]⟩:Qa),(⟨false,[],[]⟩:Qa),(⟨false,[],[]⟩:Qa),0,0⟩:Qx),(⟨false,[],[]⟩:Qa),(⟨false,[],[]⟩:Qa),(⟨false,[],[]⟩:Qa),[]⟩:Q3),[],[],[],(⟨false,[],[]⟩:Qa),0⟩:Qv)):=⟨_,_,_,ti_72.h,ZK⟩
instance ti_73:bQ Ub 73 4 32 (.agg #[.int .i64 0,.int .i64 0,.int .i64 0,.int .i64 0]):=⟨bX ox⟩
theorem OQ:Zr (oK (⟨0,0,0,0⟩:Ks)) [.int .i64 0,.int .i64 0,.int .i64 0,.int .i64 0]:=V3 (Qp (c1:=[.int .i64 0]) Ko (Qp (c1:=[.int .i64 0]) Ko (Qp (c1:=[.int .i64 0]) Ko (Qp (c1:=[.int .i64 0]) Ko (K3)))))
instance:dM Ub 73 (oK (⟨0,0,0,0⟩:Ks)):=⟨_,_,_,ti_73.h,OQ⟩
instance Qeb:bQ Ub 103 2 16 (.agg #[.int .i64 0,.int .i64 0]):=⟨bX ox⟩
theorem Zm:Zr (Ei (⟨0,0⟩:Kt)) [.int .i64 0,.int .i64 0]:=V3 (Qp (c1:=[.int .i64 0]) Ko (Qp (c1:=[.int .i64 0]) Ko (K3)))
instance:dM Ub 103 (Ei (⟨0,0⟩:Kt)):=⟨_,_,_,Qeb.h,Zm⟩
instance Ja1:bQ Ub 177 2 32 (.agg #[.string ⟨#[]⟩,.string ⟨#[]⟩]):=⟨bX ox⟩
instance:cU Ub 102 (.slice 177):=⟨G5⟩
instance Qex:bQ Ub 262 3 32 (.agg #[.int .i64 0,.string ⟨#[]⟩,.int .i64 0]):=⟨bX ox⟩
instance Qzt:eX Ub 262 [(0,1),(1,1),(2,1)]:=⟨⟨_,Gx,ox⟩⟩
theorem Z0:Zr (Qh (⟨0,[],0⟩:Qf)) [.int .i64 0,.string ⟨#[]⟩,.int .i64 0]:=V3 (Qp (c1:=[.int .i64 0]) Ko (Qp (c1:=[.string ⟨#[]⟩]) Zj (Qp (c1:=[.int .i64 0]) Ko (K3))))
instance Jp4:aM Ub 262 1 1:=⟨aO Gx rfl rfl ti_9.h rfl⟩
instance:cU Ub 263 (.slice 262):=⟨U1⟩
instance Jp5:aM Ub 262 2 2:=⟨aO Gx rfl rfl ti_3.h rfl⟩
instance Jp6:aM Ub 262 0 0:=⟨aO Gx rfl rfl ti_3.h rfl⟩
instance Jtn:cg Ub 262 true 3:=⟨cy Gx rfl Qex.h⟩
instance:dM Ub 262 (Qh (⟨0,[],0⟩:Qf)):=⟨_,_,_,Qex.h,Z0⟩
instance:cU Ub 103 (.array 2 3):=⟨Uw⟩
instance Jto:cg Ub 103 true 2:=⟨cy Uw rfl Qeb.h⟩
instance Jn4:eX Ub 177 [(0,1),(1,1)]:=⟨⟨_,As,ox⟩⟩
theorem ZL:Zr (Jg (⟨[],[]⟩:Q1)) [.string ⟨#[]⟩,.string ⟨#[]⟩]:=V3 (Qp (c1:=[.string ⟨#[]⟩]) Zj (Qp (c1:=[.string ⟨#[]⟩]) Zj (K3)))
instance Jp7:aM Ub 177 0 0:=⟨aO As rfl rfl ti_9.h rfl⟩
instance Jp8:aM Ub 177 1 1:=⟨aO As rfl rfl ti_9.h rfl⟩
instance:cU Ub 73 (.array 4 3):=⟨Uv⟩
instance Ja2:bQ Ub 107 6 72 (.agg #[Ua,.string ⟨#[]⟩,.int .i64 0,.int .i64 0,.int .i64 0,.int .i64 0]):=⟨bX ox⟩
instance Jn5:eX Ub 107 [(0,1),(1,1),(2,4)]:=⟨⟨_,Gy,ox⟩⟩
theorem ZM:Zr (Jb (⟨[],[],(⟨0,0,0,0⟩:Ks)⟩:Q7)) [Ua,.string ⟨#[]⟩,.int .i64 0,.int .i64 0,.int .i64 0,.int .i64 0]:=V3 (Qp (c1:=[Ua]) (K9 (k:=2)) (Qp (c1:=[.string ⟨#[]⟩]) Zj (Qp (c1:=[.int .i64 0,.int .i64 0,.int .i64 0,.int .i64 0]) OQ (K3))))
instance:dM Ub 107 (Jb (⟨[],[],(⟨0,0,0,0⟩:Ks)⟩:Q7)):=⟨_,_,_,Ja2.h,ZM⟩
instance Jtp:cg Ub 107 true 6:=⟨cy Gy rfl Ja2.h⟩
instance pl_72:eX Ub 72 [(0,1),(1,2),(3,38),(41,1),(42,1),(43,1),(44,3),(47,1)]:=⟨⟨_,U6,ox⟩⟩
instance sh_72:cg Ub 72 true 48:=⟨cy U6 rfl ti_72.h⟩
instance ti_55:bQ Ub 55 2 48 (.agg #[Ua,Ua]):=⟨bX ox⟩
instance:dM Ub 55 (Qu (⟨[],[]⟩:Qo)):=⟨_,_,_,ti_55.h,OP⟩
instance Jhh:bQ Ub 102 1 24 (Ua):=⟨bX ox⟩
instance Jp9:aM Ub 107 0 0:=⟨aO Gy rfl rfl Jhh.h rfl⟩
instance Jtq:cg Ub 102 false 1:=⟨cy G5 rfl Jhh.h⟩
instance Jqa:aM Ub 107 2 2:=⟨aO Gy rfl rfl ti_73.h rfl⟩
instance Jqb:aM Ub 107 1 1:=⟨aO Gy rfl rfl ti_9.h rfl⟩
instance sh_73:cg Ub 73 true 4:=⟨cy Uv rfl ti_73.h⟩
instance Ja3:bQ Ub 265 6 80 (.agg #[Ua,.int .i64 0,.int .i64 0,.int .i64 0,Ua,.int .i64 0]):=⟨bX ox⟩
theorem ZN:Zr (OC (⟨[],0,0,0,[],0⟩:IR)) [Ua,.int .i64 0,.int .i64 0,.int .i64 0,Ua,.int .i64 0]:=V3 (Qp (c1:=[Ua]) (K9 (k:=3)) (Qp (c1:=[.int .i64 0]) Ko (Qp (c1:=[.int .i64 0]) Ko (Qp (c1:=[.int .i64 0]) Ko (Qp (c1:=[Ua]) (K9 (k:=1)) (Qp (c1:=[.int .i64 0]) Ko (K3)))))))
instance:dM Ub 265 (OC (⟨[],0,0,0,[],0⟩:IR)):=⟨_,_,_,Ja3.h,ZN⟩
instance Jn6:eX Ub 265 [(0,1),(1,1),(2,1),(3,1),(4,1),(5,1)]:=⟨⟨_,Gc,ox⟩⟩
instance Jtr:cg Ub 265 true 6:=⟨cy Gc rfl Ja3.h⟩
instance Jqc:aM Ub 265 5 5:=⟨aO Gc rfl rfl ti_3.h rfl⟩
instance pl_55:eX Ub 55 [(0,1),(1,1)]:=⟨⟨_,Ah,ox⟩⟩
instance sh_55:cg Ub 55 true 2:=⟨cy Ah rfl ti_55.h⟩
instance Jqd:aM Ub 265 1 1:=⟨aO Gc rfl rfl ti_3.h rfl⟩
instance Jhi:bQ Ub 263 1 24 (Ua):=⟨bX ox⟩
instance Jqe:aM Ub 265 0 0:=⟨aO Gc rfl rfl Jhi.h rfl⟩
instance Jts:cg Ub 263 false 1:=⟨cy U1 rfl Jhi.h⟩
instance Jqf:aM Ub 265 2 2:=⟨aO Gc rfl rfl ti_3.h rfl⟩
instance ti_52:bQ Ub 52 1 24 (Ua):=⟨bX ox⟩
instance Jr5:aM Ub 55 0 0:=⟨aO Ah rfl rfl ti_52.h rfl⟩
instance:cU Ub 52 (.slice 125):=⟨G6⟩
instance sh_52:cg Ub 52 false 1:=⟨cy G6 rfl ti_52.h⟩
instance Y1:bQ Ub 208 3 40 (.agg #[.int .i64 0,.int .i64 0,Ua]):=⟨bX ox⟩
instance:cU Ub 123 (.slice 208):=⟨Uy⟩
instance Jqg:aM Ub 265 3 3:=⟨aO Gc rfl rfl ti_3.h rfl⟩
instance Qo4:eX Ub 208 [(0,1),(1,1),(2,1)]:=⟨⟨_,Gz,ox⟩⟩
theorem Wj:Zr (Qj (⟨0,0,[]⟩:Qd)) [.int .i64 0,.int .i64 0,Ua]:=V3 (Qp (c1:=[.int .i64 0]) Ko (Qp (c1:=[.int .i64 0]) Ko (Qp (c1:=[Ua]) (K9 (k:=1)) (K3))))
instance Jqh:aM Ub 265 4 4:=⟨aO Gc rfl rfl ti_80.h rfl⟩
instance Q4k:bQ Ub 125 2 40 (.agg #[.string ⟨#[]⟩,Ua]):=⟨bX ox⟩
instance Jhj:eX Ub 125 [(0,1),(1,1)]:=⟨⟨_,Au,ox⟩⟩
theorem ZO:Zr (Vb (⟨[],[]⟩:Q9)) [.string ⟨#[]⟩,Ua]:=V3 (Qp (c1:=[.string ⟨#[]⟩]) Zj (Qp (c1:=[Ua]) (K9 (k:=3)) (K3)))
instance ti_53:bQ Ub 53 1 24 (Ua):=⟨bX ox⟩
instance Jr6:aM Ub 55 1 1:=⟨aO Ah rfl rfl ti_53.h rfl⟩
instance:cU Ub 53 (.slice 123):=⟨Gk⟩
instance sh_53:cg Ub 53 false 1:=⟨cy Gk rfl ti_53.h⟩
instance Qwm:bQ Ub 123 1 24 (Ua):=⟨bX ox⟩
instance Jr7:aM Ub 72 0 0:=⟨aO U6 rfl rfl ti_9.h rfl⟩
instance Jr8:aM Ub 72 1 1:=⟨aO U6 rfl rfl ti_55.h rfl⟩
instance ti_62:bQ Ub 62 5 112 (.agg #[.string ⟨#[]⟩,Ua,Ua,Ua,Ua]):=⟨bX ox⟩
instance:dM Ub 62 (Q8 (⟨[],[],[],[],[]⟩:Ql)):=⟨_,_,_,ti_62.h,ON⟩
instance pl_62:eX Ub 62 [(0,1),(1,1),(2,1),(3,1),(4,1)]:=⟨⟨_,Gf,ox⟩⟩
instance sh_62:cg Ub 62 true 5:=⟨cy Gf rfl ti_62.h⟩
instance Jr9:aM Ub 62 0 0:=⟨aO Gf rfl rfl ti_9.h rfl⟩
instance ti_66:bQ Ub 66 3 56 (.agg #[.bool false,Ua,Ua]):=⟨bX ox⟩
instance:dM Ub 66 (Qe (⟨false,[],[]⟩:Qa)):=⟨_,_,_,ti_66.h,Jt⟩
instance Qlc:bQ Ub 270 2 32 (.agg #[.bool false,Ua]):=⟨bX ox⟩
theorem Wb:Zr (V4 (⟨false,[]⟩:Jf)) [.bool false,Ua]:=V3 (Qp (c1:=[.bool false]) li (Qp (c1:=[Ua]) (K9 (k:=1)) (K3)))
instance:dM Ub 270 (V4 (⟨false,[]⟩:Jf)):=⟨_,_,_,Qlc.h,Wb⟩
instance Qo5:eX Ub 270 [(0,1),(1,1)]:=⟨⟨_,Ai,ox⟩⟩
instance Jtt:cg Ub 270 true 2:=⟨cy Ai rfl Qlc.h⟩
instance Jqi:aM Ub 270 1 1:=⟨aO Ai rfl rfl ti_37.h rfl⟩
instance Jqj:aM Ub 270 0 0:=⟨aO Ai rfl rfl ti_4.h rfl⟩
instance pl_66:eX Ub 66 [(0,1),(1,1),(2,1)]:=⟨⟨_,G0,ox⟩⟩
instance Jsa:aM Ub 66 2 2:=⟨aO G0 rfl rfl ti_37.h rfl⟩
instance Jsb:aM Ub 66 1 1:=⟨aO G0 rfl rfl ti_37.h rfl⟩
instance sh_66:cg Ub 66 true 3:=⟨cy G0 rfl ti_66.h⟩
instance Jsc:aM Ub 66 0 0:=⟨aO G0 rfl rfl ti_4.h rfl⟩
instance:cU Ub 59 (.slice 66):=⟨U8⟩
instance ti_59:bQ Ub 59 1 24 (Ua):=⟨bX ox⟩
instance Jsd:aM Ub 62 1 1:=⟨aO Gf rfl rfl ti_59.h rfl⟩
instance sh_59:cg Ub 59 false 1:=⟨cy U8 rfl ti_59.h⟩
instance ti_60:bQ Ub 60 1 24 (Ua):=⟨bX ox⟩
instance Jse:aM Ub 62 2 2:=⟨aO Gf rfl rfl ti_60.h rfl⟩
instance:cU Ub 60 (.slice 59):=⟨Ao⟩
instance sh_60:cg Ub 60 false 1:=⟨cy Ao rfl ti_60.h⟩
instance Jsf:aM Ub 62 3 3:=⟨aO Gf rfl rfl ti_59.h rfl⟩
instance Jsg:aM Ub 62 4 4:=⟨aO Gf rfl rfl ti_59.h rfl⟩
instance ti_70:bQ Ub 70 38 696 (.agg #[Ua,Ua,.int .i64 0,.int .i64 0,.string ⟨#[]⟩,Ua,Ua,Ua,Ua,Ua,.int .i64 0,.bool false,Ua,Ua,.bool false,Ua,Ua,.bool false,Ua,Ua,.bool false,Ua,Ua,.bool false,Ua,Ua,.int .i64 0,.int .i64 0,.bool false,Ua,Ua,.bool false,Ua,Ua,.bool false,Ua,Ua,Ua]):=⟨bX ox⟩
instance Jsh:aM Ub 72 2 3:=⟨aO U6 rfl rfl ti_70.h rfl⟩
instance ti_64:bQ Ub 64 11 208 (.agg #[Ua,Ua,.int .i64 0,.int .i64 0,.string ⟨#[]⟩,Ua,Ua,Ua,Ua,Ua,.int .i64 0]):=⟨bX ox⟩
instance Jsi:aM Ub 70 0 0:=⟨aO Gg rfl rfl ti_64.h rfl⟩
instance Jsj:aM Ub 64 1 4:=⟨aO G1 rfl rfl ti_62.h rfl⟩
instance Jsk:aM Ub 64 2 9:=⟨aO G1 rfl rfl ti_59.h rfl⟩
instance Jsl:aM Ub 64 3 10:=⟨aO G1 rfl rfl ti_3.h rfl⟩
instance ti_68:bQ Ub 68 17 296 (.agg #[.bool false,Ua,Ua,.bool false,Ua,Ua,.bool false,Ua,Ua,.bool false,Ua,Ua,.bool false,Ua,Ua,.int .i64 0,.int .i64 0]):=⟨bX ox⟩
instance:dM Ub 68 (Vl (⟨(⟨false,[],[]⟩:Qa),(⟨false,[],[]⟩:Qa),(⟨false,[],[]⟩:Qa),(⟨false,[],[]⟩:Qa),(⟨false,[],[]⟩:Qa),0,0⟩:Qx)):=⟨_,_,_,ti_68.h,OM⟩
instance pl_68:eX Ub 68 [(0,3),(3,3),(6,3),(9,3),(12,3),(15,1),(16,1)]:=⟨⟨_,Ga,ox⟩⟩
instance sh_68:cg Ub 68 true 17:=⟨cy Ga rfl ti_68.h⟩
instance Jsm:aM Ub 68 0 0:=⟨aO Ga rfl rfl ti_66.h rfl⟩
instance Jsn:aM Ub 70 1 11:=⟨aO Gg rfl rfl ti_68.h rfl⟩
instance Jso:aM Ub 68 1 3:=⟨aO Ga rfl rfl ti_66.h rfl⟩
instance Jsp:aM Ub 68 2 6:=⟨aO Ga rfl rfl ti_66.h rfl⟩
instance Jsq:aM Ub 68 3 9:=⟨aO Ga rfl rfl ti_66.h rfl⟩
instance Jsr:aM Ub 68 4 12:=⟨aO Ga rfl rfl ti_66.h rfl⟩
instance Jss:aM Ub 68 5 15:=⟨aO Ga rfl rfl ti_3.h rfl⟩
instance Jst:aM Ub 68 6 16:=⟨aO Ga rfl rfl ti_3.h rfl⟩
instance Jsu:aM Ub 70 2 28:=⟨aO Gg rfl rfl ti_66.h rfl⟩
instance Jsv:aM Ub 70 3 31:=⟨aO Gg rfl rfl ti_66.h rfl⟩
instance Jsw:aM Ub 70 4 34:=⟨aO Gg rfl rfl ti_66.h rfl⟩
instance Jsx:aM Ub 70 5 37:=⟨aO Gg rfl rfl ti_59.h rfl⟩
instance Jsy:aM Ub 72 3 41:=⟨aO U6 rfl rfl ti_59.h rfl⟩
instance Jsz:aM Ub 72 4 42:=⟨aO U6 rfl rfl ti_59.h rfl⟩
instance Js0:aM Ub 72 5 43:=⟨aO U6 rfl rfl ti_59.h rfl⟩
instance Js1:aM Ub 72 6 44:=⟨aO U6 rfl rfl ti_66.h rfl⟩
instance Js2:aM Ub 72 7 47:=⟨aO U6 rfl rfl ti_3.h rfl⟩
instance Qs3:bQ Ub 116 3 24 (.agg #[.int .i64 0,.int .i64 0,.int .i64 0]):=⟨bX ox⟩
theorem ZP:Zr (Id (⟨0,0,0⟩:Yd)) [.int .i64 0,.int .i64 0,.int .i64 0]:=V3 (Qp (c1:=[.int .i64 0]) Ko (Qp (c1:=[.int .i64 0]) Ko (Qp (c1:=[.int .i64 0]) Ko (K3))))
instance:dM Ub 116 (Id (⟨0,0,0⟩:Yd)):=⟨_,_,_,Qs3.h,ZP⟩
instance Jqk:aM Ub 125 1 1:=⟨aO Au rfl rfl Qwm.h rfl⟩
instance Jtu:cg Ub 123 false 1:=⟨cy Uy rfl Qwm.h⟩
instance:cU Ub 116 (.array 3 3):=⟨U4⟩
instance Jtv:cg Ub 116 true 3:=⟨cy U4 rfl Qs3.h⟩
instance Jql:aM Ub 125 0 0:=⟨aO Au rfl rfl ti_9.h rfl⟩
instance Jqm:aM Ub 208 0 0:=⟨aO Gz rfl rfl ti_3.h rfl⟩
instance Jtw:cg Ub 208 true 3:=⟨cy Gz rfl Y1.h⟩
instance Jqn:aM Ub 208 1 1:=⟨aO Gz rfl rfl ti_3.h rfl⟩
instance Jqo:aM Ub 208 2 2:=⟨aO Gz rfl rfl ti_37.h rfl⟩
instance ti_58:bQ Ub 58 4 64 (.agg #[Ua,Ua,.int .i64 0,.int .i64 0]):=⟨bX ox⟩
instance:dM Ub 58 (Kx (⟨[],[],0,0⟩:Qr)):=⟨_,_,_,ti_58.h,OO⟩
instance Ja4:bQ Ub 201 2 48 (.agg #[Ua,Ua]):=⟨bX ox⟩
instance Jn7:eX Ub 201 [(0,1),(1,1)]:=⟨⟨_,Aj,ox⟩⟩
theorem ZQ:Zr (OD (⟨[],[]⟩:IS)) [Ua,Ua]:=V3 (Qp (c1:=[Ua]) (K9 (k:=6)) (Qp (c1:=[Ua]) (K9 (k:=1)) (K3)))
instance:dM Ub 201 (OD (⟨[],[]⟩:IS)):=⟨_,_,_,Ja4.h,ZQ⟩
instance Jtx:cg Ub 201 true 2:=⟨cy Aj rfl Ja4.h⟩
instance:dM Ub 208 (Qj (⟨0,0,[]⟩:Qd)):=⟨_,_,_,Y1.h,Wj⟩
instance Qs4:bQ Ub 212 6 80 (.agg #[.int .i64 0,.int .i64 0,.int .i64 0,.bool false,Ua,Ua]):=⟨bX ox⟩
instance Q4l:eX Ub 212 [(0,1),(1,1),(2,1),(3,3)]:=⟨⟨_,Gr,ox⟩⟩
theorem ZR:Zr (Q4 (⟨0,0,0,(⟨false,[],[]⟩:Qa)⟩:Qw)) [.int .i64 0,.int .i64 0,.int .i64 0,.bool false,Ua,Ua]:=V3 (Qp (c1:=[.int .i64 0]) Ko (Qp (c1:=[.int .i64 0]) Ko (Qp (c1:=[.int .i64 0]) Ko (Qp (c1:=[.bool false,Ua,Ua]) Jt (K3)))))
instance ti_56:bQ Ub 56 1 24 (Ua):=⟨bX ox⟩
instance Jqp:aM Ub 201 0 0:=⟨aO Aj rfl rfl ti_56.h rfl⟩
instance:cU Ub 56 (.slice 212):=⟨Ap⟩
instance sh_56:cg Ub 56 false 1:=⟨cy Ap rfl ti_56.h⟩
instance Jty:cg Ub 212 true 6:=⟨cy Gr rfl Qs4.h⟩
instance:dM Ub 212 (Q4 (⟨0,0,0,(⟨false,[],[]⟩:Qa)⟩:Qw)):=⟨_,_,_,Qs4.h,ZR⟩
instance Jqq:aM Ub 212 0 0:=⟨aO Gr rfl rfl ti_3.h rfl⟩
instance Jqr:aM Ub 212 1 1:=⟨aO Gr rfl rfl ti_3.h rfl⟩
instance Jqs:aM Ub 212 2 2:=⟨aO Gr rfl rfl ti_3.h rfl⟩
instance Jqt:aM Ub 212 3 3:=⟨aO Gr rfl rfl ti_66.h rfl⟩
instance Jqu:aM Ub 201 1 1:=⟨aO Aj rfl rfl ti_28.h rfl⟩
instance pl_58:eX Ub 58 [(0,1),(1,1),(2,1),(3,1)]:=⟨⟨_,Gs,ox⟩⟩
instance sh_58:cg Ub 58 true 4:=⟨cy Gs rfl ti_58.h⟩
instance Js3:aM Ub 58 1 1:=⟨aO Gs rfl rfl ti_28.h rfl⟩
instance Js4:aM Ub 58 0 0:=⟨aO Gs rfl rfl ti_56.h rfl⟩
instance Js5:aM Ub 64 0 0:=⟨aO G1 rfl rfl ti_58.h rfl⟩
instance sh_70:cg Ub 70 true 38:=⟨cy Gg rfl ti_70.h⟩
instance sh_64:cg Ub 64 true 11:=⟨cy G1 rfl ti_64.h⟩
instance Js6:aM Ub 58 2 2:=⟨aO Gs rfl rfl ti_3.h rfl⟩
instance Js7:aM Ub 58 3 3:=⟨aO Gs rfl rfl ti_3.h rfl⟩
instance Js8:aM Ub 36 3 10:=⟨aO Gn rfl rfl ti_3.h rfl⟩
def Em:Code->Bf->Code
 | .seq a _,0::p=>Em a p
 | .seq _ b,_::p=>Em b p
 | c,_=>c
abbrev Uc xs:=bA 1 (List.map av xs)
abbrev Ud xs:=bA 3 (List.map Qh xs)
abbrev Ue xs:=bA 3 (List.map Qz xs)
abbrev Uf xs:=bA 3 (List.map Qk xs)
abbrev Ug xs:=bA 3 (List.map Qe xs)
abbrev Uh xs:=bA 3 (List.map Qj xs)
abbrev Ui xs:=bA 3 (List.map Q0 xs)
abbrev Uj xs:=bA 1 (List.map ab xs)
abbrev Uk xs:=bA 1 (List.map am xs)
abbrev Ul xs:=bA 2 (List.map J1 xs)
abbrev Um xs:=bA 1 (List.map J0 xs)
abbrev Un xs:=bA 2 (List.map Jg xs)
abbrev Uo xs:=bA 1 (List.map Jd xs)
abbrev Up xs:=bA 1 (List.map K6 xs)
abbrev Uq xs:=bA 2 (List.map Xj xs)
abbrev Ur xs:=bA 6 (List.map J5 xs)
abbrev Us xs:=bA 6 (List.map Q4 xs)
instance:kD 0 1 _ av:=⟨trivial⟩
instance:kD 1 2 _ J1:=⟨trivial⟩
instance:kD 2 1 _ am:=⟨trivial⟩
instance:kD 3 3 _ Qz:=⟨trivial⟩
instance:kD 4 3 _ Q0:=⟨trivial⟩
instance:kD 5 1 _ K6:=⟨trivial⟩
instance:kD 6 3 _ Qk:=⟨trivial⟩
instance:kD 7 1 _ ab:=⟨trivial⟩
instance:kD 8 3 _ Qh:=⟨trivial⟩
instance:kD 9 2 _ Jg:=⟨trivial⟩
instance:kD 10 3 _ Qj:=⟨trivial⟩
instance:kD 11 3 _ Qe:=⟨trivial⟩
instance:kD 12 1 _ Jd:=⟨trivial⟩
instance:kD 13 1 _ J0:=⟨trivial⟩
instance:dM Ub 155 (oJ (⟨[],0⟩:Kk)):=⟨_,_,_,Jns.h,YR⟩
instance:dM Ub 350 (Oy (⟨[],0,0,0,[]⟩:IP)):=⟨_,_,_,Jnv.h,YX⟩
instance:dM Ub 557 (Va (⟨[],0,false⟩:J6)):=⟨_,_,_,Jny.h,ZC⟩
instance:dM Ub 95 (Jj (⟨[],[],(⟨0,0,0,0⟩:Qc)⟩:Jc)):=⟨_,_,_,ti_95.h,YW⟩
instance:dM Ub 397 (uE (⟨[],0⟩:nT)):=⟨_,_,_,Q4i.h,ZG⟩
instance:dM Ub 177 (Jg (⟨[],[]⟩:Q1)):=⟨_,_,_,Ja1.h,ZL⟩
instance:dM Ub 125 (Vb (⟨[],[]⟩:Q9)):=⟨_,_,_,Q4k.h,ZO⟩
instance:x7 Ub:=⟨Ej⟩
abbrev FO{R:Type}(f:Nat)(a:List Ly)(s:R->Ly)(m:Option R):Prop:=∀ r,m=some r->bo Ub f a [] (s r) []
abbrev FM{R:Type}(f:Nat)(a:List Ly)(i:List (Nat×Ct))(s:R->Ly)(o:R->List (Nat×Ct))(m:Option R):Prop:=∀ r,m=some r->bo Ub f a i (s r) (o r)
instance{x}:cm (oI x):=⟨cm.h⟩
instance{x}:cm (yG x):=⟨cm.h⟩
instance{x}:cm (Qk x):=⟨cm.h⟩
instance{x}:cm (Vl x):=⟨cm.h⟩
instance{x}:cm (rL x):=⟨cm.h⟩
instance{x}:cm (Zh x):=⟨cm.h⟩
instance{x}:cm (Qy x):=⟨cm.h⟩
instance{x}:cm (Xw x):=⟨cm.h⟩
instance{x}:cm (J8 x):=⟨cm.h⟩
end Go.Proofs.YthdbapalogijdaaGreatDoor
