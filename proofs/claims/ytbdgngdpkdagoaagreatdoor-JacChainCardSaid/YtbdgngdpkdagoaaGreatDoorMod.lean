import Derived.Test.YtbdgngdpkdagoaaGreatDoorLibM
set_option maxRecDepth 100000
set_option maxHeartbeats 4000000
namespace Go.Proofs.YtbdgngdpkdagoaaGreatDoor
open Go Go.RowKit
structure Qi where
 Neg:Bool
 A6:(List Nat)
structure Qa where
 Num:Qi
 Den:(List Nat)
structure Qv where
 Op:Int
 A:Int
 B:Int
 N:Qa
structure Qm where
 Code:(List Qv)
 Az:(List Int)
 A0:Int
 A3:Int
structure Qw where
 Bb:(List UInt8)
 C:(List Qa)
 A:(List (List Qa))
 B:(List Qa)
 E:(List Qa)
structure Qg where
 Tape:Qm
 Av:Qw
 P:(List Qa)
 Ay:Int
structure Q0i where
 Tol:Qa
 Safe:Qa
 Low:Qa
 High:Qa
 Least:Qa
 Fine:Int
 Most:Int
structure Q9 where
 T:Qa
 A1:Qa
 H:Qa
 A8:Qa
 Y:(List Qa)
 Ok:Bool
structure Qe where
 Ax:Int
 Ba:Int
 A4:Int
 At:Int
structure Jk where
 Ys:(List (List Qa))
 Ks:(List (List Qa))
 Next:(List Qa)
 A8:(List Qa)
structure Vx where
 op:Int
 a:Int
 b:Int
def Qez(x y:Vx):Bool:=((x.op == y.op) && ((x.a == y.a) && ((x.b == y.b) && true)))
structure Qmh where
 Ax:Int
 A7:(List UInt8)
 At:Int
structure Qdc where
 Seen:Int
 Peak:Int
structure Qk where
 Count:Qdc
 limit:Int
def Qs(x y:Qe):Bool:=((x.Ax == y.Ax) && ((x.Ba == y.Ba) && ((x.A4 == y.A4) && ((x.At == y.At) && true))))
structure V3 where
 T:Qa
 Y:(List Qa)
 P:(List Qa)
structure Qaj where
 T:Qa
 Y:(List Qa)
 P:(List Qa)
structure J3 where
 Y:(List Qa)
 P:(List Qa)
structure V8 where
 T:Qa
 Y:(List Qa)
 P:(List Qa)
structure Q24 where
 t:Qm
 done:(List Qa)
 co:(List Qa)
 grad:V8
structure Qx where
 From:Int
 To:Int
structure Vq where
 A9:Int
 A5:(List Qa)
 Ts:(List Qa)
 Ys:(List (List Qa))
structure Qgb where
 l:(List Qx)
def Qe0(x y:Qx):Bool:=((x.From == y.From) && ((x.To == y.To) && true))
structure Kd where
 Next:(List Qa)
 A8:(List Qa)
 Made:Jk
structure Q1 where
 V:Qa
 D:Qa
structure Qt where
 Aw:(List Q9)
 T:Qa
 Y:(List Qa)
structure Qoo where
 a0:Nat
 a1:Nat
 a2:Nat
 a3:Nat
 a4:Nat
 a5:Nat
 a6:Nat
 a7:Nat
 a8:Nat
def Q0j:List Nat->Qoo
 | [a0,a1,a2,a3,a4,a5,a6,a7,a8]=>⟨a0,a1,a2,a3,a4,a5,a6,a7,a8⟩
 | _=>(⟨0,0,0,0,0,0,0,0,0⟩:Qoo)
structure Xg where
 Y:(List (List Qa))
 P:(List (List Qa))
structure Qb where
 Neg:Bool
 N:(List Nat)
 D:(List Nat)
structure Jp where
 Op:Int
 A:Int
 B:Int
 N:Qb
structure Ja where
 Code:(List Jp)
 Az:(List Int)
 A0:Int
 A3:Int
structure Jt where
 Bb:(List UInt8)
 C:(List Qb)
 A:(List (List Qb))
 B:(List Qb)
 E:(List Qb)
structure Jz where
 a0:Int
 a1:Int
 a2:Int
structure Qu where
 Tape:Ja
 Av:Jt
 P:(List Qb)
 Ay:Int
structure Qnb where
 a0:(List UInt8)
 a1:(List UInt8)
 a2:(List UInt8)
 a3:(List UInt8)
 a4:(List UInt8)
 a5:(List UInt8)
structure Kt where
 rest:(List UInt8)
 at_:Int
 over:Bool
structure Qq where
 Ax:Int
 A7:(List UInt8)
 At:Int
structure Js where
 Neg:Bool
 A6:(List Nat)
structure J4 where
 Ys:(List (List Qb))
 Ks:(List (List Qb))
 Next:(List Qb)
 A8:(List Qb)
structure Xk where
 T:Qb
 Y:(List Qb)
 P:(List Qb)
structure Qj where
 Y:(List Qb)
 P:(List Qb)
structure Jl where
 T:Qb
 Y:(List Qb)
 P:(List Qb)
structure Jg where
 T:Qb
 A1:Qb
 H:Qb
 A8:Qb
 Y:(List Qb)
 Ok:Bool
structure Xx where
 a0:Int
 a1:Int
 a2:Int
 a3:Int
structure Wj where
 Kept:Int
 Again:Int
 Most:Int
structure Xp where
 A9:Int
 A5:(List Qb)
 Ts:(List Qb)
 Ys:(List (List Qb))
def Qwx(xs:List Nat):Prop:=xs.length<=maxLen/\∀ x∈xs,(x<4294967296)
def Va(x:Qb):Prop:=True/\Qwx x.N/\Qwx x.D/\True
def Qe2(x:Jp):Prop:=(-9223372036854775808<=x.Op/\x.Op<=9223372036854775807)/\(-9223372036854775808<=x.A/\x.A<=9223372036854775807)/\(-9223372036854775808<=x.B/\x.B<=9223372036854775807)/\Va x.N/\True
def Qd3(xs:List Jp):Prop:=xs.length<=maxLen/\∀ x∈xs,Qe2 x
def Q2f(xs:List Int):Prop:=xs.length<=maxLen/\∀ x∈xs,(-9223372036854775808<=x/\x<=9223372036854775807)
def Qe3(x:Ja):Prop:=Qd3 x.Code/\Q2f x.Az/\(-9223372036854775808<=x.A0/\x.A0<=9223372036854775807)/\(-9223372036854775808<=x.A3/\x.A3<=9223372036854775807)/\True
def Ka(xs:List Qb):Prop:=xs.length<=maxLen/\∀ x∈xs,Va x
def Qdd(xs:List (List Qb)):Prop:=xs.length<=maxLen/\∀ x∈xs,Ka x
def Qd4(x:Jt):Prop:=(x.Bb.length<=maxLen)/\Ka x.C/\Qdd x.A/\Ka x.B/\Ka x.E/\True
def Yh(x:Qu):Prop:=Qe3 x.Tape/\Qd4 x.Av/\Ka x.P/\(-9223372036854775808<=x.Ay/\x.Ay<=9223372036854775807)/\True
def Z4(n:Nat)(x0:(List Nat)):Option ((List Nat)):=(loopM (λ(g:Int)=>jn (λ(u:(Bool)->Option _)=>bif decide ((0:Int)<g) then((getI x0 (wrap64 (g - (1:Int)))).bind λa1=>u (decide (a1=0)))else(u false)) (λ(v:Bool)=>bif v then(some (Lp.go (wrap64 (g - (1:Int)))))else(some (Lp.out g)))) n (x0.length:Int)).bind λ(a0:Int)=>(sub x0 (0:Int) a0).bind λa2=>some a2
def Qgc(n:Nat)(x0:(List Nat)):Option (Bool):=(Z4 n x0).bind λg=>some (decide ((g.length:Int)=(0:Int)))
def Qcu(n:Nat)(x0:Nat):Option ((List Nat)):=(Z4 n ([(x0%4294967296),((x0 / 2 ^ 32)%4294967296)]:List Nat)).bind λg=>some g
def Xy(n:Nat)(x0:Qa):Option (Qi×(List Nat)):=(Qgc n x0.Den).bind λg=>bif g then ( (Qcu n 1).bind λu=>some ((⟨false,[]⟩:Qi),u)) else ( some (x0.Num,x0.Den))
def Qgd(x0:Nat)(x1:Nat)(x2:Nat)(x3:Nat):Option (Nat×Nat):=(some (((((((x0*x1)%18446744073709551616)+x2)%18446744073709551616)+x3)%18446744073709551616))).bind λg=>some (((g / 2 ^ 32)%4294967296),(g%4294967296))
def Qht(x0:(List Nat))(x1:Int)(x2:(List Nat))(x3:Nat)(x4:Nat):Option ((List Nat)):=(rangeL (λ(u:Nat) (a1:Nat) (g:(List Nat)×Nat)=>(getI g.1 (wrap64 (x1+(u:Int)))).bind λa2=>(Qgd x3 a1 a2 g.2).bind λa0=>(getI g.1 (wrap64 (x1+(u:Int)))).bind λ_=>some (Lp.go ((List.set g.1 (Int.toNat (wrap64 (x1+(u:Int)))) a0.2),a0.1))) x2 0 (x0,x4)).bind (lpK λ(v:(List Nat)×Nat)=>(getI v.1 (wrap64 (x1+(x2.length:Int)))).bind λ_=>some (List.set v.1 (Int.toNat (wrap64 (x1+(x2.length:Int)))) v.2))
def Qij(x0:(List Nat))(x1:Int):Option ((List Nat)):=(mkM 4 (0:Nat) (wrap64 ((x0.length:Int)+x1))).bind λg=>some (cpyL g x0)
def X6(n:Nat)(x0:(List Nat)):Option ((List Nat)):=(Z4 n x0).bind λg=>(Qij g (0:Int)).bind λu=>some u
def Qde(n:Nat)(x0:(List Nat))(x1:(List Nat)):Option ((List Nat)):=(mkM 4 (0:Nat) (wrap64 ((wrap64 ((x0.length:Int)+(x1.length:Int)))+(1:Int)))).bind λy1=>(rangeL (λ(g:Nat) (a2:Nat) (a0:(List Nat))=>(Qht a0 (g:Int) x0 a2 0).bind λu=>some (Lp.go u)) x1 0 y1).bind (lpK λ(a1:(List Nat))=>(X6 n a1).bind λv=>some v)
def Yy(x0:Bool)(x1:(List Nat)):Option (Qi):=jn (λ(g:(Qi)->Option _)=>bif x0 then ( g (⟨decide ((0:Int)<(x1.length:Int)),x1⟩:Qi)) else ( g (⟨false,x1⟩:Qi))) (λ(u:Qi)=>some u)
def Qku(n:Nat)(x0:Qi)(x1:Qi):Option (Qi):=(Qde n x0.A6 x1.A6).bind λg=>(Yy (x0.Neg != x1.Neg) g).bind λu=>some u
def Qb0(n:Nat)(x0:Qi)(x1:(List Nat)):Option (Qi):=(Qku n x0 (⟨false,x1⟩:Qi)).bind λg=>some g
def Qkv(n:Nat)(x0:Qi):Option (Qi):=(X6 n x0.A6).bind λg=>(Yy (!x0.Neg) g).bind λu=>some u
def Qce(x0:Nat)(x1:Nat)(x2:Nat):Option (Nat×Nat):=jn (λ(g:(Nat)->Option _)=>bif decide (((x0+x1)%4294967296)<x0) then(g ((0+1)%4294967296))else(g 0)) (λ(v:Nat)=>jn (λ(u:(Nat)->Option _)=>bif decide (((((x0+x1)%4294967296)+x2)%4294967296)<x2) then(u ((v+1)%4294967296))else(u v)) (λ(s6:Nat)=>some (((((x0+x1)%4294967296)+x2)%4294967296),s6)))
def Qj6(n:Nat)(x0:(List Nat))(x1:(List Nat)):Option ((List Nat)):=jn (λ(j1:((List Nat)×(List Nat))->Option _)=>bif decide ((x0.length:Int)<(x1.length:Int)) then(j1 (x1,x0))else(j1 (x0,x1))) (λ(u:(List Nat)×(List Nat))=>(Qij u.1 (1:Int)).bind λr4=>(rangeL (λ(g:Nat) (a6:Nat) (v:(List Nat)×Nat)=>jn (λ(a1:(Nat)->Option _)=>bif decide ((g:Int)<(u.2.length:Int)) then((getI u.2 (g:Int)).bind λa7=>a1 a7)else(a1 0)) (λ(a5:Nat)=>(Qce a6 a5 v.2).bind λa2=>(getI v.1 (g:Int)).bind λ_=>some (Lp.go ((List.set v.1 (Int.toNat (g:Int)) a2.1),a2.2)))) u.1 0 (r4,0)).bind (lpK λ(a0:(List Nat)×Nat)=>(getI a0.1 (u.1.length:Int)).bind λ_=>(Z4 n (List.set a0.1 (Int.toNat (u.1.length:Int)) a0.2)).bind λa4=>some a4))
def Qln(n:Nat)(x0:(List (List Nat))):Option ((List Nat)):=(rangeL (λ(_:Nat) (a1:(List Nat)) (v:(List Nat))=>(Z4 n a1).bind λg=>(Qj6 n v g).bind λu=>some (Lp.go u)) x0 0 ([]:List Nat)).bind (lpK λ(a0:(List Nat))=>some a0)
def Qgm(n:Nat)(x0:(List Nat))(x1:(List Nat)):Option (Int):=(Z4 n x0).bind λu=>(Z4 n x1).bind λv=>bif decide ((u.length:Int)<(v.length:Int)) then(some (-1:Int))else(bif decide ((v.length:Int)<(u.length:Int)) then(some (1:Int))else((loopM (λ(g:Int)=>bif decide ((0:Int)<=g) then((getI u g).bind λa0=>(getI v g).bind λa1=>bif decide (a0<a1) then(some (Lp.out (Lp.out ((-1:Int)))))else((getI u g).bind λa2=>(getI v g).bind λa3=>bif decide (a3<a2) then(some (Lp.out (Lp.out ((1:Int)))))else(some (Lp.go (wrap64 (g - (1:Int)))))))else(some (Lp.out (Lp.go ())))) n (wrap64 ((u.length:Int) - (1:Int)))).bind (lpK λ(_:Unit)=>some (0:Int))))
def Qj7(x0:Nat)(x1:Nat)(x2:Nat):Option (Nat×Nat):=jn (λ(g:(Nat)->Option _)=>bif decide (x0<x1) then(g ((0+1)%4294967296))else(g 0)) (λ(v:Nat)=>jn (λ(u:(Nat)->Option _)=>bif decide (((x0+4294967296 - x1)%4294967296)<x2) then(u ((v+1)%4294967296))else(u v)) (λ(s6:Nat)=>(some (((((x0+4294967296 - x1)%4294967296)+4294967296 - x2)%4294967296))).bind λz7=>some (z7,s6)))
def Qrm(n:Nat)(x0:(List Nat))(x1:(List Nat)):Option ((List Nat)×Bool):=(Z4 n x0).bind λr1=>(Z4 n x1).bind λr3=>(Qgm n r1 r3).bind λr5=>bif decide (r5<(0:Int)) then(some (([]:List Nat),false))else((Qij r1 (0:Int)).bind λr7=>(rangeL (λ(g:Nat) (a6:Nat) (u:(List Nat)×Nat)=>jn (λ(v:(Nat)->Option _)=>bif decide ((g:Int)<(r3.length:Int)) then((getI r3 (g:Int)).bind λa7=>v a7)else(v 0)) (λ(a4:Nat)=>(Qj7 a6 a4 u.2).bind λa0=>(getI u.1 (g:Int)).bind λ_=>some (Lp.go ((List.set u.1 (Int.toNat (g:Int)) a0.1),a0.2)))) r1 0 (r7,0)).bind (lpK λ(a5:(List Nat)×Nat)=>(Z4 n a5.1).bind λa3=>some (a3,true)))
def Qrn(n:Nat)(x0:(List Nat))(x1:(List Nat)):Option ((List Nat)×Int):=(Qgm n x0 x1).bind λu=>jn (λ(g:((List Nat)×(List Nat))->Option _)=>bif decide (u<(0:Int)) then(g (x1,x0))else(g (x0,x1))) (λ(v:(List Nat)×(List Nat))=>(Qrm n v.1 v.2).bind λr6=>some (r6.1,u))
def Qkw(n:Nat)(x0:Qi)(x1:Qi):Option (Qi):=bif (x0.Neg == x1.Neg) then((Qln n ([x0.A6,x1.A6]:List (List Nat))).bind λu=>(Yy x0.Neg u).bind λv=>some v)else((Qrn n x0.A6 x1.A6).bind λg=>bif decide (g.2<(0:Int)) then((Yy x1.Neg g.1).bind λr7=>some r7)else((Yy x0.Neg g.1).bind λr9=>some r9))
def Qkx(n:Nat)(x0:Qi)(x1:Qi):Option (Qi):=(Qkv n x1).bind λg=>(Qkw n x0 g).bind λu=>some u
def Qhu(x0:Nat)(x1:Nat)(x2:Nat):Option (Nat×Nat×Bool):=bif decide (x2<=x0) then(some (0,0,false))else((grd (x2 != 0)).bind λ_=>(grd (x2 != 0)).bind λ_=>some ((((((x0*2 ^ 32)%18446744073709551616) ||| x1) / x2)%4294967296),(((((x0*2 ^ 32)%18446744073709551616) ||| x1)%x2)%4294967296),true))
def Qky(n:Nat)(x0:(List Nat))(x1:Nat):Option ((List Nat)×Nat×Bool):=bif decide (x1=0) then(some (([]:List Nat),0,false))else((mkM 4 (0:Nat) (x0.length:Int)).bind λy1=>(loopM (λ(g:(List Nat)×Nat×Int)=>bif decide ((0:Int)<=g.2.2) then((getI x0 g.2.2).bind λa1=>(Qhu g.2.1 a1 x1).bind λu=>(getI g.1 g.2.2).bind λ_=>some (Lp.go ((List.set g.1 (Int.toNat g.2.2) u.1),u.2.1,wrap64 (g.2.2 - (1:Int)))))else(some (Lp.out (g.1,g.2.1)))) n (y1,0,wrap64 ((x0.length:Int) - (1:Int)))).bind λ(v:(List Nat)×Nat)=>(X6 n v.1).bind λa0=>some (a0,v.2,true))
def Qmi(n:Nat)(x0:Nat):Option (Int):=(loopM (λ(g:Nat×Int×Int)=>bif decide ((0:Int)<g.2.2) then(jn (λ(u:(Nat×Int)->Option _)=>(grd (decide (0<=g.2.2))).bind λ_=>bif !decide ((g.1 / 2 ^ (min (Int.toNat g.2.2) 32))=0) then((grd (decide (0<=g.2.2))).bind λ_=>u ((g.1 / 2 ^ (min (Int.toNat g.2.2) 32)),wrap64 (g.2.1+g.2.2)))else(u (g.1,g.2.1))) (λ(v:Nat×Int)=>some (Lp.go (v.1,v.2,wrap64 (Int.tdiv g.2.2 (2:Int))))))else(some (Lp.out (g.1,g.2.1)))) n (x0,(0:Int),(16:Int))).bind λ(a0:Nat×Int)=>some (wrap64 (a0.2+(a0.1:Int)))
def Qlo(n:Nat)(x0:(List Nat))(x1:Int):Option ((List Nat)):=(some (wrap64 ((wrap64 (Int.tdiv (min (max x1 (0:Int)) (4096:Int)) (32:Int)))+(x0.length:Int)))).bind λz1=>(mkM 4 (0:Nat) (wrap64 (z1+(1:Int)))).bind λy2=>(rangeL (λ(a0:Nat) (a5:Nat) (g:(List Nat))=>(grd (decide (0<=Int.tmod (min (max x1 (0:Int)) (4096:Int)) (32:Int)))).bind λ_=>(some (((a5*2 ^ (min (Int.toNat (Int.tmod (min (max x1 (0:Int)) (4096:Int)) (32:Int))) 64))%18446744073709551616))).bind λv=>(some (wrap64 ((wrap64 (Int.tdiv (min (max x1 (0:Int)) (4096:Int)) (32:Int)))+(a0:Int)))).bind λu=>(getI g u).bind λa1=>(getI g u).bind λ_=>(some (wrap64 ((wrap64 (Int.tdiv (min (max x1 (0:Int)) (4096:Int)) (32:Int)))+(a0:Int)))).bind λa2=>(getI (List.set g (Int.toNat u) (a1 ||| (v%4294967296))) (wrap64 (a2+(1:Int)))).bind λ_=>(some ((List.set (List.set g (Int.toNat u) (a1 ||| (v%4294967296))) (Int.toNat (wrap64 (a2+(1:Int)))) ((v / 2 ^ 32)%4294967296)))).bind λa6=>some (Lp.go a6)) x0 0 y2).bind (lpK λ(a4:(List Nat))=>(X6 n a4).bind λa3=>some a3)
def Qja(n:Nat)(x0:Nat)(x1:Nat)(x2:Nat)(x3:Nat)(x4:Nat):Option (Nat):=(Qhu x0 x1 x3).bind λr1=>jn (λ(j8:(Nat×Nat)->Option _)=>bif !r1.2.2 then((Qce x1 x3 0).bind λa1=>jn (λ(a0:(Bool)->Option _)=>bif decide (x3<x0) then(a0 true)else(a0 (decide (0<a1.2)))) (λ(a6:Bool)=>bif a6 then(some 4294967295)else(j8 (4294967295,a1.1))))else(j8 (r1.1,r1.2.1))) (λ(a3:Nat×Nat)=>(loopM (λ(g:Nat×Nat)=>(Qgd g.1 x4 0 0).bind λv=>jn (λ(u:(Bool)->Option _)=>bif decide (v.1<g.2) then(u true)else(bif decide (v.1=g.2) then(u (decide (v.2<=x2)))else(u false))) (λ(a7:Bool)=>bif a7 then(some (Lp.out g.1))else((Qce g.2 x3 0).bind λa2=>bif decide (0<a2.2) then(some (Lp.out ((g.1+4294967296 - 1)%4294967296)))else(some (Lp.go (((g.1+4294967296 - 1)%4294967296),a2.1)))))) n (a3.1,a3.2)).bind λ(a8:Nat)=>some a8)
def Qgn(x0:(List Nat))(x1:Int)(x2:(List Nat))(x3:Nat):Option (Bool×(List Nat)):=(rangeL (λ(v:Nat) (a3:Nat) (g:(List Nat)×Nat×Nat)=>(Qgd x3 a3 g.2.1 0).bind λa0=>(getI g.1 (wrap64 (x1+(v:Int)))).bind λa4=>(Qj7 a4 a0.2 g.2.2).bind λa1=>(getI g.1 (wrap64 (x1+(v:Int)))).bind λ_=>some (Lp.go ((List.set g.1 (Int.toNat (wrap64 (x1+(v:Int)))) a1.1),a0.1,a1.2))) x2 0 (x0,0,0)).bind (lpK λ(u:(List Nat)×Nat×Nat)=>(getI u.1 (wrap64 (x1+(x2.length:Int)))).bind λa5=>(Qj7 a5 u.2.1 u.2.2).bind λa2=>(getI u.1 (wrap64 (x1+(x2.length:Int)))).bind λ_=>some (decide (0<a2.2),(List.set u.1 (Int.toNat (wrap64 (x1+(x2.length:Int)))) a2.1)))
def Qik(x0:(List Nat))(x1:Int)(x2:(List Nat)):Option ((List Nat)):=(rangeL (λ(v:Nat) (a1:Nat) (g:(List Nat)×Nat)=>(getI g.1 (wrap64 (x1+(v:Int)))).bind λa2=>(Qce a2 a1 g.2).bind λa0=>(getI g.1 (wrap64 (x1+(v:Int)))).bind λ_=>some (Lp.go ((List.set g.1 (Int.toNat (wrap64 (x1+(v:Int)))) a0.1),a0.2))) x2 0 (x0,0)).bind (lpK λ(u:(List Nat)×Nat)=>(getI u.1 (wrap64 (x1+(x2.length:Int)))).bind λa3=>(getI u.1 (wrap64 (x1+(x2.length:Int)))).bind λ_=>(some ((List.set u.1 (Int.toNat (wrap64 (x1+(x2.length:Int)))) ((a3+u.2)%4294967296)))).bind λa4=>some a4)
def Qnc(n:Nat)(x0:(List Nat))(x1:(List Nat)):Option ((List Nat)×(List Nat)):=(mkM 4 (0:Nat) (wrap64 ((x0.length:Int) - (x1.length:Int)))).bind λy1=>(loopM (λ(g:(List Nat)×(List Nat)×Int)=>bif decide ((0:Int)<=g.2.2) then((getI g.1 (wrap64 (g.2.2+(x1.length:Int)))).bind λa5=>(getI g.1 (wrap64 ((wrap64 (g.2.2+(x1.length:Int))) - (1:Int)))).bind λa6=>(getI g.1 (wrap64 ((wrap64 (g.2.2+(x1.length:Int))) - (2:Int)))).bind λa7=>(getI x1 (wrap64 ((x1.length:Int) - (1:Int)))).bind λa8=>(getI x1 (wrap64 ((x1.length:Int) - (2:Int)))).bind λa9=>(Qja n a5 a6 a7 a8 a9).bind λu=>jn (λ(a0:((List Nat)×Nat)->Option _)=>(Qgn g.1 g.2.2 x1 u).bind λv=>bif v.1 then((Qik v.2 g.2.2 x1).bind λa3=>a0 (a3,((u+4294967296 - 1)%4294967296)))else(a0 (v.2,u))) (λ(a1:(List Nat)×Nat)=>(getI g.2.1 g.2.2).bind λ_=>some (Lp.go (a1.1,(List.set g.2.1 (Int.toNat g.2.2) a1.2),wrap64 (g.2.2 - (1:Int))))))else(some (Lp.out (g.1,g.2.1)))) n (x0,y1,wrap64 ((y1.length:Int) - (1:Int)))).bind λ(a2:(List Nat)×(List Nat))=>some (a2.2,a2.1)
def Qnd(n:Nat)(x0:(List Nat))(x1:Int):Option ((List Nat)):=(some (decide ((x0.length:Int)<=(wrap64 (Int.tdiv (max x1 (0:Int)) (32:Int)))))).bind λz1=>bif z1 then(some ([]:List Nat))else((some (wrap64 ((x0.length:Int) - (wrap64 (Int.tdiv (max x1 (0:Int)) (32:Int)))))).bind λz2=>(mkM 4 (0:Nat) z2).bind λy3=>(rangeL (λ(g:Nat) (_:Nat) (v:(List Nat))=>(some (wrap64 ((wrap64 (Int.tdiv (max x1 (0:Int)) (32:Int)))+(g:Int)))).bind λa6=>(getI x0 a6).bind λa0=>jn (λ(u:(Nat)->Option _)=>(some (wrap64 ((wrap64 (Int.tdiv (max x1 (0:Int)) (32:Int)))+(g:Int)))).bind λa7=>bif decide ((wrap64 (a7+(1:Int)))<(x0.length:Int)) then((some (wrap64 ((wrap64 (Int.tdiv (max x1 (0:Int)) (32:Int)))+(g:Int)))).bind λa8=>(getI x0 (wrap64 (a8+(1:Int)))).bind λa5=>u (a0 ||| ((a5*2 ^ 32)%18446744073709551616)))else(u a0)) (λ(a2:Nat)=>(grd (decide (0<=Int.tmod (max x1 (0:Int)) (32:Int)))).bind λ_=>(some ((a2 / 2 ^ (min (Int.toNat (Int.tmod (max x1 (0:Int)) (32:Int))) 64)))).bind λa9=>(getI v (g:Int)).bind λ_=>some (Lp.go (List.set v (Int.toNat (g:Int)) (a9%4294967296))))) y3 0 y3).bind (lpK λ(a3:(List Nat))=>(X6 n a3).bind λa1=>some a1))
def Qhv(n:Nat)(x0:(List Nat))(x1:(List Nat)):Option ((List Nat)×(List Nat)×Bool):=(X6 n x1).bind λg=>bif decide ((g.length:Int)=(0:Int)) then(some (([]:List Nat),([]:List Nat),false))else((Qgm n x0 g).bind λr3=>bif decide (r3<(0:Int)) then((X6 n x0).bind λr5=>some (([]:List Nat),r5,true))else(bif decide ((g.length:Int)=(1:Int)) then((getI g (0:Int)).bind λy7=>(Qky n x0 y7).bind λr9=>(Qcu n r9.2.1).bind λa0=>some (r9.1,a0,true))else((getI g (wrap64 ((g.length:Int) - (1:Int)))).bind λa6=>(Qmi n a6).bind λu=>(Qlo n x0 (wrap64 ((32:Int) - u))).bind λa1=>(appM 4 a1 ([0]:List Nat)).bind λa7=>(Qlo n g (wrap64 ((32:Int) - u))).bind λa2=>(Qnc n a7 a2).bind λv=>(X6 n v.1).bind λa3=>(Qnd n v.2 (wrap64 ((32:Int) - u))).bind λa4=>some (a3,a4,true))))
def Qkz(n:Nat)(x0:(List Nat)):Option (Nat×Bool):=(Z4 n x0).bind λu=>bif decide ((2:Int)<(u.length:Int)) then(some (0,false))else((rangeL (λ(g:Nat) (a1:Nat) (v:Nat)=>(grd (decide (0<=wrap64 ((32:Int)*(g:Int))))).bind λ_=>(some (((a1*2 ^ (min (Int.toNat (wrap64 ((32:Int)*(g:Int)))) 64))%18446744073709551616))).bind λa2=>some (Lp.go (v ||| a2))) u 0 0).bind (lpK λ(a0:Nat)=>some (a0,true)))
def Qjb(n:Nat)(x0:Nat)(x1:Nat):Option (Nat):=(loopM (λ(g:Nat×Nat)=>bif !decide (g.2=0) then((grd (g.2 != 0)).bind λ_=>some (Lp.go (g.2,(g.1%g.2))))else(some (Lp.out g.1))) n (x0,x1)).bind λ(u:Nat)=>some u
def Qlp(n:Nat)(x0:(List Nat))(x1:(List Nat)):Option ((List Nat)):=(X6 n x0).bind λr1=>(X6 n x1).bind λr3=>(loopM (λ(g:(List Nat)×(List Nat))=>bif decide ((2:Int)<(g.2.length:Int)) then((Qhv n g.1 g.2).bind λv=>some (Lp.go (g.2,v.2.1)))else(some (Lp.out (g.1,g.2)))) n (r1,r3)).bind λ(u:(List Nat)×(List Nat))=>bif decide ((u.2.length:Int)=(0:Int)) then(some u.1)else((Qhv n u.1 u.2).bind λa0=>(Qkz n u.2).bind λa1=>(Qkz n a0.2.1).bind λa2=>(Qjb n a1.1 a2.1).bind λa3=>(Qcu n a3).bind λa4=>some a4)
def Qlq(x0:(List Nat)):Option (Bool):=jn (λ(g:(Bool)->Option _)=>bif decide ((x0.length:Int)=(1:Int)) then((getI x0 (0:Int)).bind λv=>g (decide (v=1)))else(g false)) (λ(u:Bool)=>some u)
def Qhw(n:Nat)(x0:(List Nat))(x1:(List Nat)):Option ((List Nat)×(List Nat)):=(Qlp n x0 x1).bind λg=>bif decide ((g.length:Int)=(0:Int)) then(some (([]:List Nat),([]:List Nat)))else((Qlq g).bind λv=>bif v then((X6 n x0).bind λr5=>(X6 n x1).bind λr7=>some (r5,r7))else((Qhv n x0 g).bind λr9=>(Qhv n x1 g).bind λu=>some (r9.1,u.1)))
def Qd5(n:Nat)(x0:Qi):Option (Qi):=(X6 n x0.A6).bind λg=>(Yy x0.Neg g).bind λu=>some u
def Qcc(n:Nat)(x0:Qi)(x1:(List Nat)):Option (Qa):=(Qhw n x0.A6 x1).bind λg=>(Qd5 n (⟨x0.Neg,g.1⟩:Qi)).bind λu=>some (⟨u,g.2⟩:Qa)
def Qhx(n:Nat)(x0:Qa)(x1:Qa):Option (Qa):=(Xy n x0).bind λg=>(Xy n x1).bind λu=>(Qb0 n g.1 u.2).bind λr5=>(Qb0 n u.1 g.2).bind λr7=>(Qkx n r5 r7).bind λr9=>(Qde n g.2 u.2).bind λv=>(Qcc n r9 v).bind λa0=>some a0
def Qfa(n:Nat)(x0:Qi):Option (Int):=(Qgc n x0.A6).bind λg=>bif g then ( some (0:Int)) else ( bif x0.Neg then ( some (-1:Int)) else ( some (1:Int)))
def Qne(n:Nat)(x0:Qi)(x1:Qi):Option (Int):=(Qkx n x0 x1).bind λg=>(Qfa n g).bind λu=>some u
def Qj8(n:Nat)(x0:Qa)(x1:Qa):Option (Int):=(Xy n x0).bind λg=>(Xy n x1).bind λu=>(Qb0 n g.1 u.2).bind λv=>(Qb0 n u.1 g.2).bind λr7=>(Qne n v r7).bind λr9=>some r9
def Vr(n:Nat)(x0:Qa):Option (Qa):=(Xy n x0).bind λg=>(Qcc n g.1 g.2).bind λu=>some u
def Qb1(x0:Int)(x1:Int):Option (Bool):=jn (λ(g:(Bool)->Option _)=>bif decide ((0:Int)<=x0) then ( g (decide (x0<x1))) else ( g false)) (λ(u:Bool)=>some u)
def Qlr(x0:Qm):Option (Bool):=jn (λ(g:(Bool)->Option _)=>(Qb1 (wrap64 (x0.A0 - (1:Int))) (6:Int)).bind λv=>bif v then((Qb1 x0.A3 (7:Int)).bind λu=>bif u then(bif decide ((x0.Az.length:Int)=x0.A0) then(g (decide ((x0.Code.length:Int)<=(300:Int))))else(g false))else(g false))else(g false)) (λ(s7:Bool)=>some s7)
def Qop(x0:Qv):Option (Vx):=some (⟨x0.Op,x0.A,x0.B⟩:Vx)
def Z9(n:Nat)(x0:Qa):Option (Bool):=(Vr n x0).bind λu=>jn (λ(g:(Bool)->Option _)=>bif (x0.Num.Neg == u.Num.Neg) then(bif decide ((x0.Num.A6.length:Int)=(u.Num.A6.length:Int)) then(bif decide ((x0.Den.length:Int)=(u.Den.length:Int)) then((Qgm n x0.Num.A6 u.Num.A6).bind λv=>bif decide (v=(0:Int)) then((Qgm n x0.Den u.Den).bind λa0=>g (decide (a0=(0:Int))))else(g false))else(g false))else(g false))else(g false)) (λ(s9:Bool)=>some s9)
def Qls(x0:Qa):Option (Bool):=jn (λ(g:(Bool)->Option _)=>bif !x0.Num.Neg then(bif decide ((x0.Num.A6.length:Int)=(0:Int)) then(g (decide ((x0.Den.length:Int)=(0:Int))))else(g false))else(g false)) (λ(u:Bool)=>some u)
def Qjc(x0:Qv):Option ((List Int)):=jn (λ(u:(Bool)->Option _)=>bif decide (x0.Op=(6:Int)) then(u (decide (x0.Op=(6:Int))))else(u (decide (x0.Op=(11:Int))))) (λ(v:Bool)=>bif v then(some ([x0.A]:List Int))else(jn (λ(g:(Bool)->Option _)=>bif decide (x0.Op=(7:Int)) then(g (decide (x0.Op=(7:Int))))else(bif decide (x0.Op=(8:Int)) then(g (decide (x0.Op=(8:Int))))else(bif decide (x0.Op=(9:Int)) then(g (decide (x0.Op=(9:Int))))else(g (decide (x0.Op=(10:Int))))))) (λ(s6:Bool)=>bif s6 then(some ([x0.A,x0.B]:List Int))else(some ([]:List Int)))))
def Qmj(n:Nat)(x0:Qm)(x1:Int):Option (Bool):=(getI x0.Code x1).bind λg=>bif decide (g.Op=(1:Int)) then(jn (λ(j7:(Bool)->Option _)=>(Qop g).bind λa2=>bif (Qez a2 (⟨(1:Int),0,0⟩:Vx)) then((Z9 n g.N).bind λa3=>j7 a3)else(j7 false)) (λ(s9:Bool)=>some s9))else((Qls g.N).bind λa4=>bif !a4 then(some false)else((Qjc g).bind λa5=>(rangeL (λ(_:Nat) (b4:Int) (_:Unit)=>(Qb1 b4 x1).bind λa6=>bif !a6 then(some (Lp.out (false)))else(some (Lp.go ()))) a5 0 ()).bind (lpK λ(_:Unit)=>bif decide (g.Op=(2:Int)) then((Qop g).bind λa7=>some (Qez a7 (⟨(2:Int),0,0⟩:Vx)))else(bif decide (g.Op=(3:Int)) then(jn (λ(u:(Bool)->Option _)=>(Qb1 g.A x0.A0).bind λa8=>bif a8 then(u (decide (g.B=(0:Int))))else(u false)) (λ(b1:Bool)=>some b1))else(bif decide (g.Op=(4:Int)) then(jn (λ(v:(Bool)->Option _)=>(Qb1 g.A x0.A3).bind λa9=>bif a9 then(v (decide (g.B=(0:Int))))else(v false)) (λ(b2:Bool)=>some b2))else(bif decide (g.Op=(6:Int)) then(some (decide (g.B=(0:Int))))else(bif decide (g.Op=(11:Int)) then(jn (λ(a0:(Bool)->Option _)=>bif decide ((-8:Int)<=g.B) then(a0 (decide (g.B<=(8:Int))))else(a0 false)) (λ(b3:Bool)=>some b3))else((Qjc g).bind λb0=>some (decide ((b0.length:Int)=(2:Int)))))))))))
def Qo8(n:Nat)(x0:Qm):Option (Int):=(Qlr x0).bind λr1=>bif !r1 then(some (-2:Int))else((rangeL (λ(g:Nat) (_:Qv) (_:Unit)=>(Qmj n x0 (g:Int)).bind λu=>bif !u then(some (Lp.out ((g:Int))))else(some (Lp.go ()))) x0.Code 0 ()).bind (lpK λ(_:Unit)=>(rangeL (λ(_:Nat) (a0:Int) (_:Unit)=>(Qb1 a0 (x0.Code.length:Int)).bind λv=>bif !v then(some (Lp.out ((x0.Code.length:Int))))else(some (Lp.go ()))) x0.Az 0 ()).bind (lpK λ(_:Unit)=>some (-1:Int))))
def Qb2(n:Nat)(x0:Qm):Option (Bool):=(Qo8 n x0).bind λg=>some (decide (g=(-1:Int)))
def Qo9(n:Nat)(x0:Int):Option (Qi):=bif decide (x0<(0:Int)) then((some (((18446744073709551616 - (Int.toNat (x0%18446744073709551616)))%18446744073709551616))).bind λz1=>(Qcu n z1).bind λg=>(Yy true g).bind λu=>some u)else((Qcu n (Int.toNat (x0%18446744073709551616))).bind λv=>(Yy false v).bind λr8=>some r8)
def Ko(n:Nat)(x0:Int):Option (Qa):=(Qo9 n x0).bind λg=>(Qcu n 1).bind λu=>some (⟨g,u⟩:Qa)
def Qgo(x0:Nat):Option (Bool):=jn (λ(g:(Bool)->Option _)=>bif decide (48<=x0) then ( g (decide (x0<=57))) else ( g false)) (λ(u:Bool)=>some u)
def Qgz(x0:Nat):Option (Bool):=jn (λ(g:(Bool)->Option _)=>bif decide (97<=x0) then(bif decide (x0<=122) then(g true)else(bif decide (65<=x0) then(bif decide (x0<=90) then(g true)else(g (decide (x0=95))))else(g (decide (x0=95)))))else(bif decide (65<=x0) then(bif decide (x0<=90) then(g true)else(g (decide (x0=95))))else(g (decide (x0=95))))) (λ(u:Bool)=>some u)
def Qpa(n:Nat)(x0:Nat):Option (Bool):=(loopM (λ(g:Nat)=>bif decide (g<([43,45,42,47,94,40,41,91,93,44,59,61]:List UInt8).length) then((some (((decR ([43,45,42,47,94,40,41,91,93,44,59,61]:List UInt8) g:Nat):Int))).bind λu=>bif decide ((Int.toNat (u%256))=x0) then(some (Lp.out (Lp.out (true))))else(some (Lp.go (g+decW ([43,45,42,47,94,40,41,91,93,44,59,61]:List UInt8) g))))else(some (Lp.out (Lp.go ())))) n 0).bind (lpK λ(_:Unit)=>some false)
def Qpb(n:Nat)(x0:Nat):Option (Int):=(Qgo x0).bind λg=>bif g then(some (1:Int))else((Qgz x0).bind λu=>bif u then(some (2:Int))else((Qpa n x0).bind λv=>bif v then(some (3:Int))else(some (0:Int))))
def Qpc(x0:Int)(x1:Nat):Option (Bool):=jn (λ(g:(Bool)->Option _)=>bif decide (x0=(1:Int)) then((Qgo x1).bind λu=>bif u then(g true)else(bif decide (x0=(2:Int)) then((Qgz x1).bind λv=>bif v then(g true)else((Qgo x1).bind λa0=>g a0))else(g false)))else(bif decide (x0=(2:Int)) then((Qgz x1).bind λa1=>bif a1 then(g true)else((Qgo x1).bind λa2=>g a2))else(g false))) (λ(a3:Bool)=>some a3)
def Qnf(n:Nat)(x0:(List UInt8))(x1:Int):Option (Int):=(loopM (λ(g:Int)=>jn (λ(u:(Bool)->Option _)=>bif decide (g<(x0.length:Int)) then((getS x0 g).bind λa2=>(Qpc x1 a2).bind λv=>u v)else(u false)) (λ(a0:Bool)=>bif a0 then(some (Lp.go (wrap64 (g+(1:Int)))))else(some (Lp.out g)))) n (1:Int)).bind λ(a1:Int)=>some a1
def Qpd(x0:Int):Option (Int):=bif decide (x0=(1:Int)) then ( some (60:Int)) else ( bif decide (x0=(2:Int)) then ( some (12:Int)) else ( some (1:Int)))
def Qk0(n:Nat)(x0:Qmh):Option (Bool):=jn (λ(u:(Bool)->Option _)=>bif decide (x0.A7=([]:List UInt8)) then(u true)else(bif decide (x0.Ax=(0:Int)) then(u true)else((getS x0.A7 (0:Int)).bind λa3=>(Qpb n a3).bind λv=>u (!decide (v=x0.Ax))))) (λ(s9:Bool)=>bif s9 then(some false)else(jn (λ(g:(Bool)->Option _)=>(Qnf n x0.A7 x0.Ax).bind λa0=>bif decide (a0=(x0.A7.length:Int)) then((Qpd x0.Ax).bind λa1=>g (decide ((x0.A7.length:Int)<=a1)))else(g false)) (λ(a2:Bool)=>some a2)))
def Qjd(x0:Qw):Option (Bool):=jn (λ(g:(Bool)->Option _)=>bif decide ((x0.B.length:Int)<(1:Int)) then(g true)else(bif decide ((8:Int)<(x0.B.length:Int)) then(g true)else(bif !decide ((x0.C.length:Int)=(x0.B.length:Int)) then(g true)else(bif !decide ((x0.A.length:Int)=(x0.B.length:Int)) then(g true)else(bif !decide ((x0.E.length:Int)=(x0.B.length:Int)) then(g (!decide ((x0.E.length:Int)=(0:Int))))else(g false)))))) (λ(s3:Bool)=>bif s3 then(some false)else((rangeL (λ(u:Nat) (v:(List Qa)) (_:Unit)=>bif !decide ((v.length:Int)=(u:Int)) then(some (Lp.out (false)))else(some (Lp.go ()))) x0.A 0 ()).bind (lpK λ(_:Unit)=>some true)))
def Qhy(n:Nat)(x0:(List Nat)):Option (Int):=(X6 n x0).bind λg=>bif decide ((g.length:Int)=(0:Int)) then(some (0:Int))else((getI g (wrap64 ((g.length:Int) - (1:Int)))).bind λv=>(Qmi n v).bind λu=>(some (wrap64 ((wrap64 ((32:Int)*(wrap64 ((g.length:Int) - (1:Int)))))+u))).bind λz7=>some z7)
def Qa8(n:Nat)(x0:Qa):Option (Int):=(Qhy n x0.Num.A6).bind λg=>(Qhy n x0.Den).bind λu=>some (wrap64 (g+u))
def Qe1(n:Nat)(x0:(List (List Qa))):Option (Bool):=(rangeL (λ(_:Nat) (a2:(List Qa)) (_:Unit)=>(rangeL (λ(_:Nat) (u:Qa) (_:Unit)=>jn (λ(g:(Bool)->Option _)=>(Z9 n u).bind λv=>bif !v then(g true)else((Qa8 n u).bind λa0=>g (decide ((190:Int)<a0)))) (λ(a1:Bool)=>bif a1 then(some (Lp.out (Lp.out (false))))else(some (Lp.go ())))) a2 0 ()).bind (lpK λ(_:Unit)=>some (Lp.go ()))) x0 0 ()).bind (lpK λ(_:Unit)=>some true)
def Vy(n:Nat)(x0:Qa)(x1:Qa):Option (Qa):=(Xy n x0).bind λg=>(Xy n x1).bind λu=>(Qb0 n g.1 u.2).bind λr5=>(Qb0 n u.1 g.2).bind λr7=>(Qkw n r5 r7).bind λr9=>(Qde n g.2 u.2).bind λv=>(Qcc n r9 v).bind λa0=>some a0
def Qfb(n:Nat)(x0:(List Qa)):Option (Qa):=(Ko n (0:Int)).bind λr1=>(rangeL (λ(_:Nat) (a0:Qa) (u:Qa)=>(Vy n u a0).bind λg=>some (Lp.go g)) x0 0 r1).bind (lpK λ(v:Qa)=>some v)
def Qa9(n:Nat)(x0:Qa)(x1:Qa):Option (Bool):=(Qj8 n x0 x1).bind λg=>some (decide (g=(0:Int)))
def Qkn(n:Nat)(x0:Qw):Option (Bool):=(rangeL (λ(g:Nat) (a0:(List Qa)) (_:Unit)=>(Qfb n a0).bind λu=>(getI x0.C (g:Int)).bind λa1=>(Qa9 n u a1).bind λv=>bif !v then(some (Lp.out (false)))else(some (Lp.go ()))) x0.A 0 ()).bind (lpK λ(_:Unit)=>some true)
def Qgv(n:Nat)(x0:Qw):Option (Int):=(Ko n (1:Int)).bind λv=>(Qk0 n (⟨(2:Int),x0.Bb,0⟩:Qmh)).bind λr3=>bif !r3 then(some (1:Int))else((Qjd x0).bind λr5=>bif !r5 then(some (2:Int))else(jn (λ(g:(Bool)->Option _)=>(Qe1 n x0.A).bind λa0=>bif !a0 then(g true)else((Qe1 n ([x0.B,x0.C,x0.E]:List (List Qa))).bind λa1=>g (!a1))) (λ(a7:Bool)=>bif a7 then(some (3:Int))else((Qkn n x0).bind λa2=>bif !a2 then(some (4:Int))else((Qfb n x0.B).bind λa3=>(Qa9 n a3 v).bind λa4=>bif !a4 then(some (5:Int))else(jn (λ(u:(Bool)->Option _)=>bif decide ((0:Int)<(x0.E.length:Int)) then((Qfb n x0.E).bind λa5=>(Qa9 n a5 v).bind λa6=>u (!a6))else(u false)) (λ(a8:Bool)=>bif a8 then(some (6:Int))else(some (0:Int)))))))))
def Qgw(n:Nat)(x0:Qw):Option (Bool):=(Qgv n x0).bind λg=>some (decide (g=(0:Int)))
def Qc0(n:Nat)(x0:Qg):Option (Bool):=jn (λ(g:(Bool)->Option _)=>(Qb2 n x0.Tape).bind λv=>bif v then((Qgw n x0.Av).bind λu=>bif u then(g (decide ((x0.P.length:Int)=x0.Tape.A3)))else(g false))else(g false)) (λ(s7:Bool)=>some s7)
def X9(x0:Int):Option (Qk):=some (⟨(⟨0,0⟩:Qdc),min (max x0 (0:Int)) (4096:Int)⟩:Qk)
def Qdf(n:Nat)(x0:Int):Option ((List Qa)):=(mkM 56 ((⟨(⟨false,[]⟩:Qi),[]⟩:Qa):Qa) (min (max x0 (0:Int)) (300:Int))).bind λy1=>(loopM (λ(g:(List Qa)×Int)=>bif decide (g.2<(min (max x0 (0:Int)) (300:Int))) then((Ko n (0:Int)).bind λu=>(getI g.1 g.2).bind λ_=>some (Lp.go ((List.set g.1 (Int.toNat g.2) u),wrap64 (g.2+(1:Int)))))else(some (Lp.out g.1))) n (y1,(0:Int))).bind λ(v:(List Qa))=>some v
def Qba(n:Nat)(x0:Qa):Option (Int):=(Xy n x0).bind λg=>(Qfa n g.1).bind λu=>some u
def W5(n:Nat)(x0:Qa)(x1:Qa):Option (Qa):=(Xy n x0).bind λg=>(Xy n x1).bind λu=>(Qku n g.1 u.1).bind λv=>(Qde n g.2 u.2).bind λr7=>(Qcc n v r7).bind λr9=>some r9
def Qlt(n:Nat)(x0:(List Qa))(x1:(List (List Qa)))(x2:Int):Option ((List Qa)×Bool):=jn (λ(j1:(Bool)->Option _)=>bif !decide ((x0.length:Int)=(x1.length:Int)) then(j1 true)else(bif decide (x2<(0:Int)) then(j1 true)else(j1 (decide ((300:Int)<x2))))) (λ(s3:Bool)=>bif s3 then(some (([]:List Qa),false))else((rangeL (λ(_:Nat) (b3:(List Qa)) (_:Unit)=>bif !decide ((b3.length:Int)=x2) then(some (Lp.out ((([]:List Qa),false))))else(some (Lp.go ()))) x1 0 ()).bind (lpK λ(_:Unit)=>(Qdf n x2).bind λb2=>(rangeL (λ(v:Nat) (a7:(List Qa)) (a0:(List Qa))=>(getI x0 (v:Int)).bind λa9=>(Qba n a9).bind λa2=>bif decide (a2=(0:Int)) then(some (Lp.go a0))else((rangeL (λ(g:Nat) (a8:Qa) (u:(List Qa))=>(getI u (g:Int)).bind λb0=>(getI x0 (v:Int)).bind λb1=>(W5 n b1 a8).bind λa3=>(Vy n b0 a3).bind λa4=>(getI u (g:Int)).bind λ_=>some (Lp.go (List.set u (Int.toNat (g:Int)) a4))) a7 0 a0).bind (lpK λ(a5:(List Qa))=>some (Lp.go a5)))) x1 0 b2).bind (lpK λ(a6:(List Qa))=>some (a6,true)))))
def Yo(n:Nat)(x0:Qa)(x1:(List Qa)):Option ((List Qa)):=(rangeL (λ(_:Nat) (a0:Qa) (u:(List Qa))=>(W5 n x0 a0).bind λg=>(appM 56 u ([g]:List Qa)).bind λa1=>some (Lp.go a1)) x1 0 ([]:List Qa)).bind (lpK λ(v:(List Qa))=>some v)
def Xq(n:Nat)(_:Qg)(_:Qa)(x0_h:Qa)(x0_y:(List Qa))(_:Qk)(_:(List (List Qa)))(x0_out_Ks:(List (List Qa)))(_:(List Qa))(_:(List Qa))(x1:(List Qa)):Option ((List Qa)):=(Qlt n x1 x0_out_Ks (x0_y.length:Int)).bind λg=>(Yo n x0_h g.1).bind λu=>some u
def Qpe(n:Nat)(x0:(List Qa)):Option ((List Qa)):=(rangeL (λ(_:Nat) (a0:Qa) (u:(List Qa))=>(Vr n a0).bind λg=>(appM 56 u ([g]:List Qa)).bind λa1=>some (Lp.go a1)) x0 0 ([]:List Qa)).bind (lpK λ(v:(List Qa))=>some v)
def Qbo(n:Nat)(x0:(List (List Qa))):Option ((List Qa)×Bool):=bif decide ((x0.length:Int)=(0:Int)) then(some (([]:List Qa),true))else((getI x0 (0:Int)).bind λy1=>(Qpe n y1).bind λr3=>(sub x0 (1:Int) (x0.length:Int)).bind λy5=>(rangeL (λ(_:Nat) (a0:(List Qa)) (v:(List Qa))=>bif !decide ((a0.length:Int)=(v.length:Int)) then(some (Lp.out ((([]:List Qa),false))))else((rangeL (λ(g:Nat) (a4:Qa) (u:(List Qa))=>(getI u (g:Int)).bind λa5=>(Vy n a5 a4).bind λa1=>(getI u (g:Int)).bind λ_=>some (Lp.go (List.set u (Int.toNat (g:Int)) a1))) a0 0 v).bind (lpK λ(a2:(List Qa))=>some (Lp.go a2)))) y5 0 r3).bind (lpK λ(a3:(List Qa))=>some (a3,true)))
def Qaw(n:Nat)(x0_p:Qg)(x0_t:Qa)(x0_h:Qa)(x0_y:(List Qa))(x0_g:Qk)(x0_out_Ys:(List (List Qa)))(x0_out_Ks:(List (List Qa)))(x0_out_Next:(List Qa))(x0_out_Err:(List Qa))(x1:(List Qa)):Option ((List Qa)):=(Xq n x0_p x0_t x0_h x0_y x0_g x0_out_Ys x0_out_Ks x0_out_Next x0_out_Err x1).bind λg=>(Qbo n ([x0_y,g]:List (List Qa))).bind λu=>some u.1
def Qfk(x0:Qk)(x1:Int):Option (Qk):=some (⟨(⟨wrap64 (x0.Count.Seen+(1:Int)),max x0.Count.Peak x1⟩:Qdc),x0.limit⟩:Qk)
def Wa(n:Nat)(x0:Qk)(x1:Qa):Option (Bool×Qk):=(Qa8 n x1).bind λg=>(Qfk x0 g).bind λu=>some (decide (g<=u.limit),u)
def Xr(n:Nat)(x0:Qk)(x1:(List Qa)):Option (Int×Bool×Qk):=(rangeL (λ(u:Nat) (a1:Qa) (v:Qk)=>(Wa n v a1).bind λg=>bif !g.1 then(some (Lp.out (((u:Int),false,g.2))))else(some (Lp.go g.2))) x1 0 x0).bind (lpK λ(a0:Qk)=>some ((x1.length:Int),true,a0))
def Yi(n:Nat)(_:Qg)(_:Qa)(_:Qa)(_:(List Qa))(x0_g:Qk)(_:(List (List Qa)))(_:(List (List Qa)))(_:(List Qa))(_:(List Qa))(x1:(List Qa))(x2:Int):Option (Qe×Qk):=(Xr n x0_g x1).bind λg=>bif !g.2.1 then(some ((⟨(6:Int),0,x2,wrap64 ((300:Int)+g.1)⟩:Qe),g.2.2))else(some ((⟨0,0,0,0⟩:Qe),g.2.2))
def Qfu(n:Nat)(x0:Qg)(x1:Qa)(x2:Qa)(x3:Int):Option (Qa):=jn (λ(g:(Bool)->Option _)=>bif decide (x3<(0:Int)) then(g true)else(g (decide ((x0.Av.C.length:Int)<=x3)))) (λ(s3:Bool)=>bif s3 then((Vr n x1).bind λv=>some v)else((getI x0.Av.C x3).bind λy6=>(W5 n x2 y6).bind λr8=>(Vy n x1 r8).bind λu=>some u))
def Qu8(x0:Qg)(x1:Qa)(x2:(List Qa)):Option (V3):=some (⟨x1,x2,x0.P⟩:V3)
def Qlu(n:Nat)(x0:(List Qa)):Option ((List Qa)):=(rangeL (λ(_:Nat) (a0:Qa) (u:(List Qa))=>(Vr n a0).bind λg=>(appM 56 u ([g]:List Qa)).bind λa1=>some (Lp.go a1)) x0 0 ([]:List Qa)).bind (lpK λ(v:(List Qa))=>some v)
def Qgp(n:Nat)(x0:V3):Option (V3):=(Vr n x0.T).bind λg=>(Qlu n x0.Y).bind λu=>(Qlu n x0.P).bind λv=>some (⟨g,u,v⟩:V3)
def Qe4(n:Nat)(x0:Qa):Option (Qa):=(Vr n x0).bind λg=>(Qkv n g.Num).bind λu=>some (⟨u,g.Den⟩:Qa)
def Qiz(n:Nat)(_:Qk)(x1:Qa):Option (Qa):=(Qe4 n x1).bind λg=>some g
def Qje(n:Nat)(x0:(List Nat))(x1:Int):Option ((List Nat)):=(Qcu n 1).bind λv=>(loopM (λ(g:(List Nat)×Int)=>bif decide (g.2<x1) then((Qde n g.1 x0).bind λu=>some (Lp.go (u,wrap64 (g.2+(1:Int)))))else(some (Lp.out g.1))) n (v,(0:Int))).bind λ(t9:(List Nat))=>some t9
def Qhz(n:Nat)(x0:Qa)(x1:Int):Option (Qa×Bool):=jn (λ(v:(Bool)->Option _)=>bif decide (x1<(-8:Int)) then(v true)else(bif decide ((8:Int)<x1) then(v true)else(bif decide (x1<(0:Int)) then((Qba n x0).bind λr6=>v (decide (r6=(0:Int))))else(v false)))) (λ(s5:Bool)=>bif s5 then((Ko n (0:Int)).bind λr8=>some (r8,false))else((Vr n x0).bind λu=>(Qje n u.Num.A6 (max x1 (wrap64 (-x1)))).bind λa2=>(Qje n u.Den (max x1 (wrap64 (-x1)))).bind λa3=>jn (λ(a0:((List Nat)×(List Nat))->Option _)=>bif decide (x1<(0:Int)) then(a0 (a3,a2))else(a0 (a2,a3))) (λ(g:(List Nat)×(List Nat))=>jn (λ(a1:(Qa)->Option _)=>bif u.Num.Neg then((Qd5 n (⟨decide ((Int.tmod (max x1 (wrap64 (-x1))) (2:Int))=(1:Int)),g.1⟩:Qi)).bind λa4=>a1 (⟨a4,g.2⟩:Qa))else((Qd5 n (⟨false,g.1⟩:Qi)).bind λa5=>a1 (⟨a5,g.2⟩:Qa))) (λ(a6:Qa)=>some (a6,true)))))
def Qi0(n:Nat)(_:Qk)(x1:Qa)(x2:Int):Option (Qa×Bool):=(Qhz n x1 x2).bind λg=>some (g.1,g.2)
def Qi1(n:Nat)(_:Qk)(x1:Qa)(x2:Qa):Option (Qa):=(Vy n x1 x2).bind λg=>some g
def Qi2(n:Nat)(_:Qk)(x1:Qa)(x2:Qa):Option (Qa):=(Qhx n x1 x2).bind λg=>some g
def Qi3(n:Nat)(_:Qk)(x1:Qa)(x2:Qa):Option (Qa):=(W5 n x1 x2).bind λg=>some g
def Qcf(n:Nat)(x0:Qa)(x1:Qa):Option (Qa×Bool):=(Xy n x0).bind λu=>(Xy n x1).bind λg=>(Qfa n g.1).bind λr5=>bif decide (r5=(0:Int)) then((Ko n (0:Int)).bind λr7=>some (r7,false))else((Qb0 n u.1 g.2).bind λr9=>(Qde n u.2 g.1.A6).bind λv=>(Qcc n (⟨(r9.Neg != g.1.Neg),r9.A6⟩:Qi) v).bind λa0=>some (a0,true))
def Qi4(n:Nat)(_:Qk)(x1:Qa)(x2:Qa):Option (Qa×Bool):=(Qcf n x1 x2).bind λg=>some (g.1,g.2)
def Qj9(n:Nat)(_:Qk)(x1:Qa):Option (Qa):=(Vr n x1).bind λg=>some g
def X7(n:Nat)(x0_Arith_g:Qk)(x1:Qv)(x2:Qaj):Option (Qa):=bif decide (x1.Op=(1:Int)) then((Qj9 n x0_Arith_g x1.N).bind λg=>some g)else(bif decide (x1.Op=(3:Int)) then((getI x2.Y x1.A).bind λu=>some u)else(bif decide (x1.Op=(4:Int)) then((getI x2.P x1.A).bind λv=>some v)else(some x2.T)))
def Vj(n:Nat)(x0_Arith_g:Qk)(x1:Qv)(x2:Qaj)(x3:(List Qa)):Option (Qa×Bool):=bif decide (x1.Op=(6:Int)) then((getI x3 x1.A).bind λy1=>(Qiz n x0_Arith_g y1).bind λr3=>some (r3,true))else(bif decide (x1.Op=(11:Int)) then((getI x3 x1.A).bind λy5=>(Qi0 n x0_Arith_g y5 x1.B).bind λr7=>some (r7.1,r7.2))else(bif decide (x1.Op=(7:Int)) then((getI x3 x1.A).bind λy9=>(getI x3 x1.B).bind λa3=>(Qi1 n x0_Arith_g y9 a3).bind λu=>some (u,true))else(bif decide (x1.Op=(8:Int)) then((getI x3 x1.A).bind λa4=>(getI x3 x1.B).bind λa5=>(Qi2 n x0_Arith_g a4 a5).bind λv=>some (v,true))else(bif decide (x1.Op=(9:Int)) then((getI x3 x1.A).bind λa6=>(getI x3 x1.B).bind λa7=>(Qi3 n x0_Arith_g a6 a7).bind λa0=>some (a0,true))else(bif decide (x1.Op=(10:Int)) then((getI x3 x1.A).bind λa8=>(getI x3 x1.B).bind λa9=>(Qi4 n x0_Arith_g a8 a9).bind λg=>some (g.1,g.2))else((X7 n x0_Arith_g x1 x2).bind λa1=>some (a1,true)))))))
def Qfc(n:Nat)(x0_g:Qk)(x1:Qa):Option (Bool×Qk):=(Wa n x0_g x1).bind λg=>some (g.1,g.2)
def W7(n:Nat)(x0_Arith_g:Qk)(x1:Qm)(x2:Qaj):Option ((List Qa)×Qe×Qk):=jn (λ(j3:(Bool)->Option _)=>(Qb2 n x1).bind λr6=>bif !r6 then(j3 true)else(bif !decide ((x2.Y.length:Int)=x1.A0) then(j3 true)else(j3 (!decide ((x2.P.length:Int)=x1.A3))))) (λ(s5:Bool)=>bif s5 then(some (([]:List Qa),(⟨(2:Int),0,0,0⟩:Qe),x0_Arith_g))else((rangeL (λ(a0:Nat) (a3:Qv) (g:Qk×(List Qa))=>(Vj n g.1 a3 x2 g.2).bind λu=>bif !u.2 then(some (Lp.out ((([]:List Qa),(⟨(3:Int),0,0,(a0:Int)⟩:Qe),g.1))))else((Qfc n g.1 u.1).bind λv=>bif !v.1 then(some (Lp.out ((([]:List Qa),(⟨(6:Int),0,0,(a0:Int)⟩:Qe),v.2))))else((appM 56 g.2 ([u.1]:List Qa)).bind λa4=>some (Lp.go (v.2,a4))))) x1.Code 0 (x0_Arith_g,([]:List Qa))).bind (lpK λ(a1:Qk×(List Qa))=>some (a1.2,(⟨0,0,0,0⟩:Qe),a1.1))))
def Qka(n:Nat)(x0:Qm)(x1:V3)(x2:Int):Option ((List Qa)×Qe):=(Qgp n x1).bind λg=>(X9 x2).bind λv=>(W7 n v x0 (⟨g.T,g.Y,g.P⟩:Qaj)).bind λu=>some (u.1,u.2.1)
def Qss(n:Nat)(x0:Qm)(x1:(List Qa)):Option ((List Qa)):=jn (λ(g:(Bool)->Option _)=>(Qb2 n x0).bind λr6=>bif !r6 then(g true)else(g (!decide ((x1.length:Int)=(x0.Code.length:Int))))) (λ(s5:Bool)=>bif s5 then(some ([]:List Qa))else((rangeL (λ(_:Nat) (a1:Int) (v:(List Qa))=>(getI x1 a1).bind λa2=>(Vr n a2).bind λu=>(appM 56 v ([u]:List Qa)).bind λa3=>some (Lp.go a3)) x0.Az 0 ([]:List Qa)).bind (lpK λ(a0:(List Qa))=>some a0)))
def Qng(n:Nat)(x0:Qm)(x1:V3)(x2:Int):Option ((List Qa)×Qe):=(Qka n x0 x1 x2).bind λg=>bif !(Qs g.2 (⟨0,0,0,0⟩:Qe)) then(some (([]:List Qa),g.2))else((Qss n x0 g.1).bind λu=>some (u,g.2))
def Qaa(n:Nat)(x0_p:Qg)(x0_t:Qa)(x0_h:Qa)(x0_y:(List Qa))(x0_g:Qk)(x0_out_Ys:(List (List Qa)))(x0_out_Ks:(List (List Qa)))(x0_out_Next:(List Qa))(x0_out_Err:(List Qa))(x1:Int):Option (Qe×Qg×Qa×Qa×(List Qa)×(List Qa)×(List Qa)×Qk×(List (List Qa))×(List (List Qa))):=(getI x0_p.Av.A x1).bind λy1=>(Qaw n x0_p x0_t x0_h x0_y x0_g x0_out_Ys x0_out_Ks x0_out_Next x0_out_Err y1).bind λv=>(Yi n x0_p x0_t x0_h x0_y x0_g x0_out_Ys x0_out_Ks x0_out_Next x0_out_Err v x1).bind λu=>bif !(Qs u.1 (⟨0,0,0,0⟩:Qe)) then(some (u.1,x0_p,x0_t,x0_h,x0_y,x0_out_Next,x0_out_Err,u.2,x0_out_Ys,x0_out_Ks))else((Qfu n x0_p x0_t x0_h x1).bind λr7=>(Qu8 x0_p r7 v).bind λr9=>(Qng n x0_p.Tape r9 x0_p.Ay).bind λg=>bif !(Qs g.2 (⟨0,0,0,0⟩:Qe)) then(some ((⟨g.2.Ax,g.2.Ba,x1,g.2.At⟩:Qe),x0_p,x0_t,x0_h,x0_y,x0_out_Next,x0_out_Err,u.2,x0_out_Ys,x0_out_Ks))else((appM 24 x0_out_Ys ([v]:List (List Qa))).bind λa0=>(appM 24 x0_out_Ks ([g.1]:List (List Qa))).bind λa1=>some (g.2,x0_p,x0_t,x0_h,x0_y,x0_out_Next,x0_out_Err,u.2,a0,a1)))
def Qu9(n:Nat)(x0:(List Qa))(x1:(List Qa)):Option ((List Qa)×Bool):=(Ko n (-1:Int)).bind λu=>(Yo n u x1).bind λv=>(Qbo n ([x0,v]:List (List Qa))).bind λg=>some (g.1,g.2)
def Qfd(n:Nat)(x0:Qw):Option ((List Qa)):=jn (λ(g:(Bool)->Option _)=>(Qgw n x0).bind λu=>bif !u then(g true)else(g (decide ((x0.E.length:Int)=(0:Int))))) (λ(s5:Bool)=>bif s5 then(some ([]:List Qa))else((Qu9 n x0.B x0.E).bind λv=>some v.1))
def Qes(n:Nat)(x0_p:Qg)(x0_t:Qa)(x0_h:Qa)(x0_y:(List Qa))(x0_g:Qk)(x0_out_Ys:(List (List Qa)))(x0_out_Ks:(List (List Qa)))(x0_out_Next:(List Qa))(x0_out_Err:(List Qa)):Option (Qe×Qg×Qa×Qa×(List Qa)×(List Qa)×(List Qa)×Qk×(List (List Qa))×(List (List Qa))):=(rangeL (λ(a6:Nat) (_:Qa) (v:Qg×Qa×Qa×(List Qa)×Qk×(List (List Qa))×(List (List Qa))×(List Qa)×(List Qa))=>(Qaa n v.1 v.2.1 v.2.2.1 v.2.2.2.1 v.2.2.2.2.1 v.2.2.2.2.2.1 v.2.2.2.2.2.2.1 v.2.2.2.2.2.2.2.1 v.2.2.2.2.2.2.2.2 (a6:Int)).bind λu=>bif !(Qs u.1 (⟨0,0,0,0⟩:Qe)) then(some (Lp.out ((u.1,u.2.1,u.2.2.1,u.2.2.2.1,u.2.2.2.2.1,u.2.2.2.2.2.1,u.2.2.2.2.2.2.1,u.2.2.2.2.2.2.2.1,u.2.2.2.2.2.2.2.2.1,u.2.2.2.2.2.2.2.2.2))))else(some (Lp.go (u.2.1,u.2.2.1,u.2.2.2.1,u.2.2.2.2.1,u.2.2.2.2.2.2.2.1,u.2.2.2.2.2.2.2.2.1,u.2.2.2.2.2.2.2.2.2,u.2.2.2.2.2.1,u.2.2.2.2.2.2.1)))) x0_p.Av.B 0 (x0_p,x0_t,x0_h,x0_y,x0_g,x0_out_Ys,x0_out_Ks,x0_out_Next,x0_out_Err)).bind (lpK λ(g:Qg×Qa×Qa×(List Qa)×Qk×(List (List Qa))×(List (List Qa))×(List Qa)×(List Qa))=>(Qaw n g.1 g.2.1 g.2.2.1 g.2.2.2.1 g.2.2.2.2.1 g.2.2.2.2.2.1 g.2.2.2.2.2.2.1 g.2.2.2.2.2.2.2.1 g.2.2.2.2.2.2.2.2 x0_p.Av.B).bind λa0=>(Yi n g.1 g.2.1 g.2.2.1 g.2.2.2.1 g.2.2.2.2.1 g.2.2.2.2.2.1 g.2.2.2.2.2.2.1 a0 g.2.2.2.2.2.2.2.2 a0 (x0_p.Av.B.length:Int)).bind λa1=>bif !(Qs a1.1 (⟨0,0,0,0⟩:Qe)) then(some (a1.1,g.1,g.2.1,g.2.2.1,g.2.2.2.1,a0,g.2.2.2.2.2.2.2.2,a1.2,g.2.2.2.2.2.1,g.2.2.2.2.2.2.1))else(jn (λ(a3:((List Qa))->Option _)=>(Qfd n x0_p.Av).bind λa4=>bif decide ((0:Int)<(a4.length:Int)) then((Xq n g.1 g.2.1 g.2.2.1 g.2.2.2.1 a1.2 g.2.2.2.2.2.1 g.2.2.2.2.2.2.1 a0 g.2.2.2.2.2.2.2.2 a4).bind λa7=>a3 a7)else(a3 g.2.2.2.2.2.2.2.2)) (λ(a2:(List Qa))=>(Yi n g.1 g.2.1 g.2.2.1 g.2.2.2.1 a1.2 g.2.2.2.2.2.1 g.2.2.2.2.2.2.1 a0 a2 a2 (wrap64 ((x0_p.Av.B.length:Int)+(1:Int)))).bind λa5=>some (a5.1,g.1,g.2.1,g.2.2.1,g.2.2.2.1,a0,a2,a5.2,g.2.2.2.2.2.1,g.2.2.2.2.2.2.1))))
def Qgq(n:Nat)(x0:Qg)(x1:Qa)(x2:Qa)(x3:(List Qa)):Option (Jk×Qe):=jn (λ(u:(Bool)->Option _)=>(Qc0 n x0).bind λv=>bif !v then(u true)else(u (!decide ((x3.length:Int)=x0.Tape.A0)))) (λ(s5:Bool)=>bif s5 then(some ((⟨[],[],[],[]⟩:Jk),(⟨(2:Int),0,0,0⟩:Qe)))else((X9 x0.Ay).bind λr8=>(Qes n x0 x1 x2 x3 r8 ([]:List (List Qa)) ([]:List (List Qa)) [] []).bind λg=>bif !(Qs g.1 (⟨0,0,0,0⟩:Qe)) then(some ((⟨[],[],[],[]⟩:Jk),g.1))else(some ((⟨g.2.2.2.2.2.2.2.2.1,g.2.2.2.2.2.2.2.2.2,g.2.2.2.2.2.1,g.2.2.2.2.2.2.1⟩:Jk),(⟨0,0,0,0⟩:Qe)))))
def Qpf(n:Nat)(x0:Qa):Option (Qa):=(Vr n x0).bind λg=>some (⟨(⟨false,g.Num.A6⟩:Qi),g.Den⟩:Qa)
def Qpg(n:Nat)(x0:(List Qa)):Option (Qa):=(Ko n (0:Int)).bind λr1=>(rangeL (λ(a0:Nat) (v:Qa) (u:Qa)=>jn (λ(g:(Bool)->Option _)=>bif decide ((a0:Int)=(0:Int)) then(g true)else((Qj8 n v u).bind λa1=>g (decide ((0:Int)<a1)))) (λ(a3:Bool)=>bif a3 then((Vr n v).bind λa2=>some (Lp.go a2))else(some (Lp.go u)))) x0 0 r1).bind (lpK λ(a4:Qa)=>some a4)
def Qkb(n:Nat)(x0:(List Qa)):Option (Qa):=(Ko n (0:Int)).bind λr1=>(rangeL (λ(_:Nat) (a1:Qa) (v:Qa)=>(Qpf n a1).bind λg=>(Qpg n ([v,g]:List Qa)).bind λu=>some (Lp.go u)) x0 0 r1).bind (lpK λ(a0:Qa)=>some a0)
def Qph(n:Nat)(x0:Qi)(x1:(List Nat)):Option (Qa×Bool):=(Qgc n x1).bind λg=>bif g then ( (Ko n (0:Int)).bind λu=>some (u,false)) else ( (Qcc n x0 x1).bind λv=>some (v,true))
def Qb3(n:Nat)(x0_p:Qg)(_:Qa)(x0_h:Qa)(x0_w:(List Qa))(_:Jk)(x0_ys:(List (List Qa)))(_:J3)(_:Qk)(x1:Int):Option ((List Qa)):=(getI x0_p.Av.B x1).bind λy1=>(Yo n y1 x0_w).bind λr3=>(loopM (λ(g:(List Qa)×Int)=>bif decide (g.2<(x0_p.Av.B.length:Int)) then((getI x0_p.Av.A g.2).bind λa2=>(getI a2 x1).bind λa3=>(getI x0_ys g.2).bind λa4=>(Yo n a3 a4).bind λu=>(Qbo n ([g.1,u]:List (List Qa))).bind λv=>some (Lp.go (v.1,wrap64 (g.2+(1:Int)))))else(some (Lp.out g.1))) n (r3,wrap64 (x1+(1:Int)))).bind λ(a1:(List Qa))=>(Yo n x0_h a1).bind λa0=>some a0
def Xs(n:Nat)(_:Qg)(_:Qa)(_:Qa)(_:(List Qa))(_:Jk)(_:(List (List Qa)))(_:J3)(x0_g:Qk)(x1:(List Qa))(x2:Int):Option (Qe×Qk):=(Xr n x0_g x1).bind λg=>bif !g.2.1 then(some ((⟨(6:Int),0,x2,wrap64 ((300:Int)+g.1)⟩:Qe),g.2.2))else(some ((⟨0,0,0,0⟩:Qe),g.2.2))
def Qk1(n:Nat)(x0:Int)(x1:Int):Option (Qa×(List Qa)×(List Qa)):=(Ko n (0:Int)).bind λg=>(Qdf n x0).bind λu=>(Qdf n x1).bind λv=>some (g,u,v)
def J1(n:Nat)(x0_t:Qm)(x0_done:(List Qa))(x0_co:(List Qa))(x0_grad_T:Qa)(_:(List Qa))(_:(List Qa))(x1:Int)(x2:Qa):Option (Qm×(List Qa)×Qa×(List Qa)):=(getI x0_co x1).bind λu=>(Vy n u x2).bind λg=>(getI x0_co x1).bind λ_=>some (x0_t,x0_done,x0_grad_T,(List.set x0_co (Int.toNat x1) g))
def Qh0(n:Nat)(x0_t:Qm)(x0_done:(List Qa))(x0_co:(List Qa))(x0_grad_T:Qa)(x0_grad_Y:(List Qa))(x0_grad_P:(List Qa))(x1:Qv)(x2:Qa)(x3:Qa):Option (Qm×(List Qa)×Qa×(List Qa)):=(getI x0_done x1.B).bind λy1=>(Qcf n x2 y1).bind λv=>(J1 n x0_t x0_done x0_co x0_grad_T x0_grad_Y x0_grad_P x1.A v.1).bind λu=>(W5 n v.1 x3).bind λr7=>(Qe4 n r7).bind λr9=>(J1 n u.1 u.2.1 u.2.2.2 u.2.2.1 x0_grad_Y x0_grad_P x1.B r9).bind λg=>some (g.1,g.2.1,g.2.2.1,g.2.2.2)
def Qh1(n:Nat)(x0_t:Qm)(x0_done:(List Qa))(x0_co:(List Qa))(x0_grad_T:Qa)(x0_grad_Y:(List Qa))(x0_grad_P:(List Qa))(x1:Qv)(x2:Qa)(x3:Qa):Option (Qm×(List Qa)×Qa×(List Qa)):=(Ko n (0:Int)).bind λr1=>jn (λ(u:(Qa)->Option _)=>bif decide ((0:Int)<x1.B) then((getI x0_done x1.A).bind λa5=>(Qhz n a5 (wrap64 (x1.B - (1:Int)))).bind λv=>u v.1)else(bif decide (x1.B<(0:Int)) then((getI x0_done x1.A).bind λa6=>(Qcf n x3 a6).bind λa0=>u a0.1)else(u r1))) (λ(a4:Qa)=>(Ko n x1.B).bind λa1=>(W5 n a1 a4).bind λa2=>(W5 n x2 a2).bind λa3=>(J1 n x0_t x0_done x0_co x0_grad_T x0_grad_Y x0_grad_P x1.A a3).bind λg=>some (g.1,g.2.1,g.2.2.1,g.2.2.2))
def Zz(n:Nat)(x0_t:Qm)(x0_done:(List Qa))(x0_co:(List Qa))(x0_grad_T:Qa)(x0_grad_Y:(List Qa))(x0_grad_P:(List Qa))(x1:Int):Option (Qm×(List Qa)×Qa×(List Qa)×(List Qa)×(List Qa)):=(getI x0_t.Code x1).bind λg=>(getI x0_co x1).bind λu=>(Qba n u).bind λr5=>bif decide (r5=(0:Int)) then(some (x0_t,x0_done,x0_grad_T,x0_co,x0_grad_Y,x0_grad_P))else(bif decide (g.Op=(2:Int)) then((Vy n x0_grad_T u).bind λr7=>some (x0_t,x0_done,r7,x0_co,x0_grad_Y,x0_grad_P))else(bif decide (g.Op=(3:Int)) then((getI x0_grad_Y g.A).bind λy9=>(Vy n y9 u).bind λa8=>(getI x0_grad_Y g.A).bind λ_=>some (x0_t,x0_done,x0_grad_T,x0_co,(List.set x0_grad_Y (Int.toNat g.A) a8),x0_grad_P))else(bif decide (g.Op=(4:Int)) then((getI x0_grad_P g.A).bind λb4=>(Vy n b4 u).bind λa9=>(getI x0_grad_P g.A).bind λ_=>some (x0_t,x0_done,x0_grad_T,x0_co,x0_grad_Y,(List.set x0_grad_P (Int.toNat g.A) a9)))else(bif decide (g.Op=(6:Int)) then((Qe4 n u).bind λb0=>(J1 n x0_t x0_done x0_co x0_grad_T x0_grad_Y x0_grad_P g.A b0).bind λa0=>some (a0.1,a0.2.1,a0.2.2.1,a0.2.2.2,x0_grad_Y,x0_grad_P))else(bif decide (g.Op=(7:Int)) then((J1 n x0_t x0_done x0_co x0_grad_T x0_grad_Y x0_grad_P g.A u).bind λa1=>(J1 n a1.1 a1.2.1 a1.2.2.2 a1.2.2.1 x0_grad_Y x0_grad_P g.B u).bind λa2=>some (a2.1,a2.2.1,a2.2.2.1,a2.2.2.2,x0_grad_Y,x0_grad_P))else(bif decide (g.Op=(8:Int)) then((J1 n x0_t x0_done x0_co x0_grad_T x0_grad_Y x0_grad_P g.A u).bind λa3=>(Qe4 n u).bind λb1=>(J1 n a3.1 a3.2.1 a3.2.2.2 a3.2.2.1 x0_grad_Y x0_grad_P g.B b1).bind λa4=>some (a4.1,a4.2.1,a4.2.2.1,a4.2.2.2,x0_grad_Y,x0_grad_P))else(bif decide (g.Op=(9:Int)) then((getI x0_done g.B).bind λb5=>(W5 n u b5).bind λb2=>(J1 n x0_t x0_done x0_co x0_grad_T x0_grad_Y x0_grad_P g.A b2).bind λv=>(getI v.2.1 g.A).bind λb6=>(W5 n u b6).bind λb3=>(J1 n v.1 v.2.1 v.2.2.2 v.2.2.1 x0_grad_Y x0_grad_P g.B b3).bind λa5=>some (a5.1,a5.2.1,a5.2.2.1,a5.2.2.2,x0_grad_Y,x0_grad_P))else(bif decide (g.Op=(10:Int)) then((getI x0_done x1).bind λb7=>(Qh0 n x0_t x0_done x0_co x0_grad_T x0_grad_Y x0_grad_P g u b7).bind λa6=>some (a6.1,a6.2.1,a6.2.2.1,a6.2.2.2,x0_grad_Y,x0_grad_P))else(bif decide (g.Op=(11:Int)) then((getI x0_done x1).bind λb8=>(Qh1 n x0_t x0_done x0_co x0_grad_T x0_grad_Y x0_grad_P g u b8).bind λa7=>some (a7.1,a7.2.1,a7.2.2.1,a7.2.2.2,x0_grad_Y,x0_grad_P))else(some (x0_t,x0_done,x0_grad_T,x0_co,x0_grad_Y,x0_grad_P)))))))))))
def Qpi(x0:V8):Option ((List Qa)):=(appM 56 ([x0.T]:List Qa) x0.Y).bind λg=>(appM 56 g x0.P).bind λu=>some u
def Qnh(n:Nat)(x0:Qm)(x1:V3)(x2:(List Qa))(x3:Int):Option (V8×Qe):=(Qk1 n (0:Int) (0:Int)).bind λu=>bif !decide ((x2.length:Int)=(x0.Az.length:Int)) then(some ((⟨u.1,u.2.1,u.2.2⟩:V8),(⟨(2:Int),0,0,0⟩:Qe)))else((Qka n x0 x1 x3).bind λr3=>bif !(Qs r3.2 (⟨0,0,0,0⟩:Qe)) then(some ((⟨u.1,u.2.1,u.2.2⟩:V8),r3.2))else((mkM 56 ((⟨(⟨false,[]⟩:Qi),[]⟩:Qa):Qa) (r3.1.length:Int)).bind λy5=>(Qk1 n x0.A0 x0.A3).bind λr7=>(rangeL (λ(a8:Nat) (b2:Int) (a2:Qm×(List Qa)×(List Qa)×Qa)=>(getI x2 (a8:Int)).bind λb3=>(J1 n a2.1 a2.2.1 a2.2.2.1 a2.2.2.2 r7.2.1 r7.2.2 b2 b3).bind λa1=>some (Lp.go (a1.1,a1.2.1,a1.2.2.2,a1.2.2.1))) x0.Az 0 (x0,r3.1,y5,r7.1)).bind (lpK λ(a3:Qm×(List Qa)×(List Qa)×Qa)=>(X9 x3).bind λa9=>(loopM (λ(g:Qm×(List Qa)×(List Qa)×Qa×(List Qa)×(List Qa)×Qk×Int)=>bif decide ((0:Int)<=g.2.2.2.2.2.2.2) then((getI g.2.2.1 g.2.2.2.2.2.2.2).bind λb4=>(Vr n b4).bind λb0=>(Wa n g.2.2.2.2.2.2.1 b0).bind λa6=>bif !a6.1 then(some (Lp.out (Lp.out (((⟨u.1,u.2.1,u.2.2⟩:V8),(⟨(6:Int),0,(2:Int),g.2.2.2.2.2.2.2⟩:Qe))))))else((Zz n g.1 g.2.1 g.2.2.1 g.2.2.2.1 g.2.2.2.2.1 g.2.2.2.2.2.1 g.2.2.2.2.2.2.2).bind λa0=>some (Lp.go (a0.1,a0.2.1,a0.2.2.2.1,a0.2.2.1,a0.2.2.2.2.1,a0.2.2.2.2.2,a6.2,wrap64 (g.2.2.2.2.2.2.2 - (1:Int))))))else(some (Lp.out (Lp.go (g.1,g.2.1,g.2.2.1,g.2.2.2.1,g.2.2.2.2.1,g.2.2.2.2.2.1,g.2.2.2.2.2.2.1))))) n (a3.1,a3.2.1,a3.2.2.1,a3.2.2.2,r7.2.1,r7.2.2,a9,wrap64 ((r3.1.length:Int) - (1:Int)))).bind (lpK λ(v:Qm×(List Qa)×(List Qa)×Qa×(List Qa)×(List Qa)×Qk)=>(Qpi (⟨v.2.2.2.1,v.2.2.2.2.1,v.2.2.2.2.2.1⟩:V8)).bind λb1=>(Xr n v.2.2.2.2.2.2 b1).bind λa7=>bif !a7.2.1 then(some ((⟨u.1,u.2.1,u.2.2⟩:V8),(⟨(6:Int),0,(3:Int),a7.1⟩:Qe)))else(some ((⟨v.2.2.2.1,v.2.2.2.2.1,v.2.2.2.2.2.1⟩:V8),(⟨0,0,0,0⟩:Qe)))))))
def Qmk(n:Nat)(x0:J3)(x1:J3):Option (J3×Bool):=(Qbo n ([x0.Y,x1.Y]:List (List Qa))).bind λu=>(Qbo n ([x0.P,x1.P]:List (List Qa))).bind λv=>jn (λ(g:(Bool)->Option _)=>bif !u.2 then(g true)else(g (!v.2))) (λ(s7:Bool)=>bif s7 then(some ((⟨[],[]⟩:J3),false))else(some ((⟨u.1,v.1⟩:J3),true)))
def Qak(n:Nat)(x0_p:Qg)(x0_t:Qa)(x0_h:Qa)(x0_w:(List Qa))(x0_made:Jk)(x0_ys:(List (List Qa)))(x0_sum:J3)(x0_g:Qk)(x1:Int):Option (Qe×Qg×Qa×Qa×(List Qa)×Jk×J3×(List (List Qa))×Qk):=(Qb3 n x0_p x0_t x0_h x0_w x0_made x0_ys x0_sum x0_g x1).bind λv=>(Xs n x0_p x0_t x0_h x0_w x0_made x0_ys x0_sum x0_g v x1).bind λu=>bif !(Qs u.1 (⟨0,0,0,0⟩:Qe)) then(some (u.1,x0_p,x0_t,x0_h,x0_w,x0_made,x0_sum,x0_ys,u.2))else((Qfu n x0_p x0_t x0_h x1).bind λr5=>(getI x0_made.Ys x1).bind λy7=>(Qnh n x0_p.Tape (⟨r5,y7,x0_p.P⟩:V3) v x0_p.Ay).bind λg=>bif !(Qs g.2 (⟨0,0,0,0⟩:Qe)) then(some ((⟨g.2.Ax,g.2.Ba,x1,g.2.At⟩:Qe),x0_p,x0_t,x0_h,x0_w,x0_made,x0_sum,x0_ys,u.2))else((getI x0_ys x1).bind λ_=>(Qmk n x0_sum (⟨g.1.Y,g.1.P⟩:J3)).bind λa0=>some (g.2,x0_p,x0_t,x0_h,x0_w,x0_made,a0.1,(List.set x0_ys (Int.toNat x1) g.1.Y),u.2)))
def Qdm(n:Nat)(x0_p:Qg)(x0_t:Qa)(x0_h:Qa)(x0_w:(List Qa))(x0_made:Jk)(x0_ys:(List (List Qa)))(x0_sum:J3)(x0_g:Qk):Option (Qe×Qg×Qa×Qa×(List Qa)×Jk×J3×(List (List Qa))×Qk):=(loopM (λ(u:Qg×Qa×Qa×(List Qa)×Jk×(List (List Qa))×J3×Qk×Int)=>bif decide ((0:Int)<=u.2.2.2.2.2.2.2.2) then((Qak n u.1 u.2.1 u.2.2.1 u.2.2.2.1 u.2.2.2.2.1 u.2.2.2.2.2.1 u.2.2.2.2.2.2.1 u.2.2.2.2.2.2.2.1 u.2.2.2.2.2.2.2.2).bind λv=>bif !(Qs v.1 (⟨0,0,0,0⟩:Qe)) then(some (Lp.out (Lp.out ((v.1,v.2.1,v.2.2.1,v.2.2.2.1,v.2.2.2.2.1,v.2.2.2.2.2.1,v.2.2.2.2.2.2.1,v.2.2.2.2.2.2.2.1,v.2.2.2.2.2.2.2.2)))))else(some (Lp.go (v.2.1,v.2.2.1,v.2.2.2.1,v.2.2.2.2.1,v.2.2.2.2.2.1,v.2.2.2.2.2.2.2.1,v.2.2.2.2.2.2.1,v.2.2.2.2.2.2.2.2,wrap64 (u.2.2.2.2.2.2.2.2 - (1:Int))))))else(some (Lp.out (Lp.go (u.1,u.2.1,u.2.2.1,u.2.2.2.1,u.2.2.2.2.1,u.2.2.2.2.2.1,u.2.2.2.2.2.2.1,u.2.2.2.2.2.2.2.1))))) n (x0_p,x0_t,x0_h,x0_w,x0_made,x0_ys,x0_sum,x0_g,wrap64 ((x0_p.Av.B.length:Int) - (1:Int)))).bind (lpK λ(g:Qg×Qa×Qa×(List Qa)×Jk×(List (List Qa))×J3×Qk)=>(Xs n g.1 g.2.1 g.2.2.1 g.2.2.2.1 g.2.2.2.2.1 g.2.2.2.2.2.1 g.2.2.2.2.2.2.1 g.2.2.2.2.2.2.2 g.2.2.2.2.2.2.1.Y (x0_p.Av.B.length:Int)).bind λa0=>bif !(Qs a0.1 (⟨0,0,0,0⟩:Qe)) then(some (a0.1,g.1,g.2.1,g.2.2.1,g.2.2.2.1,g.2.2.2.2.1,g.2.2.2.2.2.2.1,g.2.2.2.2.2.1,a0.2))else((Xs n g.1 g.2.1 g.2.2.1 g.2.2.2.1 g.2.2.2.2.1 g.2.2.2.2.2.1 g.2.2.2.2.2.2.1 a0.2 g.2.2.2.2.2.2.1.P (wrap64 ((x0_p.Av.B.length:Int)+(1:Int)))).bind λa1=>some (a1.1,g.1,g.2.1,g.2.2.1,g.2.2.2.1,g.2.2.2.2.1,g.2.2.2.2.2.2.1,g.2.2.2.2.2.1,a1.2)))
def Qax(x0_l:(List Qx)):Option (Qx×Bool):=bif decide ((x0_l.length:Int)=(0:Int)) then ( some ((⟨0,0⟩:Qx),false)) else ( (getI x0_l (wrap64 ((x0_l.length:Int) - (1:Int)))).bind λg=>some (g,true))
def K7(x0_l:(List Qx)):Option (Qx×Bool×(List Qx)):=(Qax x0_l).bind λg=>jn (λ(u:((List Qx))->Option _)=>bif g.2 then((getI x0_l (wrap64 ((x0_l.length:Int) - (1:Int)))).bind λ_=>(sub (List.set x0_l (Int.toNat (wrap64 ((x0_l.length:Int) - (1:Int)))) (⟨0,0⟩:Qx)) (0:Int) (wrap64 (((List.set x0_l (Int.toNat (wrap64 ((x0_l.length:Int) - (1:Int)))) (⟨0,0⟩:Qx)).length:Int) - (1:Int)))).bind λa0=>(some (((List.set x0_l (Int.toNat (wrap64 ((x0_l.length:Int) - (1:Int)))) (⟨0,0⟩:Qx)).length:Int))).bind λ_=>(some (wrap64 (((List.set x0_l (Int.toNat (wrap64 ((x0_l.length:Int) - (1:Int)))) (⟨0,0⟩:Qx)).length:Int) - (1:Int)))).bind λ_=>u a0)else(u x0_l)) (λ(v:(List Qx))=>some (g.1,g.2,v))
def Yp(x0_l:(List Qx))(x1:(List Qx)):Option ((List Qx)):=(appM 16 x0_l x1).bind λg=>some g
def Qc1(n:Nat)(_:Qg)(x0_kept:Vq)(_:(List Qa))(_:(List Qa))(_:Qk)(x1:Qx):Option ((List Qa)):=(grd (x0_kept.A9 != 0)).bind λ_=>(getI x0_kept.Ts (wrap64 (Int.tdiv x1.From x0_kept.A9))).bind λy2=>(sub x0_kept.A5 x1.From x1.To).bind λy4=>(rangeL (λ(_:Nat) (a0:Qa) (g:Qa×(List Qa))=>(appM 56 g.2 ([g.1]:List Qa)).bind λa1=>(Vy n g.1 a0).bind λu=>some (Lp.go (u,a1))) y4 0 (y2,([]:List Qa))).bind (lpK λ(v:Qa×(List Qa))=>some v.2)
def Qge(x0:Int):Option (Int):=some (min (max x0 (1:Int)) (200:Int))
def Qfe(n:Nat)(x0:Int)(x1:Int):Option ((List Int)):=jn (λ(u:(Bool)->Option _)=>bif decide (x0<(1:Int)) then(u true)else(u (decide ((200:Int)<x0)))) (λ(s3:Bool)=>bif s3 then(some ([]:List Int))else((loopM (λ(g:(List Int)×Int)=>bif decide (g.2<x0) then((appM 8 g.1 ([g.2]:List Int)).bind λa1=>(Qge x1).bind λv=>some (Lp.go (a1,wrap64 (g.2+v))))else(some (Lp.out g.1))) n (([]:List Int),(0:Int))).bind λ(a0:(List Int))=>some a0))
def Qlv(n:Nat)(x0:Vq):Option (Bool):=(rangeL (λ(_:Nat) (a2:Qa) (_:Unit)=>(Qba n a2).bind λv=>bif decide (v<=(0:Int)) then(some (Lp.out (false)))else(some (Lp.go ()))) x0.A5 0 ()).bind (lpK λ(_:Unit)=>(Qfe n (x0.A5.length:Int) x0.A9).bind λu=>jn (λ(g:(Bool)->Option _)=>(Qge x0.A9).bind λa0=>bif decide (x0.A9=a0) then(bif decide ((x0.A5.length:Int)<=(200:Int)) then(bif decide ((x0.Ts.length:Int)=(u.length:Int)) then(g (decide ((x0.Ys.length:Int)=(u.length:Int))))else(g false))else(g false))else(g false)) (λ(a1:Bool)=>some a1))
def Qd6(n:Nat)(x0:Int)(x1:Int):Option ((List Qx)):=(Qfe n x0 x1).bind λr1=>(rangeL (λ(_:Nat) (a0:Int) (a3:(List Qx))=>(Qge x1).bind λa1=>(some (([(⟨a0,min (wrap64 (a0+a1)) x0⟩:Qx)]:List Qx))).bind λa7=>(Yp a3 a7).bind λa2=>some (Lp.go a2)) r1 0 ([]:List Qx)).bind (lpK λ(a4:(List Qx))=>(K7 a4).bind λu=>(loopM (λ(g:(List Qx)×(List Qx)×Qx×Bool)=>bif g.2.2.2 then((appM 16 g.2.1 ([g.2.2.1]:List Qx)).bind λa6=>(K7 g.1).bind λv=>some (Lp.go (v.2.2,a6,v.1,v.2.1)))else(some (Lp.out g.2.1))) n (u.2.2,([]:List Qx),u.1,u.2.1)).bind λ(a5:(List Qx))=>some a5)
def Qlw(n:Nat)(x0:Vq)(x1:Qx):Option (Bool):=(Qd6 n (x0.A5.length:Int) x0.A9).bind λu=>(rangeL (λ(_:Nat) (g:Qx) (_:Unit)=>bif (Qe0 g x1) then(some (Lp.out (true)))else(some (Lp.go ()))) u 0 ()).bind (lpK λ(_:Unit)=>some false)
def Qni(n:Nat)(x0:Qg)(x1:Vq)(x2:Qx):Option ((List (List Qa))×Qe):=jn (λ(j7:(Bool)->Option _)=>(Qc0 n x0).bind λa4=>bif !a4 then(j7 true)else((Qlv n x1).bind λa5=>bif !a5 then(j7 true)else((Qlw n x1 x2).bind λa6=>j7 (!a6)))) (λ(s9:Bool)=>bif s9 then(some (([]:List (List Qa)),(⟨(2:Int),0,0,0⟩:Qe)))else((grd (x1.A9 != 0)).bind λ_=>(getI x1.Ts (wrap64 (Int.tdiv x2.From x1.A9))).bind λb0=>(grd (x1.A9 != 0)).bind λ_=>(getI x1.Ys (wrap64 (Int.tdiv x2.From x1.A9))).bind λa1=>bif !decide ((a1.length:Int)=x0.Tape.A0) then(some (([]:List (List Qa)),(⟨(2:Int),0,0,0⟩:Qe)))else((Ko n (1:Int)).bind λa7=>(Yo n a7 a1).bind λv=>(sub x1.A5 x2.From (wrap64 (x2.To - (1:Int)))).bind λb1=>(rangeL (λ(a3:Nat) (a0:Qa) (u:Qa×(List Qa)×(List (List Qa)))=>(Qgq n x0 u.1 a0 u.2.1).bind λg=>bif !(Qs g.2 (⟨0,0,0,0⟩:Qe)) then(some (Lp.out ((([]:List (List Qa)),(⟨g.2.Ax,wrap64 ((wrap64 (x2.From+(a3:Int)))+(1:Int)),g.2.A4,g.2.At⟩:Qe)))))else((Vy n u.1 a0).bind λa8=>(appM 24 u.2.2 ([g.1.Next]:List (List Qa))).bind λb2=>some (Lp.go (a8,g.1.Next,b2)))) b1 0 (b0,v,([v]:List (List Qa)))).bind (lpK λ(a9:Qa×(List Qa)×(List (List Qa)))=>some (a9.2.2,(⟨0,0,0,0⟩:Qe))))))
def Qzk(x0:Int):Option (Int):=some x0
def Qjf(n:Nat)(x0:Qg)(x1:Qa)(x2:Qa)(x3:(List Qa))(x4:(List Qa)):Option (J3×Qe):=(Qgq n x0 x1 x2 x3).bind λu=>jn (λ(v:(Bool)->Option _)=>bif decide (u.2.Ax=(2:Int)) then(v true)else(v (!decide ((x4.length:Int)=(x3.length:Int))))) (λ(s5:Bool)=>bif s5 then(some ((⟨[],[]⟩:J3),(⟨(2:Int),0,0,0⟩:Qe)))else(bif !(Qs u.2 (⟨0,0,0,0⟩:Qe)) then(some ((⟨[],[]⟩:J3),u.2))else((Qdf n (x4.length:Int)).bind λr6=>(Qmk n (⟨x4,([]:List Qa)⟩:J3) (⟨r6,([]:List Qa)⟩:J3)).bind λr8=>(mkM 24 ([]:(List Qa)) (x0.Av.B.length:Int)).bind λa2=>(X9 x0.Ay).bind λa0=>(Qdf n (x0.P.length:Int)).bind λa1=>(Qdm n x0 x1 x2 x4 u.1 a2 (⟨r8.1.Y,a1⟩:J3) a0).bind λg=>bif !(Qs g.1 (⟨0,0,0,0⟩:Qe)) then(some ((⟨[],[]⟩:J3),g.1))else(some (g.2.2.2.2.2.2.1,(⟨0,0,0,0⟩:Qe))))))
def Qcy(n:Nat)(x0_p:Qg)(x0_kept:Vq)(x0_w:(List Qa))(x0_sum:(List Qa))(x0_g:Qk)(x1:Int)(x2:Qa)(x3:(List Qa)):Option (Qe×Qg×Vq×(List Qa)×(List Qa)×Qk):=(getI x0_kept.A5 x1).bind λy1=>(Qjf n x0_p x2 y1 x3 x0_w).bind λg=>bif !(Qs g.2 (⟨0,0,0,0⟩:Qe)) then(some ((⟨g.2.Ax,wrap64 (x1+(1:Int)),g.2.A4,g.2.At⟩:Qe),x0_p,x0_kept,x0_w,x0_sum,x0_g))else((Qbo n ([x0_sum,g.1.P]:List (List Qa))).bind λv=>(Xr n x0_g v.1).bind λu=>bif !u.2.1 then(some ((⟨(6:Int),wrap64 (x1+(1:Int)),(10:Int),wrap64 ((300:Int)+u.1)⟩:Qe),x0_p,x0_kept,g.1.Y,v.1,u.2.2))else(some (g.2,x0_p,x0_kept,g.1.Y,v.1,u.2.2)))
def Qbb(n:Nat)(x0_p:Qg)(x0_kept:Vq)(x0_w:(List Qa))(x0_sum:(List Qa))(x0_g:Qk)(x1:Qx):Option (Qe×Qg×Vq×(List Qa)×(List Qa)×Qk):=(Qni n x0_p x0_kept x1).bind λr1=>bif !(Qs r1.2 (⟨0,0,0,0⟩:Qe)) then(some (r1.2,x0_p,x0_kept,x0_w,x0_sum,x0_g))else((Qc1 n x0_p x0_kept x0_w x0_sum x0_g x1).bind λr3=>(rangeN (λ(a1:Nat) (v:Qg×Vq×(List Qa)×(List Qa)×Qk)=>(getI r3 (a1:Int)).bind λa3=>(getI r1.1 (a1:Int)).bind λa4=>(Qcy n v.1 v.2.1 v.2.2.1 v.2.2.2.1 v.2.2.2.2 (wrap64 (x1.From+(a1:Int))) a3 a4).bind λg=>bif !(Qs g.1 (⟨0,0,0,0⟩:Qe)) then(some (Lp.out (g.2.1,g.2.2.1,g.2.2.2.1,g.2.2.2.2.1,g.2.2.2.2.2,g.1)))else(some (Lp.go (g.2.1,g.2.2.1,g.2.2.2.1,g.2.2.2.2.1,g.2.2.2.2.2)))) (wrap64 (x1.To - x1.From)) (x0_p,x0_kept,x0_w,x0_sum,x0_g)).bind (rfK (λ(a0:Qg×Vq×(List Qa)×(List Qa)×Qk)=>some (r1.2,a0.1,a0.2.1,a0.2.2.1,a0.2.2.2.1,a0.2.2.2.2)) (λ(u:Qg×Vq×(List Qa)×(List Qa)×Qk×Qe)=>some (u.2.2.2.2.2,u.1,u.2.1,u.2.2.1,u.2.2.2.1,u.2.2.2.2.1))))
def Qcg(x0:Q9):Option ((List Qa)):=some ([x0.T,x0.A1,x0.H,x0.A8]:List Qa)
def Qfv(n:Nat)(x0:(List (List Qa))):Option (Bool):=(rangeL (λ(_:Nat) (u:(List Qa)) (_:Unit)=>(rangeL (λ(_:Nat) (v:Qa) (_:Unit)=>(Z9 n v).bind λg=>bif !g then(some (Lp.out (Lp.out (false))))else(some (Lp.go ()))) u 0 ()).bind (lpK λ(_:Unit)=>some (Lp.go ()))) x0 0 ()).bind (lpK λ(_:Unit)=>some true)
def Qlx(n:Nat)(x0:Qt):Option (Bool):=(rangeL (λ(_:Nat) (g:Q9) (_:Unit)=>(Qcg g).bind λu=>(Qfv n ([u,g.Y]:List (List Qa))).bind λv=>bif !v then(some (Lp.out (false)))else(some (Lp.go ()))) x0.Aw 0 ()).bind (lpK λ(_:Unit)=>(Qfv n ([([x0.T]:List Qa),x0.Y]:List (List Qa))).bind λa0=>some a0)
def Qjg(x0:Qt):Option (Bool):=(rangeL (λ(_:Nat) (v:Q9) (_:Unit)=>bif !decide ((v.Y.length:Int)=(x0.Y.length:Int)) then(some (Lp.out (false)))else(some (Lp.go ()))) x0.Aw 0 ()).bind (lpK λ(_:Unit)=>jn (λ(g:(Bool)->Option _)=>bif decide ((1:Int)<=(x0.Y.length:Int)) then(g (decide ((x0.Y.length:Int)<=(6:Int))))else(g false)) (λ(u:Bool)=>some u))
def Qly(n:Nat)(x0:Qt):Option (Bool):=(rangeL (λ(_:Nat) (g:Q9) (_:Unit)=>jn (λ(u:(Bool)->Option _)=>(Qba n g.A1).bind λv=>bif decide (v<=(0:Int)) then(u true)else((Qba n g.H).bind λa0=>bif decide (a0<=(0:Int)) then(u true)else((Qj8 n g.H g.A1).bind λa1=>bif decide ((0:Int)<a1) then(u true)else((Qba n g.A8).bind λa2=>u (decide (a2<(0:Int))))))) (λ(a3:Bool)=>bif a3 then(some (Lp.out (false)))else(some (Lp.go ())))) x0.Aw 0 ()).bind (lpK λ(_:Unit)=>some true)
def Qkc(n:Nat)(x0:(List Qa))(x1:(List Qa)):Option (Bool):=bif !decide ((x0.length:Int)=(x1.length:Int)) then(some false)else((rangeL (λ(g:Nat) (v:Qa) (_:Unit)=>(getI x1 (g:Int)).bind λa0=>(Qa9 n v a0).bind λu=>bif !u then(some (Lp.out (false)))else(some (Lp.go ()))) x0 0 ()).bind (lpK λ(_:Unit)=>some true))
def Qml(n:Nat)(x0:Q9)(x1:Qa)(x2:(List Qa)):Option (Bool):=bif x0.Ok then((Vy n x0.T x0.H).bind λr1=>(Qa9 n x1 r1).bind λr3=>some r3)else(jn (λ(g:(Bool)->Option _)=>(Qa9 n x1 x0.T).bind λu=>bif u then((Qkc n x2 x0.Y).bind λv=>g v)else(g false)) (λ(a0:Bool)=>some a0))
def Qlz(n:Nat)(x0:Qt):Option (Bool):=(rangeL (λ(g:Nat) (a1:Q9) (_:Unit)=>jn (λ(u:(Qa×(List Qa))->Option _)=>bif decide ((wrap64 ((g:Int)+(1:Int)))<(x0.Aw.length:Int)) then((getI x0.Aw (wrap64 ((g:Int)+(1:Int)))).bind λa2=>(getI x0.Aw (wrap64 ((g:Int)+(1:Int)))).bind λa3=>u (a2.T,a3.Y))else(u (x0.T,x0.Y))) (λ(v:Qa×(List Qa))=>(Qml n a1 v.1 v.2).bind λa0=>bif !a0 then(some (Lp.out (false)))else(some (Lp.go ())))) x0.Aw 0 ()).bind (lpK λ(_:Unit)=>some true)
def Qpj(n:Nat)(x0:Qt):Option (Int):=(Qlx n x0).bind λg=>bif !g then(some (1:Int))else((Qjg x0).bind λu=>bif !u then(some (2:Int))else(bif decide ((200:Int)<(x0.Aw.length:Int)) then(some (3:Int))else((Qly n x0).bind λv=>bif !v then(some (4:Int))else((Qlz n x0).bind λr7=>bif !r7 then(some (5:Int))else(some (0:Int))))))
def Qjh(n:Nat)(x0:Qt):Option (Bool):=(Qpj n x0).bind λg=>some (decide (g=(0:Int)))
def Qfw(n:Nat)(x0:(List Qa)):Option ((List Qa)):=(Ko n (1:Int)).bind λg=>(Yo n g x0).bind λu=>some u
def Qd7(n:Nat)(x0:Qt):Option ((List Q9)):=(rangeL (λ(_:Nat) (u:Q9) (v:(List Q9))=>bif u.Ok then((Qcg u).bind λa0=>(Qfw n a0).bind λg=>(getI g (0:Int)).bind λa3=>(getI g (1:Int)).bind λa4=>(getI g (2:Int)).bind λa5=>(getI g (3:Int)).bind λa6=>(Qfw n u.Y).bind λa1=>(appM 256 v ([(⟨a3,a4,a5,a6,a1,true⟩:Q9)]:List Q9)).bind λa7=>some (Lp.go a7))else(some (Lp.go v))) x0.Aw 0 ([]:List Q9)).bind (lpK λ(a2:(List Q9))=>some a2)
def Qqr(n:Nat)(x0:(List UInt8)):Option (Int):=(loopM (λ(g:Int)=>bif decide (g<(x0.length:Int)) then(jn (λ(u:(Bool)->Option _)=>(getS x0 g).bind λa0=>bif decide (a0<48) then(u true)else((getS x0 g).bind λa1=>bif decide (57<a1) then(u true)else(u (decide (g=(60:Int)))))) (λ(v:Bool)=>bif v then(some (Lp.out (Lp.out (g))))else(some (Lp.go (wrap64 (g+(1:Int)))))))else(some (Lp.out (Lp.go ())))) n (0:Int)).bind (lpK λ(_:Unit)=>bif decide (x0=([]:List UInt8)) then(some (0:Int))else(some (-1:Int)))
def Qv0(n:Nat)(x0:(List Nat))(x1:Nat)(x2:Nat):Option ((List Nat)):=(mkM 4 (0:Nat) (wrap64 ((x0.length:Int)+(1:Int)))).bind λv=>(Qht v (0:Int) x0 x1 x2).bind λg=>(X6 n g).bind λu=>some u
def Qn4(n:Nat)(x0:(List UInt8)):Option ((List Nat)×Qe):=(Qqr n x0).bind λr1=>bif decide ((0:Int)<=r1) then(some (([]:List Nat),(⟨(1:Int),0,0,r1⟩:Qe)))else((loopM (λ(u:(List Nat)×Int)=>bif decide (u.2<(x0.length:Int)) then((loopM (λ(g:Int×Nat×Nat×Int)=>jn (λ(a0:(Bool)->Option _)=>bif decide (g.2.2.2<(9:Int)) then(a0 (decide (g.1<(x0.length:Int))))else(a0 false)) (λ(a3:Bool)=>bif a3 then((getS x0 g.1).bind λa5=>(some (((((g.2.1*10)%4294967296)+((a5+256 - 48)%256))%4294967296))).bind λa6=>some (Lp.go (wrap64 (g.1+(1:Int)),a6,((g.2.2.1*10)%4294967296),wrap64 (g.2.2.2+(1:Int)))))else(some (Lp.out (g.1,g.2.1,g.2.2.1))))) n (u.2,0,1,(0:Int))).bind λ(v:Int×Nat×Nat)=>(Qv0 n u.1 v.2.2 v.2.1).bind λa2=>some (Lp.go (a2,v.1)))else(some (Lp.out u.1))) n (([]:List Nat),(0:Int))).bind λ(a4:(List Nat))=>some (a4,(⟨0,0,0,0⟩:Qe)))
def Qrz(n:Nat)(x0:Nat):Option ((List UInt8)):=(loopM (λ(g:Nat×Qoo×Int)=>bif decide ((0:Int)<=g.2.2) then((getI ([g.2.1.a0,g.2.1.a1,g.2.1.a2,g.2.1.a3,g.2.1.a4,g.2.1.a5,g.2.1.a6,g.2.1.a7,g.2.1.a8]:List Nat) g.2.2).bind λ_=>some (Lp.go ((g.1 / 10),(Q0j (List.set ([g.2.1.a0,g.2.1.a1,g.2.1.a2,g.2.1.a3,g.2.1.a4,g.2.1.a5,g.2.1.a6,g.2.1.a7,g.2.1.a8]:List Nat) (Int.toNat g.2.2) (((48+(g.1%10))%4294967296)%256))),wrap64 (g.2.2 - (1:Int)))))else(some (Lp.out g.2.1))) n (x0,(⟨0,0,0,0,0,0,0,0,0⟩:Qoo),(8:Int))).bind λ(u:Qoo)=>(some (([u.a0,u.a1,u.a2,u.a3,u.a4,u.a5,u.a6,u.a7,u.a8]:List Nat))).bind λv=>some (bS v)
def Qn5(n:Nat)(x0:(List Nat)):Option ((List UInt8)):=(Qgc n x0).bind λr1=>bif r1 then(some ([48]:List UInt8))else((loopM (λ(u:(List Nat)×(List (List UInt8)))=>(Qgc n u.1).bind λa1=>bif !a1 then((Qky n u.1 1000000000).bind λv=>(Qrz n v.2.1).bind λa2=>(appM 16 u.2 ([a2]:List (List UInt8))).bind λa5=>some (Lp.go (v.1,a5)))else(some (Lp.out u.2))) n (x0,([]:List (List UInt8)))).bind λ(a0:(List (List UInt8)))=>(loopM (λ(g:(List UInt8)×Int)=>bif decide ((0:Int)<=g.2) then((getI a0 g.2).bind λa6=>(appM 1 g.1 a6).bind λa7=>some (Lp.go (a7,wrap64 (g.2 - (1:Int)))))else(some (Lp.out g.1))) n (([]:List UInt8),wrap64 ((a0.length:Int) - (1:Int)))).bind λ(a4:(List UInt8))=>(Qlk a4 ([48]:List UInt8)).bind λa3=>some a3)
def Qji(n:Nat)(x0:Qt):Option ((List Qa)):=(Qd7 n x0).bind λr1=>(rangeL (λ(_:Nat) (v:Q9) (g:(List Qa))=>(appM 56 g ([v.H]:List Qa)).bind λa0=>some (Lp.go a0)) r1 0 ([]:List Qa)).bind (lpK λ(u:(List Qa))=>some u)
def Ql0(n:Nat)(x0:Qt):Option ((List Qa)×(List (List Qa))):=(Qd7 n x0).bind λr1=>(rangeL (λ(_:Nat) (v:Q9) (g:(List Qa)×(List (List Qa)))=>(appM 56 g.1 ([v.T]:List Qa)).bind λa2=>(appM 24 g.2 ([v.Y]:List (List Qa))).bind λa3=>some (Lp.go (a2,a3))) r1 0 (([]:List Qa),([]:List (List Qa)))).bind (lpK λ(u:(List Qa)×(List (List Qa)))=>(Vr n x0.T).bind λa0=>(appM 56 u.1 ([a0]:List Qa)).bind λa4=>(Qfw n x0.Y).bind λa1=>(appM 24 u.2 ([a1]:List (List Qa))).bind λa5=>some (a4,a5))
def Qro(n:Nat)(x0:Qt)(x1:Int):Option (Vq):=(Qge x1).bind λr1=>(Qji n x0).bind λr3=>(Ql0 n x0).bind λr5=>(Qfe n (r3.length:Int) x1).bind λr7=>(rangeL (λ(_:Nat) (v:Int) (g:(List Qa)×(List (List Qa)))=>(getI r5.1 v).bind λa2=>(appM 56 g.1 ([a2]:List Qa)).bind λa3=>(getI r5.2 v).bind λa4=>(appM 24 g.2 ([a4]:List (List Qa))).bind λa5=>some (Lp.go (a3,a5))) r7 0 (([]:List Qa),([]:List (List Qa)))).bind (lpK λ(u:(List Qa)×(List (List Qa)))=>some (⟨r1,r3,u.1,u.2⟩:Vq))
def Qff(n:Nat)(x0:Qg)(x1:Qt)(x2:(List Qa))(x3:Int):Option (J3×Qe):=jn (λ(v:(Bool)->Option _)=>(Qc0 n x0).bind λr8=>bif !r8 then(v true)else((Qjh n x1).bind λa2=>bif !a2 then(v true)else(bif !decide ((x1.Y.length:Int)=x0.Tape.A0) then(v true)else(v (!decide ((x2.length:Int)=(x1.Y.length:Int))))))) (λ(s7:Bool)=>bif s7 then(some ((⟨[],[]⟩:J3),(⟨(2:Int),0,0,0⟩:Qe)))else((Qro n x1 x3).bind λa0=>(Ko n (1:Int)).bind λa3=>(Yo n a3 x2).bind λa4=>(Qdf n (x0.P.length:Int)).bind λa5=>(X9 x0.Ay).bind λa6=>(Qd6 n (a0.A5.length:Int) x3).bind λa7=>(rangeL (λ(_:Nat) (a8:Qx) (u:Qg×Vq×(List Qa)×(List Qa)×Qk)=>(Qbb n u.1 u.2.1 u.2.2.1 u.2.2.2.1 u.2.2.2.2 a8).bind λg=>bif !(Qs g.1 (⟨0,0,0,0⟩:Qe)) then(some (Lp.out (((⟨[],[]⟩:J3),g.1))))else(some (Lp.go (g.2.1,g.2.2.1,g.2.2.2.1,g.2.2.2.2.1,g.2.2.2.2.2)))) a7 0 (x0,a0,a4,a5,a6)).bind (lpK λ(a1:Qg×Vq×(List Qa)×(List Qa)×Qk)=>some ((⟨a1.2.2.1,a1.2.2.2.1⟩:J3),(⟨0,0,0,0⟩:Qe)))))
def Qnj(n:Nat)(x0:(List Qa)):Option (Bool):=(rangeL (λ(_:Nat) (u:Qa) (_:Unit)=>(Qba n u).bind λg=>bif decide (g<=(0:Int)) then(some (Lp.out (false)))else(some (Lp.go ()))) x0 0 ()).bind (lpK λ(_:Unit)=>some (decide ((x0.length:Int)<=(200:Int))))
def Qa5(n:Nat)(x0:Qg)(x1:Qa)(x2:(List Qa))(x3:(List Qa)):Option (Qt×Qe):=jn (λ(j5:(Bool)->Option _)=>(Qc0 n x0).bind λr8=>bif !r8 then(j5 true)else(bif !decide ((x2.length:Int)=x0.Tape.A0) then(j5 true)else((Qnj n x3).bind λa3=>j5 (!a3)))) (λ(s7:Bool)=>bif s7 then(some ((⟨[],(⟨(⟨false,[]⟩:Qi),[]⟩:Qa),[]⟩:Qt),(⟨(2:Int),0,0,0⟩:Qe)))else((Vr n x1).bind λa4=>(Ko n (1:Int)).bind λa5=>(Yo n a5 x2).bind λa6=>(rangeL (λ(a2:Nat) (a9:Qa) (u:(List Q9)×Qa×(List Qa))=>(Vr n a9).bind λv=>(Qgq n x0 u.2.1 v u.2.2).bind λg=>bif !(Qs g.2 (⟨0,0,0,0⟩:Qe)) then(some (Lp.out (((⟨[],(⟨(⟨false,[]⟩:Qi),[]⟩:Qa),[]⟩:Qt),(⟨g.2.Ax,wrap64 ((a2:Int)+(1:Int)),g.2.A4,g.2.At⟩:Qe)))))else((Qkb n g.1.A8).bind λa7=>(appM 256 u.1 ([(⟨u.2.1,v,v,a7,u.2.2,true⟩:Q9)]:List Q9)).bind λb0=>(Vy n u.2.1 v).bind λa8=>some (Lp.go (b0,a8,g.1.Next)))) x3 0 (([]:List Q9),a4,a6)).bind (lpK λ(a0:(List Q9)×Qa×(List Qa))=>some ((⟨a0.1,a0.2.1,a0.2.2⟩:Qt),(⟨0,0,0,0⟩:Qe)))))
def Kw(x0:Qb):Option (Qa):=some (⟨(⟨x0.Neg,x0.N⟩:Qi),x0.D⟩:Qa)
def Kx(n:Nat)(x0:(List Qb)):Option ((List Qa)):=(loopM (λ(g:(List Qa)×Int)=>bif decide (g.2<(x0.length:Int)) then((getI x0 g.2).bind λa0=>(Kw a0).bind λu=>(appM 56 g.1 ([u]:List Qa)).bind λa1=>some (Lp.go (a1,wrap64 (g.2+(1:Int)))))else(some (Lp.out g.1))) n (([]:List Qa),(0:Int))).bind λ(v:(List Qa))=>some v
def Qd8(n:Nat)(x0:(List (List Qb))):Option ((List (List Qa))):=(loopM (λ(g:(List (List Qa))×Int)=>bif decide (g.2<(x0.length:Int)) then((getI x0 g.2).bind λa0=>(Kx n a0).bind λu=>(appM 24 g.1 ([u]:List (List Qa))).bind λa1=>some (Lp.go (a1,wrap64 (g.2+(1:Int)))))else(some (Lp.out g.1))) n (([]:List (List Qa)),(0:Int))).bind λ(v:(List (List Qa)))=>some v
def Qd9(n:Nat)(x0:Ja):Option (Qm):=(appM 8 ([]:List Int) x0.Az).bind λy1=>(loopM (λ(g:(List Qv)×Int)=>bif decide (g.2<(x0.Code.length:Int)) then((getI x0.Code g.2).bind λu=>(Kw u.N).bind λv=>(appM 80 g.1 ([(⟨u.Op,u.A,u.B,v⟩:Qv)]:List Qv)).bind λa1=>some (Lp.go (a1,wrap64 (g.2+(1:Int)))))else(some (Lp.out g.1))) n (([]:List Qv),(0:Int))).bind λ(a0:(List Qv))=>some (⟨a0,y1,x0.A0,x0.A3⟩:Qm)
def Qgf(n:Nat)(x0:Jt):Option (Qw):=(Kx n x0.C).bind λg=>(Qd8 n x0.A).bind λu=>(Kx n x0.B).bind λv=>(Kx n x0.E).bind λr7=>some (⟨x0.Bb,g,u,v,r7⟩:Qw)
def Xb(x0:Qb)(x1:Int):Option (Bool):=jn (λ(g:(Bool)->Option _)=>bif decide (x1<(x0.N.length:Int)) then ( g true) else ( g (decide (x1<(x0.D.length:Int))))) (λ(u:Bool)=>some u)
def Q3(n:Nat)(x0:(List Qb))(x1:Int)(x2:Int):Option (Bool):=(loopM (λ(g:Int)=>jn (λ(u:(Bool)->Option _)=>bif decide (g<(x0.length:Int)) then(u (decide (g<x1)))else(u false)) (λ(a0:Bool)=>bif a0 then((getI x0 g).bind λa1=>(Xb a1 x2).bind λv=>bif v then(some (Lp.out (Lp.out (true))))else(some (Lp.go (wrap64 (g+(1:Int))))))else(some (Lp.out (Lp.go ()))))) n (0:Int)).bind (lpK λ(_:Unit)=>some (decide (x1<(x0.length:Int))))
def Qay(n:Nat)(x0:Qu):Option (Qg):=(Qd9 n x0.Tape).bind λg=>(Qgf n x0.Av).bind λu=>(Kx n x0.P).bind λv=>some (⟨g,u,v,x0.Ay⟩:Qg)
def Qc2(n:Nat)(x0:Ja)(x1:Int)(x2:Int):Option (Bool):=(loopM (λ(g:Int)=>jn (λ(u:(Bool)->Option _)=>bif decide (g<(x0.Code.length:Int)) then(u (decide (g<x1)))else(u false)) (λ(a1:Bool)=>bif a1 then((getI x0.Code g).bind λa3=>(Xb a3.N x2).bind λa0=>bif a0 then(some (Lp.out (Lp.out (true))))else(some (Lp.go (wrap64 (g+(1:Int))))))else(some (Lp.out (Lp.go ()))))) n (0:Int)).bind (lpK λ(_:Unit)=>jn (λ(v:(Bool)->Option _)=>bif decide (x1<(x0.Code.length:Int)) then(v true)else(v (decide (x1<(x0.Az.length:Int))))) (λ(a2:Bool)=>some a2))
def Qc3(n:Nat)(x0:Jt)(x1:Int)(x2:Int):Option (Bool):=jn (λ(g:(Bool)->Option _)=>bif decide ((50:Int)<(x0.Bb.length:Int)) then(g true)else(bif decide (x1<(x0.A.length:Int)) then(g true)else((Q3 n x0.B x1 x2).bind λv=>bif v then(g true)else((Q3 n x0.C x1 x2).bind λa0=>bif a0 then(g true)else((Q3 n x0.E x1 x2).bind λa1=>g a1))))) (λ(s9:Bool)=>bif s9 then(some true)else((loopM (λ(u:Int)=>bif decide (u<(x0.A.length:Int)) then((getI x0.A u).bind λa3=>(Q3 n a3 x1 x2).bind λa2=>bif a2 then(some (Lp.out (Lp.out (true))))else(some (Lp.go (wrap64 (u+(1:Int))))))else(some (Lp.out (Lp.go ())))) n (0:Int)).bind (lpK λ(_:Unit)=>some false)))
def Qbc(n:Nat)(x0:Qu)(x1:Int)(x2:Int)(x3:Int):Option (Bool):=jn (λ(g:(Bool)->Option _)=>(Qc2 n x0.Tape x1 x3).bind λu=>bif u then(g true)else((Qc3 n x0.Av x2 (4:Int)).bind λv=>bif v then(g true)else((Q3 n x0.P (6:Int) x3).bind λa0=>g a0))) (λ(s9:Bool)=>some s9)
def Qr0:Option (Qnb):=some (⟨([101,117,108,101,114,10,48,124,10,98,32,49]:List UInt8),([104,101,117,110,10,48,124,10,49,124,49,10,98,32,49,47,50,44,49,47,50,10,101,32,49,44,48]:List UInt8),([109,105,100,112,111,105,110,116,10,48,124,10,49,47,50,124,49,47,50,10,98,32,48,44,49,10,101,32,49,44,48]:List UInt8),([114,107,52,10,48,124,10,49,47,50,124,49,47,50,10,49,47,50,124,48,44,49,47,50,10,49,124,48,44,48,44,49,10,98,32,49,47,54,44,49,47,51,44,49,47,51,44,49,47,54]:List UInt8),([98,115,50,51,10,48,124,10,49,47,50,124,49,47,50,10,51,47,52,124,48,44,51,47,52,10,49,124,50,47,57,44,49,47,51,44,52,47,57,10,98,32,50,47,57,44,49,47,51,44,52,47,57,44,48,10,101,32,55,47,50,52,44,49,47,52,44,49,47,51,44,49,47,56]:List UInt8),([100,112,52,53,10,48,124,10,49,47,53,124,49,47,53,10,51,47,49,48,124,51,47,52,48,44,57,47,52,48,10,52,47,53,124,52,52,47,52,53,44,45,53,54,47,49,53,44,51,50,47,57,10,56,47,57,124,49,57,51,55,50,47,54,53,54,49,44,45,50,53,51,54,48,47,50,49,56,55,44,54,52,52,52,56,47,54,53,54,49,44,45,50,49,50,47,55,50,57,10,49,124,57,48,49,55,47,51,49,54,56,44,45,51,53,53,47,51,51,44,52,54,55,51,50,47,53,50,52,55,44,52,57,47,49,55,54,44,45,53,49,48,51,47,49,56,54,53,54,10,49,124,51,53,47,51,56,52,44,48,44,53,48,48,47,49,49,49,51,44,49,50,53,47,49,57,50,44,45,50,49,56,55,47,54,55,56,52,44,49,49,47,56,52,10,98,32,51,53,47,51,56,52,44,48,44,53,48,48,47,49,49,49,51,44,49,50,53,47,49,57,50,44,45,50,49,56,55,47,54,55,56,52,44,49,49,47,56,52,44,48,10,101,32,53,49,55,57,47,53,55,54,48,48,44,48,44,55,53,55,49,47,49,54,54,57,53,44,51,57,51,47,54,52,48,44,45,57,50,48,57,55,47,51,51,57,50,48,48,44,49,56,55,47,50,49,48,48,44,49,47,52,48]:List UInt8)⟩:Qnb)
def Qtm(x0:(List UInt8)):Option ((List UInt8)):=(Qkl x0 ([10]:List UInt8)).bind λg=>some g.1
def Qcm(x0:Kt):Option ((List UInt8)×Int×Bool×Kt):=bif x0.over then(some (([]:List UInt8),x0.at_,false,x0))else((Qkl x0.rest ([10]:List UInt8)).bind λg=>jn (λ(u:(Kt)->Option _)=>bif g.2.2 then(u (⟨g.2.1,wrap64 ((wrap64 (x0.at_+(g.1.length:Int)))+(1:Int)),!g.2.2⟩:Kt))else(u (⟨g.2.1,wrap64 (x0.at_+(g.1.length:Int)),!g.2.2⟩:Kt))) (λ(v:Kt)=>some (g.1,x0.at_,true,v)))
def Qhc(_:Kt)(x1:(List UInt8))(x2:Int):Option (Kt):=(sub x1 x2 (x1.length:Int)).bind λg=>some (⟨g,x2,false⟩:Kt)
def Qaz(x0:(List UInt8))(x1:(List UInt8)):Option (Bool):=jn (λ(g:(Bool)->Option _)=>bif decide ((x1.length:Int)<=(x0.length:Int)) then((sub x0 (0:Int) (x1.length:Int)).bind λv=>g (decide (v=x1)))else(g false)) (λ(u:Bool)=>some u)
def Qdj(x0:(List UInt8))(x1:(List UInt8)):Option ((List UInt8)×Bool):=(Qaz x0 x1).bind λg=>bif !g then(some (x0,false))else((sub x0 (x1.length:Int) (x0.length:Int)).bind λu=>some (u,true))
def Qhb(x0:(List UInt8))(x1:(List UInt8)):Option ((List UInt8)×Bool):=(Qdj x0 x1).bind λg=>some (g.1,g.2)
def Qtn(n:Nat)(x0:(List UInt8)):Option (Qi×Qe):=(Qhb x0 ([45]:List UInt8)).bind λu=>(Qn4 n u.1).bind λg=>bif !(Qs g.2 (⟨0,0,0,0⟩:Qe)) then(some ((⟨false,[]⟩:Qi),(⟨g.2.Ax,g.2.Ba,g.2.A4,wrap64 (g.2.At+(wrap64 ((x0.length:Int) - (u.1.length:Int))))⟩:Qe)))else((Yy u.2 g.1).bind λv=>some (v,(⟨0,0,0,0⟩:Qe)))
def Qfl(n:Nat)(x0:(List UInt8))(x1:Int):Option ((List Nat)×Qe):=(sub x0 x1 (x0.length:Int)).bind λy1=>(Qn4 n y1).bind λg=>jn (λ(u:(Qe)->Option _)=>bif !(Qs g.2 (⟨0,0,0,0⟩:Qe)) then(u (⟨g.2.Ax,g.2.Ba,g.2.A4,wrap64 (g.2.At+x1)⟩:Qe))else(u g.2)) (λ(v:Qe)=>some (g.1,v))
def Qr1(n:Nat)(x0:Qi)(x1:(List UInt8))(x2:Int):Option (Qa×Qe):=(Qfl n x1 x2).bind λg=>bif !(Qs g.2 (⟨0,0,0,0⟩:Qe)) then((Ko n (0:Int)).bind λv=>some (v,g.2))else((Qph n x0 g.1).bind λu=>bif !u.2 then(some (u.1,(⟨(2:Int),0,0,x2⟩:Qe)))else(some (u.1,(⟨0,0,0,0⟩:Qe))))
def Qk8(x0:(List UInt8))(x1:(List UInt8)):Option (Bool):=(Qaz x0 x1).bind λg=>some g
def Qr2(n:Nat)(x0:(List Nat)):Option ((List Nat)):=(mkM 4 (0:Nat) (wrap64 ((wrap64 ((2:Int)*(x0.length:Int)))+(1:Int)))).bind λy1=>(rangeL (λ(u:Nat) (a9:Nat) (a6:(List Nat))=>(sub x0 (wrap64 ((u:Int)+(1:Int))) (x0.length:Int)).bind λb0=>(Qht a6 (wrap64 ((wrap64 ((2:Int)*(u:Int)))+(1:Int))) b0 a9 0).bind λa3=>some (Lp.go a3)) x0 0 y1).bind (lpK λ(a7:(List Nat))=>(Qlo n a7 (1:Int)).bind λa4=>(mkM 4 (0:Nat) (wrap64 ((2:Int)*(x0.length:Int)))).bind λb1=>(rangeL (λ(g:Nat) (a1:Nat) (a0:(List Nat))=>(Qgd a1 a1 0 0).bind λv=>(getI a0 (wrap64 ((wrap64 ((2:Int)*(g:Int)))+(1:Int)))).bind λ_=>(some ((List.set a0 (Int.toNat (wrap64 ((wrap64 ((2:Int)*(g:Int)))+(1:Int)))) v.1))).bind λa2=>(getI a2 (wrap64 ((2:Int)*(g:Int)))).bind λ_=>some (Lp.go (List.set a2 (Int.toNat (wrap64 ((2:Int)*(g:Int)))) v.2))) x0 0 b1).bind (lpK λ(a8:(List Nat))=>(Qln n ([a4,a8]:List (List Nat))).bind λa5=>some a5))
def Qyj(n:Nat)(x0:(List Nat))(x1:Int):Option ((List Nat)×Bool):=(Qhy n x0).bind λu=>jn (λ(j4:(Bool)->Option _)=>bif decide (x1<(0:Int)) then(j4 true)else(bif decide ((1:Int)<u) then((grd (u != 0)).bind λ_=>j4 (decide ((wrap64 (Int.tdiv (65536:Int) u))<x1)))else(j4 false))) (λ(s6:Bool)=>bif s6 then(some (([]:List Nat),false))else((Qcu n 1).bind λr8=>bif decide (u<(2:Int)) then(jn (λ(v:((List Nat))->Option _)=>bif decide ((0:Int)<x1) then((X6 n x0).bind λa3=>v a3)else(v r8)) (λ(a8:(List Nat))=>some (a8,true)))else((Qcu n (Int.toNat (x1%18446744073709551616))).bind λa4=>(Qhy n a4).bind λa5=>(loopM (λ(g:(List Nat)×Int)=>bif decide ((0:Int)<=g.2) then(jn (λ(a0:((List Nat))->Option _)=>(Qr2 n g.1).bind λa1=>(grd (decide (0<=g.2))).bind λ_=>(some (decide ((wrap64 (andZ (Int.fdiv x1 (2 ^ (min (Int.toNat g.2) 64))) (1:Int)))=(1:Int)))).bind λb1=>bif b1 then((Qde n a1 x0).bind λa6=>a0 a6)else(a0 a1)) (λ(a9:(List Nat))=>some (Lp.go (a9,wrap64 (g.2 - (1:Int))))))else(some (Lp.out g.1))) n (r8,wrap64 (a5 - (1:Int)))).bind λ(b0:(List Nat))=>some (b0,true))))
def Qr3(n:Nat)(x0:Int):Option ((List Nat)):=(Qcu n 10).bind λg=>(Qyj n g x0).bind λu=>some u.1
def Qpk(n:Nat)(x0:Qi)(x1:Bool)(x2:(List UInt8))(x3:Int):Option (Qa×Qe):=(Qfl n x2 x3).bind λg=>bif !(Qs g.2 (⟨0,0,0,0⟩:Qe)) then((Ko n (0:Int)).bind λr3=>some (r3,g.2))else((Qr3 n (wrap64 ((x2.length:Int) - x3))).bind λv=>(Qde n x0.A6 v).bind λr7=>(Qln n ([r7,g.1]:List (List Nat))).bind λr9=>(Qph n (⟨x1,r9⟩:Qi) v).bind λu=>some (u.1,(⟨0,0,0,0⟩:Qe)))
def Qn6(n:Nat)(x0:(List UInt8)):Option (Qa×Qe):=(Qll x0 ([47,46]:List UInt8)).bind λu=>jn (λ(j5:((List UInt8))->Option _)=>bif decide ((0:Int)<=u) then((sub x0 (0:Int) u).bind λy8=>j5 y8)else(j5 x0)) (λ(s7:(List UInt8))=>(Qtn n s7).bind λg=>bif !(Qs g.2 (⟨0,0,0,0⟩:Qe)) then((Ko n (0:Int)).bind λa2=>some (a2,g.2))else(bif decide (u<(0:Int)) then((Qcu n 1).bind λa3=>(Qph n g.1 a3).bind λa4=>some (a4.1,(⟨0,0,0,0⟩:Qe)))else((getS x0 u).bind λa6=>bif decide (a6=47) then((Qr1 n g.1 x0 (wrap64 (u+(1:Int)))).bind λv=>some (v.1,v.2))else((Qk8 x0 ([45]:List UInt8)).bind λa5=>(Qpk n g.1 a5 x0 (wrap64 (u+(1:Int)))).bind λa0=>some (a0.1,a0.2)))))
def Qjj(x0:Qe)(x1:Int):Option (Qe):=jn (λ(g:(Qe)->Option _)=>bif !(Qs x0 (⟨0,0,0,0⟩:Qe)) then ( g (⟨x0.Ax,x0.Ba,x0.A4,wrap64 (x0.At+x1)⟩:Qe)) else ( g x0)) (λ(u:Qe)=>some u)
def Qst(n:Nat)(x0:(List UInt8)):Option ((List Qa)×Qe):=bif decide (x0=([]:List UInt8)) then(some (([]:List Qa),(⟨0,0,0,0⟩:Qe)))else((Qo7 x0 ([44]:List UInt8)).bind λr1=>(rangeL (λ(_:Nat) (v:(List UInt8)) (u:(List Qa)×Int)=>(Qn6 n v).bind λg=>bif !(Qs g.2 (⟨0,0,0,0⟩:Qe)) then(some (Lp.out ((([]:List Qa),(⟨g.2.Ax,g.2.Ba,g.2.A4,wrap64 (g.2.At+u.2)⟩:Qe)))))else((appM 56 u.1 ([g.1]:List Qa)).bind λa1=>some (Lp.go (a1,wrap64 (u.2+(wrap64 ((v.length:Int)+(1:Int)))))))) r1 0 (([]:List Qa),(0:Int))).bind (lpK λ(a0:(List Qa)×Int)=>some (a0.1,(⟨0,0,0,0⟩:Qe))))
def Qqs(n:Nat)(x0:(List UInt8))(x1:Int):Option (Qa×(List Qa)×Qe):=(Qkl x0 ([124]:List UInt8)).bind λu=>(Qn6 n u.1).bind λg=>bif !(Qs g.2 (⟨0,0,0,0⟩:Qe)) then((Qjj g.2 x1).bind λr5=>some (g.1,([]:List Qa),r5))else((Qst n u.2.1).bind λv=>(Qjj v.2 (wrap64 ((wrap64 (x1+(u.1.length:Int)))+(1:Int)))).bind λr9=>some (g.1,v.1,r9))
def Qgg(n:Nat)(x0:Kt)(x1:(List UInt8))(x2_Name:(List UInt8))(x2_C:(List Qa))(x2_A:(List (List Qa)))(x2_B:(List Qa))(x2_E:(List Qa)):Option (Qe×Kt×(List UInt8)×(List Qa)×(List Qa)×(List Qa)×(List (List Qa))):=loopM (λ(u:Kt×(List Qa)×(List (List Qa)))=>(Qcm u.1).bind λg=>bif !g.2.2.1 then(some (Lp.out (((⟨0,0,0,0⟩:Qe),g.2.2.2,x2_Name,x2_B,x2_E,u.2.1,u.2.2))))else((Qlm g.1 ([124]:List UInt8)).bind λa0=>bif !a0 then((Qhc g.2.2.2 x1 g.2.1).bind λa1=>some (Lp.out (((⟨0,0,0,0⟩:Qe),a1,x2_Name,x2_B,x2_E,u.2.1,u.2.2))))else((Qqs n g.1 g.2.1).bind λv=>bif !(Qs v.2.2 (⟨0,0,0,0⟩:Qe)) then(some (Lp.out ((v.2.2,g.2.2.2,x2_Name,x2_B,x2_E,u.2.1,u.2.2))))else((appM 56 u.2.1 ([v.1]:List Qa)).bind λa2=>(appM 24 u.2.2 ([v.2.1]:List (List Qa))).bind λa3=>some (Lp.go (g.2.2.2,a2,a3)))))) n (x0,x2_C,x2_A)
def Qdg(n:Nat)(x0:Kt)(x1:(List UInt8)):Option ((List Qa)×Qe×Kt):=(Qcm x0).bind λg=>(catS x1 ([32]:List UInt8)).bind λy3=>(Qhb g.1 y3).bind λu=>bif !u.2 then(some (([]:List Qa),(⟨(1:Int),0,0,g.2.1⟩:Qe),g.2.2.2))else((Qst n u.1).bind λv=>(Qjj v.2 (wrap64 ((wrap64 (g.2.1+(x1.length:Int)))+(1:Int)))).bind λr9=>some (v.1,r9,g.2.2.2))
def Qr4(n:Nat)(x0:(List UInt8)):Option (Qw×Qe):=(Qcm (⟨x0,0,false⟩:Kt)).bind λr1=>(Qk0 n (⟨(2:Int),r1.1,0⟩:Qmh)).bind λr3=>bif !r3 then(some ((⟨r1.1,([]:List Qa),([]:List (List Qa)),[],[]⟩:Qw),(⟨(1:Int),0,0,0⟩:Qe)))else((Qgg n r1.2.2.2 x0 r1.1 ([]:List Qa) ([]:List (List Qa)) [] []).bind λg=>bif !(Qs g.1 (⟨0,0,0,0⟩:Qe)) then(some ((⟨g.2.2.1,g.2.2.2.2.2.1,g.2.2.2.2.2.2,g.2.2.2.1,g.2.2.2.2.1⟩:Qw),g.1))else((Qdg n g.2.1 ([98]:List UInt8)).bind λv=>jn (λ(j9:(Bool)->Option _)=>bif !(Qs v.2.1 (⟨0,0,0,0⟩:Qe)) then(j9 true)else(j9 v.2.2.over)) (λ(a3:Bool)=>bif a3 then(some ((⟨g.2.2.1,g.2.2.2.2.2.1,g.2.2.2.2.2.2,v.1,g.2.2.2.2.1⟩:Qw),v.2.1))else((Qdg n v.2.2 ([101]:List UInt8)).bind λu=>jn (λ(a1:(Bool)->Option _)=>bif !(Qs u.2.1 (⟨0,0,0,0⟩:Qe)) then(a1 true)else(a1 u.2.2.over)) (λ(a4:Bool)=>bif a4 then(some ((⟨g.2.2.1,g.2.2.2.2.2.1,g.2.2.2.2.2.2,v.1,u.1⟩:Qw),u.2.1))else(some ((⟨g.2.2.1,g.2.2.2.2.2.1,g.2.2.2.2.2.2,v.1,u.1⟩:Qw),(⟨(1:Int),0,0,u.2.2.at_⟩:Qe))))))))
def Qqt(n:Nat)(x0:(List UInt8)):Option (Qw×Qe):=bif decide ((4000:Int)<(x0.length:Int)) then(some ((⟨[],[],[],[],[]⟩:Qw),(⟨(1:Int),0,0,(4000:Int)⟩:Qe)))else((Qr4 n x0).bind λg=>bif !(Qs g.2 (⟨0,0,0,0⟩:Qe)) then(some ((⟨[],[],[],[],[]⟩:Qw),g.2))else((Qgv n g.1).bind λu=>bif !decide (u=(0:Int)) then(some ((⟨[],[],[],[],[]⟩:Qw),(⟨(2:Int),0,0,u⟩:Qe)))else(some (g.1,g.2))))
def Qrf(n:Nat)(x0:(List UInt8)):Option (Qw×Bool):=(Qr0).bind λg=>(loopM (λ(u:Int)=>bif decide (u<(6:Int)) then((getI ([g.a0,g.a1,g.a2,g.a3,g.a4,g.a5]:List (List UInt8)) u).bind λv=>(Qtm v).bind λa0=>bif decide (a0=x0) then((Qqt n v).bind λa1=>some (Lp.out (Lp.out ((a1.1,true)))))else(some (Lp.go (wrap64 (u+(1:Int))))))else(some (Lp.out (Lp.go ())))) n (0:Int)).bind (lpK λ(_:Unit)=>some ((⟨[],[],[],[],[]⟩:Qw),false))
def Qto(n:Nat)(x0:Qi):Option ((List UInt8)):=(Qn5 n x0.A6).bind λg=>(Qfa n x0).bind λu=>bif decide (u<(0:Int)) then ( (catS ([45]:List UInt8) g).bind λv=>some v) else ( some g)
def Qr5(n:Nat)(x0:Qa):Option ((List UInt8)):=(Vr n x0).bind λu=>(Qto n u.Num).bind λr3=>jn (λ(g:((List UInt8))->Option _)=>(Qcu n 1).bind λv=>(Qgm n u.Den v).bind λa0=>bif !decide (a0=(0:Int)) then((Qn5 n u.Den).bind λa1=>(catS ([47]:List UInt8) a1).bind λa4=>(catS r3 a4).bind λa5=>g a5)else(g r3)) (λ(a3:(List UInt8))=>some a3)
def Qpl(n:Nat)(x0:(List Qa)):Option ((List UInt8)):=(rangeL (λ(_:Nat) (a1:Qa) (v:(List (List UInt8)))=>(Qr5 n a1).bind λg=>(appM 16 v ([g]:List (List UInt8))).bind λa2=>some (Lp.go a2)) x0 0 ([]:List (List UInt8))).bind (lpK λ(a0:(List (List UInt8)))=>(Qqq a0 ([44]:List UInt8)).bind λu=>some u)
def Q0k(n:Nat)(x0:(List Qa))(x1:(List (List Qa)))(x2:Int):Option ((List Qa)×Bool):=jn (λ(j1:(Bool)->Option _)=>bif !decide ((x0.length:Int)=(x1.length:Int)) then(j1 true)else(bif decide (x2<(0:Int)) then(j1 true)else(j1 (decide ((300:Int)<x2))))) (λ(s3:Bool)=>bif s3 then(some (([]:List Qa),false))else((rangeL (λ(_:Nat) (b3:(List Qa)) (_:Unit)=>bif !decide ((b3.length:Int)=x2) then(some (Lp.out ((([]:List Qa),false))))else(some (Lp.go ()))) x1 0 ()).bind (lpK λ(_:Unit)=>(Qdf n x2).bind λb2=>(rangeL (λ(v:Nat) (a7:(List Qa)) (a0:(List Qa))=>(getI x0 (v:Int)).bind λa9=>(Qba n a9).bind λa2=>bif decide (a2=(0:Int)) then(some (Lp.go a0))else((rangeL (λ(g:Nat) (a8:Qa) (u:(List Qa))=>(getI u (g:Int)).bind λb0=>(getI x0 (v:Int)).bind λb1=>(W5 n b1 a8).bind λa3=>(Vy n b0 a3).bind λa4=>(getI u (g:Int)).bind λ_=>some (Lp.go (List.set u (Int.toNat (g:Int)) a4))) a7 0 a0).bind (lpK λ(a5:(List Qa))=>some (Lp.go a5)))) x1 0 b2).bind (lpK λ(a6:(List Qa))=>some (a6,true)))))
end Go.Proofs.YtbdgngdpkdagoaaGreatDoor
