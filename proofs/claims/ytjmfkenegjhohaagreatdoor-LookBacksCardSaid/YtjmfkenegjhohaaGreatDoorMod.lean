import Derived.Test.YtjmfkenegjhohaaGreatDoorLibM
set_option maxRecDepth 100000
set_option maxHeartbeats 4000000
namespace Go.Proofs.YtjmfkenegjhohaaGreatDoor
open Go Go.RowKit
structure Qk where
 Neg:Bool
 A3:(List Nat)
structure Qa where
 Num:Qk
 Den:(List Nat)
structure Q2 where
 Op:Int
 A:Int
 B:Int
 N:Qa
structure Qp where
 Code:(List Q2)
 Aw:(List Int)
 Ax:Int
 A1:Int
structure Q1 where
 A6:(List UInt8)
 C:(List Qa)
 A:(List (List Qa))
 B:(List Qa)
 E:(List Qa)
structure Qg where
 Tape:Qp
 Aq:Q1
 P:(List Qa)
 Av:Int
structure Qzd where
 Tol:Qa
 Safe:Qa
 Low:Qa
 High:Qa
 Least:Qa
 Fine:Int
 Most:Int
structure Jg where
 T:Qa
 Az:Qa
 H:Qa
 A4:Qa
 Y:(List Qa)
 Ok:Bool
structure Qe where
 Au:Int
 Step:Int
 A0:Int
 At:Int
structure Jo where
 Ys:(List (List Qa))
 Ks:(List (List Qa))
 Next:(List Qa)
 A4:(List Qa)
structure Vz where
 op:Int
 a:Int
 b:Int
def Qeu(x y:Vz):Bool:=((x.op == y.op) && ((x.a == y.a) && ((x.b == y.b) && true)))
structure Ql7 where
 Au:Int
 A5:(List UInt8)
 At:Int
structure Qc9 where
 Seen:Int
 Peak:Int
structure Qj where
 Count:Qc9
 limit:Int
def Qx(x y:Qe):Bool:=((x.Au == y.Au) && ((x.Step == y.Step) && ((x.A0 == y.A0) && ((x.At == y.At) && true))))
structure V5 where
 T:Qa
 Y:(List Qa)
 P:(List Qa)
structure Qah where
 T:Qa
 Y:(List Qa)
 P:(List Qa)
structure Q7 where
 Y:(List Qa)
 P:(List Qa)
structure V8 where
 T:Qa
 Y:(List Qa)
 P:(List Qa)
structure Q1v where
 t:Qp
 done:(List Qa)
 co:(List Qa)
 grad:V8
structure Q0 where
 From:Int
 To:Int
structure Vw where
 Every:Int
 Sizes:(List Qa)
 Ts:(List Qa)
 Ys:(List (List Qa))
structure Qfw where
 l:(List Q0)
structure Kd where
 Next:(List Qa)
 A4:(List Qa)
 Made:Jo
structure Q5 where
 V:Qa
 D:Qa
structure Qy where
 Ar:(List Jg)
 T:Qa
 Y:(List Qa)
structure Qn8 where
 a0:Nat
 a1:Nat
 a2:Nat
 a3:Nat
 a4:Nat
 a5:Nat
 a6:Nat
 a7:Nat
 a8:Nat
def Qze:List Nat->Qn8
 | [a0,a1,a2,a3,a4,a5,a6,a7,a8]=>⟨a0,a1,a2,a3,a4,a5,a6,a7,a8⟩
 | _=>(⟨0,0,0,0,0,0,0,0,0⟩:Qn8)
structure Jj where
 Ay:Int
 W:(List Qa)
structure Qb where
 Neg:Bool
 N:(List Nat)
 D:(List Nat)
structure Ju where
 Op:Int
 A:Int
 B:Int
 N:Qb
structure Jf where
 Code:(List Ju)
 Aw:(List Int)
 Ax:Int
 A1:Int
structure Jz where
 A6:(List UInt8)
 C:(List Qb)
 A:(List (List Qb))
 B:(List Qb)
 E:(List Qb)
structure J3 where
 a0:Int
 a1:Int
 a2:Int
structure Qt where
 Tape:Jf
 Aq:Jz
 P:(List Qb)
 Av:Int
structure Qmz where
 a0:(List UInt8)
 a1:(List UInt8)
 a2:(List UInt8)
 a3:(List UInt8)
 a4:(List UInt8)
 a5:(List UInt8)
structure Kq where
 rest:(List UInt8)
 at_:Int
 over:Bool
structure Qo where
 Au:Int
 A5:(List UInt8)
 At:Int
structure Jy where
 Neg:Bool
 A3:(List Nat)
structure J7 where
 Ys:(List (List Qb))
 Ks:(List (List Qb))
 Next:(List Qb)
 A4:(List Qb)
structure Xg where
 T:Qb
 Y:(List Qb)
 P:(List Qb)
structure Qi where
 Y:(List Qb)
 P:(List Qb)
structure Jp where
 T:Qb
 Y:(List Qb)
 P:(List Qb)
structure Q9 where
 T:Qb
 Az:Qb
 H:Qb
 A4:Qb
 Y:(List Qb)
 Ok:Bool
structure Qv where
 Ar:(List Q9)
 T:Qb
 Y:(List Qb)
structure Qcq where
 a0:Int
 a1:Int
 a2:Int
 a3:Int
structure Qs where
 Ay:Int
 W:(List Qb)
def Qv0(xs:List Nat):Prop:=xs.length<=maxLen/\∀ x∈xs,(x<4294967296)
def Wh(x:Qb):Prop:=True/\Qv0 x.N/\Qv0 x.D/\True
def Qey(x:Ju):Prop:=(-9223372036854775808<=x.Op/\x.Op<=9223372036854775807)/\(-9223372036854775808<=x.A/\x.A<=9223372036854775807)/\(-9223372036854775808<=x.B/\x.B<=9223372036854775807)/\Wh x.N/\True
def Qd0(xs:List Ju):Prop:=xs.length<=maxLen/\∀ x∈xs,Qey x
def Q08(xs:List Int):Prop:=xs.length<=maxLen/\∀ x∈xs,(-9223372036854775808<=x/\x<=9223372036854775807)
def Qez(x:Jf):Prop:=Qd0 x.Code/\Q08 x.Aw/\(-9223372036854775808<=x.Ax/\x.Ax<=9223372036854775807)/\(-9223372036854775808<=x.A1/\x.A1<=9223372036854775807)/\True
def Kc(xs:List Qb):Prop:=xs.length<=maxLen/\∀ x∈xs,Wh x
def Qda(xs:List (List Qb)):Prop:=xs.length<=maxLen/\∀ x∈xs,Kc x
def Qd1(x:Jz):Prop:=(x.A6.length<=maxLen)/\Kc x.C/\Qda x.A/\Kc x.B/\Kc x.E/\True
def Xm(x:Qt):Prop:=Qez x.Tape/\Qd1 x.Aq/\Kc x.P/\(-9223372036854775808<=x.Av/\x.Av<=9223372036854775807)/\True
def Qdh(x:Q9):Prop:=Wh x.T/\Wh x.Az/\Wh x.H/\Wh x.A4/\Kc x.Y/\True/\True
def Qek(xs:List Q9):Prop:=xs.length<=maxLen/\∀ x∈xs,Qdh x
def Zv(x:Qv):Prop:=Qek x.Ar/\Wh x.T/\Kc x.Y/\True
def Qe0(x:Qs):Prop:=(-9223372036854775808<=x.Ay/\x.Ay<=9223372036854775807)/\Kc x.W/\True
def Z2(xs:List Qs):Prop:=xs.length<=maxLen/\∀ x∈xs,Qe0 x
def Zy(n:Nat)(x0:(List Nat)):Option ((List Nat)):=(loopM (λ(g:Int)=>jn (λ(u:(Bool)->Option _)=>bif decide ((0:Int)<g) then((getI x0 (wrap64 (g - (1:Int)))).bind λa1=>u (decide (a1=0)))else(u false)) (λ(v:Bool)=>bif v then(some (Lp.go (wrap64 (g - (1:Int)))))else(some (Lp.out g)))) n (x0.length:Int)).bind λ(a0:Int)=>(sub x0 (0:Int) a0).bind λa2=>some a2
def Qfx(n:Nat)(x0:(List Nat)):Option (Bool):=(Zy n x0).bind λg=>some (decide ((g.length:Int)=(0:Int)))
def Qcr(n:Nat)(x0:Nat):Option ((List Nat)):=(Zy n ([(x0%4294967296),((x0 / 2 ^ 32)%4294967296)]:List Nat)).bind λg=>some g
def Xu(n:Nat)(x0:Qa):Option (Qk×(List Nat)):=(Qfx n x0.Den).bind λg=>bif g then ( (Qcr n 1).bind λu=>some ((⟨false,[]⟩:Qk),u)) else ( some (x0.Num,x0.Den))
def Qfy(x0:Nat)(x1:Nat)(x2:Nat)(x3:Nat):Option (Nat×Nat):=(some (((((((x0*x1)%18446744073709551616)+x2)%18446744073709551616)+x3)%18446744073709551616))).bind λg=>some (((g / 2 ^ 32)%4294967296),(g%4294967296))
def Qhg(x0:(List Nat))(x1:Int)(x2:(List Nat))(x3:Nat)(x4:Nat):Option ((List Nat)):=(rangeL (λ(u:Nat) (a1:Nat) (g:(List Nat)×Nat)=>(getI g.1 (wrap64 (x1+(u:Int)))).bind λa2=>(Qfy x3 a1 a2 g.2).bind λa0=>(getI g.1 (wrap64 (x1+(u:Int)))).bind λ_=>some (Lp.go ((List.set g.1 (Int.toNat (wrap64 (x1+(u:Int)))) a0.2),a0.1))) x2 0 (x0,x4)).bind (lpK λ(v:(List Nat)×Nat)=>(getI v.1 (wrap64 (x1+(x2.length:Int)))).bind λ_=>some (List.set v.1 (Int.toNat (wrap64 (x1+(x2.length:Int)))) v.2))
def Qh4(x0:(List Nat))(x1:Int):Option ((List Nat)):=(mkM 4 (0:Nat) (wrap64 ((x0.length:Int)+x1))).bind λg=>some (cpyL g x0)
def Xy(n:Nat)(x0:(List Nat)):Option ((List Nat)):=(Zy n x0).bind λg=>(Qh4 g (0:Int)).bind λu=>some u
def Qdb(n:Nat)(x0:(List Nat))(x1:(List Nat)):Option ((List Nat)):=(mkM 4 (0:Nat) (wrap64 ((wrap64 ((x0.length:Int)+(x1.length:Int)))+(1:Int)))).bind λy1=>(rangeL (λ(g:Nat) (a2:Nat) (a0:(List Nat))=>(Qhg a0 (g:Int) x0 a2 0).bind λu=>some (Lp.go u)) x1 0 y1).bind (lpK λ(a1:(List Nat))=>(Xy n a1).bind λv=>some v)
def Yp(x0:Bool)(x1:(List Nat)):Option (Qk):=jn (λ(g:(Qk)->Option _)=>bif x0 then ( g (⟨decide ((0:Int)<(x1.length:Int)),x1⟩:Qk)) else ( g (⟨false,x1⟩:Qk))) (λ(u:Qk)=>some u)
def Qkj(n:Nat)(x0:Qk)(x1:Qk):Option (Qk):=(Qdb n x0.A3 x1.A3).bind λg=>(Yp (x0.Neg != x1.Neg) g).bind λu=>some u
def Qbq(n:Nat)(x0:Qk)(x1:(List Nat)):Option (Qk):=(Qkj n x0 (⟨false,x1⟩:Qk)).bind λg=>some g
def Qkk(n:Nat)(x0:Qk):Option (Qk):=(Xy n x0.A3).bind λg=>(Yp (!x0.Neg) g).bind λu=>some u
def Qb7(x0:Nat)(x1:Nat)(x2:Nat):Option (Nat×Nat):=jn (λ(g:(Nat)->Option _)=>bif decide (((x0+x1)%4294967296)<x0) then(g ((0+1)%4294967296))else(g 0)) (λ(v:Nat)=>jn (λ(u:(Nat)->Option _)=>bif decide (((((x0+x1)%4294967296)+x2)%4294967296)<x2) then(u ((v+1)%4294967296))else(u v)) (λ(s6:Nat)=>some (((((x0+x1)%4294967296)+x2)%4294967296),s6)))
def Qjt(n:Nat)(x0:(List Nat))(x1:(List Nat)):Option ((List Nat)):=jn (λ(j1:((List Nat)×(List Nat))->Option _)=>bif decide ((x0.length:Int)<(x1.length:Int)) then(j1 (x1,x0))else(j1 (x0,x1))) (λ(u:(List Nat)×(List Nat))=>(Qh4 u.1 (1:Int)).bind λr4=>(rangeL (λ(g:Nat) (a6:Nat) (v:(List Nat)×Nat)=>jn (λ(a1:(Nat)->Option _)=>bif decide ((g:Int)<(u.2.length:Int)) then((getI u.2 (g:Int)).bind λa7=>a1 a7)else(a1 0)) (λ(a5:Nat)=>(Qb7 a6 a5 v.2).bind λa2=>(getI v.1 (g:Int)).bind λ_=>some (Lp.go ((List.set v.1 (Int.toNat (g:Int)) a2.1),a2.2)))) u.1 0 (r4,0)).bind (lpK λ(a0:(List Nat)×Nat)=>(getI a0.1 (u.1.length:Int)).bind λ_=>(Zy n (List.set a0.1 (Int.toNat (u.1.length:Int)) a0.2)).bind λa4=>some a4))
def Qlc(n:Nat)(x0:(List (List Nat))):Option ((List Nat)):=(rangeL (λ(_:Nat) (a1:(List Nat)) (v:(List Nat))=>(Zy n a1).bind λg=>(Qjt n v g).bind λu=>some (Lp.go u)) x0 0 ([]:List Nat)).bind (lpK λ(a0:(List Nat))=>some a0)
def Qf7(n:Nat)(x0:(List Nat))(x1:(List Nat)):Option (Int):=(Zy n x0).bind λu=>(Zy n x1).bind λv=>bif decide ((u.length:Int)<(v.length:Int)) then(some (-1:Int))else(bif decide ((v.length:Int)<(u.length:Int)) then(some (1:Int))else((loopM (λ(g:Int)=>bif decide ((0:Int)<=g) then((getI u g).bind λa0=>(getI v g).bind λa1=>bif decide (a0<a1) then(some (Lp.out (Lp.out ((-1:Int)))))else((getI u g).bind λa2=>(getI v g).bind λa3=>bif decide (a3<a2) then(some (Lp.out (Lp.out ((1:Int)))))else(some (Lp.go (wrap64 (g - (1:Int)))))))else(some (Lp.out (Lp.go ())))) n (wrap64 ((u.length:Int) - (1:Int)))).bind (lpK λ(_:Unit)=>some (0:Int))))
def Qju(x0:Nat)(x1:Nat)(x2:Nat):Option (Nat×Nat):=jn (λ(g:(Nat)->Option _)=>bif decide (x0<x1) then(g ((0+1)%4294967296))else(g 0)) (λ(v:Nat)=>jn (λ(u:(Nat)->Option _)=>bif decide (((x0+4294967296 - x1)%4294967296)<x2) then(u ((v+1)%4294967296))else(u v)) (λ(s6:Nat)=>(some (((((x0+4294967296 - x1)%4294967296)+4294967296 - x2)%4294967296))).bind λz7=>some (z7,s6)))
def Qqw(n:Nat)(x0:(List Nat))(x1:(List Nat)):Option ((List Nat)×Bool):=(Zy n x0).bind λr1=>(Zy n x1).bind λr3=>(Qf7 n r1 r3).bind λr5=>bif decide (r5<(0:Int)) then(some (([]:List Nat),false))else((Qh4 r1 (0:Int)).bind λr7=>(rangeL (λ(g:Nat) (a6:Nat) (u:(List Nat)×Nat)=>jn (λ(v:(Nat)->Option _)=>bif decide ((g:Int)<(r3.length:Int)) then((getI r3 (g:Int)).bind λa7=>v a7)else(v 0)) (λ(a4:Nat)=>(Qju a6 a4 u.2).bind λa0=>(getI u.1 (g:Int)).bind λ_=>some (Lp.go ((List.set u.1 (Int.toNat (g:Int)) a0.1),a0.2)))) r1 0 (r7,0)).bind (lpK λ(a5:(List Nat)×Nat)=>(Zy n a5.1).bind λa3=>some (a3,true)))
def Qqx(n:Nat)(x0:(List Nat))(x1:(List Nat)):Option ((List Nat)×Int):=(Qf7 n x0 x1).bind λu=>jn (λ(g:((List Nat)×(List Nat))->Option _)=>bif decide (u<(0:Int)) then(g (x1,x0))else(g (x0,x1))) (λ(v:(List Nat)×(List Nat))=>(Qqw n v.1 v.2).bind λr6=>some (r6.1,u))
def Qkl(n:Nat)(x0:Qk)(x1:Qk):Option (Qk):=bif (x0.Neg == x1.Neg) then((Qlc n ([x0.A3,x1.A3]:List (List Nat))).bind λu=>(Yp x0.Neg u).bind λv=>some v)else((Qqx n x0.A3 x1.A3).bind λg=>bif decide (g.2<(0:Int)) then((Yp x1.Neg g.1).bind λr7=>some r7)else((Yp x0.Neg g.1).bind λr9=>some r9))
def Qkm(n:Nat)(x0:Qk)(x1:Qk):Option (Qk):=(Qkk n x1).bind λg=>(Qkl n x0 g).bind λu=>some u
def Qhh(x0:Nat)(x1:Nat)(x2:Nat):Option (Nat×Nat×Bool):=bif decide (x2<=x0) then(some (0,0,false))else((grd (x2 != 0)).bind λ_=>(grd (x2 != 0)).bind λ_=>some ((((((x0*2 ^ 32)%18446744073709551616) ||| x1) / x2)%4294967296),(((((x0*2 ^ 32)%18446744073709551616) ||| x1)%x2)%4294967296),true))
def Qkn(n:Nat)(x0:(List Nat))(x1:Nat):Option ((List Nat)×Nat×Bool):=bif decide (x1=0) then(some (([]:List Nat),0,false))else((mkM 4 (0:Nat) (x0.length:Int)).bind λy1=>(loopM (λ(g:(List Nat)×Nat×Int)=>bif decide ((0:Int)<=g.2.2) then((getI x0 g.2.2).bind λa1=>(Qhh g.2.1 a1 x1).bind λu=>(getI g.1 g.2.2).bind λ_=>some (Lp.go ((List.set g.1 (Int.toNat g.2.2) u.1),u.2.1,wrap64 (g.2.2 - (1:Int)))))else(some (Lp.out (g.1,g.2.1)))) n (y1,0,wrap64 ((x0.length:Int) - (1:Int)))).bind λ(v:(List Nat)×Nat)=>(Xy n v.1).bind λa0=>some (a0,v.2,true))
def Ql8(n:Nat)(x0:Nat):Option (Int):=(loopM (λ(g:Nat×Int×Int)=>bif decide ((0:Int)<g.2.2) then(jn (λ(u:(Nat×Int)->Option _)=>(grd (decide (0<=g.2.2))).bind λ_=>bif !decide ((g.1 / 2 ^ (min (Int.toNat g.2.2) 32))=0) then((grd (decide (0<=g.2.2))).bind λ_=>u ((g.1 / 2 ^ (min (Int.toNat g.2.2) 32)),wrap64 (g.2.1+g.2.2)))else(u (g.1,g.2.1))) (λ(v:Nat×Int)=>some (Lp.go (v.1,v.2,wrap64 (Int.tdiv g.2.2 (2:Int))))))else(some (Lp.out (g.1,g.2.1)))) n (x0,(0:Int),(16:Int))).bind λ(a0:Nat×Int)=>some (wrap64 (a0.2+(a0.1:Int)))
def Qld(n:Nat)(x0:(List Nat))(x1:Int):Option ((List Nat)):=(some (wrap64 ((wrap64 (Int.tdiv (min (max x1 (0:Int)) (4096:Int)) (32:Int)))+(x0.length:Int)))).bind λz1=>(mkM 4 (0:Nat) (wrap64 (z1+(1:Int)))).bind λy2=>(rangeL (λ(a0:Nat) (a5:Nat) (g:(List Nat))=>(grd (decide (0<=Int.tmod (min (max x1 (0:Int)) (4096:Int)) (32:Int)))).bind λ_=>(some (((a5*2 ^ (min (Int.toNat (Int.tmod (min (max x1 (0:Int)) (4096:Int)) (32:Int))) 64))%18446744073709551616))).bind λv=>(some (wrap64 ((wrap64 (Int.tdiv (min (max x1 (0:Int)) (4096:Int)) (32:Int)))+(a0:Int)))).bind λu=>(getI g u).bind λa1=>(getI g u).bind λ_=>(some (wrap64 ((wrap64 (Int.tdiv (min (max x1 (0:Int)) (4096:Int)) (32:Int)))+(a0:Int)))).bind λa2=>(getI (List.set g (Int.toNat u) (a1 ||| (v%4294967296))) (wrap64 (a2+(1:Int)))).bind λ_=>(some ((List.set (List.set g (Int.toNat u) (a1 ||| (v%4294967296))) (Int.toNat (wrap64 (a2+(1:Int)))) ((v / 2 ^ 32)%4294967296)))).bind λa6=>some (Lp.go a6)) x0 0 y2).bind (lpK λ(a4:(List Nat))=>(Xy n a4).bind λa3=>some a3)
def Qiz(n:Nat)(x0:Nat)(x1:Nat)(x2:Nat)(x3:Nat)(x4:Nat):Option (Nat):=(Qhh x0 x1 x3).bind λr1=>jn (λ(j8:(Nat×Nat)->Option _)=>bif !r1.2.2 then((Qb7 x1 x3 0).bind λa1=>jn (λ(a0:(Bool)->Option _)=>bif decide (x3<x0) then(a0 true)else(a0 (decide (0<a1.2)))) (λ(a6:Bool)=>bif a6 then(some 4294967295)else(j8 (4294967295,a1.1))))else(j8 (r1.1,r1.2.1))) (λ(a3:Nat×Nat)=>(loopM (λ(g:Nat×Nat)=>(Qfy g.1 x4 0 0).bind λv=>jn (λ(u:(Bool)->Option _)=>bif decide (v.1<g.2) then(u true)else(bif decide (v.1=g.2) then(u (decide (v.2<=x2)))else(u false))) (λ(a7:Bool)=>bif a7 then(some (Lp.out g.1))else((Qb7 g.2 x3 0).bind λa2=>bif decide (0<a2.2) then(some (Lp.out ((g.1+4294967296 - 1)%4294967296)))else(some (Lp.go (((g.1+4294967296 - 1)%4294967296),a2.1)))))) n (a3.1,a3.2)).bind λ(a8:Nat)=>some a8)
def Qf8(x0:(List Nat))(x1:Int)(x2:(List Nat))(x3:Nat):Option (Bool×(List Nat)):=(rangeL (λ(v:Nat) (a3:Nat) (g:(List Nat)×Nat×Nat)=>(Qfy x3 a3 g.2.1 0).bind λa0=>(getI g.1 (wrap64 (x1+(v:Int)))).bind λa4=>(Qju a4 a0.2 g.2.2).bind λa1=>(getI g.1 (wrap64 (x1+(v:Int)))).bind λ_=>some (Lp.go ((List.set g.1 (Int.toNat (wrap64 (x1+(v:Int)))) a1.1),a0.1,a1.2))) x2 0 (x0,0,0)).bind (lpK λ(u:(List Nat)×Nat×Nat)=>(getI u.1 (wrap64 (x1+(x2.length:Int)))).bind λa5=>(Qju a5 u.2.1 u.2.2).bind λa2=>(getI u.1 (wrap64 (x1+(x2.length:Int)))).bind λ_=>some (decide (0<a2.2),(List.set u.1 (Int.toNat (wrap64 (x1+(x2.length:Int)))) a2.1)))
def Qh5(x0:(List Nat))(x1:Int)(x2:(List Nat)):Option ((List Nat)):=(rangeL (λ(v:Nat) (a1:Nat) (g:(List Nat)×Nat)=>(getI g.1 (wrap64 (x1+(v:Int)))).bind λa2=>(Qb7 a2 a1 g.2).bind λa0=>(getI g.1 (wrap64 (x1+(v:Int)))).bind λ_=>some (Lp.go ((List.set g.1 (Int.toNat (wrap64 (x1+(v:Int)))) a0.1),a0.2))) x2 0 (x0,0)).bind (lpK λ(u:(List Nat)×Nat)=>(getI u.1 (wrap64 (x1+(x2.length:Int)))).bind λa3=>(getI u.1 (wrap64 (x1+(x2.length:Int)))).bind λ_=>(some ((List.set u.1 (Int.toNat (wrap64 (x1+(x2.length:Int)))) ((a3+u.2)%4294967296)))).bind λa4=>some a4)
def Qm0(n:Nat)(x0:(List Nat))(x1:(List Nat)):Option ((List Nat)×(List Nat)):=(mkM 4 (0:Nat) (wrap64 ((x0.length:Int) - (x1.length:Int)))).bind λy1=>(loopM (λ(g:(List Nat)×(List Nat)×Int)=>bif decide ((0:Int)<=g.2.2) then((getI g.1 (wrap64 (g.2.2+(x1.length:Int)))).bind λa5=>(getI g.1 (wrap64 ((wrap64 (g.2.2+(x1.length:Int))) - (1:Int)))).bind λa6=>(getI g.1 (wrap64 ((wrap64 (g.2.2+(x1.length:Int))) - (2:Int)))).bind λa7=>(getI x1 (wrap64 ((x1.length:Int) - (1:Int)))).bind λa8=>(getI x1 (wrap64 ((x1.length:Int) - (2:Int)))).bind λa9=>(Qiz n a5 a6 a7 a8 a9).bind λu=>jn (λ(a0:((List Nat)×Nat)->Option _)=>(Qf8 g.1 g.2.2 x1 u).bind λv=>bif v.1 then((Qh5 v.2 g.2.2 x1).bind λa3=>a0 (a3,((u+4294967296 - 1)%4294967296)))else(a0 (v.2,u))) (λ(a1:(List Nat)×Nat)=>(getI g.2.1 g.2.2).bind λ_=>some (Lp.go (a1.1,(List.set g.2.1 (Int.toNat g.2.2) a1.2),wrap64 (g.2.2 - (1:Int))))))else(some (Lp.out (g.1,g.2.1)))) n (x0,y1,wrap64 ((y1.length:Int) - (1:Int)))).bind λ(a2:(List Nat)×(List Nat))=>some (a2.2,a2.1)
def Qm1(n:Nat)(x0:(List Nat))(x1:Int):Option ((List Nat)):=(some (decide ((x0.length:Int)<=(wrap64 (Int.tdiv (max x1 (0:Int)) (32:Int)))))).bind λz1=>bif z1 then(some ([]:List Nat))else((some (wrap64 ((x0.length:Int) - (wrap64 (Int.tdiv (max x1 (0:Int)) (32:Int)))))).bind λz2=>(mkM 4 (0:Nat) z2).bind λy3=>(rangeL (λ(g:Nat) (_:Nat) (v:(List Nat))=>(some (wrap64 ((wrap64 (Int.tdiv (max x1 (0:Int)) (32:Int)))+(g:Int)))).bind λa6=>(getI x0 a6).bind λa0=>jn (λ(u:(Nat)->Option _)=>(some (wrap64 ((wrap64 (Int.tdiv (max x1 (0:Int)) (32:Int)))+(g:Int)))).bind λa7=>bif decide ((wrap64 (a7+(1:Int)))<(x0.length:Int)) then((some (wrap64 ((wrap64 (Int.tdiv (max x1 (0:Int)) (32:Int)))+(g:Int)))).bind λa8=>(getI x0 (wrap64 (a8+(1:Int)))).bind λa5=>u (a0 ||| ((a5*2 ^ 32)%18446744073709551616)))else(u a0)) (λ(a2:Nat)=>(grd (decide (0<=Int.tmod (max x1 (0:Int)) (32:Int)))).bind λ_=>(some ((a2 / 2 ^ (min (Int.toNat (Int.tmod (max x1 (0:Int)) (32:Int))) 64)))).bind λa9=>(getI v (g:Int)).bind λ_=>some (Lp.go (List.set v (Int.toNat (g:Int)) (a9%4294967296))))) y3 0 y3).bind (lpK λ(a3:(List Nat))=>(Xy n a3).bind λa1=>some a1))
def Qhi(n:Nat)(x0:(List Nat))(x1:(List Nat)):Option ((List Nat)×(List Nat)×Bool):=(Xy n x1).bind λg=>bif decide ((g.length:Int)=(0:Int)) then(some (([]:List Nat),([]:List Nat),false))else((Qf7 n x0 g).bind λr3=>bif decide (r3<(0:Int)) then((Xy n x0).bind λr5=>some (([]:List Nat),r5,true))else(bif decide ((g.length:Int)=(1:Int)) then((getI g (0:Int)).bind λy7=>(Qkn n x0 y7).bind λr9=>(Qcr n r9.2.1).bind λa0=>some (r9.1,a0,true))else((getI g (wrap64 ((g.length:Int) - (1:Int)))).bind λa6=>(Ql8 n a6).bind λu=>(Qld n x0 (wrap64 ((32:Int) - u))).bind λa1=>(appM 4 a1 ([0]:List Nat)).bind λa7=>(Qld n g (wrap64 ((32:Int) - u))).bind λa2=>(Qm0 n a7 a2).bind λv=>(Xy n v.1).bind λa3=>(Qm1 n v.2 (wrap64 ((32:Int) - u))).bind λa4=>some (a3,a4,true))))
def Qko(n:Nat)(x0:(List Nat)):Option (Nat×Bool):=(Zy n x0).bind λu=>bif decide ((2:Int)<(u.length:Int)) then(some (0,false))else((rangeL (λ(g:Nat) (a1:Nat) (v:Nat)=>(grd (decide (0<=wrap64 ((32:Int)*(g:Int))))).bind λ_=>(some (((a1*2 ^ (min (Int.toNat (wrap64 ((32:Int)*(g:Int)))) 64))%18446744073709551616))).bind λa2=>some (Lp.go (v ||| a2))) u 0 0).bind (lpK λ(a0:Nat)=>some (a0,true)))
def Qi0(n:Nat)(x0:Nat)(x1:Nat):Option (Nat):=(loopM (λ(g:Nat×Nat)=>bif !decide (g.2=0) then((grd (g.2 != 0)).bind λ_=>some (Lp.go (g.2,(g.1%g.2))))else(some (Lp.out g.1))) n (x0,x1)).bind λ(u:Nat)=>some u
def Qle(n:Nat)(x0:(List Nat))(x1:(List Nat)):Option ((List Nat)):=(Xy n x0).bind λr1=>(Xy n x1).bind λr3=>(loopM (λ(g:(List Nat)×(List Nat))=>bif decide ((2:Int)<(g.2.length:Int)) then((Qhi n g.1 g.2).bind λv=>some (Lp.go (g.2,v.2.1)))else(some (Lp.out (g.1,g.2)))) n (r1,r3)).bind λ(u:(List Nat)×(List Nat))=>bif decide ((u.2.length:Int)=(0:Int)) then(some u.1)else((Qhi n u.1 u.2).bind λa0=>(Qko n u.2).bind λa1=>(Qko n a0.2.1).bind λa2=>(Qi0 n a1.1 a2.1).bind λa3=>(Qcr n a3).bind λa4=>some a4)
def Qlf(x0:(List Nat)):Option (Bool):=jn (λ(g:(Bool)->Option _)=>bif decide ((x0.length:Int)=(1:Int)) then((getI x0 (0:Int)).bind λv=>g (decide (v=1)))else(g false)) (λ(u:Bool)=>some u)
def Qhj(n:Nat)(x0:(List Nat))(x1:(List Nat)):Option ((List Nat)×(List Nat)):=(Qle n x0 x1).bind λg=>bif decide ((g.length:Int)=(0:Int)) then(some (([]:List Nat),([]:List Nat)))else((Qlf g).bind λv=>bif v then((Xy n x0).bind λr5=>(Xy n x1).bind λr7=>some (r5,r7))else((Qhi n x0 g).bind λr9=>(Qhi n x1 g).bind λu=>some (r9.1,u.1)))
def Qd2(n:Nat)(x0:Qk):Option (Qk):=(Xy n x0.A3).bind λg=>(Yp x0.Neg g).bind λu=>some u
def Qb5(n:Nat)(x0:Qk)(x1:(List Nat)):Option (Qa):=(Qhj n x0.A3 x1).bind λg=>(Qd2 n (⟨x0.Neg,g.1⟩:Qk)).bind λu=>some (⟨u,g.2⟩:Qa)
def Qhk(n:Nat)(x0:Qa)(x1:Qa):Option (Qa):=(Xu n x0).bind λg=>(Xu n x1).bind λu=>(Qbq n g.1 u.2).bind λr5=>(Qbq n u.1 g.2).bind λr7=>(Qkm n r5 r7).bind λr9=>(Qdb n g.2 u.2).bind λv=>(Qb5 n r9 v).bind λa0=>some a0
def Qe7(n:Nat)(x0:Qk):Option (Int):=(Qfx n x0.A3).bind λg=>bif g then ( some (0:Int)) else ( bif x0.Neg then ( some (-1:Int)) else ( some (1:Int)))
def Qm2(n:Nat)(x0:Qk)(x1:Qk):Option (Int):=(Qkm n x0 x1).bind λg=>(Qe7 n g).bind λu=>some u
def Qjv(n:Nat)(x0:Qa)(x1:Qa):Option (Int):=(Xu n x0).bind λg=>(Xu n x1).bind λu=>(Qbq n g.1 u.2).bind λv=>(Qbq n u.1 g.2).bind λr7=>(Qm2 n v r7).bind λr9=>some r9
def Vl(n:Nat)(x0:Qa):Option (Qa):=(Xu n x0).bind λg=>(Qb5 n g.1 g.2).bind λu=>some u
def Qbr(x0:Int)(x1:Int):Option (Bool):=jn (λ(g:(Bool)->Option _)=>bif decide ((0:Int)<=x0) then ( g (decide (x0<x1))) else ( g false)) (λ(u:Bool)=>some u)
def Qlg(x0:Qp):Option (Bool):=jn (λ(g:(Bool)->Option _)=>(Qbr (wrap64 (x0.Ax - (1:Int))) (6:Int)).bind λv=>bif v then((Qbr x0.A1 (7:Int)).bind λu=>bif u then(bif decide ((x0.Aw.length:Int)=x0.Ax) then(g (decide ((x0.Code.length:Int)<=(300:Int))))else(g false))else(g false))else(g false)) (λ(s7:Bool)=>some s7)
def Qn9(x0:Q2):Option (Vz):=some (⟨x0.Op,x0.A,x0.B⟩:Vz)
def Z3(n:Nat)(x0:Qa):Option (Bool):=(Vl n x0).bind λu=>jn (λ(g:(Bool)->Option _)=>bif (x0.Num.Neg == u.Num.Neg) then(bif decide ((x0.Num.A3.length:Int)=(u.Num.A3.length:Int)) then(bif decide ((x0.Den.length:Int)=(u.Den.length:Int)) then((Qf7 n x0.Num.A3 u.Num.A3).bind λv=>bif decide (v=(0:Int)) then((Qf7 n x0.Den u.Den).bind λa0=>g (decide (a0=(0:Int))))else(g false))else(g false))else(g false))else(g false)) (λ(s9:Bool)=>some s9)
def Qlh(x0:Qa):Option (Bool):=jn (λ(g:(Bool)->Option _)=>bif !x0.Num.Neg then(bif decide ((x0.Num.A3.length:Int)=(0:Int)) then(g (decide ((x0.Den.length:Int)=(0:Int))))else(g false))else(g false)) (λ(u:Bool)=>some u)
def Qi1(x0:Q2):Option ((List Int)):=jn (λ(u:(Bool)->Option _)=>bif decide (x0.Op=(6:Int)) then(u (decide (x0.Op=(6:Int))))else(u (decide (x0.Op=(11:Int))))) (λ(v:Bool)=>bif v then(some ([x0.A]:List Int))else(jn (λ(g:(Bool)->Option _)=>bif decide (x0.Op=(7:Int)) then(g (decide (x0.Op=(7:Int))))else(bif decide (x0.Op=(8:Int)) then(g (decide (x0.Op=(8:Int))))else(bif decide (x0.Op=(9:Int)) then(g (decide (x0.Op=(9:Int))))else(g (decide (x0.Op=(10:Int))))))) (λ(s6:Bool)=>bif s6 then(some ([x0.A,x0.B]:List Int))else(some ([]:List Int)))))
def Ql9(n:Nat)(x0:Qp)(x1:Int):Option (Bool):=(getI x0.Code x1).bind λg=>bif decide (g.Op=(1:Int)) then(jn (λ(j7:(Bool)->Option _)=>(Qn9 g).bind λa2=>bif (Qeu a2 (⟨(1:Int),0,0⟩:Vz)) then((Z3 n g.N).bind λa3=>j7 a3)else(j7 false)) (λ(s9:Bool)=>some s9))else((Qlh g.N).bind λa4=>bif !a4 then(some false)else((Qi1 g).bind λa5=>(rangeL (λ(_:Nat) (b4:Int) (_:Unit)=>(Qbr b4 x1).bind λa6=>bif !a6 then(some (Lp.out (false)))else(some (Lp.go ()))) a5 0 ()).bind (lpK λ(_:Unit)=>bif decide (g.Op=(2:Int)) then((Qn9 g).bind λa7=>some (Qeu a7 (⟨(2:Int),0,0⟩:Vz)))else(bif decide (g.Op=(3:Int)) then(jn (λ(u:(Bool)->Option _)=>(Qbr g.A x0.Ax).bind λa8=>bif a8 then(u (decide (g.B=(0:Int))))else(u false)) (λ(b1:Bool)=>some b1))else(bif decide (g.Op=(4:Int)) then(jn (λ(v:(Bool)->Option _)=>(Qbr g.A x0.A1).bind λa9=>bif a9 then(v (decide (g.B=(0:Int))))else(v false)) (λ(b2:Bool)=>some b2))else(bif decide (g.Op=(6:Int)) then(some (decide (g.B=(0:Int))))else(bif decide (g.Op=(11:Int)) then(jn (λ(a0:(Bool)->Option _)=>bif decide ((-8:Int)<=g.B) then(a0 (decide (g.B<=(8:Int))))else(a0 false)) (λ(b3:Bool)=>some b3))else((Qi1 g).bind λb0=>some (decide ((b0.length:Int)=(2:Int)))))))))))
def Qor(n:Nat)(x0:Qp):Option (Int):=(Qlg x0).bind λr1=>bif !r1 then(some (-2:Int))else((rangeL (λ(g:Nat) (_:Q2) (_:Unit)=>(Ql9 n x0 (g:Int)).bind λu=>bif !u then(some (Lp.out ((g:Int))))else(some (Lp.go ()))) x0.Code 0 ()).bind (lpK λ(_:Unit)=>(rangeL (λ(_:Nat) (a0:Int) (_:Unit)=>(Qbr a0 (x0.Code.length:Int)).bind λv=>bif !v then(some (Lp.out ((x0.Code.length:Int))))else(some (Lp.go ()))) x0.Aw 0 ()).bind (lpK λ(_:Unit)=>some (-1:Int))))
def Qbs(n:Nat)(x0:Qp):Option (Bool):=(Qor n x0).bind λg=>some (decide (g=(-1:Int)))
def Qos(n:Nat)(x0:Int):Option (Qk):=bif decide (x0<(0:Int)) then((some (((18446744073709551616 - (Int.toNat (x0%18446744073709551616)))%18446744073709551616))).bind λz1=>(Qcr n z1).bind λg=>(Yp true g).bind λu=>some u)else((Qcr n (Int.toNat (x0%18446744073709551616))).bind λv=>(Yp false v).bind λr8=>some r8)
def Ky(n:Nat)(x0:Int):Option (Qa):=(Qos n x0).bind λg=>(Qcr n 1).bind λu=>some (⟨g,u⟩:Qa)
def Qf9(x0:Nat):Option (Bool):=jn (λ(g:(Bool)->Option _)=>bif decide (48<=x0) then ( g (decide (x0<=57))) else ( g false)) (λ(u:Bool)=>some u)
def Qgl(x0:Nat):Option (Bool):=jn (λ(g:(Bool)->Option _)=>bif decide (97<=x0) then(bif decide (x0<=122) then(g true)else(bif decide (65<=x0) then(bif decide (x0<=90) then(g true)else(g (decide (x0=95))))else(g (decide (x0=95)))))else(bif decide (65<=x0) then(bif decide (x0<=90) then(g true)else(g (decide (x0=95))))else(g (decide (x0=95))))) (λ(u:Bool)=>some u)
def Qot(n:Nat)(x0:Nat):Option (Bool):=(loopM (λ(g:Nat)=>bif decide (g<([43,45,42,47,94,40,41,91,93,44,59,61]:List UInt8).length) then((some (((decR ([43,45,42,47,94,40,41,91,93,44,59,61]:List UInt8) g:Nat):Int))).bind λu=>bif decide ((Int.toNat (u%256))=x0) then(some (Lp.out (Lp.out (true))))else(some (Lp.go (g+decW ([43,45,42,47,94,40,41,91,93,44,59,61]:List UInt8) g))))else(some (Lp.out (Lp.go ())))) n 0).bind (lpK λ(_:Unit)=>some false)
def Qou(n:Nat)(x0:Nat):Option (Int):=(Qf9 x0).bind λg=>bif g then(some (1:Int))else((Qgl x0).bind λu=>bif u then(some (2:Int))else((Qot n x0).bind λv=>bif v then(some (3:Int))else(some (0:Int))))
def Qov(x0:Int)(x1:Nat):Option (Bool):=jn (λ(g:(Bool)->Option _)=>bif decide (x0=(1:Int)) then((Qf9 x1).bind λu=>bif u then(g true)else(bif decide (x0=(2:Int)) then((Qgl x1).bind λv=>bif v then(g true)else((Qf9 x1).bind λa0=>g a0))else(g false)))else(bif decide (x0=(2:Int)) then((Qgl x1).bind λa1=>bif a1 then(g true)else((Qf9 x1).bind λa2=>g a2))else(g false))) (λ(a3:Bool)=>some a3)
def Qm3(n:Nat)(x0:(List UInt8))(x1:Int):Option (Int):=(loopM (λ(g:Int)=>jn (λ(u:(Bool)->Option _)=>bif decide (g<(x0.length:Int)) then((getS x0 g).bind λa2=>(Qov x1 a2).bind λv=>u v)else(u false)) (λ(a0:Bool)=>bif a0 then(some (Lp.go (wrap64 (g+(1:Int)))))else(some (Lp.out g)))) n (1:Int)).bind λ(a1:Int)=>some a1
def Qow(x0:Int):Option (Int):=bif decide (x0=(1:Int)) then ( some (60:Int)) else ( bif decide (x0=(2:Int)) then ( some (12:Int)) else ( some (1:Int)))
def Qkp(n:Nat)(x0:Ql7):Option (Bool):=jn (λ(u:(Bool)->Option _)=>bif decide (x0.A5=([]:List UInt8)) then(u true)else(bif decide (x0.Au=(0:Int)) then(u true)else((getS x0.A5 (0:Int)).bind λa3=>(Qou n a3).bind λv=>u (!decide (v=x0.Au))))) (λ(s9:Bool)=>bif s9 then(some false)else(jn (λ(g:(Bool)->Option _)=>(Qm3 n x0.A5 x0.Au).bind λa0=>bif decide (a0=(x0.A5.length:Int)) then((Qow x0.Au).bind λa1=>g (decide ((x0.A5.length:Int)<=a1)))else(g false)) (λ(a2:Bool)=>some a2)))
def Qi2(x0:Q1):Option (Bool):=jn (λ(g:(Bool)->Option _)=>bif decide ((x0.B.length:Int)<(1:Int)) then(g true)else(bif decide ((8:Int)<(x0.B.length:Int)) then(g true)else(bif !decide ((x0.C.length:Int)=(x0.B.length:Int)) then(g true)else(bif !decide ((x0.A.length:Int)=(x0.B.length:Int)) then(g true)else(bif !decide ((x0.E.length:Int)=(x0.B.length:Int)) then(g (!decide ((x0.E.length:Int)=(0:Int))))else(g false)))))) (λ(s3:Bool)=>bif s3 then(some false)else((rangeL (λ(u:Nat) (v:(List Qa)) (_:Unit)=>bif !decide ((v.length:Int)=(u:Int)) then(some (Lp.out (false)))else(some (Lp.go ()))) x0.A 0 ()).bind (lpK λ(_:Unit)=>some true)))
def Qhl(n:Nat)(x0:(List Nat)):Option (Int):=(Xy n x0).bind λg=>bif decide ((g.length:Int)=(0:Int)) then(some (0:Int))else((getI g (wrap64 ((g.length:Int) - (1:Int)))).bind λv=>(Ql8 n v).bind λu=>(some (wrap64 ((wrap64 ((32:Int)*(wrap64 ((g.length:Int) - (1:Int)))))+u))).bind λz7=>some z7)
def Qa1(n:Nat)(x0:Qa):Option (Int):=(Qhl n x0.Num.A3).bind λg=>(Qhl n x0.Den).bind λu=>some (wrap64 (g+u))
def Qev(n:Nat)(x0:(List (List Qa))):Option (Bool):=(rangeL (λ(_:Nat) (a2:(List Qa)) (_:Unit)=>(rangeL (λ(_:Nat) (u:Qa) (_:Unit)=>jn (λ(g:(Bool)->Option _)=>(Z3 n u).bind λv=>bif !v then(g true)else((Qa1 n u).bind λa0=>g (decide ((190:Int)<a0)))) (λ(a1:Bool)=>bif a1 then(some (Lp.out (Lp.out (false))))else(some (Lp.go ())))) a2 0 ()).bind (lpK λ(_:Unit)=>some (Lp.go ()))) x0 0 ()).bind (lpK λ(_:Unit)=>some true)
def Vi(n:Nat)(x0:Qa)(x1:Qa):Option (Qa):=(Xu n x0).bind λg=>(Xu n x1).bind λu=>(Qbq n g.1 u.2).bind λr5=>(Qbq n u.1 g.2).bind λr7=>(Qkl n r5 r7).bind λr9=>(Qdb n g.2 u.2).bind λv=>(Qb5 n r9 v).bind λa0=>some a0
def Qe8(n:Nat)(x0:(List Qa)):Option (Qa):=(Ky n (0:Int)).bind λr1=>(rangeL (λ(_:Nat) (a0:Qa) (u:Qa)=>(Vi n u a0).bind λg=>some (Lp.go g)) x0 0 r1).bind (lpK λ(v:Qa)=>some v)
def Qad(n:Nat)(x0:Qa)(x1:Qa):Option (Bool):=(Qjv n x0 x1).bind λg=>some (decide (g=(0:Int)))
def Qkd(n:Nat)(x0:Q1):Option (Bool):=(rangeL (λ(g:Nat) (a0:(List Qa)) (_:Unit)=>(Qe8 n a0).bind λu=>(getI x0.C (g:Int)).bind λa1=>(Qad n u a1).bind λv=>bif !v then(some (Lp.out (false)))else(some (Lp.go ()))) x0.A 0 ()).bind (lpK λ(_:Unit)=>some true)
def Qgg(n:Nat)(x0:Q1):Option (Int):=(Ky n (1:Int)).bind λv=>(Qkp n (⟨(2:Int),x0.A6,0⟩:Ql7)).bind λr3=>bif !r3 then(some (1:Int))else((Qi2 x0).bind λr5=>bif !r5 then(some (2:Int))else(jn (λ(g:(Bool)->Option _)=>(Qev n x0.A).bind λa0=>bif !a0 then(g true)else((Qev n ([x0.B,x0.C,x0.E]:List (List Qa))).bind λa1=>g (!a1))) (λ(a7:Bool)=>bif a7 then(some (3:Int))else((Qkd n x0).bind λa2=>bif !a2 then(some (4:Int))else((Qe8 n x0.B).bind λa3=>(Qad n a3 v).bind λa4=>bif !a4 then(some (5:Int))else(jn (λ(u:(Bool)->Option _)=>bif decide ((0:Int)<(x0.E.length:Int)) then((Qe8 n x0.E).bind λa5=>(Qad n a5 v).bind λa6=>u (!a6))else(u false)) (λ(a8:Bool)=>bif a8 then(some (6:Int))else(some (0:Int)))))))))
def Qgh(n:Nat)(x0:Q1):Option (Bool):=(Qgg n x0).bind λg=>some (decide (g=(0:Int)))
def Qbt(n:Nat)(x0:Qg):Option (Bool):=jn (λ(g:(Bool)->Option _)=>(Qbs n x0.Tape).bind λv=>bif v then((Qgh n x0.Aq).bind λu=>bif u then(g (decide ((x0.P.length:Int)=x0.Tape.A1)))else(g false))else(g false)) (λ(s7:Bool)=>some s7)
def X5(x0:Int):Option (Qj):=some (⟨(⟨0,0⟩:Qc9),min (max x0 (0:Int)) (4096:Int)⟩:Qj)
def Zj(n:Nat)(x0:Int):Option ((List Qa)):=(mkM 56 ((⟨(⟨false,[]⟩:Qk),[]⟩:Qa):Qa) (min (max x0 (0:Int)) (300:Int))).bind λy1=>(loopM (λ(g:(List Qa)×Int)=>bif decide (g.2<(min (max x0 (0:Int)) (300:Int))) then((Ky n (0:Int)).bind λu=>(getI g.1 g.2).bind λ_=>some (Lp.go ((List.set g.1 (Int.toNat g.2) u),wrap64 (g.2+(1:Int)))))else(some (Lp.out g.1))) n (y1,(0:Int))).bind λ(v:(List Qa))=>some v
def Qa2(n:Nat)(x0:Qa):Option (Int):=(Xu n x0).bind λg=>(Qe7 n g.1).bind λu=>some u
def Wn(n:Nat)(x0:Qa)(x1:Qa):Option (Qa):=(Xu n x0).bind λg=>(Xu n x1).bind λu=>(Qkj n g.1 u.1).bind λv=>(Qdb n g.2 u.2).bind λr7=>(Qb5 n v r7).bind λr9=>some r9
def Qli(n:Nat)(x0:(List Qa))(x1:(List (List Qa)))(x2:Int):Option ((List Qa)×Bool):=jn (λ(j1:(Bool)->Option _)=>bif !decide ((x0.length:Int)=(x1.length:Int)) then(j1 true)else(bif decide (x2<(0:Int)) then(j1 true)else(j1 (decide ((300:Int)<x2))))) (λ(s3:Bool)=>bif s3 then(some (([]:List Qa),false))else((rangeL (λ(_:Nat) (b3:(List Qa)) (_:Unit)=>bif !decide ((b3.length:Int)=x2) then(some (Lp.out ((([]:List Qa),false))))else(some (Lp.go ()))) x1 0 ()).bind (lpK λ(_:Unit)=>(Zj n x2).bind λb2=>(rangeL (λ(v:Nat) (a7:(List Qa)) (a0:(List Qa))=>(getI x0 (v:Int)).bind λa9=>(Qa2 n a9).bind λa2=>bif decide (a2=(0:Int)) then(some (Lp.go a0))else((rangeL (λ(g:Nat) (a8:Qa) (u:(List Qa))=>(getI u (g:Int)).bind λb0=>(getI x0 (v:Int)).bind λb1=>(Wn n b1 a8).bind λa3=>(Vi n b0 a3).bind λa4=>(getI u (g:Int)).bind λ_=>some (Lp.go (List.set u (Int.toNat (g:Int)) a4))) a7 0 a0).bind (lpK λ(a5:(List Qa))=>some (Lp.go a5)))) x1 0 b2).bind (lpK λ(a6:(List Qa))=>some (a6,true)))))
def Y9(n:Nat)(x0:Qa)(x1:(List Qa)):Option ((List Qa)):=(rangeL (λ(_:Nat) (a0:Qa) (u:(List Qa))=>(Wn n x0 a0).bind λg=>(appM 56 u ([g]:List Qa)).bind λa1=>some (Lp.go a1)) x1 0 ([]:List Qa)).bind (lpK λ(v:(List Qa))=>some v)
def Xp(n:Nat)(_:Qg)(_:Qa)(x0_h:Qa)(x0_y:(List Qa))(_:Qj)(_:(List (List Qa)))(x0_out_Ks:(List (List Qa)))(_:(List Qa))(_:(List Qa))(x1:(List Qa)):Option ((List Qa)):=(Qli n x1 x0_out_Ks (x0_y.length:Int)).bind λg=>(Y9 n x0_h g.1).bind λu=>some u
def Qox(n:Nat)(x0:(List Qa)):Option ((List Qa)):=(rangeL (λ(_:Nat) (a0:Qa) (u:(List Qa))=>(Vl n a0).bind λg=>(appM 56 u ([g]:List Qa)).bind λa1=>some (Lp.go a1)) x0 0 ([]:List Qa)).bind (lpK λ(v:(List Qa))=>some v)
def X8(n:Nat)(x0:(List (List Qa))):Option ((List Qa)×Bool):=bif decide ((x0.length:Int)=(0:Int)) then(some (([]:List Qa),true))else((getI x0 (0:Int)).bind λy1=>(Qox n y1).bind λr3=>(sub x0 (1:Int) (x0.length:Int)).bind λy5=>(rangeL (λ(_:Nat) (a0:(List Qa)) (v:(List Qa))=>bif !decide ((a0.length:Int)=(v.length:Int)) then(some (Lp.out ((([]:List Qa),false))))else((rangeL (λ(g:Nat) (a4:Qa) (u:(List Qa))=>(getI u (g:Int)).bind λa5=>(Vi n a5 a4).bind λa1=>(getI u (g:Int)).bind λ_=>some (Lp.go (List.set u (Int.toNat (g:Int)) a1))) a0 0 v).bind (lpK λ(a2:(List Qa))=>some (Lp.go a2)))) y5 0 r3).bind (lpK λ(a3:(List Qa))=>some (a3,true)))
def Qaq(n:Nat)(x0_p:Qg)(x0_t:Qa)(x0_h:Qa)(x0_y:(List Qa))(x0_g:Qj)(x0_out_Ys:(List (List Qa)))(x0_out_Ks:(List (List Qa)))(x0_out_Next:(List Qa))(x0_out_Err:(List Qa))(x1:(List Qa)):Option ((List Qa)):=(Xp n x0_p x0_t x0_h x0_y x0_g x0_out_Ys x0_out_Ks x0_out_Next x0_out_Err x1).bind λg=>(X8 n ([x0_y,g]:List (List Qa))).bind λu=>some u.1
def Qff(x0:Qj)(x1:Int):Option (Qj):=some (⟨(⟨wrap64 (x0.Count.Seen+(1:Int)),max x0.Count.Peak x1⟩:Qc9),x0.limit⟩:Qj)
def Wb(n:Nat)(x0:Qj)(x1:Qa):Option (Bool×Qj):=(Qa1 n x1).bind λg=>(Qff x0 g).bind λu=>some (decide (g<=u.limit),u)
def Xq(n:Nat)(x0:Qj)(x1:(List Qa)):Option (Int×Bool×Qj):=(rangeL (λ(u:Nat) (a1:Qa) (v:Qj)=>(Wb n v a1).bind λg=>bif !g.1 then(some (Lp.out (((u:Int),false,g.2))))else(some (Lp.go g.2))) x1 0 x0).bind (lpK λ(a0:Qj)=>some ((x1.length:Int),true,a0))
def Yc(n:Nat)(_:Qg)(_:Qa)(_:Qa)(_:(List Qa))(x0_g:Qj)(_:(List (List Qa)))(_:(List (List Qa)))(_:(List Qa))(_:(List Qa))(x1:(List Qa))(x2:Int):Option (Qe×Qj):=(Xq n x0_g x1).bind λg=>bif !g.2.1 then(some ((⟨(6:Int),0,x2,wrap64 ((300:Int)+g.1)⟩:Qe),g.2.2))else(some ((⟨0,0,0,0⟩:Qe),g.2.2))
def Qfm(n:Nat)(x0:Qg)(x1:Qa)(x2:Qa)(x3:Int):Option (Qa):=jn (λ(g:(Bool)->Option _)=>bif decide (x3<(0:Int)) then(g true)else(g (decide ((x0.Aq.C.length:Int)<=x3)))) (λ(s3:Bool)=>bif s3 then((Vl n x1).bind λv=>some v)else((getI x0.Aq.C x3).bind λy6=>(Wn n x2 y6).bind λr8=>(Vi n x1 r8).bind λu=>some u))
def Qt6(x0:Qg)(x1:Qa)(x2:(List Qa)):Option (V5):=some (⟨x1,x2,x0.P⟩:V5)
def Qlj(n:Nat)(x0:(List Qa)):Option ((List Qa)):=(rangeL (λ(_:Nat) (a0:Qa) (u:(List Qa))=>(Vl n a0).bind λg=>(appM 56 u ([g]:List Qa)).bind λa1=>some (Lp.go a1)) x0 0 ([]:List Qa)).bind (lpK λ(v:(List Qa))=>some v)
def Qga(n:Nat)(x0:V5):Option (V5):=(Vl n x0.T).bind λg=>(Qlj n x0.Y).bind λu=>(Qlj n x0.P).bind λv=>some (⟨g,u,v⟩:V5)
def Qe1(n:Nat)(x0:Qa):Option (Qa):=(Vl n x0).bind λg=>(Qkk n g.Num).bind λu=>some (⟨u,g.Den⟩:Qa)
def Qio(n:Nat)(_:Qj)(x1:Qa):Option (Qa):=(Qe1 n x1).bind λg=>some g
def Qi3(n:Nat)(x0:(List Nat))(x1:Int):Option ((List Nat)):=(Qcr n 1).bind λv=>(loopM (λ(g:(List Nat)×Int)=>bif decide (g.2<x1) then((Qdb n g.1 x0).bind λu=>some (Lp.go (u,wrap64 (g.2+(1:Int)))))else(some (Lp.out g.1))) n (v,(0:Int))).bind λ(t9:(List Nat))=>some t9
def Qhm(n:Nat)(x0:Qa)(x1:Int):Option (Qa×Bool):=jn (λ(v:(Bool)->Option _)=>bif decide (x1<(-8:Int)) then(v true)else(bif decide ((8:Int)<x1) then(v true)else(bif decide (x1<(0:Int)) then((Qa2 n x0).bind λr6=>v (decide (r6=(0:Int))))else(v false)))) (λ(s5:Bool)=>bif s5 then((Ky n (0:Int)).bind λr8=>some (r8,false))else((Vl n x0).bind λu=>(Qi3 n u.Num.A3 (max x1 (wrap64 (-x1)))).bind λa2=>(Qi3 n u.Den (max x1 (wrap64 (-x1)))).bind λa3=>jn (λ(a0:((List Nat)×(List Nat))->Option _)=>bif decide (x1<(0:Int)) then(a0 (a3,a2))else(a0 (a2,a3))) (λ(g:(List Nat)×(List Nat))=>jn (λ(a1:(Qa)->Option _)=>bif u.Num.Neg then((Qd2 n (⟨decide ((Int.tmod (max x1 (wrap64 (-x1))) (2:Int))=(1:Int)),g.1⟩:Qk)).bind λa4=>a1 (⟨a4,g.2⟩:Qa))else((Qd2 n (⟨false,g.1⟩:Qk)).bind λa5=>a1 (⟨a5,g.2⟩:Qa))) (λ(a6:Qa)=>some (a6,true)))))
def Qip(n:Nat)(_:Qj)(x1:Qa)(x2:Int):Option (Qa×Bool):=(Qhm n x1 x2).bind λg=>some (g.1,g.2)
def Qiq(n:Nat)(_:Qj)(x1:Qa)(x2:Qa):Option (Qa):=(Vi n x1 x2).bind λg=>some g
def Qir(n:Nat)(_:Qj)(x1:Qa)(x2:Qa):Option (Qa):=(Qhk n x1 x2).bind λg=>some g
def Qis(n:Nat)(_:Qj)(x1:Qa)(x2:Qa):Option (Qa):=(Wn n x1 x2).bind λg=>some g
def Qb8(n:Nat)(x0:Qa)(x1:Qa):Option (Qa×Bool):=(Xu n x0).bind λu=>(Xu n x1).bind λg=>(Qe7 n g.1).bind λr5=>bif decide (r5=(0:Int)) then((Ky n (0:Int)).bind λr7=>some (r7,false))else((Qbq n u.1 g.2).bind λr9=>(Qdb n u.2 g.1.A3).bind λv=>(Qb5 n (⟨(r9.Neg != g.1.Neg),r9.A3⟩:Qk) v).bind λa0=>some (a0,true))
def Qit(n:Nat)(_:Qj)(x1:Qa)(x2:Qa):Option (Qa×Bool):=(Qb8 n x1 x2).bind λg=>some (g.1,g.2)
def Qjw(n:Nat)(_:Qj)(x1:Qa):Option (Qa):=(Vl n x1).bind λg=>some g
def Xz(n:Nat)(x0_Arith_g:Qj)(x1:Q2)(x2:Qah):Option (Qa):=bif decide (x1.Op=(1:Int)) then((Qjw n x0_Arith_g x1.N).bind λg=>some g)else(bif decide (x1.Op=(3:Int)) then((getI x2.Y x1.A).bind λu=>some u)else(bif decide (x1.Op=(4:Int)) then((getI x2.P x1.A).bind λv=>some v)else(some x2.T)))
def Vn(n:Nat)(x0_Arith_g:Qj)(x1:Q2)(x2:Qah)(x3:(List Qa)):Option (Qa×Bool):=bif decide (x1.Op=(6:Int)) then((getI x3 x1.A).bind λy1=>(Qio n x0_Arith_g y1).bind λr3=>some (r3,true))else(bif decide (x1.Op=(11:Int)) then((getI x3 x1.A).bind λy5=>(Qip n x0_Arith_g y5 x1.B).bind λr7=>some (r7.1,r7.2))else(bif decide (x1.Op=(7:Int)) then((getI x3 x1.A).bind λy9=>(getI x3 x1.B).bind λa3=>(Qiq n x0_Arith_g y9 a3).bind λu=>some (u,true))else(bif decide (x1.Op=(8:Int)) then((getI x3 x1.A).bind λa4=>(getI x3 x1.B).bind λa5=>(Qir n x0_Arith_g a4 a5).bind λv=>some (v,true))else(bif decide (x1.Op=(9:Int)) then((getI x3 x1.A).bind λa6=>(getI x3 x1.B).bind λa7=>(Qis n x0_Arith_g a6 a7).bind λa0=>some (a0,true))else(bif decide (x1.Op=(10:Int)) then((getI x3 x1.A).bind λa8=>(getI x3 x1.B).bind λa9=>(Qit n x0_Arith_g a8 a9).bind λg=>some (g.1,g.2))else((Xz n x0_Arith_g x1 x2).bind λa1=>some (a1,true)))))))
def Qe9(n:Nat)(x0_g:Qj)(x1:Qa):Option (Bool×Qj):=(Wb n x0_g x1).bind λg=>some (g.1,g.2)
def Wz(n:Nat)(x0_Arith_g:Qj)(x1:Qp)(x2:Qah):Option ((List Qa)×Qe×Qj):=jn (λ(j3:(Bool)->Option _)=>(Qbs n x1).bind λr6=>bif !r6 then(j3 true)else(bif !decide ((x2.Y.length:Int)=x1.Ax) then(j3 true)else(j3 (!decide ((x2.P.length:Int)=x1.A1))))) (λ(s5:Bool)=>bif s5 then(some (([]:List Qa),(⟨(2:Int),0,0,0⟩:Qe),x0_Arith_g))else((rangeL (λ(a0:Nat) (a3:Q2) (g:Qj×(List Qa))=>(Vn n g.1 a3 x2 g.2).bind λu=>bif !u.2 then(some (Lp.out ((([]:List Qa),(⟨(3:Int),0,0,(a0:Int)⟩:Qe),g.1))))else((Qe9 n g.1 u.1).bind λv=>bif !v.1 then(some (Lp.out ((([]:List Qa),(⟨(6:Int),0,0,(a0:Int)⟩:Qe),v.2))))else((appM 56 g.2 ([u.1]:List Qa)).bind λa4=>some (Lp.go (v.2,a4))))) x1.Code 0 (x0_Arith_g,([]:List Qa))).bind (lpK λ(a1:Qj×(List Qa))=>some (a1.2,(⟨0,0,0,0⟩:Qe),a1.1))))
def Qjx(n:Nat)(x0:Qp)(x1:V5)(x2:Int):Option ((List Qa)×Qe):=(Qga n x1).bind λg=>(X5 x2).bind λv=>(Wz n v x0 (⟨g.T,g.Y,g.P⟩:Qah)).bind λu=>some (u.1,u.2.1)
def Qrx(n:Nat)(x0:Qp)(x1:(List Qa)):Option ((List Qa)):=jn (λ(g:(Bool)->Option _)=>(Qbs n x0).bind λr6=>bif !r6 then(g true)else(g (!decide ((x1.length:Int)=(x0.Code.length:Int))))) (λ(s5:Bool)=>bif s5 then(some ([]:List Qa))else((rangeL (λ(_:Nat) (a1:Int) (v:(List Qa))=>(getI x1 a1).bind λa2=>(Vl n a2).bind λu=>(appM 56 v ([u]:List Qa)).bind λa3=>some (Lp.go a3)) x0.Aw 0 ([]:List Qa)).bind (lpK λ(a0:(List Qa))=>some a0)))
def Qm4(n:Nat)(x0:Qp)(x1:V5)(x2:Int):Option ((List Qa)×Qe):=(Qjx n x0 x1 x2).bind λg=>bif !(Qx g.2 (⟨0,0,0,0⟩:Qe)) then(some (([]:List Qa),g.2))else((Qrx n x0 g.1).bind λu=>some (u,g.2))
def Z4(n:Nat)(x0_p:Qg)(x0_t:Qa)(x0_h:Qa)(x0_y:(List Qa))(x0_g:Qj)(x0_out_Ys:(List (List Qa)))(x0_out_Ks:(List (List Qa)))(x0_out_Next:(List Qa))(x0_out_Err:(List Qa))(x1:Int):Option (Qe×Qg×Qa×Qa×(List Qa)×(List Qa)×(List Qa)×Qj×(List (List Qa))×(List (List Qa))):=(getI x0_p.Aq.A x1).bind λy1=>(Qaq n x0_p x0_t x0_h x0_y x0_g x0_out_Ys x0_out_Ks x0_out_Next x0_out_Err y1).bind λv=>(Yc n x0_p x0_t x0_h x0_y x0_g x0_out_Ys x0_out_Ks x0_out_Next x0_out_Err v x1).bind λu=>bif !(Qx u.1 (⟨0,0,0,0⟩:Qe)) then(some (u.1,x0_p,x0_t,x0_h,x0_y,x0_out_Next,x0_out_Err,u.2,x0_out_Ys,x0_out_Ks))else((Qfm n x0_p x0_t x0_h x1).bind λr7=>(Qt6 x0_p r7 v).bind λr9=>(Qm4 n x0_p.Tape r9 x0_p.Av).bind λg=>bif !(Qx g.2 (⟨0,0,0,0⟩:Qe)) then(some ((⟨g.2.Au,g.2.Step,x1,g.2.At⟩:Qe),x0_p,x0_t,x0_h,x0_y,x0_out_Next,x0_out_Err,u.2,x0_out_Ys,x0_out_Ks))else((appM 24 x0_out_Ys ([v]:List (List Qa))).bind λa0=>(appM 24 x0_out_Ks ([g.1]:List (List Qa))).bind λa1=>some (g.2,x0_p,x0_t,x0_h,x0_y,x0_out_Next,x0_out_Err,u.2,a0,a1)))
def Qt7(n:Nat)(x0:(List Qa))(x1:(List Qa)):Option ((List Qa)×Bool):=(Ky n (-1:Int)).bind λu=>(Y9 n u x1).bind λv=>(X8 n ([x0,v]:List (List Qa))).bind λg=>some (g.1,g.2)
def Qfa(n:Nat)(x0:Q1):Option ((List Qa)):=jn (λ(g:(Bool)->Option _)=>(Qgh n x0).bind λu=>bif !u then(g true)else(g (decide ((x0.E.length:Int)=(0:Int))))) (λ(s5:Bool)=>bif s5 then(some ([]:List Qa))else((Qt7 n x0.B x0.E).bind λv=>some v.1))
def Qeo(n:Nat)(x0_p:Qg)(x0_t:Qa)(x0_h:Qa)(x0_y:(List Qa))(x0_g:Qj)(x0_out_Ys:(List (List Qa)))(x0_out_Ks:(List (List Qa)))(x0_out_Next:(List Qa))(x0_out_Err:(List Qa)):Option (Qe×Qg×Qa×Qa×(List Qa)×(List Qa)×(List Qa)×Qj×(List (List Qa))×(List (List Qa))):=(rangeL (λ(a6:Nat) (_:Qa) (v:Qg×Qa×Qa×(List Qa)×Qj×(List (List Qa))×(List (List Qa))×(List Qa)×(List Qa))=>(Z4 n v.1 v.2.1 v.2.2.1 v.2.2.2.1 v.2.2.2.2.1 v.2.2.2.2.2.1 v.2.2.2.2.2.2.1 v.2.2.2.2.2.2.2.1 v.2.2.2.2.2.2.2.2 (a6:Int)).bind λu=>bif !(Qx u.1 (⟨0,0,0,0⟩:Qe)) then(some (Lp.out ((u.1,u.2.1,u.2.2.1,u.2.2.2.1,u.2.2.2.2.1,u.2.2.2.2.2.1,u.2.2.2.2.2.2.1,u.2.2.2.2.2.2.2.1,u.2.2.2.2.2.2.2.2.1,u.2.2.2.2.2.2.2.2.2))))else(some (Lp.go (u.2.1,u.2.2.1,u.2.2.2.1,u.2.2.2.2.1,u.2.2.2.2.2.2.2.1,u.2.2.2.2.2.2.2.2.1,u.2.2.2.2.2.2.2.2.2,u.2.2.2.2.2.1,u.2.2.2.2.2.2.1)))) x0_p.Aq.B 0 (x0_p,x0_t,x0_h,x0_y,x0_g,x0_out_Ys,x0_out_Ks,x0_out_Next,x0_out_Err)).bind (lpK λ(g:Qg×Qa×Qa×(List Qa)×Qj×(List (List Qa))×(List (List Qa))×(List Qa)×(List Qa))=>(Qaq n g.1 g.2.1 g.2.2.1 g.2.2.2.1 g.2.2.2.2.1 g.2.2.2.2.2.1 g.2.2.2.2.2.2.1 g.2.2.2.2.2.2.2.1 g.2.2.2.2.2.2.2.2 x0_p.Aq.B).bind λa0=>(Yc n g.1 g.2.1 g.2.2.1 g.2.2.2.1 g.2.2.2.2.1 g.2.2.2.2.2.1 g.2.2.2.2.2.2.1 a0 g.2.2.2.2.2.2.2.2 a0 (x0_p.Aq.B.length:Int)).bind λa1=>bif !(Qx a1.1 (⟨0,0,0,0⟩:Qe)) then(some (a1.1,g.1,g.2.1,g.2.2.1,g.2.2.2.1,a0,g.2.2.2.2.2.2.2.2,a1.2,g.2.2.2.2.2.1,g.2.2.2.2.2.2.1))else(jn (λ(a3:((List Qa))->Option _)=>(Qfa n x0_p.Aq).bind λa4=>bif decide ((0:Int)<(a4.length:Int)) then((Xp n g.1 g.2.1 g.2.2.1 g.2.2.2.1 a1.2 g.2.2.2.2.2.1 g.2.2.2.2.2.2.1 a0 g.2.2.2.2.2.2.2.2 a4).bind λa7=>a3 a7)else(a3 g.2.2.2.2.2.2.2.2)) (λ(a2:(List Qa))=>(Yc n g.1 g.2.1 g.2.2.1 g.2.2.2.1 a1.2 g.2.2.2.2.2.1 g.2.2.2.2.2.2.1 a0 a2 a2 (wrap64 ((x0_p.Aq.B.length:Int)+(1:Int)))).bind λa5=>some (a5.1,g.1,g.2.1,g.2.2.1,g.2.2.2.1,a0,a2,a5.2,g.2.2.2.2.2.1,g.2.2.2.2.2.2.1))))
def Qgb(n:Nat)(x0:Qg)(x1:Qa)(x2:Qa)(x3:(List Qa)):Option (Jo×Qe):=jn (λ(u:(Bool)->Option _)=>(Qbt n x0).bind λv=>bif !v then(u true)else(u (!decide ((x3.length:Int)=x0.Tape.Ax)))) (λ(s5:Bool)=>bif s5 then(some ((⟨[],[],[],[]⟩:Jo),(⟨(2:Int),0,0,0⟩:Qe)))else((X5 x0.Av).bind λr8=>(Qeo n x0 x1 x2 x3 r8 ([]:List (List Qa)) ([]:List (List Qa)) [] []).bind λg=>bif !(Qx g.1 (⟨0,0,0,0⟩:Qe)) then(some ((⟨[],[],[],[]⟩:Jo),g.1))else(some ((⟨g.2.2.2.2.2.2.2.2.1,g.2.2.2.2.2.2.2.2.2,g.2.2.2.2.2.1,g.2.2.2.2.2.2.1⟩:Jo),(⟨0,0,0,0⟩:Qe)))))
def Qoy(n:Nat)(x0:Qa):Option (Qa):=(Vl n x0).bind λg=>some (⟨(⟨false,g.Num.A3⟩:Qk),g.Den⟩:Qa)
def Qoz(n:Nat)(x0:(List Qa)):Option (Qa):=(Ky n (0:Int)).bind λr1=>(rangeL (λ(a0:Nat) (v:Qa) (u:Qa)=>jn (λ(g:(Bool)->Option _)=>bif decide ((a0:Int)=(0:Int)) then(g true)else((Qjv n v u).bind λa1=>g (decide ((0:Int)<a1)))) (λ(a3:Bool)=>bif a3 then((Vl n v).bind λa2=>some (Lp.go a2))else(some (Lp.go u)))) x0 0 r1).bind (lpK λ(a4:Qa)=>some a4)
def Qjy(n:Nat)(x0:(List Qa)):Option (Qa):=(Ky n (0:Int)).bind λr1=>(rangeL (λ(_:Nat) (a1:Qa) (v:Qa)=>(Qoy n a1).bind λg=>(Qoz n ([v,g]:List Qa)).bind λu=>some (Lp.go u)) x0 0 r1).bind (lpK λ(a0:Qa)=>some a0)
def Qo0(n:Nat)(x0:Qk)(x1:(List Nat)):Option (Qa×Bool):=(Qfx n x1).bind λg=>bif g then ( (Ky n (0:Int)).bind λu=>some (u,false)) else ( (Qb5 n x0 x1).bind λv=>some (v,true))
def Qbu(n:Nat)(x0_p:Qg)(_:Qa)(x0_h:Qa)(x0_w:(List Qa))(_:Jo)(x0_ys:(List (List Qa)))(_:Q7)(_:Qj)(x1:Int):Option ((List Qa)):=(getI x0_p.Aq.B x1).bind λy1=>(Y9 n y1 x0_w).bind λr3=>(loopM (λ(g:(List Qa)×Int)=>bif decide (g.2<(x0_p.Aq.B.length:Int)) then((getI x0_p.Aq.A g.2).bind λa2=>(getI a2 x1).bind λa3=>(getI x0_ys g.2).bind λa4=>(Y9 n a3 a4).bind λu=>(X8 n ([g.1,u]:List (List Qa))).bind λv=>some (Lp.go (v.1,wrap64 (g.2+(1:Int)))))else(some (Lp.out g.1))) n (r3,wrap64 (x1+(1:Int)))).bind λ(a1:(List Qa))=>(Y9 n x0_h a1).bind λa0=>some a0
def Xr(n:Nat)(_:Qg)(_:Qa)(_:Qa)(_:(List Qa))(_:Jo)(_:(List (List Qa)))(_:Q7)(x0_g:Qj)(x1:(List Qa))(x2:Int):Option (Qe×Qj):=(Xq n x0_g x1).bind λg=>bif !g.2.1 then(some ((⟨(6:Int),0,x2,wrap64 ((300:Int)+g.1)⟩:Qe),g.2.2))else(some ((⟨0,0,0,0⟩:Qe),g.2.2))
def Qkq(n:Nat)(x0:Int)(x1:Int):Option (Qa×(List Qa)×(List Qa)):=(Ky n (0:Int)).bind λg=>(Zj n x0).bind λu=>(Zj n x1).bind λv=>some (g,u,v)
def J5(n:Nat)(x0_t:Qp)(x0_done:(List Qa))(x0_co:(List Qa))(x0_grad_T:Qa)(_:(List Qa))(_:(List Qa))(x1:Int)(x2:Qa):Option (Qp×(List Qa)×Qa×(List Qa)):=(getI x0_co x1).bind λu=>(Vi n u x2).bind λg=>(getI x0_co x1).bind λ_=>some (x0_t,x0_done,x0_grad_T,(List.set x0_co (Int.toNat x1) g))
def Qhn(n:Nat)(x0_t:Qp)(x0_done:(List Qa))(x0_co:(List Qa))(x0_grad_T:Qa)(x0_grad_Y:(List Qa))(x0_grad_P:(List Qa))(x1:Q2)(x2:Qa)(x3:Qa):Option (Qp×(List Qa)×Qa×(List Qa)):=(getI x0_done x1.B).bind λy1=>(Qb8 n x2 y1).bind λv=>(J5 n x0_t x0_done x0_co x0_grad_T x0_grad_Y x0_grad_P x1.A v.1).bind λu=>(Wn n v.1 x3).bind λr7=>(Qe1 n r7).bind λr9=>(J5 n u.1 u.2.1 u.2.2.2 u.2.2.1 x0_grad_Y x0_grad_P x1.B r9).bind λg=>some (g.1,g.2.1,g.2.2.1,g.2.2.2)
def Qho(n:Nat)(x0_t:Qp)(x0_done:(List Qa))(x0_co:(List Qa))(x0_grad_T:Qa)(x0_grad_Y:(List Qa))(x0_grad_P:(List Qa))(x1:Q2)(x2:Qa)(x3:Qa):Option (Qp×(List Qa)×Qa×(List Qa)):=(Ky n (0:Int)).bind λr1=>jn (λ(u:(Qa)->Option _)=>bif decide ((0:Int)<x1.B) then((getI x0_done x1.A).bind λa5=>(Qhm n a5 (wrap64 (x1.B - (1:Int)))).bind λv=>u v.1)else(bif decide (x1.B<(0:Int)) then((getI x0_done x1.A).bind λa6=>(Qb8 n x3 a6).bind λa0=>u a0.1)else(u r1))) (λ(a4:Qa)=>(Ky n x1.B).bind λa1=>(Wn n a1 a4).bind λa2=>(Wn n x2 a2).bind λa3=>(J5 n x0_t x0_done x0_co x0_grad_T x0_grad_Y x0_grad_P x1.A a3).bind λg=>some (g.1,g.2.1,g.2.2.1,g.2.2.2))
def Zn(n:Nat)(x0_t:Qp)(x0_done:(List Qa))(x0_co:(List Qa))(x0_grad_T:Qa)(x0_grad_Y:(List Qa))(x0_grad_P:(List Qa))(x1:Int):Option (Qp×(List Qa)×Qa×(List Qa)×(List Qa)×(List Qa)):=(getI x0_t.Code x1).bind λg=>(getI x0_co x1).bind λu=>(Qa2 n u).bind λr5=>bif decide (r5=(0:Int)) then(some (x0_t,x0_done,x0_grad_T,x0_co,x0_grad_Y,x0_grad_P))else(bif decide (g.Op=(2:Int)) then((Vi n x0_grad_T u).bind λr7=>some (x0_t,x0_done,r7,x0_co,x0_grad_Y,x0_grad_P))else(bif decide (g.Op=(3:Int)) then((getI x0_grad_Y g.A).bind λy9=>(Vi n y9 u).bind λa8=>(getI x0_grad_Y g.A).bind λ_=>some (x0_t,x0_done,x0_grad_T,x0_co,(List.set x0_grad_Y (Int.toNat g.A) a8),x0_grad_P))else(bif decide (g.Op=(4:Int)) then((getI x0_grad_P g.A).bind λb4=>(Vi n b4 u).bind λa9=>(getI x0_grad_P g.A).bind λ_=>some (x0_t,x0_done,x0_grad_T,x0_co,x0_grad_Y,(List.set x0_grad_P (Int.toNat g.A) a9)))else(bif decide (g.Op=(6:Int)) then((Qe1 n u).bind λb0=>(J5 n x0_t x0_done x0_co x0_grad_T x0_grad_Y x0_grad_P g.A b0).bind λa0=>some (a0.1,a0.2.1,a0.2.2.1,a0.2.2.2,x0_grad_Y,x0_grad_P))else(bif decide (g.Op=(7:Int)) then((J5 n x0_t x0_done x0_co x0_grad_T x0_grad_Y x0_grad_P g.A u).bind λa1=>(J5 n a1.1 a1.2.1 a1.2.2.2 a1.2.2.1 x0_grad_Y x0_grad_P g.B u).bind λa2=>some (a2.1,a2.2.1,a2.2.2.1,a2.2.2.2,x0_grad_Y,x0_grad_P))else(bif decide (g.Op=(8:Int)) then((J5 n x0_t x0_done x0_co x0_grad_T x0_grad_Y x0_grad_P g.A u).bind λa3=>(Qe1 n u).bind λb1=>(J5 n a3.1 a3.2.1 a3.2.2.2 a3.2.2.1 x0_grad_Y x0_grad_P g.B b1).bind λa4=>some (a4.1,a4.2.1,a4.2.2.1,a4.2.2.2,x0_grad_Y,x0_grad_P))else(bif decide (g.Op=(9:Int)) then((getI x0_done g.B).bind λb5=>(Wn n u b5).bind λb2=>(J5 n x0_t x0_done x0_co x0_grad_T x0_grad_Y x0_grad_P g.A b2).bind λv=>(getI v.2.1 g.A).bind λb6=>(Wn n u b6).bind λb3=>(J5 n v.1 v.2.1 v.2.2.2 v.2.2.1 x0_grad_Y x0_grad_P g.B b3).bind λa5=>some (a5.1,a5.2.1,a5.2.2.1,a5.2.2.2,x0_grad_Y,x0_grad_P))else(bif decide (g.Op=(10:Int)) then((getI x0_done x1).bind λb7=>(Qhn n x0_t x0_done x0_co x0_grad_T x0_grad_Y x0_grad_P g u b7).bind λa6=>some (a6.1,a6.2.1,a6.2.2.1,a6.2.2.2,x0_grad_Y,x0_grad_P))else(bif decide (g.Op=(11:Int)) then((getI x0_done x1).bind λb8=>(Qho n x0_t x0_done x0_co x0_grad_T x0_grad_Y x0_grad_P g u b8).bind λa7=>some (a7.1,a7.2.1,a7.2.2.1,a7.2.2.2,x0_grad_Y,x0_grad_P))else(some (x0_t,x0_done,x0_grad_T,x0_co,x0_grad_Y,x0_grad_P)))))))))))
def Qo1(x0:V8):Option ((List Qa)):=(appM 56 ([x0.T]:List Qa) x0.Y).bind λg=>(appM 56 g x0.P).bind λu=>some u
def Qm5(n:Nat)(x0:Qp)(x1:V5)(x2:(List Qa))(x3:Int):Option (V8×Qe):=(Qkq n (0:Int) (0:Int)).bind λu=>bif !decide ((x2.length:Int)=(x0.Aw.length:Int)) then(some ((⟨u.1,u.2.1,u.2.2⟩:V8),(⟨(2:Int),0,0,0⟩:Qe)))else((Qjx n x0 x1 x3).bind λr3=>bif !(Qx r3.2 (⟨0,0,0,0⟩:Qe)) then(some ((⟨u.1,u.2.1,u.2.2⟩:V8),r3.2))else((mkM 56 ((⟨(⟨false,[]⟩:Qk),[]⟩:Qa):Qa) (r3.1.length:Int)).bind λy5=>(Qkq n x0.Ax x0.A1).bind λr7=>(rangeL (λ(a8:Nat) (b2:Int) (a2:Qp×(List Qa)×(List Qa)×Qa)=>(getI x2 (a8:Int)).bind λb3=>(J5 n a2.1 a2.2.1 a2.2.2.1 a2.2.2.2 r7.2.1 r7.2.2 b2 b3).bind λa1=>some (Lp.go (a1.1,a1.2.1,a1.2.2.2,a1.2.2.1))) x0.Aw 0 (x0,r3.1,y5,r7.1)).bind (lpK λ(a3:Qp×(List Qa)×(List Qa)×Qa)=>(X5 x3).bind λa9=>(loopM (λ(g:Qp×(List Qa)×(List Qa)×Qa×(List Qa)×(List Qa)×Qj×Int)=>bif decide ((0:Int)<=g.2.2.2.2.2.2.2) then((getI g.2.2.1 g.2.2.2.2.2.2.2).bind λb4=>(Vl n b4).bind λb0=>(Wb n g.2.2.2.2.2.2.1 b0).bind λa6=>bif !a6.1 then(some (Lp.out (Lp.out (((⟨u.1,u.2.1,u.2.2⟩:V8),(⟨(6:Int),0,(2:Int),g.2.2.2.2.2.2.2⟩:Qe))))))else((Zn n g.1 g.2.1 g.2.2.1 g.2.2.2.1 g.2.2.2.2.1 g.2.2.2.2.2.1 g.2.2.2.2.2.2.2).bind λa0=>some (Lp.go (a0.1,a0.2.1,a0.2.2.2.1,a0.2.2.1,a0.2.2.2.2.1,a0.2.2.2.2.2,a6.2,wrap64 (g.2.2.2.2.2.2.2 - (1:Int))))))else(some (Lp.out (Lp.go (g.1,g.2.1,g.2.2.1,g.2.2.2.1,g.2.2.2.2.1,g.2.2.2.2.2.1,g.2.2.2.2.2.2.1))))) n (a3.1,a3.2.1,a3.2.2.1,a3.2.2.2,r7.2.1,r7.2.2,a9,wrap64 ((r3.1.length:Int) - (1:Int)))).bind (lpK λ(v:Qp×(List Qa)×(List Qa)×Qa×(List Qa)×(List Qa)×Qj)=>(Qo1 (⟨v.2.2.2.1,v.2.2.2.2.1,v.2.2.2.2.2.1⟩:V8)).bind λb1=>(Xq n v.2.2.2.2.2.2 b1).bind λa7=>bif !a7.2.1 then(some ((⟨u.1,u.2.1,u.2.2⟩:V8),(⟨(6:Int),0,(3:Int),a7.1⟩:Qe)))else(some ((⟨v.2.2.2.1,v.2.2.2.2.1,v.2.2.2.2.2.1⟩:V8),(⟨0,0,0,0⟩:Qe)))))))
def Qma(n:Nat)(x0:Q7)(x1:Q7):Option (Q7×Bool):=(X8 n ([x0.Y,x1.Y]:List (List Qa))).bind λu=>(X8 n ([x0.P,x1.P]:List (List Qa))).bind λv=>jn (λ(g:(Bool)->Option _)=>bif !u.2 then(g true)else(g (!v.2))) (λ(s7:Bool)=>bif s7 then(some ((⟨[],[]⟩:Q7),false))else(some ((⟨u.1,v.1⟩:Q7),true)))
def Qai(n:Nat)(x0_p:Qg)(x0_t:Qa)(x0_h:Qa)(x0_w:(List Qa))(x0_made:Jo)(x0_ys:(List (List Qa)))(x0_sum:Q7)(x0_g:Qj)(x1:Int):Option (Qe×Qg×Qa×Qa×(List Qa)×Jo×Q7×(List (List Qa))×Qj):=(Qbu n x0_p x0_t x0_h x0_w x0_made x0_ys x0_sum x0_g x1).bind λv=>(Xr n x0_p x0_t x0_h x0_w x0_made x0_ys x0_sum x0_g v x1).bind λu=>bif !(Qx u.1 (⟨0,0,0,0⟩:Qe)) then(some (u.1,x0_p,x0_t,x0_h,x0_w,x0_made,x0_sum,x0_ys,u.2))else((Qfm n x0_p x0_t x0_h x1).bind λr5=>(getI x0_made.Ys x1).bind λy7=>(Qm5 n x0_p.Tape (⟨r5,y7,x0_p.P⟩:V5) v x0_p.Av).bind λg=>bif !(Qx g.2 (⟨0,0,0,0⟩:Qe)) then(some ((⟨g.2.Au,g.2.Step,x1,g.2.At⟩:Qe),x0_p,x0_t,x0_h,x0_w,x0_made,x0_sum,x0_ys,u.2))else((getI x0_ys x1).bind λ_=>(Qma n x0_sum (⟨g.1.Y,g.1.P⟩:Q7)).bind λa0=>some (g.2,x0_p,x0_t,x0_h,x0_w,x0_made,a0.1,(List.set x0_ys (Int.toNat x1) g.1.Y),u.2)))
def Qdi(n:Nat)(x0_p:Qg)(x0_t:Qa)(x0_h:Qa)(x0_w:(List Qa))(x0_made:Jo)(x0_ys:(List (List Qa)))(x0_sum:Q7)(x0_g:Qj):Option (Qe×Qg×Qa×Qa×(List Qa)×Jo×Q7×(List (List Qa))×Qj):=(loopM (λ(u:Qg×Qa×Qa×(List Qa)×Jo×(List (List Qa))×Q7×Qj×Int)=>bif decide ((0:Int)<=u.2.2.2.2.2.2.2.2) then((Qai n u.1 u.2.1 u.2.2.1 u.2.2.2.1 u.2.2.2.2.1 u.2.2.2.2.2.1 u.2.2.2.2.2.2.1 u.2.2.2.2.2.2.2.1 u.2.2.2.2.2.2.2.2).bind λv=>bif !(Qx v.1 (⟨0,0,0,0⟩:Qe)) then(some (Lp.out (Lp.out ((v.1,v.2.1,v.2.2.1,v.2.2.2.1,v.2.2.2.2.1,v.2.2.2.2.2.1,v.2.2.2.2.2.2.1,v.2.2.2.2.2.2.2.1,v.2.2.2.2.2.2.2.2)))))else(some (Lp.go (v.2.1,v.2.2.1,v.2.2.2.1,v.2.2.2.2.1,v.2.2.2.2.2.1,v.2.2.2.2.2.2.2.1,v.2.2.2.2.2.2.1,v.2.2.2.2.2.2.2.2,wrap64 (u.2.2.2.2.2.2.2.2 - (1:Int))))))else(some (Lp.out (Lp.go (u.1,u.2.1,u.2.2.1,u.2.2.2.1,u.2.2.2.2.1,u.2.2.2.2.2.1,u.2.2.2.2.2.2.1,u.2.2.2.2.2.2.2.1))))) n (x0_p,x0_t,x0_h,x0_w,x0_made,x0_ys,x0_sum,x0_g,wrap64 ((x0_p.Aq.B.length:Int) - (1:Int)))).bind (lpK λ(g:Qg×Qa×Qa×(List Qa)×Jo×(List (List Qa))×Q7×Qj)=>(Xr n g.1 g.2.1 g.2.2.1 g.2.2.2.1 g.2.2.2.2.1 g.2.2.2.2.2.1 g.2.2.2.2.2.2.1 g.2.2.2.2.2.2.2 g.2.2.2.2.2.2.1.Y (x0_p.Aq.B.length:Int)).bind λa0=>bif !(Qx a0.1 (⟨0,0,0,0⟩:Qe)) then(some (a0.1,g.1,g.2.1,g.2.2.1,g.2.2.2.1,g.2.2.2.2.1,g.2.2.2.2.2.2.1,g.2.2.2.2.2.1,a0.2))else((Xr n g.1 g.2.1 g.2.2.1 g.2.2.2.1 g.2.2.2.2.1 g.2.2.2.2.2.1 g.2.2.2.2.2.2.1 a0.2 g.2.2.2.2.2.2.1.P (wrap64 ((x0_p.Aq.B.length:Int)+(1:Int)))).bind λa1=>some (a1.1,g.1,g.2.1,g.2.2.1,g.2.2.2.1,g.2.2.2.2.1,g.2.2.2.2.2.2.1,g.2.2.2.2.2.1,a1.2)))
def Qdj(n:Nat)(x0:Qg)(x1:Qa)(x2:Qa)(x3:(List Qa))(x4:(List Qa)):Option (Q7×Qe):=(Qgb n x0 x1 x2 x3).bind λu=>jn (λ(v:(Bool)->Option _)=>bif decide (u.2.Au=(2:Int)) then(v true)else(v (!decide ((x4.length:Int)=(x3.length:Int))))) (λ(s5:Bool)=>bif s5 then(some ((⟨[],[]⟩:Q7),(⟨(2:Int),0,0,0⟩:Qe)))else(bif !(Qx u.2 (⟨0,0,0,0⟩:Qe)) then(some ((⟨[],[]⟩:Q7),u.2))else((Zj n (x4.length:Int)).bind λr6=>(Qma n (⟨x4,([]:List Qa)⟩:Q7) (⟨r6,([]:List Qa)⟩:Q7)).bind λr8=>(mkM 24 ([]:(List Qa)) (x0.Aq.B.length:Int)).bind λa2=>(X5 x0.Av).bind λa0=>(Zj n (x0.P.length:Int)).bind λa1=>(Qdi n x0 x1 x2 x4 u.1 a2 (⟨r8.1.Y,a1⟩:Q7) a0).bind λg=>bif !(Qx g.1 (⟨0,0,0,0⟩:Qe)) then(some ((⟨[],[]⟩:Q7),g.1))else(some (g.2.2.2.2.2.2.1,(⟨0,0,0,0⟩:Qe))))))
def Qb9(x0:Jg):Option ((List Qa)):=some ([x0.T,x0.Az,x0.H,x0.A4]:List Qa)
def Qfn(n:Nat)(x0:(List (List Qa))):Option (Bool):=(rangeL (λ(_:Nat) (u:(List Qa)) (_:Unit)=>(rangeL (λ(_:Nat) (v:Qa) (_:Unit)=>(Z3 n v).bind λg=>bif !g then(some (Lp.out (Lp.out (false))))else(some (Lp.go ()))) u 0 ()).bind (lpK λ(_:Unit)=>some (Lp.go ()))) x0 0 ()).bind (lpK λ(_:Unit)=>some true)
def Qlk(n:Nat)(x0:Qy):Option (Bool):=(rangeL (λ(_:Nat) (g:Jg) (_:Unit)=>(Qb9 g).bind λu=>(Qfn n ([u,g.Y]:List (List Qa))).bind λv=>bif !v then(some (Lp.out (false)))else(some (Lp.go ()))) x0.Ar 0 ()).bind (lpK λ(_:Unit)=>(Qfn n ([([x0.T]:List Qa),x0.Y]:List (List Qa))).bind λa0=>some a0)
def Qi4(x0:Qy):Option (Bool):=(rangeL (λ(_:Nat) (v:Jg) (_:Unit)=>bif !decide ((v.Y.length:Int)=(x0.Y.length:Int)) then(some (Lp.out (false)))else(some (Lp.go ()))) x0.Ar 0 ()).bind (lpK λ(_:Unit)=>jn (λ(g:(Bool)->Option _)=>bif decide ((1:Int)<=(x0.Y.length:Int)) then(g (decide ((x0.Y.length:Int)<=(6:Int))))else(g false)) (λ(u:Bool)=>some u))
def Qll(n:Nat)(x0:Qy):Option (Bool):=(rangeL (λ(_:Nat) (g:Jg) (_:Unit)=>jn (λ(u:(Bool)->Option _)=>(Qa2 n g.Az).bind λv=>bif decide (v<=(0:Int)) then(u true)else((Qa2 n g.H).bind λa0=>bif decide (a0<=(0:Int)) then(u true)else((Qjv n g.H g.Az).bind λa1=>bif decide ((0:Int)<a1) then(u true)else((Qa2 n g.A4).bind λa2=>u (decide (a2<(0:Int))))))) (λ(a3:Bool)=>bif a3 then(some (Lp.out (false)))else(some (Lp.go ())))) x0.Ar 0 ()).bind (lpK λ(_:Unit)=>some true)
def Qhp(n:Nat)(x0:(List Qa))(x1:(List Qa)):Option (Bool):=bif !decide ((x0.length:Int)=(x1.length:Int)) then(some false)else((rangeL (λ(g:Nat) (v:Qa) (_:Unit)=>(getI x1 (g:Int)).bind λa0=>(Qad n v a0).bind λu=>bif !u then(some (Lp.out (false)))else(some (Lp.go ()))) x0 0 ()).bind (lpK λ(_:Unit)=>some true))
def Qmb(n:Nat)(x0:Jg)(x1:Qa)(x2:(List Qa)):Option (Bool):=bif x0.Ok then((Vi n x0.T x0.H).bind λr1=>(Qad n x1 r1).bind λr3=>some r3)else(jn (λ(g:(Bool)->Option _)=>(Qad n x1 x0.T).bind λu=>bif u then((Qhp n x2 x0.Y).bind λv=>g v)else(g false)) (λ(a0:Bool)=>some a0))
def Qlm(n:Nat)(x0:Qy):Option (Bool):=(rangeL (λ(g:Nat) (a1:Jg) (_:Unit)=>jn (λ(u:(Qa×(List Qa))->Option _)=>bif decide ((wrap64 ((g:Int)+(1:Int)))<(x0.Ar.length:Int)) then((getI x0.Ar (wrap64 ((g:Int)+(1:Int)))).bind λa2=>(getI x0.Ar (wrap64 ((g:Int)+(1:Int)))).bind λa3=>u (a2.T,a3.Y))else(u (x0.T,x0.Y))) (λ(v:Qa×(List Qa))=>(Qmb n a1 v.1 v.2).bind λa0=>bif !a0 then(some (Lp.out (false)))else(some (Lp.go ())))) x0.Ar 0 ()).bind (lpK λ(_:Unit)=>some true)
def Qo2(n:Nat)(x0:Qy):Option (Int):=(Qlk n x0).bind λg=>bif !g then(some (1:Int))else((Qi4 x0).bind λu=>bif !u then(some (2:Int))else(bif decide ((200:Int)<(x0.Ar.length:Int)) then(some (3:Int))else((Qll n x0).bind λv=>bif !v then(some (4:Int))else((Qlm n x0).bind λr7=>bif !r7 then(some (5:Int))else(some (0:Int))))))
def Qgm(n:Nat)(x0:Qy):Option (Bool):=(Qo2 n x0).bind λg=>some (decide (g=(0:Int)))
def Qfo(n:Nat)(x0:(List Qa)):Option ((List Qa)):=(Ky n (1:Int)).bind λg=>(Y9 n g x0).bind λu=>some u
def Qcs(n:Nat)(x0:Qy):Option ((List Jg)):=(rangeL (λ(_:Nat) (u:Jg) (v:(List Jg))=>bif u.Ok then((Qb9 u).bind λa0=>(Qfo n a0).bind λg=>(getI g (0:Int)).bind λa3=>(getI g (1:Int)).bind λa4=>(getI g (2:Int)).bind λa5=>(getI g (3:Int)).bind λa6=>(Qfo n u.Y).bind λa1=>(appM 256 v ([(⟨a3,a4,a5,a6,a1,true⟩:Jg)]:List Jg)).bind λa7=>some (Lp.go a7))else(some (Lp.go v))) x0.Ar 0 ([]:List Jg)).bind (lpK λ(a2:(List Jg))=>some a2)
def Qm6(n:Nat)(x0:Int)(x1:Int):Option (Q7):=(Zj n x0).bind λg=>(Zj n x1).bind λu=>some (⟨g,u⟩:Q7)
def Qp5(n:Nat)(x0:(List UInt8)):Option (Int):=(loopM (λ(g:Int)=>bif decide (g<(x0.length:Int)) then(jn (λ(u:(Bool)->Option _)=>(getS x0 g).bind λa0=>bif decide (a0<48) then(u true)else((getS x0 g).bind λa1=>bif decide (57<a1) then(u true)else(u (decide (g=(60:Int)))))) (λ(v:Bool)=>bif v then(some (Lp.out (Lp.out (g))))else(some (Lp.go (wrap64 (g+(1:Int)))))))else(some (Lp.out (Lp.go ())))) n (0:Int)).bind (lpK λ(_:Unit)=>bif decide (x0=([]:List UInt8)) then(some (0:Int))else(some (-1:Int)))
def Qu3(n:Nat)(x0:(List Nat))(x1:Nat)(x2:Nat):Option ((List Nat)):=(mkM 4 (0:Nat) (wrap64 ((x0.length:Int)+(1:Int)))).bind λv=>(Qhg v (0:Int) x0 x1 x2).bind λg=>(Xy n g).bind λu=>some u
def Qnn(n:Nat)(x0:(List UInt8)):Option ((List Nat)×Qe):=(Qp5 n x0).bind λr1=>bif decide ((0:Int)<=r1) then(some (([]:List Nat),(⟨(1:Int),0,0,r1⟩:Qe)))else((loopM (λ(u:(List Nat)×Int)=>bif decide (u.2<(x0.length:Int)) then((loopM (λ(g:Int×Nat×Nat×Int)=>jn (λ(a0:(Bool)->Option _)=>bif decide (g.2.2.2<(9:Int)) then(a0 (decide (g.1<(x0.length:Int))))else(a0 false)) (λ(a3:Bool)=>bif a3 then((getS x0 g.1).bind λa5=>(some (((((g.2.1*10)%4294967296)+((a5+256 - 48)%256))%4294967296))).bind λa6=>some (Lp.go (wrap64 (g.1+(1:Int)),a6,((g.2.2.1*10)%4294967296),wrap64 (g.2.2.2+(1:Int)))))else(some (Lp.out (g.1,g.2.1,g.2.2.1))))) n (u.2,0,1,(0:Int))).bind λ(v:Int×Nat×Nat)=>(Qu3 n u.1 v.2.2 v.2.1).bind λa2=>some (Lp.go (a2,v.1)))else(some (Lp.out u.1))) n (([]:List Nat),(0:Int))).bind λ(a4:(List Nat))=>some (a4,(⟨0,0,0,0⟩:Qe)))
def Qra(n:Nat)(x0:Nat):Option ((List UInt8)):=(loopM (λ(g:Nat×Qn8×Int)=>bif decide ((0:Int)<=g.2.2) then((getI ([g.2.1.a0,g.2.1.a1,g.2.1.a2,g.2.1.a3,g.2.1.a4,g.2.1.a5,g.2.1.a6,g.2.1.a7,g.2.1.a8]:List Nat) g.2.2).bind λ_=>some (Lp.go ((g.1 / 10),(Qze (List.set ([g.2.1.a0,g.2.1.a1,g.2.1.a2,g.2.1.a3,g.2.1.a4,g.2.1.a5,g.2.1.a6,g.2.1.a7,g.2.1.a8]:List Nat) (Int.toNat g.2.2) (((48+(g.1%10))%4294967296)%256))),wrap64 (g.2.2 - (1:Int)))))else(some (Lp.out g.2.1))) n (x0,(⟨0,0,0,0,0,0,0,0,0⟩:Qn8),(8:Int))).bind λ(u:Qn8)=>(some (([u.a0,u.a1,u.a2,u.a3,u.a4,u.a5,u.a6,u.a7,u.a8]:List Nat))).bind λv=>some (bS v)
def Qno(n:Nat)(x0:(List Nat)):Option ((List UInt8)):=(Qfx n x0).bind λr1=>bif r1 then(some ([48]:List UInt8))else((loopM (λ(u:(List Nat)×(List (List UInt8)))=>(Qfx n u.1).bind λa1=>bif !a1 then((Qkn n u.1 1000000000).bind λv=>(Qra n v.2.1).bind λa2=>(appM 16 u.2 ([a2]:List (List UInt8))).bind λa5=>some (Lp.go (v.1,a5)))else(some (Lp.out u.2))) n (x0,([]:List (List UInt8)))).bind λ(a0:(List (List UInt8)))=>(loopM (λ(g:(List UInt8)×Int)=>bif decide ((0:Int)<=g.2) then((getI a0 g.2).bind λa6=>(appM 1 g.1 a6).bind λa7=>some (Lp.go (a7,wrap64 (g.2 - (1:Int)))))else(some (Lp.out g.1))) n (([]:List UInt8),wrap64 ((a0.length:Int) - (1:Int)))).bind λ(a4:(List UInt8))=>(Qk9 a4 ([48]:List UInt8)).bind λa3=>some a3)
def Qd3(n:Nat)(x0:Qy):Option ((List Qa)):=(Qcs n x0).bind λr1=>(rangeL (λ(_:Nat) (v:Jg) (g:(List Qa))=>(appM 56 g ([v.H]:List Qa)).bind λa0=>some (Lp.go a0)) r1 0 ([]:List Qa)).bind (lpK λ(u:(List Qa))=>some u)
def Qfb(n:Nat)(x0:Qy):Option ((List Qa)×(List (List Qa))):=(Qcs n x0).bind λr1=>(rangeL (λ(_:Nat) (v:Jg) (g:(List Qa)×(List (List Qa)))=>(appM 56 g.1 ([v.T]:List Qa)).bind λa2=>(appM 24 g.2 ([v.Y]:List (List Qa))).bind λa3=>some (Lp.go (a2,a3))) r1 0 (([]:List Qa),([]:List (List Qa)))).bind (lpK λ(u:(List Qa)×(List (List Qa)))=>(Vl n x0.T).bind λa0=>(appM 56 u.1 ([a0]:List Qa)).bind λa4=>(Qfo n x0.Y).bind λa1=>(appM 24 u.2 ([a1]:List (List Qa))).bind λa5=>some (a4,a5))
def Qi5(n:Nat)(x0:Qy)(x1:(List Jj)):Option (Bool):=jn (λ(v:(Bool)->Option _)=>(Qgm n x0).bind λr6=>bif !r6 then(v true)else(v (decide ((300:Int)<(x1.length:Int))))) (λ(s5:Bool)=>bif s5 then(some false)else((Qd3 n x0).bind λr8=>(rangeL (λ(_:Nat) (u:Jj) (_:Unit)=>jn (λ(g:(Bool)->Option _)=>bif decide (u.Ay<(0:Int)) then(g true)else(bif decide ((wrap64 ((r8.length:Int)+(1:Int)))<=u.Ay) then(g true)else(g (!decide ((u.W.length:Int)=(x0.Y.length:Int)))))) (λ(a0:Bool)=>bif a0 then(some (Lp.out (false)))else(some (Lp.go ())))) x1 0 ()).bind (lpK λ(_:Unit)=>some true)))
def Qhq(n:Nat)(x0:(List Jj))(x1:Int):Option ((List (Int×(List Qa)))):=(rangeL (λ(_:Nat) (g:Jj) (u:(List (Int×(List Qa))))=>jn (λ(v:((List Qa))->Option _)=>bif !((mget u g.Ay).isSome) then((Zj n x1).bind λa0=>v a0)else(v ((mget u g.Ay).getD ([]:(List Qa))))) (λ(a2:(List Qa))=>(X8 n ([a2,g.W]:List (List Qa))).bind λa1=>some (Lp.go (mset u g.Ay a1.1)))) x0 0 ([]:(List (Int×(List Qa))))).bind (lpK λ(a3:(List (Int×(List Qa))))=>some a3)
def Qgc(n:Nat)(x0:Qg)(x1:Qy)(x2:(List Jj)):Option (Q7×Qe):=jn (λ(j5:(Bool)->Option _)=>(Qbt n x0).bind λr8=>bif !r8 then(j5 true)else((Qi5 n x1 x2).bind λa5=>bif !a5 then(j5 true)else(j5 (!decide ((x1.Y.length:Int)=x0.Tape.Ax))))) (λ(s7:Bool)=>bif s7 then(some ((⟨[],[]⟩:Q7),(⟨(2:Int),0,0,0⟩:Qe)))else((Qhq n x2 (x1.Y.length:Int)).bind λa2=>(Qcs n x1).bind λa3=>(Qm6 n (x1.Y.length:Int) (x0.P.length:Int)).bind λa6=>(loopM (λ(g:Q7×Int)=>bif decide ((0:Int)<=g.2) then(jn (λ(a1:(Q7)->Option _)=>bif (mget a2 g.2).isSome then((some (([g.1.Y,((mget a2 g.2).getD ([]:(List Qa)))]:List (List Qa)))).bind λb0=>(X8 n b0).bind λa7=>a1 (⟨a7.1,g.1.P⟩:Q7))else(a1 g.1)) (λ(v:Q7)=>bif decide (g.2=(0:Int)) then(some (Lp.out (Lp.go v)))else((getI a3 (wrap64 (g.2 - (1:Int)))).bind λa0=>(Qdj n x0 a0.T a0.H a0.Y v.Y).bind λu=>bif !(Qx u.2 (⟨0,0,0,0⟩:Qe)) then(some (Lp.out (Lp.out (((⟨[],[]⟩:Q7),(⟨u.2.Au,g.2,u.2.A0,u.2.At⟩:Qe))))))else((X8 n ([v.P,u.1.P]:List (List Qa))).bind λa8=>some (Lp.go ((⟨u.1.Y,a8.1⟩:Q7),wrap64 (g.2 - (1:Int))))))))else(some (Lp.out (Lp.go g.1)))) n (a6,(a3.length:Int))).bind (lpK λ(a9:Q7)=>some (a9,(⟨0,0,0,0⟩:Qe)))))
def Qm7(n:Nat)(x0:(List Qa)):Option (Bool):=(rangeL (λ(_:Nat) (u:Qa) (_:Unit)=>(Qa2 n u).bind λg=>bif decide (g<=(0:Int)) then(some (Lp.out (false)))else(some (Lp.go ()))) x0 0 ()).bind (lpK λ(_:Unit)=>some (decide ((x0.length:Int)<=(200:Int))))
def Qej(n:Nat)(x0:Qg)(x1:Qa)(x2:(List Qa))(x3:(List Qa)):Option (Qy×Qe):=jn (λ(j5:(Bool)->Option _)=>(Qbt n x0).bind λr8=>bif !r8 then(j5 true)else(bif !decide ((x2.length:Int)=x0.Tape.Ax) then(j5 true)else((Qm7 n x3).bind λa3=>j5 (!a3)))) (λ(s7:Bool)=>bif s7 then(some ((⟨[],(⟨(⟨false,[]⟩:Qk),[]⟩:Qa),[]⟩:Qy),(⟨(2:Int),0,0,0⟩:Qe)))else((Vl n x1).bind λa4=>(Ky n (1:Int)).bind λa5=>(Y9 n a5 x2).bind λa6=>(rangeL (λ(a2:Nat) (a9:Qa) (u:(List Jg)×Qa×(List Qa))=>(Vl n a9).bind λv=>(Qgb n x0 u.2.1 v u.2.2).bind λg=>bif !(Qx g.2 (⟨0,0,0,0⟩:Qe)) then(some (Lp.out (((⟨[],(⟨(⟨false,[]⟩:Qk),[]⟩:Qa),[]⟩:Qy),(⟨g.2.Au,wrap64 ((a2:Int)+(1:Int)),g.2.A0,g.2.At⟩:Qe)))))else((Qjy n g.1.A4).bind λa7=>(appM 256 u.1 ([(⟨u.2.1,v,v,a7,u.2.2,true⟩:Jg)]:List Jg)).bind λb0=>(Vi n u.2.1 v).bind λa8=>some (Lp.go (b0,a8,g.1.Next)))) x3 0 (([]:List Jg),a4,a6)).bind (lpK λ(a0:(List Jg)×Qa×(List Qa))=>some ((⟨a0.1,a0.2.1,a0.2.2⟩:Qy),(⟨0,0,0,0⟩:Qe)))))
def Wo(x0:Qb):Option (Qa):=some (⟨(⟨x0.Neg,x0.N⟩:Qk),x0.D⟩:Qa)
def Kg(n:Nat)(x0:(List Qb)):Option ((List Qa)):=(loopM (λ(g:(List Qa)×Int)=>bif decide (g.2<(x0.length:Int)) then((getI x0 g.2).bind λa0=>(Wo a0).bind λu=>(appM 56 g.1 ([u]:List Qa)).bind λa1=>some (Lp.go (a1,wrap64 (g.2+(1:Int)))))else(some (Lp.out g.1))) n (([]:List Qa),(0:Int))).bind λ(v:(List Qa))=>some v
def Qd4(n:Nat)(x0:(List (List Qb))):Option ((List (List Qa))):=(loopM (λ(g:(List (List Qa))×Int)=>bif decide (g.2<(x0.length:Int)) then((getI x0 g.2).bind λa0=>(Kg n a0).bind λu=>(appM 24 g.1 ([u]:List (List Qa))).bind λa1=>some (Lp.go (a1,wrap64 (g.2+(1:Int)))))else(some (Lp.out g.1))) n (([]:List (List Qa)),(0:Int))).bind λ(v:(List (List Qa)))=>some v
def Qd5(n:Nat)(x0:Jf):Option (Qp):=(appM 8 ([]:List Int) x0.Aw).bind λy1=>(loopM (λ(g:(List Q2)×Int)=>bif decide (g.2<(x0.Code.length:Int)) then((getI x0.Code g.2).bind λu=>(Wo u.N).bind λv=>(appM 80 g.1 ([(⟨u.Op,u.A,u.B,v⟩:Q2)]:List Q2)).bind λa1=>some (Lp.go (a1,wrap64 (g.2+(1:Int)))))else(some (Lp.out g.1))) n (([]:List Q2),(0:Int))).bind λ(a0:(List Q2))=>some (⟨a0,y1,x0.Ax,x0.A1⟩:Qp)
def Qfz(n:Nat)(x0:Jz):Option (Q1):=(Kg n x0.C).bind λg=>(Qd4 n x0.A).bind λu=>(Kg n x0.B).bind λv=>(Kg n x0.E).bind λr7=>some (⟨x0.A6,g,u,v,r7⟩:Q1)
def Zo(x0:Qb)(x1:Int):Option (Bool):=jn (λ(g:(Bool)->Option _)=>bif decide (x1<(x0.N.length:Int)) then ( g true) else ( g (decide (x1<(x0.D.length:Int))))) (λ(u:Bool)=>some u)
def Q6(n:Nat)(x0:(List Qb))(x1:Int)(x2:Int):Option (Bool):=(loopM (λ(g:Int)=>jn (λ(u:(Bool)->Option _)=>bif decide (g<(x0.length:Int)) then(u (decide (g<x1)))else(u false)) (λ(a0:Bool)=>bif a0 then((getI x0 g).bind λa1=>(Zo a1 x2).bind λv=>bif v then(some (Lp.out (Lp.out (true))))else(some (Lp.go (wrap64 (g+(1:Int))))))else(some (Lp.out (Lp.go ()))))) n (0:Int)).bind (lpK λ(_:Unit)=>some (decide (x1<(x0.length:Int))))
def Qar(n:Nat)(x0:Qt):Option (Qg):=(Qd5 n x0.Tape).bind λg=>(Qfz n x0.Aq).bind λu=>(Kg n x0.P).bind λv=>some (⟨g,u,v,x0.Av⟩:Qg)
def Qcz(n:Nat)(x0:Jf)(x1:Int)(x2:Int):Option (Bool):=(loopM (λ(g:Int)=>jn (λ(u:(Bool)->Option _)=>bif decide (g<(x0.Code.length:Int)) then(u (decide (g<x1)))else(u false)) (λ(a1:Bool)=>bif a1 then((getI x0.Code g).bind λa3=>(Zo a3.N x2).bind λa0=>bif a0 then(some (Lp.out (Lp.out (true))))else(some (Lp.go (wrap64 (g+(1:Int))))))else(some (Lp.out (Lp.go ()))))) n (0:Int)).bind (lpK λ(_:Unit)=>jn (λ(v:(Bool)->Option _)=>bif decide (x1<(x0.Code.length:Int)) then(v true)else(v (decide (x1<(x0.Aw.length:Int))))) (λ(a2:Bool)=>some a2))
def Qc0(n:Nat)(x0:Jz)(x1:Int)(x2:Int):Option (Bool):=jn (λ(g:(Bool)->Option _)=>bif decide ((50:Int)<(x0.A6.length:Int)) then(g true)else(bif decide (x1<(x0.A.length:Int)) then(g true)else((Q6 n x0.B x1 x2).bind λv=>bif v then(g true)else((Q6 n x0.C x1 x2).bind λa0=>bif a0 then(g true)else((Q6 n x0.E x1 x2).bind λa1=>g a1))))) (λ(s9:Bool)=>bif s9 then(some true)else((loopM (λ(u:Int)=>bif decide (u<(x0.A.length:Int)) then((getI x0.A u).bind λa3=>(Q6 n a3 x1 x2).bind λa2=>bif a2 then(some (Lp.out (Lp.out (true))))else(some (Lp.go (wrap64 (u+(1:Int))))))else(some (Lp.out (Lp.go ())))) n (0:Int)).bind (lpK λ(_:Unit)=>some false)))
def Qc1(n:Nat)(x0:Qt)(x1:Int)(x2:Int)(x3:Int):Option (Bool):=jn (λ(g:(Bool)->Option _)=>(Qcz n x0.Tape x1 x3).bind λu=>bif u then(g true)else((Qc0 n x0.Aq x2 (4:Int)).bind λv=>bif v then(g true)else((Q6 n x0.P (6:Int) x3).bind λa0=>g a0))) (λ(s9:Bool)=>some s9)
def Qrb:Option (Qmz):=some (⟨([101,117,108,101,114,10,48,124,10,98,32,49]:List UInt8),([104,101,117,110,10,48,124,10,49,124,49,10,98,32,49,47,50,44,49,47,50,10,101,32,49,44,48]:List UInt8),([109,105,100,112,111,105,110,116,10,48,124,10,49,47,50,124,49,47,50,10,98,32,48,44,49,10,101,32,49,44,48]:List UInt8),([114,107,52,10,48,124,10,49,47,50,124,49,47,50,10,49,47,50,124,48,44,49,47,50,10,49,124,48,44,48,44,49,10,98,32,49,47,54,44,49,47,51,44,49,47,51,44,49,47,54]:List UInt8),([98,115,50,51,10,48,124,10,49,47,50,124,49,47,50,10,51,47,52,124,48,44,51,47,52,10,49,124,50,47,57,44,49,47,51,44,52,47,57,10,98,32,50,47,57,44,49,47,51,44,52,47,57,44,48,10,101,32,55,47,50,52,44,49,47,52,44,49,47,51,44,49,47,56]:List UInt8),([100,112,52,53,10,48,124,10,49,47,53,124,49,47,53,10,51,47,49,48,124,51,47,52,48,44,57,47,52,48,10,52,47,53,124,52,52,47,52,53,44,45,53,54,47,49,53,44,51,50,47,57,10,56,47,57,124,49,57,51,55,50,47,54,53,54,49,44,45,50,53,51,54,48,47,50,49,56,55,44,54,52,52,52,56,47,54,53,54,49,44,45,50,49,50,47,55,50,57,10,49,124,57,48,49,55,47,51,49,54,56,44,45,51,53,53,47,51,51,44,52,54,55,51,50,47,53,50,52,55,44,52,57,47,49,55,54,44,45,53,49,48,51,47,49,56,54,53,54,10,49,124,51,53,47,51,56,52,44,48,44,53,48,48,47,49,49,49,51,44,49,50,53,47,49,57,50,44,45,50,49,56,55,47,54,55,56,52,44,49,49,47,56,52,10,98,32,51,53,47,51,56,52,44,48,44,53,48,48,47,49,49,49,51,44,49,50,53,47,49,57,50,44,45,50,49,56,55,47,54,55,56,52,44,49,49,47,56,52,44,48,10,101,32,53,49,55,57,47,53,55,54,48,48,44,48,44,55,53,55,49,47,49,54,54,57,53,44,51,57,51,47,54,52,48,44,45,57,50,48,57,55,47,51,51,57,50,48,48,44,49,56,55,47,50,49,48,48,44,49,47,52,48]:List UInt8)⟩:Qmz)
def Qsn(x0:(List UInt8)):Option ((List UInt8)):=(Qkb x0 ([10]:List UInt8)).bind λg=>some g.1
def Qcf(x0:Kq):Option ((List UInt8)×Int×Bool×Kq):=bif x0.over then(some (([]:List UInt8),x0.at_,false,x0))else((Qkb x0.rest ([10]:List UInt8)).bind λg=>jn (λ(u:(Kq)->Option _)=>bif g.2.2 then(u (⟨g.2.1,wrap64 ((wrap64 (x0.at_+(g.1.length:Int)))+(1:Int)),!g.2.2⟩:Kq))else(u (⟨g.2.1,wrap64 (x0.at_+(g.1.length:Int)),!g.2.2⟩:Kq))) (λ(v:Kq)=>some (g.1,x0.at_,true,v)))
def Qgy(_:Kq)(x1:(List UInt8))(x2:Int):Option (Kq):=(sub x1 x2 (x1.length:Int)).bind λg=>some (⟨g,x2,false⟩:Kq)
def Qas(x0:(List UInt8))(x1:(List UInt8)):Option (Bool):=jn (λ(g:(Bool)->Option _)=>bif decide ((x1.length:Int)<=(x0.length:Int)) then((sub x0 (0:Int) (x1.length:Int)).bind λv=>g (decide (v=x1)))else(g false)) (λ(u:Bool)=>some u)
def Qdd(x0:(List UInt8))(x1:(List UInt8)):Option ((List UInt8)×Bool):=(Qas x0 x1).bind λg=>bif !g then(some (x0,false))else((sub x0 (x1.length:Int) (x0.length:Int)).bind λu=>some (u,true))
def Qgx(x0:(List UInt8))(x1:(List UInt8)):Option ((List UInt8)×Bool):=(Qdd x0 x1).bind λg=>some (g.1,g.2)
def Qso(n:Nat)(x0:(List UInt8)):Option (Qk×Qe):=(Qgx x0 ([45]:List UInt8)).bind λu=>(Qnn n u.1).bind λg=>bif !(Qx g.2 (⟨0,0,0,0⟩:Qe)) then(some ((⟨false,[]⟩:Qk),(⟨g.2.Au,g.2.Step,g.2.A0,wrap64 (g.2.At+(wrap64 ((x0.length:Int) - (u.1.length:Int))))⟩:Qe)))else((Yp u.2 g.1).bind λv=>some (v,(⟨0,0,0,0⟩:Qe)))
def Qfg(n:Nat)(x0:(List UInt8))(x1:Int):Option ((List Nat)×Qe):=(sub x0 x1 (x0.length:Int)).bind λy1=>(Qnn n y1).bind λg=>jn (λ(u:(Qe)->Option _)=>bif !(Qx g.2 (⟨0,0,0,0⟩:Qe)) then(u (⟨g.2.Au,g.2.Step,g.2.A0,wrap64 (g.2.At+x1)⟩:Qe))else(u g.2)) (λ(v:Qe)=>some (g.1,v))
def Qrc(n:Nat)(x0:Qk)(x1:(List UInt8))(x2:Int):Option (Qa×Qe):=(Qfg n x1 x2).bind λg=>bif !(Qx g.2 (⟨0,0,0,0⟩:Qe)) then((Ky n (0:Int)).bind λv=>some (v,g.2))else((Qo0 n x0 g.1).bind λu=>bif !u.2 then(some (u.1,(⟨(2:Int),0,0,x2⟩:Qe)))else(some (u.1,(⟨0,0,0,0⟩:Qe))))
def Qku(x0:(List UInt8))(x1:(List UInt8)):Option (Bool):=(Qas x0 x1).bind λg=>some g
def Qrd(n:Nat)(x0:(List Nat)):Option ((List Nat)):=(mkM 4 (0:Nat) (wrap64 ((wrap64 ((2:Int)*(x0.length:Int)))+(1:Int)))).bind λy1=>(rangeL (λ(u:Nat) (a9:Nat) (a6:(List Nat))=>(sub x0 (wrap64 ((u:Int)+(1:Int))) (x0.length:Int)).bind λb0=>(Qhg a6 (wrap64 ((wrap64 ((2:Int)*(u:Int)))+(1:Int))) b0 a9 0).bind λa3=>some (Lp.go a3)) x0 0 y1).bind (lpK λ(a7:(List Nat))=>(Qld n a7 (1:Int)).bind λa4=>(mkM 4 (0:Nat) (wrap64 ((2:Int)*(x0.length:Int)))).bind λb1=>(rangeL (λ(g:Nat) (a1:Nat) (a0:(List Nat))=>(Qfy a1 a1 0 0).bind λv=>(getI a0 (wrap64 ((wrap64 ((2:Int)*(g:Int)))+(1:Int)))).bind λ_=>(some ((List.set a0 (Int.toNat (wrap64 ((wrap64 ((2:Int)*(g:Int)))+(1:Int)))) v.1))).bind λa2=>(getI a2 (wrap64 ((2:Int)*(g:Int)))).bind λ_=>some (Lp.go (List.set a2 (Int.toNat (wrap64 ((2:Int)*(g:Int)))) v.2))) x0 0 b1).bind (lpK λ(a8:(List Nat))=>(Qlc n ([a4,a8]:List (List Nat))).bind λa5=>some a5))
def Qxi(n:Nat)(x0:(List Nat))(x1:Int):Option ((List Nat)×Bool):=(Qhl n x0).bind λu=>jn (λ(j4:(Bool)->Option _)=>bif decide (x1<(0:Int)) then(j4 true)else(bif decide ((1:Int)<u) then((grd (u != 0)).bind λ_=>j4 (decide ((wrap64 (Int.tdiv (65536:Int) u))<x1)))else(j4 false))) (λ(s6:Bool)=>bif s6 then(some (([]:List Nat),false))else((Qcr n 1).bind λr8=>bif decide (u<(2:Int)) then(jn (λ(v:((List Nat))->Option _)=>bif decide ((0:Int)<x1) then((Xy n x0).bind λa3=>v a3)else(v r8)) (λ(a8:(List Nat))=>some (a8,true)))else((Qcr n (Int.toNat (x1%18446744073709551616))).bind λa4=>(Qhl n a4).bind λa5=>(loopM (λ(g:(List Nat)×Int)=>bif decide ((0:Int)<=g.2) then(jn (λ(a0:((List Nat))->Option _)=>(Qrd n g.1).bind λa1=>(grd (decide (0<=g.2))).bind λ_=>(some (decide ((wrap64 (andZ (Int.fdiv x1 (2 ^ (min (Int.toNat g.2) 64))) (1:Int)))=(1:Int)))).bind λb1=>bif b1 then((Qdb n a1 x0).bind λa6=>a0 a6)else(a0 a1)) (λ(a9:(List Nat))=>some (Lp.go (a9,wrap64 (g.2 - (1:Int))))))else(some (Lp.out g.1))) n (r8,wrap64 (a5 - (1:Int)))).bind λ(b0:(List Nat))=>some (b0,true))))
def Qre(n:Nat)(x0:Int):Option ((List Nat)):=(Qcr n 10).bind λg=>(Qxi n g x0).bind λu=>some u.1
def Qo3(n:Nat)(x0:Qk)(x1:Bool)(x2:(List UInt8))(x3:Int):Option (Qa×Qe):=(Qfg n x2 x3).bind λg=>bif !(Qx g.2 (⟨0,0,0,0⟩:Qe)) then((Ky n (0:Int)).bind λr3=>some (r3,g.2))else((Qre n (wrap64 ((x2.length:Int) - x3))).bind λv=>(Qdb n x0.A3 v).bind λr7=>(Qlc n ([r7,g.1]:List (List Nat))).bind λr9=>(Qo0 n (⟨x1,r9⟩:Qk) v).bind λu=>some (u.1,(⟨0,0,0,0⟩:Qe)))
def Qnp(n:Nat)(x0:(List UInt8)):Option (Qa×Qe):=(Qla x0 ([47,46]:List UInt8)).bind λu=>jn (λ(j5:((List UInt8))->Option _)=>bif decide ((0:Int)<=u) then((sub x0 (0:Int) u).bind λy8=>j5 y8)else(j5 x0)) (λ(s7:(List UInt8))=>(Qso n s7).bind λg=>bif !(Qx g.2 (⟨0,0,0,0⟩:Qe)) then((Ky n (0:Int)).bind λa2=>some (a2,g.2))else(bif decide (u<(0:Int)) then((Qcr n 1).bind λa3=>(Qo0 n g.1 a3).bind λa4=>some (a4.1,(⟨0,0,0,0⟩:Qe)))else((getS x0 u).bind λa6=>bif decide (a6=47) then((Qrc n g.1 x0 (wrap64 (u+(1:Int)))).bind λv=>some (v.1,v.2))else((Qku x0 ([45]:List UInt8)).bind λa5=>(Qo3 n g.1 a5 x0 (wrap64 (u+(1:Int)))).bind λa0=>some (a0.1,a0.2)))))
def Qi6(x0:Qe)(x1:Int):Option (Qe):=jn (λ(g:(Qe)->Option _)=>bif !(Qx x0 (⟨0,0,0,0⟩:Qe)) then ( g (⟨x0.Au,x0.Step,x0.A0,wrap64 (x0.At+x1)⟩:Qe)) else ( g x0)) (λ(u:Qe)=>some u)
def Qry(n:Nat)(x0:(List UInt8)):Option ((List Qa)×Qe):=bif decide (x0=([]:List UInt8)) then(some (([]:List Qa),(⟨0,0,0,0⟩:Qe)))else((Qop x0 ([44]:List UInt8)).bind λr1=>(rangeL (λ(_:Nat) (v:(List UInt8)) (u:(List Qa)×Int)=>(Qnp n v).bind λg=>bif !(Qx g.2 (⟨0,0,0,0⟩:Qe)) then(some (Lp.out ((([]:List Qa),(⟨g.2.Au,g.2.Step,g.2.A0,wrap64 (g.2.At+u.2)⟩:Qe)))))else((appM 56 u.1 ([g.1]:List Qa)).bind λa1=>some (Lp.go (a1,wrap64 (u.2+(wrap64 ((v.length:Int)+(1:Int)))))))) r1 0 (([]:List Qa),(0:Int))).bind (lpK λ(a0:(List Qa)×Int)=>some (a0.1,(⟨0,0,0,0⟩:Qe))))
def Qp6(n:Nat)(x0:(List UInt8))(x1:Int):Option (Qa×(List Qa)×Qe):=(Qkb x0 ([124]:List UInt8)).bind λu=>(Qnp n u.1).bind λg=>bif !(Qx g.2 (⟨0,0,0,0⟩:Qe)) then((Qi6 g.2 x1).bind λr5=>some (g.1,([]:List Qa),r5))else((Qry n u.2.1).bind λv=>(Qi6 v.2 (wrap64 ((wrap64 (x1+(u.1.length:Int)))+(1:Int)))).bind λr9=>some (g.1,v.1,r9))
def Qf0(n:Nat)(x0:Kq)(x1:(List UInt8))(x2_Name:(List UInt8))(x2_C:(List Qa))(x2_A:(List (List Qa)))(x2_B:(List Qa))(x2_E:(List Qa)):Option (Qe×Kq×(List UInt8)×(List Qa)×(List Qa)×(List Qa)×(List (List Qa))):=loopM (λ(u:Kq×(List Qa)×(List (List Qa)))=>(Qcf u.1).bind λg=>bif !g.2.2.1 then(some (Lp.out (((⟨0,0,0,0⟩:Qe),g.2.2.2,x2_Name,x2_B,x2_E,u.2.1,u.2.2))))else((Qlb g.1 ([124]:List UInt8)).bind λa0=>bif !a0 then((Qgy g.2.2.2 x1 g.2.1).bind λa1=>some (Lp.out (((⟨0,0,0,0⟩:Qe),a1,x2_Name,x2_B,x2_E,u.2.1,u.2.2))))else((Qp6 n g.1 g.2.1).bind λv=>bif !(Qx v.2.2 (⟨0,0,0,0⟩:Qe)) then(some (Lp.out ((v.2.2,g.2.2.2,x2_Name,x2_B,x2_E,u.2.1,u.2.2))))else((appM 56 u.2.1 ([v.1]:List Qa)).bind λa2=>(appM 24 u.2.2 ([v.2.1]:List (List Qa))).bind λa3=>some (Lp.go (g.2.2.2,a2,a3)))))) n (x0,x2_C,x2_A)
def Qdc(n:Nat)(x0:Kq)(x1:(List UInt8)):Option ((List Qa)×Qe×Kq):=(Qcf x0).bind λg=>(catS x1 ([32]:List UInt8)).bind λy3=>(Qgx g.1 y3).bind λu=>bif !u.2 then(some (([]:List Qa),(⟨(1:Int),0,0,g.2.1⟩:Qe),g.2.2.2))else((Qry n u.1).bind λv=>(Qi6 v.2 (wrap64 ((wrap64 (g.2.1+(x1.length:Int)))+(1:Int)))).bind λr9=>some (v.1,r9,g.2.2.2))
def Qrf(n:Nat)(x0:(List UInt8)):Option (Q1×Qe):=(Qcf (⟨x0,0,false⟩:Kq)).bind λr1=>(Qkp n (⟨(2:Int),r1.1,0⟩:Ql7)).bind λr3=>bif !r3 then(some ((⟨r1.1,([]:List Qa),([]:List (List Qa)),[],[]⟩:Q1),(⟨(1:Int),0,0,0⟩:Qe)))else((Qf0 n r1.2.2.2 x0 r1.1 ([]:List Qa) ([]:List (List Qa)) [] []).bind λg=>bif !(Qx g.1 (⟨0,0,0,0⟩:Qe)) then(some ((⟨g.2.2.1,g.2.2.2.2.2.1,g.2.2.2.2.2.2,g.2.2.2.1,g.2.2.2.2.1⟩:Q1),g.1))else((Qdc n g.2.1 ([98]:List UInt8)).bind λv=>jn (λ(j9:(Bool)->Option _)=>bif !(Qx v.2.1 (⟨0,0,0,0⟩:Qe)) then(j9 true)else(j9 v.2.2.over)) (λ(a3:Bool)=>bif a3 then(some ((⟨g.2.2.1,g.2.2.2.2.2.1,g.2.2.2.2.2.2,v.1,g.2.2.2.2.1⟩:Q1),v.2.1))else((Qdc n v.2.2 ([101]:List UInt8)).bind λu=>jn (λ(a1:(Bool)->Option _)=>bif !(Qx u.2.1 (⟨0,0,0,0⟩:Qe)) then(a1 true)else(a1 u.2.2.over)) (λ(a4:Bool)=>bif a4 then(some ((⟨g.2.2.1,g.2.2.2.2.2.1,g.2.2.2.2.2.2,v.1,u.1⟩:Q1),u.2.1))else(some ((⟨g.2.2.1,g.2.2.2.2.2.1,g.2.2.2.2.2.2,v.1,u.1⟩:Q1),(⟨(1:Int),0,0,u.2.2.at_⟩:Qe))))))))
def Qp7(n:Nat)(x0:(List UInt8)):Option (Q1×Qe):=bif decide ((4000:Int)<(x0.length:Int)) then(some ((⟨[],[],[],[],[]⟩:Q1),(⟨(1:Int),0,0,(4000:Int)⟩:Qe)))else((Qrf n x0).bind λg=>bif !(Qx g.2 (⟨0,0,0,0⟩:Qe)) then(some ((⟨[],[],[],[],[]⟩:Q1),g.2))else((Qgg n g.1).bind λu=>bif !decide (u=(0:Int)) then(some ((⟨[],[],[],[],[]⟩:Q1),(⟨(2:Int),0,0,u⟩:Qe)))else(some (g.1,g.2))))
def Qu4(n:Nat)(x0:(List UInt8)):Option (Q1×Bool):=(Qrb).bind λg=>(loopM (λ(u:Int)=>bif decide (u<(6:Int)) then((getI ([g.a0,g.a1,g.a2,g.a3,g.a4,g.a5]:List (List UInt8)) u).bind λv=>(Qsn v).bind λa0=>bif decide (a0=x0) then((Qp7 n v).bind λa1=>some (Lp.out (Lp.out ((a1.1,true)))))else(some (Lp.go (wrap64 (u+(1:Int))))))else(some (Lp.out (Lp.go ())))) n (0:Int)).bind (lpK λ(_:Unit)=>some ((⟨[],[],[],[],[]⟩:Q1),false))
def Qsp(n:Nat)(x0:Int)(x1:Int):Option (Qa×Bool):=(Ky n x0).bind λu=>(Ky n x1).bind λv=>(Qb8 n u v).bind λg=>some (g.1,g.2)
def Qsq(n:Nat)(x0:Qk):Option ((List UInt8)):=(Qno n x0.A3).bind λg=>(Qe7 n x0).bind λu=>bif decide (u<(0:Int)) then ( (catS ([45]:List UInt8) g).bind λv=>some v) else ( some g)
def Qrg(n:Nat)(x0:Qa):Option ((List UInt8)):=(Vl n x0).bind λu=>(Qsq n u.Num).bind λr3=>jn (λ(g:((List UInt8))->Option _)=>(Qcr n 1).bind λv=>(Qf7 n u.Den v).bind λa0=>bif !decide (a0=(0:Int)) then((Qno n u.Den).bind λa1=>(catS ([47]:List UInt8) a1).bind λa4=>(catS r3 a4).bind λa5=>g a5)else(g r3)) (λ(a3:(List UInt8))=>some a3)
def Qxj(n:Nat)(x0:(List Qa)):Option ((List UInt8)):=(rangeL (λ(_:Nat) (a1:Qa) (v:(List (List UInt8)))=>(Qrg n a1).bind λg=>(appM 16 v ([g]:List (List UInt8))).bind λa2=>some (Lp.go a2)) x0 0 ([]:List (List UInt8))).bind (lpK λ(a0:(List (List UInt8)))=>(Qp4 a0 ([44]:List UInt8)).bind λu=>some u)
def Qat(n:Nat)(x0:Qv):Option (Qy):=(Wo x0.T).bind λr1=>(Kg n x0.Y).bind λr3=>(loopM (λ(u:(List Jg)×Int)=>bif decide (u.2<(x0.Ar.length:Int)) then((getI x0.Ar u.2).bind λg=>(Wo g.T).bind λv=>(Wo g.Az).bind λa0=>(Wo g.H).bind λa1=>(Wo g.A4).bind λa2=>(Kg n g.Y).bind λa3=>(appM 256 u.1 ([(⟨v,a0,a1,a2,a3,g.Ok⟩:Jg)]:List Jg)).bind λa5=>some (Lp.go (a5,wrap64 (u.2+(1:Int)))))else(some (Lp.out u.1))) n (([]:List Jg),(0:Int))).bind λ(a4:(List Jg))=>some (⟨a4,r1,r3⟩:Qy)
def Yd(x0:Q9):Option ((List Qb)):=some ([x0.T,x0.Az,x0.H,x0.A4]:List Qb)
def Zp(n:Nat)(x0:Qv)(x1:Int)(x2:Int):Option (Bool):=jn (λ(v:(Bool)->Option _)=>bif decide (x1<(x0.Ar.length:Int)) then(v true)else((Zo x0.T x2).bind λr8=>bif r8 then(v true)else((Q6 n x0.Y (8:Int) x2).bind λa0=>v a0))) (λ(s7:Bool)=>bif s7 then(some true)else((loopM (λ(g:Int)=>bif decide (g<(x0.Ar.length:Int)) then(jn (λ(u:(Bool)->Option _)=>(getI x0.Ar g).bind λa5=>(Yd a5).bind λa1=>(Q6 n a1 (4:Int) x2).bind λa2=>bif a2 then(u true)else((getI x0.Ar g).bind λa6=>(Q6 n a6.Y (8:Int) x2).bind λa3=>u a3)) (λ(a4:Bool)=>bif a4 then(some (Lp.out (Lp.out (true))))else(some (Lp.go (wrap64 (g+(1:Int)))))))else(some (Lp.out (Lp.go ())))) n (0:Int)).bind (lpK λ(_:Unit)=>some false)))
def Qcg(n:Nat)(x0:Qv):Option ((List Qb)×(List (List Qb))):=(loopM (λ(g:(List Qb)×(List (List Qb))×Int)=>bif decide (g.2.2<(x0.Ar.length:Int)) then(jn (λ(u:((List Qb)×(List (List Qb)))->Option _)=>(getI x0.Ar g.2.2).bind λa1=>bif a1.Ok then((getI x0.Ar g.2.2).bind λa2=>(appM 56 g.1 ([a2.T]:List Qb)).bind λa3=>(getI x0.Ar g.2.2).bind λa4=>(appM 24 g.2.1 ([a4.Y]:List (List Qb))).bind λa5=>u (a3,a5))else(u (g.1,g.2.1))) (λ(v:(List Qb)×(List (List Qb)))=>some (Lp.go (v.1,v.2,wrap64 (g.2.2+(1:Int))))))else(some (Lp.out (g.1,g.2.1)))) n (([]:List Qb),([]:List (List Qb)),(0:Int))).bind λ(a0:(List Qb)×(List (List Qb)))=>(appM 56 a0.1 ([x0.T]:List Qb)).bind λa6=>(appM 24 a0.2 ([x0.Y]:List (List Qb))).bind λa7=>some (a6,a7)
def X9(n:Nat)(x0:Qv):Option ((List Qb)):=(loopM (λ(g:(List Qb)×Int)=>bif decide (g.2<(x0.Ar.length:Int)) then(jn (λ(u:((List Qb))->Option _)=>(getI x0.Ar g.2).bind λa1=>bif a1.Ok then((getI x0.Ar g.2).bind λa2=>(appM 56 g.1 ([a2.H]:List Qb)).bind λa3=>u a3)else(u g.1)) (λ(v:(List Qb))=>some (Lp.go (v,wrap64 (g.2+(1:Int))))))else(some (Lp.out g.1))) n (([]:List Qb),(0:Int))).bind λ(a0:(List Qb))=>some a0
def Zq(n:Nat)(x0:Qt)(x1:Qv):Option (Bool):=jn (λ(g:(Bool)->Option _)=>(Qc1 n x0 (10:Int) (4:Int) (2:Int)).bind λu=>bif u then(g true)else(bif decide ((3:Int)<(x0.Aq.B.length:Int)) then(g true)else(bif decide ((400:Int)<x0.Av) then(g true)else((Zp n x1 (5:Int) (6:Int)).bind λv=>bif v then(g true)else(bif decide ((4:Int)<(x1.Y.length:Int)) then(g true)else((X9 n x1).bind λa0=>g (decide ((3:Int)<(a0.length:Int))))))))) (λ(s9:Bool)=>some s9)
def Zs(n:Nat)(x0:(List Qs)):Option (Bool):=(loopM (λ(g:Int)=>jn (λ(u:(Bool)->Option _)=>bif decide (g<(x0.length:Int)) then(u (decide (g<(5:Int))))else(u false)) (λ(a0:Bool)=>bif a0 then((getI x0 g).bind λa1=>(Q6 n a1.W (6:Int) (2:Int)).bind λv=>bif v then(some (Lp.out (Lp.out (true))))else(some (Lp.go (wrap64 (g+(1:Int))))))else(some (Lp.out (Lp.go ()))))) n (0:Int)).bind (lpK λ(_:Unit)=>some (decide ((5:Int)<(x0.length:Int))))
def Ku(n:Nat):Option (Bool):=(some (([(⟨(3:Int),0,0,(⟨(⟨false,[]⟩:Qk),[]⟩:Qa)⟩:Q2)]:List Q2))).bind λz1=>(Qu4 n ([101,117,108,101,114]:List UInt8)).bind λr2=>(Qsp n (1:Int) (2:Int)).bind λr4=>(Ky n (1:Int)).bind λr6=>(Ky n (0:Int)).bind λa2=>(Qej n (⟨(⟨z1,([(0:Int)]:List Int),(1:Int),0⟩:Qp),r2.1,[],(100:Int)⟩:Qg) a2 ([r6]:List Qa) ([r4.1,r4.1]:List Qa)).bind λu=>(some (([(⟨(1:Int),([r6]:List Qa)⟩:Jj),(⟨(2:Int),([r6]:List Qa)⟩:Jj)]:List Jj))).bind λa7=>(Qgc n (⟨(⟨z1,([(0:Int)]:List Int),(1:Int),0⟩:Qp),r2.1,[],(100:Int)⟩:Qg) u.1 a7).bind λv=>jn (λ(g:(Bool)->Option _)=>bif r2.2 then(bif (Qx u.2 (⟨0,0,0,0⟩:Qe)) then(bif (Qx v.2 u.2) then((Qxj n v.1.Y).bind λa3=>g (decide (a3=([49,53,47,52]:List UInt8))))else(g false))else(g false))else(g false)) (λ(a5:Bool)=>some a5)
def Qau(n:Nat)(x0:(List Qs)):Option ((List Jj)):=(loopM (λ(g:(List Jj)×Int)=>bif decide (g.2<(x0.length:Int)) then((getI x0 g.2).bind λa0=>(getI x0 g.2).bind λa1=>(Kg n a1.W).bind λu=>(appM 32 g.1 ([(⟨a0.Ay,u⟩:Jj)]:List Jj)).bind λa2=>some (Lp.go (a2,wrap64 (g.2+(1:Int)))))else(some (Lp.out g.1))) n (([]:List Jj),(0:Int))).bind λ(v:(List Jj))=>some v
def Qzf(n:Nat)(x0:(List Qa))(x1:(List (List Qa)))(x2:Int):Option ((List Qa)×Bool):=jn (λ(j1:(Bool)->Option _)=>bif !decide ((x0.length:Int)=(x1.length:Int)) then(j1 true)else(bif decide (x2<(0:Int)) then(j1 true)else(j1 (decide ((300:Int)<x2))))) (λ(s3:Bool)=>bif s3 then(some (([]:List Qa),false))else((rangeL (λ(_:Nat) (b3:(List Qa)) (_:Unit)=>bif !decide ((b3.length:Int)=x2) then(some (Lp.out ((([]:List Qa),false))))else(some (Lp.go ()))) x1 0 ()).bind (lpK λ(_:Unit)=>(Zj n x2).bind λb2=>(rangeL (λ(v:Nat) (a7:(List Qa)) (a0:(List Qa))=>(getI x0 (v:Int)).bind λa9=>(Qa2 n a9).bind λa2=>bif decide (a2=(0:Int)) then(some (Lp.go a0))else((rangeL (λ(g:Nat) (a8:Qa) (u:(List Qa))=>(getI u (g:Int)).bind λb0=>(getI x0 (v:Int)).bind λb1=>(Wn n b1 a8).bind λa3=>(Vi n b0 a3).bind λa4=>(getI u (g:Int)).bind λ_=>some (Lp.go (List.set u (Int.toNat (g:Int)) a4))) a7 0 a0).bind (lpK λ(a5:(List Qa))=>some (Lp.go a5)))) x1 0 b2).bind (lpK λ(a6:(List Qa))=>some (a6,true)))))
end Go.Proofs.YtjmfkenegjhohaaGreatDoor
