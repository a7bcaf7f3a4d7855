import Derived.Test.YtlihkcaoachkdaaGreatDoorLibM
set_option maxRecDepth 100000
set_option maxHeartbeats 4000000
namespace Go.Proofs.YtlihkcaoachkdaaGreatDoor
open Go Go.RowKit
structure Qd where
 Neg:Bool
 Abs:(List Nat)
structure Qa where
 Num:Qd
 Den:(List Nat)
structure Q7 where
 Op:Int
 A:Int
 B:Int
 N:Qa
structure Q2 where
 Code:(List Q7)
 Outs:(List Int)
 Dim:Int
 Par:Int
structure Qr where
 Name:(List UInt8)
 C:(List Qa)
 A:(List (List Qa))
 B:(List Qa)
 E:(List Qa)
structure Ql where
 Tape:Q2
 Scheme:Qr
 P:(List Qa)
 Bits:Int
structure Qw where
 Tol:Qa
 Safe:Qa
 Low:Qa
 High:Qa
 Least:Qa
 Fine:Int
 Most:Int
structure Qy where
 Problem:Ql
 Rules:Qw
 Start:Qa
 End:Qa
 First:Qa
 Y:(List Qa)
structure Qm where
 T:Qa
 Want:Qa
 H:Qa
 Err:Qa
 Y:(List Qa)
 Ok:Bool
structure Qc where
 Kind:Int
 Step:Int
 Stage:Int
 At:Int
structure Yl where
 Ys:(List (List Qa))
 Ks:(List (List Qa))
 Next:(List Qa)
 Err:(List Qa)
structure J5 where
 op:Int
 a:Int
 b:Int
def Zh(x y:J5):Bool:=((x.op == y.op) && ((x.a == y.a) && ((x.b == y.b) && true)))
structure Qeg where
 Kind:Int
 Text:(List UInt8)
 At:Int
structure X4 where
 Seen:Int
 Peak:Int
structure Qp where
 Count:X4
 limit:Int
def Qx(x y:Qc):Bool:=((x.Kind == y.Kind) && ((x.Step == y.Step) && ((x.Stage == y.Stage) && ((x.At == y.At) && true))))
structure Xb where
 T:Qa
 Y:(List Qa)
 P:(List Qa)
structure Wq where
 T:Qa
 Y:(List Qa)
 P:(List Qa)
structure Qi where
 Tries:(List Qm)
 T:Qa
 Y:(List Qa)
structure W0 where
 k:Qy
 h:Qi
structure Qv where
 What:Int
 Try:Int
structure Qlc where
 k:Qy
 h:Qi
 want:Qa
structure Qrv where
 a0:Nat
 a1:Nat
 a2:Nat
 a3:Nat
 a4:Nat
 a5:Nat
 a6:Nat
 a7:Nat
 a8:Nat
def K9(x y:Qv):Bool:=((x.What == y.What) && ((x.Try == y.Try) && true))
structure Qe where
 Neg:Bool
 N:(List Nat)
 D:(List Nat)
structure Qbp where
 Op:Int
 I:Int
 N:(List Nat)
structure Qkt where
 Op:Int
 I:Int
 N:(List Nat)
structure Qfl where
 Name:(List UInt8)
 Code:(List Qbp)
structure Qjy where
 Lets:(List Qfl)
 Outs:(List (List Qbp))
structure Qqk where
 Name:(List UInt8)
 Code:(List Qkt)
structure Qu4 where
 Lets:(List Qqk)
 Outs:(List (List Qkt))
structure Jf where
 Op:Int
 A:Int
 B:Int
 N:Qe
structure Je where
 Code:(List Jf)
 Outs:(List Int)
 Dim:Int
 Par:Int
structure Ja where
 Name:(List UInt8)
 C:(List Qe)
 A:(List (List Qe))
 B:(List Qe)
 E:(List Qe)
structure Q4 where
 Tape:Je
 Scheme:Ja
 P:(List Qe)
 Bits:Int
structure Jh where
 Tol:Qe
 Safe:Qe
 Low:Qe
 High:Qe
 Least:Qe
 Fine:Int
 Most:Int
structure Jw where
 T:Qe
 Want:Qe
 H:Qe
 Err:Qe
 Y:(List Qe)
 Ok:Bool
structure Jq where
 Tries:(List Jw)
 T:Qe
 Y:(List Qe)
structure Qpq where
 a0:Int
 a1:Int
 a2:Int
 a3:Int
structure Qev where
 a0:(List UInt8)
 a1:(List UInt8)
 a2:(List UInt8)
 a3:(List UInt8)
 a4:(List UInt8)
 a5:(List UInt8)
structure Jk where
 rest:(List UInt8)
 at_:Int
 over:Bool
structure Qa1 where
 Neg:Bool
 Abs:(List Nat)
structure Zl where
 Kind:Int
 Text:(List UInt8)
 At:Int
structure Qbq where
 Ys:(List (List Qe))
 Ks:(List (List Qe))
 Next:(List Qe)
 Err:(List Qe)
structure Qpr where
 a0:Int
 a1:Int
 a2:Int
structure Qa2 where
 T:Qe
 Y:(List Qe)
 P:(List Qe)
structure Q3 where
 Problem:Q4
 Rules:Jh
 Start:Qe
 End:Qe
 First:Qe
 Y:(List Qe)
def Qld(xs:List Nat):Prop:=xs.length≤maxLen∧∀ x∈xs,(x<4294967296)
def Jb(x:Qe):Prop:=True∧Qld x.N∧Qld x.D∧True
def Zm(x:Jf):Prop:=(-9223372036854775808≤x.Op∧x.Op≤9223372036854775807)∧(-9223372036854775808≤x.A∧x.A≤9223372036854775807)∧(-9223372036854775808≤x.B∧x.B≤9223372036854775807)∧Jb x.N∧True
def Yn(xs:List Jf):Prop:=xs.length≤maxLen∧∀ x∈xs,Zm x
def Qon(xs:List Int):Prop:=xs.length≤maxLen∧∀ x∈xs,(-9223372036854775808≤x∧x≤9223372036854775807)
def Zn(x:Je):Prop:=Yn x.Code∧Qon x.Outs∧(-9223372036854775808≤x.Dim∧x.Dim≤9223372036854775807)∧(-9223372036854775808≤x.Par∧x.Par≤9223372036854775807)∧True
def J0(xs:List Qe):Prop:=xs.length≤maxLen∧∀ x∈xs,Jb x
def X5(xs:List (List Qe)):Prop:=xs.length≤maxLen∧∀ x∈xs,J0 x
def Yo(x:Ja):Prop:=(x.Name.length≤maxLen)∧J0 x.C∧X5 x.A∧J0 x.B∧J0 x.E∧True
def W7(x:Q4):Prop:=Zn x.Tape∧Yo x.Scheme∧J0 x.P∧(-9223372036854775808≤x.Bits∧x.Bits≤9223372036854775807)∧True
def Zc(x:Jh):Prop:=Jb x.Tol∧Jb x.Safe∧Jb x.Low∧Jb x.High∧Jb x.Least∧(-9223372036854775808≤x.Fine∧x.Fine≤9223372036854775807)∧(-9223372036854775808≤x.Most∧x.Most≤9223372036854775807)∧True
def V4(x:Q3):Prop:=W7 x.Problem∧Zc x.Rules∧Jb x.Start∧Jb x.End∧Jb x.First∧J0 x.Y∧True
def Qb5(x:Jw):Prop:=Jb x.T∧Jb x.Want∧Jb x.H∧Jb x.Err∧J0 x.Y∧True∧True
def Qeo(xs:List Jw):Prop:=xs.length≤maxLen∧∀ x∈xs,Qb5 x
def Qdo(x:Jq):Prop:=Qeo x.Tries∧Jb x.T∧J0 x.Y∧True
def Ws(n:Nat)(x0:(List Nat)):Option ((List Nat)):=(loopM (λ(s19:Int)=>jn (λ(j22:(Bool)->Option _)=>bif decide ((0:Int)<s19) then((getI x0 (wrap64 (s19 - (1:Int)))).bind λy25=>j22 (decide (y25=0)))else(j22 false)) (λ(s24:Bool)=>bif s24 then(some (Lp.go (wrap64 (s19 - (1:Int)))))else(some (Lp.out s19)))) n (x0.length:Int)).bind λ(t17:Int)=>(sub x0 (0:Int) t17).bind λy27=>some y27
def Qco(n:Nat)(x0:(List Nat)):Option (Bool):=(Ws n x0).bind λr1=>some (decide ((r1.length:Int)=(0:Int)))
def Yb(n:Nat)(x0:Nat):Option ((List Nat)):=(Ws n ([(x0%4294967296),((x0 / 2 ^ 32)%4294967296)]:List Nat)).bind λr1=>some r1
def Kw(n:Nat)(x0:Qa):Option (Qd×(List Nat)):=(Qco n x0.Den).bind λr1=>bif r1 then ( (Yb n 1).bind λr3=>some ((⟨false,[]⟩:Qd),r3)) else ( some (x0.Num,x0.Den))
def Qaa(x0:Nat)(x1:Nat)(x2:Nat)(x3:Nat):Option (Nat×Nat):=(some (((((((x0*x1)%18446744073709551616)+x2)%18446744073709551616)+x3)%18446744073709551616))).bind λz1=>some (((z1 / 2 ^ 32)%4294967296),(z1%4294967296))
def Qbc(x0:(List Nat))(x1:Int)(x2:(List Nat))(x3:Nat)(x4:Nat):Option ((List Nat)):=(rangeL (λ(i23:Nat) (x24:Nat) (s22:(List Nat)×Nat)=>(getI s22.1 (wrap64 (x1+(i23:Int)))).bind λy26=>(Qaa x3 x24 y26 s22.2).bind λr28=>(getI s22.1 (wrap64 (x1+(i23:Int)))).bind λ_=>some (Lp.go ((List.set s22.1 (Int.toNat (wrap64 (x1+(i23:Int)))) r28.2),r28.1))) x2 0 (x0,x4)).bind (lpK λ(s32:(List Nat)×Nat)=>(getI s32.1 (wrap64 (x1+(x2.length:Int)))).bind λ_=>some (List.set s32.1 (Int.toNat (wrap64 (x1+(x2.length:Int)))) s32.2))
def Qbr(x0:(List Nat))(x1:Int):Option ((List Nat)):=(mkM 4 (0:Nat) (wrap64 ((x0.length:Int)+x1))).bind λy1=>some (cpyL y1 x0)
def K3(n:Nat)(x0:(List Nat)):Option ((List Nat)):=(Ws n x0).bind λr1=>(Qbr r1 (0:Int)).bind λr3=>some r3
def X6(n:Nat)(x0:(List Nat))(x1:(List Nat)):Option ((List Nat)):=(mkM 4 (0:Nat) (wrap64 ((wrap64 ((x0.length:Int)+(x1.length:Int)))+(1:Int)))).bind λy1=>(rangeL (λ(i17:Nat) (x18:Nat) (s16:(List Nat))=>(Qbc s16 (i17:Int) x0 x18 0).bind λr20=>some (Lp.go r20)) x1 0 y1).bind (lpK λ(s22:(List Nat))=>(K3 n s22).bind λr23=>some r23)
def K4(x0:Bool)(x1:(List Nat)):Option (Qd):=jn (λ(j1:(Qd)->Option _)=>bif x0 then ( j1 (⟨decide ((0:Int)<(x1.length:Int)),x1⟩:Qd)) else ( j1 (⟨false,x1⟩:Qd))) (λ(s3:Qd)=>some s3)
def Qbs(n:Nat)(x0:Qd)(x1:Qd):Option (Qd):=(X6 n x0.Abs x1.Abs).bind λr1=>(K4 (x0.Neg != x1.Neg) r1).bind λr3=>some r3
def Xc(n:Nat)(x0:Qd)(x1:(List Nat)):Option (Qd):=(Qbs n x0 (⟨false,x1⟩:Qd)).bind λr1=>some r1
def Qde(n:Nat)(x0:Qd):Option (Qd):=(K3 n x0.Abs).bind λr3=>(K4 (!x0.Neg) r3).bind λr5=>some r5
def Xi(x0:Nat)(x1:Nat)(x2:Nat):Option (Nat×Nat):=jn (λ(j1:(Nat)->Option _)=>bif decide (((x0+x1)%4294967296)<x0) then(j1 ((0+1)%4294967296))else(j1 0)) (λ(s3:Nat)=>jn (λ(j4:(Nat)->Option _)=>bif decide (((((x0+x1)%4294967296)+x2)%4294967296)<x2) then(j4 ((s3+1)%4294967296))else(j4 s3)) (λ(s6:Nat)=>some (((((x0+x1)%4294967296)+x2)%4294967296),s6)))
def Qcp(n:Nat)(x0:(List Nat))(x1:(List Nat)):Option ((List Nat)):=jn (λ(j1:((List Nat)×(List Nat))->Option _)=>bif decide ((x0.length:Int)<(x1.length:Int)) then(j1 (x1,x0))else(j1 (x0,x1))) (λ(s3:(List Nat)×(List Nat))=>(Qbr s3.1 (1:Int)).bind λr4=>(rangeL (λ(i38:Nat) (x39:Nat) (s37:(List Nat)×Nat)=>jn (λ(j43:(Nat)->Option _)=>bif decide ((i38:Int)<(s3.2.length:Int)) then((getI s3.2 (i38:Int)).bind λy46=>j43 y46)else(j43 0)) (λ(s45:Nat)=>(Xi x39 s45 s37.2).bind λr48=>(getI s37.1 (i38:Int)).bind λ_=>some (Lp.go ((List.set s37.1 (Int.toNat (i38:Int)) r48.1),r48.2)))) s3.1 0 (r4,0)).bind (lpK λ(s52:(List Nat)×Nat)=>(getI s52.1 (s3.1.length:Int)).bind λ_=>(Ws n (List.set s52.1 (Int.toNat (s3.1.length:Int)) s52.2)).bind λr55=>some r55))
def Qdx(n:Nat)(x0:(List (List Nat))):Option ((List Nat)):=(rangeL (λ(_:Nat) (x20:(List Nat)) (s18:(List Nat))=>(Ws n x20).bind λr22=>(Qcp n s18 r22).bind λr24=>some (Lp.go r24)) x0 0 ([]:List Nat)).bind (lpK λ(s26:(List Nat))=>some s26)
def Qbd(n:Nat)(x0:(List Nat))(x1:(List Nat)):Option (Int):=(Ws n x0).bind λr1=>(Ws n x1).bind λr3=>bif decide ((r1.length:Int)<(r3.length:Int)) then(some (-1:Int))else(bif decide ((r3.length:Int)<(r1.length:Int)) then(some (1:Int))else((loopM (λ(s25:Int)=>bif decide ((0:Int)≤s25) then((getI r1 s25).bind λy26=>(getI r3 s25).bind λy28=>bif decide (y26<y28) then(some (Lp.out (Lp.out ((-1:Int)))))else((getI r1 s25).bind λy30=>(getI r3 s25).bind λy32=>bif decide (y32<y30) then(some (Lp.out (Lp.out ((1:Int)))))else(some (Lp.go (wrap64 (s25 - (1:Int)))))))else(some (Lp.out (Lp.go ())))) n (wrap64 ((r1.length:Int) - (1:Int)))).bind (lpK λ(_:Unit)=>some (0:Int))))
def Qcq(x0:Nat)(x1:Nat)(x2:Nat):Option (Nat×Nat):=jn (λ(j1:(Nat)->Option _)=>bif decide (x0<x1) then(j1 ((0+1)%4294967296))else(j1 0)) (λ(s3:Nat)=>jn (λ(j4:(Nat)->Option _)=>bif decide (((x0+4294967296 - x1)%4294967296)<x2) then(j4 ((s3+1)%4294967296))else(j4 s3)) (λ(s6:Nat)=>(some (((((x0+4294967296 - x1)%4294967296)+4294967296 - x2)%4294967296))).bind λz7=>some (z7,s6)))
def Qhr(n:Nat)(x0:(List Nat))(x1:(List Nat)):Option ((List Nat)×Bool):=(Ws n x0).bind λr1=>(Ws n x1).bind λr3=>(Qbd n r1 r3).bind λr5=>bif decide (r5<(0:Int)) then(some (([]:List Nat),false))else((Qbr r1 (0:Int)).bind λr7=>(rangeL (λ(i41:Nat) (x42:Nat) (s40:(List Nat)×Nat)=>jn (λ(j46:(Nat)->Option _)=>bif decide ((i41:Int)<(r3.length:Int)) then((getI r3 (i41:Int)).bind λy49=>j46 y49)else(j46 0)) (λ(s48:Nat)=>(Qcq x42 s48 s40.2).bind λr51=>(getI s40.1 (i41:Int)).bind λ_=>some (Lp.go ((List.set s40.1 (Int.toNat (i41:Int)) r51.1),r51.2)))) r1 0 (r7,0)).bind (lpK λ(s55:(List Nat)×Nat)=>(Ws n s55.1).bind λr56=>some (r56,true)))
def Qhs(n:Nat)(x0:(List Nat))(x1:(List Nat)):Option ((List Nat)×Int):=(Qbd n x0 x1).bind λr1=>jn (λ(j3:((List Nat)×(List Nat))->Option _)=>bif decide (r1<(0:Int)) then(j3 (x1,x0))else(j3 (x0,x1))) (λ(s5:(List Nat)×(List Nat))=>(Qhr n s5.1 s5.2).bind λr6=>some (r6.1,r1))
def Qbt(n:Nat)(x0:Qd)(x1:Qd):Option (Qd):=bif (x0.Neg == x1.Neg) then((Qdx n ([x0.Abs,x1.Abs]:List (List Nat))).bind λr1=>(K4 x0.Neg r1).bind λr3=>some r3)else((Qhs n x0.Abs x1.Abs).bind λr5=>bif decide (r5.2<(0:Int)) then((K4 x1.Neg r5.1).bind λr7=>some r7)else((K4 x0.Neg r5.1).bind λr9=>some r9))
def Qag(n:Nat)(x0:Qd)(x1:Qd):Option (Qd):=(Qde n x1).bind λr1=>(Qbt n x0 r1).bind λr3=>some r3
def Qbe(x0:Nat)(x1:Nat)(x2:Nat):Option (Nat×Nat×Bool):=bif decide (x2≤x0) then(some (0,0,false))else((grd (x2 != 0)).bind λ_=>(grd (x2 != 0)).bind λ_=>some ((((((x0*2 ^ 32)%18446744073709551616) ||| x1) / x2)%4294967296),(((((x0*2 ^ 32)%18446744073709551616) ||| x1)%x2)%4294967296),true))
def Qew(n:Nat)(x0:(List Nat))(x1:Nat):Option ((List Nat)×Nat×Bool):=bif decide (x1=0) then(some (([]:List Nat),0,false))else((mkM 4 (0:Nat) (x0.length:Int)).bind λy1=>(loopM (λ(s20:(List Nat)×Nat×Int)=>bif decide ((0:Int)≤s20.2.2) then((getI x0 s20.2.2).bind λy21=>(Qbe s20.2.1 y21 x1).bind λr23=>(getI s20.1 s20.2.2).bind λ_=>some (Lp.go ((List.set s20.1 (Int.toNat s20.2.2) r23.1),r23.2.1,wrap64 (s20.2.2 - (1:Int)))))else(some (Lp.out (s20.1,s20.2.1)))) n (y1,0,wrap64 ((x0.length:Int) - (1:Int)))).bind λ(t18:(List Nat)×Nat)=>(K3 n t18.1).bind λr27=>some (r27,t18.2,true))
def Qeh(n:Nat)(x0:Nat):Option (Int):=(loopM (λ(s15:Nat×Int×Int)=>bif decide ((0:Int)<s15.2.2) then(jn (λ(j18:(Nat×Int)->Option _)=>(grd (decide (0≤s15.2.2))).bind λ_=>bif !decide ((s15.1 / 2 ^ (min (Int.toNat s15.2.2) 32))=0) then((grd (decide (0≤s15.2.2))).bind λ_=>j18 ((s15.1 / 2 ^ (min (Int.toNat s15.2.2) 32)),wrap64 (s15.2.1+s15.2.2)))else(j18 (s15.1,s15.2.1))) (λ(s20:Nat×Int)=>some (Lp.go (s20.1,s20.2,wrap64 (Int.tdiv s15.2.2 (2:Int))))))else(some (Lp.out (s15.1,s15.2.1)))) n (x0,(0:Int),(16:Int))).bind λ(t13:Nat×Int)=>some (wrap64 (t13.2+(t13.1:Int)))
def Qdy(n:Nat)(x0:(List Nat))(x1:Int):Option ((List Nat)):=(some (wrap64 ((wrap64 (Int.tdiv (min (max x1 (0:Int)) (4096:Int)) (32:Int)))+(x0.length:Int)))).bind λz1=>(mkM 4 (0:Nat) (wrap64 (z1+(1:Int)))).bind λy2=>(rangeL (λ(i36:Nat) (x37:Nat) (s35:(List Nat))=>(grd (decide (0≤Int.tmod (min (max x1 (0:Int)) (4096:Int)) (32:Int)))).bind λ_=>(some (((x37*2 ^ (min (Int.toNat (Int.tmod (min (max x1 (0:Int)) (4096:Int)) (32:Int))) 64))%18446744073709551616))).bind λz40=>(some (wrap64 ((wrap64 (Int.tdiv (min (max x1 (0:Int)) (4096:Int)) (32:Int)))+(i36:Int)))).bind λz41=>(getI s35 z41).bind λy42=>(getI s35 z41).bind λ_=>(some (wrap64 ((wrap64 (Int.tdiv (min (max x1 (0:Int)) (4096:Int)) (32:Int)))+(i36:Int)))).bind λz46=>(getI (List.set s35 (Int.toNat z41) (y42 ||| (z40%4294967296))) (wrap64 (z46+(1:Int)))).bind λ_=>(some ((List.set (List.set s35 (Int.toNat z41) (y42 ||| (z40%4294967296))) (Int.toNat (wrap64 (z46+(1:Int)))) ((z40 / 2 ^ 32)%4294967296)))).bind λz49=>some (Lp.go z49)) x0 0 y2).bind (lpK λ(s50:(List Nat))=>(K3 n s50).bind λr51=>some r51)
def Qb6(n:Nat)(x0:Nat)(x1:Nat)(x2:Nat)(x3:Nat)(x4:Nat):Option (Nat):=(Qbe x0 x1 x3).bind λr1=>jn (λ(j8:(Nat×Nat)->Option _)=>bif !r1.2.2 then((Xi x1 x3 0).bind λr11=>jn (λ(j13:(Bool)->Option _)=>bif decide (x3<x0) then(j13 true)else(j13 (decide (0<r11.2)))) (λ(s15:Bool)=>bif s15 then(some 4294967295)else(j8 (4294967295,r11.1))))else(j8 (r1.1,r1.2.1))) (λ(s10:Nat×Nat)=>(loopM (λ(s34:Nat×Nat)=>(Qaa s34.1 x4 0 0).bind λr35=>jn (λ(j37:(Bool)->Option _)=>bif decide (r35.1<s34.2) then(j37 true)else(bif decide (r35.1=s34.2) then(j37 (decide (r35.2≤x2)))else(j37 false))) (λ(s39:Bool)=>bif s39 then(some (Lp.out s34.1))else((Xi s34.2 x3 0).bind λr40=>bif decide (0<r40.2) then(some (Lp.out ((s34.1+4294967296 - 1)%4294967296)))else(some (Lp.go (((s34.1+4294967296 - 1)%4294967296),r40.1)))))) n (s10.1,s10.2)).bind λ(t32:Nat)=>some t32)
def Qah(x0:(List Nat))(x1:Int)(x2:(List Nat))(x3:Nat):Option (Bool×(List Nat)):=(rangeL (λ(i27:Nat) (x28:Nat) (s26:(List Nat)×Nat×Nat)=>(Qaa x3 x28 s26.2.1 0).bind λr30=>(getI s26.1 (wrap64 (x1+(i27:Int)))).bind λy32=>(Qcq y32 r30.2 s26.2.2).bind λr34=>(getI s26.1 (wrap64 (x1+(i27:Int)))).bind λ_=>some (Lp.go ((List.set s26.1 (Int.toNat (wrap64 (x1+(i27:Int)))) r34.1),r30.1,r34.2))) x2 0 (x0,0,0)).bind (lpK λ(s38:(List Nat)×Nat×Nat)=>(getI s38.1 (wrap64 (x1+(x2.length:Int)))).bind λy39=>(Qcq y39 s38.2.1 s38.2.2).bind λr41=>(getI s38.1 (wrap64 (x1+(x2.length:Int)))).bind λ_=>some (decide (0<r41.2),(List.set s38.1 (Int.toNat (wrap64 (x1+(x2.length:Int)))) r41.1)))
def Qbu(x0:(List Nat))(x1:Int)(x2:(List Nat)):Option ((List Nat)):=(rangeL (λ(i23:Nat) (x24:Nat) (s22:(List Nat)×Nat)=>(getI s22.1 (wrap64 (x1+(i23:Int)))).bind λy26=>(Xi y26 x24 s22.2).bind λr28=>(getI s22.1 (wrap64 (x1+(i23:Int)))).bind λ_=>some (Lp.go ((List.set s22.1 (Int.toNat (wrap64 (x1+(i23:Int)))) r28.1),r28.2))) x2 0 (x0,0)).bind (lpK λ(s32:(List Nat)×Nat)=>(getI s32.1 (wrap64 (x1+(x2.length:Int)))).bind λy33=>(getI s32.1 (wrap64 (x1+(x2.length:Int)))).bind λ_=>(some ((List.set s32.1 (Int.toNat (wrap64 (x1+(x2.length:Int)))) ((y33+s32.2)%4294967296)))).bind λz37=>some z37)
def Qex(n:Nat)(x0:(List Nat))(x1:(List Nat)):Option ((List Nat)×(List Nat)):=(mkM 4 (0:Nat) (wrap64 ((x0.length:Int) - (x1.length:Int)))).bind λy1=>(loopM (λ(s60:(List Nat)×(List Nat)×Int)=>bif decide ((0:Int)≤s60.2.2) then((getI s60.1 (wrap64 (s60.2.2+(x1.length:Int)))).bind λy61=>(getI s60.1 (wrap64 ((wrap64 (s60.2.2+(x1.length:Int))) - (1:Int)))).bind λy63=>(getI s60.1 (wrap64 ((wrap64 (s60.2.2+(x1.length:Int))) - (2:Int)))).bind λy65=>(getI x1 (wrap64 ((x1.length:Int) - (1:Int)))).bind λy67=>(getI x1 (wrap64 ((x1.length:Int) - (2:Int)))).bind λy69=>(Qb6 n y61 y63 y65 y67 y69).bind λr71=>jn (λ(j77:((List Nat)×Nat)->Option _)=>(Qah s60.1 s60.2.2 x1 r71).bind λr80=>bif r80.1 then((Qbu r80.2 s60.2.2 x1).bind λr82=>j77 (r82,((r71+4294967296 - 1)%4294967296)))else(j77 (r80.2,r71))) (λ(s79:(List Nat)×Nat)=>(getI s60.2.1 s60.2.2).bind λ_=>some (Lp.go (s79.1,(List.set s60.2.1 (Int.toNat s60.2.2) s79.2),wrap64 (s60.2.2 - (1:Int))))))else(some (Lp.out (s60.1,s60.2.1)))) n (x0,y1,wrap64 ((y1.length:Int) - (1:Int)))).bind λ(t58:(List Nat)×(List Nat))=>some (t58.2,t58.1)
def Qey(n:Nat)(x0:(List Nat))(x1:Int):Option ((List Nat)):=(some (decide ((x0.length:Int)≤(wrap64 (Int.tdiv (max x1 (0:Int)) (32:Int)))))).bind λz1=>bif z1 then(some ([]:List Nat))else((some (wrap64 ((x0.length:Int) - (wrap64 (Int.tdiv (max x1 (0:Int)) (32:Int)))))).bind λz2=>(mkM 4 (0:Nat) z2).bind λy3=>(rangeL (λ(i49:Nat) (_:Nat) (s48:(List Nat))=>(some (wrap64 ((wrap64 (Int.tdiv (max x1 (0:Int)) (32:Int)))+(i49:Int)))).bind λz52=>(getI x0 z52).bind λy53=>jn (λ(j59:(Nat)->Option _)=>(some (wrap64 ((wrap64 (Int.tdiv (max x1 (0:Int)) (32:Int)))+(i49:Int)))).bind λz62=>bif decide ((wrap64 (z62+(1:Int)))<(x0.length:Int)) then((some (wrap64 ((wrap64 (Int.tdiv (max x1 (0:Int)) (32:Int)))+(i49:Int)))).bind λz63=>(getI x0 (wrap64 (z63+(1:Int)))).bind λy64=>j59 (y53 ||| ((y64*2 ^ 32)%18446744073709551616)))else(j59 y53)) (λ(s61:Nat)=>(grd (decide (0≤Int.tmod (max x1 (0:Int)) (32:Int)))).bind λ_=>(some ((s61 / 2 ^ (min (Int.toNat (Int.tmod (max x1 (0:Int)) (32:Int))) 64)))).bind λz67=>(getI s48 (i49:Int)).bind λ_=>some (Lp.go (List.set s48 (Int.toNat (i49:Int)) (z67%4294967296))))) y3 0 y3).bind (lpK λ(s70:(List Nat))=>(K3 n s70).bind λr71=>some r71))
def Qab(n:Nat)(x0:(List Nat))(x1:(List Nat)):Option ((List Nat)×(List Nat)×Bool):=(K3 n x1).bind λr1=>bif decide ((r1.length:Int)=(0:Int)) then(some (([]:List Nat),([]:List Nat),false))else((Qbd n x0 r1).bind λr3=>bif decide (r3<(0:Int)) then((K3 n x0).bind λr5=>some (([]:List Nat),r5,true))else(bif decide ((r1.length:Int)=(1:Int)) then((getI r1 (0:Int)).bind λy7=>(Qew n x0 y7).bind λr9=>(Yb n r9.2.1).bind λr11=>some (r9.1,r11,true))else((getI r1 (wrap64 ((r1.length:Int) - (1:Int)))).bind λy13=>(Qeh n y13).bind λr15=>(Qdy n x0 (wrap64 ((32:Int) - r15))).bind λr17=>(appM 4 r17 ([0]:List Nat)).bind λy19=>(Qdy n r1 (wrap64 ((32:Int) - r15))).bind λr21=>(Qex n y19 r21).bind λr23=>(K3 n r23.1).bind λr25=>(Qey n r23.2 (wrap64 ((32:Int) - r15))).bind λr27=>some (r25,r27,true))))
def Qdf(n:Nat)(x0:(List Nat)):Option (Nat×Bool):=(Ws n x0).bind λr1=>bif decide ((2:Int)<(r1.length:Int)) then(some (0,false))else((rangeL (λ(i17:Nat) (x18:Nat) (s16:Nat)=>(grd (decide (0≤wrap64 ((32:Int)*(i17:Int))))).bind λ_=>(some (((x18*2 ^ (min (Int.toNat (wrap64 ((32:Int)*(i17:Int)))) 64))%18446744073709551616))).bind λz21=>some (Lp.go (s16 ||| z21))) r1 0 0).bind (lpK λ(s22:Nat)=>some (s22,true)))
def Qb7(n:Nat)(x0:Nat)(x1:Nat):Option (Nat):=(loopM (λ(s7:Nat×Nat)=>bif !decide (s7.2=0) then((grd (s7.2 != 0)).bind λ_=>some (Lp.go (s7.2,(s7.1%s7.2))))else(some (Lp.out s7.1))) n (x0,x1)).bind λ(t5:Nat)=>some t5
def Qdz(n:Nat)(x0:(List Nat))(x1:(List Nat)):Option ((List Nat)):=(K3 n x0).bind λr1=>(K3 n x1).bind λr3=>(loopM (λ(s19:(List Nat)×(List Nat))=>bif decide ((2:Int)<(s19.2.length:Int)) then((Qab n s19.1 s19.2).bind λr20=>some (Lp.go (s19.2,r20.2.1)))else(some (Lp.out (s19.1,s19.2)))) n (r1,r3)).bind λ(t17:(List Nat)×(List Nat))=>bif decide ((t17.2.length:Int)=(0:Int)) then(some t17.1)else((Qab n t17.1 t17.2).bind λr22=>(Qdf n t17.2).bind λr24=>(Qdf n r22.2.1).bind λr26=>(Qb7 n r24.1 r26.1).bind λr28=>(Yb n r28).bind λr30=>some r30)
def Qd0(x0:(List Nat)):Option (Bool):=jn (λ(j3:(Bool)->Option _)=>bif decide ((x0.length:Int)=(1:Int)) then((getI x0 (0:Int)).bind λy6=>j3 (decide (y6=1)))else(j3 false)) (λ(s5:Bool)=>some s5)
def Qbf(n:Nat)(x0:(List Nat))(x1:(List Nat)):Option ((List Nat)×(List Nat)):=(Qdz n x0 x1).bind λr1=>bif decide ((r1.length:Int)=(0:Int)) then(some (([]:List Nat),([]:List Nat)))else((Qd0 r1).bind λr3=>bif r3 then((K3 n x0).bind λr5=>(K3 n x1).bind λr7=>some (r5,r7))else((Qab n x0 r1).bind λr9=>(Qab n x1 r1).bind λr11=>some (r9.1,r11.1)))
def Yp(n:Nat)(x0:Qd):Option (Qd):=(K3 n x0.Abs).bind λr3=>(K4 x0.Neg r3).bind λr5=>some r5
def Xf(n:Nat)(x0:Qd)(x1:(List Nat)):Option (Qa):=(Qbf n x0.Abs x1).bind λr1=>(Yp n (⟨x0.Neg,r1.1⟩:Qd)).bind λr3=>some (⟨r3,r1.2⟩:Qa)
def Qcr(n:Nat)(x0:Qa)(x1:Qa):Option (Qa):=(Kw n x0).bind λr1=>(Kw n x1).bind λr3=>(Xc n r1.1 r3.2).bind λr5=>(Xc n r3.1 r1.2).bind λr7=>(Qag n r5 r7).bind λr9=>(X6 n r1.2 r3.2).bind λr11=>(Xf n r9 r11).bind λr13=>some r13
def Yq(n:Nat)(x0:Qd):Option (Int):=(Qco n x0.Abs).bind λr1=>bif r1 then ( some (0:Int)) else ( bif x0.Neg then ( some (-1:Int)) else ( some (1:Int)))
def Qez(n:Nat)(x0:Qd)(x1:Qd):Option (Int):=(Qag n x0 x1).bind λr1=>(Yq n r1).bind λr3=>some r3
def Vo(n:Nat)(x0:Qa)(x1:Qa):Option (Int):=(Kw n x0).bind λr1=>(Kw n x1).bind λr3=>(Xc n r1.1 r3.2).bind λr5=>(Xc n r3.1 r1.2).bind λr7=>(Qez n r5 r7).bind λr9=>some r9
def Jg(n:Nat)(x0:Qa):Option (Qa):=(Kw n x0).bind λr1=>(Xf n r1.1 r1.2).bind λr3=>some r3
def Qei(n:Nat)(x0:Qa)(x1:Qa)(x2:Qa):Option (Qa):=(Qcr n x1 x0).bind λr1=>(Vo n x2 r1).bind λr3=>bif decide ((0:Int)<r3) then ( some r1) else ( (Jg n x2).bind λr5=>some r5)
def Xd(x0:Int)(x1:Int):Option (Bool):=jn (λ(j1:(Bool)->Option _)=>bif decide ((0:Int)≤x0) then ( j1 (decide (x0<x1))) else ( j1 false)) (λ(s3:Bool)=>some s3)
def Qd1(x0:Q2):Option (Bool):=jn (λ(j5:(Bool)->Option _)=>(Xd (wrap64 (x0.Dim - (1:Int))) (6:Int)).bind λr8=>bif r8 then((Xd x0.Par (7:Int)).bind λr10=>bif r10 then(bif decide ((x0.Outs.length:Int)=x0.Dim) then(j5 (decide ((x0.Code.length:Int)≤(300:Int))))else(j5 false))else(j5 false))else(j5 false)) (λ(s7:Bool)=>some s7)
def Qfm(x0:Q7):Option (J5):=some (⟨x0.Op,x0.A,x0.B⟩:J5)
def K1(n:Nat)(x0:Qa):Option (Bool):=(Jg n x0).bind λr1=>jn (λ(j7:(Bool)->Option _)=>bif (x0.Num.Neg == r1.Num.Neg) then(bif decide ((x0.Num.Abs.length:Int)=(r1.Num.Abs.length:Int)) then(bif decide ((x0.Den.length:Int)=(r1.Den.length:Int)) then((Qbd n x0.Num.Abs r1.Num.Abs).bind λr10=>bif decide (r10=(0:Int)) then((Qbd n x0.Den r1.Den).bind λr12=>j7 (decide (r12=(0:Int))))else(j7 false))else(j7 false))else(j7 false))else(j7 false)) (λ(s9:Bool)=>some s9)
def Qd2(x0:Qa):Option (Bool):=jn (λ(j1:(Bool)->Option _)=>bif !x0.Num.Neg then(bif decide ((x0.Num.Abs.length:Int)=(0:Int)) then(j1 (decide ((x0.Den.length:Int)=(0:Int))))else(j1 false))else(j1 false)) (λ(s3:Bool)=>some s3)
def Qb8(x0:Q7):Option ((List Int)):=jn (λ(j1:(Bool)->Option _)=>bif decide (x0.Op=(6:Int)) then(j1 (decide (x0.Op=(6:Int))))else(j1 (decide (x0.Op=(11:Int))))) (λ(s3:Bool)=>bif s3 then(some ([x0.A]:List Int))else(jn (λ(j4:(Bool)->Option _)=>bif decide (x0.Op=(7:Int)) then(j4 (decide (x0.Op=(7:Int))))else(bif decide (x0.Op=(8:Int)) then(j4 (decide (x0.Op=(8:Int))))else(bif decide (x0.Op=(9:Int)) then(j4 (decide (x0.Op=(9:Int))))else(j4 (decide (x0.Op=(10:Int))))))) (λ(s6:Bool)=>bif s6 then(some ([x0.A,x0.B]:List Int))else(some ([]:List Int)))))
def Qej(n:Nat)(x0:Q2)(x1:Int):Option (Bool):=(getI x0.Code x1).bind λy1=>bif decide (y1.Op=(1:Int)) then(jn (λ(j7:(Bool)->Option _)=>(Qfm y1).bind λr10=>bif (Zh r10 (⟨(1:Int),0,0⟩:J5)) then((K1 n y1.N).bind λr12=>j7 r12)else(j7 false)) (λ(s9:Bool)=>some s9))else((Qd2 y1.N).bind λr14=>bif !r14 then(some false)else((Qb8 y1).bind λr16=>(rangeL (λ(_:Nat) (x27:Int) (_:Unit)=>(Xd x27 x1).bind λr29=>bif !r29 then(some (Lp.out (false)))else(some (Lp.go ()))) r16 0 ()).bind (lpK λ(_:Unit)=>bif decide (y1.Op=(2:Int)) then((Qfm y1).bind λr32=>some (Zh r32 (⟨(2:Int),0,0⟩:J5)))else(bif decide (y1.Op=(3:Int)) then(jn (λ(j36:(Bool)->Option _)=>(Xd y1.A x0.Dim).bind λr39=>bif r39 then(j36 (decide (y1.B=(0:Int))))else(j36 false)) (λ(s38:Bool)=>some s38))else(bif decide (y1.Op=(4:Int)) then(jn (λ(j43:(Bool)->Option _)=>(Xd y1.A x0.Par).bind λr46=>bif r46 then(j43 (decide (y1.B=(0:Int))))else(j43 false)) (λ(s45:Bool)=>some s45))else(bif decide (y1.Op=(6:Int)) then(some (decide (y1.B=(0:Int))))else(bif decide (y1.Op=(11:Int)) then(jn (λ(j48:(Bool)->Option _)=>bif decide ((-8:Int)≤y1.B) then(j48 (decide (y1.B≤(8:Int))))else(j48 false)) (λ(s50:Bool)=>some s50))else((Qb8 y1).bind λr51=>some (decide ((r51.length:Int)=(2:Int)))))))))))
def Qf4(n:Nat)(x0:Q2):Option (Int):=(Qd1 x0).bind λr1=>bif !r1 then(some (-2:Int))else((rangeL (λ(i11:Nat) (_:Q7) (_:Unit)=>(Qej n x0 (i11:Int)).bind λr14=>bif !r14 then(some (Lp.out ((i11:Int))))else(some (Lp.go ()))) x0.Code 0 ()).bind (lpK λ(_:Unit)=>(rangeL (λ(_:Nat) (x26:Int) (_:Unit)=>(Xd x26 (x0.Code.length:Int)).bind λr28=>bif !r28 then(some (Lp.out ((x0.Code.length:Int))))else(some (Lp.go ()))) x0.Outs 0 ()).bind (lpK λ(_:Unit)=>some (-1:Int))))
def Yr(n:Nat)(x0:Q2):Option (Bool):=(Qf4 n x0).bind λr1=>some (decide (r1=(-1:Int)))
def Qcs(n:Nat)(x0:Int):Option (Qd):=bif decide (x0<(0:Int)) then((some (((18446744073709551616 - (Int.toNat (x0%18446744073709551616)))%18446744073709551616))).bind λz1=>(Yb n z1).bind λr2=>(K4 true r2).bind λr4=>some r4)else((Yb n (Int.toNat (x0%18446744073709551616))).bind λr6=>(K4 false r6).bind λr8=>some r8)
def Jx(n:Nat)(x0:Int):Option (Qa):=(Qcs n x0).bind λr1=>(Yb n 1).bind λr3=>some (⟨r1,r3⟩:Qa)
def Qai(x0:Nat):Option (Bool):=jn (λ(j1:(Bool)->Option _)=>bif decide (48≤x0) then ( j1 (decide (x0≤57))) else ( j1 false)) (λ(s3:Bool)=>some s3)
def Qar(x0:Nat):Option (Bool):=jn (λ(j1:(Bool)->Option _)=>bif decide (97≤x0) then(bif decide (x0≤122) then(j1 true)else(bif decide (65≤x0) then(bif decide (x0≤90) then(j1 true)else(j1 (decide (x0=95))))else(j1 (decide (x0=95)))))else(bif decide (65≤x0) then(bif decide (x0≤90) then(j1 true)else(j1 (decide (x0=95))))else(j1 (decide (x0=95))))) (λ(s3:Bool)=>some s3)
def Qf5(n:Nat)(x0:Nat):Option (Bool):=(loopM (λ(s9:Nat)=>bif decide (s9<([43,45,42,47,94,40,41,91,93,44,59,61]:List UInt8).length) then((some (((decR ([43,45,42,47,94,40,41,91,93,44,59,61]:List UInt8) s9:Nat):Int))).bind λz11=>bif decide ((Int.toNat (z11%256))=x0) then(some (Lp.out (Lp.out (true))))else(some (Lp.go (s9+decW ([43,45,42,47,94,40,41,91,93,44,59,61]:List UInt8) s9))))else(some (Lp.out (Lp.go ())))) n 0).bind (lpK λ(_:Unit)=>some false)
def Qf6(n:Nat)(x0:Nat):Option (Int):=(Qai x0).bind λr1=>bif r1 then(some (1:Int))else((Qar x0).bind λr3=>bif r3 then(some (2:Int))else((Qf5 n x0).bind λr5=>bif r5 then(some (3:Int))else(some (0:Int))))
def Qf7(x0:Int)(x1:Nat):Option (Bool):=jn (λ(j11:(Bool)->Option _)=>bif decide (x0=(1:Int)) then((Qai x1).bind λr14=>bif r14 then(j11 true)else(bif decide (x0=(2:Int)) then((Qar x1).bind λr16=>bif r16 then(j11 true)else((Qai x1).bind λr18=>j11 r18))else(j11 false)))else(bif decide (x0=(2:Int)) then((Qar x1).bind λr20=>bif r20 then(j11 true)else((Qai x1).bind λr22=>j11 r22))else(j11 false))) (λ(s13:Bool)=>some s13)
def Qe0(n:Nat)(x0:(List UInt8))(x1:Int):Option (Int):=(loopM (λ(s27:Int)=>jn (λ(j32:(Bool)->Option _)=>bif decide (s27<(x0.length:Int)) then((getS x0 s27).bind λy35=>(Qf7 x1 y35).bind λr37=>j32 r37)else(j32 false)) (λ(s34:Bool)=>bif s34 then(some (Lp.go (wrap64 (s27+(1:Int)))))else(some (Lp.out s27)))) n (1:Int)).bind λ(t25:Int)=>some t25
def Qf8(x0:Int):Option (Int):=bif decide (x0=(1:Int)) then ( some (60:Int)) else ( bif decide (x0=(2:Int)) then ( some (12:Int)) else ( some (1:Int)))
def Qdg(n:Nat)(x0:Qeg):Option (Bool):=jn (λ(j7:(Bool)->Option _)=>bif decide (x0.Text=([]:List UInt8)) then(j7 true)else(bif decide (x0.Kind=(0:Int)) then(j7 true)else((getS x0.Text (0:Int)).bind λy12=>(Qf6 n y12).bind λr14=>j7 (!decide (r14=x0.Kind))))) (λ(s9:Bool)=>bif s9 then(some false)else(jn (λ(j21:(Bool)->Option _)=>(Qe0 n x0.Text x0.Kind).bind λr24=>bif decide (r24=(x0.Text.length:Int)) then((Qf8 x0.Kind).bind λr27=>j21 (decide ((x0.Text.length:Int)≤r27)))else(j21 false)) (λ(s23:Bool)=>some s23)))
def Qb9(x0:Qr):Option (Bool):=jn (λ(j1:(Bool)->Option _)=>bif decide ((x0.B.length:Int)<(1:Int)) then(j1 true)else(bif decide ((8:Int)<(x0.B.length:Int)) then(j1 true)else(bif !decide ((x0.C.length:Int)=(x0.B.length:Int)) then(j1 true)else(bif !decide ((x0.A.length:Int)=(x0.B.length:Int)) then(j1 true)else(bif !decide ((x0.E.length:Int)=(x0.B.length:Int)) then(j1 (!decide ((x0.E.length:Int)=(0:Int))))else(j1 false)))))) (λ(s3:Bool)=>bif s3 then(some false)else((rangeL (λ(i10:Nat) (x11:(List Qa)) (_:Unit)=>bif !decide ((x11.length:Int)=(i10:Int)) then(some (Lp.out (false)))else(some (Lp.go ()))) x0.A 0 ()).bind (lpK λ(_:Unit)=>some true)))
def Qbg(n:Nat)(x0:(List Nat)):Option (Int):=(K3 n x0).bind λr1=>bif decide ((r1.length:Int)=(0:Int)) then(some (0:Int))else((getI r1 (wrap64 ((r1.length:Int) - (1:Int)))).bind λy3=>(Qeh n y3).bind λr5=>(some (wrap64 ((wrap64 ((32:Int)*(wrap64 ((r1.length:Int) - (1:Int)))))+r5))).bind λz7=>some z7)
def Vf(n:Nat)(x0:Qa):Option (Int):=(Qbg n x0.Num.Abs).bind λr1=>(Qbg n x0.Den).bind λr3=>some (wrap64 (r1+r3))
def Zi(n:Nat)(x0:(List (List Qa))):Option (Bool):=(rangeL (λ(_:Nat) (x40:(List Qa)) (_:Unit)=>(rangeL (λ(_:Nat) (x60:Qa) (_:Unit)=>jn (λ(j66:(Bool)->Option _)=>(K1 n x60).bind λr69=>bif !r69 then(j66 true)else((Vf n x60).bind λr71=>j66 (decide ((190:Int)<r71)))) (λ(s68:Bool)=>bif s68 then(some (Lp.out (Lp.out (false))))else(some (Lp.go ())))) x40 0 ()).bind (lpK λ(_:Unit)=>some (Lp.go ()))) x0 0 ()).bind (lpK λ(_:Unit)=>some true)
def K5(n:Nat)(x0:Qa)(x1:Qa):Option (Qa):=(Kw n x0).bind λr1=>(Kw n x1).bind λr3=>(Xc n r1.1 r3.2).bind λr5=>(Xc n r3.1 r1.2).bind λr7=>(Qbt n r5 r7).bind λr9=>(X6 n r1.2 r3.2).bind λr11=>(Xf n r9 r11).bind λr13=>some r13
def Zs(n:Nat)(x0:(List Qa)):Option (Qa):=(Jx n (0:Int)).bind λr1=>(rangeL (λ(_:Nat) (x18:Qa) (s16:Qa)=>(K5 n s16 x18).bind λr20=>some (Lp.go r20)) x0 0 r1).bind (lpK λ(s22:Qa)=>some s22)
def Jn(n:Nat)(x0:Qa)(x1:Qa):Option (Bool):=(Vo n x0 x1).bind λr1=>some (decide (r1=(0:Int)))
def Qc2(n:Nat)(x0:Qr):Option (Bool):=(rangeL (λ(i13:Nat) (x14:(List Qa)) (_:Unit)=>(Zs n x14).bind λr16=>(getI x0.C (i13:Int)).bind λy18=>(Jn n r16 y18).bind λr20=>bif !r20 then(some (Lp.out (false)))else(some (Lp.go ()))) x0.A 0 ()).bind (lpK λ(_:Unit)=>some true)
def Qak(n:Nat)(x0:Qr):Option (Int):=(Jx n (1:Int)).bind λr1=>(Qdg n (⟨(2:Int),x0.Name,0⟩:Qeg)).bind λr3=>bif !r3 then(some (1:Int))else((Qb9 x0).bind λr5=>bif !r5 then(some (2:Int))else(jn (λ(j11:(Bool)->Option _)=>(Zi n x0.A).bind λr14=>bif !r14 then(j11 true)else((Zi n ([x0.B,x0.C,x0.E]:List (List Qa))).bind λr16=>j11 (!r16))) (λ(s13:Bool)=>bif s13 then(some (3:Int))else((Qc2 n x0).bind λr18=>bif !r18 then(some (4:Int))else((Zs n x0.B).bind λr20=>(Jn n r20 r1).bind λr22=>bif !r22 then(some (5:Int))else(jn (λ(j29:(Bool)->Option _)=>bif decide ((0:Int)<(x0.E.length:Int)) then((Zs n x0.E).bind λr33=>(Jn n r33 r1).bind λr35=>j29 (!r35))else(j29 false)) (λ(s31:Bool)=>bif s31 then(some (6:Int))else(some (0:Int)))))))))
def Qal(n:Nat)(x0:Qr):Option (Bool):=(Qak n x0).bind λr1=>some (decide (r1=(0:Int)))
def Zt(n:Nat)(x0:Ql):Option (Bool):=jn (λ(j5:(Bool)->Option _)=>(Yr n x0.Tape).bind λr8=>bif r8 then((Qal n x0.Scheme).bind λr10=>bif r10 then(j5 (decide ((x0.P.length:Int)=x0.Tape.Par)))else(j5 false))else(j5 false)) (λ(s7:Bool)=>some s7)
def Qdh(x0:Int):Option (Qp):=some (⟨(⟨0,0⟩:X4),min (max x0 (0:Int)) (4096:Int)⟩:Qp)
def Qek(n:Nat)(x0:Int):Option ((List Qa)):=(mkM 56 ((⟨(⟨false,[]⟩:Qd),[]⟩:Qa):Qa) (min (max x0 (0:Int)) (300:Int))).bind λy1=>(loopM (λ(s15:(List Qa)×Int)=>bif decide (s15.2<(min (max x0 (0:Int)) (300:Int))) then((Jx n (0:Int)).bind λr16=>(getI s15.1 s15.2).bind λ_=>some (Lp.go ((List.set s15.1 (Int.toNat s15.2) r16),wrap64 (s15.2+(1:Int)))))else(some (Lp.out s15.1))) n (y1,(0:Int))).bind λ(t13:(List Qa))=>some t13
def Vg(n:Nat)(x0:Qa):Option (Int):=(Kw n x0).bind λr1=>(Yq n r1.1).bind λr3=>some r3
def X7(n:Nat)(x0:Qa)(x1:Qa):Option (Qa):=(Kw n x0).bind λr1=>(Kw n x1).bind λr3=>(Qbs n r1.1 r3.1).bind λr5=>(X6 n r1.2 r3.2).bind λr7=>(Xf n r5 r7).bind λr9=>some r9
def Qf9(n:Nat)(x0:(List Qa))(x1:(List (List Qa)))(x2:Int):Option ((List Qa)×Bool):=jn (λ(j1:(Bool)->Option _)=>bif !decide ((x0.length:Int)=(x1.length:Int)) then(j1 true)else(bif decide (x2<(0:Int)) then(j1 true)else(j1 (decide ((300:Int)<x2))))) (λ(s3:Bool)=>bif s3 then(some (([]:List Qa),false))else((rangeL (λ(_:Nat) (x11:(List Qa)) (_:Unit)=>bif !decide ((x11.length:Int)=x2) then(some (Lp.out ((([]:List Qa),false))))else(some (Lp.go ()))) x1 0 ()).bind (lpK λ(_:Unit)=>(Qek n x2).bind λr14=>(rangeL (λ(i108:Nat) (x109:(List Qa)) (s107:(List Qa))=>(getI x0 (i108:Int)).bind λy111=>(Vg n y111).bind λr113=>bif decide (r113=(0:Int)) then(some (Lp.go s107))else((rangeL (λ(i131:Nat) (x132:Qa) (s130:(List Qa))=>(getI s130 (i131:Int)).bind λy134=>(getI x0 (i108:Int)).bind λy136=>(X7 n y136 x132).bind λr138=>(K5 n y134 r138).bind λr140=>(getI s130 (i131:Int)).bind λ_=>some (Lp.go (List.set s130 (Int.toNat (i131:Int)) r140))) x109 0 s107).bind (lpK λ(s144:(List Qa))=>some (Lp.go s144)))) x1 0 r14).bind (lpK λ(s145:(List Qa))=>some (s145,true)))))
def W1(n:Nat)(x0:Qa)(x1:(List Qa)):Option ((List Qa)):=(rangeL (λ(_:Nat) (x20:Qa) (s18:(List Qa))=>(X7 n x0 x20).bind λr22=>(appM 56 s18 ([r22]:List Qa)).bind λy24=>some (Lp.go y24)) x1 0 ([]:List Qa)).bind (lpK λ(s26:(List Qa))=>some s26)
def K0(n:Nat)(x0_p:Ql)(x0_t:Qa)(x0_h:Qa)(x0_y:(List Qa))(x0_g:Qp)(x0_out_Ys:(List (List Qa)))(x0_out_Ks:(List (List Qa)))(x0_out_Next:(List Qa))(x0_out_Err:(List Qa))(x1:(List Qa)):Option ((List Qa)):=(Qf9 n x1 x0_out_Ks (x0_y.length:Int)).bind λr1=>(W1 n x0_h r1.1).bind λr3=>some r3
def Qga(n:Nat)(x0:(List Qa)):Option ((List Qa)):=(rangeL (λ(_:Nat) (x20:Qa) (s18:(List Qa))=>(Jg n x20).bind λr22=>(appM 56 s18 ([r22]:List Qa)).bind λy24=>some (Lp.go y24)) x0 0 ([]:List Qa)).bind (lpK λ(s26:(List Qa))=>some s26)
def Qfn(n:Nat)(x0:(List (List Qa))):Option ((List Qa)×Bool):=bif decide ((x0.length:Int)=(0:Int)) then(some (([]:List Qa),true))else((getI x0 (0:Int)).bind λy1=>(Qga n y1).bind λr3=>(sub x0 (1:Int) (x0.length:Int)).bind λy5=>(rangeL (λ(_:Nat) (x72:(List Qa)) (s70:(List Qa))=>bif !decide ((x72.length:Int)=(s70.length:Int)) then(some (Lp.out ((([]:List Qa),false))))else((rangeL (λ(i86:Nat) (x87:Qa) (s85:(List Qa))=>(getI s85 (i86:Int)).bind λy89=>(K5 n y89 x87).bind λr91=>(getI s85 (i86:Int)).bind λ_=>some (Lp.go (List.set s85 (Int.toNat (i86:Int)) r91))) x72 0 s70).bind (lpK λ(s95:(List Qa))=>some (Lp.go s95)))) y5 0 r3).bind (lpK λ(s96:(List Qa))=>some (s96,true)))
def Wt(n:Nat)(x0_p:Ql)(x0_t:Qa)(x0_h:Qa)(x0_y:(List Qa))(x0_g:Qp)(x0_out_Ys:(List (List Qa)))(x0_out_Ks:(List (List Qa)))(x0_out_Next:(List Qa))(x0_out_Err:(List Qa))(x1:(List Qa)):Option ((List Qa)):=(K0 n x0_p x0_t x0_h x0_y x0_g x0_out_Ys x0_out_Ks x0_out_Next x0_out_Err x1).bind λr3=>(Qfn n ([x0_y,r3]:List (List Qa))).bind λr5=>some r5.1
def Zz(x0:Qp)(x1:Int):Option (Qp):=some (⟨(⟨wrap64 (x0.Count.Seen+(1:Int)),max x0.Count.Peak x1⟩:X4),x0.limit⟩:Qp)
def Wg(n:Nat)(x0:Qp)(x1:Qa):Option (Bool×Qp):=(Vf n x1).bind λr1=>(Zz x0 r1).bind λr3=>some (decide (r1≤r3.limit),r3)
def Yt(n:Nat)(x0:Qp)(x1:(List Qa)):Option (Int×Bool×Qp):=(rangeL (λ(i15:Nat) (x16:Qa) (s14:Qp)=>(Wg n s14 x16).bind λr18=>bif !r18.1 then(some (Lp.out (((i15:Int),false,r18.2))))else(some (Lp.go r18.2))) x1 0 x0).bind (lpK λ(s20:Qp)=>some ((x1.length:Int),true,s20))
def Vb(n:Nat)(x0_p:Ql)(x0_t:Qa)(x0_h:Qa)(x0_y:(List Qa))(x0_g:Qp)(x0_out_Ys:(List (List Qa)))(x0_out_Ks:(List (List Qa)))(x0_out_Next:(List Qa))(x0_out_Err:(List Qa))(x1:(List Qa))(x2:Int):Option (Qc×Qp):=(Yt n x0_g x1).bind λr1=>bif !r1.2.1 then(some ((⟨(6:Int),0,x2,wrap64 ((300:Int)+r1.1)⟩:Qc),r1.2.2))else(some ((⟨0,0,0,0⟩:Qc),r1.2.2))
def Qc3(n:Nat)(x0:Ql)(x1:Qa)(x2:Qa)(x3:Int):Option (Qa):=jn (λ(j1:(Bool)->Option _)=>bif decide (x3<(0:Int)) then(j1 true)else(j1 (decide ((x0.Scheme.C.length:Int)≤x3)))) (λ(s3:Bool)=>bif s3 then((Jg n x1).bind λr4=>some r4)else((getI x0.Scheme.C x3).bind λy6=>(X7 n x2 y6).bind λr8=>(K5 n x1 r8).bind λr10=>some r10))
def Qj9(x0:Ql)(x1:Qa)(x2:(List Qa)):Option (Xb):=some (⟨x1,x2,x0.P⟩:Xb)
def Qd3(n:Nat)(x0:(List Qa)):Option ((List Qa)):=(rangeL (λ(_:Nat) (x20:Qa) (s18:(List Qa))=>(Jg n x20).bind λr22=>(appM 56 s18 ([r22]:List Qa)).bind λy24=>some (Lp.go y24)) x0 0 ([]:List Qa)).bind (lpK λ(s26:(List Qa))=>some s26)
def Qhf(n:Nat)(x0:Xb):Option (Xb):=(Jg n x0.T).bind λr1=>(Qd3 n x0.Y).bind λr3=>(Qd3 n x0.P).bind λr5=>some (⟨r1,r3,r5⟩:Xb)
def Qgb(n:Nat)(x0:Qa):Option (Qa):=(Jg n x0).bind λr1=>(Qde n r1.Num).bind λr3=>some (⟨r3,r1.Den⟩:Qa)
def Qby(n:Nat)(x0_g:Qp)(x1:Qa):Option (Qa):=(Qgb n x1).bind λr1=>some r1
def Qca(n:Nat)(x0:(List Nat))(x1:Int):Option ((List Nat)):=(Yb n 1).bind λr1=>(loopM (λ(s11:(List Nat)×Int)=>bif decide (s11.2<x1) then((X6 n s11.1 x0).bind λr12=>some (Lp.go (r12,wrap64 (s11.2+(1:Int)))))else(some (Lp.out s11.1))) n (r1,(0:Int))).bind λ(t9:(List Nat))=>some t9
def Qgc(n:Nat)(x0:Qa)(x1:Int):Option (Qa×Bool):=jn (λ(j3:(Bool)->Option _)=>bif decide (x1<(-8:Int)) then(j3 true)else(bif decide ((8:Int)<x1) then(j3 true)else(bif decide (x1<(0:Int)) then((Vg n x0).bind λr6=>j3 (decide (r6=(0:Int))))else(j3 false)))) (λ(s5:Bool)=>bif s5 then((Jx n (0:Int)).bind λr8=>some (r8,false))else((Jg n x0).bind λr10=>(Qca n r10.Num.Abs (max x1 (wrap64 (-x1)))).bind λr12=>(Qca n r10.Den (max x1 (wrap64 (-x1)))).bind λr14=>jn (λ(j16:((List Nat)×(List Nat))->Option _)=>bif decide (x1<(0:Int)) then(j16 (r14,r12))else(j16 (r12,r14))) (λ(s18:(List Nat)×(List Nat))=>jn (λ(j23:(Qa)->Option _)=>bif r10.Num.Neg then((Yp n (⟨decide ((Int.tmod (max x1 (wrap64 (-x1))) (2:Int))=(1:Int)),s18.1⟩:Qd)).bind λr26=>j23 (⟨r26,s18.2⟩:Qa))else((Yp n (⟨false,s18.1⟩:Qd)).bind λr28=>j23 (⟨r28,s18.2⟩:Qa))) (λ(s25:Qa)=>some (s25,true)))))
def Qbz(n:Nat)(x0_g:Qp)(x1:Qa)(x2:Int):Option (Qa×Bool):=(Qgc n x1 x2).bind λr1=>some (r1.1,r1.2)
def Qb0(n:Nat)(x0_g:Qp)(x1:Qa)(x2:Qa):Option (Qa):=(K5 n x1 x2).bind λr1=>some r1
def Qb1(n:Nat)(x0_g:Qp)(x1:Qa)(x2:Qa):Option (Qa):=(Qcr n x1 x2).bind λr1=>some r1
def Qb2(n:Nat)(x0_g:Qp)(x1:Qa)(x2:Qa):Option (Qa):=(X7 n x1 x2).bind λr1=>some r1
def Qct(n:Nat)(x0:Qa)(x1:Qa):Option (Qa×Bool):=(Kw n x0).bind λr1=>(Kw n x1).bind λr3=>(Yq n r3.1).bind λr5=>bif decide (r5=(0:Int)) then((Jx n (0:Int)).bind λr7=>some (r7,false))else((Xc n r1.1 r3.2).bind λr9=>(X6 n r1.2 r3.1.Abs).bind λr11=>(Xf n (⟨(r9.Neg != r3.1.Neg),r9.Abs⟩:Qd) r11).bind λr13=>some (r13,true))
def Qb3(n:Nat)(x0_g:Qp)(x1:Qa)(x2:Qa):Option (Qa×Bool):=(Qct n x1 x2).bind λr1=>some (r1.1,r1.2)
def Qcu(n:Nat)(x0_g:Qp)(x1:Qa):Option (Qa):=(Jg n x1).bind λr1=>some r1
def K6(n:Nat)(x0_Arith_g:Qp)(x1:Q7)(x2:Wq):Option (Qa):=bif decide (x1.Op=(1:Int)) then((Qcu n x0_Arith_g x1.N).bind λr1=>some r1)else(bif decide (x1.Op=(3:Int)) then((getI x2.Y x1.A).bind λy3=>some y3)else(bif decide (x1.Op=(4:Int)) then((getI x2.P x1.A).bind λy5=>some y5)else(some x2.T)))
def J3(n:Nat)(x0_Arith_g:Qp)(x1:Q7)(x2:Wq)(x3:(List Qa)):Option (Qa×Bool):=bif decide (x1.Op=(6:Int)) then((getI x3 x1.A).bind λy1=>(Qby n x0_Arith_g y1).bind λr3=>some (r3,true))else(bif decide (x1.Op=(11:Int)) then((getI x3 x1.A).bind λy5=>(Qbz n x0_Arith_g y5 x1.B).bind λr7=>some (r7.1,r7.2))else(bif decide (x1.Op=(7:Int)) then((getI x3 x1.A).bind λy9=>(getI x3 x1.B).bind λy11=>(Qb0 n x0_Arith_g y9 y11).bind λr13=>some (r13,true))else(bif decide (x1.Op=(8:Int)) then((getI x3 x1.A).bind λy15=>(getI x3 x1.B).bind λy17=>(Qb1 n x0_Arith_g y15 y17).bind λr19=>some (r19,true))else(bif decide (x1.Op=(9:Int)) then((getI x3 x1.A).bind λy21=>(getI x3 x1.B).bind λy23=>(Qb2 n x0_Arith_g y21 y23).bind λr25=>some (r25,true))else(bif decide (x1.Op=(10:Int)) then((getI x3 x1.A).bind λy27=>(getI x3 x1.B).bind λy29=>(Qb3 n x0_Arith_g y27 y29).bind λr31=>some (r31.1,r31.2))else((K6 n x0_Arith_g x1 x2).bind λr33=>some (r33,true)))))))
def Zu(n:Nat)(x0_g:Qp)(x1:Qa):Option (Bool×Qp):=(Wg n x0_g x1).bind λr1=>some (r1.1,r1.2)
def Kn(n:Nat)(x0_Arith_g:Qp)(x1:Q2)(x2:Wq):Option ((List Qa)×Qc×Qp):=jn (λ(j3:(Bool)->Option _)=>(Yr n x1).bind λr6=>bif !r6 then(j3 true)else(bif !decide ((x2.Y.length:Int)=x1.Dim) then(j3 true)else(j3 (!decide ((x2.P.length:Int)=x1.Par))))) (λ(s5:Bool)=>bif s5 then(some (([]:List Qa),(⟨(2:Int),0,0,0⟩:Qc),x0_Arith_g))else((rangeL (λ(i30:Nat) (x31:Q7) (s29:Qp×(List Qa))=>(J3 n s29.1 x31 x2 s29.2).bind λr33=>bif !r33.2 then(some (Lp.out ((([]:List Qa),(⟨(3:Int),0,0,(i30:Int)⟩:Qc),s29.1))))else((Zu n s29.1 r33.1).bind λr35=>bif !r35.1 then(some (Lp.out ((([]:List Qa),(⟨(6:Int),0,0,(i30:Int)⟩:Qc),r35.2))))else((appM 56 s29.2 ([r33.1]:List Qa)).bind λy37=>some (Lp.go (r35.2,y37))))) x1.Code 0 (x0_Arith_g,([]:List Qa))).bind (lpK λ(s39:Qp×(List Qa))=>some (s39.2,(⟨0,0,0,0⟩:Qc),s39.1))))
def Qil(n:Nat)(x0:Q2)(x1:Xb)(x2:Int):Option ((List Qa)×Qc):=(Qhf n x1).bind λr1=>(Qdh x2).bind λr3=>(Kn n r3 x0 (⟨r1.T,r1.Y,r1.P⟩:Wq)).bind λr5=>some (r5.1,r5.2.1)
def Qim(n:Nat)(x0:Q2)(x1:(List Qa)):Option ((List Qa)):=jn (λ(j3:(Bool)->Option _)=>(Yr n x0).bind λr6=>bif !r6 then(j3 true)else(j3 (!decide ((x1.length:Int)=(x0.Code.length:Int))))) (λ(s5:Bool)=>bif s5 then(some ([]:List Qa))else((rangeL (λ(_:Nat) (x31:Int) (s29:(List Qa))=>(getI x1 x31).bind λy33=>(Jg n y33).bind λr35=>(appM 56 s29 ([r35]:List Qa)).bind λy37=>some (Lp.go y37)) x0.Outs 0 ([]:List Qa)).bind (lpK λ(s39:(List Qa))=>some s39)))
def Qe1(n:Nat)(x0:Q2)(x1:Xb)(x2:Int):Option ((List Qa)×Qc):=(Qil n x0 x1 x2).bind λr1=>bif !(Qx r1.2 (⟨0,0,0,0⟩:Qc)) then(some (([]:List Qa),r1.2))else((Qim n x0 r1.1).bind λr3=>some (r3,r1.2))
def Wh(n:Nat)(x0_p:Ql)(x0_t:Qa)(x0_h:Qa)(x0_y:(List Qa))(x0_g:Qp)(x0_out_Ys:(List (List Qa)))(x0_out_Ks:(List (List Qa)))(x0_out_Next:(List Qa))(x0_out_Err:(List Qa))(x1:Int):Option (Qc×Ql×Qa×Qa×(List Qa)×(List Qa)×(List Qa)×Qp×(List (List Qa))×(List (List Qa))):=(getI x0_p.Scheme.A x1).bind λy1=>(Wt n x0_p x0_t x0_h x0_y x0_g x0_out_Ys x0_out_Ks x0_out_Next x0_out_Err y1).bind λr3=>(Vb n x0_p x0_t x0_h x0_y x0_g x0_out_Ys x0_out_Ks x0_out_Next x0_out_Err r3 x1).bind λr5=>bif !(Qx r5.1 (⟨0,0,0,0⟩:Qc)) then(some (r5.1,x0_p,x0_t,x0_h,x0_y,x0_out_Next,x0_out_Err,r5.2,x0_out_Ys,x0_out_Ks))else((Qc3 n x0_p x0_t x0_h x1).bind λr7=>(Qj9 x0_p r7 r3).bind λr9=>(Qe1 n x0_p.Tape r9 x0_p.Bits).bind λr11=>bif !(Qx r11.2 (⟨0,0,0,0⟩:Qc)) then(some ((⟨r11.2.Kind,r11.2.Step,x1,r11.2.At⟩:Qc),x0_p,x0_t,x0_h,x0_y,x0_out_Next,x0_out_Err,r5.2,x0_out_Ys,x0_out_Ks))else((appM 24 x0_out_Ys ([r3]:List (List Qa))).bind λy13=>(appM 24 x0_out_Ks ([r11.1]:List (List Qa))).bind λy15=>some (r11.2,x0_p,x0_t,x0_h,x0_y,x0_out_Next,x0_out_Err,r5.2,y13,y15)))
def Qka(n:Nat)(x0:(List Qa))(x1:(List Qa)):Option ((List Qa)×Bool):=(Jx n (-1:Int)).bind λr1=>(W1 n r1 x1).bind λr3=>(Qfn n ([x0,r3]:List (List Qa))).bind λr5=>some (r5.1,r5.2)
def Qcb(n:Nat)(x0:Qr):Option ((List Qa)):=jn (λ(j3:(Bool)->Option _)=>(Qal n x0).bind λr6=>bif !r6 then(j3 true)else(j3 (decide ((x0.E.length:Int)=(0:Int))))) (λ(s5:Bool)=>bif s5 then(some ([]:List Qa))else((Qka n x0.B x0.E).bind λr8=>some r8.1))
def Zf(n:Nat)(x0_p:Ql)(x0_t:Qa)(x0_h:Qa)(x0_y:(List Qa))(x0_g:Qp)(x0_out_Ys:(List (List Qa)))(x0_out_Ks:(List (List Qa)))(x0_out_Next:(List Qa))(x0_out_Err:(List Qa)):Option (Qc×Ql×Qa×Qa×(List Qa)×(List Qa)×(List Qa)×Qp×(List (List Qa))×(List (List Qa))):=(rangeL (λ(i15:Nat) (_:Qa) (s14:Ql×Qa×Qa×(List Qa)×Qp×(List (List Qa))×(List (List Qa))×(List Qa)×(List Qa))=>(Wh n s14.1 s14.2.1 s14.2.2.1 s14.2.2.2.1 s14.2.2.2.2.1 s14.2.2.2.2.2.1 s14.2.2.2.2.2.2.1 s14.2.2.2.2.2.2.2.1 s14.2.2.2.2.2.2.2.2 (i15:Int)).bind λr18=>bif !(Qx r18.1 (⟨0,0,0,0⟩:Qc)) then(some (Lp.out ((r18.1,r18.2.1,r18.2.2.1,r18.2.2.2.1,r18.2.2.2.2.1,r18.2.2.2.2.2.1,r18.2.2.2.2.2.2.1,r18.2.2.2.2.2.2.2.1,r18.2.2.2.2.2.2.2.2.1,r18.2.2.2.2.2.2.2.2.2))))else(some (Lp.go (r18.2.1,r18.2.2.1,r18.2.2.2.1,r18.2.2.2.2.1,r18.2.2.2.2.2.2.2.1,r18.2.2.2.2.2.2.2.2.1,r18.2.2.2.2.2.2.2.2.2,r18.2.2.2.2.2.1,r18.2.2.2.2.2.2.1)))) x0_p.Scheme.B 0 (x0_p,x0_t,x0_h,x0_y,x0_g,x0_out_Ys,x0_out_Ks,x0_out_Next,x0_out_Err)).bind (lpK λ(s20:Ql×Qa×Qa×(List Qa)×Qp×(List (List Qa))×(List (List Qa))×(List Qa)×(List Qa))=>(Wt n s20.1 s20.2.1 s20.2.2.1 s20.2.2.2.1 s20.2.2.2.2.1 s20.2.2.2.2.2.1 s20.2.2.2.2.2.2.1 s20.2.2.2.2.2.2.2.1 s20.2.2.2.2.2.2.2.2 x0_p.Scheme.B).bind λr21=>(Vb n s20.1 s20.2.1 s20.2.2.1 s20.2.2.2.1 s20.2.2.2.2.1 s20.2.2.2.2.2.1 s20.2.2.2.2.2.2.1 r21 s20.2.2.2.2.2.2.2.2 r21 (x0_p.Scheme.B.length:Int)).bind λr23=>bif !(Qx r23.1 (⟨0,0,0,0⟩:Qc)) then(some (r23.1,s20.1,s20.2.1,s20.2.2.1,s20.2.2.2.1,r21,s20.2.2.2.2.2.2.2.2,r23.2,s20.2.2.2.2.2.1,s20.2.2.2.2.2.2.1))else(jn (λ(j29:((List Qa))->Option _)=>(Qcb n x0_p.Scheme).bind λr32=>bif decide ((0:Int)<(r32.length:Int)) then((K0 n s20.1 s20.2.1 s20.2.2.1 s20.2.2.2.1 r23.2 s20.2.2.2.2.2.1 s20.2.2.2.2.2.2.1 r21 s20.2.2.2.2.2.2.2.2 r32).bind λr34=>j29 r34)else(j29 s20.2.2.2.2.2.2.2.2)) (λ(s31:(List Qa))=>(Vb n s20.1 s20.2.1 s20.2.2.1 s20.2.2.2.1 r23.2 s20.2.2.2.2.2.1 s20.2.2.2.2.2.2.1 r21 s31 s31 (wrap64 ((x0_p.Scheme.B.length:Int)+(1:Int)))).bind λr36=>some (r36.1,s20.1,s20.2.1,s20.2.2.1,s20.2.2.2.1,r21,s31,r36.2,s20.2.2.2.2.2.1,s20.2.2.2.2.2.2.1))))
def Qbh(n:Nat)(x0:Ql)(x1:Qa)(x2:Qa)(x3:(List Qa)):Option (Yl×Qc):=jn (λ(j3:(Bool)->Option _)=>(Zt n x0).bind λr6=>bif !r6 then(j3 true)else(j3 (!decide ((x3.length:Int)=x0.Tape.Dim)))) (λ(s5:Bool)=>bif s5 then(some ((⟨[],[],[],[]⟩:Yl),(⟨(2:Int),0,0,0⟩:Qc)))else((Qdh x0.Bits).bind λr8=>(Zf n x0 x1 x2 x3 r8 ([]:List (List Qa)) ([]:List (List Qa)) [] []).bind λr10=>bif !(Qx r10.1 (⟨0,0,0,0⟩:Qc)) then(some ((⟨[],[],[],[]⟩:Yl),r10.1))else(some ((⟨r10.2.2.2.2.2.2.2.2.1,r10.2.2.2.2.2.2.2.2.2,r10.2.2.2.2.2.1,r10.2.2.2.2.2.2.1⟩:Yl),(⟨0,0,0,0⟩:Qc)))))
def Qgd(n:Nat)(x0:Qa):Option (Qa):=(Jg n x0).bind λr1=>some (⟨(⟨false,r1.Num.Abs⟩:Qd),r1.Den⟩:Qa)
def Qge(n:Nat)(x0:(List Qa)):Option (Qa):=(Jx n (0:Int)).bind λr1=>(rangeL (λ(i31:Nat) (x32:Qa) (s30:Qa)=>jn (λ(j36:(Bool)->Option _)=>bif decide ((i31:Int)=(0:Int)) then(j36 true)else((Vo n x32 s30).bind λr39=>j36 (decide ((0:Int)<r39)))) (λ(s38:Bool)=>bif s38 then((Jg n x32).bind λr41=>some (Lp.go r41))else(some (Lp.go s30)))) x0 0 r1).bind (lpK λ(s43:Qa)=>some s43)
def Qac(n:Nat)(x0:(List Qa)):Option (Qa):=(Jx n (0:Int)).bind λr1=>(rangeL (λ(_:Nat) (x24:Qa) (s22:Qa)=>(Qgd n x24).bind λr26=>(Qge n ([s22,r26]:List Qa)).bind λr28=>some (Lp.go r28)) x0 0 r1).bind (lpK λ(s30:Qa)=>some s30)
def Qam(n:Nat)(x0:Qw)(x1:Qa):Option (Bool):=(Vo n x1 x0.Tol).bind λr1=>some (decide (r1≤(0:Int)))
def Qc4(n:Nat)(x0:Qd)(x1:Qd):Option (Qd×Qd×Bool):=(Qab n x0.Abs x1.Abs).bind λr1=>bif !r1.2.2 then(some ((⟨false,[]⟩:Qd),(⟨false,[]⟩:Qd),false))else((K4 (x0.Neg != x1.Neg) r1.1).bind λr3=>(Qbs n r3 x1).bind λr5=>(Qag n x0 r5).bind λr7=>jn (λ(j19:(Qd×Qd)->Option _)=>(Yq n r7).bind λr22=>(Yq n x1).bind λr24=>bif decide ((wrap64 (r22*r24))<(0:Int)) then((Qcs n (1:Int)).bind λr26=>(Qag n r3 r26).bind λr28=>(Qbt n r7 x1).bind λr30=>j19 (r28,r30))else(j19 (r3,r7))) (λ(s21:Qd×Qd)=>some (s21.1,s21.2,true)))
def Qd4(n:Nat)(x0:Qa):Option (Qd):=(Kw n x0).bind λr1=>(Qc4 n r1.1 (⟨false,r1.2⟩:Qd)).bind λr3=>some r3.1
def Qbi(n:Nat)(x0:Qd)(x1:(List Nat)):Option (Qa×Bool):=(Qco n x1).bind λr1=>bif r1 then ( (Jx n (0:Int)).bind λr3=>some (r3,false)) else ( (Xf n x0 x1).bind λr5=>some (r5,true))
def Qe2(n:Nat)(x0:Qa)(x1:Int):Option (Qa):=(Jx n x1).bind λr1=>(X7 n x0 r1).bind λr3=>(Qd4 n r3).bind λr5=>(Qcs n x1).bind λr7=>(Qbi n r5 r7.Abs).bind λr9=>some r9.1
def Qc5(n:Nat)(x0:Qw)(x1:Qa):Option (Qa):=(X7 n x0.Safe x0.Tol).bind λr1=>(Qct n r1 x1).bind λr3=>bif !r3.2 then((Jg n x0.High).bind λr5=>some r5)else((Qe2 n r3.1 x0.Fine).bind λr7=>(Vo n r7 x0.Low).bind λr9=>bif decide (r9<(0:Int)) then((Jg n x0.Low).bind λr11=>some r11)else((Vo n r7 x0.High).bind λr13=>bif decide ((0:Int)<r13) then((Jg n x0.High).bind λr15=>some r15)else(some r7)))
def Qdi(n:Nat)(x0:Qw)(x1:Qa)(x2:Qa):Option (Qa):=(Qc5 n x0 x2).bind λr1=>(X7 n x1 r1).bind λr3=>some r3
def V6(n:Nat)(x0_k:Qy)(x0_h_Tries:(List Qm))(x0_h_T:Qa)(x0_h_Y:(List Qa))(x0_want:Qa):Option (Qc×Qy×Qa×(List Qa)×Qa×(List Qm)):=(Qei n x0_h_T x0_k.End x0_want).bind λr1=>(Qbh n x0_k.Problem x0_h_T r1 x0_h_Y).bind λr3=>bif !(Qx r3.2 (⟨0,0,0,0⟩:Qc)) then(some ((⟨r3.2.Kind,wrap64 ((x0_h_Tries.length:Int)+(1:Int)),r3.2.Stage,r3.2.At⟩:Qc),x0_k,x0_h_T,x0_h_Y,x0_want,x0_h_Tries))else((Qac n r3.1.Err).bind λr5=>(Qam n x0_k.Rules r5).bind λr7=>(appM 256 x0_h_Tries ([(⟨x0_h_T,x0_want,r1,r5,x0_h_Y,r7⟩:Qm)]:List Qm)).bind λy9=>jn (λ(j13:(Qa×(List Qa))->Option _)=>bif r7 then((K5 n x0_h_T r1).bind λr16=>j13 (r16,r3.1.Next))else(j13 (x0_h_T,x0_h_Y))) (λ(s15:Qa×(List Qa))=>(Qdi n x0_k.Rules r1 r5).bind λr18=>some (r3.2,x0_k,s15.1,s15.2,r18,y9)))
def Yu(n:Nat)(x0:Qw)(x1:Qa):Option (Bool):=(Vo n x1 x0.Least).bind λr1=>some (decide (r1<(0:Int)))
def Vq(n:Nat)(x0_k:Qy)(x0_h_Tries:(List Qm))(x0_h_T:Qa)(x0_h_Y:(List Qa))(x0_want:Qa):Option (Qc):=bif decide ((x0_h_Tries.length:Int)=x0_k.Rules.Most) then(some (⟨(5:Int),wrap64 ((x0_h_Tries.length:Int)+(1:Int)),0,0⟩:Qc))else((Yu n x0_k.Rules x0_want).bind λr1=>bif r1 then(some (⟨(4:Int),wrap64 ((x0_h_Tries.length:Int)+(1:Int)),0,0⟩:Qc))else(some (⟨0,0,0,0⟩:Qc)))
def W2(n:Nat)(x0_k:Qy)(x0_h_Tries:(List Qm))(x0_h_T:Qa)(x0_h_Y:(List Qa))(x0_want:Qa):Option (Bool):=(Jn n x0_h_T x0_k.End).bind λr1=>some r1
def Vc(x0:Qm):Option ((List Qa)):=some ([x0.T,x0.Want,x0.H,x0.Err]:List Qa)
def X8(n:Nat)(x0:(List (List Qa))):Option (Bool):=(rangeL (λ(_:Nat) (x22:(List Qa)) (_:Unit)=>(rangeL (λ(_:Nat) (x33:Qa) (_:Unit)=>(K1 n x33).bind λr35=>bif !r35 then(some (Lp.out (Lp.out (false))))else(some (Lp.go ()))) x22 0 ()).bind (lpK λ(_:Unit)=>some (Lp.go ()))) x0 0 ()).bind (lpK λ(_:Unit)=>some true)
def Qcc(n:Nat)(x0:Qi):Option (Bool):=(rangeL (λ(_:Nat) (x12:Qm) (_:Unit)=>(Vc x12).bind λr14=>(X8 n ([r14,x12.Y]:List (List Qa))).bind λr16=>bif !r16 then(some (Lp.out (false)))else(some (Lp.go ()))) x0.Tries 0 ()).bind (lpK λ(_:Unit)=>(X8 n ([([x0.T]:List Qa),x0.Y]:List (List Qa))).bind λr19=>some r19)
def Qan(x0:Qi):Option (Bool):=(rangeL (λ(_:Nat) (x8:Qm) (_:Unit)=>bif !decide ((x8.Y.length:Int)=(x0.Y.length:Int)) then(some (Lp.out (false)))else(some (Lp.go ()))) x0.Tries 0 ()).bind (lpK λ(_:Unit)=>jn (λ(j11:(Bool)->Option _)=>bif decide ((1:Int)≤(x0.Y.length:Int)) then(j11 (decide ((x0.Y.length:Int)≤(6:Int))))else(j11 false)) (λ(s13:Bool)=>some s13))
def Qcd(n:Nat)(x0:Qi):Option (Bool):=(rangeL (λ(_:Nat) (x27:Qm) (_:Unit)=>jn (λ(j37:(Bool)->Option _)=>(Vg n x27.Want).bind λr40=>bif decide (r40≤(0:Int)) then(j37 true)else((Vg n x27.H).bind λr42=>bif decide (r42≤(0:Int)) then(j37 true)else((Vo n x27.H x27.Want).bind λr44=>bif decide ((0:Int)<r44) then(j37 true)else((Vg n x27.Err).bind λr46=>j37 (decide (r46<(0:Int))))))) (λ(s39:Bool)=>bif s39 then(some (Lp.out (false)))else(some (Lp.go ())))) x0.Tries 0 ()).bind (lpK λ(_:Unit)=>some true)
def Vy(n:Nat)(x0:(List Qa))(x1:(List Qa)):Option (Bool):=bif !decide ((x0.length:Int)=(x1.length:Int)) then(some false)else((rangeL (λ(i11:Nat) (x12:Qa) (_:Unit)=>(getI x1 (i11:Int)).bind λy14=>(Jn n x12 y14).bind λr16=>bif !r16 then(some (Lp.out (false)))else(some (Lp.go ()))) x0 0 ()).bind (lpK λ(_:Unit)=>some true))
def Qce(n:Nat)(x0:Qm)(x1:Qa)(x2:(List Qa)):Option (Bool):=bif x0.Ok then((K5 n x0.T x0.H).bind λr1=>(Jn n x1 r1).bind λr3=>some r3)else(jn (λ(j9:(Bool)->Option _)=>(Jn n x1 x0.T).bind λr12=>bif r12 then((Vy n x2 x0.Y).bind λr14=>j9 r14)else(j9 false)) (λ(s11:Bool)=>some s11))
def Qcf(n:Nat)(x0:Qi):Option (Bool):=(rangeL (λ(i20:Nat) (x21:Qm) (_:Unit)=>jn (λ(j27:(Qa×(List Qa))->Option _)=>bif decide ((wrap64 ((i20:Int)+(1:Int)))<(x0.Tries.length:Int)) then((getI x0.Tries (wrap64 ((i20:Int)+(1:Int)))).bind λy30=>(getI x0.Tries (wrap64 ((i20:Int)+(1:Int)))).bind λy32=>j27 (y30.T,y32.Y))else(j27 (x0.T,x0.Y))) (λ(s29:Qa×(List Qa))=>(Qce n x21 s29.1 s29.2).bind λr34=>bif !r34 then(some (Lp.out (false)))else(some (Lp.go ())))) x0.Tries 0 ()).bind (lpK λ(_:Unit)=>some true)
def Qd5(n:Nat)(x0:Qi):Option (Int):=(Qcc n x0).bind λr1=>bif !r1 then(some (1:Int))else((Qan x0).bind λr3=>bif !r3 then(some (2:Int))else(bif decide ((200:Int)<(x0.Tries.length:Int)) then(some (3:Int))else((Qcd n x0).bind λr5=>bif !r5 then(some (4:Int))else((Qcf n x0).bind λr7=>bif !r7 then(some (5:Int))else(some (0:Int))))))
def Zv(n:Nat)(x0:Qi):Option (Bool):=(Qd5 n x0).bind λr1=>some (decide (r1=(0:Int)))
def Xa(x0:W0)(x1:Int):Option (Qa×(List Qa)):=bif decide (x1<(x0.h.Tries.length:Int)) then((getI x0.h.Tries x1).bind λy1=>(getI x0.h.Tries x1).bind λy3=>some (y1.T,y3.Y))else(some (x0.h.T,x0.h.Y))
def Xn(n:Nat)(x0:W0):Option (Bool):=(Xa x0 (0:Int)).bind λr1=>jn (λ(j7:(Bool)->Option _)=>(Jn n r1.1 x0.k.Start).bind λr10=>bif r10 then((Vy n r1.2 x0.k.Y).bind λr12=>j7 r12)else(j7 false)) (λ(s9:Bool)=>some s9)
def Yg(n:Nat)(x0:W0):Option (Bool):=(rangeL (λ(_:Nat) (x10:Qm) (_:Unit)=>(Vo n x10.T x0.k.End).bind λr12=>bif decide ((0:Int)≤r12) then(some (Lp.out (false)))else(some (Lp.go ()))) x0.h.Tries 0 ()).bind (lpK λ(_:Unit)=>some (decide ((x0.h.Tries.length:Int)≤x0.k.Rules.Most)))
def Xo(n:Nat)(x0:W0)(x1:Int):Option (Bool):=jn (λ(j5:(Qa)->Option _)=>bif decide ((0:Int)<x1) then((getI x0.h.Tries (wrap64 (x1 - (1:Int)))).bind λy8=>(Qdi n x0.k.Rules y8.H y8.Err).bind λr10=>j5 r10)else(j5 x0.k.First)) (λ(s7:Qa)=>jn (λ(j19:(Bool)->Option _)=>(getI x0.h.Tries x1).bind λy22=>(Jn n y22.Want s7).bind λr24=>bif r24 then((Yu n x0.k.Rules s7).bind λr27=>j19 (!r27))else(j19 false)) (λ(s21:Bool)=>some s21))
def Xj(n:Nat)(x0:W0)(x1:Int):Option (Int):=(getI x0.h.Tries x1).bind λy1=>(Xo n x0 x1).bind λr3=>bif !r3 then(some (4:Int))else((Qei n y1.T x0.k.End y1.Want).bind λr5=>(Jn n y1.H r5).bind λr7=>bif !r7 then(some (5:Int))else((Qbh n x0.k.Problem y1.T y1.H y1.Y).bind λr9=>(Xa x0 (wrap64 (x1+(1:Int)))).bind λr11=>bif !decide (r9.2.Kind=(0:Int)) then(some (6:Int))else((Qac n r9.1.Err).bind λr13=>(Jn n y1.Err r13).bind λr15=>bif !r15 then(some (7:Int))else((Qam n x0.k.Rules y1.Err).bind λr17=>bif (y1.Ok != r17) then(some (8:Int))else(jn (λ(j21:(Bool)->Option _)=>bif y1.Ok then((Vy n r11.2 r9.1.Next).bind λr24=>j21 (!r24))else(j21 false)) (λ(s23:Bool)=>bif s23 then(some (9:Int))else(some (0:Int))))))))
def Vz(n:Nat)(x0:W0):Option (Qv):=jn (λ(j3:(Bool)->Option _)=>(Zv n x0.h).bind λr6=>bif !r6 then(j3 true)else(j3 (!decide ((x0.h.Y.length:Int)=(x0.k.Y.length:Int))))) (λ(s5:Bool)=>bif s5 then(some (⟨(1:Int),0⟩:Qv))else((Xn n x0).bind λr8=>bif !r8 then(some (⟨(2:Int),0⟩:Qv))else((Yg n x0).bind λr10=>bif !r10 then(some (⟨(3:Int),0⟩:Qv))else((rangeL (λ(i20:Nat) (_:Qm) (_:Unit)=>(Xj n x0 (i20:Int)).bind λr23=>bif !decide (r23=(0:Int)) then(some (Lp.out ((⟨r23,(i20:Int)⟩:Qv))))else(some (Lp.go ()))) x0.h.Tries 0 ()).bind (lpK λ(_:Unit)=>some (⟨0,0⟩:Qv))))))
def Z3(n:Nat)(x0:(List Qa)):Option ((List Qa)):=(Jx n (1:Int)).bind λr1=>(W1 n r1 x0).bind λr3=>some r3
def Z0(n:Nat)(x0:Qi):Option ((List Qm)):=(rangeL (λ(_:Nat) (x44:Qm) (s42:(List Qm))=>bif x44.Ok then((Vc x44).bind λr46=>(Z3 n r46).bind λr48=>(getI r48 (0:Int)).bind λy50=>(getI r48 (1:Int)).bind λy52=>(getI r48 (2:Int)).bind λy54=>(getI r48 (3:Int)).bind λy56=>(Z3 n x44.Y).bind λr58=>(appM 256 s42 ([(⟨y50,y52,y54,y56,r58,true⟩:Qm)]:List Qm)).bind λy60=>some (Lp.go y60))else(some (Lp.go s42))) x0.Tries 0 ([]:List Qm)).bind (lpK λ(s62:(List Qm))=>some s62)
def Qcg(n:Nat)(x0:(List Qa)):Option (Bool):=(rangeL (λ(_:Nat) (x19:Qa) (_:Unit)=>jn (λ(j25:(Bool)->Option _)=>(K1 n x19).bind λr28=>bif !r28 then(j25 true)else((Vf n x19).bind λr30=>j25 (decide ((190:Int)<r30)))) (λ(s27:Bool)=>bif s27 then(some (Lp.out (false)))else(some (Lp.go ())))) x0 0 ()).bind (lpK λ(_:Unit)=>some true)
def Qas(n:Nat)(x0:Qa):Option (Bool):=(Vg n x0).bind λr1=>some (decide ((0:Int)<r1))
def Qgf(n:Nat)(x0:Qw):Option (Int):=(Jx n (1:Int)).bind λr1=>(Qcg n ([x0.Tol,x0.Safe,x0.Low,x0.High,x0.Least]:List Qa)).bind λr3=>bif !r3 then(some (1:Int))else((Vg n x0.Tol).bind λr5=>bif decide (r5<(0:Int)) then(some (2:Int))else(jn (λ(j11:(Bool)->Option _)=>(Qas n x0.Safe).bind λr14=>bif !r14 then(j11 true)else((Vo n x0.Safe r1).bind λr16=>j11 (decide ((0:Int)<r16)))) (λ(s13:Bool)=>bif s13 then(some (3:Int))else(jn (λ(j22:(Bool)->Option _)=>(Qas n x0.Low).bind λr25=>bif !r25 then(j22 true)else((Vo n x0.Low r1).bind λr27=>j22 (decide ((0:Int)≤r27)))) (λ(s24:Bool)=>bif s24 then(some (4:Int))else((Vo n x0.High r1).bind λr29=>bif decide (r29<(0:Int)) then(some (5:Int))else((Qas n x0.Least).bind λr31=>bif !r31 then(some (6:Int))else(jn (λ(j33:(Bool)->Option _)=>bif decide (x0.Fine<(1:Int)) then(j33 true)else(j33 (decide ((1024:Int)<x0.Fine)))) (λ(s35:Bool)=>bif s35 then(some (7:Int))else(jn (λ(j36:(Bool)->Option _)=>bif decide (x0.Most<(1:Int)) then(j36 true)else(j36 (decide ((200:Int)<x0.Most)))) (λ(s38:Bool)=>bif s38 then(some (8:Int))else(some (0:Int)))))))))))))
def Qd6(n:Nat)(x0:Qw):Option (Bool):=(Qgf n x0).bind λr1=>some (decide (r1=(0:Int)))
def We(n:Nat)(x0:Qy):Option (Bool):=jn (λ(j9:(Bool)->Option _)=>(Zt n x0.Problem).bind λr12=>bif r12 then((Qd6 n x0.Rules).bind λr14=>bif r14 then(bif decide ((x0.Y.length:Int)=x0.Problem.Tape.Dim) then((Vo n x0.End x0.Start).bind λr16=>bif decide ((0:Int)≤r16) then((Vg n x0.First).bind λr18=>j9 (decide ((0:Int)<r18)))else(j9 false))else(j9 false))else(j9 false))else(j9 false)) (λ(s11:Bool)=>some s11)
def W3(x0:Qc)(x1:Qc):Option (Bool×Qc):=some (!(Qx x0 (⟨0,0,0,0⟩:Qc)),x0)
def Zw(n:Nat)(x0:Qy):Option (Qi×Qc):=(We n x0).bind λr1=>bif !r1 then(some ((⟨[],(⟨(⟨false,[]⟩:Qd),[]⟩:Qa),[]⟩:Qi),(⟨(2:Int),0,0,0⟩:Qc)))else((Jg n x0.Start).bind λr3=>(Jx n (1:Int)).bind λr5=>(W1 n r5 x0.Y).bind λr7=>(Jg n x0.First).bind λr9=>(loopM (λ(s57:Qy×(List Qm)×Qa×(List Qa)×Qa×Qc)=>(W2 n s57.1 s57.2.1 s57.2.2.1 s57.2.2.2.1 s57.2.2.2.2.1).bind λr58=>bif !r58 then(jn (λ(j68:(Qy×(List Qm)×Qa×(List Qa)×Qa×Qc×Bool)->Option _)=>(Vq n s57.1 s57.2.1 s57.2.2.1 s57.2.2.2.1 s57.2.2.2.2.1).bind λr71=>(W3 r71 s57.2.2.2.2.2).bind λr73=>bif r73.1 then(j68 (s57.1,s57.2.1,s57.2.2.1,s57.2.2.2.1,s57.2.2.2.2.1,r73.2,true))else((V6 n s57.1 s57.2.1 s57.2.2.1 s57.2.2.2.1 s57.2.2.2.2.1).bind λr75=>(W3 r75.1 r73.2).bind λr77=>j68 (r75.2.1,r75.2.2.2.2.2,r75.2.2.1,r75.2.2.2.1,r75.2.2.2.2.1,r77.2,r77.1))) (λ(s70:Qy×(List Qm)×Qa×(List Qa)×Qa×Qc×Bool)=>bif s70.2.2.2.2.2.2 then(some (Lp.out (s70.1,s70.2.1,s70.2.2.1,s70.2.2.2.1,s70.2.2.2.2.1,s70.2.2.2.2.2.1)))else(some (Lp.go (s70.1,s70.2.1,s70.2.2.1,s70.2.2.2.1,s70.2.2.2.2.1,s70.2.2.2.2.2.1)))))else(some (Lp.out (s57.1,s57.2.1,s57.2.2.1,s57.2.2.2.1,s57.2.2.2.2.1,s57.2.2.2.2.2)))) n (x0,([]:List Qm),r3,r7,r9,(⟨0,0,0,0⟩:Qc))).bind λ(t55:Qy×(List Qm)×Qa×(List Qa)×Qa×Qc)=>some ((⟨t55.2.1,t55.2.2.1,t55.2.2.2.1⟩:Qi),t55.2.2.2.2.2))
def Y8(n:Nat)(x0:Qy):Option (Qi×Qc):=(Zw n x0).bind λr1=>bif !(Qx r1.2 (⟨0,0,0,0⟩:Qc)) then ( some ((⟨[],(⟨(⟨false,[]⟩:Qd),[]⟩:Qa),[]⟩:Qi),r1.2)) else ( some (r1.1,r1.2))
def Qg3(n:Nat)(x0:(List UInt8)):Option (Int):=(loopM (λ(s27:Int)=>bif decide (s27<(x0.length:Int)) then(jn (λ(j32:(Bool)->Option _)=>(getS x0 s27).bind λy35=>bif decide (y35<48) then(j32 true)else((getS x0 s27).bind λy37=>bif decide (57<y37) then(j32 true)else(j32 (decide (s27=(60:Int)))))) (λ(s34:Bool)=>bif s34 then(some (Lp.out (Lp.out (s27))))else(some (Lp.go (wrap64 (s27+(1:Int)))))))else(some (Lp.out (Lp.go ())))) n (0:Int)).bind (lpK λ(_:Unit)=>bif decide (x0=([]:List UInt8)) then(some (0:Int))else(some (-1:Int)))
def Qku(n:Nat)(x0:(List Nat))(x1:Nat)(x2:Nat):Option ((List Nat)):=(mkM 4 (0:Nat) (wrap64 ((x0.length:Int)+(1:Int)))).bind λy1=>(Qbc y1 (0:Int) x0 x1 x2).bind λr3=>(K3 n r3).bind λr5=>some r5
def Qe8(n:Nat)(x0:(List UInt8)):Option ((List Nat)×Qc):=(Qg3 n x0).bind λr1=>bif decide ((0:Int)≤r1) then(some (([]:List Nat),(⟨(1:Int),0,0,r1⟩:Qc)))else((loopM (λ(s49:(List Nat)×Int)=>bif decide (s49.2<(x0.length:Int)) then((loopM (λ(s59:Int×Nat×Nat×Int)=>jn (λ(j60:(Bool)->Option _)=>bif decide (s59.2.2.2<(9:Int)) then(j60 (decide (s59.1<(x0.length:Int))))else(j60 false)) (λ(s62:Bool)=>bif s62 then((getS x0 s59.1).bind λy63=>(some (((((s59.2.1*10)%4294967296)+((y63+256 - 48)%256))%4294967296))).bind λz65=>some (Lp.go (wrap64 (s59.1+(1:Int)),z65,((s59.2.2.1*10)%4294967296),wrap64 (s59.2.2.2+(1:Int)))))else(some (Lp.out (s59.1,s59.2.1,s59.2.2.1))))) n (s49.2,0,1,(0:Int))).bind λ(t57:Int×Nat×Nat)=>(Qku n s49.1 t57.2.2 t57.2.1).bind λr66=>some (Lp.go (r66,t57.1)))else(some (Lp.out s49.1))) n (([]:List Nat),(0:Int))).bind λ(t47:(List Nat))=>some (t47,(⟨0,0,0,0⟩:Qc)))
def Qel(n:Nat)(x0:Qy)(x1:Qi):Option (Qv):=(We n x0).bind λr1=>bif !r1 then(some (⟨(-1:Int),0⟩:Qv))else((Vz n (⟨x0,x1⟩:W0)).bind λr3=>jn (λ(j12:(Qv)->Option _)=>jn (λ(j17:(Bool)->Option _)=>bif (K9 r3 (⟨0,0⟩:Qv)) then((Jn n x1.T x0.End).bind λr20=>j17 (!r20))else(j17 false)) (λ(s19:Bool)=>bif s19 then(j12 (⟨(10:Int),r3.Try⟩:Qv))else(j12 r3))) (λ(s14:Qv)=>some s14))
def Wi(n:Nat)(x0:Qy)(x1:Qi):Option (Bool):=(Qel n x0 x1).bind λr1=>some (K9 r1 (⟨0,0⟩:Qv))
def Qc6(n:Nat)(x0:Qy)(x1:Qi)(x2:Int):Option (Qi×Bool):=(sub x1.Tries (0:Int) x2).bind λy9=>(Jg n x0.Start).bind λr11=>(Jx n (1:Int)).bind λr13=>(W1 n r13 x0.Y).bind λr15=>bif decide (x2=(0:Int)) then(some ((⟨y9,r11,r15⟩:Qi),true))else((getI x1.Tries (wrap64 (x2 - (1:Int)))).bind λy17=>bif y17.Ok then((Qbh n x0.Problem y17.T y17.H y17.Y).bind λr19=>(K5 n y17.T y17.H).bind λr21=>some ((⟨y9,r21,r19.1.Next⟩:Qi),decide (r19.2.Kind=(0:Int))))else(some ((⟨y9,y17.T,y17.Y⟩:Qi),true)))
def Qch(n:Nat)(x0:Qi):Option (Qi):=(Jx n (1:Int)).bind λr1=>(Jg n x0.T).bind λr3=>(W1 n r1 x0.Y).bind λr5=>(rangeL (λ(_:Nat) (x42:Qm) (s40:(List Qm))=>(Jg n x42.T).bind λr44=>(Jg n x42.Want).bind λr46=>(Jg n x42.H).bind λr48=>(Jg n x42.Err).bind λr50=>(W1 n r1 x42.Y).bind λr52=>(appM 256 s40 ([(⟨r44,r46,r48,r50,r52,x42.Ok⟩:Qm)]:List Qm)).bind λy54=>some (Lp.go y54)) x0.Tries 0 ([]:List Qm)).bind (lpK λ(s56:(List Qm))=>some (⟨s56,r3,r5⟩:Qi))
def Zx(n:Nat)(x0:Qy)(x1:Qi):Option (Qi×Bool):=(We n x0).bind λr1=>bif !r1 then(some ((⟨[],(⟨(⟨false,[]⟩:Qd),[]⟩:Qa),[]⟩:Qi),false))else((loopM (λ(s29:Int)=>bif decide ((0:Int)≤s29) then((Qc6 n x0 x1 s29).bind λr30=>jn (λ(j34:(Bool)->Option _)=>bif r30.2 then((Vz n (⟨x0,r30.1⟩:W0)).bind λr37=>j34 (K9 r37 (⟨0,0⟩:Qv)))else(j34 false)) (λ(s36:Bool)=>bif s36 then((Qch n r30.1).bind λr39=>some (Lp.out (Lp.out ((r39,true)))))else(some (Lp.go (wrap64 (s29 - (1:Int)))))))else(some (Lp.out (Lp.go ())))) n (x1.Tries.length:Int)).bind (lpK λ(_:Unit)=>some ((⟨[],(⟨(⟨false,[]⟩:Qd),[]⟩:Qa),[]⟩:Qi),false)))
def Qe3(n:Nat)(x0:(List Qa)):Option (Bool):=(rangeL (λ(_:Nat) (x10:Qa) (_:Unit)=>(Vg n x10).bind λr12=>bif decide (r12≤(0:Int)) then(some (Lp.out (false)))else(some (Lp.go ()))) x0 0 ()).bind (lpK λ(_:Unit)=>some (decide ((x0.length:Int)≤(200:Int))))
def Z4(n:Nat)(x0:Ql)(x1:Qa)(x2:(List Qa))(x3:(List Qa)):Option (Qi×Qc):=jn (λ(j5:(Bool)->Option _)=>(Zt n x0).bind λr8=>bif !r8 then(j5 true)else(bif !decide ((x2.length:Int)=x0.Tape.Dim) then(j5 true)else((Qe3 n x3).bind λr10=>j5 (!r10)))) (λ(s7:Bool)=>bif s7 then(some ((⟨[],(⟨(⟨false,[]⟩:Qd),[]⟩:Qa),[]⟩:Qi),(⟨(2:Int),0,0,0⟩:Qc)))else((Jg n x1).bind λr12=>(Jx n (1:Int)).bind λr14=>(W1 n r14 x2).bind λr16=>(rangeL (λ(i48:Nat) (x49:Qa) (s47:(List Qm)×Qa×(List Qa))=>(Jg n x49).bind λr51=>(Qbh n x0 s47.2.1 r51 s47.2.2).bind λr53=>bif !(Qx r53.2 (⟨0,0,0,0⟩:Qc)) then(some (Lp.out (((⟨[],(⟨(⟨false,[]⟩:Qd),[]⟩:Qa),[]⟩:Qi),(⟨r53.2.Kind,wrap64 ((i48:Int)+(1:Int)),r53.2.Stage,r53.2.At⟩:Qc)))))else((Qac n r53.1.Err).bind λr55=>(appM 256 s47.1 ([(⟨s47.2.1,r51,r51,r55,s47.2.2,true⟩:Qm)]:List Qm)).bind λy57=>(K5 n s47.2.1 r51).bind λr59=>some (Lp.go (y57,r59,r53.1.Next)))) x3 0 (([]:List Qm),r12,r16)).bind (lpK λ(s61:(List Qm)×Qa×(List Qa))=>some ((⟨s61.1,s61.2.1,s61.2.2⟩:Qi),(⟨0,0,0,0⟩:Qc)))))
def Xe(n:Nat)(x0:Qi):Option ((List Qa)×(List (List Qa))):=(Z0 n x0).bind λr1=>(rangeL (λ(_:Nat) (x22:Qm) (s20:(List Qa)×(List (List Qa)))=>(appM 56 s20.1 ([x22.T]:List Qa)).bind λy24=>(appM 24 s20.2 ([x22.Y]:List (List Qa))).bind λy26=>some (Lp.go (y24,y26))) r1 0 (([]:List Qa),([]:List (List Qa)))).bind (lpK λ(s28:(List Qa)×(List (List Qa)))=>(Jg n x0.T).bind λr29=>(appM 56 s28.1 ([r29]:List Qa)).bind λy31=>(Z3 n x0.Y).bind λr33=>(appM 24 s28.2 ([r33]:List (List Qa))).bind λy35=>some (y31,y35))
def Zy(n:Nat)(x0:Qi):Option ((List Qa)):=(Z0 n x0).bind λr1=>(rangeL (λ(_:Nat) (x18:Qm) (s16:(List Qa))=>(appM 56 s16 ([x18.H]:List Qa)).bind λy20=>some (Lp.go y20)) r1 0 ([]:List Qa)).bind (lpK λ(s22:(List Qa))=>some s22)
def Qao(n:Nat)(x0:Ql)(x1:Qi):Option (Qi×Qc):=(Xe n x1).bind λr1=>(getI r1.1 (0:Int)).bind λy3=>(getI r1.2 (0:Int)).bind λy5=>(Zy n x1).bind λr7=>(Z4 n x0 y3 y5 r7).bind λr9=>some (r9.1,r9.2)
def Qhg(n:Nat)(x0:Qm)(x1:Qm):Option (Bool):=jn (λ(j11:(Bool)->Option _)=>bif (x0.Ok == x1.Ok) then((Vc x0).bind λr15=>(Vc x1).bind λr17=>(Vy n r15 r17).bind λr19=>bif r19 then((Vy n x0.Y x1.Y).bind λr22=>j11 r22)else(j11 false))else(j11 false)) (λ(s13:Bool)=>some s13)
def Xx(n:Nat)(x0:Qi)(x1:Qi):Option (Bool):=jn (λ(j5:(Bool)->Option _)=>bif !decide ((x0.Tries.length:Int)=(x1.Tries.length:Int)) then(j5 true)else((Jn n x0.T x1.T).bind λr8=>bif !r8 then(j5 true)else((Vy n x0.Y x1.Y).bind λr10=>j5 (!r10)))) (λ(s7:Bool)=>bif s7 then(some false)else((rangeL (λ(i22:Nat) (x23:Qm) (_:Unit)=>(getI x1.Tries (i22:Int)).bind λy25=>(Qhg n x23 y25).bind λr27=>bif !r27 then(some (Lp.out (false)))else(some (Lp.go ()))) x0.Tries 0 ()).bind (lpK λ(_:Unit)=>some true)))
def Jc(x0:Qe):Option (Qa):=some (⟨(⟨x0.Neg,x0.N⟩:Qd),x0.D⟩:Qa)
def Ke(n:Nat)(x0:(List Qe)):Option ((List Qa)):=(loopM (λ(s17:(List Qa)×Int)=>bif decide (s17.2<(x0.length:Int)) then((getI x0 s17.2).bind λy18=>(Jc y18).bind λr20=>(appM 56 s17.1 ([r20]:List Qa)).bind λy22=>some (Lp.go (y22,wrap64 (s17.2+(1:Int)))))else(some (Lp.out s17.1))) n (([]:List Qa),(0:Int))).bind λ(t15:(List Qa))=>some t15
def Yv(n:Nat)(x0:(List (List Qe))):Option ((List (List Qa))):=(loopM (λ(s17:(List (List Qa))×Int)=>bif decide (s17.2<(x0.length:Int)) then((getI x0 s17.2).bind λy18=>(Ke n y18).bind λr20=>(appM 24 s17.1 ([r20]:List (List Qa))).bind λy22=>some (Lp.go (y22,wrap64 (s17.2+(1:Int)))))else(some (Lp.out s17.1))) n (([]:List (List Qa)),(0:Int))).bind λ(t15:(List (List Qa)))=>some t15
def Yw(n:Nat)(x0:Je):Option (Q2):=(appM 8 ([]:List Int) x0.Outs).bind λy1=>(loopM (λ(s19:(List Q7)×Int)=>bif decide (s19.2<(x0.Code.length:Int)) then((getI x0.Code s19.2).bind λy20=>(Jc y20.N).bind λr22=>(appM 80 s19.1 ([(⟨y20.Op,y20.A,y20.B,r22⟩:Q7)]:List Q7)).bind λy24=>some (Lp.go (y24,wrap64 (s19.2+(1:Int)))))else(some (Lp.out s19.1))) n (([]:List Q7),(0:Int))).bind λ(t17:(List Q7))=>some (⟨t17,y1,x0.Dim,x0.Par⟩:Q2)
def Qad(n:Nat)(x0:Ja):Option (Qr):=(Ke n x0.C).bind λr1=>(Yv n x0.A).bind λr3=>(Ke n x0.B).bind λr5=>(Ke n x0.E).bind λr7=>some (⟨x0.Name,r1,r3,r5,r7⟩:Qr)
def Q9(x0:Qe)(x1:Int):Option (Bool):=jn (λ(j1:(Bool)->Option _)=>bif decide (x1<(x0.N.length:Int)) then ( j1 true) else ( j1 (decide (x1<(x0.D.length:Int))))) (λ(s3:Bool)=>some s3)
def Q0(n:Nat)(x0:(List Qe))(x1:Int)(x2:Int):Option (Bool):=(loopM (λ(s19:Int)=>jn (λ(j20:(Bool)->Option _)=>bif decide (s19<(x0.length:Int)) then(j20 (decide (s19<x1)))else(j20 false)) (λ(s22:Bool)=>bif s22 then((getI x0 s19).bind λy23=>(Q9 y23 x2).bind λr25=>bif r25 then(some (Lp.out (Lp.out (true))))else(some (Lp.go (wrap64 (s19+(1:Int))))))else(some (Lp.out (Lp.go ()))))) n (0:Int)).bind (lpK λ(_:Unit)=>some (decide (x1<(x0.length:Int))))
def Yx(n:Nat)(x0:Q4):Option (Ql):=(Yw n x0.Tape).bind λr1=>(Qad n x0.Scheme).bind λr3=>(Ke n x0.P).bind λr5=>some (⟨r1,r3,r5,x0.Bits⟩:Ql)
def Qae(x0:Jh):Option (Qw):=(Jc x0.Tol).bind λr1=>(Jc x0.Safe).bind λr3=>(Jc x0.Low).bind λr5=>(Jc x0.High).bind λr7=>(Jc x0.Least).bind λr9=>some (⟨r1,r3,r5,r7,r9,x0.Fine,x0.Most⟩:Qw)
def Yy(n:Nat)(x0:Jq):Option (Qi):=(Jc x0.T).bind λr1=>(Ke n x0.Y).bind λr3=>(loopM (λ(s37:(List Qm)×Int)=>bif decide (s37.2<(x0.Tries.length:Int)) then((getI x0.Tries s37.2).bind λy38=>(Jc y38.T).bind λr40=>(Jc y38.Want).bind λr42=>(Jc y38.H).bind λr44=>(Jc y38.Err).bind λr46=>(Ke n y38.Y).bind λr48=>(appM 256 s37.1 ([(⟨r40,r42,r44,r46,r48,y38.Ok⟩:Qm)]:List Qm)).bind λy50=>some (Lp.go (y50,wrap64 (s37.2+(1:Int)))))else(some (Lp.out s37.1))) n (([]:List Qm),(0:Int))).bind λ(t35:(List Qm))=>some (⟨t35,r1,r3⟩:Qi)
def Yk(x0:Jw):Option ((List Qe)):=some ([x0.T,x0.Want,x0.H,x0.Err]:List Qe)
def Xy(n:Nat)(x0:Je)(x1:Int)(x2:Int):Option (Bool):=(loopM (λ(s19:Int)=>jn (λ(j20:(Bool)->Option _)=>bif decide (s19<(x0.Code.length:Int)) then(j20 (decide (s19<x1)))else(j20 false)) (λ(s22:Bool)=>bif s22 then((getI x0.Code s19).bind λy23=>(Q9 y23.N x2).bind λr25=>bif r25 then(some (Lp.out (Lp.out (true))))else(some (Lp.go (wrap64 (s19+(1:Int))))))else(some (Lp.out (Lp.go ()))))) n (0:Int)).bind (lpK λ(_:Unit)=>jn (λ(j27:(Bool)->Option _)=>bif decide (x1<(x0.Code.length:Int)) then(j27 true)else(j27 (decide (x1<(x0.Outs.length:Int))))) (λ(s29:Bool)=>some s29))
def Xz(n:Nat)(x0:Ja)(x1:Int)(x2:Int):Option (Bool):=jn (λ(j7:(Bool)->Option _)=>bif decide ((50:Int)<(x0.Name.length:Int)) then(j7 true)else(bif decide (x1<(x0.A.length:Int)) then(j7 true)else((Q0 n x0.B x1 x2).bind λr10=>bif r10 then(j7 true)else((Q0 n x0.C x1 x2).bind λr12=>bif r12 then(j7 true)else((Q0 n x0.E x1 x2).bind λr14=>j7 r14))))) (λ(s9:Bool)=>bif s9 then(some true)else((loopM (λ(s28:Int)=>bif decide (s28<(x0.A.length:Int)) then((getI x0.A s28).bind λy29=>(Q0 n y29 x1 x2).bind λr31=>bif r31 then(some (Lp.out (Lp.out (true))))else(some (Lp.go (wrap64 (s28+(1:Int))))))else(some (Lp.out (Lp.go ())))) n (0:Int)).bind (lpK λ(_:Unit)=>some false)))
def X0(n:Nat)(x0:Q4)(x1:Int)(x2:Int)(x3:Int):Option (Bool):=jn (λ(j7:(Bool)->Option _)=>(Xy n x0.Tape x1 x3).bind λr10=>bif r10 then(j7 true)else((Xz n x0.Scheme x2 (4:Int)).bind λr12=>bif r12 then(j7 true)else((Q0 n x0.P (6:Int) x3).bind λr14=>j7 r14))) (λ(s9:Bool)=>some s9)
def Qh1:Option (Qev):=some (⟨([101,117,108,101,114,10,48,124,10,98,32,49]:List UInt8),([104,101,117,110,10,48,124,10,49,124,49,10,98,32,49,47,50,44,49,47,50,10,101,32,49,44,48]:List UInt8),([109,105,100,112,111,105,110,116,10,48,124,10,49,47,50,124,49,47,50,10,98,32,48,44,49,10,101,32,49,44,48]:List UInt8),([114,107,52,10,48,124,10,49,47,50,124,49,47,50,10,49,47,50,124,48,44,49,47,50,10,49,124,48,44,48,44,49,10,98,32,49,47,54,44,49,47,51,44,49,47,51,44,49,47,54]:List UInt8),([98,115,50,51,10,48,124,10,49,47,50,124,49,47,50,10,51,47,52,124,48,44,51,47,52,10,49,124,50,47,57,44,49,47,51,44,52,47,57,10,98,32,50,47,57,44,49,47,51,44,52,47,57,44,48,10,101,32,55,47,50,52,44,49,47,52,44,49,47,51,44,49,47,56]:List UInt8),([100,112,52,53,10,48,124,10,49,47,53,124,49,47,53,10,51,47,49,48,124,51,47,52,48,44,57,47,52,48,10,52,47,53,124,52,52,47,52,53,44,45,53,54,47,49,53,44,51,50,47,57,10,56,47,57,124,49,57,51,55,50,47,54,53,54,49,44,45,50,53,51,54,48,47,50,49,56,55,44,54,52,52,52,56,47,54,53,54,49,44,45,50,49,50,47,55,50,57,10,49,124,57,48,49,55,47,51,49,54,56,44,45,51,53,53,47,51,51,44,52,54,55,51,50,47,53,50,52,55,44,52,57,47,49,55,54,44,45,53,49,48,51,47,49,56,54,53,54,10,49,124,51,53,47,51,56,52,44,48,44,53,48,48,47,49,49,49,51,44,49,50,53,47,49,57,50,44,45,50,49,56,55,47,54,55,56,52,44,49,49,47,56,52,10,98,32,51,53,47,51,56,52,44,48,44,53,48,48,47,49,49,49,51,44,49,50,53,47,49,57,50,44,45,50,49,56,55,47,54,55,56,52,44,49,49,47,56,52,44,48,10,101,32,53,49,55,57,47,53,55,54,48,48,44,48,44,55,53,55,49,47,49,54,54,57,53,44,51,57,51,47,54,52,48,44,45,57,50,48,57,55,47,51,51,57,50,48,48,44,49,56,55,47,50,49,48,48,44,49,47,52,48]:List UInt8)⟩:Qev)
def Qi7(x0:(List UInt8)):Option ((List UInt8)):=(Qc1 x0 ([10]:List UInt8)).bind λr1=>some r1.1
def Xp(x0:Jk):Option ((List UInt8)×Int×Bool×Jk):=bif x0.over then(some (([]:List UInt8),x0.at_,false,x0))else((Qc1 x0.rest ([10]:List UInt8)).bind λr1=>jn (λ(j3:(Jk)->Option _)=>bif r1.2.2 then(j3 (⟨r1.2.1,wrap64 ((wrap64 (x0.at_+(r1.1.length:Int)))+(1:Int)),!r1.2.2⟩:Jk))else(j3 (⟨r1.2.1,wrap64 (x0.at_+(r1.1.length:Int)),!r1.2.2⟩:Jk))) (λ(s5:Jk)=>some (r1.1,x0.at_,true,s5)))
def Qa3(x0:Jk)(x1:(List UInt8))(x2:Int):Option (Jk):=(sub x1 x2 (x1.length:Int)).bind λy1=>some (⟨y1,x2,false⟩:Jk)
def Wu(x0:(List UInt8))(x1:(List UInt8)):Option (Bool):=jn (λ(j3:(Bool)->Option _)=>bif decide ((x1.length:Int)≤(x0.length:Int)) then((sub x0 (0:Int) (x1.length:Int)).bind λy6=>j3 (decide (y6=x1)))else(j3 false)) (λ(s5:Bool)=>some s5)
def Yc(x0:(List UInt8))(x1:(List UInt8)):Option ((List UInt8)×Bool):=(Wu x0 x1).bind λr1=>bif !r1 then(some (x0,false))else((sub x0 (x1.length:Int) (x0.length:Int)).bind λy3=>some (y3,true))
def Qa0(x0:(List UInt8))(x1:(List UInt8)):Option ((List UInt8)×Bool):=(Yc x0 x1).bind λr1=>some (r1.1,r1.2)
def Qi8(n:Nat)(x0:(List UInt8)):Option (Qd×Qc):=(Qa0 x0 ([45]:List UInt8)).bind λr1=>(Qe8 n r1.1).bind λr3=>bif !(Qx r3.2 (⟨0,0,0,0⟩:Qc)) then(some ((⟨false,[]⟩:Qd),(⟨r3.2.Kind,r3.2.Step,r3.2.Stage,wrap64 (r3.2.At+(wrap64 ((x0.length:Int) - (r1.1.length:Int))))⟩:Qc)))else((K4 r1.2 r3.1).bind λr5=>some (r5,(⟨0,0,0,0⟩:Qc)))
def Z1(n:Nat)(x0:(List UInt8))(x1:Int):Option ((List Nat)×Qc):=(sub x0 x1 (x0.length:Int)).bind λy1=>(Qe8 n y1).bind λr3=>jn (λ(j5:(Qc)->Option _)=>bif !(Qx r3.2 (⟨0,0,0,0⟩:Qc)) then(j5 (⟨r3.2.Kind,r3.2.Step,r3.2.Stage,wrap64 (r3.2.At+x1)⟩:Qc))else(j5 r3.2)) (λ(s7:Qc)=>some (r3.1,s7))
def Qh2(n:Nat)(x0:Qd)(x1:(List UInt8))(x2:Int):Option (Qa×Qc):=(Z1 n x1 x2).bind λr1=>bif !(Qx r1.2 (⟨0,0,0,0⟩:Qc)) then((Jx n (0:Int)).bind λr3=>some (r3,r1.2))else((Qbi n x0 r1.1).bind λr5=>bif !r5.2 then(some (r5.1,(⟨(2:Int),0,0,x2⟩:Qc)))else(some (r5.1,(⟨0,0,0,0⟩:Qc))))
def Qdm(x0:(List UInt8))(x1:(List UInt8)):Option (Bool):=(Wu x0 x1).bind λr1=>some r1
def Qh3(n:Nat)(x0:(List Nat)):Option ((List Nat)):=(mkM 4 (0:Nat) (wrap64 ((wrap64 ((2:Int)*(x0.length:Int)))+(1:Int)))).bind λy1=>(rangeL (λ(i21:Nat) (x22:Nat) (s20:(List Nat))=>(sub x0 (wrap64 ((i21:Int)+(1:Int))) (x0.length:Int)).bind λy24=>(Qbc s20 (wrap64 ((wrap64 ((2:Int)*(i21:Int)))+(1:Int))) y24 x22 0).bind λr26=>some (Lp.go r26)) x0 0 y1).bind (lpK λ(s28:(List Nat))=>(Qdy n s28 (1:Int)).bind λr29=>(mkM 4 (0:Nat) (wrap64 ((2:Int)*(x0.length:Int)))).bind λy31=>(rangeL (λ(i57:Nat) (x58:Nat) (s56:(List Nat))=>(Qaa x58 x58 0 0).bind λr60=>(getI s56 (wrap64 ((wrap64 ((2:Int)*(i57:Int)))+(1:Int)))).bind λ_=>(some ((List.set s56 (Int.toNat (wrap64 ((wrap64 ((2:Int)*(i57:Int)))+(1:Int)))) r60.1))).bind λz64=>(getI z64 (wrap64 ((2:Int)*(i57:Int)))).bind λ_=>some (Lp.go (List.set z64 (Int.toNat (wrap64 ((2:Int)*(i57:Int)))) r60.2))) x0 0 y31).bind (lpK λ(s67:(List Nat))=>(Qdx n ([r29,s67]:List (List Nat))).bind λr68=>some r68))
def Ql4(n:Nat)(x0:(List Nat))(x1:Int):Option ((List Nat)×Bool):=(Qbg n x0).bind λr1=>jn (λ(j4:(Bool)->Option _)=>bif decide (x1<(0:Int)) then(j4 true)else(bif decide ((1:Int)<r1) then((grd (r1 != 0)).bind λ_=>j4 (decide ((wrap64 (Int.tdiv (65536:Int) r1))<x1)))else(j4 false))) (λ(s6:Bool)=>bif s6 then(some (([]:List Nat),false))else((Yb n 1).bind λr8=>bif decide (r1<(2:Int)) then(jn (λ(j14:((List Nat))->Option _)=>bif decide ((0:Int)<x1) then((K3 n x0).bind λr17=>j14 r17)else(j14 r8)) (λ(s16:(List Nat))=>some (s16,true)))else((Yb n (Int.toNat (x1%18446744073709551616))).bind λr19=>(Qbg n r19).bind λr21=>(loopM (λ(s57:(List Nat)×Int)=>bif decide ((0:Int)≤s57.2) then(jn (λ(j64:((List Nat))->Option _)=>(Qh3 n s57.1).bind λr67=>(grd (decide (0≤s57.2))).bind λ_=>(some (decide ((wrap64 (andZ (Int.fdiv x1 (2 ^ (min (Int.toNat s57.2) 64))) (1:Int)))=(1:Int)))).bind λz70=>bif z70 then((X6 n r67 x0).bind λr71=>j64 r71)else(j64 r67)) (λ(s66:(List Nat))=>some (Lp.go (s66,wrap64 (s57.2 - (1:Int))))))else(some (Lp.out s57.1))) n (r8,wrap64 (r21 - (1:Int)))).bind λ(t55:(List Nat))=>some (t55,true))))
def Qh4(n:Nat)(x0:Int):Option ((List Nat)):=(Yb n 10).bind λr1=>(Ql4 n r1 x0).bind λr3=>some r3.1
def Qgg(n:Nat)(x0:Qd)(x1:Bool)(x2:(List UInt8))(x3:Int):Option (Qa×Qc):=(Z1 n x2 x3).bind λr1=>bif !(Qx r1.2 (⟨0,0,0,0⟩:Qc)) then((Jx n (0:Int)).bind λr3=>some (r3,r1.2))else((Qh4 n (wrap64 ((x2.length:Int) - x3))).bind λr5=>(X6 n x0.Abs r5).bind λr7=>(Qdx n ([r7,r1.1]:List (List Nat))).bind λr9=>(Qbi n (⟨x1,r9⟩:Qd) r5).bind λr11=>some (r11.1,(⟨0,0,0,0⟩:Qc)))
def Qe9(n:Nat)(x0:(List UInt8)):Option (Qa×Qc):=(Qdv x0 ([47,46]:List UInt8)).bind λr1=>jn (λ(j5:((List UInt8))->Option _)=>bif decide ((0:Int)≤r1) then((sub x0 (0:Int) r1).bind λy8=>j5 y8)else(j5 x0)) (λ(s7:(List UInt8))=>(Qi8 n s7).bind λr10=>bif !(Qx r10.2 (⟨0,0,0,0⟩:Qc)) then((Jx n (0:Int)).bind λr12=>some (r12,r10.2))else(bif decide (r1<(0:Int)) then((Yb n 1).bind λr14=>(Qbi n r10.1 r14).bind λr16=>some (r16.1,(⟨0,0,0,0⟩:Qc)))else((getS x0 r1).bind λy18=>bif decide (y18=47) then((Qh2 n r10.1 x0 (wrap64 (r1+(1:Int)))).bind λr20=>some (r20.1,r20.2))else((Qdm x0 ([45]:List UInt8)).bind λr22=>(Qgg n r10.1 r22 x0 (wrap64 (r1+(1:Int)))).bind λr24=>some (r24.1,r24.2)))))
def Qci(x0:Qc)(x1:Int):Option (Qc):=jn (λ(j1:(Qc)->Option _)=>bif !(Qx x0 (⟨0,0,0,0⟩:Qc)) then ( j1 (⟨x0.Kind,x0.Step,x0.Stage,wrap64 (x0.At+x1)⟩:Qc)) else ( j1 x0)) (λ(s3:Qc)=>some s3)
def Qin(n:Nat)(x0:(List UInt8)):Option ((List Qa)×Qc):=bif decide (x0=([]:List UInt8)) then(some (([]:List Qa),(⟨0,0,0,0⟩:Qc)))else((Qf3 x0 ([44]:List UInt8)).bind λr1=>(rangeL (λ(_:Nat) (x22:(List UInt8)) (s20:(List Qa)×Int)=>(Qe9 n x22).bind λr24=>bif !(Qx r24.2 (⟨0,0,0,0⟩:Qc)) then(some (Lp.out ((([]:List Qa),(⟨r24.2.Kind,r24.2.Step,r24.2.Stage,wrap64 (r24.2.At+s20.2)⟩:Qc)))))else((appM 56 s20.1 ([r24.1]:List Qa)).bind λy26=>some (Lp.go (y26,wrap64 (s20.2+(wrap64 ((x22.length:Int)+(1:Int)))))))) r1 0 (([]:List Qa),(0:Int))).bind (lpK λ(s28:(List Qa)×Int)=>some (s28.1,(⟨0,0,0,0⟩:Qc))))
def Qg4(n:Nat)(x0:(List UInt8))(x1:Int):Option (Qa×(List Qa)×Qc):=(Qc1 x0 ([124]:List UInt8)).bind λr1=>(Qe9 n r1.1).bind λr3=>bif !(Qx r3.2 (⟨0,0,0,0⟩:Qc)) then((Qci r3.2 x1).bind λr5=>some (r3.1,([]:List Qa),r5))else((Qin n r1.2.1).bind λr7=>(Qci r7.2 (wrap64 ((wrap64 (x1+(r1.1.length:Int)))+(1:Int)))).bind λr9=>some (r3.1,r7.1,r9))
def Qaf(n:Nat)(x0:Jk)(x1:(List UInt8))(x2_Name:(List UInt8))(x2_C:(List Qa))(x2_A:(List (List Qa)))(x2_B:(List Qa))(x2_E:(List Qa)):Option (Qc×Jk×(List UInt8)×(List Qa)×(List Qa)×(List Qa)×(List (List Qa))):=loopM (λ(s29:Jk×(List Qa)×(List (List Qa)))=>(Xp s29.1).bind λr30=>bif !r30.2.2.1 then(some (Lp.out (((⟨0,0,0,0⟩:Qc),r30.2.2.2,x2_Name,x2_B,x2_E,s29.2.1,s29.2.2))))else((Qdw r30.1 ([124]:List UInt8)).bind λr32=>bif !r32 then((Qa3 r30.2.2.2 x1 r30.2.1).bind λr34=>some (Lp.out (((⟨0,0,0,0⟩:Qc),r34,x2_Name,x2_B,x2_E,s29.2.1,s29.2.2))))else((Qg4 n r30.1 r30.2.1).bind λr36=>bif !(Qx r36.2.2 (⟨0,0,0,0⟩:Qc)) then(some (Lp.out ((r36.2.2,r30.2.2.2,x2_Name,x2_B,x2_E,s29.2.1,s29.2.2))))else((appM 56 s29.2.1 ([r36.1]:List Qa)).bind λy38=>(appM 24 s29.2.2 ([r36.2.1]:List (List Qa))).bind λy40=>some (Lp.go (r30.2.2.2,y38,y40)))))) n (x0,x2_C,x2_A)
def X9(n:Nat)(x0:Jk)(x1:(List UInt8)):Option ((List Qa)×Qc×Jk):=(Xp x0).bind λr1=>(catS x1 ([32]:List UInt8)).bind λy3=>(Qa0 r1.1 y3).bind λr5=>bif !r5.2 then(some (([]:List Qa),(⟨(1:Int),0,0,r1.2.1⟩:Qc),r1.2.2.2))else((Qin n r5.1).bind λr7=>(Qci r7.2 (wrap64 ((wrap64 (r1.2.1+(x1.length:Int)))+(1:Int)))).bind λr9=>some (r7.1,r9,r1.2.2.2))
def Qh5(n:Nat)(x0:(List UInt8)):Option (Qr×Qc):=(Xp (⟨x0,0,false⟩:Jk)).bind λr1=>(Qdg n (⟨(2:Int),r1.1,0⟩:Qeg)).bind λr3=>bif !r3 then(some ((⟨r1.1,([]:List Qa),([]:List (List Qa)),[],[]⟩:Qr),(⟨(1:Int),0,0,0⟩:Qc)))else((Qaf n r1.2.2.2 x0 r1.1 ([]:List Qa) ([]:List (List Qa)) [] []).bind λr5=>bif !(Qx r5.1 (⟨0,0,0,0⟩:Qc)) then(some ((⟨r5.2.2.1,r5.2.2.2.2.2.1,r5.2.2.2.2.2.2,r5.2.2.2.1,r5.2.2.2.2.1⟩:Qr),r5.1))else((X9 n r5.2.1 ([98]:List UInt8)).bind λr7=>jn (λ(j9:(Bool)->Option _)=>bif !(Qx r7.2.1 (⟨0,0,0,0⟩:Qc)) then(j9 true)else(j9 r7.2.2.over)) (λ(s11:Bool)=>bif s11 then(some ((⟨r5.2.2.1,r5.2.2.2.2.2.1,r5.2.2.2.2.2.2,r7.1,r5.2.2.2.2.1⟩:Qr),r7.2.1))else((X9 n r7.2.2 ([101]:List UInt8)).bind λr12=>jn (λ(j14:(Bool)->Option _)=>bif !(Qx r12.2.1 (⟨0,0,0,0⟩:Qc)) then(j14 true)else(j14 r12.2.2.over)) (λ(s16:Bool)=>bif s16 then(some ((⟨r5.2.2.1,r5.2.2.2.2.2.1,r5.2.2.2.2.2.2,r7.1,r12.1⟩:Qr),r12.2.1))else(some ((⟨r5.2.2.1,r5.2.2.2.2.2.1,r5.2.2.2.2.2.2,r7.1,r12.1⟩:Qr),(⟨(1:Int),0,0,r12.2.2.at_⟩:Qc))))))))
def Qg5(n:Nat)(x0:(List UInt8)):Option (Qr×Qc):=bif decide ((4000:Int)<(x0.length:Int)) then(some ((⟨[],[],[],[],[]⟩:Qr),(⟨(1:Int),0,0,(4000:Int)⟩:Qc)))else((Qh5 n x0).bind λr1=>bif !(Qx r1.2 (⟨0,0,0,0⟩:Qc)) then(some ((⟨[],[],[],[],[]⟩:Qr),r1.2))else((Qak n r1.1).bind λr3=>bif !decide (r3=(0:Int)) then(some ((⟨[],[],[],[],[]⟩:Qr),(⟨(2:Int),0,0,r3⟩:Qc)))else(some (r1.1,r1.2))))
def Qkv(n:Nat)(x0:(List UInt8)):Option (Qr×Bool):=(Qh1).bind λr1=>(loopM (λ(s17:Int)=>bif decide (s17<(6:Int)) then((getI ([r1.a0,r1.a1,r1.a2,r1.a3,r1.a4,r1.a5]:List (List UInt8)) s17).bind λy18=>(Qi7 y18).bind λr20=>bif decide (r20=x0) then((Qg5 n y18).bind λr22=>some (Lp.out (Lp.out ((r22.1,true)))))else(some (Lp.go (wrap64 (s17+(1:Int))))))else(some (Lp.out (Lp.go ())))) n (0:Int)).bind (lpK λ(_:Unit)=>some ((⟨[],[],[],[],[]⟩:Qr),false))
def Qd7(n:Nat)(x0:Int)(x1:Int):Option (Qa×Bool):=(Jx n x0).bind λr1=>(Jx n x1).bind λr3=>(Qct n r1 r3).bind λr5=>some (r5.1,r5.2)
def X1(n:Nat)(x0:Jq)(x1:Int)(x2:Int):Option (Bool):=jn (λ(j5:(Bool)->Option _)=>bif decide (x1<(x0.Tries.length:Int)) then(j5 true)else((Q9 x0.T x2).bind λr8=>bif r8 then(j5 true)else((Q0 n x0.Y (8:Int) x2).bind λr10=>j5 r10))) (λ(s7:Bool)=>bif s7 then(some true)else((loopM (λ(s62:Int)=>bif decide (s62<(x0.Tries.length:Int)) then(jn (λ(j73:(Bool)->Option _)=>(getI x0.Tries s62).bind λy76=>(Yk y76).bind λr78=>(Q0 n r78 (4:Int) x2).bind λr80=>bif r80 then(j73 true)else((getI x0.Tries s62).bind λy82=>(Q0 n y82.Y (8:Int) x2).bind λr84=>j73 r84)) (λ(s75:Bool)=>bif s75 then(some (Lp.out (Lp.out (true))))else(some (Lp.go (wrap64 (s62+(1:Int)))))))else(some (Lp.out (Lp.go ())))) n (0:Int)).bind (lpK λ(_:Unit)=>some false)))
def X2(x0:Jh)(x1:Int):Option (Bool):=jn (λ(j11:(Bool)->Option _)=>(Q9 x0.Tol x1).bind λr14=>bif r14 then(j11 true)else((Q9 x0.Safe x1).bind λr16=>bif r16 then(j11 true)else((Q9 x0.Low x1).bind λr18=>bif r18 then(j11 true)else((Q9 x0.High x1).bind λr20=>bif r20 then(j11 true)else((Q9 x0.Least x1).bind λr22=>j11 r22))))) (λ(s13:Bool)=>some s13)
def V5(n:Nat)(x0:Q3):Option (Bool):=jn (λ(j21:(Bool)->Option _)=>(X0 n x0.Problem (10:Int) (4:Int) (2:Int)).bind λr24=>bif r24 then(j21 true)else(bif decide ((300:Int)<x0.Problem.Bits) then(j21 true)else((X2 x0.Rules (2:Int)).bind λr26=>bif r26 then(j21 true)else(bif decide ((12:Int)<x0.Rules.Most) then(bif decide (x0.Rules.Most≤(200:Int)) then(j21 true)else((Q9 x0.Start (2:Int)).bind λr28=>bif r28 then(j21 true)else((Q9 x0.End (2:Int)).bind λr30=>bif r30 then(j21 true)else((Q9 x0.First (2:Int)).bind λr32=>bif r32 then(j21 true)else((Q0 n x0.Y (4:Int) (2:Int)).bind λr34=>j21 r34)))))else((Q9 x0.Start (2:Int)).bind λr36=>bif r36 then(j21 true)else((Q9 x0.End (2:Int)).bind λr38=>bif r38 then(j21 true)else((Q9 x0.First (2:Int)).bind λr40=>bif r40 then(j21 true)else((Q0 n x0.Y (4:Int) (2:Int)).bind λr42=>j21 r42)))))))) (λ(s23:Bool)=>some s23)
def Qdj(n:Nat)(x0:Int)(x1:Int):Option (Qa):=(Qd7 n x0 x1).bind λr1=>some r1.1
def Qi9(n:Nat):Option (Qw):=(Qdj n (1:Int) (1000:Int)).bind λr1=>(Qdj n (9:Int) (10:Int)).bind λr3=>(Qdj n (1:Int) (5:Int)).bind λr5=>(Jx n (5:Int)).bind λr7=>(Qdj n (1:Int) (1000000:Int)).bind λr9=>some (⟨r1,r3,r5,r7,r9,(16:Int),(100:Int)⟩:Qw)
def Zd(n:Nat):Option (Qy):=(some (([(⟨(3:Int),0,0,(⟨(⟨false,[]⟩:Qd),[]⟩:Qa)⟩:Q7)]:List Q7))).bind λz1=>(Qkv n ([104,101,117,110]:List UInt8)).bind λr2=>(Qi9 n).bind λr4=>(Qd7 n (1:Int) (4:Int)).bind λr6=>(Jx n (1:Int)).bind λr8=>(Jx n (0:Int)).bind λr12=>some (⟨(⟨(⟨z1,([(0:Int)]:List Int),(1:Int),0⟩:Q2),r2.1,[],(200:Int)⟩:Ql),(⟨r6.1,r4.Safe,r4.Low,r4.High,r4.Least,r4.Fine,r4.Most⟩:Qw),r12,r8,r8,([r8]:List Qa)⟩:Qy)
def Ki(n:Nat):Option (Bool):=(Zd n).bind λr1=>(Y8 n r1).bind λr3=>(Qd7 n (1:Int) (2:Int)).bind λr5=>jn (λ(j21:(Bool)->Option _)=>bif (Qx r3.2 (⟨0,0,0,0⟩:Qc)) then(bif decide ((1:Int)<(r3.1.Tries.length:Int)) then((getI r3.1.Tries (0:Int)).bind λy26=>bif !y26.Ok then((getI r3.1.Tries (0:Int)).bind λy29=>(Jn n y29.Err r5.1).bind λr31=>bif r31 then((Jx n (1:Int)).bind λr34=>(Jn n r3.1.T r34).bind λr36=>j21 r36)else(j21 false))else(j21 false))else(j21 false))else(j21 false)) (λ(s23:Bool)=>some s23)
def Wv(n:Nat)(x0:Q3):Option (Qy):=(Yx n x0.Problem).bind λr1=>(Qae x0.Rules).bind λr3=>(Jc x0.Start).bind λr5=>(Jc x0.End).bind λr7=>(Jc x0.First).bind λr9=>(Ke n x0.Y).bind λr11=>some (⟨r1,r3,r5,r7,r9,r11⟩:Qy)
def Wn(n:Nat)(x0:Q3):Option (Bool):=(V5 n x0).bind λr1=>bif r1 then((Ki n).bind λr3=>some r3)else((Wv n x0).bind λr5=>(Y8 n r5).bind λr7=>bif !(Qx r7.2 (⟨0,0,0,0⟩:Qc)) then(jn (λ(j11:(Bool)->Option _)=>bif decide ((r7.1.Tries.length:Int)=(0:Int)) then((Ki n).bind λr14=>j11 r14)else(j11 false)) (λ(s13:Bool)=>some s13))else((Xe n r7.1).bind λr16=>(Zy n r7.1).bind λr18=>(Jx n (0:Int)).bind λr20=>jn (λ(j22:(Bool)->Option _)=>bif decide ((r16.1.length:Int)=(0:Int)) then(j22 true)else(j22 (!decide ((r16.2.length:Int)=(r16.1.length:Int))))) (λ(s24:Bool)=>bif s24 then(some false)else((loopM (λ(s37:Qa×Int)=>bif decide (s37.2<(r18.length:Int)) then((getI r18 s37.2).bind λy38=>(K5 n s37.1 y38).bind λr40=>some (Lp.go (r40,wrap64 (s37.2+(1:Int)))))else(some (Lp.out s37.1))) n (r20,(0:Int))).bind λ(t35:Qa)=>jn (λ(j63:(Bool)->Option _)=>(Zv n r7.1).bind λr66=>bif !r66 then(j63 true)else(bif decide (x0.Rules.Most<(r7.1.Tries.length:Int)) then(j63 true)else((getI r16.1 (0:Int)).bind λy70=>(Jn n y70 r5.Start).bind λr72=>bif !r72 then(j63 true)else((getI r16.2 (0:Int)).bind λy75=>(Vy n y75 r5.Y).bind λr77=>bif !r77 then(j63 true)else((Jn n r7.1.T r5.End).bind λr80=>bif !r80 then(j63 true)else((Qcr n r5.End r5.Start).bind λr83=>(Jn n t35 r83).bind λr85=>j63 (!r85))))))) (λ(s65:Bool)=>bif s65 then(some false)else((Qao n r5.Problem r7.1).bind λr87=>(Xe n r87.1).bind λr89=>jn (λ(j91:(Bool)->Option _)=>bif !(Qx r87.2 (⟨0,0,0,0⟩:Qc)) then(j91 true)else(bif !decide ((r89.1.length:Int)=(r16.1.length:Int)) then(j91 true)else(j91 (!decide ((r89.2.length:Int)=(r16.1.length:Int)))))) (λ(s93:Bool)=>bif s93 then(some false)else((loopM (λ(s156:Int)=>bif decide (s156<(r16.1.length:Int)) then(jn (λ(j170:(Bool)->Option _)=>(getI r89.1 s156).bind λy173=>(getI r16.1 s156).bind λy175=>(Jn n y173 y175).bind λr177=>bif !r177 then(j170 true)else((getI r89.2 s156).bind λy180=>(getI r16.2 s156).bind λy182=>(Vy n y180 y182).bind λr184=>j170 (!r184))) (λ(s172:Bool)=>bif s172 then(some (Lp.out (Lp.out (false))))else(some (Lp.go (wrap64 (s156+(1:Int)))))))else(some (Lp.out (Lp.go ())))) n (0:Int)).bind (lpK λ(_:Unit)=>(Ki n).bind λr186=>some r186)))))))))
def Wo(n:Nat)(x0:Q3)(x1:Int):Option (Bool):=jn (λ(j3:(Bool)->Option _)=>(V5 n x0).bind λr6=>bif r6 then(j3 true)else(bif decide (x1<(0:Int)) then(j3 true)else(bif decide ((4:Int)<x1) then(j3 true)else(j3 (decide ((8:Int)<x0.Rules.Most)))))) (λ(s5:Bool)=>bif s5 then((Ki n).bind λr8=>some r8)else((Wv n x0).bind λr10=>(Zw n r10).bind λr12=>(Zw n (⟨r10.Problem,(⟨r10.Rules.Tol,r10.Rules.Safe,r10.Rules.Low,r10.Rules.High,r10.Rules.Least,r10.Rules.Fine,wrap64 (r10.Rules.Most+x1)⟩:Qw),r10.Start,r10.End,r10.First,r10.Y⟩:Qy)).bind λr14=>(We n r10).bind λr16=>bif !r16 then(jn (λ(j20:(Bool)->Option _)=>bif (Qx r12.2 (⟨(2:Int),0,0,0⟩:Qc)) then((Ki n).bind λr23=>j20 r23)else(j20 false)) (λ(s22:Bool)=>some s22))else(bif !decide (r12.2.Kind=(5:Int)) then(jn (λ(j29:(Bool)->Option _)=>bif (Qx r14.2 r12.2) then((Xx n r14.1 r12.1).bind λr32=>bif r32 then((Ki n).bind λr34=>j29 r34)else(j29 false))else(j29 false)) (λ(s31:Bool)=>some s31))else(bif decide ((r14.1.Tries.length:Int)<(r12.1.Tries.length:Int)) then(some false)else((loopM (λ(s118:Int)=>bif decide (s118<(r12.1.Tries.length:Int)) then(jn (λ(j137:(Bool)->Option _)=>(getI r14.1.Tries s118).bind λy140=>(getI r12.1.Tries s118).bind λy142=>(Jn n y140.T y142.T).bind λr144=>bif !r144 then(j137 true)else((getI r14.1.Tries s118).bind λy147=>(getI r12.1.Tries s118).bind λy149=>(Jn n y147.H y149.H).bind λr151=>bif !r151 then(j137 true)else((getI r14.1.Tries s118).bind λy154=>(getI r12.1.Tries s118).bind λy156=>j137 (y154.Ok != y156.Ok)))) (λ(s139:Bool)=>bif s139 then(some (Lp.out (Lp.out (false))))else(some (Lp.go (wrap64 (s118+(1:Int)))))))else(some (Lp.out (Lp.go ())))) n (0:Int)).bind (lpK λ(_:Unit)=>(Ki n).bind λr158=>some r158))))))
def Jt(n:Nat):Option (Bool):=(Zd n).bind λr1=>(Y8 n r1).bind λr3=>(Jx n (1:Int)).bind λr5=>jn (λ(j11:(Bool)->Option _)=>bif (Qx r3.2 (⟨0,0,0,0⟩:Qc)) then((Wi n r1 r3.1).bind λr14=>bif r14 then((Qel n (⟨r1.Problem,(⟨r5,r1.Rules.Safe,r1.Rules.Low,r1.Rules.High,r1.Rules.Least,r1.Rules.Fine,r1.Rules.Most⟩:Qw),r1.Start,r1.End,r1.First,r1.Y⟩:Qy) r3.1).bind λr16=>j11 (K9 r16 (⟨(8:Int),0⟩:Qv)))else(j11 false))else(j11 false)) (λ(s13:Bool)=>some s13)
def V9(n:Nat)(x0:Q3)(x1:Jq):Option (Bool):=jn (λ(j5:(Bool)->Option _)=>(V5 n x0).bind λr8=>bif r8 then(j5 true)else((X1 n x1 (6:Int) (8:Int)).bind λr10=>j5 r10)) (λ(s7:Bool)=>bif s7 then((Jt n).bind λr12=>some r12)else((Wv n x0).bind λr14=>(Yy n x1).bind λr16=>(Y8 n r14).bind λr18=>jn (λ(j22:(Bool)->Option _)=>bif (Qx r18.2 (⟨0,0,0,0⟩:Qc)) then((Wi n r14 r18.1).bind λr25=>j22 (!r25))else(j22 false)) (λ(s24:Bool)=>bif s24 then(some false)else((Wi n r14 r16).bind λr27=>bif r27 then(jn (λ(j33:(Bool)->Option _)=>bif (Qx r18.2 (⟨0,0,0,0⟩:Qc)) then((Xx n r18.1 r16).bind λr36=>bif r36 then((Jt n).bind λr38=>j33 r38)else(j33 false))else(j33 false)) (λ(s35:Bool)=>some s35))else((Zw n r14).bind λr40=>(Zx n r14 r40.1).bind λr42=>jn (λ(j52:(Bool)->Option _)=>(We n r14).bind λr55=>bif !r55 then((Jt n).bind λr57=>j52 r57)else(bif r42.2 then((Xx n r42.1 r40.1).bind λr59=>bif r59 then((Jt n).bind λr61=>j52 r61)else(j52 false))else(j52 false))) (λ(s54:Bool)=>some s54))))))
def Qni(n:Nat)(x0:(List Qa))(x1:(List (List Qa)))(x2:Int):Option ((List Qa)×Bool):=jn (λ(j1:(Bool)->Option _)=>bif !decide ((x0.length:Int)=(x1.length:Int)) then(j1 true)else(bif decide (x2<(0:Int)) then(j1 true)else(j1 (decide ((300:Int)<x2))))) (λ(s3:Bool)=>bif s3 then(some (([]:List Qa),false))else((rangeL (λ(_:Nat) (x11:(List Qa)) (_:Unit)=>bif !decide ((x11.length:Int)=x2) then(some (Lp.out ((([]:List Qa),false))))else(some (Lp.go ()))) x1 0 ()).bind (lpK λ(_:Unit)=>(Qek n x2).bind λr14=>(rangeL (λ(i108:Nat) (x109:(List Qa)) (s107:(List Qa))=>(getI x0 (i108:Int)).bind λy111=>(Vg n y111).bind λr113=>bif decide (r113=(0:Int)) then(some (Lp.go s107))else((rangeL (λ(i131:Nat) (x132:Qa) (s130:(List Qa))=>(getI s130 (i131:Int)).bind λy134=>(getI x0 (i108:Int)).bind λy136=>(X7 n y136 x132).bind λr138=>(K5 n y134 r138).bind λr140=>(getI s130 (i131:Int)).bind λ_=>some (Lp.go (List.set s130 (Int.toNat (i131:Int)) r140))) x109 0 s107).bind (lpK λ(s144:(List Qa))=>some (Lp.go s144)))) x1 0 r14).bind (lpK λ(s145:(List Qa))=>some (s145,true)))))
end Go.Proofs.YtlihkcaoachkdaaGreatDoor
