import Derived.Test.YtlfphifbmoccgaaGreatDoorLibM
set_option maxRecDepth 100000
set_option maxHeartbeats 4000000
namespace Go.Proofs.YtlfphifbmoccgaaGreatDoor
open Go Go.RowKit
structure Qf where
 Neg:Bool
 Abs:(List Nat)
structure Qa where
 Num:Qf
 Den:(List Nat)
structure Qs where
 Op:Int
 A:Int
 B:Int
 N:Qa
structure Qm where
 Code:(List Qs)
 Outs:(List Int)
 Dim:Int
 Par:Int
structure Qt where
 Name:(List UInt8)
 C:(List Qa)
 A:(List (List Qa))
 B:(List Qa)
 E:(List Qa)
structure Qh where
 Tape:Qm
 Scheme:Qt
 P:(List Qa)
 Bits:Int
structure Qck where
 Tol:Qa
 Safe:Qa
 Low:Qa
 High:Qa
 Least:Qa
 Fine:Int
 Most:Int
structure Qot where
 Problem:Qh
 Rules:Qck
 Start:Qa
 End:Qa
 First:Qa
 Y:(List Qa)
structure Q3 where
 T:Qa
 Want:Qa
 H:Qa
 Err:Qa
 Y:(List Qa)
 Ok:Bool
structure Qd where
 Kind:Int
 Step:Int
 Stage:Int
 At:Int
structure Q2 where
 Ys:(List (List Qa))
 Ks:(List (List Qa))
 Next:(List Qa)
 Err:(List Qa)
structure K7 where
 op:Int
 a:Int
 b:Int
def Qcd(x y:K7):Bool:=((x.op == y.op) && ((x.a == y.a) && ((x.b == y.b) && true)))
structure Qis where
 Kind:Int
 Text:(List UInt8)
 At:Int
structure Qa5 where
 Seen:Int
 Peak:Int
structure Qj where
 Count:Qa5
 limit:Int
def Qo(x y:Qd):Bool:=((x.Kind == y.Kind) && ((x.Step == y.Step) && ((x.Stage == y.Stage) && ((x.At == y.At) && true))))
structure Va where
 T:Qa
 Y:(List Qa)
 P:(List Qa)
structure Y0 where
 T:Qa
 Y:(List Qa)
 P:(List Qa)
structure Jm where
 Y:(List Qa)
 P:(List Qa)
structure Vc where
 T:Qa
 Y:(List Qa)
 P:(List Qa)
structure Qv7 where
 t:Qm
 done:(List Qa)
 co:(List Qa)
 grad:Vc
structure Jv where
 Next:(List Qa)
 Err:(List Qa)
 Made:Q2
structure Qv where
 V:Qa
 D:Qa
structure Y3 where
 T:Qv
 Y:(List Qv)
 P:(List Qv)
structure Jh where
 Tries:(List Q3)
 T:Qa
 Y:(List Qa)
structure Qk5 where
 What:Int
 Try:Int
structure Qkh where
 a0:Nat
 a1:Nat
 a2:Nat
 a3:Nat
 a4:Nat
 a5:Nat
 a6:Nat
 a7:Nat
 a8:Nat
def Qt2:List Nat->Qkh
 | [a0,a1,a2,a3,a4,a5,a6,a7,a8]=>⟨a0,a1,a2,a3,a4,a5,a6,a7,a8⟩
 | _=>(⟨0,0,0,0,0,0,0,0,0⟩:Qkh)
structure Qc where
 Neg:Bool
 N:(List Nat)
 D:(List Nat)
structure Jk where
 Op:Int
 A:Int
 B:Int
 N:Qc
structure Jl where
 Code:(List Jk)
 Outs:(List Int)
 Dim:Int
 Par:Int
structure Jd where
 Name:(List UInt8)
 C:(List Qc)
 A:(List (List Qc))
 B:(List Qc)
 E:(List Qc)
structure Qww where
 a0:Int
 a1:Int
 a2:Int
structure J9 where
 T:Qc
 H:Qc
 Y:(List Qc)
structure Qx where
 Tape:Jl
 Scheme:Jd
 P:(List Qc)
 Bits:Int
structure Kt where
 U:(List Qc)
 V:(List Qc)
structure Qjb where
 a0:(List UInt8)
 a1:(List UInt8)
 a2:(List UInt8)
 a3:(List UInt8)
 a4:(List UInt8)
 a5:(List UInt8)
structure J7 where
 rest:(List UInt8)
 at_:Int
 over:Bool
structure Qch where
 Kind:Int
 Text:(List UInt8)
 At:Int
structure Q8 where
 Neg:Bool
 Abs:(List Nat)
structure Qe6 where
 Ys:(List (List Qc))
 Ks:(List (List Qc))
 Next:(List Qc)
 Err:(List Qc)
structure Qdx where
 T:Qc
 Y:(List Qc)
 P:(List Qc)
structure Jw where
 Y:(List Qc)
 P:(List Qc)
structure Qe7 where
 T:Qc
 Y:(List Qc)
 P:(List Qc)
structure Qh0 where
 a0:Int
 a1:Int
structure Qaq where
 Tol:Qc
 Safe:Qc
 Low:Qc
 High:Qc
 Least:Qc
 Fine:Int
 Most:Int
structure Jr where
 T:Qc
 Want:Qc
 H:Qc
 Err:Qc
 Y:(List Qc)
 Ok:Bool
structure Ja where
 Tries:(List Jr)
 T:Qc
 Y:(List Qc)
structure Qwx where
 a0:Int
 a1:Int
 a2:Int
 a3:Int
structure Qe8 where
 Problem:Qx
 Rules:Qaq
 Start:Qc
 End:Qc
 First:Qc
 Y:(List Qc)
def Qmb(xs:List Nat):Prop:=xs.length≤maxLen∧∀ x∈xs,(x<4294967296)
def J1(x:Qc):Prop:=True∧Qmb x.N∧Qmb x.D∧True
def Qay(x:Jk):Prop:=(-9223372036854775808≤x.Op∧x.Op≤9223372036854775807)∧(-9223372036854775808≤x.A∧x.A≤9223372036854775807)∧(-9223372036854775808≤x.B∧x.B≤9223372036854775807)∧J1 x.N∧True
def Z4(xs:List Jk):Prop:=xs.length≤maxLen∧∀ x∈xs,Qay x
def Qra(xs:List Int):Prop:=xs.length≤maxLen∧∀ x∈xs,(-9223372036854775808≤x∧x≤9223372036854775807)
def Qaz(x:Jl):Prop:=Z4 x.Code∧Qra x.Outs∧(-9223372036854775808≤x.Dim∧x.Dim≤9223372036854775807)∧(-9223372036854775808≤x.Par∧x.Par≤9223372036854775807)∧True
def Q6(xs:List Qc):Prop:=xs.length≤maxLen∧∀ x∈xs,J1 x
def Zd(xs:List (List Qc)):Prop:=xs.length≤maxLen∧∀ x∈xs,Q6 x
def Z5(x:Jd):Prop:=(x.Name.length≤maxLen)∧Q6 x.C∧Zd x.A∧Q6 x.B∧Q6 x.E∧True
def Vv(x:Qx):Prop:=Qaz x.Tape∧Z5 x.Scheme∧Q6 x.P∧(-9223372036854775808≤x.Bits∧x.Bits≤9223372036854775807)∧True
def Zh(x:J9):Prop:=J1 x.T∧J1 x.H∧Q6 x.Y∧True
def Qag(x:Kt):Prop:=Q6 x.U∧Q6 x.V∧True
def Yi(n:Nat)(x0:(List Nat)):Option ((List Nat)):=(loopM (λ(s19:Int)=>jn (λ(j22:(Bool)->Option _)=>bif decide ((0:Int)<s19) then((getI x0 (wrap64 (s19 - (1:Int)))).bind λy25=>j22 (decide (y25=0)))else(j22 false)) (λ(s24:Bool)=>bif s24 then(some (Lp.go (wrap64 (s19 - (1:Int)))))else(some (Lp.out s19)))) n (x0.length:Int)).bind λ(t17:Int)=>(sub x0 (0:Int) t17).bind λy27=>some y27
def Qc6(n:Nat)(x0:(List Nat)):Option (Bool):=(Yi n x0).bind λr1=>some (decide ((r1.length:Int)=(0:Int)))
def Qat(n:Nat)(x0:Nat):Option ((List Nat)):=(Yi n ([(x0%4294967296),((x0 / 2 ^ 32)%4294967296)]:List Nat)).bind λr1=>some r1
def Wt(n:Nat)(x0:Qa):Option (Qf×(List Nat)):=(Qc6 n x0.Den).bind λr1=>bif r1 then ( (Qat n 1).bind λr3=>some ((⟨false,[]⟩:Qf),r3)) else ( some (x0.Num,x0.Den))
def Qc7(x0:Nat)(x1:Nat)(x2:Nat)(x3:Nat):Option (Nat×Nat):=(some (((((((x0*x1)%18446744073709551616)+x2)%18446744073709551616)+x3)%18446744073709551616))).bind λz1=>some (((z1 / 2 ^ 32)%4294967296),(z1%4294967296))
def Qec(x0:(List Nat))(x1:Int)(x2:(List Nat))(x3:Nat)(x4:Nat):Option ((List Nat)):=(rangeL (λ(i23:Nat) (x24:Nat) (s22:(List Nat)×Nat)=>(getI s22.1 (wrap64 (x1+(i23:Int)))).bind λy26=>(Qc7 x3 x24 y26 s22.2).bind λr28=>(getI s22.1 (wrap64 (x1+(i23:Int)))).bind λ_=>some (Lp.go ((List.set s22.1 (Int.toNat (wrap64 (x1+(i23:Int)))) r28.2),r28.1))) x2 0 (x0,x4)).bind (lpK λ(s32:(List Nat)×Nat)=>(getI s32.1 (wrap64 (x1+(x2.length:Int)))).bind λ_=>some (List.set s32.1 (Int.toNat (wrap64 (x1+(x2.length:Int)))) s32.2))
def Qe9(x0:(List Nat))(x1:Int):Option ((List Nat)):=(mkM 4 (0:Nat) (wrap64 ((x0.length:Int)+x1))).bind λy1=>some (cpyL y1 x0)
def Wx(n:Nat)(x0:(List Nat)):Option ((List Nat)):=(Yi n x0).bind λr1=>(Qe9 r1 (0:Int)).bind λr3=>some r3
def Qa6(n:Nat)(x0:(List Nat))(x1:(List Nat)):Option ((List Nat)):=(mkM 4 (0:Nat) (wrap64 ((wrap64 ((x0.length:Int)+(x1.length:Int)))+(1:Int)))).bind λy1=>(rangeL (λ(i17:Nat) (x18:Nat) (s16:(List Nat))=>(Qec s16 (i17:Int) x0 x18 0).bind λr20=>some (Lp.go r20)) x1 0 y1).bind (lpK λ(s22:(List Nat))=>(Wx n s22).bind λr23=>some r23)
def Xg(x0:Bool)(x1:(List Nat)):Option (Qf):=jn (λ(j1:(Qf)->Option _)=>bif x0 then ( j1 (⟨decide ((0:Int)<(x1.length:Int)),x1⟩:Qf)) else ( j1 (⟨false,x1⟩:Qf))) (λ(s3:Qf)=>some s3)
def Qhb(n:Nat)(x0:Qf)(x1:Qf):Option (Qf):=(Qa6 n x0.Abs x1.Abs).bind λr1=>(Xg (x0.Neg != x1.Neg) r1).bind λr3=>some r3
def Z6(n:Nat)(x0:Qf)(x1:(List Nat)):Option (Qf):=(Qhb n x0 (⟨false,x1⟩:Qf)).bind λr1=>some r1
def Qhc(n:Nat)(x0:Qf):Option (Qf):=(Wx n x0.Abs).bind λr3=>(Xg (!x0.Neg) r3).bind λr5=>some r5
def Qah(x0:Nat)(x1:Nat)(x2:Nat):Option (Nat×Nat):=jn (λ(j1:(Nat)->Option _)=>bif decide (((x0+x1)%4294967296)<x0) then(j1 ((0+1)%4294967296))else(j1 0)) (λ(s3:Nat)=>jn (λ(j4:(Nat)->Option _)=>bif decide (((((x0+x1)%4294967296)+x2)%4294967296)<x2) then(j4 ((s3+1)%4294967296))else(j4 s3)) (λ(s6:Nat)=>some (((((x0+x1)%4294967296)+x2)%4294967296),s6)))
def Qgo(n:Nat)(x0:(List Nat))(x1:(List Nat)):Option ((List Nat)):=jn (λ(j1:((List Nat)×(List Nat))->Option _)=>bif decide ((x0.length:Int)<(x1.length:Int)) then(j1 (x1,x0))else(j1 (x0,x1))) (λ(s3:(List Nat)×(List Nat))=>(Qe9 s3.1 (1:Int)).bind λr4=>(rangeL (λ(i38:Nat) (x39:Nat) (s37:(List Nat)×Nat)=>jn (λ(j43:(Nat)->Option _)=>bif decide ((i38:Int)<(s3.2.length:Int)) then((getI s3.2 (i38:Int)).bind λy46=>j43 y46)else(j43 0)) (λ(s45:Nat)=>(Qah x39 s45 s37.2).bind λr48=>(getI s37.1 (i38:Int)).bind λ_=>some (Lp.go ((List.set s37.1 (Int.toNat (i38:Int)) r48.1),r48.2)))) s3.1 0 (r4,0)).bind (lpK λ(s52:(List Nat)×Nat)=>(getI s52.1 (s3.1.length:Int)).bind λ_=>(Yi n (List.set s52.1 (Int.toNat (s3.1.length:Int)) s52.2)).bind λr55=>some r55))
def Qh1(n:Nat)(x0:(List (List Nat))):Option ((List Nat)):=(rangeL (λ(_:Nat) (x20:(List Nat)) (s18:(List Nat))=>(Yi n x20).bind λr22=>(Qgo n s18 r22).bind λr24=>some (Lp.go r24)) x0 0 ([]:List Nat)).bind (lpK λ(s26:(List Nat))=>some s26)
def Qdc(n:Nat)(x0:(List Nat))(x1:(List Nat)):Option (Int):=(Yi n x0).bind λr1=>(Yi n x1).bind λr3=>bif decide ((r1.length:Int)<(r3.length:Int)) then(some (-1:Int))else(bif decide ((r3.length:Int)<(r1.length:Int)) then(some (1:Int))else((loopM (λ(s25:Int)=>bif decide ((0:Int)≤s25) then((getI r1 s25).bind λy26=>(getI r3 s25).bind λy28=>bif decide (y26<y28) then(some (Lp.out (Lp.out ((-1:Int)))))else((getI r1 s25).bind λy30=>(getI r3 s25).bind λy32=>bif decide (y32<y30) then(some (Lp.out (Lp.out ((1:Int)))))else(some (Lp.go (wrap64 (s25 - (1:Int)))))))else(some (Lp.out (Lp.go ())))) n (wrap64 ((r1.length:Int) - (1:Int)))).bind (lpK λ(_:Unit)=>some (0:Int))))
def Qgp(x0:Nat)(x1:Nat)(x2:Nat):Option (Nat×Nat):=jn (λ(j1:(Nat)->Option _)=>bif decide (x0<x1) then(j1 ((0+1)%4294967296))else(j1 0)) (λ(s3:Nat)=>jn (λ(j4:(Nat)->Option _)=>bif decide (((x0+4294967296 - x1)%4294967296)<x2) then(j4 ((s3+1)%4294967296))else(j4 s3)) (λ(s6:Nat)=>(some (((((x0+4294967296 - x1)%4294967296)+4294967296 - x2)%4294967296))).bind λz7=>some (z7,s6)))
def Qm7(n:Nat)(x0:(List Nat))(x1:(List Nat)):Option ((List Nat)×Bool):=(Yi n x0).bind λr1=>(Yi n x1).bind λr3=>(Qdc n r1 r3).bind λr5=>bif decide (r5<(0:Int)) then(some (([]:List Nat),false))else((Qe9 r1 (0:Int)).bind λr7=>(rangeL (λ(i41:Nat) (x42:Nat) (s40:(List Nat)×Nat)=>jn (λ(j46:(Nat)->Option _)=>bif decide ((i41:Int)<(r3.length:Int)) then((getI r3 (i41:Int)).bind λy49=>j46 y49)else(j46 0)) (λ(s48:Nat)=>(Qgp x42 s48 s40.2).bind λr51=>(getI s40.1 (i41:Int)).bind λ_=>some (Lp.go ((List.set s40.1 (Int.toNat (i41:Int)) r51.1),r51.2)))) r1 0 (r7,0)).bind (lpK λ(s55:(List Nat)×Nat)=>(Yi n s55.1).bind λr56=>some (r56,true)))
def Qm8(n:Nat)(x0:(List Nat))(x1:(List Nat)):Option ((List Nat)×Int):=(Qdc n x0 x1).bind λr1=>jn (λ(j3:((List Nat)×(List Nat))->Option _)=>bif decide (r1<(0:Int)) then(j3 (x1,x0))else(j3 (x0,x1))) (λ(s5:(List Nat)×(List Nat))=>(Qm7 n s5.1 s5.2).bind λr6=>some (r6.1,r1))
def Qhd(n:Nat)(x0:Qf)(x1:Qf):Option (Qf):=bif (x0.Neg == x1.Neg) then((Qh1 n ([x0.Abs,x1.Abs]:List (List Nat))).bind λr1=>(Xg x0.Neg r1).bind λr3=>some r3)else((Qm8 n x0.Abs x1.Abs).bind λr5=>bif decide (r5.2<(0:Int)) then((Xg x1.Neg r5.1).bind λr7=>some r7)else((Xg x0.Neg r5.1).bind λr9=>some r9))
def Qhe(n:Nat)(x0:Qf)(x1:Qf):Option (Qf):=(Qhc n x1).bind λr1=>(Qhd n x0 r1).bind λr3=>some r3
def Qed(x0:Nat)(x1:Nat)(x2:Nat):Option (Nat×Nat×Bool):=bif decide (x2≤x0) then(some (0,0,false))else((grd (x2 != 0)).bind λ_=>(grd (x2 != 0)).bind λ_=>some ((((((x0*2 ^ 32)%18446744073709551616) ||| x1) / x2)%4294967296),(((((x0*2 ^ 32)%18446744073709551616) ||| x1)%x2)%4294967296),true))
def Qhf(n:Nat)(x0:(List Nat))(x1:Nat):Option ((List Nat)×Nat×Bool):=bif decide (x1=0) then(some (([]:List Nat),0,false))else((mkM 4 (0:Nat) (x0.length:Int)).bind λy1=>(loopM (λ(s20:(List Nat)×Nat×Int)=>bif decide ((0:Int)≤s20.2.2) then((getI x0 s20.2.2).bind λy21=>(Qed s20.2.1 y21 x1).bind λr23=>(getI s20.1 s20.2.2).bind λ_=>some (Lp.go ((List.set s20.1 (Int.toNat s20.2.2) r23.1),r23.2.1,wrap64 (s20.2.2 - (1:Int)))))else(some (Lp.out (s20.1,s20.2.1)))) n (y1,0,wrap64 ((x0.length:Int) - (1:Int)))).bind λ(t18:(List Nat)×Nat)=>(Wx n t18.1).bind λr27=>some (r27,t18.2,true))
def Qit(n:Nat)(x0:Nat):Option (Int):=(loopM (λ(s15:Nat×Int×Int)=>bif decide ((0:Int)<s15.2.2) then(jn (λ(j18:(Nat×Int)->Option _)=>(grd (decide (0≤s15.2.2))).bind λ_=>bif !decide ((s15.1 / 2 ^ (min (Int.toNat s15.2.2) 32))=0) then((grd (decide (0≤s15.2.2))).bind λ_=>j18 ((s15.1 / 2 ^ (min (Int.toNat s15.2.2) 32)),wrap64 (s15.2.1+s15.2.2)))else(j18 (s15.1,s15.2.1))) (λ(s20:Nat×Int)=>some (Lp.go (s20.1,s20.2,wrap64 (Int.tdiv s15.2.2 (2:Int))))))else(some (Lp.out (s15.1,s15.2.1)))) n (x0,(0:Int),(16:Int))).bind λ(t13:Nat×Int)=>some (wrap64 (t13.2+(t13.1:Int)))
def Qh2(n:Nat)(x0:(List Nat))(x1:Int):Option ((List Nat)):=(some (wrap64 ((wrap64 (Int.tdiv (min (max x1 (0:Int)) (4096:Int)) (32:Int)))+(x0.length:Int)))).bind λz1=>(mkM 4 (0:Nat) (wrap64 (z1+(1:Int)))).bind λy2=>(rangeL (λ(i36:Nat) (x37:Nat) (s35:(List Nat))=>(grd (decide (0≤Int.tmod (min (max x1 (0:Int)) (4096:Int)) (32:Int)))).bind λ_=>(some (((x37*2 ^ (min (Int.toNat (Int.tmod (min (max x1 (0:Int)) (4096:Int)) (32:Int))) 64))%18446744073709551616))).bind λz40=>(some (wrap64 ((wrap64 (Int.tdiv (min (max x1 (0:Int)) (4096:Int)) (32:Int)))+(i36:Int)))).bind λz41=>(getI s35 z41).bind λy42=>(getI s35 z41).bind λ_=>(some (wrap64 ((wrap64 (Int.tdiv (min (max x1 (0:Int)) (4096:Int)) (32:Int)))+(i36:Int)))).bind λz46=>(getI (List.set s35 (Int.toNat z41) (y42 ||| (z40%4294967296))) (wrap64 (z46+(1:Int)))).bind λ_=>(some ((List.set (List.set s35 (Int.toNat z41) (y42 ||| (z40%4294967296))) (Int.toNat (wrap64 (z46+(1:Int)))) ((z40 / 2 ^ 32)%4294967296)))).bind λz49=>some (Lp.go z49)) x0 0 y2).bind (lpK λ(s50:(List Nat))=>(Wx n s50).bind λr51=>some r51)
def Qfz(n:Nat)(x0:Nat)(x1:Nat)(x2:Nat)(x3:Nat)(x4:Nat):Option (Nat):=(Qed x0 x1 x3).bind λr1=>jn (λ(j8:(Nat×Nat)->Option _)=>bif !r1.2.2 then((Qah x1 x3 0).bind λr11=>jn (λ(j13:(Bool)->Option _)=>bif decide (x3<x0) then(j13 true)else(j13 (decide (0<r11.2)))) (λ(s15:Bool)=>bif s15 then(some 4294967295)else(j8 (4294967295,r11.1))))else(j8 (r1.1,r1.2.1))) (λ(s10:Nat×Nat)=>(loopM (λ(s34:Nat×Nat)=>(Qc7 s34.1 x4 0 0).bind λr35=>jn (λ(j37:(Bool)->Option _)=>bif decide (r35.1<s34.2) then(j37 true)else(bif decide (r35.1=s34.2) then(j37 (decide (r35.2≤x2)))else(j37 false))) (λ(s39:Bool)=>bif s39 then(some (Lp.out s34.1))else((Qah s34.2 x3 0).bind λr40=>bif decide (0<r40.2) then(some (Lp.out ((s34.1+4294967296 - 1)%4294967296)))else(some (Lp.go (((s34.1+4294967296 - 1)%4294967296),r40.1)))))) n (s10.1,s10.2)).bind λ(t32:Nat)=>some t32)
def Qdd(x0:(List Nat))(x1:Int)(x2:(List Nat))(x3:Nat):Option (Bool×(List Nat)):=(rangeL (λ(i27:Nat) (x28:Nat) (s26:(List Nat)×Nat×Nat)=>(Qc7 x3 x28 s26.2.1 0).bind λr30=>(getI s26.1 (wrap64 (x1+(i27:Int)))).bind λy32=>(Qgp y32 r30.2 s26.2.2).bind λr34=>(getI s26.1 (wrap64 (x1+(i27:Int)))).bind λ_=>some (Lp.go ((List.set s26.1 (Int.toNat (wrap64 (x1+(i27:Int)))) r34.1),r30.1,r34.2))) x2 0 (x0,0,0)).bind (lpK λ(s38:(List Nat)×Nat×Nat)=>(getI s38.1 (wrap64 (x1+(x2.length:Int)))).bind λy39=>(Qgp y39 s38.2.1 s38.2.2).bind λr41=>(getI s38.1 (wrap64 (x1+(x2.length:Int)))).bind λ_=>some (decide (0<r41.2),(List.set s38.1 (Int.toNat (wrap64 (x1+(x2.length:Int)))) r41.1)))
def Qfa(x0:(List Nat))(x1:Int)(x2:(List Nat)):Option ((List Nat)):=(rangeL (λ(i23:Nat) (x24:Nat) (s22:(List Nat)×Nat)=>(getI s22.1 (wrap64 (x1+(i23:Int)))).bind λy26=>(Qah y26 x24 s22.2).bind λr28=>(getI s22.1 (wrap64 (x1+(i23:Int)))).bind λ_=>some (Lp.go ((List.set s22.1 (Int.toNat (wrap64 (x1+(i23:Int)))) r28.1),r28.2))) x2 0 (x0,0)).bind (lpK λ(s32:(List Nat)×Nat)=>(getI s32.1 (wrap64 (x1+(x2.length:Int)))).bind λy33=>(getI s32.1 (wrap64 (x1+(x2.length:Int)))).bind λ_=>(some ((List.set s32.1 (Int.toNat (wrap64 (x1+(x2.length:Int)))) ((y33+s32.2)%4294967296)))).bind λz37=>some z37)
def Qjc(n:Nat)(x0:(List Nat))(x1:(List Nat)):Option ((List Nat)×(List Nat)):=(mkM 4 (0:Nat) (wrap64 ((x0.length:Int) - (x1.length:Int)))).bind λy1=>(loopM (λ(s60:(List Nat)×(List Nat)×Int)=>bif decide ((0:Int)≤s60.2.2) then((getI s60.1 (wrap64 (s60.2.2+(x1.length:Int)))).bind λy61=>(getI s60.1 (wrap64 ((wrap64 (s60.2.2+(x1.length:Int))) - (1:Int)))).bind λy63=>(getI s60.1 (wrap64 ((wrap64 (s60.2.2+(x1.length:Int))) - (2:Int)))).bind λy65=>(getI x1 (wrap64 ((x1.length:Int) - (1:Int)))).bind λy67=>(getI x1 (wrap64 ((x1.length:Int) - (2:Int)))).bind λy69=>(Qfz n y61 y63 y65 y67 y69).bind λr71=>jn (λ(j77:((List Nat)×Nat)->Option _)=>(Qdd s60.1 s60.2.2 x1 r71).bind λr80=>bif r80.1 then((Qfa r80.2 s60.2.2 x1).bind λr82=>j77 (r82,((r71+4294967296 - 1)%4294967296)))else(j77 (r80.2,r71))) (λ(s79:(List Nat)×Nat)=>(getI s60.2.1 s60.2.2).bind λ_=>some (Lp.go (s79.1,(List.set s60.2.1 (Int.toNat s60.2.2) s79.2),wrap64 (s60.2.2 - (1:Int))))))else(some (Lp.out (s60.1,s60.2.1)))) n (x0,y1,wrap64 ((y1.length:Int) - (1:Int)))).bind λ(t58:(List Nat)×(List Nat))=>some (t58.2,t58.1)
def Qjd(n:Nat)(x0:(List Nat))(x1:Int):Option ((List Nat)):=(some (decide ((x0.length:Int)≤(wrap64 (Int.tdiv (max x1 (0:Int)) (32:Int)))))).bind λz1=>bif z1 then(some ([]:List Nat))else((some (wrap64 ((x0.length:Int) - (wrap64 (Int.tdiv (max x1 (0:Int)) (32:Int)))))).bind λz2=>(mkM 4 (0:Nat) z2).bind λy3=>(rangeL (λ(i49:Nat) (_:Nat) (s48:(List Nat))=>(some (wrap64 ((wrap64 (Int.tdiv (max x1 (0:Int)) (32:Int)))+(i49:Int)))).bind λz52=>(getI x0 z52).bind λy53=>jn (λ(j59:(Nat)->Option _)=>(some (wrap64 ((wrap64 (Int.tdiv (max x1 (0:Int)) (32:Int)))+(i49:Int)))).bind λz62=>bif decide ((wrap64 (z62+(1:Int)))<(x0.length:Int)) then((some (wrap64 ((wrap64 (Int.tdiv (max x1 (0:Int)) (32:Int)))+(i49:Int)))).bind λz63=>(getI x0 (wrap64 (z63+(1:Int)))).bind λy64=>j59 (y53 ||| ((y64*2 ^ 32)%18446744073709551616)))else(j59 y53)) (λ(s61:Nat)=>(grd (decide (0≤Int.tmod (max x1 (0:Int)) (32:Int)))).bind λ_=>(some ((s61 / 2 ^ (min (Int.toNat (Int.tmod (max x1 (0:Int)) (32:Int))) 64)))).bind λz67=>(getI s48 (i49:Int)).bind λ_=>some (Lp.go (List.set s48 (Int.toNat (i49:Int)) (z67%4294967296))))) y3 0 y3).bind (lpK λ(s70:(List Nat))=>(Wx n s70).bind λr71=>some r71))
def Qee(n:Nat)(x0:(List Nat))(x1:(List Nat)):Option ((List Nat)×(List Nat)×Bool):=(Wx n x1).bind λr1=>bif decide ((r1.length:Int)=(0:Int)) then(some (([]:List Nat),([]:List Nat),false))else((Qdc n x0 r1).bind λr3=>bif decide (r3<(0:Int)) then((Wx n x0).bind λr5=>some (([]:List Nat),r5,true))else(bif decide ((r1.length:Int)=(1:Int)) then((getI r1 (0:Int)).bind λy7=>(Qhf n x0 y7).bind λr9=>(Qat n r9.2.1).bind λr11=>some (r9.1,r11,true))else((getI r1 (wrap64 ((r1.length:Int) - (1:Int)))).bind λy13=>(Qit n y13).bind λr15=>(Qh2 n x0 (wrap64 ((32:Int) - r15))).bind λr17=>(appM 4 r17 ([0]:List Nat)).bind λy19=>(Qh2 n r1 (wrap64 ((32:Int) - r15))).bind λr21=>(Qjc n y19 r21).bind λr23=>(Wx n r23.1).bind λr25=>(Qjd n r23.2 (wrap64 ((32:Int) - r15))).bind λr27=>some (r25,r27,true))))
def Qhg(n:Nat)(x0:(List Nat)):Option (Nat×Bool):=(Yi n x0).bind λr1=>bif decide ((2:Int)<(r1.length:Int)) then(some (0,false))else((rangeL (λ(i17:Nat) (x18:Nat) (s16:Nat)=>(grd (decide (0≤wrap64 ((32:Int)*(i17:Int))))).bind λ_=>(some (((x18*2 ^ (min (Int.toNat (wrap64 ((32:Int)*(i17:Int)))) 64))%18446744073709551616))).bind λz21=>some (Lp.go (s16 ||| z21))) r1 0 0).bind (lpK λ(s22:Nat)=>some (s22,true)))
def Qf0(n:Nat)(x0:Nat)(x1:Nat):Option (Nat):=(loopM (λ(s7:Nat×Nat)=>bif !decide (s7.2=0) then((grd (s7.2 != 0)).bind λ_=>some (Lp.go (s7.2,(s7.1%s7.2))))else(some (Lp.out s7.1))) n (x0,x1)).bind λ(t5:Nat)=>some t5
def Qh3(n:Nat)(x0:(List Nat))(x1:(List Nat)):Option ((List Nat)):=(Wx n x0).bind λr1=>(Wx n x1).bind λr3=>(loopM (λ(s19:(List Nat)×(List Nat))=>bif decide ((2:Int)<(s19.2.length:Int)) then((Qee n s19.1 s19.2).bind λr20=>some (Lp.go (s19.2,r20.2.1)))else(some (Lp.out (s19.1,s19.2)))) n (r1,r3)).bind λ(t17:(List Nat)×(List Nat))=>bif decide ((t17.2.length:Int)=(0:Int)) then(some t17.1)else((Qee n t17.1 t17.2).bind λr22=>(Qhg n t17.2).bind λr24=>(Qhg n r22.2.1).bind λr26=>(Qf0 n r24.1 r26.1).bind λr28=>(Qat n r28).bind λr30=>some r30)
def Qh4(x0:(List Nat)):Option (Bool):=jn (λ(j3:(Bool)->Option _)=>bif decide ((x0.length:Int)=(1:Int)) then((getI x0 (0:Int)).bind λy6=>j3 (decide (y6=1)))else(j3 false)) (λ(s5:Bool)=>some s5)
def Qef(n:Nat)(x0:(List Nat))(x1:(List Nat)):Option ((List Nat)×(List Nat)):=(Qh3 n x0 x1).bind λr1=>bif decide ((r1.length:Int)=(0:Int)) then(some (([]:List Nat),([]:List Nat)))else((Qh4 r1).bind λr3=>bif r3 then((Wx n x0).bind λr5=>(Wx n x1).bind λr7=>some (r5,r7))else((Qee n x0 r1).bind λr9=>(Qee n x1 r1).bind λr11=>some (r9.1,r11.1)))
def Qbq(n:Nat)(x0:Qf):Option (Qf):=(Wx n x0.Abs).bind λr3=>(Xg x0.Neg r3).bind λr5=>some r5
def Qaf(n:Nat)(x0:Qf)(x1:(List Nat)):Option (Qa):=(Qef n x0.Abs x1).bind λr1=>(Qbq n (⟨x0.Neg,r1.1⟩:Qf)).bind λr3=>some (⟨r3,r1.2⟩:Qa)
def Qeg(n:Nat)(x0:Qa)(x1:Qa):Option (Qa):=(Wt n x0).bind λr1=>(Wt n x1).bind λr3=>(Z6 n r1.1 r3.2).bind λr5=>(Z6 n r3.1 r1.2).bind λr7=>(Qhe n r5 r7).bind λr9=>(Qa6 n r1.2 r3.2).bind λr11=>(Qaf n r9 r11).bind λr13=>some r13
def Qcl(n:Nat)(x0:Qf):Option (Int):=(Qc6 n x0.Abs).bind λr1=>bif r1 then ( some (0:Int)) else ( bif x0.Neg then ( some (-1:Int)) else ( some (1:Int)))
def Qje(n:Nat)(x0:Qf)(x1:Qf):Option (Int):=(Qhe n x0 x1).bind λr1=>(Qcl n r1).bind λr3=>some r3
def Qgq(n:Nat)(x0:Qa)(x1:Qa):Option (Int):=(Wt n x0).bind λr1=>(Wt n x1).bind λr3=>(Z6 n r1.1 r3.2).bind λr5=>(Z6 n r3.1 r1.2).bind λr7=>(Qje n r5 r7).bind λr9=>some r9
def Vq(n:Nat)(x0:Qa):Option (Qa):=(Wt n x0).bind λr1=>(Qaf n r1.1 r1.2).bind λr3=>some r3
def Z7(x0:Int)(x1:Int):Option (Bool):=jn (λ(j1:(Bool)->Option _)=>bif decide ((0:Int)≤x0) then ( j1 (decide (x0<x1))) else ( j1 false)) (λ(s3:Bool)=>some s3)
def Qh5(x0:Qm):Option (Bool):=jn (λ(j5:(Bool)->Option _)=>(Z7 (wrap64 (x0.Dim - (1:Int))) (6:Int)).bind λr8=>bif r8 then((Z7 x0.Par (7:Int)).bind λr10=>bif r10 then(bif decide ((x0.Outs.length:Int)=x0.Dim) then(j5 (decide ((x0.Code.length:Int)≤(300:Int))))else(j5 false))else(j5 false))else(j5 false)) (λ(s7:Bool)=>some s7)
def Qki(x0:Qs):Option (K7):=some (⟨x0.Op,x0.A,x0.B⟩:K7)
def Yn(n:Nat)(x0:Qa):Option (Bool):=(Vq n x0).bind λr1=>jn (λ(j7:(Bool)->Option _)=>bif (x0.Num.Neg == r1.Num.Neg) then(bif decide ((x0.Num.Abs.length:Int)=(r1.Num.Abs.length:Int)) then(bif decide ((x0.Den.length:Int)=(r1.Den.length:Int)) then((Qdc n x0.Num.Abs r1.Num.Abs).bind λr10=>bif decide (r10=(0:Int)) then((Qdc n x0.Den r1.Den).bind λr12=>j7 (decide (r12=(0:Int))))else(j7 false))else(j7 false))else(j7 false))else(j7 false)) (λ(s9:Bool)=>some s9)
def Qh6(x0:Qa):Option (Bool):=jn (λ(j1:(Bool)->Option _)=>bif !x0.Num.Neg then(bif decide ((x0.Num.Abs.length:Int)=(0:Int)) then(j1 (decide ((x0.Den.length:Int)=(0:Int))))else(j1 false))else(j1 false)) (λ(s3:Bool)=>some s3)
def Qf1(x0:Qs):Option ((List Int)):=jn (λ(j1:(Bool)->Option _)=>bif decide (x0.Op=(6:Int)) then(j1 (decide (x0.Op=(6:Int))))else(j1 (decide (x0.Op=(11:Int))))) (λ(s3:Bool)=>bif s3 then(some ([x0.A]:List Int))else(jn (λ(j4:(Bool)->Option _)=>bif decide (x0.Op=(7:Int)) then(j4 (decide (x0.Op=(7:Int))))else(bif decide (x0.Op=(8:Int)) then(j4 (decide (x0.Op=(8:Int))))else(bif decide (x0.Op=(9:Int)) then(j4 (decide (x0.Op=(9:Int))))else(j4 (decide (x0.Op=(10:Int))))))) (λ(s6:Bool)=>bif s6 then(some ([x0.A,x0.B]:List Int))else(some ([]:List Int)))))
def Qiu(n:Nat)(x0:Qm)(x1:Int):Option (Bool):=(getI x0.Code x1).bind λy1=>bif decide (y1.Op=(1:Int)) then(jn (λ(j7:(Bool)->Option _)=>(Qki y1).bind λr10=>bif (Qcd r10 (⟨(1:Int),0,0⟩:K7)) then((Yn n y1.N).bind λr12=>j7 r12)else(j7 false)) (λ(s9:Bool)=>some s9))else((Qh6 y1.N).bind λr14=>bif !r14 then(some false)else((Qf1 y1).bind λr16=>(rangeL (λ(_:Nat) (x27:Int) (_:Unit)=>(Z7 x27 x1).bind λr29=>bif !r29 then(some (Lp.out (false)))else(some (Lp.go ()))) r16 0 ()).bind (lpK λ(_:Unit)=>bif decide (y1.Op=(2:Int)) then((Qki y1).bind λr32=>some (Qcd r32 (⟨(2:Int),0,0⟩:K7)))else(bif decide (y1.Op=(3:Int)) then(jn (λ(j36:(Bool)->Option _)=>(Z7 y1.A x0.Dim).bind λr39=>bif r39 then(j36 (decide (y1.B=(0:Int))))else(j36 false)) (λ(s38:Bool)=>some s38))else(bif decide (y1.Op=(4:Int)) then(jn (λ(j43:(Bool)->Option _)=>(Z7 y1.A x0.Par).bind λr46=>bif r46 then(j43 (decide (y1.B=(0:Int))))else(j43 false)) (λ(s45:Bool)=>some s45))else(bif decide (y1.Op=(6:Int)) then(some (decide (y1.B=(0:Int))))else(bif decide (y1.Op=(11:Int)) then(jn (λ(j48:(Bool)->Option _)=>bif decide ((-8:Int)≤y1.B) then(j48 (decide (y1.B≤(8:Int))))else(j48 false)) (λ(s50:Bool)=>some s50))else((Qf1 y1).bind λr51=>some (decide ((r51.length:Int)=(2:Int)))))))))))
def Qk6(n:Nat)(x0:Qm):Option (Int):=(Qh5 x0).bind λr1=>bif !r1 then(some (-2:Int))else((rangeL (λ(i11:Nat) (_:Qs) (_:Unit)=>(Qiu n x0 (i11:Int)).bind λr14=>bif !r14 then(some (Lp.out ((i11:Int))))else(some (Lp.go ()))) x0.Code 0 ()).bind (lpK λ(_:Unit)=>(rangeL (λ(_:Nat) (x26:Int) (_:Unit)=>(Z7 x26 (x0.Code.length:Int)).bind λr28=>bif !r28 then(some (Lp.out ((x0.Code.length:Int))))else(some (Lp.go ()))) x0.Outs 0 ()).bind (lpK λ(_:Unit)=>some (-1:Int))))
def Z8(n:Nat)(x0:Qm):Option (Bool):=(Qk6 n x0).bind λr1=>some (decide (r1=(-1:Int)))
def Qk7(n:Nat)(x0:Int):Option (Qf):=bif decide (x0<(0:Int)) then((some (((18446744073709551616 - (Int.toNat (x0%18446744073709551616)))%18446744073709551616))).bind λz1=>(Qat n z1).bind λr2=>(Xg true r2).bind λr4=>some r4)else((Qat n (Int.toNat (x0%18446744073709551616))).bind λr6=>(Xg false r6).bind λr8=>some r8)
def Ju(n:Nat)(x0:Int):Option (Qa):=(Qk7 n x0).bind λr1=>(Qat n 1).bind λr3=>some (⟨r1,r3⟩:Qa)
def Qde(x0:Nat):Option (Bool):=jn (λ(j1:(Bool)->Option _)=>bif decide (48≤x0) then ( j1 (decide (x0≤57))) else ( j1 false)) (λ(s3:Bool)=>some s3)
def Qdp(x0:Nat):Option (Bool):=jn (λ(j1:(Bool)->Option _)=>bif decide (97≤x0) then(bif decide (x0≤122) then(j1 true)else(bif decide (65≤x0) then(bif decide (x0≤90) then(j1 true)else(j1 (decide (x0=95))))else(j1 (decide (x0=95)))))else(bif decide (65≤x0) then(bif decide (x0≤90) then(j1 true)else(j1 (decide (x0=95))))else(j1 (decide (x0=95))))) (λ(s3:Bool)=>some s3)
def Qk8(n:Nat)(x0:Nat):Option (Bool):=(loopM (λ(s9:Nat)=>bif decide (s9<([43,45,42,47,94,40,41,91,93,44,59,61]:List UInt8).length) then((some (((decR ([43,45,42,47,94,40,41,91,93,44,59,61]:List UInt8) s9:Nat):Int))).bind λz11=>bif decide ((Int.toNat (z11%256))=x0) then(some (Lp.out (Lp.out (true))))else(some (Lp.go (s9+decW ([43,45,42,47,94,40,41,91,93,44,59,61]:List UInt8) s9))))else(some (Lp.out (Lp.go ())))) n 0).bind (lpK λ(_:Unit)=>some false)
def Qk9(n:Nat)(x0:Nat):Option (Int):=(Qde x0).bind λr1=>bif r1 then(some (1:Int))else((Qdp x0).bind λr3=>bif r3 then(some (2:Int))else((Qk8 n x0).bind λr5=>bif r5 then(some (3:Int))else(some (0:Int))))
def Qla(x0:Int)(x1:Nat):Option (Bool):=jn (λ(j11:(Bool)->Option _)=>bif decide (x0=(1:Int)) then((Qde x1).bind λr14=>bif r14 then(j11 true)else(bif decide (x0=(2:Int)) then((Qdp x1).bind λr16=>bif r16 then(j11 true)else((Qde x1).bind λr18=>j11 r18))else(j11 false)))else(bif decide (x0=(2:Int)) then((Qdp x1).bind λr20=>bif r20 then(j11 true)else((Qde x1).bind λr22=>j11 r22))else(j11 false))) (λ(s13:Bool)=>some s13)
def Qjf(n:Nat)(x0:(List UInt8))(x1:Int):Option (Int):=(loopM (λ(s27:Int)=>jn (λ(j32:(Bool)->Option _)=>bif decide (s27<(x0.length:Int)) then((getS x0 s27).bind λy35=>(Qla x1 y35).bind λr37=>j32 r37)else(j32 false)) (λ(s34:Bool)=>bif s34 then(some (Lp.go (wrap64 (s27+(1:Int)))))else(some (Lp.out s27)))) n (1:Int)).bind λ(t25:Int)=>some t25
def Qlb(x0:Int):Option (Int):=bif decide (x0=(1:Int)) then ( some (60:Int)) else ( bif decide (x0=(2:Int)) then ( some (12:Int)) else ( some (1:Int)))
def Qhh(n:Nat)(x0:Qis):Option (Bool):=jn (λ(j7:(Bool)->Option _)=>bif decide (x0.Text=([]:List UInt8)) then(j7 true)else(bif decide (x0.Kind=(0:Int)) then(j7 true)else((getS x0.Text (0:Int)).bind λy12=>(Qk9 n y12).bind λr14=>j7 (!decide (r14=x0.Kind))))) (λ(s9:Bool)=>bif s9 then(some false)else(jn (λ(j21:(Bool)->Option _)=>(Qjf n x0.Text x0.Kind).bind λr24=>bif decide (r24=(x0.Text.length:Int)) then((Qlb x0.Kind).bind λr27=>j21 (decide ((x0.Text.length:Int)≤r27)))else(j21 false)) (λ(s23:Bool)=>some s23)))
def Qf2(x0:Qt):Option (Bool):=jn (λ(j1:(Bool)->Option _)=>bif decide ((x0.B.length:Int)<(1:Int)) then(j1 true)else(bif decide ((8:Int)<(x0.B.length:Int)) then(j1 true)else(bif !decide ((x0.C.length:Int)=(x0.B.length:Int)) then(j1 true)else(bif !decide ((x0.A.length:Int)=(x0.B.length:Int)) then(j1 true)else(bif !decide ((x0.E.length:Int)=(x0.B.length:Int)) then(j1 (!decide ((x0.E.length:Int)=(0:Int))))else(j1 false)))))) (λ(s3:Bool)=>bif s3 then(some false)else((rangeL (λ(i10:Nat) (x11:(List Qa)) (_:Unit)=>bif !decide ((x11.length:Int)=(i10:Int)) then(some (Lp.out (false)))else(some (Lp.go ()))) x0.A 0 ()).bind (lpK λ(_:Unit)=>some true)))
def Qeh(n:Nat)(x0:(List Nat)):Option (Int):=(Wx n x0).bind λr1=>bif decide ((r1.length:Int)=(0:Int)) then(some (0:Int))else((getI r1 (wrap64 ((r1.length:Int) - (1:Int)))).bind λy3=>(Qit n y3).bind λr5=>(some (wrap64 ((wrap64 ((32:Int)*(wrap64 ((r1.length:Int) - (1:Int)))))+r5))).bind λz7=>some z7)
def Zi(n:Nat)(x0:Qa):Option (Int):=(Qeh n x0.Num.Abs).bind λr1=>(Qeh n x0.Den).bind λr3=>some (wrap64 (r1+r3))
def Qce(n:Nat)(x0:(List (List Qa))):Option (Bool):=(rangeL (λ(_:Nat) (x40:(List Qa)) (_:Unit)=>(rangeL (λ(_:Nat) (x60:Qa) (_:Unit)=>jn (λ(j66:(Bool)->Option _)=>(Yn n x60).bind λr69=>bif !r69 then(j66 true)else((Zi n x60).bind λr71=>j66 (decide ((190:Int)<r71)))) (λ(s68:Bool)=>bif s68 then(some (Lp.out (Lp.out (false))))else(some (Lp.go ())))) x40 0 ()).bind (lpK λ(_:Unit)=>some (Lp.go ()))) x0 0 ()).bind (lpK λ(_:Unit)=>some true)
def Wf(n:Nat)(x0:Qa)(x1:Qa):Option (Qa):=(Wt n x0).bind λr1=>(Wt n x1).bind λr3=>(Z6 n r1.1 r3.2).bind λr5=>(Z6 n r3.1 r1.2).bind λr7=>(Qhd n r5 r7).bind λr9=>(Qa6 n r1.2 r3.2).bind λr11=>(Qaf n r9 r11).bind λr13=>some r13
def Qcm(n:Nat)(x0:(List Qa)):Option (Qa):=(Ju n (0:Int)).bind λr1=>(rangeL (λ(_:Nat) (x18:Qa) (s16:Qa)=>(Wf n s16 x18).bind λr20=>some (Lp.go r20)) x0 0 r1).bind (lpK λ(s22:Qa)=>some s22)
def Yy(n:Nat)(x0:Qa)(x1:Qa):Option (Bool):=(Qgq n x0 x1).bind λr1=>some (decide (r1=(0:Int)))
def Qg5(n:Nat)(x0:Qt):Option (Bool):=(rangeL (λ(i13:Nat) (x14:(List Qa)) (_:Unit)=>(Qcm n x14).bind λr16=>(getI x0.C (i13:Int)).bind λy18=>(Yy n r16 y18).bind λr20=>bif !r20 then(some (Lp.out (false)))else(some (Lp.go ()))) x0.A 0 ()).bind (lpK λ(_:Unit)=>some true)
def Qdj(n:Nat)(x0:Qt):Option (Int):=(Ju n (1:Int)).bind λr1=>(Qhh n (⟨(2:Int),x0.Name,0⟩:Qis)).bind λr3=>bif !r3 then(some (1:Int))else((Qf2 x0).bind λr5=>bif !r5 then(some (2:Int))else(jn (λ(j11:(Bool)->Option _)=>(Qce n x0.A).bind λr14=>bif !r14 then(j11 true)else((Qce n ([x0.B,x0.C,x0.E]:List (List Qa))).bind λr16=>j11 (!r16))) (λ(s13:Bool)=>bif s13 then(some (3:Int))else((Qg5 n x0).bind λr18=>bif !r18 then(some (4:Int))else((Qcm n x0.B).bind λr20=>(Yy n r20 r1).bind λr22=>bif !r22 then(some (5:Int))else(jn (λ(j29:(Bool)->Option _)=>bif decide ((0:Int)<(x0.E.length:Int)) then((Qcm n x0.E).bind λr33=>(Yy n r33 r1).bind λr35=>j29 (!r35))else(j29 false)) (λ(s31:Bool)=>bif s31 then(some (6:Int))else(some (0:Int)))))))))
def Qdk(n:Nat)(x0:Qt):Option (Bool):=(Qdj n x0).bind λr1=>some (decide (r1=(0:Int)))
def Qcn(n:Nat)(x0:Qh):Option (Bool):=jn (λ(j5:(Bool)->Option _)=>(Z8 n x0.Tape).bind λr8=>bif r8 then((Qdk n x0.Scheme).bind λr10=>bif r10 then(j5 (decide ((x0.P.length:Int)=x0.Tape.Par)))else(j5 false))else(j5 false)) (λ(s7:Bool)=>some s7)
def Xs(x0:Int):Option (Qj):=some (⟨(⟨0,0⟩:Qa5),min (max x0 (0:Int)) (4096:Int)⟩:Qj)
def Y8(n:Nat)(x0:Int):Option ((List Qa)):=(mkM 56 ((⟨(⟨false,[]⟩:Qf),[]⟩:Qa):Qa) (min (max x0 (0:Int)) (300:Int))).bind λy1=>(loopM (λ(s15:(List Qa)×Int)=>bif decide (s15.2<(min (max x0 (0:Int)) (300:Int))) then((Ju n (0:Int)).bind λr16=>(getI s15.1 s15.2).bind λ_=>some (Lp.go ((List.set s15.1 (Int.toNat s15.2) r16),wrap64 (s15.2+(1:Int)))))else(some (Lp.out s15.1))) n (y1,(0:Int))).bind λ(t13:(List Qa))=>some t13
def Zj(n:Nat)(x0:Qa):Option (Int):=(Wt n x0).bind λr1=>(Qcl n r1.1).bind λr3=>some r3
def Vj(n:Nat)(x0:Qa)(x1:Qa):Option (Qa):=(Wt n x0).bind λr1=>(Wt n x1).bind λr3=>(Qhb n r1.1 r3.1).bind λr5=>(Qa6 n r1.2 r3.2).bind λr7=>(Qaf n r5 r7).bind λr9=>some r9
def Qh7(n:Nat)(x0:(List Qa))(x1:(List (List Qa)))(x2:Int):Option ((List Qa)×Bool):=jn (λ(j1:(Bool)->Option _)=>bif !decide ((x0.length:Int)=(x1.length:Int)) then(j1 true)else(bif decide (x2<(0:Int)) then(j1 true)else(j1 (decide ((300:Int)<x2))))) (λ(s3:Bool)=>bif s3 then(some (([]:List Qa),false))else((rangeL (λ(_:Nat) (x11:(List Qa)) (_:Unit)=>bif !decide ((x11.length:Int)=x2) then(some (Lp.out ((([]:List Qa),false))))else(some (Lp.go ()))) x1 0 ()).bind (lpK λ(_:Unit)=>(Y8 n x2).bind λr14=>(rangeL (λ(i108:Nat) (x109:(List Qa)) (s107:(List Qa))=>(getI x0 (i108:Int)).bind λy111=>(Zj n y111).bind λr113=>bif decide (r113=(0:Int)) then(some (Lp.go s107))else((rangeL (λ(i131:Nat) (x132:Qa) (s130:(List Qa))=>(getI s130 (i131:Int)).bind λy134=>(getI x0 (i108:Int)).bind λy136=>(Vj n y136 x132).bind λr138=>(Wf n y134 r138).bind λr140=>(getI s130 (i131:Int)).bind λ_=>some (Lp.go (List.set s130 (Int.toNat (i131:Int)) r140))) x109 0 s107).bind (lpK λ(s144:(List Qa))=>some (Lp.go s144)))) x1 0 r14).bind (lpK λ(s145:(List Qa))=>some (s145,true)))))
def Ke(n:Nat)(x0:Qa)(x1:(List Qa)):Option ((List Qa)):=(rangeL (λ(_:Nat) (x20:Qa) (s18:(List Qa))=>(Vj n x0 x20).bind λr22=>(appM 56 s18 ([r22]:List Qa)).bind λy24=>some (Lp.go y24)) x1 0 ([]:List Qa)).bind (lpK λ(s26:(List Qa))=>some s26)
def Wk(n:Nat)(x0_p:Qh)(x0_t:Qa)(x0_h:Qa)(x0_y:(List Qa))(x0_g:Qj)(x0_out_Ys:(List (List Qa)))(x0_out_Ks:(List (List Qa)))(x0_out_Next:(List Qa))(x0_out_Err:(List Qa))(x1:(List Qa)):Option ((List Qa)):=(Qh7 n x1 x0_out_Ks (x0_y.length:Int)).bind λr1=>(Ke n x0_h r1.1).bind λr3=>some r3
def Qlc(n:Nat)(x0:(List Qa)):Option ((List Qa)):=(rangeL (λ(_:Nat) (x20:Qa) (s18:(List Qa))=>(Vq n x20).bind λr22=>(appM 56 s18 ([r22]:List Qa)).bind λy24=>some (Lp.go y24)) x0 0 ([]:List Qa)).bind (lpK λ(s26:(List Qa))=>some s26)
def K8(n:Nat)(x0:(List (List Qa))):Option ((List Qa)×Bool):=bif decide ((x0.length:Int)=(0:Int)) then(some (([]:List Qa),true))else((getI x0 (0:Int)).bind λy1=>(Qlc n y1).bind λr3=>(sub x0 (1:Int) (x0.length:Int)).bind λy5=>(rangeL (λ(_:Nat) (x72:(List Qa)) (s70:(List Qa))=>bif !decide ((x72.length:Int)=(s70.length:Int)) then(some (Lp.out ((([]:List Qa),false))))else((rangeL (λ(i86:Nat) (x87:Qa) (s85:(List Qa))=>(getI s85 (i86:Int)).bind λy89=>(Wf n y89 x87).bind λr91=>(getI s85 (i86:Int)).bind λ_=>some (Lp.go (List.set s85 (Int.toNat (i86:Int)) r91))) x72 0 s70).bind (lpK λ(s95:(List Qa))=>some (Lp.go s95)))) y5 0 r3).bind (lpK λ(s96:(List Qa))=>some (s96,true)))
def Y9(n:Nat)(x0_p:Qh)(x0_t:Qa)(x0_h:Qa)(x0_y:(List Qa))(x0_g:Qj)(x0_out_Ys:(List (List Qa)))(x0_out_Ks:(List (List Qa)))(x0_out_Next:(List Qa))(x0_out_Err:(List Qa))(x1:(List Qa)):Option ((List Qa)):=(Wk n x0_p x0_t x0_h x0_y x0_g x0_out_Ys x0_out_Ks x0_out_Next x0_out_Err x1).bind λr3=>(K8 n ([x0_y,r3]:List (List Qa))).bind λr5=>some r5.1
def Qcr(x0:Qj)(x1:Int):Option (Qj):=some (⟨(⟨wrap64 (x0.Count.Seen+(1:Int)),max x0.Count.Peak x1⟩:Qa5),x0.limit⟩:Qj)
def Vd(n:Nat)(x0:Qj)(x1:Qa):Option (Bool×Qj):=(Zi n x1).bind λr1=>(Qcr x0 r1).bind λr3=>some (decide (r1≤r3.limit),r3)
def W7(n:Nat)(x0:Qj)(x1:(List Qa)):Option (Int×Bool×Qj):=(rangeL (λ(i15:Nat) (x16:Qa) (s14:Qj)=>(Vd n s14 x16).bind λr18=>bif !r18.1 then(some (Lp.out (((i15:Int),false,r18.2))))else(some (Lp.go r18.2))) x1 0 x0).bind (lpK λ(s20:Qj)=>some ((x1.length:Int),true,s20))
def W8(n:Nat)(x0_p:Qh)(x0_t:Qa)(x0_h:Qa)(x0_y:(List Qa))(x0_g:Qj)(x0_out_Ys:(List (List Qa)))(x0_out_Ks:(List (List Qa)))(x0_out_Next:(List Qa))(x0_out_Err:(List Qa))(x1:(List Qa))(x2:Int):Option (Qd×Qj):=(W7 n x0_g x1).bind λr1=>bif !r1.2.1 then(some ((⟨(6:Int),0,x2,wrap64 ((300:Int)+r1.1)⟩:Qd),r1.2.2))else(some ((⟨0,0,0,0⟩:Qd),r1.2.2))
def Qcu(n:Nat)(x0:Qh)(x1:Qa)(x2:Qa)(x3:Int):Option (Qa):=jn (λ(j1:(Bool)->Option _)=>bif decide (x3<(0:Int)) then(j1 true)else(j1 (decide ((x0.Scheme.C.length:Int)≤x3)))) (λ(s3:Bool)=>bif s3 then((Vq n x1).bind λr4=>some r4)else((getI x0.Scheme.C x3).bind λy6=>(Vj n x2 y6).bind λr8=>(Wf n x1 r8).bind λr10=>some r10))
def Qp6(x0:Qh)(x1:Qa)(x2:(List Qa)):Option (Va):=some (⟨x1,x2,x0.P⟩:Va)
def Qh8(n:Nat)(x0:(List Qa)):Option ((List Qa)):=(rangeL (λ(_:Nat) (x20:Qa) (s18:(List Qa))=>(Vq n x20).bind λr22=>(appM 56 s18 ([r22]:List Qa)).bind λy24=>some (Lp.go y24)) x0 0 ([]:List Qa)).bind (lpK λ(s26:(List Qa))=>some s26)
def Qdf(n:Nat)(x0:Va):Option (Va):=(Vq n x0.T).bind λr1=>(Qh8 n x0.Y).bind λr3=>(Qh8 n x0.P).bind λr5=>some (⟨r1,r3,r5⟩:Va)
def Qci(n:Nat)(x0:Qa):Option (Qa):=(Vq n x0).bind λr1=>(Qhc n r1.Num).bind λr3=>some (⟨r3,r1.Den⟩:Qa)
def Qfo(n:Nat)(x0_g:Qj)(x1:Qa):Option (Qa):=(Qci n x1).bind λr1=>some r1
def Qf3(n:Nat)(x0:(List Nat))(x1:Int):Option ((List Nat)):=(Qat n 1).bind λr1=>(loopM (λ(s11:(List Nat)×Int)=>bif decide (s11.2<x1) then((Qa6 n s11.1 x0).bind λr12=>some (Lp.go (r12,wrap64 (s11.2+(1:Int)))))else(some (Lp.out s11.1))) n (r1,(0:Int))).bind λ(t9:(List Nat))=>some t9
def Qei(n:Nat)(x0:Qa)(x1:Int):Option (Qa×Bool):=jn (λ(j3:(Bool)->Option _)=>bif decide (x1<(-8:Int)) then(j3 true)else(bif decide ((8:Int)<x1) then(j3 true)else(bif decide (x1<(0:Int)) then((Zj n x0).bind λr6=>j3 (decide (r6=(0:Int))))else(j3 false)))) (λ(s5:Bool)=>bif s5 then((Ju n (0:Int)).bind λr8=>some (r8,false))else((Vq n x0).bind λr10=>(Qf3 n r10.Num.Abs (max x1 (wrap64 (-x1)))).bind λr12=>(Qf3 n r10.Den (max x1 (wrap64 (-x1)))).bind λr14=>jn (λ(j16:((List Nat)×(List Nat))->Option _)=>bif decide (x1<(0:Int)) then(j16 (r14,r12))else(j16 (r12,r14))) (λ(s18:(List Nat)×(List Nat))=>jn (λ(j23:(Qa)->Option _)=>bif r10.Num.Neg then((Qbq n (⟨decide ((Int.tmod (max x1 (wrap64 (-x1))) (2:Int))=(1:Int)),s18.1⟩:Qf)).bind λr26=>j23 (⟨r26,s18.2⟩:Qa))else((Qbq n (⟨false,s18.1⟩:Qf)).bind λr28=>j23 (⟨r28,s18.2⟩:Qa))) (λ(s25:Qa)=>some (s25,true)))))
def Qfp(n:Nat)(x0_g:Qj)(x1:Qa)(x2:Int):Option (Qa×Bool):=(Qei n x1 x2).bind λr1=>some (r1.1,r1.2)
def Qfq(n:Nat)(x0_g:Qj)(x1:Qa)(x2:Qa):Option (Qa):=(Wf n x1 x2).bind λr1=>some r1
def Qfr(n:Nat)(x0_g:Qj)(x1:Qa)(x2:Qa):Option (Qa):=(Qeg n x1 x2).bind λr1=>some r1
def Qfs(n:Nat)(x0_g:Qj)(x1:Qa)(x2:Qa):Option (Qa):=(Vj n x1 x2).bind λr1=>some r1
def Qai(n:Nat)(x0:Qa)(x1:Qa):Option (Qa×Bool):=(Wt n x0).bind λr1=>(Wt n x1).bind λr3=>(Qcl n r3.1).bind λr5=>bif decide (r5=(0:Int)) then((Ju n (0:Int)).bind λr7=>some (r7,false))else((Z6 n r1.1 r3.2).bind λr9=>(Qa6 n r1.2 r3.1.Abs).bind λr11=>(Qaf n (⟨(r9.Neg != r3.1.Neg),r9.Abs⟩:Qf) r11).bind λr13=>some (r13,true))
def Qft(n:Nat)(x0_g:Qj)(x1:Qa)(x2:Qa):Option (Qa×Bool):=(Qai n x1 x2).bind λr1=>some (r1.1,r1.2)
def Qgr(n:Nat)(x0_g:Qj)(x1:Qa):Option (Qa):=(Vq n x1).bind λr1=>some r1
def Wy(n:Nat)(x0_Arith_g:Qj)(x1:Qs)(x2:Y0):Option (Qa):=bif decide (x1.Op=(1:Int)) then((Qgr n x0_Arith_g x1.N).bind λr1=>some r1)else(bif decide (x1.Op=(3:Int)) then((getI x2.Y x1.A).bind λy3=>some y3)else(bif decide (x1.Op=(4:Int)) then((getI x2.P x1.A).bind λy5=>some y5)else(some x2.T)))
def Kx(n:Nat)(x0_Arith_g:Qj)(x1:Qs)(x2:Y0)(x3:(List Qa)):Option (Qa×Bool):=bif decide (x1.Op=(6:Int)) then((getI x3 x1.A).bind λy1=>(Qfo n x0_Arith_g y1).bind λr3=>some (r3,true))else(bif decide (x1.Op=(11:Int)) then((getI x3 x1.A).bind λy5=>(Qfp n x0_Arith_g y5 x1.B).bind λr7=>some (r7.1,r7.2))else(bif decide (x1.Op=(7:Int)) then((getI x3 x1.A).bind λy9=>(getI x3 x1.B).bind λy11=>(Qfq n x0_Arith_g y9 y11).bind λr13=>some (r13,true))else(bif decide (x1.Op=(8:Int)) then((getI x3 x1.A).bind λy15=>(getI x3 x1.B).bind λy17=>(Qfr n x0_Arith_g y15 y17).bind λr19=>some (r19,true))else(bif decide (x1.Op=(9:Int)) then((getI x3 x1.A).bind λy21=>(getI x3 x1.B).bind λy23=>(Qfs n x0_Arith_g y21 y23).bind λr25=>some (r25,true))else(bif decide (x1.Op=(10:Int)) then((getI x3 x1.A).bind λy27=>(getI x3 x1.B).bind λy29=>(Qft n x0_Arith_g y27 y29).bind λr31=>some (r31.1,r31.2))else((Wy n x0_Arith_g x1 x2).bind λr33=>some (r33,true)))))))
def Qco(n:Nat)(x0_g:Qj)(x1:Qa):Option (Bool×Qj):=(Vd n x0_g x1).bind λr1=>some (r1.1,r1.2)
def Vy(n:Nat)(x0_Arith_g:Qj)(x1:Qm)(x2:Y0):Option ((List Qa)×Qd×Qj):=jn (λ(j3:(Bool)->Option _)=>(Z8 n x1).bind λr6=>bif !r6 then(j3 true)else(bif !decide ((x2.Y.length:Int)=x1.Dim) then(j3 true)else(j3 (!decide ((x2.P.length:Int)=x1.Par))))) (λ(s5:Bool)=>bif s5 then(some (([]:List Qa),(⟨(2:Int),0,0,0⟩:Qd),x0_Arith_g))else((rangeL (λ(i30:Nat) (x31:Qs) (s29:Qj×(List Qa))=>(Kx n s29.1 x31 x2 s29.2).bind λr33=>bif !r33.2 then(some (Lp.out ((([]:List Qa),(⟨(3:Int),0,0,(i30:Int)⟩:Qd),s29.1))))else((Qco n s29.1 r33.1).bind λr35=>bif !r35.1 then(some (Lp.out ((([]:List Qa),(⟨(6:Int),0,0,(i30:Int)⟩:Qd),r35.2))))else((appM 56 s29.2 ([r33.1]:List Qa)).bind λy37=>some (Lp.go (r35.2,y37))))) x1.Code 0 (x0_Arith_g,([]:List Qa))).bind (lpK λ(s39:Qj×(List Qa))=>some (s39.2,(⟨0,0,0,0⟩:Qd),s39.1))))
def Qgs(n:Nat)(x0:Qm)(x1:Va)(x2:Int):Option ((List Qa)×Qd):=(Qdf n x1).bind λr1=>(Xs x2).bind λr3=>(Vy n r3 x0 (⟨r1.T,r1.Y,r1.P⟩:Y0)).bind λr5=>some (r5.1,r5.2.1)
def Qn1(n:Nat)(x0:Qm)(x1:(List Qa)):Option ((List Qa)):=jn (λ(j3:(Bool)->Option _)=>(Z8 n x0).bind λr6=>bif !r6 then(j3 true)else(j3 (!decide ((x1.length:Int)=(x0.Code.length:Int))))) (λ(s5:Bool)=>bif s5 then(some ([]:List Qa))else((rangeL (λ(_:Nat) (x31:Int) (s29:(List Qa))=>(getI x1 x31).bind λy33=>(Vq n y33).bind λr35=>(appM 56 s29 ([r35]:List Qa)).bind λy37=>some (Lp.go y37)) x0.Outs 0 ([]:List Qa)).bind (lpK λ(s39:(List Qa))=>some s39)))
def Qjg(n:Nat)(x0:Qm)(x1:Va)(x2:Int):Option ((List Qa)×Qd):=(Qgs n x0 x1 x2).bind λr1=>bif !(Qo r1.2 (⟨0,0,0,0⟩:Qd)) then(some (([]:List Qa),r1.2))else((Qn1 n x0 r1.1).bind λr3=>some (r3,r1.2))
def Yo(n:Nat)(x0_p:Qh)(x0_t:Qa)(x0_h:Qa)(x0_y:(List Qa))(x0_g:Qj)(x0_out_Ys:(List (List Qa)))(x0_out_Ks:(List (List Qa)))(x0_out_Next:(List Qa))(x0_out_Err:(List Qa))(x1:Int):Option (Qd×Qh×Qa×Qa×(List Qa)×(List Qa)×(List Qa)×Qj×(List (List Qa))×(List (List Qa))):=(getI x0_p.Scheme.A x1).bind λy1=>(Y9 n x0_p x0_t x0_h x0_y x0_g x0_out_Ys x0_out_Ks x0_out_Next x0_out_Err y1).bind λr3=>(W8 n x0_p x0_t x0_h x0_y x0_g x0_out_Ys x0_out_Ks x0_out_Next x0_out_Err r3 x1).bind λr5=>bif !(Qo r5.1 (⟨0,0,0,0⟩:Qd)) then(some (r5.1,x0_p,x0_t,x0_h,x0_y,x0_out_Next,x0_out_Err,r5.2,x0_out_Ys,x0_out_Ks))else((Qcu n x0_p x0_t x0_h x1).bind λr7=>(Qp6 x0_p r7 r3).bind λr9=>(Qjg n x0_p.Tape r9 x0_p.Bits).bind λr11=>bif !(Qo r11.2 (⟨0,0,0,0⟩:Qd)) then(some ((⟨r11.2.Kind,r11.2.Step,x1,r11.2.At⟩:Qd),x0_p,x0_t,x0_h,x0_y,x0_out_Next,x0_out_Err,r5.2,x0_out_Ys,x0_out_Ks))else((appM 24 x0_out_Ys ([r3]:List (List Qa))).bind λy13=>(appM 24 x0_out_Ks ([r11.1]:List (List Qa))).bind λy15=>some (r11.2,x0_p,x0_t,x0_h,x0_y,x0_out_Next,x0_out_Err,r5.2,y13,y15)))
def Qp7(n:Nat)(x0:(List Qa))(x1:(List Qa)):Option ((List Qa)×Bool):=(Ju n (-1:Int)).bind λr1=>(Ke n r1 x1).bind λr3=>(K8 n ([x0,r3]:List (List Qa))).bind λr5=>some (r5.1,r5.2)
def Qcp(n:Nat)(x0:Qt):Option ((List Qa)):=jn (λ(j3:(Bool)->Option _)=>(Qdk n x0).bind λr6=>bif !r6 then(j3 true)else(j3 (decide ((x0.E.length:Int)=(0:Int))))) (λ(s5:Bool)=>bif s5 then(some ([]:List Qa))else((Qp7 n x0.B x0.E).bind λr8=>some r8.1))
def Qb7(n:Nat)(x0_p:Qh)(x0_t:Qa)(x0_h:Qa)(x0_y:(List Qa))(x0_g:Qj)(x0_out_Ys:(List (List Qa)))(x0_out_Ks:(List (List Qa)))(x0_out_Next:(List Qa))(x0_out_Err:(List Qa)):Option (Qd×Qh×Qa×Qa×(List Qa)×(List Qa)×(List Qa)×Qj×(List (List Qa))×(List (List Qa))):=(rangeL (λ(i15:Nat) (_:Qa) (s14:Qh×Qa×Qa×(List Qa)×Qj×(List (List Qa))×(List (List Qa))×(List Qa)×(List Qa))=>(Yo n s14.1 s14.2.1 s14.2.2.1 s14.2.2.2.1 s14.2.2.2.2.1 s14.2.2.2.2.2.1 s14.2.2.2.2.2.2.1 s14.2.2.2.2.2.2.2.1 s14.2.2.2.2.2.2.2.2 (i15:Int)).bind λr18=>bif !(Qo r18.1 (⟨0,0,0,0⟩:Qd)) then(some (Lp.out ((r18.1,r18.2.1,r18.2.2.1,r18.2.2.2.1,r18.2.2.2.2.1,r18.2.2.2.2.2.1,r18.2.2.2.2.2.2.1,r18.2.2.2.2.2.2.2.1,r18.2.2.2.2.2.2.2.2.1,r18.2.2.2.2.2.2.2.2.2))))else(some (Lp.go (r18.2.1,r18.2.2.1,r18.2.2.2.1,r18.2.2.2.2.1,r18.2.2.2.2.2.2.2.1,r18.2.2.2.2.2.2.2.2.1,r18.2.2.2.2.2.2.2.2.2,r18.2.2.2.2.2.1,r18.2.2.2.2.2.2.1)))) x0_p.Scheme.B 0 (x0_p,x0_t,x0_h,x0_y,x0_g,x0_out_Ys,x0_out_Ks,x0_out_Next,x0_out_Err)).bind (lpK λ(s20:Qh×Qa×Qa×(List Qa)×Qj×(List (List Qa))×(List (List Qa))×(List Qa)×(List Qa))=>(Y9 n s20.1 s20.2.1 s20.2.2.1 s20.2.2.2.1 s20.2.2.2.2.1 s20.2.2.2.2.2.1 s20.2.2.2.2.2.2.1 s20.2.2.2.2.2.2.2.1 s20.2.2.2.2.2.2.2.2 x0_p.Scheme.B).bind λr21=>(W8 n s20.1 s20.2.1 s20.2.2.1 s20.2.2.2.1 s20.2.2.2.2.1 s20.2.2.2.2.2.1 s20.2.2.2.2.2.2.1 r21 s20.2.2.2.2.2.2.2.2 r21 (x0_p.Scheme.B.length:Int)).bind λr23=>bif !(Qo r23.1 (⟨0,0,0,0⟩:Qd)) then(some (r23.1,s20.1,s20.2.1,s20.2.2.1,s20.2.2.2.1,r21,s20.2.2.2.2.2.2.2.2,r23.2,s20.2.2.2.2.2.1,s20.2.2.2.2.2.2.1))else(jn (λ(j29:((List Qa))->Option _)=>(Qcp n x0_p.Scheme).bind λr32=>bif decide ((0:Int)<(r32.length:Int)) then((Wk n s20.1 s20.2.1 s20.2.2.1 s20.2.2.2.1 r23.2 s20.2.2.2.2.2.1 s20.2.2.2.2.2.2.1 r21 s20.2.2.2.2.2.2.2.2 r32).bind λr34=>j29 r34)else(j29 s20.2.2.2.2.2.2.2.2)) (λ(s31:(List Qa))=>(W8 n s20.1 s20.2.1 s20.2.2.1 s20.2.2.2.1 r23.2 s20.2.2.2.2.2.1 s20.2.2.2.2.2.2.1 r21 s31 s31 (wrap64 ((x0_p.Scheme.B.length:Int)+(1:Int)))).bind λr36=>some (r36.1,s20.1,s20.2.1,s20.2.2.1,s20.2.2.2.1,r21,s31,r36.2,s20.2.2.2.2.2.1,s20.2.2.2.2.2.2.1))))
def Qh9(n:Nat)(x0:Qh)(x1:Qa)(x2:Qa)(x3:(List Qa)):Option (Q2×Qd):=jn (λ(j3:(Bool)->Option _)=>(Qcn n x0).bind λr6=>bif !r6 then(j3 true)else(j3 (!decide ((x3.length:Int)=x0.Tape.Dim)))) (λ(s5:Bool)=>bif s5 then(some ((⟨[],[],[],[]⟩:Q2),(⟨(2:Int),0,0,0⟩:Qd)))else((Xs x0.Bits).bind λr8=>(Qb7 n x0 x1 x2 x3 r8 ([]:List (List Qa)) ([]:List (List Qa)) [] []).bind λr10=>bif !(Qo r10.1 (⟨0,0,0,0⟩:Qd)) then(some ((⟨[],[],[],[]⟩:Q2),r10.1))else(some ((⟨r10.2.2.2.2.2.2.2.2.1,r10.2.2.2.2.2.2.2.2.2,r10.2.2.2.2.2.1,r10.2.2.2.2.2.2.1⟩:Q2),(⟨0,0,0,0⟩:Qd)))))
def Qld(n:Nat)(x0:Qa):Option (Qa):=(Vq n x0).bind λr1=>some (⟨(⟨false,r1.Num.Abs⟩:Qf),r1.Den⟩:Qa)
def Qle(n:Nat)(x0:(List Qa)):Option (Qa):=(Ju n (0:Int)).bind λr1=>(rangeL (λ(i31:Nat) (x32:Qa) (s30:Qa)=>jn (λ(j36:(Bool)->Option _)=>bif decide ((i31:Int)=(0:Int)) then(j36 true)else((Qgq n x32 s30).bind λr39=>j36 (decide ((0:Int)<r39)))) (λ(s38:Bool)=>bif s38 then((Vq n x32).bind λr41=>some (Lp.go r41))else(some (Lp.go s30)))) x0 0 r1).bind (lpK λ(s43:Qa)=>some s43)
def Qiv(n:Nat)(x0:(List Qa)):Option (Qa):=(Ju n (0:Int)).bind λr1=>(rangeL (λ(_:Nat) (x24:Qa) (s22:Qa)=>(Qld n x24).bind λr26=>(Qle n ([s22,r26]:List Qa)).bind λr28=>some (Lp.go r28)) x0 0 r1).bind (lpK λ(s30:Qa)=>some s30)
def Qlf(n:Nat)(x0:Qf)(x1:(List Nat)):Option (Qa×Bool):=(Qc6 n x1).bind λr1=>bif r1 then ( (Ju n (0:Int)).bind λr3=>some (r3,false)) else ( (Qaf n x0 x1).bind λr5=>some (r5,true))
def Z9(n:Nat)(x0_p:Qh)(x0_t:Qa)(x0_h:Qa)(x0_w:(List Qa))(x0_made:Q2)(x0_ys:(List (List Qa)))(x0_sum:Jm)(x0_g:Qj)(x1:Int):Option ((List Qa)):=(getI x0_p.Scheme.B x1).bind λy1=>(Ke n y1 x0_w).bind λr3=>(loopM (λ(s64:(List Qa)×Int)=>bif decide (s64.2<(x0_p.Scheme.B.length:Int)) then((getI x0_p.Scheme.A s64.2).bind λy65=>(getI y65 x1).bind λy67=>(getI x0_ys s64.2).bind λy69=>(Ke n y67 y69).bind λr71=>(K8 n ([s64.1,r71]:List (List Qa))).bind λr73=>some (Lp.go (r73.1,wrap64 (s64.2+(1:Int)))))else(some (Lp.out s64.1))) n (r3,wrap64 (x1+(1:Int)))).bind λ(t62:(List Qa))=>(Ke n x0_h t62).bind λr75=>some r75
def Wl(n:Nat)(x0_p:Qh)(x0_t:Qa)(x0_h:Qa)(x0_w:(List Qa))(x0_made:Q2)(x0_ys:(List (List Qa)))(x0_sum:Jm)(x0_g:Qj)(x1:(List Qa))(x2:Int):Option (Qd×Qj):=(W7 n x0_g x1).bind λr1=>bif !r1.2.1 then(some ((⟨(6:Int),0,x2,wrap64 ((300:Int)+r1.1)⟩:Qd),r1.2.2))else(some ((⟨0,0,0,0⟩:Qd),r1.2.2))
def Qhi(n:Nat)(x0:Int)(x1:Int):Option (Qa×(List Qa)×(List Qa)):=(Ju n (0:Int)).bind λr1=>(Y8 n x0).bind λr3=>(Y8 n x1).bind λr5=>some (r1,r3,r5)
def Ji(n:Nat)(x0_t:Qm)(x0_done:(List Qa))(x0_co:(List Qa))(x0_grad_T:Qa)(x0_grad_Y:(List Qa))(x0_grad_P:(List Qa))(x1:Int)(x2:Qa):Option (Qm×(List Qa)×Qa×(List Qa)):=(getI x0_co x1).bind λy1=>(Wf n y1 x2).bind λr3=>(getI x0_co x1).bind λ_=>some (x0_t,x0_done,x0_grad_T,(List.set x0_co (Int.toNat x1) r3))
def Qej(n:Nat)(x0_t:Qm)(x0_done:(List Qa))(x0_co:(List Qa))(x0_grad_T:Qa)(x0_grad_Y:(List Qa))(x0_grad_P:(List Qa))(x1:Qs)(x2:Qa)(x3:Qa):Option (Qm×(List Qa)×Qa×(List Qa)):=(getI x0_done x1.B).bind λy1=>(Qai n x2 y1).bind λr3=>(Ji n x0_t x0_done x0_co x0_grad_T x0_grad_Y x0_grad_P x1.A r3.1).bind λr5=>(Vj n r3.1 x3).bind λr7=>(Qci n r7).bind λr9=>(Ji n r5.1 r5.2.1 r5.2.2.2 r5.2.2.1 x0_grad_Y x0_grad_P x1.B r9).bind λr11=>some (r11.1,r11.2.1,r11.2.2.1,r11.2.2.2)
def Qek(n:Nat)(x0_t:Qm)(x0_done:(List Qa))(x0_co:(List Qa))(x0_grad_T:Qa)(x0_grad_Y:(List Qa))(x0_grad_P:(List Qa))(x1:Qs)(x2:Qa)(x3:Qa):Option (Qm×(List Qa)×Qa×(List Qa)):=(Ju n (0:Int)).bind λr1=>jn (λ(j11:(Qa)->Option _)=>bif decide ((0:Int)<x1.B) then((getI x0_done x1.A).bind λy14=>(Qei n y14 (wrap64 (x1.B - (1:Int)))).bind λr16=>j11 r16.1)else(bif decide (x1.B<(0:Int)) then((getI x0_done x1.A).bind λy18=>(Qai n x3 y18).bind λr20=>j11 r20.1)else(j11 r1))) (λ(s13:Qa)=>(Ju n x1.B).bind λr22=>(Vj n r22 s13).bind λr24=>(Vj n x2 r24).bind λr26=>(Ji n x0_t x0_done x0_co x0_grad_T x0_grad_Y x0_grad_P x1.A r26).bind λr28=>some (r28.1,r28.2.1,r28.2.2.1,r28.2.2.2))
def X7(n:Nat)(x0_t:Qm)(x0_done:(List Qa))(x0_co:(List Qa))(x0_grad_T:Qa)(x0_grad_Y:(List Qa))(x0_grad_P:(List Qa))(x1:Int):Option (Qm×(List Qa)×Qa×(List Qa)×(List Qa)×(List Qa)):=(getI x0_t.Code x1).bind λy1=>(getI x0_co x1).bind λy3=>(Zj n y3).bind λr5=>bif decide (r5=(0:Int)) then(some (x0_t,x0_done,x0_grad_T,x0_co,x0_grad_Y,x0_grad_P))else(bif decide (y1.Op=(2:Int)) then((Wf n x0_grad_T y3).bind λr7=>some (x0_t,x0_done,r7,x0_co,x0_grad_Y,x0_grad_P))else(bif decide (y1.Op=(3:Int)) then((getI x0_grad_Y y1.A).bind λy9=>(Wf n y9 y3).bind λr11=>(getI x0_grad_Y y1.A).bind λ_=>some (x0_t,x0_done,x0_grad_T,x0_co,(List.set x0_grad_Y (Int.toNat y1.A) r11),x0_grad_P))else(bif decide (y1.Op=(4:Int)) then((getI x0_grad_P y1.A).bind λy15=>(Wf n y15 y3).bind λr17=>(getI x0_grad_P y1.A).bind λ_=>some (x0_t,x0_done,x0_grad_T,x0_co,x0_grad_Y,(List.set x0_grad_P (Int.toNat y1.A) r17)))else(bif decide (y1.Op=(6:Int)) then((Qci n y3).bind λr21=>(Ji n x0_t x0_done x0_co x0_grad_T x0_grad_Y x0_grad_P y1.A r21).bind λr23=>some (r23.1,r23.2.1,r23.2.2.1,r23.2.2.2,x0_grad_Y,x0_grad_P))else(bif decide (y1.Op=(7:Int)) then((Ji n x0_t x0_done x0_co x0_grad_T x0_grad_Y x0_grad_P y1.A y3).bind λr25=>(Ji n r25.1 r25.2.1 r25.2.2.2 r25.2.2.1 x0_grad_Y x0_grad_P y1.B y3).bind λr27=>some (r27.1,r27.2.1,r27.2.2.1,r27.2.2.2,x0_grad_Y,x0_grad_P))else(bif decide (y1.Op=(8:Int)) then((Ji n x0_t x0_done x0_co x0_grad_T x0_grad_Y x0_grad_P y1.A y3).bind λr29=>(Qci n y3).bind λr31=>(Ji n r29.1 r29.2.1 r29.2.2.2 r29.2.2.1 x0_grad_Y x0_grad_P y1.B r31).bind λr33=>some (r33.1,r33.2.1,r33.2.2.1,r33.2.2.2,x0_grad_Y,x0_grad_P))else(bif decide (y1.Op=(9:Int)) then((getI x0_done y1.B).bind λy35=>(Vj n y3 y35).bind λr37=>(Ji n x0_t x0_done x0_co x0_grad_T x0_grad_Y x0_grad_P y1.A r37).bind λr39=>(getI r39.2.1 y1.A).bind λy41=>(Vj n y3 y41).bind λr43=>(Ji n r39.1 r39.2.1 r39.2.2.2 r39.2.2.1 x0_grad_Y x0_grad_P y1.B r43).bind λr45=>some (r45.1,r45.2.1,r45.2.2.1,r45.2.2.2,x0_grad_Y,x0_grad_P))else(bif decide (y1.Op=(10:Int)) then((getI x0_done x1).bind λy47=>(Qej n x0_t x0_done x0_co x0_grad_T x0_grad_Y x0_grad_P y1 y3 y47).bind λr49=>some (r49.1,r49.2.1,r49.2.2.1,r49.2.2.2,x0_grad_Y,x0_grad_P))else(bif decide (y1.Op=(11:Int)) then((getI x0_done x1).bind λy51=>(Qek n x0_t x0_done x0_co x0_grad_T x0_grad_Y x0_grad_P y1 y3 y51).bind λr53=>some (r53.1,r53.2.1,r53.2.2.1,r53.2.2.2,x0_grad_Y,x0_grad_P))else(some (x0_t,x0_done,x0_grad_T,x0_co,x0_grad_Y,x0_grad_P)))))))))))
def Qlg(x0:Vc):Option ((List Qa)):=(appM 56 ([x0.T]:List Qa) x0.Y).bind λy1=>(appM 56 y1 x0.P).bind λy3=>some y3
def Qjh(n:Nat)(x0:Qm)(x1:Va)(x2:(List Qa))(x3:Int):Option (Vc×Qd):=(Qhi n (0:Int) (0:Int)).bind λr1=>bif !decide ((x2.length:Int)=(x0.Outs.length:Int)) then(some ((⟨r1.1,r1.2.1,r1.2.2⟩:Vc),(⟨(2:Int),0,0,0⟩:Qd)))else((Qgs n x0 x1 x3).bind λr3=>bif !(Qo r3.2 (⟨0,0,0,0⟩:Qd)) then(some ((⟨r1.1,r1.2.1,r1.2.2⟩:Vc),r3.2))else((mkM 56 ((⟨(⟨false,[]⟩:Qf),[]⟩:Qa):Qa) (r3.1.length:Int)).bind λy5=>(Qhi n x0.Dim x0.Par).bind λr7=>(rangeL (λ(i27:Nat) (x28:Int) (s26:Qm×(List Qa)×(List Qa)×Qa)=>(getI x2 (i27:Int)).bind λy30=>(Ji n s26.1 s26.2.1 s26.2.2.1 s26.2.2.2 r7.2.1 r7.2.2 x28 y30).bind λr32=>some (Lp.go (r32.1,r32.2.1,r32.2.2.2,r32.2.2.1))) x0.Outs 0 (x0,r3.1,y5,r7.1)).bind (lpK λ(s34:Qm×(List Qa)×(List Qa)×Qa)=>(Xs x3).bind λr35=>(loopM (λ(s57:Qm×(List Qa)×(List Qa)×Qa×(List Qa)×(List Qa)×Qj×Int)=>bif decide ((0:Int)≤s57.2.2.2.2.2.2.2) then((getI s57.2.2.1 s57.2.2.2.2.2.2.2).bind λy58=>(Vq n y58).bind λr60=>(Vd n s57.2.2.2.2.2.2.1 r60).bind λr62=>bif !r62.1 then(some (Lp.out (Lp.out (((⟨r1.1,r1.2.1,r1.2.2⟩:Vc),(⟨(6:Int),0,(2:Int),s57.2.2.2.2.2.2.2⟩:Qd))))))else((X7 n s57.1 s57.2.1 s57.2.2.1 s57.2.2.2.1 s57.2.2.2.2.1 s57.2.2.2.2.2.1 s57.2.2.2.2.2.2.2).bind λr64=>some (Lp.go (r64.1,r64.2.1,r64.2.2.2.1,r64.2.2.1,r64.2.2.2.2.1,r64.2.2.2.2.2,r62.2,wrap64 (s57.2.2.2.2.2.2.2 - (1:Int))))))else(some (Lp.out (Lp.go (s57.1,s57.2.1,s57.2.2.1,s57.2.2.2.1,s57.2.2.2.2.1,s57.2.2.2.2.2.1,s57.2.2.2.2.2.2.1))))) n (s34.1,s34.2.1,s34.2.2.1,s34.2.2.2,r7.2.1,r7.2.2,r35,wrap64 ((r3.1.length:Int) - (1:Int)))).bind (lpK λ(t55:Qm×(List Qa)×(List Qa)×Qa×(List Qa)×(List Qa)×Qj)=>(Qlg (⟨t55.2.2.2.1,t55.2.2.2.2.1,t55.2.2.2.2.2.1⟩:Vc)).bind λr66=>(W7 n t55.2.2.2.2.2.2 r66).bind λr68=>bif !r68.2.1 then(some ((⟨r1.1,r1.2.1,r1.2.2⟩:Vc),(⟨(6:Int),0,(3:Int),r68.1⟩:Qd)))else(some ((⟨t55.2.2.2.1,t55.2.2.2.2.1,t55.2.2.2.2.2.1⟩:Vc),(⟨0,0,0,0⟩:Qd)))))))
def Qel(n:Nat)(x0:Jm)(x1:Jm):Option (Jm×Bool):=(K8 n ([x0.Y,x1.Y]:List (List Qa))).bind λr1=>(K8 n ([x0.P,x1.P]:List (List Qa))).bind λr3=>jn (λ(j5:(Bool)->Option _)=>bif !r1.2 then(j5 true)else(j5 (!r3.2))) (λ(s7:Bool)=>bif s7 then(some ((⟨[],[]⟩:Jm),false))else(some ((⟨r1.1,r3.1⟩:Jm),true)))
def Y4(n:Nat)(x0_p:Qh)(x0_t:Qa)(x0_h:Qa)(x0_w:(List Qa))(x0_made:Q2)(x0_ys:(List (List Qa)))(x0_sum:Jm)(x0_g:Qj)(x1:Int):Option (Qd×Qh×Qa×Qa×(List Qa)×Q2×Jm×(List (List Qa))×Qj):=(Z9 n x0_p x0_t x0_h x0_w x0_made x0_ys x0_sum x0_g x1).bind λr1=>(Wl n x0_p x0_t x0_h x0_w x0_made x0_ys x0_sum x0_g r1 x1).bind λr3=>bif !(Qo r3.1 (⟨0,0,0,0⟩:Qd)) then(some (r3.1,x0_p,x0_t,x0_h,x0_w,x0_made,x0_sum,x0_ys,r3.2))else((Qcu n x0_p x0_t x0_h x1).bind λr5=>(getI x0_made.Ys x1).bind λy7=>(Qjh n x0_p.Tape (⟨r5,y7,x0_p.P⟩:Va) r1 x0_p.Bits).bind λr9=>bif !(Qo r9.2 (⟨0,0,0,0⟩:Qd)) then(some ((⟨r9.2.Kind,r9.2.Step,x1,r9.2.At⟩:Qd),x0_p,x0_t,x0_h,x0_w,x0_made,x0_sum,x0_ys,r3.2))else((getI x0_ys x1).bind λ_=>(Qel n x0_sum (⟨r9.1.Y,r9.1.P⟩:Jm)).bind λr13=>some (r9.2,x0_p,x0_t,x0_h,x0_w,x0_made,r13.1,(List.set x0_ys (Int.toNat x1) r9.1.Y),r3.2)))
def Qbb(n:Nat)(x0_p:Qh)(x0_t:Qa)(x0_h:Qa)(x0_w:(List Qa))(x0_made:Q2)(x0_ys:(List (List Qa)))(x0_sum:Jm)(x0_g:Qj):Option (Qd×Qh×Qa×Qa×(List Qa)×Q2×Jm×(List (List Qa))×Qj):=(loopM (λ(s11:Qh×Qa×Qa×(List Qa)×Q2×(List (List Qa))×Jm×Qj×Int)=>bif decide ((0:Int)≤s11.2.2.2.2.2.2.2.2) then((Y4 n s11.1 s11.2.1 s11.2.2.1 s11.2.2.2.1 s11.2.2.2.2.1 s11.2.2.2.2.2.1 s11.2.2.2.2.2.2.1 s11.2.2.2.2.2.2.2.1 s11.2.2.2.2.2.2.2.2).bind λr12=>bif !(Qo r12.1 (⟨0,0,0,0⟩:Qd)) then(some (Lp.out (Lp.out ((r12.1,r12.2.1,r12.2.2.1,r12.2.2.2.1,r12.2.2.2.2.1,r12.2.2.2.2.2.1,r12.2.2.2.2.2.2.1,r12.2.2.2.2.2.2.2.1,r12.2.2.2.2.2.2.2.2)))))else(some (Lp.go (r12.2.1,r12.2.2.1,r12.2.2.2.1,r12.2.2.2.2.1,r12.2.2.2.2.2.1,r12.2.2.2.2.2.2.2.1,r12.2.2.2.2.2.2.1,r12.2.2.2.2.2.2.2.2,wrap64 (s11.2.2.2.2.2.2.2.2 - (1:Int))))))else(some (Lp.out (Lp.go (s11.1,s11.2.1,s11.2.2.1,s11.2.2.2.1,s11.2.2.2.2.1,s11.2.2.2.2.2.1,s11.2.2.2.2.2.2.1,s11.2.2.2.2.2.2.2.1))))) n (x0_p,x0_t,x0_h,x0_w,x0_made,x0_ys,x0_sum,x0_g,wrap64 ((x0_p.Scheme.B.length:Int) - (1:Int)))).bind (lpK λ(t9:Qh×Qa×Qa×(List Qa)×Q2×(List (List Qa))×Jm×Qj)=>(Wl n t9.1 t9.2.1 t9.2.2.1 t9.2.2.2.1 t9.2.2.2.2.1 t9.2.2.2.2.2.1 t9.2.2.2.2.2.2.1 t9.2.2.2.2.2.2.2 t9.2.2.2.2.2.2.1.Y (x0_p.Scheme.B.length:Int)).bind λr14=>bif !(Qo r14.1 (⟨0,0,0,0⟩:Qd)) then(some (r14.1,t9.1,t9.2.1,t9.2.2.1,t9.2.2.2.1,t9.2.2.2.2.1,t9.2.2.2.2.2.2.1,t9.2.2.2.2.2.1,r14.2))else((Wl n t9.1 t9.2.1 t9.2.2.1 t9.2.2.2.1 t9.2.2.2.2.1 t9.2.2.2.2.2.1 t9.2.2.2.2.2.2.1 r14.2 t9.2.2.2.2.2.2.1.P (wrap64 ((x0_p.Scheme.B.length:Int)+(1:Int)))).bind λr16=>some (r16.1,t9.1,t9.2.1,t9.2.2.1,t9.2.2.2.1,t9.2.2.2.2.1,t9.2.2.2.2.2.2.1,t9.2.2.2.2.2.1,r16.2)))
def Wm(n:Nat)(x0_p:Qh)(x0_t:Qa)(x0_h:Qa)(x0_u:(List Qa))(x0_v:(List Qa))(x0_made:Q2)(x0_ks:(List (List Qa)))(x0_g:Qj)(x1:(List Qa)):Option ((List Qa)):=(Qh7 n x1 x0_ks (x0_u.length:Int)).bind λr1=>(Ke n x0_h r1.1).bind λr3=>some r3
def Za(n:Nat)(x0_p:Qh)(x0_t:Qa)(x0_h:Qa)(x0_u:(List Qa))(x0_v:(List Qa))(x0_made:Q2)(x0_ks:(List (List Qa)))(x0_g:Qj)(x1:(List Qa)):Option ((List Qa)):=(Wm n x0_p x0_t x0_h x0_u x0_v x0_made x0_ks x0_g x1).bind λr3=>(K8 n ([x0_u,r3]:List (List Qa))).bind λr5=>some r5.1
def W9(n:Nat)(x0_p:Qh)(x0_t:Qa)(x0_h:Qa)(x0_u:(List Qa))(x0_v:(List Qa))(x0_made:Q2)(x0_ks:(List (List Qa)))(x0_g:Qj)(x1:(List Qa))(x2:Int):Option (Qd×Qj):=(W7 n x0_g x1).bind λr1=>bif !r1.2.1 then(some ((⟨(6:Int),0,x2,wrap64 ((300:Int)+r1.1)⟩:Qd),r1.2.2))else(some ((⟨0,0,0,0⟩:Qd),r1.2.2))
def Qhj(x0:(List Qa))(x1:(List Qa)):Option ((List Qv)×Bool):=bif !decide ((x0.length:Int)=(x1.length:Int)) then(some (([]:List Qv),false))else((rangeL (λ(i19:Nat) (x20:Qa) (s18:(List Qv))=>(getI x1 (i19:Int)).bind λy22=>(appM 112 s18 ([(⟨x20,y22⟩:Qv)]:List Qv)).bind λy24=>some (Lp.go y24)) x0 0 ([]:List Qv)).bind (lpK λ(s26:(List Qv))=>some (s26,true)))
def Qem(n:Nat)(x0_g:Qj)(x0_slow_c0:Int)(x1:Qv):Option (Qv):=(Qci n x1.V).bind λr1=>(Qci n x1.D).bind λr3=>some (⟨r1,r3⟩:Qv)
def Qen(n:Nat)(x0_g:Qj)(x0_slow_c0:Int)(x1:Qv)(x2:Int):Option (Qv×Bool):=(Qei n x1.V x2).bind λr1=>bif !r1.2 then(some ((⟨(⟨(⟨false,[]⟩:Qf),[]⟩:Qa),(⟨(⟨false,[]⟩:Qf),[]⟩:Qa)⟩:Qv),false))else((Ju n (0:Int)).bind λr3=>jn (λ(j9:(Qa)->Option _)=>bif decide ((0:Int)<x2) then((Qei n x1.V (wrap64 (x2 - (1:Int)))).bind λr12=>j9 r12.1)else(bif decide (x2<(0:Int)) then((Qai n r1.1 x1.V).bind λr14=>j9 r14.1)else(j9 r3))) (λ(s11:Qa)=>(Ju n x2).bind λr16=>(Vj n r16 s11).bind λr18=>(Vj n r18 x1.D).bind λr20=>some ((⟨r1.1,r20⟩:Qv),true)))
def Qeo(n:Nat)(x0_g:Qj)(x0_slow_c0:Int)(x1:Qv)(x2:Qv):Option (Qv):=(Wf n x1.V x2.V).bind λr1=>(Wf n x1.D x2.D).bind λr3=>some (⟨r1,r3⟩:Qv)
def Qep(n:Nat)(x0_g:Qj)(x0_slow_c0:Int)(x1:Qv)(x2:Qv):Option (Qv):=(Qeg n x1.V x2.V).bind λr1=>(Qeg n x1.D x2.D).bind λr3=>some (⟨r1,r3⟩:Qv)
def Qeq(n:Nat)(x0_g:Qj)(x0_slow_c0:Int)(x1:Qv)(x2:Qv):Option (Qv):=(Vj n x1.V x2.V).bind λr1=>(Vj n x1.D x2.V).bind λr3=>(Vj n x1.V x2.D).bind λr5=>(Wf n r3 r5).bind λr7=>some (⟨r1,r7⟩:Qv)
def Qer(n:Nat)(x0_g:Qj)(x0_slow_c0:Int)(x1:Qv)(x2:Qv):Option (Qv×Bool):=(Qai n x1.V x2.V).bind λr1=>bif !r1.2 then(some ((⟨(⟨(⟨false,[]⟩:Qf),[]⟩:Qa),(⟨(⟨false,[]⟩:Qf),[]⟩:Qa)⟩:Qv),false))else((Vj n r1.1 x2.D).bind λr3=>(Qeg n x1.D r3).bind λr5=>(Qai n r5 x2.V).bind λr7=>some ((⟨r1.1,r7.1⟩:Qv),true))
def Qfu(n:Nat)(x0_g:Qj)(x0_slow_c0:Int)(x1:Qa):Option (Qv):=(Vq n x1).bind λr1=>(Ju n (0:Int)).bind λr3=>some (⟨r1,r3⟩:Qv)
def Wv(n:Nat)(x0_Arith_g:Qj)(x0_Arith_slow_c0:Int)(x1:Qs)(x2:Y3):Option (Qv):=bif decide (x1.Op=(1:Int)) then((Qfu n x0_Arith_g x0_Arith_slow_c0 x1.N).bind λr1=>some r1)else(bif decide (x1.Op=(3:Int)) then((getI x2.Y x1.A).bind λy3=>some y3)else(bif decide (x1.Op=(4:Int)) then((getI x2.P x1.A).bind λy5=>some y5)else(some x2.T)))
def Kr(n:Nat)(x0_Arith_g:Qj)(x0_Arith_slow_c0:Int)(x1:Qs)(x2:Y3)(x3:(List Qv)):Option (Qv×Bool):=bif decide (x1.Op=(6:Int)) then((getI x3 x1.A).bind λy1=>(Qem n x0_Arith_g x0_Arith_slow_c0 y1).bind λr3=>some (r3,true))else(bif decide (x1.Op=(11:Int)) then((getI x3 x1.A).bind λy5=>(Qen n x0_Arith_g x0_Arith_slow_c0 y5 x1.B).bind λr7=>some (r7.1,r7.2))else(bif decide (x1.Op=(7:Int)) then((getI x3 x1.A).bind λy9=>(getI x3 x1.B).bind λy11=>(Qeo n x0_Arith_g x0_Arith_slow_c0 y9 y11).bind λr13=>some (r13,true))else(bif decide (x1.Op=(8:Int)) then((getI x3 x1.A).bind λy15=>(getI x3 x1.B).bind λy17=>(Qep n x0_Arith_g x0_Arith_slow_c0 y15 y17).bind λr19=>some (r19,true))else(bif decide (x1.Op=(9:Int)) then((getI x3 x1.A).bind λy21=>(getI x3 x1.B).bind λy23=>(Qeq n x0_Arith_g x0_Arith_slow_c0 y21 y23).bind λr25=>some (r25,true))else(bif decide (x1.Op=(10:Int)) then((getI x3 x1.A).bind λy27=>(getI x3 x1.B).bind λy29=>(Qer n x0_Arith_g x0_Arith_slow_c0 y27 y29).bind λr31=>some (r31.1,r31.2))else((Wv n x0_Arith_g x0_Arith_slow_c0 x1 x2).bind λr33=>some (r33,true)))))))
def Qjy(x0:Int):Option (Int):=some (1:Int)
def Qb8(n:Nat)(x0_g:Qj)(x0_slow_c0:Int)(x1:Qv):Option (Bool×Qj×Int):=(Vd n x0_g x1.V).bind λr1=>bif !r1.1 then(some (false,r1.2,x0_slow_c0))else((Vd n r1.2 x1.D).bind λr3=>bif !r3.1 then((Qjy x0_slow_c0).bind λr5=>some (false,r3.2,r5))else(some (true,r3.2,x0_slow_c0)))
def Vt(n:Nat)(x0_Arith_g:Qj)(x0_Arith_slow_c0:Int)(x1:Qm)(x2:Y3):Option ((List Qv)×Qd×Qj×Int):=jn (λ(j3:(Bool)->Option _)=>(Z8 n x1).bind λr6=>bif !r6 then(j3 true)else(bif !decide ((x2.Y.length:Int)=x1.Dim) then(j3 true)else(j3 (!decide ((x2.P.length:Int)=x1.Par))))) (λ(s5:Bool)=>bif s5 then(some (([]:List Qv),(⟨(2:Int),0,0,0⟩:Qd),x0_Arith_g,x0_Arith_slow_c0))else((rangeL (λ(i30:Nat) (x31:Qs) (s29:Qj×Int×(List Qv))=>(Kr n s29.1 s29.2.1 x31 x2 s29.2.2).bind λr33=>bif !r33.2 then(some (Lp.out ((([]:List Qv),(⟨(3:Int),0,0,(i30:Int)⟩:Qd),s29.1,s29.2.1))))else((Qb8 n s29.1 s29.2.1 r33.1).bind λr35=>bif !r35.1 then(some (Lp.out ((([]:List Qv),(⟨(6:Int),0,0,(i30:Int)⟩:Qd),r35.2.1,r35.2.2))))else((appM 112 s29.2.2 ([r33.1]:List Qv)).bind λy37=>some (Lp.go (r35.2.1,r35.2.2,y37))))) x1.Code 0 (x0_Arith_g,x0_Arith_slow_c0,([]:List Qv))).bind (lpK λ(s39:Qj×Int×(List Qv))=>some (s39.2.2,(⟨0,0,0,0⟩:Qd),s39.1,s39.2.1))))
def Qmy(n:Nat)(x0:Qm)(x1:Va)(x2:Va)(x3:Int):Option ((List Qv)×Qd):=(Qdf n x1).bind λr1=>(Qdf n x2).bind λr3=>(Qhj r1.Y r3.Y).bind λr5=>(Qhj r1.P r3.P).bind λr7=>jn (λ(j9:(Bool)->Option _)=>bif !r5.2 then(j9 true)else(j9 (!r7.2))) (λ(s11:Bool)=>bif s11 then(some (([]:List Qv),(⟨(2:Int),0,0,0⟩:Qd)))else((Xs x3).bind λr12=>(Vt n r12 (0:Int) x0 (⟨(⟨r1.T,r3.T⟩:Qv),r5.1,r7.1⟩:Y3)).bind λr14=>some (r14.1,(⟨r14.2.1.Kind,r14.2.1.Step,r14.2.2.2,r14.2.1.At⟩:Qd))))
def Qia(n:Nat)(x0:Qm)(x1:Va)(x2:Va)(x3:Int):Option ((List Qa)×(List Qa)×Qd):=(Qmy n x0 x1 x2 x3).bind λr1=>bif !(Qo r1.2 (⟨0,0,0,0⟩:Qd)) then(some (([]:List Qa),([]:List Qa),r1.2))else((rangeL (λ(_:Nat) (x30:Int) (s28:(List Qa)×(List Qa))=>(getI r1.1 x30).bind λy32=>(appM 56 s28.1 ([y32.V]:List Qa)).bind λy34=>(getI r1.1 x30).bind λy36=>(appM 56 s28.2 ([y36.D]:List Qa)).bind λy38=>some (Lp.go (y34,y38))) x0.Outs 0 (([]:List Qa),([]:List Qa))).bind (lpK λ(s40:(List Qa)×(List Qa))=>some (s40.1,s40.2,r1.2)))
def Zv(n:Nat)(x0_p:Qh)(x0_t:Qa)(x0_h:Qa)(x0_u:(List Qa))(x0_v:(List Qa))(x0_made:Q2)(x0_ks:(List (List Qa)))(x0_g:Qj)(x1:Int):Option (Qd×Qh×Qa×Qa×(List Qa)×(List Qa)×Q2×(List (List Qa))×Qj):=(getI x0_p.Scheme.A x1).bind λy1=>(Za n x0_p x0_t x0_h x0_u x0_v x0_made x0_ks x0_g y1).bind λr3=>(W9 n x0_p x0_t x0_h x0_u x0_v x0_made x0_ks x0_g r3 x1).bind λr5=>bif !(Qo r5.1 (⟨0,0,0,0⟩:Qd)) then(some (r5.1,x0_p,x0_t,x0_h,x0_u,x0_v,x0_made,x0_ks,r5.2))else((Qcu n x0_p x0_t x0_h x1).bind λr7=>(getI x0_made.Ys x1).bind λy9=>(Qia n x0_p.Tape (⟨r7,y9,x0_p.P⟩:Va) (⟨(⟨(⟨false,[]⟩:Qf),[]⟩:Qa),r3,x0_v⟩:Va) x0_p.Bits).bind λr11=>bif !(Qo r11.2.2 (⟨0,0,0,0⟩:Qd)) then(some ((⟨r11.2.2.Kind,r11.2.2.Step,x1,r11.2.2.At⟩:Qd),x0_p,x0_t,x0_h,x0_u,x0_v,x0_made,x0_ks,r5.2))else((appM 24 x0_ks ([r11.2.1]:List (List Qa))).bind λy13=>some (r11.2.2,x0_p,x0_t,x0_h,x0_u,x0_v,x0_made,y13,r5.2)))
def Qb9(n:Nat)(x0_p:Qh)(x0_t:Qa)(x0_h:Qa)(x0_u:(List Qa))(x0_v:(List Qa))(x0_made:Q2)(x0_ks:(List (List Qa)))(x0_g:Qj):Option (Jv×Qd×Qh×Qa×Qa×(List Qa)×(List Qa)×Q2×(List (List Qa))×Qj):=(rangeL (λ(i15:Nat) (_:Qa) (s14:Qh×Qa×Qa×(List Qa)×(List Qa)×Q2×(List (List Qa))×Qj)=>(Zv n s14.1 s14.2.1 s14.2.2.1 s14.2.2.2.1 s14.2.2.2.2.1 s14.2.2.2.2.2.1 s14.2.2.2.2.2.2.1 s14.2.2.2.2.2.2.2 (i15:Int)).bind λr18=>bif !(Qo r18.1 (⟨0,0,0,0⟩:Qd)) then(some (Lp.out (((⟨[],[],(⟨[],[],[],[]⟩:Q2)⟩:Jv),r18.1,r18.2.1,r18.2.2.1,r18.2.2.2.1,r18.2.2.2.2.1,r18.2.2.2.2.2.1,r18.2.2.2.2.2.2.1,r18.2.2.2.2.2.2.2.1,r18.2.2.2.2.2.2.2.2))))else(some (Lp.go (r18.2.1,r18.2.2.1,r18.2.2.2.1,r18.2.2.2.2.1,r18.2.2.2.2.2.1,r18.2.2.2.2.2.2.1,r18.2.2.2.2.2.2.2.1,r18.2.2.2.2.2.2.2.2)))) x0_p.Scheme.B 0 (x0_p,x0_t,x0_h,x0_u,x0_v,x0_made,x0_ks,x0_g)).bind (lpK λ(s20:Qh×Qa×Qa×(List Qa)×(List Qa)×Q2×(List (List Qa))×Qj)=>(Za n s20.1 s20.2.1 s20.2.2.1 s20.2.2.2.1 s20.2.2.2.2.1 s20.2.2.2.2.2.1 s20.2.2.2.2.2.2.1 s20.2.2.2.2.2.2.2 x0_p.Scheme.B).bind λr21=>(W9 n s20.1 s20.2.1 s20.2.2.1 s20.2.2.2.1 s20.2.2.2.2.1 s20.2.2.2.2.2.1 s20.2.2.2.2.2.2.1 s20.2.2.2.2.2.2.2 r21 (x0_p.Scheme.B.length:Int)).bind λr23=>bif !(Qo r23.1 (⟨0,0,0,0⟩:Qd)) then(some ((⟨[],[],(⟨[],[],[],[]⟩:Q2)⟩:Jv),r23.1,s20.1,s20.2.1,s20.2.2.1,s20.2.2.2.1,s20.2.2.2.2.1,s20.2.2.2.2.2.1,s20.2.2.2.2.2.2.1,r23.2))else(jn (λ(j29:(Jv)->Option _)=>(Qcp n x0_p.Scheme).bind λr32=>bif decide ((0:Int)<(r32.length:Int)) then((Wm n s20.1 s20.2.1 s20.2.2.1 s20.2.2.2.1 s20.2.2.2.2.1 s20.2.2.2.2.2.1 s20.2.2.2.2.2.2.1 r23.2 r32).bind λr34=>j29 (⟨r21,r34,(⟨[],[],x0_made⟩:Jv).Made⟩:Jv))else(j29 (⟨r21,(⟨[],[],x0_made⟩:Jv).Err,(⟨[],[],x0_made⟩:Jv).Made⟩:Jv))) (λ(s31:Jv)=>(W9 n s20.1 s20.2.1 s20.2.2.1 s20.2.2.2.1 s20.2.2.2.2.1 s20.2.2.2.2.2.1 s20.2.2.2.2.2.2.1 r23.2 s31.Err (wrap64 ((x0_p.Scheme.B.length:Int)+(1:Int)))).bind λr36=>bif !(Qo r36.1 (⟨0,0,0,0⟩:Qd)) then(some ((⟨[],[],(⟨[],[],[],[]⟩:Q2)⟩:Jv),r36.1,s20.1,s20.2.1,s20.2.2.1,s20.2.2.2.1,s20.2.2.2.2.1,s20.2.2.2.2.2.1,s20.2.2.2.2.2.2.1,r36.2))else(some (s31,(⟨0,0,0,0⟩:Qd),s20.1,s20.2.1,s20.2.2.1,s20.2.2.2.1,s20.2.2.2.2.1,s20.2.2.2.2.2.1,s20.2.2.2.2.2.2.1,r36.2)))))
def Vk(n:Nat)(x0:(List Qa))(x1:(List Qa)):Option (Bool):=bif !decide ((x0.length:Int)=(x1.length:Int)) then(some false)else((rangeL (λ(i11:Nat) (x12:Qa) (_:Unit)=>(getI x1 (i11:Int)).bind λy14=>(Yy n x12 y14).bind λr16=>bif !r16 then(some (Lp.out (false)))else(some (Lp.go ()))) x0 0 ()).bind (lpK λ(_:Unit)=>some true))
def V9(n:Nat)(x0:Qh)(x1:Qa)(x2:Qa)(x3:(List Qa))(x4:(List Qa))(x5:(List Qa)):Option (Jv×Qd):=(Qh9 n x0 x1 x2 x3).bind λr1=>jn (λ(j3:(Bool)->Option _)=>bif decide (r1.2.Kind=(2:Int)) then(j3 true)else(bif !decide ((x4.length:Int)=(x3.length:Int)) then(j3 true)else(j3 (!decide ((x5.length:Int)=(x0.P.length:Int)))))) (λ(s5:Bool)=>bif s5 then(some ((⟨[],[],(⟨[],[],[],[]⟩:Q2)⟩:Jv),(⟨(2:Int),0,0,0⟩:Qd)))else(bif !(Qo r1.2 (⟨0,0,0,0⟩:Qd)) then(some ((⟨[],[],(⟨[],[],[],[]⟩:Q2)⟩:Jv),r1.2))else((Xs x0.Bits).bind λr6=>(Qb9 n x0 x1 x2 x4 x5 r1.1 ([]:List (List Qa)) r6).bind λr8=>some (r8.1,r8.2.1))))
def Qib(n:Nat)(x0:(List Qa))(x1:(List Qa)):Option (Qa×Bool):=(Ju n (0:Int)).bind λr1=>bif !decide ((x0.length:Int)=(x1.length:Int)) then(some (r1,false))else((rangeL (λ(i25:Nat) (x26:Qa) (s24:Qa)=>(getI x1 (i25:Int)).bind λy28=>(Vj n x26 y28).bind λr30=>(Wf n s24 r30).bind λr32=>some (Lp.go r32)) x0 0 r1).bind (lpK λ(s34:Qa)=>some (s34,true)))
def Qdq(n:Nat)(x0:Jm)(x1:(List Qa))(x2:(List Qa)):Option (Qa×Bool):=(Qib n x0.Y x1).bind λr1=>(Qib n x0.P x2).bind λr3=>jn (λ(j5:(Bool)->Option _)=>bif !r1.2 then(j5 true)else(j5 (!r3.2))) (λ(s7:Bool)=>bif s7 then((Ju n (0:Int)).bind λr8=>some (r8,false))else((Wf n r1.1 r3.1).bind λr10=>some (r10,true)))
def Zk(n:Nat)(x0:Qh)(x1:Qa)(x2:Qa)(x3:(List Qa))(x4:(List Qa)):Option (Jm×Qd):=(Qh9 n x0 x1 x2 x3).bind λr1=>jn (λ(j3:(Bool)->Option _)=>bif decide (r1.2.Kind=(2:Int)) then(j3 true)else(j3 (!decide ((x4.length:Int)=(x3.length:Int))))) (λ(s5:Bool)=>bif s5 then(some ((⟨[],[]⟩:Jm),(⟨(2:Int),0,0,0⟩:Qd)))else(bif !(Qo r1.2 (⟨0,0,0,0⟩:Qd)) then(some ((⟨[],[]⟩:Jm),r1.2))else((Y8 n (x4.length:Int)).bind λr6=>(Qel n (⟨x4,([]:List Qa)⟩:Jm) (⟨r6,([]:List Qa)⟩:Jm)).bind λr8=>(mkM 24 ([]:(List Qa)) (x0.Scheme.B.length:Int)).bind λy10=>(Xs x0.Bits).bind λr12=>(Y8 n (x0.P.length:Int)).bind λr14=>(Qbb n x0 x1 x2 x4 r1.1 y10 (⟨r8.1.Y,r14⟩:Jm) r12).bind λr16=>bif !(Qo r16.1 (⟨0,0,0,0⟩:Qd)) then(some ((⟨[],[]⟩:Jm),r16.1))else(some (r16.2.2.2.2.2.2.1,(⟨0,0,0,0⟩:Qd))))))
def Qmc(n:Nat)(x0:(List UInt8)):Option (Int):=(loopM (λ(s27:Int)=>bif decide (s27<(x0.length:Int)) then(jn (λ(j32:(Bool)->Option _)=>(getS x0 s27).bind λy35=>bif decide (y35<48) then(j32 true)else((getS x0 s27).bind λy37=>bif decide (57<y37) then(j32 true)else(j32 (decide (s27=(60:Int)))))) (λ(s34:Bool)=>bif s34 then(some (Lp.out (Lp.out (s27))))else(some (Lp.go (wrap64 (s27+(1:Int)))))))else(some (Lp.out (Lp.go ())))) n (0:Int)).bind (lpK λ(_:Unit)=>bif decide (x0=([]:List UInt8)) then(some (0:Int))else(some (-1:Int)))
def Qqt(n:Nat)(x0:(List Nat))(x1:Nat)(x2:Nat):Option ((List Nat)):=(mkM 4 (0:Nat) (wrap64 ((x0.length:Int)+(1:Int)))).bind λy1=>(Qec y1 (0:Int) x0 x1 x2).bind λr3=>(Wx n r3).bind λr5=>some r5
def Qjz(n:Nat)(x0:(List UInt8)):Option ((List Nat)×Qd):=(Qmc n x0).bind λr1=>bif decide ((0:Int)≤r1) then(some (([]:List Nat),(⟨(1:Int),0,0,r1⟩:Qd)))else((loopM (λ(s49:(List Nat)×Int)=>bif decide (s49.2<(x0.length:Int)) then((loopM (λ(s59:Int×Nat×Nat×Int)=>jn (λ(j60:(Bool)->Option _)=>bif decide (s59.2.2.2<(9:Int)) then(j60 (decide (s59.1<(x0.length:Int))))else(j60 false)) (λ(s62:Bool)=>bif s62 then((getS x0 s59.1).bind λy63=>(some (((((s59.2.1*10)%4294967296)+((y63+256 - 48)%256))%4294967296))).bind λz65=>some (Lp.go (wrap64 (s59.1+(1:Int)),z65,((s59.2.2.1*10)%4294967296),wrap64 (s59.2.2.2+(1:Int)))))else(some (Lp.out (s59.1,s59.2.1,s59.2.2.1))))) n (s49.2,0,1,(0:Int))).bind λ(t57:Int×Nat×Nat)=>(Qqt n s49.1 t57.2.2 t57.2.1).bind λr66=>some (Lp.go (r66,t57.1)))else(some (Lp.out s49.1))) n (([]:List Nat),(0:Int))).bind λ(t47:(List Nat))=>some (t47,(⟨0,0,0,0⟩:Qd)))
def Qng(n:Nat)(x0:Nat):Option ((List UInt8)):=(loopM (λ(s7:Nat×Qkh×Int)=>bif decide ((0:Int)≤s7.2.2) then((getI ([s7.2.1.a0,s7.2.1.a1,s7.2.1.a2,s7.2.1.a3,s7.2.1.a4,s7.2.1.a5,s7.2.1.a6,s7.2.1.a7,s7.2.1.a8]:List Nat) s7.2.2).bind λ_=>some (Lp.go ((s7.1 / 10),(Qt2 (List.set ([s7.2.1.a0,s7.2.1.a1,s7.2.1.a2,s7.2.1.a3,s7.2.1.a4,s7.2.1.a5,s7.2.1.a6,s7.2.1.a7,s7.2.1.a8]:List Nat) (Int.toNat s7.2.2) (((48+(s7.1%10))%4294967296)%256))),wrap64 (s7.2.2 - (1:Int)))))else(some (Lp.out s7.2.1))) n (x0,(⟨0,0,0,0,0,0,0,0,0⟩:Qkh),(8:Int))).bind λ(t5:Qkh)=>(some (([t5.a0,t5.a1,t5.a2,t5.a3,t5.a4,t5.a5,t5.a6,t5.a7,t5.a8]:List Nat))).bind λz10=>some (bS z10)
def Qj0(n:Nat)(x0:(List Nat)):Option ((List UInt8)):=(Qc6 n x0).bind λr1=>bif r1 then(some ([48]:List UInt8))else((loopM (λ(s23:(List Nat)×(List (List UInt8)))=>(Qc6 n s23.1).bind λr24=>bif !r24 then((Qhf n s23.1 1000000000).bind λr26=>(Qng n r26.2.1).bind λr28=>(appM 16 s23.2 ([r28]:List (List UInt8))).bind λy30=>some (Lp.go (r26.1,y30)))else(some (Lp.out s23.2))) n (x0,([]:List (List UInt8)))).bind λ(t21:(List (List UInt8)))=>(loopM (λ(s44:(List UInt8)×Int)=>bif decide ((0:Int)≤s44.2) then((getI t21 s44.2).bind λy45=>(appM 1 s44.1 y45).bind λy47=>some (Lp.go (y47,wrap64 (s44.2 - (1:Int)))))else(some (Lp.out s44.1))) n (([]:List UInt8),wrap64 ((t21.length:Int) - (1:Int)))).bind λ(t42:(List UInt8))=>(Qhx t42 ([48]:List UInt8)).bind λr49=>some r49)
def Jf(x0:Qc):Option (Qa):=some (⟨(⟨x0.Neg,x0.N⟩:Qf),x0.D⟩:Qa)
def Qw(n:Nat)(x0:(List Qc)):Option ((List Qa)):=(loopM (λ(s17:(List Qa)×Int)=>bif decide (s17.2<(x0.length:Int)) then((getI x0 s17.2).bind λy18=>(Jf y18).bind λr20=>(appM 56 s17.1 ([r20]:List Qa)).bind λy22=>some (Lp.go (y22,wrap64 (s17.2+(1:Int)))))else(some (Lp.out s17.1))) n (([]:List Qa),(0:Int))).bind λ(t15:(List Qa))=>some t15
def Qbr(n:Nat)(x0:(List (List Qc))):Option ((List (List Qa))):=(loopM (λ(s17:(List (List Qa))×Int)=>bif decide (s17.2<(x0.length:Int)) then((getI x0 s17.2).bind λy18=>(Qw n y18).bind λr20=>(appM 24 s17.1 ([r20]:List (List Qa))).bind λy22=>some (Lp.go (y22,wrap64 (s17.2+(1:Int)))))else(some (Lp.out s17.1))) n (([]:List (List Qa)),(0:Int))).bind λ(t15:(List (List Qa)))=>some t15
def Qbs(n:Nat)(x0:Jl):Option (Qm):=(appM 8 ([]:List Int) x0.Outs).bind λy1=>(loopM (λ(s19:(List Qs)×Int)=>bif decide (s19.2<(x0.Code.length:Int)) then((getI x0.Code s19.2).bind λy20=>(Jf y20.N).bind λr22=>(appM 80 s19.1 ([(⟨y20.Op,y20.A,y20.B,r22⟩:Qs)]:List Qs)).bind λy24=>some (Lp.go (y24,wrap64 (s19.2+(1:Int)))))else(some (Lp.out s19.1))) n (([]:List Qs),(0:Int))).bind λ(t17:(List Qs))=>some (⟨t17,y1,x0.Dim,x0.Par⟩:Qm)
def Qc8(n:Nat)(x0:Jd):Option (Qt):=(Qw n x0.C).bind λr1=>(Qbr n x0.A).bind λr3=>(Qw n x0.B).bind λr5=>(Qw n x0.E).bind λr7=>some (⟨x0.Name,r1,r3,r5,r7⟩:Qt)
def K1(x0:Qc)(x1:Int):Option (Bool):=jn (λ(j1:(Bool)->Option _)=>bif decide (x1<(x0.N.length:Int)) then ( j1 true) else ( j1 (decide (x1<(x0.D.length:Int))))) (λ(s3:Bool)=>some s3)
def Qu(n:Nat)(x0:(List Qc))(x1:Int)(x2:Int):Option (Bool):=(loopM (λ(s19:Int)=>jn (λ(j20:(Bool)->Option _)=>bif decide (s19<(x0.length:Int)) then(j20 (decide (s19<x1)))else(j20 false)) (λ(s22:Bool)=>bif s22 then((getI x0 s19).bind λy23=>(K1 y23 x2).bind λr25=>bif r25 then(some (Lp.out (Lp.out (true))))else(some (Lp.go (wrap64 (s19+(1:Int))))))else(some (Lp.out (Lp.go ()))))) n (0:Int)).bind (lpK λ(_:Unit)=>some (decide (x1<(x0.length:Int))))
def X8(n:Nat)(x0:J9):Option (Bool):=jn (λ(j7:(Bool)->Option _)=>(K1 x0.T (2:Int)).bind λr10=>bif r10 then(j7 true)else((K1 x0.H (2:Int)).bind λr12=>bif r12 then(j7 true)else((Qu n x0.Y (4:Int) (2:Int)).bind λr14=>j7 r14))) (λ(s9:Bool)=>some s9)
def X0(n:Nat)(x0:Qx):Option (Qh):=(Qbs n x0.Tape).bind λr1=>(Qc8 n x0.Scheme).bind λr3=>(Qw n x0.P).bind λr5=>some (⟨r1,r3,r5,x0.Bits⟩:Qh)
def Wn(n:Nat)(x0:Kt):Option (Bool):=jn (λ(j5:(Bool)->Option _)=>(Qu n x0.U (6:Int) (2:Int)).bind λr8=>bif r8 then(j5 true)else((Qu n x0.V (6:Int) (2:Int)).bind λr10=>j5 r10)) (λ(s7:Bool)=>some s7)
def Qa0(n:Nat)(x0:Jl)(x1:Int)(x2:Int):Option (Bool):=(loopM (λ(s19:Int)=>jn (λ(j20:(Bool)->Option _)=>bif decide (s19<(x0.Code.length:Int)) then(j20 (decide (s19<x1)))else(j20 false)) (λ(s22:Bool)=>bif s22 then((getI x0.Code s19).bind λy23=>(K1 y23.N x2).bind λr25=>bif r25 then(some (Lp.out (Lp.out (true))))else(some (Lp.go (wrap64 (s19+(1:Int))))))else(some (Lp.out (Lp.go ()))))) n (0:Int)).bind (lpK λ(_:Unit)=>jn (λ(j27:(Bool)->Option _)=>bif decide (x1<(x0.Code.length:Int)) then(j27 true)else(j27 (decide (x1<(x0.Outs.length:Int))))) (λ(s29:Bool)=>some s29))
def Qa1(n:Nat)(x0:Jd)(x1:Int)(x2:Int):Option (Bool):=jn (λ(j7:(Bool)->Option _)=>bif decide ((50:Int)<(x0.Name.length:Int)) then(j7 true)else(bif decide (x1<(x0.A.length:Int)) then(j7 true)else((Qu n x0.B x1 x2).bind λr10=>bif r10 then(j7 true)else((Qu n x0.C x1 x2).bind λr12=>bif r12 then(j7 true)else((Qu n x0.E x1 x2).bind λr14=>j7 r14))))) (λ(s9:Bool)=>bif s9 then(some true)else((loopM (λ(s28:Int)=>bif decide (s28<(x0.A.length:Int)) then((getI x0.A s28).bind λy29=>(Qu n y29 x1 x2).bind λr31=>bif r31 then(some (Lp.out (Lp.out (true))))else(some (Lp.go (wrap64 (s28+(1:Int))))))else(some (Lp.out (Lp.go ())))) n (0:Int)).bind (lpK λ(_:Unit)=>some false)))
def Xd(n:Nat)(x0:Qx)(x1:Int)(x2:Int)(x3:Int):Option (Bool):=jn (λ(j7:(Bool)->Option _)=>(Qa0 n x0.Tape x1 x3).bind λr10=>bif r10 then(j7 true)else((Qa1 n x0.Scheme x2 (4:Int)).bind λr12=>bif r12 then(j7 true)else((Qu n x0.P (6:Int) x3).bind λr14=>j7 r14))) (λ(s9:Bool)=>some s9)
def Qnh:Option (Qjb):=some (⟨([101,117,108,101,114,10,48,124,10,98,32,49]:List UInt8),([104,101,117,110,10,48,124,10,49,124,49,10,98,32,49,47,50,44,49,47,50,10,101,32,49,44,48]:List UInt8),([109,105,100,112,111,105,110,116,10,48,124,10,49,47,50,124,49,47,50,10,98,32,48,44,49,10,101,32,49,44,48]:List UInt8),([114,107,52,10,48,124,10,49,47,50,124,49,47,50,10,49,47,50,124,48,44,49,47,50,10,49,124,48,44,48,44,49,10,98,32,49,47,54,44,49,47,51,44,49,47,51,44,49,47,54]:List UInt8),([98,115,50,51,10,48,124,10,49,47,50,124,49,47,50,10,51,47,52,124,48,44,51,47,52,10,49,124,50,47,57,44,49,47,51,44,52,47,57,10,98,32,50,47,57,44,49,47,51,44,52,47,57,44,48,10,101,32,55,47,50,52,44,49,47,52,44,49,47,51,44,49,47,56]:List UInt8),([100,112,52,53,10,48,124,10,49,47,53,124,49,47,53,10,51,47,49,48,124,51,47,52,48,44,57,47,52,48,10,52,47,53,124,52,52,47,52,53,44,45,53,54,47,49,53,44,51,50,47,57,10,56,47,57,124,49,57,51,55,50,47,54,53,54,49,44,45,50,53,51,54,48,47,50,49,56,55,44,54,52,52,52,56,47,54,53,54,49,44,45,50,49,50,47,55,50,57,10,49,124,57,48,49,55,47,51,49,54,56,44,45,51,53,53,47,51,51,44,52,54,55,51,50,47,53,50,52,55,44,52,57,47,49,55,54,44,45,53,49,48,51,47,49,56,54,53,54,10,49,124,51,53,47,51,56,52,44,48,44,53,48,48,47,49,49,49,51,44,49,50,53,47,49,57,50,44,45,50,49,56,55,47,54,55,56,52,44,49,49,47,56,52,10,98,32,51,53,47,51,56,52,44,48,44,53,48,48,47,49,49,49,51,44,49,50,53,47,49,57,50,44,45,50,49,56,55,47,54,55,56,52,44,49,49,47,56,52,44,48,10,101,32,53,49,55,57,47,53,55,54,48,48,44,48,44,55,53,55,49,47,49,54,54,57,53,44,51,57,51,47,54,52,48,44,45,57,50,48,57,55,47,51,51,57,50,48,48,44,49,56,55,47,50,49,48,48,44,49,47,52,48]:List UInt8)⟩:Qjb)
def Qou(x0:(List UInt8)):Option ((List UInt8)):=(Qg4 x0 ([10]:List UInt8)).bind λr1=>some r1.1
def Qar(x0:J7):Option ((List UInt8)×Int×Bool×J7):=bif x0.over then(some (([]:List UInt8),x0.at_,false,x0))else((Qg4 x0.rest ([10]:List UInt8)).bind λr1=>jn (λ(j3:(J7)->Option _)=>bif r1.2.2 then(j3 (⟨r1.2.1,wrap64 ((wrap64 (x0.at_+(r1.1.length:Int)))+(1:Int)),!r1.2.2⟩:J7))else(j3 (⟨r1.2.1,wrap64 (x0.at_+(r1.1.length:Int)),!r1.2.2⟩:J7))) (λ(s5:J7)=>some (r1.1,x0.at_,true,s5)))
def Qdy(x0:J7)(x1:(List UInt8))(x2:Int):Option (J7):=(sub x1 x2 (x1.length:Int)).bind λy1=>some (⟨y1,x2,false⟩:J7)
def Zb(x0:(List UInt8))(x1:(List UInt8)):Option (Bool):=jn (λ(j3:(Bool)->Option _)=>bif decide ((x1.length:Int)≤(x0.length:Int)) then((sub x0 (0:Int) (x1.length:Int)).bind λy6=>j3 (decide (y6=x1)))else(j3 false)) (λ(s5:Bool)=>some s5)
def Qa8(x0:(List UInt8))(x1:(List UInt8)):Option ((List UInt8)×Bool):=(Zb x0 x1).bind λr1=>bif !r1 then(some (x0,false))else((sub x0 (x1.length:Int) (x0.length:Int)).bind λy3=>some (y3,true))
def Qdw(x0:(List UInt8))(x1:(List UInt8)):Option ((List UInt8)×Bool):=(Qa8 x0 x1).bind λr1=>some (r1.1,r1.2)
def Qov(n:Nat)(x0:(List UInt8)):Option (Qf×Qd):=(Qdw x0 ([45]:List UInt8)).bind λr1=>(Qjz n r1.1).bind λr3=>bif !(Qo r3.2 (⟨0,0,0,0⟩:Qd)) then(some ((⟨false,[]⟩:Qf),(⟨r3.2.Kind,r3.2.Step,r3.2.Stage,wrap64 (r3.2.At+(wrap64 ((x0.length:Int) - (r1.1.length:Int))))⟩:Qd)))else((Xg r1.2 r3.1).bind λr5=>some (r5,(⟨0,0,0,0⟩:Qd)))
def Qcs(n:Nat)(x0:(List UInt8))(x1:Int):Option ((List Nat)×Qd):=(sub x0 x1 (x0.length:Int)).bind λy1=>(Qjz n y1).bind λr3=>jn (λ(j5:(Qd)->Option _)=>bif !(Qo r3.2 (⟨0,0,0,0⟩:Qd)) then(j5 (⟨r3.2.Kind,r3.2.Step,r3.2.Stage,wrap64 (r3.2.At+x1)⟩:Qd))else(j5 r3.2)) (λ(s7:Qd)=>some (r3.1,s7))
def Qni(n:Nat)(x0:Qf)(x1:(List UInt8))(x2:Int):Option (Qa×Qd):=(Qcs n x1 x2).bind λr1=>bif !(Qo r1.2 (⟨0,0,0,0⟩:Qd)) then((Ju n (0:Int)).bind λr3=>some (r3,r1.2))else((Qlf n x0 r1.1).bind λr5=>bif !r5.2 then(some (r5.1,(⟨(2:Int),0,0,x2⟩:Qd)))else(some (r5.1,(⟨0,0,0,0⟩:Qd))))
def Qhn(x0:(List UInt8))(x1:(List UInt8)):Option (Bool):=(Zb x0 x1).bind λr1=>some r1
def Qnj(n:Nat)(x0:(List Nat)):Option ((List Nat)):=(mkM 4 (0:Nat) (wrap64 ((wrap64 ((2:Int)*(x0.length:Int)))+(1:Int)))).bind λy1=>(rangeL (λ(i21:Nat) (x22:Nat) (s20:(List Nat))=>(sub x0 (wrap64 ((i21:Int)+(1:Int))) (x0.length:Int)).bind λy24=>(Qec s20 (wrap64 ((wrap64 ((2:Int)*(i21:Int)))+(1:Int))) y24 x22 0).bind λr26=>some (Lp.go r26)) x0 0 y1).bind (lpK λ(s28:(List Nat))=>(Qh2 n s28 (1:Int)).bind λr29=>(mkM 4 (0:Nat) (wrap64 ((2:Int)*(x0.length:Int)))).bind λy31=>(rangeL (λ(i57:Nat) (x58:Nat) (s56:(List Nat))=>(Qc7 x58 x58 0 0).bind λr60=>(getI s56 (wrap64 ((wrap64 ((2:Int)*(i57:Int)))+(1:Int)))).bind λ_=>(some ((List.set s56 (Int.toNat (wrap64 ((wrap64 ((2:Int)*(i57:Int)))+(1:Int)))) r60.1))).bind λz64=>(getI z64 (wrap64 ((2:Int)*(i57:Int)))).bind λ_=>some (Lp.go (List.set z64 (Int.toNat (wrap64 ((2:Int)*(i57:Int)))) r60.2))) x0 0 y31).bind (lpK λ(s67:(List Nat))=>(Qh1 n ([r29,s67]:List (List Nat))).bind λr68=>some r68))
def Qsf(n:Nat)(x0:(List Nat))(x1:Int):Option ((List Nat)×Bool):=(Qeh n x0).bind λr1=>jn (λ(j4:(Bool)->Option _)=>bif decide (x1<(0:Int)) then(j4 true)else(bif decide ((1:Int)<r1) then((grd (r1 != 0)).bind λ_=>j4 (decide ((wrap64 (Int.tdiv (65536:Int) r1))<x1)))else(j4 false))) (λ(s6:Bool)=>bif s6 then(some (([]:List Nat),false))else((Qat n 1).bind λr8=>bif decide (r1<(2:Int)) then(jn (λ(j14:((List Nat))->Option _)=>bif decide ((0:Int)<x1) then((Wx n x0).bind λr17=>j14 r17)else(j14 r8)) (λ(s16:(List Nat))=>some (s16,true)))else((Qat n (Int.toNat (x1%18446744073709551616))).bind λr19=>(Qeh n r19).bind λr21=>(loopM (λ(s57:(List Nat)×Int)=>bif decide ((0:Int)≤s57.2) then(jn (λ(j64:((List Nat))->Option _)=>(Qnj n s57.1).bind λr67=>(grd (decide (0≤s57.2))).bind λ_=>(some (decide ((wrap64 (andZ (Int.fdiv x1 (2 ^ (min (Int.toNat s57.2) 64))) (1:Int)))=(1:Int)))).bind λz70=>bif z70 then((Qa6 n r67 x0).bind λr71=>j64 r71)else(j64 r67)) (λ(s66:(List Nat))=>some (Lp.go (s66,wrap64 (s57.2 - (1:Int))))))else(some (Lp.out s57.1))) n (r8,wrap64 (r21 - (1:Int)))).bind λ(t55:(List Nat))=>some (t55,true))))
def Qnk(n:Nat)(x0:Int):Option ((List Nat)):=(Qat n 10).bind λr1=>(Qsf n r1 x0).bind λr3=>some r3.1
def Qlh(n:Nat)(x0:Qf)(x1:Bool)(x2:(List UInt8))(x3:Int):Option (Qa×Qd):=(Qcs n x2 x3).bind λr1=>bif !(Qo r1.2 (⟨0,0,0,0⟩:Qd)) then((Ju n (0:Int)).bind λr3=>some (r3,r1.2))else((Qnk n (wrap64 ((x2.length:Int) - x3))).bind λr5=>(Qa6 n x0.Abs r5).bind λr7=>(Qh1 n ([r7,r1.1]:List (List Nat))).bind λr9=>(Qlf n (⟨x1,r9⟩:Qf) r5).bind λr11=>some (r11.1,(⟨0,0,0,0⟩:Qd)))
def Qj1(n:Nat)(x0:(List UInt8)):Option (Qa×Qd):=(Qhy x0 ([47,46]:List UInt8)).bind λr1=>jn (λ(j5:((List UInt8))->Option _)=>bif decide ((0:Int)≤r1) then((sub x0 (0:Int) r1).bind λy8=>j5 y8)else(j5 x0)) (λ(s7:(List UInt8))=>(Qov n s7).bind λr10=>bif !(Qo r10.2 (⟨0,0,0,0⟩:Qd)) then((Ju n (0:Int)).bind λr12=>some (r12,r10.2))else(bif decide (r1<(0:Int)) then((Qat n 1).bind λr14=>(Qlf n r10.1 r14).bind λr16=>some (r16.1,(⟨0,0,0,0⟩:Qd)))else((getS x0 r1).bind λy18=>bif decide (y18=47) then((Qni n r10.1 x0 (wrap64 (r1+(1:Int)))).bind λr20=>some (r20.1,r20.2))else((Qhn x0 ([45]:List UInt8)).bind λr22=>(Qlh n r10.1 r22 x0 (wrap64 (r1+(1:Int)))).bind λr24=>some (r24.1,r24.2)))))
def Qf4(x0:Qd)(x1:Int):Option (Qd):=jn (λ(j1:(Qd)->Option _)=>bif !(Qo x0 (⟨0,0,0,0⟩:Qd)) then ( j1 (⟨x0.Kind,x0.Step,x0.Stage,wrap64 (x0.At+x1)⟩:Qd)) else ( j1 x0)) (λ(s3:Qd)=>some s3)
def Qn2(n:Nat)(x0:(List UInt8)):Option ((List Qa)×Qd):=bif decide (x0=([]:List UInt8)) then(some (([]:List Qa),(⟨0,0,0,0⟩:Qd)))else((Qk4 x0 ([44]:List UInt8)).bind λr1=>(rangeL (λ(_:Nat) (x22:(List UInt8)) (s20:(List Qa)×Int)=>(Qj1 n x22).bind λr24=>bif !(Qo r24.2 (⟨0,0,0,0⟩:Qd)) then(some (Lp.out ((([]:List Qa),(⟨r24.2.Kind,r24.2.Step,r24.2.Stage,wrap64 (r24.2.At+s20.2)⟩:Qd)))))else((appM 56 s20.1 ([r24.1]:List Qa)).bind λy26=>some (Lp.go (y26,wrap64 (s20.2+(wrap64 ((x22.length:Int)+(1:Int)))))))) r1 0 (([]:List Qa),(0:Int))).bind (lpK λ(s28:(List Qa)×Int)=>some (s28.1,(⟨0,0,0,0⟩:Qd))))
def Qmd(n:Nat)(x0:(List UInt8))(x1:Int):Option (Qa×(List Qa)×Qd):=(Qg4 x0 ([124]:List UInt8)).bind λr1=>(Qj1 n r1.1).bind λr3=>bif !(Qo r3.2 (⟨0,0,0,0⟩:Qd)) then((Qf4 r3.2 x1).bind λr5=>some (r3.1,([]:List Qa),r5))else((Qn2 n r1.2.1).bind λr7=>(Qf4 r7.2 (wrap64 ((wrap64 (x1+(r1.1.length:Int)))+(1:Int)))).bind λr9=>some (r3.1,r7.1,r9))
def Qc9(n:Nat)(x0:J7)(x1:(List UInt8))(x2_Name:(List UInt8))(x2_C:(List Qa))(x2_A:(List (List Qa)))(x2_B:(List Qa))(x2_E:(List Qa)):Option (Qd×J7×(List UInt8)×(List Qa)×(List Qa)×(List Qa)×(List (List Qa))):=loopM (λ(s29:J7×(List Qa)×(List (List Qa)))=>(Qar s29.1).bind λr30=>bif !r30.2.2.1 then(some (Lp.out (((⟨0,0,0,0⟩:Qd),r30.2.2.2,x2_Name,x2_B,x2_E,s29.2.1,s29.2.2))))else((Qhz r30.1 ([124]:List UInt8)).bind λr32=>bif !r32 then((Qdy r30.2.2.2 x1 r30.2.1).bind λr34=>some (Lp.out (((⟨0,0,0,0⟩:Qd),r34,x2_Name,x2_B,x2_E,s29.2.1,s29.2.2))))else((Qmd n r30.1 r30.2.1).bind λr36=>bif !(Qo r36.2.2 (⟨0,0,0,0⟩:Qd)) then(some (Lp.out ((r36.2.2,r30.2.2.2,x2_Name,x2_B,x2_E,s29.2.1,s29.2.2))))else((appM 56 s29.2.1 ([r36.1]:List Qa)).bind λy38=>(appM 24 s29.2.2 ([r36.2.1]:List (List Qa))).bind λy40=>some (Lp.go (r30.2.2.2,y38,y40)))))) n (x0,x2_C,x2_A)
def Qa7(n:Nat)(x0:J7)(x1:(List UInt8)):Option ((List Qa)×Qd×J7):=(Qar x0).bind λr1=>(catS x1 ([32]:List UInt8)).bind λy3=>(Qdw r1.1 y3).bind λr5=>bif !r5.2 then(some (([]:List Qa),(⟨(1:Int),0,0,r1.2.1⟩:Qd),r1.2.2.2))else((Qn2 n r5.1).bind λr7=>(Qf4 r7.2 (wrap64 ((wrap64 (r1.2.1+(x1.length:Int)))+(1:Int)))).bind λr9=>some (r7.1,r9,r1.2.2.2))
def Qnl(n:Nat)(x0:(List UInt8)):Option (Qt×Qd):=(Qar (⟨x0,0,false⟩:J7)).bind λr1=>(Qhh n (⟨(2:Int),r1.1,0⟩:Qis)).bind λr3=>bif !r3 then(some ((⟨r1.1,([]:List Qa),([]:List (List Qa)),[],[]⟩:Qt),(⟨(1:Int),0,0,0⟩:Qd)))else((Qc9 n r1.2.2.2 x0 r1.1 ([]:List Qa) ([]:List (List Qa)) [] []).bind λr5=>bif !(Qo r5.1 (⟨0,0,0,0⟩:Qd)) then(some ((⟨r5.2.2.1,r5.2.2.2.2.2.1,r5.2.2.2.2.2.2,r5.2.2.2.1,r5.2.2.2.2.1⟩:Qt),r5.1))else((Qa7 n r5.2.1 ([98]:List UInt8)).bind λr7=>jn (λ(j9:(Bool)->Option _)=>bif !(Qo r7.2.1 (⟨0,0,0,0⟩:Qd)) then(j9 true)else(j9 r7.2.2.over)) (λ(s11:Bool)=>bif s11 then(some ((⟨r5.2.2.1,r5.2.2.2.2.2.1,r5.2.2.2.2.2.2,r7.1,r5.2.2.2.2.1⟩:Qt),r7.2.1))else((Qa7 n r7.2.2 ([101]:List UInt8)).bind λr12=>jn (λ(j14:(Bool)->Option _)=>bif !(Qo r12.2.1 (⟨0,0,0,0⟩:Qd)) then(j14 true)else(j14 r12.2.2.over)) (λ(s16:Bool)=>bif s16 then(some ((⟨r5.2.2.1,r5.2.2.2.2.2.1,r5.2.2.2.2.2.2,r7.1,r12.1⟩:Qt),r12.2.1))else(some ((⟨r5.2.2.1,r5.2.2.2.2.2.1,r5.2.2.2.2.2.2,r7.1,r12.1⟩:Qt),(⟨(1:Int),0,0,r12.2.2.at_⟩:Qd))))))))
def Qme(n:Nat)(x0:(List UInt8)):Option (Qt×Qd):=bif decide ((4000:Int)<(x0.length:Int)) then(some ((⟨[],[],[],[],[]⟩:Qt),(⟨(1:Int),0,0,(4000:Int)⟩:Qd)))else((Qnl n x0).bind λr1=>bif !(Qo r1.2 (⟨0,0,0,0⟩:Qd)) then(some ((⟨[],[],[],[],[]⟩:Qt),r1.2))else((Qdj n r1.1).bind λr3=>bif !decide (r3=(0:Int)) then(some ((⟨[],[],[],[],[]⟩:Qt),(⟨(2:Int),0,0,r3⟩:Qd)))else(some (r1.1,r1.2))))
def Qji(n:Nat)(x0:(List UInt8)):Option (Qt×Bool):=(Qnh).bind λr1=>(loopM (λ(s17:Int)=>bif decide (s17<(6:Int)) then((getI ([r1.a0,r1.a1,r1.a2,r1.a3,r1.a4,r1.a5]:List (List UInt8)) s17).bind λy18=>(Qou y18).bind λr20=>bif decide (r20=x0) then((Qme n y18).bind λr22=>some (Lp.out (Lp.out ((r22.1,true)))))else(some (Lp.go (wrap64 (s17+(1:Int))))))else(some (Lp.out (Lp.go ())))) n (0:Int)).bind (lpK λ(_:Unit)=>some ((⟨[],[],[],[],[]⟩:Qt),false))
def Qic(n:Nat)(x0:Int)(x1:Int):Option (Qa×Bool):=(Ju n x0).bind λr1=>(Ju n x1).bind λr3=>(Qai n r1 r3).bind λr5=>some (r5.1,r5.2)
def Qow(n:Nat)(x0:Qf):Option ((List UInt8)):=(Qj0 n x0.Abs).bind λr1=>(Qcl n x0).bind λr3=>bif decide (r3<(0:Int)) then ( (catS ([45]:List UInt8) r1).bind λy5=>some y5) else ( some r1)
def Qnm(n:Nat)(x0:Qa):Option ((List UInt8)):=(Vq n x0).bind λr1=>(Qow n r1.Num).bind λr3=>jn (λ(j15:((List UInt8))->Option _)=>(Qat n 1).bind λr18=>(Qdc n r1.Den r18).bind λr20=>bif !decide (r20=(0:Int)) then((Qj0 n r1.Den).bind λr22=>(catS ([47]:List UInt8) r22).bind λy24=>(catS r3 y24).bind λy26=>j15 y26)else(j15 r3)) (λ(s17:(List UInt8))=>some s17)
def Qiw(n:Nat)(x0:(List Qa)):Option ((List UInt8)):=(rangeL (λ(_:Nat) (x20:Qa) (s18:(List (List UInt8)))=>(Qnm n x20).bind λr22=>(appM 16 s18 ([r22]:List (List UInt8))).bind λy24=>some (Lp.go y24)) x0 0 ([]:List (List UInt8))).bind (lpK λ(s26:(List (List UInt8)))=>(Qma s26 ([44]:List UInt8)).bind λr27=>some r27)
def Vb(n:Nat):Option (Bool):=(some (([(⟨(3:Int),0,0,(⟨(⟨false,[]⟩:Qf),[]⟩:Qa)⟩:Qs),(⟨(4:Int),0,0,(⟨(⟨false,[]⟩:Qf),[]⟩:Qa)⟩:Qs),(⟨(9:Int),0,(1:Int),(⟨(⟨false,[]⟩:Qf),[]⟩:Qa)⟩:Qs)]:List Qs))).bind λz1=>(Qji n ([101,117,108,101,114]:List UInt8)).bind λr2=>(Qic n (1:Int) (2:Int)).bind λr4=>(Ju n (5:Int)).bind λr8=>(Ju n (0:Int)).bind λr22=>(Ju n (3:Int)).bind λr24=>(Ju n (2:Int)).bind λr26=>(Zk n (⟨(⟨z1,([(2:Int)]:List Int),(1:Int),(1:Int)⟩:Qm),r2.1,([r8]:List Qa),(100:Int)⟩:Qh) r22 r4.1 ([r24]:List Qa) ([r26]:List Qa)).bind λr28=>jn (λ(j34:(Bool)->Option _)=>bif r2.2 then(bif (Qo r28.2 (⟨0,0,0,0⟩:Qd)) then((Qiw n r28.1.Y).bind λr37=>bif decide (r37=([55]:List UInt8)) then((Qiw n r28.1.P).bind λr39=>j34 (decide (r39=([51]:List UInt8))))else(j34 false))else(j34 false))else(j34 false)) (λ(s36:Bool)=>some s36)
def Qt3(n:Nat)(x0:(List Qa))(x1:(List (List Qa)))(x2:Int):Option ((List Qa)×Bool):=jn (λ(j1:(Bool)->Option _)=>bif !decide ((x0.length:Int)=(x1.length:Int)) then(j1 true)else(bif decide (x2<(0:Int)) then(j1 true)else(j1 (decide ((300:Int)<x2))))) (λ(s3:Bool)=>bif s3 then(some (([]:List Qa),false))else((rangeL (λ(_:Nat) (x11:(List Qa)) (_:Unit)=>bif !decide ((x11.length:Int)=x2) then(some (Lp.out ((([]:List Qa),false))))else(some (Lp.go ()))) x1 0 ()).bind (lpK λ(_:Unit)=>(Y8 n x2).bind λr14=>(rangeL (λ(i108:Nat) (x109:(List Qa)) (s107:(List Qa))=>(getI x0 (i108:Int)).bind λy111=>(Zj n y111).bind λr113=>bif decide (r113=(0:Int)) then(some (Lp.go s107))else((rangeL (λ(i131:Nat) (x132:Qa) (s130:(List Qa))=>(getI s130 (i131:Int)).bind λy134=>(getI x0 (i108:Int)).bind λy136=>(Vj n y136 x132).bind λr138=>(Wf n y134 r138).bind λr140=>(getI s130 (i131:Int)).bind λ_=>some (Lp.go (List.set s130 (Int.toNat (i131:Int)) r140))) x109 0 s107).bind (lpK λ(s144:(List Qa))=>some (Lp.go s144)))) x1 0 r14).bind (lpK λ(s145:(List Qa))=>some (s145,true)))))
end Go.Proofs.YtlfphifbmoccgaaGreatDoor
