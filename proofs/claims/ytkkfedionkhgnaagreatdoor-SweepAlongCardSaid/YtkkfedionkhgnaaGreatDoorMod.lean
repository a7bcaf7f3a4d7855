import Derived.Test.YtkkfedionkhgnaaGreatDoorLibM
set_option maxRecDepth 100000
set_option maxHeartbeats 4000000
namespace Go.Proofs.YtkkfedionkhgnaaGreatDoor
open Go Go.RowKit
structure Qg where
 Neg:Bool
 Az:(List Nat)
structure Qa where
 Num:Qg
 Den:(List Nat)
structure Qt where
 Op:Int
 A:Int
 B:Int
 N:Qa
structure Ql where
 Code:(List Qt)
 Ar:(List Int)
 Au:Int
 Ay:Int
structure Qv where
 Name:(List UInt8)
 C:(List Qa)
 A:(List (List Qa))
 B:(List Qa)
 E:(List Qa)
structure Qf where
 Tape:Ql
 An:Qv
 P:(List Qa)
 Ap:Int
structure Qtc where
 Tol:Qa
 Safe:Qa
 Low:Qa
 High:Qa
 Least:Qa
 Fine:Int
 Most:Int
structure Qy where
 T:Qa
 Av:Qa
 H:Qa
 A1:Qa
 Y:(List Qa)
 Ok:Bool
structure Qc where
 Aq:Int
 Step:Int
 Ax:Int
 At:Int
structure Q4 where
 Ys:(List (List Qa))
 Ks:(List (List Qa))
 A0:(List Qa)
 A1:(List Qa)
structure K7 where
 op:Int
 a:Int
 b:Int
def Qba(x y:K7):Bool:=((x.op == y.op) && ((x.a == y.a) && ((x.b == y.b) && true)))
structure Qh6 where
 Aq:Int
 Text:(List UInt8)
 At:Int
structure Qaa where
 Seen:Int
 Peak:Int
structure Qh where
 Count:Qaa
 limit:Int
def Qo(x y:Qc):Bool:=((x.Aq == y.Aq) && ((x.Step == y.Step) && ((x.Ax == y.Ax) && ((x.At == y.At) && true))))
structure Va where
 T:Qa
 Y:(List Qa)
 P:(List Qa)
structure X4 where
 T:Qa
 Y:(List Qa)
 P:(List Qa)
structure Jk where
 Y:(List Qa)
 P:(List Qa)
structure Vb where
 T:Qa
 Y:(List Qa)
 P:(List Qa)
structure Qu where
 From:Int
 To:Int
structure K3 where
 Every:Int
 Aw:(List Qa)
 Ts:(List Qa)
 Ys:(List (List Qa))
structure Qcd where
 l:(List Qu)
structure Ju where
 A0:(List Qa)
 A1:(List Qa)
 Made:Q4
structure Qw where
 V:Qa
 D:Qa
structure X5 where
 T:Qw
 Y:(List Qw)
 P:(List Qw)
structure Qs where
 Ao:(List Qy)
 T:Qa
 Y:(List Qa)
structure Qjy where
 a0:Nat
 a1:Nat
 a2:Nat
 a3:Nat
 a4:Nat
 a5:Nat
 a6:Nat
 a7:Nat
 a8:Nat
def Qtd:List Nat->Qjy
 | [a0,a1,a2,a3,a4,a5,a6,a7,a8]=>⟨a0,a1,a2,a3,a4,a5,a6,a7,a8⟩
 | _=>(⟨0,0,0,0,0,0,0,0,0⟩:Qjy)
structure Yz where
 Y:(List (List Qa))
 P:(List (List Qa))
structure Qe where
 Neg:Bool
 N:(List Nat)
 D:(List Nat)
structure Q9 where
 Op:Int
 A:Int
 B:Int
 N:Qe
structure Jv where
 Code:(List Q9)
 Ar:(List Int)
 Au:Int
 Ay:Int
structure Jn where
 Name:(List UInt8)
 C:(List Qe)
 A:(List (List Qe))
 B:(List Qe)
 E:(List Qe)
structure Qwg where
 a0:Int
 a1:Int
 a2:Int
structure J7 where
 T:Qe
 H:Qe
 Y:(List Qe)
structure Qz where
 Tape:Jv
 An:Jn
 P:(List Qe)
 Ap:Int
structure Kb where
 U:(List Qe)
 V:(List Qe)
structure Qiu where
 a0:(List UInt8)
 a1:(List UInt8)
 a2:(List UInt8)
 a3:(List UInt8)
 a4:(List UInt8)
 a5:(List UInt8)
structure J5 where
 rest:(List UInt8)
 at_:Int
 over:Bool
structure Qbe where
 Aq:Int
 Text:(List UInt8)
 At:Int
structure Qc6 where
 Neg:Bool
 Az:(List Nat)
structure Qeg where
 Ys:(List (List Qe))
 Ks:(List (List Qe))
 A0:(List Qe)
 A1:(List Qe)
structure Qc7 where
 T:Qe
 Y:(List Qe)
 P:(List Qe)
structure Qeh where
 Y:(List Qe)
 P:(List Qe)
structure Qei where
 T:Qe
 Y:(List Qe)
 P:(List Qe)
structure Jr where
 T:Qe
 Av:Qe
 H:Qe
 A1:Qe
 Y:(List Qe)
 Ok:Bool
structure Qwh where
 a0:Int
 a1:Int
 a2:Int
 a3:Int
structure Kd where
 Kept:Int
 A2:Int
 Most:Int
structure Qej where
 Every:Int
 Aw:(List Qe)
 Ts:(List Qe)
 Ys:(List (List Qe))
structure Qek where
 Y:(List (List Qe))
 P:(List (List Qe))
def Qlv(xs:List Nat):Prop:=xs.length≤maxLen∧∀ x∈xs,(x<4294967296)
def J8(x:Qe):Prop:=True∧Qlv x.N∧Qlv x.D∧True
def Ym(x:Q9):Prop:=(-9223372036854775808≤x.Op∧x.Op≤9223372036854775807)∧(-9223372036854775808≤x.A∧x.A≤9223372036854775807)∧(-9223372036854775808≤x.B∧x.B≤9223372036854775807)∧J8 x.N∧True
def Xo(xs:List Q9):Prop:=xs.length≤maxLen∧∀ x∈xs,Ym x
def Qnu(xs:List Int):Prop:=xs.length≤maxLen∧∀ x∈xs,(-9223372036854775808≤x∧x≤9223372036854775807)
def Yn(x:Jv):Prop:=Xo x.Code∧Qnu x.Ar∧(-9223372036854775808≤x.Au∧x.Au≤9223372036854775807)∧(-9223372036854775808≤x.Ay∧x.Ay≤9223372036854775807)∧True
def Jf(xs:List Qe):Prop:=xs.length≤maxLen∧∀ x∈xs,J8 x
def W6(xs:List (List Qe)):Prop:=xs.length≤maxLen∧∀ x∈xs,Jf x
def Xp(x:Jn):Prop:=(x.Name.length≤maxLen)∧Jf x.C∧W6 x.A∧Jf x.B∧Jf x.E∧True
def Vr(x:Qz):Prop:=Yn x.Tape∧Xp x.An∧Jf x.P∧(-9223372036854775808≤x.Ap∧x.Ap≤9223372036854775807)∧True
def Yo(x:J7):Prop:=J8 x.T∧J8 x.H∧Jf x.Y∧True
def Zh(x:Kb):Prop:=Jf x.U∧Jf x.V∧True
def Yb(n:Nat)(x0:(List Nat)):Option ((List Nat)):=(loopM (λ(s19:Int)=>jn (λ(j22:(Bool)->Option _)=>bif decide ((0:Int)<s19) then((getI x0 (wrap64 (s19 - (1:Int)))).bind λy25=>j22 (decide (y25=0)))else(j22 false)) (λ(s24:Bool)=>bif s24 then(some (Lp.go (wrap64 (s19 - (1:Int)))))else(some (Lp.out s19)))) n (x0.length:Int)).bind λ(t17:Int)=>(sub x0 (0:Int) t17).bind λy27=>some y27
def Qce(n:Nat)(x0:(List Nat)):Option (Bool):=(Yb n x0).bind λr1=>some (decide ((r1.length:Int)=(0:Int)))
def Zt(n:Nat)(x0:Nat):Option ((List Nat)):=(Yb n ([(x0%4294967296),((x0 / 2 ^ 32)%4294967296)]:List Nat)).bind λr1=>some r1
def V9(n:Nat)(x0:Qa):Option (Qg×(List Nat)):=(Qce n x0.Den).bind λr1=>bif r1 then ( (Zt n 1).bind λr3=>some ((⟨false,[]⟩:Qg),r3)) else ( some (x0.Num,x0.Den))
def Qcf(x0:Nat)(x1:Nat)(x2:Nat)(x3:Nat):Option (Nat×Nat):=(some (((((((x0*x1)%18446744073709551616)+x2)%18446744073709551616)+x3)%18446744073709551616))).bind λz1=>some (((z1 / 2 ^ 32)%4294967296),(z1%4294967296))
def Qdn(x0:(List Nat))(x1:Int)(x2:(List Nat))(x3:Nat)(x4:Nat):Option ((List Nat)):=(rangeL (λ(i23:Nat) (x24:Nat) (s22:(List Nat)×Nat)=>(getI s22.1 (wrap64 (x1+(i23:Int)))).bind λy26=>(Qcf x3 x24 y26 s22.2).bind λr28=>(getI s22.1 (wrap64 (x1+(i23:Int)))).bind λ_=>some (Lp.go ((List.set s22.1 (Int.toNat (wrap64 (x1+(i23:Int)))) r28.2),r28.1))) x2 0 (x0,x4)).bind (lpK λ(s32:(List Nat)×Nat)=>(getI s32.1 (wrap64 (x1+(x2.length:Int)))).bind λ_=>some (List.set s32.1 (Int.toNat (wrap64 (x1+(x2.length:Int)))) s32.2))
def Qel(x0:(List Nat))(x1:Int):Option ((List Nat)):=(mkM 4 (0:Nat) (wrap64 ((x0.length:Int)+x1))).bind λy1=>some (cpyL y1 x0)
def Wc(n:Nat)(x0:(List Nat)):Option ((List Nat)):=(Yb n x0).bind λr1=>(Qel r1 (0:Int)).bind λr3=>some r3
def Qab(n:Nat)(x0:(List Nat))(x1:(List Nat)):Option ((List Nat)):=(mkM 4 (0:Nat) (wrap64 ((wrap64 ((x0.length:Int)+(x1.length:Int)))+(1:Int)))).bind λy1=>(rangeL (λ(i17:Nat) (x18:Nat) (s16:(List Nat))=>(Qdn s16 (i17:Int) x0 x18 0).bind λr20=>some (Lp.go r20)) x1 0 y1).bind (lpK λ(s22:(List Nat))=>(Wc n s22).bind λr23=>some r23)
def Ws(x0:Bool)(x1:(List Nat)):Option (Qg):=jn (λ(j1:(Qg)->Option _)=>bif x0 then ( j1 (⟨decide ((0:Int)<(x1.length:Int)),x1⟩:Qg)) else ( j1 (⟨false,x1⟩:Qg))) (λ(s3:Qg)=>some s3)
def Qgn(n:Nat)(x0:Qg)(x1:Qg):Option (Qg):=(Qab n x0.Az x1.Az).bind λr1=>(Ws (x0.Neg != x1.Neg) r1).bind λr3=>some r3
def Za(n:Nat)(x0:Qg)(x1:(List Nat)):Option (Qg):=(Qgn n x0 (⟨false,x1⟩:Qg)).bind λr1=>some r1
def Qgo(n:Nat)(x0:Qg):Option (Qg):=(Wc n x0.Az).bind λr3=>(Ws (!x0.Neg) r3).bind λr5=>some r5
def Zi(x0:Nat)(x1:Nat)(x2:Nat):Option (Nat×Nat):=jn (λ(j1:(Nat)->Option _)=>bif decide (((x0+x1)%4294967296)<x0) then(j1 ((0+1)%4294967296))else(j1 0)) (λ(s3:Nat)=>jn (λ(j4:(Nat)->Option _)=>bif decide (((((x0+x1)%4294967296)+x2)%4294967296)<x2) then(j4 ((s3+1)%4294967296))else(j4 s3)) (λ(s6:Nat)=>some (((((x0+x1)%4294967296)+x2)%4294967296),s6)))
def Qf0(n:Nat)(x0:(List Nat))(x1:(List Nat)):Option ((List Nat)):=jn (λ(j1:((List Nat)×(List Nat))->Option _)=>bif decide ((x0.length:Int)<(x1.length:Int)) then(j1 (x1,x0))else(j1 (x0,x1))) (λ(s3:(List Nat)×(List Nat))=>(Qel s3.1 (1:Int)).bind λr4=>(rangeL (λ(i38:Nat) (x39:Nat) (s37:(List Nat)×Nat)=>jn (λ(j43:(Nat)->Option _)=>bif decide ((i38:Int)<(s3.2.length:Int)) then((getI s3.2 (i38:Int)).bind λy46=>j43 y46)else(j43 0)) (λ(s45:Nat)=>(Zi x39 s45 s37.2).bind λr48=>(getI s37.1 (i38:Int)).bind λ_=>some (Lp.go ((List.set s37.1 (Int.toNat (i38:Int)) r48.1),r48.2)))) s3.1 0 (r4,0)).bind (lpK λ(s52:(List Nat)×Nat)=>(getI s52.1 (s3.1.length:Int)).bind λ_=>(Yb n (List.set s52.1 (Int.toNat (s3.1.length:Int)) s52.2)).bind λr55=>some r55))
def Qhd(n:Nat)(x0:(List (List Nat))):Option ((List Nat)):=(rangeL (λ(_:Nat) (x20:(List Nat)) (s18:(List Nat))=>(Yb n x20).bind λr22=>(Qf0 n s18 r22).bind λr24=>some (Lp.go r24)) x0 0 ([]:List Nat)).bind (lpK λ(s26:(List Nat))=>some s26)
def Qcl(n:Nat)(x0:(List Nat))(x1:(List Nat)):Option (Int):=(Yb n x0).bind λr1=>(Yb n x1).bind λr3=>bif decide ((r1.length:Int)<(r3.length:Int)) then(some (-1:Int))else(bif decide ((r3.length:Int)<(r1.length:Int)) then(some (1:Int))else((loopM (λ(s25:Int)=>bif decide ((0:Int)≤s25) then((getI r1 s25).bind λy26=>(getI r3 s25).bind λy28=>bif decide (y26<y28) then(some (Lp.out (Lp.out ((-1:Int)))))else((getI r1 s25).bind λy30=>(getI r3 s25).bind λy32=>bif decide (y32<y30) then(some (Lp.out (Lp.out ((1:Int)))))else(some (Lp.go (wrap64 (s25 - (1:Int)))))))else(some (Lp.out (Lp.go ())))) n (wrap64 ((r1.length:Int) - (1:Int)))).bind (lpK λ(_:Unit)=>some (0:Int))))
def Qf1(x0:Nat)(x1:Nat)(x2:Nat):Option (Nat×Nat):=jn (λ(j1:(Nat)->Option _)=>bif decide (x0<x1) then(j1 ((0+1)%4294967296))else(j1 0)) (λ(s3:Nat)=>jn (λ(j4:(Nat)->Option _)=>bif decide (((x0+4294967296 - x1)%4294967296)<x2) then(j4 ((s3+1)%4294967296))else(j4 s3)) (λ(s6:Nat)=>(some (((((x0+4294967296 - x1)%4294967296)+4294967296 - x2)%4294967296))).bind λz7=>some (z7,s6)))
def Qml(n:Nat)(x0:(List Nat))(x1:(List Nat)):Option ((List Nat)×Bool):=(Yb n x0).bind λr1=>(Yb n x1).bind λr3=>(Qcl n r1 r3).bind λr5=>bif decide (r5<(0:Int)) then(some (([]:List Nat),false))else((Qel r1 (0:Int)).bind λr7=>(rangeL (λ(i41:Nat) (x42:Nat) (s40:(List Nat)×Nat)=>jn (λ(j46:(Nat)->Option _)=>bif decide ((i41:Int)<(r3.length:Int)) then((getI r3 (i41:Int)).bind λy49=>j46 y49)else(j46 0)) (λ(s48:Nat)=>(Qf1 x42 s48 s40.2).bind λr51=>(getI s40.1 (i41:Int)).bind λ_=>some (Lp.go ((List.set s40.1 (Int.toNat (i41:Int)) r51.1),r51.2)))) r1 0 (r7,0)).bind (lpK λ(s55:(List Nat)×Nat)=>(Yb n s55.1).bind λr56=>some (r56,true)))
def Qmm(n:Nat)(x0:(List Nat))(x1:(List Nat)):Option ((List Nat)×Int):=(Qcl n x0 x1).bind λr1=>jn (λ(j3:((List Nat)×(List Nat))->Option _)=>bif decide (r1<(0:Int)) then(j3 (x1,x0))else(j3 (x0,x1))) (λ(s5:(List Nat)×(List Nat))=>(Qml n s5.1 s5.2).bind λr6=>some (r6.1,r1))
def Qgp(n:Nat)(x0:Qg)(x1:Qg):Option (Qg):=bif (x0.Neg == x1.Neg) then((Qhd n ([x0.Az,x1.Az]:List (List Nat))).bind λr1=>(Ws x0.Neg r1).bind λr3=>some r3)else((Qmm n x0.Az x1.Az).bind λr5=>bif decide (r5.2<(0:Int)) then((Ws x1.Neg r5.1).bind λr7=>some r7)else((Ws x0.Neg r5.1).bind λr9=>some r9))
def Qgq(n:Nat)(x0:Qg)(x1:Qg):Option (Qg):=(Qgo n x1).bind λr1=>(Qgp n x0 r1).bind λr3=>some r3
def Qdo(x0:Nat)(x1:Nat)(x2:Nat):Option (Nat×Nat×Bool):=bif decide (x2≤x0) then(some (0,0,false))else((grd (x2 != 0)).bind λ_=>(grd (x2 != 0)).bind λ_=>some ((((((x0*2 ^ 32)%18446744073709551616) ||| x1) / x2)%4294967296),(((((x0*2 ^ 32)%18446744073709551616) ||| x1)%x2)%4294967296),true))
def Qgr(n:Nat)(x0:(List Nat))(x1:Nat):Option ((List Nat)×Nat×Bool):=bif decide (x1=0) then(some (([]:List Nat),0,false))else((mkM 4 (0:Nat) (x0.length:Int)).bind λy1=>(loopM (λ(s20:(List Nat)×Nat×Int)=>bif decide ((0:Int)≤s20.2.2) then((getI x0 s20.2.2).bind λy21=>(Qdo s20.2.1 y21 x1).bind λr23=>(getI s20.1 s20.2.2).bind λ_=>some (Lp.go ((List.set s20.1 (Int.toNat s20.2.2) r23.1),r23.2.1,wrap64 (s20.2.2 - (1:Int)))))else(some (Lp.out (s20.1,s20.2.1)))) n (y1,0,wrap64 ((x0.length:Int) - (1:Int)))).bind λ(t18:(List Nat)×Nat)=>(Wc n t18.1).bind λr27=>some (r27,t18.2,true))
def Qh7(n:Nat)(x0:Nat):Option (Int):=(loopM (λ(s15:Nat×Int×Int)=>bif decide ((0:Int)<s15.2.2) then(jn (λ(j18:(Nat×Int)->Option _)=>(grd (decide (0≤s15.2.2))).bind λ_=>bif !decide ((s15.1 / 2 ^ (min (Int.toNat s15.2.2) 32))=0) then((grd (decide (0≤s15.2.2))).bind λ_=>j18 ((s15.1 / 2 ^ (min (Int.toNat s15.2.2) 32)),wrap64 (s15.2.1+s15.2.2)))else(j18 (s15.1,s15.2.1))) (λ(s20:Nat×Int)=>some (Lp.go (s20.1,s20.2,wrap64 (Int.tdiv s15.2.2 (2:Int))))))else(some (Lp.out (s15.1,s15.2.1)))) n (x0,(0:Int),(16:Int))).bind λ(t13:Nat×Int)=>some (wrap64 (t13.2+(t13.1:Int)))
def Qhe(n:Nat)(x0:(List Nat))(x1:Int):Option ((List Nat)):=(some (wrap64 ((wrap64 (Int.tdiv (min (max x1 (0:Int)) (4096:Int)) (32:Int)))+(x0.length:Int)))).bind λz1=>(mkM 4 (0:Nat) (wrap64 (z1+(1:Int)))).bind λy2=>(rangeL (λ(i36:Nat) (x37:Nat) (s35:(List Nat))=>(grd (decide (0≤Int.tmod (min (max x1 (0:Int)) (4096:Int)) (32:Int)))).bind λ_=>(some (((x37*2 ^ (min (Int.toNat (Int.tmod (min (max x1 (0:Int)) (4096:Int)) (32:Int))) 64))%18446744073709551616))).bind λz40=>(some (wrap64 ((wrap64 (Int.tdiv (min (max x1 (0:Int)) (4096:Int)) (32:Int)))+(i36:Int)))).bind λz41=>(getI s35 z41).bind λy42=>(getI s35 z41).bind λ_=>(some (wrap64 ((wrap64 (Int.tdiv (min (max x1 (0:Int)) (4096:Int)) (32:Int)))+(i36:Int)))).bind λz46=>(getI (List.set s35 (Int.toNat z41) (y42 ||| (z40%4294967296))) (wrap64 (z46+(1:Int)))).bind λ_=>(some ((List.set (List.set s35 (Int.toNat z41) (y42 ||| (z40%4294967296))) (Int.toNat (wrap64 (z46+(1:Int)))) ((z40 / 2 ^ 32)%4294967296)))).bind λz49=>some (Lp.go z49)) x0 0 y2).bind (lpK λ(s50:(List Nat))=>(Wc n s50).bind λr51=>some r51)
def Qfd(n:Nat)(x0:Nat)(x1:Nat)(x2:Nat)(x3:Nat)(x4:Nat):Option (Nat):=(Qdo x0 x1 x3).bind λr1=>jn (λ(j8:(Nat×Nat)->Option _)=>bif !r1.2.2 then((Zi x1 x3 0).bind λr11=>jn (λ(j13:(Bool)->Option _)=>bif decide (x3<x0) then(j13 true)else(j13 (decide (0<r11.2)))) (λ(s15:Bool)=>bif s15 then(some 4294967295)else(j8 (4294967295,r11.1))))else(j8 (r1.1,r1.2.1))) (λ(s10:Nat×Nat)=>(loopM (λ(s34:Nat×Nat)=>(Qcf s34.1 x4 0 0).bind λr35=>jn (λ(j37:(Bool)->Option _)=>bif decide (r35.1<s34.2) then(j37 true)else(bif decide (r35.1=s34.2) then(j37 (decide (r35.2≤x2)))else(j37 false))) (λ(s39:Bool)=>bif s39 then(some (Lp.out s34.1))else((Zi s34.2 x3 0).bind λr40=>bif decide (0<r40.2) then(some (Lp.out ((s34.1+4294967296 - 1)%4294967296)))else(some (Lp.go (((s34.1+4294967296 - 1)%4294967296),r40.1)))))) n (s10.1,s10.2)).bind λ(t32:Nat)=>some t32)
def Qcm(x0:(List Nat))(x1:Int)(x2:(List Nat))(x3:Nat):Option (Bool×(List Nat)):=(rangeL (λ(i27:Nat) (x28:Nat) (s26:(List Nat)×Nat×Nat)=>(Qcf x3 x28 s26.2.1 0).bind λr30=>(getI s26.1 (wrap64 (x1+(i27:Int)))).bind λy32=>(Qf1 y32 r30.2 s26.2.2).bind λr34=>(getI s26.1 (wrap64 (x1+(i27:Int)))).bind λ_=>some (Lp.go ((List.set s26.1 (Int.toNat (wrap64 (x1+(i27:Int)))) r34.1),r30.1,r34.2))) x2 0 (x0,0,0)).bind (lpK λ(s38:(List Nat)×Nat×Nat)=>(getI s38.1 (wrap64 (x1+(x2.length:Int)))).bind λy39=>(Qf1 y39 s38.2.1 s38.2.2).bind λr41=>(getI s38.1 (wrap64 (x1+(x2.length:Int)))).bind λ_=>some (decide (0<r41.2),(List.set s38.1 (Int.toNat (wrap64 (x1+(x2.length:Int)))) r41.1)))
def Qem(x0:(List Nat))(x1:Int)(x2:(List Nat)):Option ((List Nat)):=(rangeL (λ(i23:Nat) (x24:Nat) (s22:(List Nat)×Nat)=>(getI s22.1 (wrap64 (x1+(i23:Int)))).bind λy26=>(Zi y26 x24 s22.2).bind λr28=>(getI s22.1 (wrap64 (x1+(i23:Int)))).bind λ_=>some (Lp.go ((List.set s22.1 (Int.toNat (wrap64 (x1+(i23:Int)))) r28.1),r28.2))) x2 0 (x0,0)).bind (lpK λ(s32:(List Nat)×Nat)=>(getI s32.1 (wrap64 (x1+(x2.length:Int)))).bind λy33=>(getI s32.1 (wrap64 (x1+(x2.length:Int)))).bind λ_=>(some ((List.set s32.1 (Int.toNat (wrap64 (x1+(x2.length:Int)))) ((y33+s32.2)%4294967296)))).bind λz37=>some z37)
def Qiv(n:Nat)(x0:(List Nat))(x1:(List Nat)):Option ((List Nat)×(List Nat)):=(mkM 4 (0:Nat) (wrap64 ((x0.length:Int) - (x1.length:Int)))).bind λy1=>(loopM (λ(s60:(List Nat)×(List Nat)×Int)=>bif decide ((0:Int)≤s60.2.2) then((getI s60.1 (wrap64 (s60.2.2+(x1.length:Int)))).bind λy61=>(getI s60.1 (wrap64 ((wrap64 (s60.2.2+(x1.length:Int))) - (1:Int)))).bind λy63=>(getI s60.1 (wrap64 ((wrap64 (s60.2.2+(x1.length:Int))) - (2:Int)))).bind λy65=>(getI x1 (wrap64 ((x1.length:Int) - (1:Int)))).bind λy67=>(getI x1 (wrap64 ((x1.length:Int) - (2:Int)))).bind λy69=>(Qfd n y61 y63 y65 y67 y69).bind λr71=>jn (λ(j77:((List Nat)×Nat)->Option _)=>(Qcm s60.1 s60.2.2 x1 r71).bind λr80=>bif r80.1 then((Qem r80.2 s60.2.2 x1).bind λr82=>j77 (r82,((r71+4294967296 - 1)%4294967296)))else(j77 (r80.2,r71))) (λ(s79:(List Nat)×Nat)=>(getI s60.2.1 s60.2.2).bind λ_=>some (Lp.go (s79.1,(List.set s60.2.1 (Int.toNat s60.2.2) s79.2),wrap64 (s60.2.2 - (1:Int))))))else(some (Lp.out (s60.1,s60.2.1)))) n (x0,y1,wrap64 ((y1.length:Int) - (1:Int)))).bind λ(t58:(List Nat)×(List Nat))=>some (t58.2,t58.1)
def Qiw(n:Nat)(x0:(List Nat))(x1:Int):Option ((List Nat)):=(some (decide ((x0.length:Int)≤(wrap64 (Int.tdiv (max x1 (0:Int)) (32:Int)))))).bind λz1=>bif z1 then(some ([]:List Nat))else((some (wrap64 ((x0.length:Int) - (wrap64 (Int.tdiv (max x1 (0:Int)) (32:Int)))))).bind λz2=>(mkM 4 (0:Nat) z2).bind λy3=>(rangeL (λ(i49:Nat) (_:Nat) (s48:(List Nat))=>(some (wrap64 ((wrap64 (Int.tdiv (max x1 (0:Int)) (32:Int)))+(i49:Int)))).bind λz52=>(getI x0 z52).bind λy53=>jn (λ(j59:(Nat)->Option _)=>(some (wrap64 ((wrap64 (Int.tdiv (max x1 (0:Int)) (32:Int)))+(i49:Int)))).bind λz62=>bif decide ((wrap64 (z62+(1:Int)))<(x0.length:Int)) then((some (wrap64 ((wrap64 (Int.tdiv (max x1 (0:Int)) (32:Int)))+(i49:Int)))).bind λz63=>(getI x0 (wrap64 (z63+(1:Int)))).bind λy64=>j59 (y53 ||| ((y64*2 ^ 32)%18446744073709551616)))else(j59 y53)) (λ(s61:Nat)=>(grd (decide (0≤Int.tmod (max x1 (0:Int)) (32:Int)))).bind λ_=>(some ((s61 / 2 ^ (min (Int.toNat (Int.tmod (max x1 (0:Int)) (32:Int))) 64)))).bind λz67=>(getI s48 (i49:Int)).bind λ_=>some (Lp.go (List.set s48 (Int.toNat (i49:Int)) (z67%4294967296))))) y3 0 y3).bind (lpK λ(s70:(List Nat))=>(Wc n s70).bind λr71=>some r71))
def Qdp(n:Nat)(x0:(List Nat))(x1:(List Nat)):Option ((List Nat)×(List Nat)×Bool):=(Wc n x1).bind λr1=>bif decide ((r1.length:Int)=(0:Int)) then(some (([]:List Nat),([]:List Nat),false))else((Qcl n x0 r1).bind λr3=>bif decide (r3<(0:Int)) then((Wc n x0).bind λr5=>some (([]:List Nat),r5,true))else(bif decide ((r1.length:Int)=(1:Int)) then((getI r1 (0:Int)).bind λy7=>(Qgr n x0 y7).bind λr9=>(Zt n r9.2.1).bind λr11=>some (r9.1,r11,true))else((getI r1 (wrap64 ((r1.length:Int) - (1:Int)))).bind λy13=>(Qh7 n y13).bind λr15=>(Qhe n x0 (wrap64 ((32:Int) - r15))).bind λr17=>(appM 4 r17 ([0]:List Nat)).bind λy19=>(Qhe n r1 (wrap64 ((32:Int) - r15))).bind λr21=>(Qiv n y19 r21).bind λr23=>(Wc n r23.1).bind λr25=>(Qiw n r23.2 (wrap64 ((32:Int) - r15))).bind λr27=>some (r25,r27,true))))
def Qgs(n:Nat)(x0:(List Nat)):Option (Nat×Bool):=(Yb n x0).bind λr1=>bif decide ((2:Int)<(r1.length:Int)) then(some (0,false))else((rangeL (λ(i17:Nat) (x18:Nat) (s16:Nat)=>(grd (decide (0≤wrap64 ((32:Int)*(i17:Int))))).bind λ_=>(some (((x18*2 ^ (min (Int.toNat (wrap64 ((32:Int)*(i17:Int)))) 64))%18446744073709551616))).bind λz21=>some (Lp.go (s16 ||| z21))) r1 0 0).bind (lpK λ(s22:Nat)=>some (s22,true)))
def Qfe(n:Nat)(x0:Nat)(x1:Nat):Option (Nat):=(loopM (λ(s7:Nat×Nat)=>bif !decide (s7.2=0) then((grd (s7.2 != 0)).bind λ_=>some (Lp.go (s7.2,(s7.1%s7.2))))else(some (Lp.out s7.1))) n (x0,x1)).bind λ(t5:Nat)=>some t5
def Qhf(n:Nat)(x0:(List Nat))(x1:(List Nat)):Option ((List Nat)):=(Wc n x0).bind λr1=>(Wc n x1).bind λr3=>(loopM (λ(s19:(List Nat)×(List Nat))=>bif decide ((2:Int)<(s19.2.length:Int)) then((Qdp n s19.1 s19.2).bind λr20=>some (Lp.go (s19.2,r20.2.1)))else(some (Lp.out (s19.1,s19.2)))) n (r1,r3)).bind λ(t17:(List Nat)×(List Nat))=>bif decide ((t17.2.length:Int)=(0:Int)) then(some t17.1)else((Qdp n t17.1 t17.2).bind λr22=>(Qgs n t17.2).bind λr24=>(Qgs n r22.2.1).bind λr26=>(Qfe n r24.1 r26.1).bind λr28=>(Zt n r28).bind λr30=>some r30)
def Qhg(x0:(List Nat)):Option (Bool):=jn (λ(j3:(Bool)->Option _)=>bif decide ((x0.length:Int)=(1:Int)) then((getI x0 (0:Int)).bind λy6=>j3 (decide (y6=1)))else(j3 false)) (λ(s5:Bool)=>some s5)
def Qdq(n:Nat)(x0:(List Nat))(x1:(List Nat)):Option ((List Nat)×(List Nat)):=(Qhf n x0 x1).bind λr1=>bif decide ((r1.length:Int)=(0:Int)) then(some (([]:List Nat),([]:List Nat)))else((Qhg r1).bind λr3=>bif r3 then((Wc n x0).bind λr5=>(Wc n x1).bind λr7=>some (r5,r7))else((Qdp n x0 r1).bind λr9=>(Qdp n x1 r1).bind λr11=>some (r9.1,r11.1)))
def Qao(n:Nat)(x0:Qg):Option (Qg):=(Wc n x0.Az).bind λr3=>(Ws x0.Neg r3).bind λr5=>some r5
def Ze(n:Nat)(x0:Qg)(x1:(List Nat)):Option (Qa):=(Qdq n x0.Az x1).bind λr1=>(Qao n (⟨x0.Neg,r1.1⟩:Qg)).bind λr3=>some (⟨r3,r1.2⟩:Qa)
def Qdr(n:Nat)(x0:Qa)(x1:Qa):Option (Qa):=(V9 n x0).bind λr1=>(V9 n x1).bind λr3=>(Za n r1.1 r3.2).bind λr5=>(Za n r3.1 r1.2).bind λr7=>(Qgq n r5 r7).bind λr9=>(Qab n r1.2 r3.2).bind λr11=>(Ze n r9 r11).bind λr13=>some r13
def Qbi(n:Nat)(x0:Qg):Option (Int):=(Qce n x0.Az).bind λr1=>bif r1 then ( some (0:Int)) else ( bif x0.Neg then ( some (-1:Int)) else ( some (1:Int)))
def Qix(n:Nat)(x0:Qg)(x1:Qg):Option (Int):=(Qgq n x0 x1).bind λr1=>(Qbi n r1).bind λr3=>some r3
def Qf2(n:Nat)(x0:Qa)(x1:Qa):Option (Int):=(V9 n x0).bind λr1=>(V9 n x1).bind λr3=>(Za n r1.1 r3.2).bind λr5=>(Za n r3.1 r1.2).bind λr7=>(Qix n r5 r7).bind λr9=>some r9
def K4(n:Nat)(x0:Qa):Option (Qa):=(V9 n x0).bind λr1=>(Ze n r1.1 r1.2).bind λr3=>some r3
def Zb(x0:Int)(x1:Int):Option (Bool):=jn (λ(j1:(Bool)->Option _)=>bif decide ((0:Int)≤x0) then ( j1 (decide (x0<x1))) else ( j1 false)) (λ(s3:Bool)=>some s3)
def Qhh(x0:Ql):Option (Bool):=jn (λ(j5:(Bool)->Option _)=>(Zb (wrap64 (x0.Au - (1:Int))) (6:Int)).bind λr8=>bif r8 then((Zb x0.Ay (7:Int)).bind λr10=>bif r10 then(bif decide ((x0.Ar.length:Int)=x0.Au) then(j5 (decide ((x0.Code.length:Int)≤(300:Int))))else(j5 false))else(j5 false))else(j5 false)) (λ(s7:Bool)=>some s7)
def Qjz(x0:Qt):Option (K7):=some (⟨x0.Op,x0.A,x0.B⟩:K7)
def Xq(n:Nat)(x0:Qa):Option (Bool):=(K4 n x0).bind λr1=>jn (λ(j7:(Bool)->Option _)=>bif (x0.Num.Neg == r1.Num.Neg) then(bif decide ((x0.Num.Az.length:Int)=(r1.Num.Az.length:Int)) then(bif decide ((x0.Den.length:Int)=(r1.Den.length:Int)) then((Qcl n x0.Num.Az r1.Num.Az).bind λr10=>bif decide (r10=(0:Int)) then((Qcl n x0.Den r1.Den).bind λr12=>j7 (decide (r12=(0:Int))))else(j7 false))else(j7 false))else(j7 false))else(j7 false)) (λ(s9:Bool)=>some s9)
def Qhi(x0:Qa):Option (Bool):=jn (λ(j1:(Bool)->Option _)=>bif !x0.Num.Neg then(bif decide ((x0.Num.Az.length:Int)=(0:Int)) then(j1 (decide ((x0.Den.length:Int)=(0:Int))))else(j1 false))else(j1 false)) (λ(s3:Bool)=>some s3)
def Qff(x0:Qt):Option ((List Int)):=jn (λ(j1:(Bool)->Option _)=>bif decide (x0.Op=(6:Int)) then(j1 (decide (x0.Op=(6:Int))))else(j1 (decide (x0.Op=(11:Int))))) (λ(s3:Bool)=>bif s3 then(some ([x0.A]:List Int))else(jn (λ(j4:(Bool)->Option _)=>bif decide (x0.Op=(7:Int)) then(j4 (decide (x0.Op=(7:Int))))else(bif decide (x0.Op=(8:Int)) then(j4 (decide (x0.Op=(8:Int))))else(bif decide (x0.Op=(9:Int)) then(j4 (decide (x0.Op=(9:Int))))else(j4 (decide (x0.Op=(10:Int))))))) (λ(s6:Bool)=>bif s6 then(some ([x0.A,x0.B]:List Int))else(some ([]:List Int)))))
def Qh8(n:Nat)(x0:Ql)(x1:Int):Option (Bool):=(getI x0.Code x1).bind λy1=>bif decide (y1.Op=(1:Int)) then(jn (λ(j7:(Bool)->Option _)=>(Qjz y1).bind λr10=>bif (Qba r10 (⟨(1:Int),0,0⟩:K7)) then((Xq n y1.N).bind λr12=>j7 r12)else(j7 false)) (λ(s9:Bool)=>some s9))else((Qhi y1.N).bind λr14=>bif !r14 then(some false)else((Qff y1).bind λr16=>(rangeL (λ(_:Nat) (x27:Int) (_:Unit)=>(Zb x27 x1).bind λr29=>bif !r29 then(some (Lp.out (false)))else(some (Lp.go ()))) r16 0 ()).bind (lpK λ(_:Unit)=>bif decide (y1.Op=(2:Int)) then((Qjz y1).bind λr32=>some (Qba r32 (⟨(2:Int),0,0⟩:K7)))else(bif decide (y1.Op=(3:Int)) then(jn (λ(j36:(Bool)->Option _)=>(Zb y1.A x0.Au).bind λr39=>bif r39 then(j36 (decide (y1.B=(0:Int))))else(j36 false)) (λ(s38:Bool)=>some s38))else(bif decide (y1.Op=(4:Int)) then(jn (λ(j43:(Bool)->Option _)=>(Zb y1.A x0.Ay).bind λr46=>bif r46 then(j43 (decide (y1.B=(0:Int))))else(j43 false)) (λ(s45:Bool)=>some s45))else(bif decide (y1.Op=(6:Int)) then(some (decide (y1.B=(0:Int))))else(bif decide (y1.Op=(11:Int)) then(jn (λ(j48:(Bool)->Option _)=>bif decide ((-8:Int)≤y1.B) then(j48 (decide (y1.B≤(8:Int))))else(j48 false)) (λ(s50:Bool)=>some s50))else((Qff y1).bind λr51=>some (decide ((r51.length:Int)=(2:Int)))))))))))
def Qkc(n:Nat)(x0:Ql):Option (Int):=(Qhh x0).bind λr1=>bif !r1 then(some (-2:Int))else((rangeL (λ(i11:Nat) (_:Qt) (_:Unit)=>(Qh8 n x0 (i11:Int)).bind λr14=>bif !r14 then(some (Lp.out ((i11:Int))))else(some (Lp.go ()))) x0.Code 0 ()).bind (lpK λ(_:Unit)=>(rangeL (λ(_:Nat) (x26:Int) (_:Unit)=>(Zb x26 (x0.Code.length:Int)).bind λr28=>bif !r28 then(some (Lp.out ((x0.Code.length:Int))))else(some (Lp.go ()))) x0.Ar 0 ()).bind (lpK λ(_:Unit)=>some (-1:Int))))
def Zc(n:Nat)(x0:Ql):Option (Bool):=(Qkc n x0).bind λr1=>some (decide (r1=(-1:Int)))
def Qkd(n:Nat)(x0:Int):Option (Qg):=bif decide (x0<(0:Int)) then((some (((18446744073709551616 - (Int.toNat (x0%18446744073709551616)))%18446744073709551616))).bind λz1=>(Zt n z1).bind λr2=>(Ws true r2).bind λr4=>some r4)else((Zt n (Int.toNat (x0%18446744073709551616))).bind λr6=>(Ws false r6).bind λr8=>some r8)
def Jp(n:Nat)(x0:Int):Option (Qa):=(Qkd n x0).bind λr1=>(Zt n 1).bind λr3=>some (⟨r1,r3⟩:Qa)
def Qcn(x0:Nat):Option (Bool):=jn (λ(j1:(Bool)->Option _)=>bif decide (48≤x0) then ( j1 (decide (x0≤57))) else ( j1 false)) (λ(s3:Bool)=>some s3)
def Qcw(x0:Nat):Option (Bool):=jn (λ(j1:(Bool)->Option _)=>bif decide (97≤x0) then(bif decide (x0≤122) then(j1 true)else(bif decide (65≤x0) then(bif decide (x0≤90) then(j1 true)else(j1 (decide (x0=95))))else(j1 (decide (x0=95)))))else(bif decide (65≤x0) then(bif decide (x0≤90) then(j1 true)else(j1 (decide (x0=95))))else(j1 (decide (x0=95))))) (λ(s3:Bool)=>some s3)
def Qke(n:Nat)(x0:Nat):Option (Bool):=(loopM (λ(s9:Nat)=>bif decide (s9<([43,45,42,47,94,40,41,91,93,44,59,61]:List UInt8).length) then((some (((decR ([43,45,42,47,94,40,41,91,93,44,59,61]:List UInt8) s9:Nat):Int))).bind λz11=>bif decide ((Int.toNat (z11%256))=x0) then(some (Lp.out (Lp.out (true))))else(some (Lp.go (s9+decW ([43,45,42,47,94,40,41,91,93,44,59,61]:List UInt8) s9))))else(some (Lp.out (Lp.go ())))) n 0).bind (lpK λ(_:Unit)=>some false)
def Qkf(n:Nat)(x0:Nat):Option (Int):=(Qcn x0).bind λr1=>bif r1 then(some (1:Int))else((Qcw x0).bind λr3=>bif r3 then(some (2:Int))else((Qke n x0).bind λr5=>bif r5 then(some (3:Int))else(some (0:Int))))
def Qkg(x0:Int)(x1:Nat):Option (Bool):=jn (λ(j11:(Bool)->Option _)=>bif decide (x0=(1:Int)) then((Qcn x1).bind λr14=>bif r14 then(j11 true)else(bif decide (x0=(2:Int)) then((Qcw x1).bind λr16=>bif r16 then(j11 true)else((Qcn x1).bind λr18=>j11 r18))else(j11 false)))else(bif decide (x0=(2:Int)) then((Qcw x1).bind λr20=>bif r20 then(j11 true)else((Qcn x1).bind λr22=>j11 r22))else(j11 false))) (λ(s13:Bool)=>some s13)
def Qiy(n:Nat)(x0:(List UInt8))(x1:Int):Option (Int):=(loopM (λ(s27:Int)=>jn (λ(j32:(Bool)->Option _)=>bif decide (s27<(x0.length:Int)) then((getS x0 s27).bind λy35=>(Qkg x1 y35).bind λr37=>j32 r37)else(j32 false)) (λ(s34:Bool)=>bif s34 then(some (Lp.go (wrap64 (s27+(1:Int)))))else(some (Lp.out s27)))) n (1:Int)).bind λ(t25:Int)=>some t25
def Qkh(x0:Int):Option (Int):=bif decide (x0=(1:Int)) then ( some (60:Int)) else ( bif decide (x0=(2:Int)) then ( some (12:Int)) else ( some (1:Int)))
def Qgt(n:Nat)(x0:Qh6):Option (Bool):=jn (λ(j7:(Bool)->Option _)=>bif decide (x0.Text=([]:List UInt8)) then(j7 true)else(bif decide (x0.Aq=(0:Int)) then(j7 true)else((getS x0.Text (0:Int)).bind λy12=>(Qkf n y12).bind λr14=>j7 (!decide (r14=x0.Aq))))) (λ(s9:Bool)=>bif s9 then(some false)else(jn (λ(j21:(Bool)->Option _)=>(Qiy n x0.Text x0.Aq).bind λr24=>bif decide (r24=(x0.Text.length:Int)) then((Qkh x0.Aq).bind λr27=>j21 (decide ((x0.Text.length:Int)≤r27)))else(j21 false)) (λ(s23:Bool)=>some s23)))
def Qfg(x0:Qv):Option (Bool):=jn (λ(j1:(Bool)->Option _)=>bif decide ((x0.B.length:Int)<(1:Int)) then(j1 true)else(bif decide ((8:Int)<(x0.B.length:Int)) then(j1 true)else(bif !decide ((x0.C.length:Int)=(x0.B.length:Int)) then(j1 true)else(bif !decide ((x0.A.length:Int)=(x0.B.length:Int)) then(j1 true)else(bif !decide ((x0.E.length:Int)=(x0.B.length:Int)) then(j1 (!decide ((x0.E.length:Int)=(0:Int))))else(j1 false)))))) (λ(s3:Bool)=>bif s3 then(some false)else((rangeL (λ(i10:Nat) (x11:(List Qa)) (_:Unit)=>bif !decide ((x11.length:Int)=(i10:Int)) then(some (Lp.out (false)))else(some (Lp.go ()))) x0.A 0 ()).bind (lpK λ(_:Unit)=>some true)))
def Qds(n:Nat)(x0:(List Nat)):Option (Int):=(Wc n x0).bind λr1=>bif decide ((r1.length:Int)=(0:Int)) then(some (0:Int))else((getI r1 (wrap64 ((r1.length:Int) - (1:Int)))).bind λy3=>(Qh7 n y3).bind λr5=>(some (wrap64 ((wrap64 ((32:Int)*(wrap64 ((r1.length:Int) - (1:Int)))))+r5))).bind λz7=>some z7)
def Yp(n:Nat)(x0:Qa):Option (Int):=(Qds n x0.Num.Az).bind λr1=>(Qds n x0.Den).bind λr3=>some (wrap64 (r1+r3))
def Qbb(n:Nat)(x0:(List (List Qa))):Option (Bool):=(rangeL (λ(_:Nat) (x40:(List Qa)) (_:Unit)=>(rangeL (λ(_:Nat) (x60:Qa) (_:Unit)=>jn (λ(j66:(Bool)->Option _)=>(Xq n x60).bind λr69=>bif !r69 then(j66 true)else((Yp n x60).bind λr71=>j66 (decide ((190:Int)<r71)))) (λ(s68:Bool)=>bif s68 then(some (Lp.out (Lp.out (false))))else(some (Lp.go ())))) x40 0 ()).bind (lpK λ(_:Unit)=>some (Lp.go ()))) x0 0 ()).bind (lpK λ(_:Unit)=>some true)
def K1(n:Nat)(x0:Qa)(x1:Qa):Option (Qa):=(V9 n x0).bind λr1=>(V9 n x1).bind λr3=>(Za n r1.1 r3.2).bind λr5=>(Za n r3.1 r1.2).bind λr7=>(Qgp n r5 r7).bind λr9=>(Qab n r1.2 r3.2).bind λr11=>(Ze n r9 r11).bind λr13=>some r13
def Qbj(n:Nat)(x0:(List Qa)):Option (Qa):=(Jp n (0:Int)).bind λr1=>(rangeL (λ(_:Nat) (x18:Qa) (s16:Qa)=>(K1 n s16 x18).bind λr20=>some (Lp.go r20)) x0 0 r1).bind (lpK λ(s22:Qa)=>some s22)
def Xz(n:Nat)(x0:Qa)(x1:Qa):Option (Bool):=(Qf2 n x0 x1).bind λr1=>some (decide (r1=(0:Int)))
def Qgg(n:Nat)(x0:Qv):Option (Bool):=(rangeL (λ(i13:Nat) (x14:(List Qa)) (_:Unit)=>(Qbj n x14).bind λr16=>(getI x0.C (i13:Int)).bind λy18=>(Xz n r16 y18).bind λr20=>bif !r20 then(some (Lp.out (false)))else(some (Lp.go ()))) x0.A 0 ()).bind (lpK λ(_:Unit)=>some true)
def Qcs(n:Nat)(x0:Qv):Option (Int):=(Jp n (1:Int)).bind λr1=>(Qgt n (⟨(2:Int),x0.Name,0⟩:Qh6)).bind λr3=>bif !r3 then(some (1:Int))else((Qfg x0).bind λr5=>bif !r5 then(some (2:Int))else(jn (λ(j11:(Bool)->Option _)=>(Qbb n x0.A).bind λr14=>bif !r14 then(j11 true)else((Qbb n ([x0.B,x0.C,x0.E]:List (List Qa))).bind λr16=>j11 (!r16))) (λ(s13:Bool)=>bif s13 then(some (3:Int))else((Qgg n x0).bind λr18=>bif !r18 then(some (4:Int))else((Qbj n x0.B).bind λr20=>(Xz n r20 r1).bind λr22=>bif !r22 then(some (5:Int))else(jn (λ(j29:(Bool)->Option _)=>bif decide ((0:Int)<(x0.E.length:Int)) then((Qbj n x0.E).bind λr33=>(Xz n r33 r1).bind λr35=>j29 (!r35))else(j29 false)) (λ(s31:Bool)=>bif s31 then(some (6:Int))else(some (0:Int)))))))))
def Qct(n:Nat)(x0:Qv):Option (Bool):=(Qcs n x0).bind λr1=>some (decide (r1=(0:Int)))
def Zy(n:Nat)(x0:Qf):Option (Bool):=jn (λ(j5:(Bool)->Option _)=>(Zc n x0.Tape).bind λr8=>bif r8 then((Qct n x0.An).bind λr10=>bif r10 then(j5 (decide ((x0.P.length:Int)=x0.Tape.Ay)))else(j5 false))else(j5 false)) (λ(s7:Bool)=>some s7)
def Wf(x0:Int):Option (Qh):=some (⟨(⟨0,0⟩:Qaa),min (max x0 (0:Int)) (4096:Int)⟩:Qh)
def Zj(n:Nat)(x0:Int):Option ((List Qa)):=(mkM 56 ((⟨(⟨false,[]⟩:Qg),[]⟩:Qa):Qa) (min (max x0 (0:Int)) (300:Int))).bind λy1=>(loopM (λ(s15:(List Qa)×Int)=>bif decide (s15.2<(min (max x0 (0:Int)) (300:Int))) then((Jp n (0:Int)).bind λr16=>(getI s15.1 s15.2).bind λ_=>some (Lp.go ((List.set s15.1 (Int.toNat s15.2) r16),wrap64 (s15.2+(1:Int)))))else(some (Lp.out s15.1))) n (y1,(0:Int))).bind λ(t13:(List Qa))=>some t13
def Yq(n:Nat)(x0:Qa):Option (Int):=(V9 n x0).bind λr1=>(Qbi n r1.1).bind λr3=>some r3
def Vi(n:Nat)(x0:Qa)(x1:Qa):Option (Qa):=(V9 n x0).bind λr1=>(V9 n x1).bind λr3=>(Qgn n r1.1 r3.1).bind λr5=>(Qab n r1.2 r3.2).bind λr7=>(Ze n r5 r7).bind λr9=>some r9
def Qhj(n:Nat)(x0:(List Qa))(x1:(List (List Qa)))(x2:Int):Option ((List Qa)×Bool):=jn (λ(j1:(Bool)->Option _)=>bif !decide ((x0.length:Int)=(x1.length:Int)) then(j1 true)else(bif decide (x2<(0:Int)) then(j1 true)else(j1 (decide ((300:Int)<x2))))) (λ(s3:Bool)=>bif s3 then(some (([]:List Qa),false))else((rangeL (λ(_:Nat) (x11:(List Qa)) (_:Unit)=>bif !decide ((x11.length:Int)=x2) then(some (Lp.out ((([]:List Qa),false))))else(some (Lp.go ()))) x1 0 ()).bind (lpK λ(_:Unit)=>(Zj n x2).bind λr14=>(rangeL (λ(i108:Nat) (x109:(List Qa)) (s107:(List Qa))=>(getI x0 (i108:Int)).bind λy111=>(Yq n y111).bind λr113=>bif decide (r113=(0:Int)) then(some (Lp.go s107))else((rangeL (λ(i131:Nat) (x132:Qa) (s130:(List Qa))=>(getI s130 (i131:Int)).bind λy134=>(getI x0 (i108:Int)).bind λy136=>(Vi n y136 x132).bind λr138=>(K1 n y134 r138).bind λr140=>(getI s130 (i131:Int)).bind λ_=>some (Lp.go (List.set s130 (Int.toNat (i131:Int)) r140))) x109 0 s107).bind (lpK λ(s144:(List Qa))=>some (Lp.go s144)))) x1 0 r14).bind (lpK λ(s145:(List Qa))=>some (s145,true)))))
def Wz(n:Nat)(x0:Qa)(x1:(List Qa)):Option ((List Qa)):=(rangeL (λ(_:Nat) (x20:Qa) (s18:(List Qa))=>(Vi n x0 x20).bind λr22=>(appM 56 s18 ([r22]:List Qa)).bind λy24=>some (Lp.go y24)) x1 0 ([]:List Qa)).bind (lpK λ(s26:(List Qa))=>some s26)
def V4(n:Nat)(x0_p:Qf)(x0_t:Qa)(x0_h:Qa)(x0_y:(List Qa))(x0_g:Qh)(x0_out_Ys:(List (List Qa)))(x0_out_Ks:(List (List Qa)))(x0_out_Next:(List Qa))(x0_out_Err:(List Qa))(x1:(List Qa)):Option ((List Qa)):=(Qhj n x1 x0_out_Ks (x0_y.length:Int)).bind λr1=>(Wz n x0_h r1.1).bind λr3=>some r3
def Qki(n:Nat)(x0:(List Qa)):Option ((List Qa)):=(rangeL (λ(_:Nat) (x20:Qa) (s18:(List Qa))=>(K4 n x20).bind λr22=>(appM 56 s18 ([r22]:List Qa)).bind λy24=>some (Lp.go y24)) x0 0 ([]:List Qa)).bind (lpK λ(s26:(List Qa))=>some s26)
def Zu(n:Nat)(x0:(List (List Qa))):Option ((List Qa)×Bool):=bif decide ((x0.length:Int)=(0:Int)) then(some (([]:List Qa),true))else((getI x0 (0:Int)).bind λy1=>(Qki n y1).bind λr3=>(sub x0 (1:Int) (x0.length:Int)).bind λy5=>(rangeL (λ(_:Nat) (x72:(List Qa)) (s70:(List Qa))=>bif !decide ((x72.length:Int)=(s70.length:Int)) then(some (Lp.out ((([]:List Qa),false))))else((rangeL (λ(i86:Nat) (x87:Qa) (s85:(List Qa))=>(getI s85 (i86:Int)).bind λy89=>(K1 n y89 x87).bind λr91=>(getI s85 (i86:Int)).bind λ_=>some (Lp.go (List.set s85 (Int.toNat (i86:Int)) r91))) x72 0 s70).bind (lpK λ(s95:(List Qa))=>some (Lp.go s95)))) y5 0 r3).bind (lpK λ(s96:(List Qa))=>some (s96,true)))
def Yc(n:Nat)(x0_p:Qf)(x0_t:Qa)(x0_h:Qa)(x0_y:(List Qa))(x0_g:Qh)(x0_out_Ys:(List (List Qa)))(x0_out_Ks:(List (List Qa)))(x0_out_Next:(List Qa))(x0_out_Err:(List Qa))(x1:(List Qa)):Option ((List Qa)):=(V4 n x0_p x0_t x0_h x0_y x0_g x0_out_Ys x0_out_Ks x0_out_Next x0_out_Err x1).bind λr3=>(Zu n ([x0_y,r3]:List (List Qa))).bind λr5=>some r5.1
def Qbo(x0:Qh)(x1:Int):Option (Qh):=some (⟨(⟨wrap64 (x0.Count.Seen+(1:Int)),max x0.Count.Peak x1⟩:Qaa),x0.limit⟩:Qh)
def Vc(n:Nat)(x0:Qh)(x1:Qa):Option (Bool×Qh):=(Yp n x1).bind λr1=>(Qbo x0 r1).bind λr3=>some (decide (r1≤r3.limit),r3)
def V5(n:Nat)(x0:Qh)(x1:(List Qa)):Option (Int×Bool×Qh):=(rangeL (λ(i15:Nat) (x16:Qa) (s14:Qh)=>(Vc n s14 x16).bind λr18=>bif !r18.1 then(some (Lp.out (((i15:Int),false,r18.2))))else(some (Lp.go r18.2))) x1 0 x0).bind (lpK λ(s20:Qh)=>some ((x1.length:Int),true,s20))
def Wh(n:Nat)(x0_p:Qf)(x0_t:Qa)(x0_h:Qa)(x0_y:(List Qa))(x0_g:Qh)(x0_out_Ys:(List (List Qa)))(x0_out_Ks:(List (List Qa)))(x0_out_Next:(List Qa))(x0_out_Err:(List Qa))(x1:(List Qa))(x2:Int):Option (Qc×Qh):=(V5 n x0_g x1).bind λr1=>bif !r1.2.1 then(some ((⟨(6:Int),0,x2,wrap64 ((300:Int)+r1.1)⟩:Qc),r1.2.2))else(some ((⟨0,0,0,0⟩:Qc),r1.2.2))
def Qbv(n:Nat)(x0:Qf)(x1:Qa)(x2:Qa)(x3:Int):Option (Qa):=jn (λ(j1:(Bool)->Option _)=>bif decide (x3<(0:Int)) then(j1 true)else(j1 (decide ((x0.An.C.length:Int)≤x3)))) (λ(s3:Bool)=>bif s3 then((K4 n x1).bind λr4=>some r4)else((getI x0.An.C x3).bind λy6=>(Vi n x2 y6).bind λr8=>(K1 n x1 r8).bind λr10=>some r10))
def Qo8(x0:Qf)(x1:Qa)(x2:(List Qa)):Option (Va):=some (⟨x1,x2,x0.P⟩:Va)
def Qhk(n:Nat)(x0:(List Qa)):Option ((List Qa)):=(rangeL (λ(_:Nat) (x20:Qa) (s18:(List Qa))=>(K4 n x20).bind λr22=>(appM 56 s18 ([r22]:List Qa)).bind λy24=>some (Lp.go y24)) x0 0 ([]:List Qa)).bind (lpK λ(s26:(List Qa))=>some s26)
def Qco(n:Nat)(x0:Va):Option (Va):=(K4 n x0.T).bind λr1=>(Qhk n x0.Y).bind λr3=>(Qhk n x0.P).bind λr5=>some (⟨r1,r3,r5⟩:Va)
def Qbf(n:Nat)(x0:Qa):Option (Qa):=(K4 n x0).bind λr1=>(Qgo n r1.Num).bind λr3=>some (⟨r3,r1.Den⟩:Qa)
def Qe1(n:Nat)(x0_g:Qh)(x1:Qa):Option (Qa):=(Qbf n x1).bind λr1=>some r1
def Qfh(n:Nat)(x0:(List Nat))(x1:Int):Option ((List Nat)):=(Zt n 1).bind λr1=>(loopM (λ(s11:(List Nat)×Int)=>bif decide (s11.2<x1) then((Qab n s11.1 x0).bind λr12=>some (Lp.go (r12,wrap64 (s11.2+(1:Int)))))else(some (Lp.out s11.1))) n (r1,(0:Int))).bind λ(t9:(List Nat))=>some t9
def Qdt(n:Nat)(x0:Qa)(x1:Int):Option (Qa×Bool):=jn (λ(j3:(Bool)->Option _)=>bif decide (x1<(-8:Int)) then(j3 true)else(bif decide ((8:Int)<x1) then(j3 true)else(bif decide (x1<(0:Int)) then((Yq n x0).bind λr6=>j3 (decide (r6=(0:Int))))else(j3 false)))) (λ(s5:Bool)=>bif s5 then((Jp n (0:Int)).bind λr8=>some (r8,false))else((K4 n x0).bind λr10=>(Qfh n r10.Num.Az (max x1 (wrap64 (-x1)))).bind λr12=>(Qfh n r10.Den (max x1 (wrap64 (-x1)))).bind λr14=>jn (λ(j16:((List Nat)×(List Nat))->Option _)=>bif decide (x1<(0:Int)) then(j16 (r14,r12))else(j16 (r12,r14))) (λ(s18:(List Nat)×(List Nat))=>jn (λ(j23:(Qa)->Option _)=>bif r10.Num.Neg then((Qao n (⟨decide ((Int.tmod (max x1 (wrap64 (-x1))) (2:Int))=(1:Int)),s18.1⟩:Qg)).bind λr26=>j23 (⟨r26,s18.2⟩:Qa))else((Qao n (⟨false,s18.1⟩:Qg)).bind λr28=>j23 (⟨r28,s18.2⟩:Qa))) (λ(s25:Qa)=>some (s25,true)))))
def Qe2(n:Nat)(x0_g:Qh)(x1:Qa)(x2:Int):Option (Qa×Bool):=(Qdt n x1 x2).bind λr1=>some (r1.1,r1.2)
def Qe3(n:Nat)(x0_g:Qh)(x1:Qa)(x2:Qa):Option (Qa):=(K1 n x1 x2).bind λr1=>some r1
def Qe4(n:Nat)(x0_g:Qh)(x1:Qa)(x2:Qa):Option (Qa):=(Qdr n x1 x2).bind λr1=>some r1
def Qe5(n:Nat)(x0_g:Qh)(x1:Qa)(x2:Qa):Option (Qa):=(Vi n x1 x2).bind λr1=>some r1
def Zk(n:Nat)(x0:Qa)(x1:Qa):Option (Qa×Bool):=(V9 n x0).bind λr1=>(V9 n x1).bind λr3=>(Qbi n r3.1).bind λr5=>bif decide (r5=(0:Int)) then((Jp n (0:Int)).bind λr7=>some (r7,false))else((Za n r1.1 r3.2).bind λr9=>(Qab n r1.2 r3.1.Az).bind λr11=>(Ze n (⟨(r9.Neg != r3.1.Neg),r9.Az⟩:Qg) r11).bind λr13=>some (r13,true))
def Qe6(n:Nat)(x0_g:Qh)(x1:Qa)(x2:Qa):Option (Qa×Bool):=(Zk n x1 x2).bind λr1=>some (r1.1,r1.2)
def Qf3(n:Nat)(x0_g:Qh)(x1:Qa):Option (Qa):=(K4 n x1).bind λr1=>some r1
def We(n:Nat)(x0_Arith_g:Qh)(x1:Qt)(x2:X4):Option (Qa):=bif decide (x1.Op=(1:Int)) then((Qf3 n x0_Arith_g x1.N).bind λr1=>some r1)else(bif decide (x1.Op=(3:Int)) then((getI x2.Y x1.A).bind λy3=>some y3)else(bif decide (x1.Op=(4:Int)) then((getI x2.P x1.A).bind λy5=>some y5)else(some x2.T)))
def Kz(n:Nat)(x0_Arith_g:Qh)(x1:Qt)(x2:X4)(x3:(List Qa)):Option (Qa×Bool):=bif decide (x1.Op=(6:Int)) then((getI x3 x1.A).bind λy1=>(Qe1 n x0_Arith_g y1).bind λr3=>some (r3,true))else(bif decide (x1.Op=(11:Int)) then((getI x3 x1.A).bind λy5=>(Qe2 n x0_Arith_g y5 x1.B).bind λr7=>some (r7.1,r7.2))else(bif decide (x1.Op=(7:Int)) then((getI x3 x1.A).bind λy9=>(getI x3 x1.B).bind λy11=>(Qe3 n x0_Arith_g y9 y11).bind λr13=>some (r13,true))else(bif decide (x1.Op=(8:Int)) then((getI x3 x1.A).bind λy15=>(getI x3 x1.B).bind λy17=>(Qe4 n x0_Arith_g y15 y17).bind λr19=>some (r19,true))else(bif decide (x1.Op=(9:Int)) then((getI x3 x1.A).bind λy21=>(getI x3 x1.B).bind λy23=>(Qe5 n x0_Arith_g y21 y23).bind λr25=>some (r25,true))else(bif decide (x1.Op=(10:Int)) then((getI x3 x1.A).bind λy27=>(getI x3 x1.B).bind λy29=>(Qe6 n x0_Arith_g y27 y29).bind λr31=>some (r31.1,r31.2))else((We n x0_Arith_g x1 x2).bind λr33=>some (r33,true)))))))
def Qbk(n:Nat)(x0_g:Qh)(x1:Qa):Option (Bool×Qh):=(Vc n x0_g x1).bind λr1=>some (r1.1,r1.2)
def Vt(n:Nat)(x0_Arith_g:Qh)(x1:Ql)(x2:X4):Option ((List Qa)×Qc×Qh):=jn (λ(j3:(Bool)->Option _)=>(Zc n x1).bind λr6=>bif !r6 then(j3 true)else(bif !decide ((x2.Y.length:Int)=x1.Au) then(j3 true)else(j3 (!decide ((x2.P.length:Int)=x1.Ay))))) (λ(s5:Bool)=>bif s5 then(some (([]:List Qa),(⟨(2:Int),0,0,0⟩:Qc),x0_Arith_g))else((rangeL (λ(i30:Nat) (x31:Qt) (s29:Qh×(List Qa))=>(Kz n s29.1 x31 x2 s29.2).bind λr33=>bif !r33.2 then(some (Lp.out ((([]:List Qa),(⟨(3:Int),0,0,(i30:Int)⟩:Qc),s29.1))))else((Qbk n s29.1 r33.1).bind λr35=>bif !r35.1 then(some (Lp.out ((([]:List Qa),(⟨(6:Int),0,0,(i30:Int)⟩:Qc),r35.2))))else((appM 56 s29.2 ([r33.1]:List Qa)).bind λy37=>some (Lp.go (r35.2,y37))))) x1.Code 0 (x0_Arith_g,([]:List Qa))).bind (lpK λ(s39:Qh×(List Qa))=>some (s39.2,(⟨0,0,0,0⟩:Qc),s39.1))))
def Qf4(n:Nat)(x0:Ql)(x1:Va)(x2:Int):Option ((List Qa)×Qc):=(Qco n x1).bind λr1=>(Wf x2).bind λr3=>(Vt n r3 x0 (⟨r1.T,r1.Y,r1.P⟩:X4)).bind λr5=>some (r5.1,r5.2.1)
def Qne(n:Nat)(x0:Ql)(x1:(List Qa)):Option ((List Qa)):=jn (λ(j3:(Bool)->Option _)=>(Zc n x0).bind λr6=>bif !r6 then(j3 true)else(j3 (!decide ((x1.length:Int)=(x0.Code.length:Int))))) (λ(s5:Bool)=>bif s5 then(some ([]:List Qa))else((rangeL (λ(_:Nat) (x31:Int) (s29:(List Qa))=>(getI x1 x31).bind λy33=>(K4 n y33).bind λr35=>(appM 56 s29 ([r35]:List Qa)).bind λy37=>some (Lp.go y37)) x0.Ar 0 ([]:List Qa)).bind (lpK λ(s39:(List Qa))=>some s39)))
def Qiz(n:Nat)(x0:Ql)(x1:Va)(x2:Int):Option ((List Qa)×Qc):=(Qf4 n x0 x1 x2).bind λr1=>bif !(Qo r1.2 (⟨0,0,0,0⟩:Qc)) then(some (([]:List Qa),r1.2))else((Qne n x0 r1.1).bind λr3=>some (r3,r1.2))
def Xr(n:Nat)(x0_p:Qf)(x0_t:Qa)(x0_h:Qa)(x0_y:(List Qa))(x0_g:Qh)(x0_out_Ys:(List (List Qa)))(x0_out_Ks:(List (List Qa)))(x0_out_Next:(List Qa))(x0_out_Err:(List Qa))(x1:Int):Option (Qc×Qf×Qa×Qa×(List Qa)×(List Qa)×(List Qa)×Qh×(List (List Qa))×(List (List Qa))):=(getI x0_p.An.A x1).bind λy1=>(Yc n x0_p x0_t x0_h x0_y x0_g x0_out_Ys x0_out_Ks x0_out_Next x0_out_Err y1).bind λr3=>(Wh n x0_p x0_t x0_h x0_y x0_g x0_out_Ys x0_out_Ks x0_out_Next x0_out_Err r3 x1).bind λr5=>bif !(Qo r5.1 (⟨0,0,0,0⟩:Qc)) then(some (r5.1,x0_p,x0_t,x0_h,x0_y,x0_out_Next,x0_out_Err,r5.2,x0_out_Ys,x0_out_Ks))else((Qbv n x0_p x0_t x0_h x1).bind λr7=>(Qo8 x0_p r7 r3).bind λr9=>(Qiz n x0_p.Tape r9 x0_p.Ap).bind λr11=>bif !(Qo r11.2 (⟨0,0,0,0⟩:Qc)) then(some ((⟨r11.2.Aq,r11.2.Step,x1,r11.2.At⟩:Qc),x0_p,x0_t,x0_h,x0_y,x0_out_Next,x0_out_Err,r5.2,x0_out_Ys,x0_out_Ks))else((appM 24 x0_out_Ys ([r3]:List (List Qa))).bind λy13=>(appM 24 x0_out_Ks ([r11.1]:List (List Qa))).bind λy15=>some (r11.2,x0_p,x0_t,x0_h,x0_y,x0_out_Next,x0_out_Err,r5.2,y13,y15)))
def Qo9(n:Nat)(x0:(List Qa))(x1:(List Qa)):Option ((List Qa)×Bool):=(Jp n (-1:Int)).bind λr1=>(Wz n r1 x1).bind λr3=>(Zu n ([x0,r3]:List (List Qa))).bind λr5=>some (r5.1,r5.2)
def Qbl(n:Nat)(x0:Qv):Option ((List Qa)):=jn (λ(j3:(Bool)->Option _)=>(Qct n x0).bind λr6=>bif !r6 then(j3 true)else(j3 (decide ((x0.E.length:Int)=(0:Int))))) (λ(s5:Bool)=>bif s5 then(some ([]:List Qa))else((Qo9 n x0.B x0.E).bind λr8=>some r8.1))
def Qa6(n:Nat)(x0_p:Qf)(x0_t:Qa)(x0_h:Qa)(x0_y:(List Qa))(x0_g:Qh)(x0_out_Ys:(List (List Qa)))(x0_out_Ks:(List (List Qa)))(x0_out_Next:(List Qa))(x0_out_Err:(List Qa)):Option (Qc×Qf×Qa×Qa×(List Qa)×(List Qa)×(List Qa)×Qh×(List (List Qa))×(List (List Qa))):=(rangeL (λ(i15:Nat) (_:Qa) (s14:Qf×Qa×Qa×(List Qa)×Qh×(List (List Qa))×(List (List Qa))×(List Qa)×(List Qa))=>(Xr n s14.1 s14.2.1 s14.2.2.1 s14.2.2.2.1 s14.2.2.2.2.1 s14.2.2.2.2.2.1 s14.2.2.2.2.2.2.1 s14.2.2.2.2.2.2.2.1 s14.2.2.2.2.2.2.2.2 (i15:Int)).bind λr18=>bif !(Qo r18.1 (⟨0,0,0,0⟩:Qc)) then(some (Lp.out ((r18.1,r18.2.1,r18.2.2.1,r18.2.2.2.1,r18.2.2.2.2.1,r18.2.2.2.2.2.1,r18.2.2.2.2.2.2.1,r18.2.2.2.2.2.2.2.1,r18.2.2.2.2.2.2.2.2.1,r18.2.2.2.2.2.2.2.2.2))))else(some (Lp.go (r18.2.1,r18.2.2.1,r18.2.2.2.1,r18.2.2.2.2.1,r18.2.2.2.2.2.2.2.1,r18.2.2.2.2.2.2.2.2.1,r18.2.2.2.2.2.2.2.2.2,r18.2.2.2.2.2.1,r18.2.2.2.2.2.2.1)))) x0_p.An.B 0 (x0_p,x0_t,x0_h,x0_y,x0_g,x0_out_Ys,x0_out_Ks,x0_out_Next,x0_out_Err)).bind (lpK λ(s20:Qf×Qa×Qa×(List Qa)×Qh×(List (List Qa))×(List (List Qa))×(List Qa)×(List Qa))=>(Yc n s20.1 s20.2.1 s20.2.2.1 s20.2.2.2.1 s20.2.2.2.2.1 s20.2.2.2.2.2.1 s20.2.2.2.2.2.2.1 s20.2.2.2.2.2.2.2.1 s20.2.2.2.2.2.2.2.2 x0_p.An.B).bind λr21=>(Wh n s20.1 s20.2.1 s20.2.2.1 s20.2.2.2.1 s20.2.2.2.2.1 s20.2.2.2.2.2.1 s20.2.2.2.2.2.2.1 r21 s20.2.2.2.2.2.2.2.2 r21 (x0_p.An.B.length:Int)).bind λr23=>bif !(Qo r23.1 (⟨0,0,0,0⟩:Qc)) then(some (r23.1,s20.1,s20.2.1,s20.2.2.1,s20.2.2.2.1,r21,s20.2.2.2.2.2.2.2.2,r23.2,s20.2.2.2.2.2.1,s20.2.2.2.2.2.2.1))else(jn (λ(j29:((List Qa))->Option _)=>(Qbl n x0_p.An).bind λr32=>bif decide ((0:Int)<(r32.length:Int)) then((V4 n s20.1 s20.2.1 s20.2.2.1 s20.2.2.2.1 r23.2 s20.2.2.2.2.2.1 s20.2.2.2.2.2.2.1 r21 s20.2.2.2.2.2.2.2.2 r32).bind λr34=>j29 r34)else(j29 s20.2.2.2.2.2.2.2.2)) (λ(s31:(List Qa))=>(Wh n s20.1 s20.2.1 s20.2.2.1 s20.2.2.2.1 r23.2 s20.2.2.2.2.2.1 s20.2.2.2.2.2.2.1 r21 s31 s31 (wrap64 ((x0_p.An.B.length:Int)+(1:Int)))).bind λr36=>some (r36.1,s20.1,s20.2.1,s20.2.2.1,s20.2.2.2.1,r21,s31,r36.2,s20.2.2.2.2.2.1,s20.2.2.2.2.2.2.1))))
def Qcp(n:Nat)(x0:Qf)(x1:Qa)(x2:Qa)(x3:(List Qa)):Option (Q4×Qc):=jn (λ(j3:(Bool)->Option _)=>(Zy n x0).bind λr6=>bif !r6 then(j3 true)else(j3 (!decide ((x3.length:Int)=x0.Tape.Au)))) (λ(s5:Bool)=>bif s5 then(some ((⟨[],[],[],[]⟩:Q4),(⟨(2:Int),0,0,0⟩:Qc)))else((Wf x0.Ap).bind λr8=>(Qa6 n x0 x1 x2 x3 r8 ([]:List (List Qa)) ([]:List (List Qa)) [] []).bind λr10=>bif !(Qo r10.1 (⟨0,0,0,0⟩:Qc)) then(some ((⟨[],[],[],[]⟩:Q4),r10.1))else(some ((⟨r10.2.2.2.2.2.2.2.2.1,r10.2.2.2.2.2.2.2.2.2,r10.2.2.2.2.2.1,r10.2.2.2.2.2.2.1⟩:Q4),(⟨0,0,0,0⟩:Qc)))))
def Qkj(n:Nat)(x0:Qa):Option (Qa):=(K4 n x0).bind λr1=>some (⟨(⟨false,r1.Num.Az⟩:Qg),r1.Den⟩:Qa)
def Qkk(n:Nat)(x0:(List Qa)):Option (Qa):=(Jp n (0:Int)).bind λr1=>(rangeL (λ(i31:Nat) (x32:Qa) (s30:Qa)=>jn (λ(j36:(Bool)->Option _)=>bif decide ((i31:Int)=(0:Int)) then(j36 true)else((Qf2 n x32 s30).bind λr39=>j36 (decide ((0:Int)<r39)))) (λ(s38:Bool)=>bif s38 then((K4 n x32).bind λr41=>some (Lp.go r41))else(some (Lp.go s30)))) x0 0 r1).bind (lpK λ(s43:Qa)=>some s43)
def Qf5(n:Nat)(x0:(List Qa)):Option (Qa):=(Jp n (0:Int)).bind λr1=>(rangeL (λ(_:Nat) (x24:Qa) (s22:Qa)=>(Qkj n x24).bind λr26=>(Qkk n ([s22,r26]:List Qa)).bind λr28=>some (Lp.go r28)) x0 0 r1).bind (lpK λ(s30:Qa)=>some s30)
def Qkl(n:Nat)(x0:Qg)(x1:(List Nat)):Option (Qa×Bool):=(Qce n x1).bind λr1=>bif r1 then ( (Jp n (0:Int)).bind λr3=>some (r3,false)) else ( (Ze n x0 x1).bind λr5=>some (r5,true))
def V6(n:Nat)(x0_p:Qf)(x0_t:Qa)(x0_h:Qa)(x0_u:(List Qa))(x0_v:(List Qa))(x0_made:Q4)(x0_ks:(List (List Qa)))(x0_g:Qh)(x1:(List Qa)):Option ((List Qa)):=(Qhj n x1 x0_ks (x0_u.length:Int)).bind λr1=>(Wz n x0_h r1.1).bind λr3=>some r3
def Yd(n:Nat)(x0_p:Qf)(x0_t:Qa)(x0_h:Qa)(x0_u:(List Qa))(x0_v:(List Qa))(x0_made:Q4)(x0_ks:(List (List Qa)))(x0_g:Qh)(x1:(List Qa)):Option ((List Qa)):=(V6 n x0_p x0_t x0_h x0_u x0_v x0_made x0_ks x0_g x1).bind λr3=>(Zu n ([x0_u,r3]:List (List Qa))).bind λr5=>some r5.1
def Wi(n:Nat)(x0_p:Qf)(x0_t:Qa)(x0_h:Qa)(x0_u:(List Qa))(x0_v:(List Qa))(x0_made:Q4)(x0_ks:(List (List Qa)))(x0_g:Qh)(x1:(List Qa))(x2:Int):Option (Qc×Qh):=(V5 n x0_g x1).bind λr1=>bif !r1.2.1 then(some ((⟨(6:Int),0,x2,wrap64 ((300:Int)+r1.1)⟩:Qc),r1.2.2))else(some ((⟨0,0,0,0⟩:Qc),r1.2.2))
def Qgu(x0:(List Qa))(x1:(List Qa)):Option ((List Qw)×Bool):=bif !decide ((x0.length:Int)=(x1.length:Int)) then(some (([]:List Qw),false))else((rangeL (λ(i19:Nat) (x20:Qa) (s18:(List Qw))=>(getI x1 (i19:Int)).bind λy22=>(appM 112 s18 ([(⟨x20,y22⟩:Qw)]:List Qw)).bind λy24=>some (Lp.go y24)) x0 0 ([]:List Qw)).bind (lpK λ(s26:(List Qw))=>some (s26,true)))
def Qdu(n:Nat)(x0_g:Qh)(x0_slow_c0:Int)(x1:Qw):Option (Qw):=(Qbf n x1.V).bind λr1=>(Qbf n x1.D).bind λr3=>some (⟨r1,r3⟩:Qw)
def Qdv(n:Nat)(x0_g:Qh)(x0_slow_c0:Int)(x1:Qw)(x2:Int):Option (Qw×Bool):=(Qdt n x1.V x2).bind λr1=>bif !r1.2 then(some ((⟨(⟨(⟨false,[]⟩:Qg),[]⟩:Qa),(⟨(⟨false,[]⟩:Qg),[]⟩:Qa)⟩:Qw),false))else((Jp n (0:Int)).bind λr3=>jn (λ(j9:(Qa)->Option _)=>bif decide ((0:Int)<x2) then((Qdt n x1.V (wrap64 (x2 - (1:Int)))).bind λr12=>j9 r12.1)else(bif decide (x2<(0:Int)) then((Zk n r1.1 x1.V).bind λr14=>j9 r14.1)else(j9 r3))) (λ(s11:Qa)=>(Jp n x2).bind λr16=>(Vi n r16 s11).bind λr18=>(Vi n r18 x1.D).bind λr20=>some ((⟨r1.1,r20⟩:Qw),true)))
def Qdw(n:Nat)(x0_g:Qh)(x0_slow_c0:Int)(x1:Qw)(x2:Qw):Option (Qw):=(K1 n x1.V x2.V).bind λr1=>(K1 n x1.D x2.D).bind λr3=>some (⟨r1,r3⟩:Qw)
def Qdx(n:Nat)(x0_g:Qh)(x0_slow_c0:Int)(x1:Qw)(x2:Qw):Option (Qw):=(Qdr n x1.V x2.V).bind λr1=>(Qdr n x1.D x2.D).bind λr3=>some (⟨r1,r3⟩:Qw)
def Qdy(n:Nat)(x0_g:Qh)(x0_slow_c0:Int)(x1:Qw)(x2:Qw):Option (Qw):=(Vi n x1.V x2.V).bind λr1=>(Vi n x1.D x2.V).bind λr3=>(Vi n x1.V x2.D).bind λr5=>(K1 n r3 r5).bind λr7=>some (⟨r1,r7⟩:Qw)
def Qdz(n:Nat)(x0_g:Qh)(x0_slow_c0:Int)(x1:Qw)(x2:Qw):Option (Qw×Bool):=(Zk n x1.V x2.V).bind λr1=>bif !r1.2 then(some ((⟨(⟨(⟨false,[]⟩:Qg),[]⟩:Qa),(⟨(⟨false,[]⟩:Qg),[]⟩:Qa)⟩:Qw),false))else((Vi n r1.1 x2.D).bind λr3=>(Qdr n x1.D r3).bind λr5=>(Zk n r5 x2.V).bind λr7=>some ((⟨r1.1,r7.1⟩:Qw),true))
def Qe7(n:Nat)(x0_g:Qh)(x0_slow_c0:Int)(x1:Qa):Option (Qw):=(K4 n x1).bind λr1=>(Jp n (0:Int)).bind λr3=>some (⟨r1,r3⟩:Qw)
def Wb(n:Nat)(x0_Arith_g:Qh)(x0_Arith_slow_c0:Int)(x1:Qt)(x2:X5):Option (Qw):=bif decide (x1.Op=(1:Int)) then((Qe7 n x0_Arith_g x0_Arith_slow_c0 x1.N).bind λr1=>some r1)else(bif decide (x1.Op=(3:Int)) then((getI x2.Y x1.A).bind λy3=>some y3)else(bif decide (x1.Op=(4:Int)) then((getI x2.P x1.A).bind λy5=>some y5)else(some x2.T)))
def Kt(n:Nat)(x0_Arith_g:Qh)(x0_Arith_slow_c0:Int)(x1:Qt)(x2:X5)(x3:(List Qw)):Option (Qw×Bool):=bif decide (x1.Op=(6:Int)) then((getI x3 x1.A).bind λy1=>(Qdu n x0_Arith_g x0_Arith_slow_c0 y1).bind λr3=>some (r3,true))else(bif decide (x1.Op=(11:Int)) then((getI x3 x1.A).bind λy5=>(Qdv n x0_Arith_g x0_Arith_slow_c0 y5 x1.B).bind λr7=>some (r7.1,r7.2))else(bif decide (x1.Op=(7:Int)) then((getI x3 x1.A).bind λy9=>(getI x3 x1.B).bind λy11=>(Qdw n x0_Arith_g x0_Arith_slow_c0 y9 y11).bind λr13=>some (r13,true))else(bif decide (x1.Op=(8:Int)) then((getI x3 x1.A).bind λy15=>(getI x3 x1.B).bind λy17=>(Qdx n x0_Arith_g x0_Arith_slow_c0 y15 y17).bind λr19=>some (r19,true))else(bif decide (x1.Op=(9:Int)) then((getI x3 x1.A).bind λy21=>(getI x3 x1.B).bind λy23=>(Qdy n x0_Arith_g x0_Arith_slow_c0 y21 y23).bind λr25=>some (r25,true))else(bif decide (x1.Op=(10:Int)) then((getI x3 x1.A).bind λy27=>(getI x3 x1.B).bind λy29=>(Qdz n x0_Arith_g x0_Arith_slow_c0 y27 y29).bind λr31=>some (r31.1,r31.2))else((Wb n x0_Arith_g x0_Arith_slow_c0 x1 x2).bind λr33=>some (r33,true)))))))
def Qjf(x0:Int):Option (Int):=some (1:Int)
def Qa7(n:Nat)(x0_g:Qh)(x0_slow_c0:Int)(x1:Qw):Option (Bool×Qh×Int):=(Vc n x0_g x1.V).bind λr1=>bif !r1.1 then(some (false,r1.2,x0_slow_c0))else((Vc n r1.2 x1.D).bind λr3=>bif !r3.1 then((Qjf x0_slow_c0).bind λr5=>some (false,r3.2,r5))else(some (true,r3.2,x0_slow_c0)))
def Vo(n:Nat)(x0_Arith_g:Qh)(x0_Arith_slow_c0:Int)(x1:Ql)(x2:X5):Option ((List Qw)×Qc×Qh×Int):=jn (λ(j3:(Bool)->Option _)=>(Zc n x1).bind λr6=>bif !r6 then(j3 true)else(bif !decide ((x2.Y.length:Int)=x1.Au) then(j3 true)else(j3 (!decide ((x2.P.length:Int)=x1.Ay))))) (λ(s5:Bool)=>bif s5 then(some (([]:List Qw),(⟨(2:Int),0,0,0⟩:Qc),x0_Arith_g,x0_Arith_slow_c0))else((rangeL (λ(i30:Nat) (x31:Qt) (s29:Qh×Int×(List Qw))=>(Kt n s29.1 s29.2.1 x31 x2 s29.2.2).bind λr33=>bif !r33.2 then(some (Lp.out ((([]:List Qw),(⟨(3:Int),0,0,(i30:Int)⟩:Qc),s29.1,s29.2.1))))else((Qa7 n s29.1 s29.2.1 r33.1).bind λr35=>bif !r35.1 then(some (Lp.out ((([]:List Qw),(⟨(6:Int),0,0,(i30:Int)⟩:Qc),r35.2.1,r35.2.2))))else((appM 112 s29.2.2 ([r33.1]:List Qw)).bind λy37=>some (Lp.go (r35.2.1,r35.2.2,y37))))) x1.Code 0 (x0_Arith_g,x0_Arith_slow_c0,([]:List Qw))).bind (lpK λ(s39:Qh×Int×(List Qw))=>some (s39.2.2,(⟨0,0,0,0⟩:Qc),s39.1,s39.2.1))))
def Qmd(n:Nat)(x0:Ql)(x1:Va)(x2:Va)(x3:Int):Option ((List Qw)×Qc):=(Qco n x1).bind λr1=>(Qco n x2).bind λr3=>(Qgu r1.Y r3.Y).bind λr5=>(Qgu r1.P r3.P).bind λr7=>jn (λ(j9:(Bool)->Option _)=>bif !r5.2 then(j9 true)else(j9 (!r7.2))) (λ(s11:Bool)=>bif s11 then(some (([]:List Qw),(⟨(2:Int),0,0,0⟩:Qc)))else((Wf x3).bind λr12=>(Vo n r12 (0:Int) x0 (⟨(⟨r1.T,r3.T⟩:Qw),r5.1,r7.1⟩:X5)).bind λr14=>some (r14.1,(⟨r14.2.1.Aq,r14.2.1.Step,r14.2.2.2,r14.2.1.At⟩:Qc))))
def Qhl(n:Nat)(x0:Ql)(x1:Va)(x2:Va)(x3:Int):Option ((List Qa)×(List Qa)×Qc):=(Qmd n x0 x1 x2 x3).bind λr1=>bif !(Qo r1.2 (⟨0,0,0,0⟩:Qc)) then(some (([]:List Qa),([]:List Qa),r1.2))else((rangeL (λ(_:Nat) (x30:Int) (s28:(List Qa)×(List Qa))=>(getI r1.1 x30).bind λy32=>(appM 56 s28.1 ([y32.V]:List Qa)).bind λy34=>(getI r1.1 x30).bind λy36=>(appM 56 s28.2 ([y36.D]:List Qa)).bind λy38=>some (Lp.go (y34,y38))) x0.Ar 0 (([]:List Qa),([]:List Qa))).bind (lpK λ(s40:(List Qa)×(List Qa))=>some (s40.1,s40.2,r1.2)))
def Y8(n:Nat)(x0_p:Qf)(x0_t:Qa)(x0_h:Qa)(x0_u:(List Qa))(x0_v:(List Qa))(x0_made:Q4)(x0_ks:(List (List Qa)))(x0_g:Qh)(x1:Int):Option (Qc×Qf×Qa×Qa×(List Qa)×(List Qa)×Q4×(List (List Qa))×Qh):=(getI x0_p.An.A x1).bind λy1=>(Yd n x0_p x0_t x0_h x0_u x0_v x0_made x0_ks x0_g y1).bind λr3=>(Wi n x0_p x0_t x0_h x0_u x0_v x0_made x0_ks x0_g r3 x1).bind λr5=>bif !(Qo r5.1 (⟨0,0,0,0⟩:Qc)) then(some (r5.1,x0_p,x0_t,x0_h,x0_u,x0_v,x0_made,x0_ks,r5.2))else((Qbv n x0_p x0_t x0_h x1).bind λr7=>(getI x0_made.Ys x1).bind λy9=>(Qhl n x0_p.Tape (⟨r7,y9,x0_p.P⟩:Va) (⟨(⟨(⟨false,[]⟩:Qg),[]⟩:Qa),r3,x0_v⟩:Va) x0_p.Ap).bind λr11=>bif !(Qo r11.2.2 (⟨0,0,0,0⟩:Qc)) then(some ((⟨r11.2.2.Aq,r11.2.2.Step,x1,r11.2.2.At⟩:Qc),x0_p,x0_t,x0_h,x0_u,x0_v,x0_made,x0_ks,r5.2))else((appM 24 x0_ks ([r11.2.1]:List (List Qa))).bind λy13=>some (r11.2.2,x0_p,x0_t,x0_h,x0_u,x0_v,x0_made,y13,r5.2)))
def Qa8(n:Nat)(x0_p:Qf)(x0_t:Qa)(x0_h:Qa)(x0_u:(List Qa))(x0_v:(List Qa))(x0_made:Q4)(x0_ks:(List (List Qa)))(x0_g:Qh):Option (Ju×Qc×Qf×Qa×Qa×(List Qa)×(List Qa)×Q4×(List (List Qa))×Qh):=(rangeL (λ(i15:Nat) (_:Qa) (s14:Qf×Qa×Qa×(List Qa)×(List Qa)×Q4×(List (List Qa))×Qh)=>(Y8 n s14.1 s14.2.1 s14.2.2.1 s14.2.2.2.1 s14.2.2.2.2.1 s14.2.2.2.2.2.1 s14.2.2.2.2.2.2.1 s14.2.2.2.2.2.2.2 (i15:Int)).bind λr18=>bif !(Qo r18.1 (⟨0,0,0,0⟩:Qc)) then(some (Lp.out (((⟨[],[],(⟨[],[],[],[]⟩:Q4)⟩:Ju),r18.1,r18.2.1,r18.2.2.1,r18.2.2.2.1,r18.2.2.2.2.1,r18.2.2.2.2.2.1,r18.2.2.2.2.2.2.1,r18.2.2.2.2.2.2.2.1,r18.2.2.2.2.2.2.2.2))))else(some (Lp.go (r18.2.1,r18.2.2.1,r18.2.2.2.1,r18.2.2.2.2.1,r18.2.2.2.2.2.1,r18.2.2.2.2.2.2.1,r18.2.2.2.2.2.2.2.1,r18.2.2.2.2.2.2.2.2)))) x0_p.An.B 0 (x0_p,x0_t,x0_h,x0_u,x0_v,x0_made,x0_ks,x0_g)).bind (lpK λ(s20:Qf×Qa×Qa×(List Qa)×(List Qa)×Q4×(List (List Qa))×Qh)=>(Yd n s20.1 s20.2.1 s20.2.2.1 s20.2.2.2.1 s20.2.2.2.2.1 s20.2.2.2.2.2.1 s20.2.2.2.2.2.2.1 s20.2.2.2.2.2.2.2 x0_p.An.B).bind λr21=>(Wi n s20.1 s20.2.1 s20.2.2.1 s20.2.2.2.1 s20.2.2.2.2.1 s20.2.2.2.2.2.1 s20.2.2.2.2.2.2.1 s20.2.2.2.2.2.2.2 r21 (x0_p.An.B.length:Int)).bind λr23=>bif !(Qo r23.1 (⟨0,0,0,0⟩:Qc)) then(some ((⟨[],[],(⟨[],[],[],[]⟩:Q4)⟩:Ju),r23.1,s20.1,s20.2.1,s20.2.2.1,s20.2.2.2.1,s20.2.2.2.2.1,s20.2.2.2.2.2.1,s20.2.2.2.2.2.2.1,r23.2))else(jn (λ(j29:(Ju)->Option _)=>(Qbl n x0_p.An).bind λr32=>bif decide ((0:Int)<(r32.length:Int)) then((V6 n s20.1 s20.2.1 s20.2.2.1 s20.2.2.2.1 s20.2.2.2.2.1 s20.2.2.2.2.2.1 s20.2.2.2.2.2.2.1 r23.2 r32).bind λr34=>j29 (⟨r21,r34,(⟨[],[],x0_made⟩:Ju).Made⟩:Ju))else(j29 (⟨r21,(⟨[],[],x0_made⟩:Ju).A1,(⟨[],[],x0_made⟩:Ju).Made⟩:Ju))) (λ(s31:Ju)=>(Wi n s20.1 s20.2.1 s20.2.2.1 s20.2.2.2.1 s20.2.2.2.2.1 s20.2.2.2.2.2.1 s20.2.2.2.2.2.2.1 r23.2 s31.A1 (wrap64 ((x0_p.An.B.length:Int)+(1:Int)))).bind λr36=>bif !(Qo r36.1 (⟨0,0,0,0⟩:Qc)) then(some ((⟨[],[],(⟨[],[],[],[]⟩:Q4)⟩:Ju),r36.1,s20.1,s20.2.1,s20.2.2.1,s20.2.2.2.1,s20.2.2.2.2.1,s20.2.2.2.2.2.1,s20.2.2.2.2.2.2.1,r36.2))else(some (s31,(⟨0,0,0,0⟩:Qc),s20.1,s20.2.1,s20.2.2.1,s20.2.2.2.1,s20.2.2.2.2.1,s20.2.2.2.2.2.1,s20.2.2.2.2.2.2.1,r36.2)))))
def Zl(x0:Qy):Option ((List Qa)):=some ([x0.T,x0.Av,x0.H,x0.A1]:List Qa)
def Qbw(n:Nat)(x0:(List (List Qa))):Option (Bool):=(rangeL (λ(_:Nat) (x22:(List Qa)) (_:Unit)=>(rangeL (λ(_:Nat) (x33:Qa) (_:Unit)=>(Xq n x33).bind λr35=>bif !r35 then(some (Lp.out (Lp.out (false))))else(some (Lp.go ()))) x22 0 ()).bind (lpK λ(_:Unit)=>some (Lp.go ()))) x0 0 ()).bind (lpK λ(_:Unit)=>some true)
def Qhm(n:Nat)(x0:Qs):Option (Bool):=(rangeL (λ(_:Nat) (x12:Qy) (_:Unit)=>(Zl x12).bind λr14=>(Qbw n ([r14,x12.Y]:List (List Qa))).bind λr16=>bif !r16 then(some (Lp.out (false)))else(some (Lp.go ()))) x0.Ao 0 ()).bind (lpK λ(_:Unit)=>(Qbw n ([([x0.T]:List Qa),x0.Y]:List (List Qa))).bind λr19=>some r19)
def Qfi(x0:Qs):Option (Bool):=(rangeL (λ(_:Nat) (x8:Qy) (_:Unit)=>bif !decide ((x8.Y.length:Int)=(x0.Y.length:Int)) then(some (Lp.out (false)))else(some (Lp.go ()))) x0.Ao 0 ()).bind (lpK λ(_:Unit)=>jn (λ(j11:(Bool)->Option _)=>bif decide ((1:Int)≤(x0.Y.length:Int)) then(j11 (decide ((x0.Y.length:Int)≤(6:Int))))else(j11 false)) (λ(s13:Bool)=>some s13))
def Qhn(n:Nat)(x0:Qs):Option (Bool):=(rangeL (λ(_:Nat) (x27:Qy) (_:Unit)=>jn (λ(j37:(Bool)->Option _)=>(Yq n x27.Av).bind λr40=>bif decide (r40≤(0:Int)) then(j37 true)else((Yq n x27.H).bind λr42=>bif decide (r42≤(0:Int)) then(j37 true)else((Qf2 n x27.H x27.Av).bind λr44=>bif decide ((0:Int)<r44) then(j37 true)else((Yq n x27.A1).bind λr46=>j37 (decide (r46<(0:Int))))))) (λ(s39:Bool)=>bif s39 then(some (Lp.out (false)))else(some (Lp.go ())))) x0.Ao 0 ()).bind (lpK λ(_:Unit)=>some true)
def Qap(n:Nat)(x0:(List Qa))(x1:(List Qa)):Option (Bool):=bif !decide ((x0.length:Int)=(x1.length:Int)) then(some false)else((rangeL (λ(i11:Nat) (x12:Qa) (_:Unit)=>(getI x1 (i11:Int)).bind λy14=>(Xz n x12 y14).bind λr16=>bif !r16 then(some (Lp.out (false)))else(some (Lp.go ()))) x0 0 ()).bind (lpK λ(_:Unit)=>some true))
def Qh9(n:Nat)(x0:Qy)(x1:Qa)(x2:(List Qa)):Option (Bool):=bif x0.Ok then((K1 n x0.T x0.H).bind λr1=>(Xz n x1 r1).bind λr3=>some r3)else(jn (λ(j9:(Bool)->Option _)=>(Xz n x1 x0.T).bind λr12=>bif r12 then((Qap n x2 x0.Y).bind λr14=>j9 r14)else(j9 false)) (λ(s11:Bool)=>some s11))
def Qho(n:Nat)(x0:Qs):Option (Bool):=(rangeL (λ(i20:Nat) (x21:Qy) (_:Unit)=>jn (λ(j27:(Qa×(List Qa))->Option _)=>bif decide ((wrap64 ((i20:Int)+(1:Int)))<(x0.Ao.length:Int)) then((getI x0.Ao (wrap64 ((i20:Int)+(1:Int)))).bind λy30=>(getI x0.Ao (wrap64 ((i20:Int)+(1:Int)))).bind λy32=>j27 (y30.T,y32.Y))else(j27 (x0.T,x0.Y))) (λ(s29:Qa×(List Qa))=>(Qh9 n x21 s29.1 s29.2).bind λr34=>bif !r34 then(some (Lp.out (false)))else(some (Lp.go ())))) x0.Ao 0 ()).bind (lpK λ(_:Unit)=>some true)
def Qkm(n:Nat)(x0:Qs):Option (Int):=(Qhm n x0).bind λr1=>bif !r1 then(some (1:Int))else((Qfi x0).bind λr3=>bif !r3 then(some (2:Int))else(bif decide ((200:Int)<(x0.Ao.length:Int)) then(some (3:Int))else((Qhn n x0).bind λr5=>bif !r5 then(some (4:Int))else((Qho n x0).bind λr7=>bif !r7 then(some (5:Int))else(some (0:Int))))))
def Qfj(n:Nat)(x0:Qs):Option (Bool):=(Qkm n x0).bind λr1=>some (decide (r1=(0:Int)))
def Qbx(n:Nat)(x0:(List Qa)):Option ((List Qa)):=(Jp n (1:Int)).bind λr1=>(Wz n r1 x0).bind λr3=>some r3
def Qaq(n:Nat)(x0:Qs):Option ((List Qy)):=(rangeL (λ(_:Nat) (x44:Qy) (s42:(List Qy))=>bif x44.Ok then((Zl x44).bind λr46=>(Qbx n r46).bind λr48=>(getI r48 (0:Int)).bind λy50=>(getI r48 (1:Int)).bind λy52=>(getI r48 (2:Int)).bind λy54=>(getI r48 (3:Int)).bind λy56=>(Qbx n x44.Y).bind λr58=>(appM 256 s42 ([(⟨y50,y52,y54,y56,r58,true⟩:Qy)]:List Qy)).bind λy60=>some (Lp.go y60))else(some (Lp.go s42))) x0.Ao 0 ([]:List Qy)).bind (lpK λ(s62:(List Qy))=>some s62)
def Qby(n:Nat)(x0:Qf)(x1:Qs):Option (Bool):=jn (λ(j5:(Bool)->Option _)=>(Zy n x0).bind λr8=>bif r8 then((Qfj n x1).bind λr10=>bif r10 then(j5 (decide ((x1.Y.length:Int)=x0.Tape.Au)))else(j5 false))else(j5 false)) (λ(s7:Bool)=>some s7)
def Ve(n:Nat)(x0:Int)(x1:Int):Option ((List Qa)):=(Zj n x0).bind λr1=>jn (λ(j10:((List Qa))->Option _)=>jn (λ(j13:(Bool)->Option _)=>bif decide ((0:Int)≤x1) then(j13 (decide (x1<(r1.length:Int))))else(j13 false)) (λ(s15:Bool)=>bif s15 then((Jp n (1:Int)).bind λr16=>(getI r1 x1).bind λ_=>j10 (List.set r1 (Int.toNat x1) r16))else(j10 r1))) (λ(s12:(List Qa))=>some s12)
def Wt(n:Nat)(x0:Qf)(x1:Qa)(x2:Qa)(x3:(List Qa))(x4:(List Qa))(x5:(List Qa)):Option (Ju×Qc):=(Qcp n x0 x1 x2 x3).bind λr1=>jn (λ(j3:(Bool)->Option _)=>bif decide (r1.2.Aq=(2:Int)) then(j3 true)else(bif !decide ((x4.length:Int)=(x3.length:Int)) then(j3 true)else(j3 (!decide ((x5.length:Int)=(x0.P.length:Int)))))) (λ(s5:Bool)=>bif s5 then(some ((⟨[],[],(⟨[],[],[],[]⟩:Q4)⟩:Ju),(⟨(2:Int),0,0,0⟩:Qc)))else(bif !(Qo r1.2 (⟨0,0,0,0⟩:Qc)) then(some ((⟨[],[],(⟨[],[],[],[]⟩:Q4)⟩:Ju),r1.2))else((Wf x0.Ap).bind λr6=>(Qa8 n x0 x1 x2 x4 x5 r1.1 ([]:List (List Qa)) r6).bind λr8=>some (r8.1,r8.2.1))))
def Qgh(n:Nat)(x0:Qf)(x1:Qs)(x2:(List Qa))(x3:(List Qa)):Option ((List (List Qa))×Qc):=jn (λ(j3:(Bool)->Option _)=>(Qby n x0 x1).bind λr6=>bif !r6 then(j3 true)else(bif !decide ((x2.length:Int)=(x1.Y.length:Int)) then(j3 true)else(j3 (!decide ((x3.length:Int)=(x0.P.length:Int)))))) (λ(s5:Bool)=>bif s5 then(some (([]:List (List Qa)),(⟨(2:Int),0,0,0⟩:Qc)))else((Jp n (1:Int)).bind λr8=>(Wz n r8 x2).bind λr10=>(Qaq n x1).bind λr12=>(rangeL (λ(i32:Nat) (x33:Qy) (s31:(List Qa)×(List (List Qa)))=>(Wt n x0 x33.T x33.H x33.Y s31.1 x3).bind λr35=>bif !(Qo r35.2 (⟨0,0,0,0⟩:Qc)) then(some (Lp.out ((([]:List (List Qa)),(⟨r35.2.Aq,wrap64 ((i32:Int)+(1:Int)),r35.2.Ax,r35.2.At⟩:Qc)))))else((appM 24 s31.2 ([r35.1.A0]:List (List Qa))).bind λy37=>some (Lp.go (r35.1.A0,y37)))) r12 0 (r10,([r10]:List (List Qa)))).bind (lpK λ(s39:(List Qa)×(List (List Qa)))=>some (s39.2,(⟨0,0,0,0⟩:Qc)))))
def W8(n:Nat)(x0:Qf)(x1:Qs)(x2:(List Qa))(x3:(List Qa)):Option ((List Qa)×Qc):=(Qgh n x0 x1 x2 x3).bind λr1=>bif !(Qo r1.2 (⟨0,0,0,0⟩:Qc)) then(some (([]:List Qa),r1.2))else((getI r1.1 (wrap64 ((r1.1.length:Int) - (1:Int)))).bind λy3=>some (y3,r1.2))
def Qbp(x0:(List (List Qa)))(x1:Int):Option ((List (List Qa))):=(mkM 24 ([]:(List Qa)) x1).bind λy1=>(rangeL (λ(_:Nat) (x68:(List Qa)) (s66:(List (List Qa)))=>(rangeL (λ(i82:Nat) (_:(List Qa)) (s81:(List (List Qa)))=>(getI s81 (i82:Int)).bind λy85=>(getI x68 (i82:Int)).bind λy87=>(appM 56 y85 ([y87]:List Qa)).bind λy89=>some (Lp.go (List.set s81 (Int.toNat (i82:Int)) y89))) s66 0 s66).bind (lpK λ(s91:(List (List Qa)))=>some (Lp.go s91))) x0 0 y1).bind (lpK λ(s92:(List (List Qa)))=>some s92)
def Qcu(n:Nat)(x0:Qf)(x1:Qs):Option ((List (List Qa))×(List (List Qa))×Qc):=(Qby n x0 x1).bind λr1=>bif !r1 then(some (([]:List (List Qa)),([]:List (List Qa)),(⟨(2:Int),0,0,0⟩:Qc)))else((loopM (λ(s24:(List (List Qa))×Int)=>bif decide (s24.2<(wrap64 ((x1.Y.length:Int)+(x0.P.length:Int)))) then((Ve n (x1.Y.length:Int) s24.2).bind λr25=>(Ve n (x0.P.length:Int) (wrap64 (s24.2 - (x1.Y.length:Int)))).bind λr27=>(W8 n x0 x1 r25 r27).bind λr29=>bif !(Qo r29.2 (⟨0,0,0,0⟩:Qc)) then(some (Lp.out (Lp.out ((([]:List (List Qa)),([]:List (List Qa)),r29.2)))))else((appM 24 s24.1 ([r29.1]:List (List Qa))).bind λy31=>some (Lp.go (y31,wrap64 (s24.2+(1:Int))))))else(some (Lp.out (Lp.go s24.1)))) n (([]:List (List Qa)),(0:Int))).bind (lpK λ(t22:(List (List Qa)))=>(sub t22 (0:Int) (x1.Y.length:Int)).bind λy39=>(Qbp y39 (x1.Y.length:Int)).bind λr41=>(sub t22 (x1.Y.length:Int) (t22.length:Int)).bind λy43=>(Qbp y43 (x1.Y.length:Int)).bind λr45=>some (r41,r45,(⟨0,0,0,0⟩:Qc))))
def Qfy(n:Nat)(x0:(List Qa))(x1:(List Qa)):Option (Qa×Bool):=(Jp n (0:Int)).bind λr1=>bif !decide ((x0.length:Int)=(x1.length:Int)) then(some (r1,false))else((rangeL (λ(i25:Nat) (x26:Qa) (s24:Qa)=>(getI x1 (i25:Int)).bind λy28=>(Vi n x26 y28).bind λr30=>(K1 n s24 r30).bind λr32=>some (Lp.go r32)) x0 0 r1).bind (lpK λ(s34:Qa)=>some (s34,true)))
def Qlw(n:Nat)(x0:(List UInt8)):Option (Int):=(loopM (λ(s27:Int)=>bif decide (s27<(x0.length:Int)) then(jn (λ(j32:(Bool)->Option _)=>(getS x0 s27).bind λy35=>bif decide (y35<48) then(j32 true)else((getS x0 s27).bind λy37=>bif decide (57<y37) then(j32 true)else(j32 (decide (s27=(60:Int)))))) (λ(s34:Bool)=>bif s34 then(some (Lp.out (Lp.out (s27))))else(some (Lp.go (wrap64 (s27+(1:Int)))))))else(some (Lp.out (Lp.go ())))) n (0:Int)).bind (lpK λ(_:Unit)=>bif decide (x0=([]:List UInt8)) then(some (0:Int))else(some (-1:Int)))
def Qpu(n:Nat)(x0:(List Nat))(x1:Nat)(x2:Nat):Option ((List Nat)):=(mkM 4 (0:Nat) (wrap64 ((x0.length:Int)+(1:Int)))).bind λy1=>(Qdn y1 (0:Int) x0 x1 x2).bind λr3=>(Wc n r3).bind λr5=>some r5
def Qjg(n:Nat)(x0:(List UInt8)):Option ((List Nat)×Qc):=(Qlw n x0).bind λr1=>bif decide ((0:Int)≤r1) then(some (([]:List Nat),(⟨(1:Int),0,0,r1⟩:Qc)))else((loopM (λ(s49:(List Nat)×Int)=>bif decide (s49.2<(x0.length:Int)) then((loopM (λ(s59:Int×Nat×Nat×Int)=>jn (λ(j60:(Bool)->Option _)=>bif decide (s59.2.2.2<(9:Int)) then(j60 (decide (s59.1<(x0.length:Int))))else(j60 false)) (λ(s62:Bool)=>bif s62 then((getS x0 s59.1).bind λy63=>(some (((((s59.2.1*10)%4294967296)+((y63+256 - 48)%256))%4294967296))).bind λz65=>some (Lp.go (wrap64 (s59.1+(1:Int)),z65,((s59.2.2.1*10)%4294967296),wrap64 (s59.2.2.2+(1:Int)))))else(some (Lp.out (s59.1,s59.2.1,s59.2.2.1))))) n (s49.2,0,1,(0:Int))).bind λ(t57:Int×Nat×Nat)=>(Qpu n s49.1 t57.2.2 t57.2.1).bind λr66=>some (Lp.go (r66,t57.1)))else(some (Lp.out s49.1))) n (([]:List Nat),(0:Int))).bind λ(t47:(List Nat))=>some (t47,(⟨0,0,0,0⟩:Qc)))
def Qmu(n:Nat)(x0:Nat):Option ((List UInt8)):=(loopM (λ(s7:Nat×Qjy×Int)=>bif decide ((0:Int)≤s7.2.2) then((getI ([s7.2.1.a0,s7.2.1.a1,s7.2.1.a2,s7.2.1.a3,s7.2.1.a4,s7.2.1.a5,s7.2.1.a6,s7.2.1.a7,s7.2.1.a8]:List Nat) s7.2.2).bind λ_=>some (Lp.go ((s7.1 / 10),(Qtd (List.set ([s7.2.1.a0,s7.2.1.a1,s7.2.1.a2,s7.2.1.a3,s7.2.1.a4,s7.2.1.a5,s7.2.1.a6,s7.2.1.a7,s7.2.1.a8]:List Nat) (Int.toNat s7.2.2) (((48+(s7.1%10))%4294967296)%256))),wrap64 (s7.2.2 - (1:Int)))))else(some (Lp.out s7.2.1))) n (x0,(⟨0,0,0,0,0,0,0,0,0⟩:Qjy),(8:Int))).bind λ(t5:Qjy)=>(some (([t5.a0,t5.a1,t5.a2,t5.a3,t5.a4,t5.a5,t5.a6,t5.a7,t5.a8]:List Nat))).bind λz10=>some (bS z10)
def Qjh(n:Nat)(x0:(List Nat)):Option ((List UInt8)):=(Qce n x0).bind λr1=>bif r1 then(some ([48]:List UInt8))else((loopM (λ(s23:(List Nat)×(List (List UInt8)))=>(Qce n s23.1).bind λr24=>bif !r24 then((Qgr n s23.1 1000000000).bind λr26=>(Qmu n r26.2.1).bind λr28=>(appM 16 s23.2 ([r28]:List (List UInt8))).bind λy30=>some (Lp.go (r26.1,y30)))else(some (Lp.out s23.2))) n (x0,([]:List (List UInt8)))).bind λ(t21:(List (List UInt8)))=>(loopM (λ(s44:(List UInt8)×Int)=>bif decide ((0:Int)≤s44.2) then((getI t21 s44.2).bind λy45=>(appM 1 s44.1 y45).bind λy47=>some (Lp.go (y47,wrap64 (s44.2 - (1:Int)))))else(some (Lp.out s44.1))) n (([]:List UInt8),wrap64 ((t21.length:Int) - (1:Int)))).bind λ(t42:(List UInt8))=>(Qha t42 ([48]:List UInt8)).bind λr49=>some r49)
def Qi0(n:Nat)(x0:(List Qa)):Option (Bool):=(rangeL (λ(_:Nat) (x10:Qa) (_:Unit)=>(Yq n x10).bind λr12=>bif decide (r12≤(0:Int)) then(some (Lp.out (false)))else(some (Lp.go ()))) x0 0 ()).bind (lpK λ(_:Unit)=>some (decide ((x0.length:Int)≤(200:Int))))
def Zf(n:Nat)(x0:Qf)(x1:Qa)(x2:(List Qa))(x3:(List Qa)):Option (Qs×Qc):=jn (λ(j5:(Bool)->Option _)=>(Zy n x0).bind λr8=>bif !r8 then(j5 true)else(bif !decide ((x2.length:Int)=x0.Tape.Au) then(j5 true)else((Qi0 n x3).bind λr10=>j5 (!r10)))) (λ(s7:Bool)=>bif s7 then(some ((⟨[],(⟨(⟨false,[]⟩:Qg),[]⟩:Qa),[]⟩:Qs),(⟨(2:Int),0,0,0⟩:Qc)))else((K4 n x1).bind λr12=>(Jp n (1:Int)).bind λr14=>(Wz n r14 x2).bind λr16=>(rangeL (λ(i48:Nat) (x49:Qa) (s47:(List Qy)×Qa×(List Qa))=>(K4 n x49).bind λr51=>(Qcp n x0 s47.2.1 r51 s47.2.2).bind λr53=>bif !(Qo r53.2 (⟨0,0,0,0⟩:Qc)) then(some (Lp.out (((⟨[],(⟨(⟨false,[]⟩:Qg),[]⟩:Qa),[]⟩:Qs),(⟨r53.2.Aq,wrap64 ((i48:Int)+(1:Int)),r53.2.Ax,r53.2.At⟩:Qc)))))else((Qf5 n r53.1.A1).bind λr55=>(appM 256 s47.1 ([(⟨s47.2.1,r51,r51,r55,s47.2.2,true⟩:Qy)]:List Qy)).bind λy57=>(K1 n s47.2.1 r51).bind λr59=>some (Lp.go (y57,r59,r53.1.A0)))) x3 0 (([]:List Qy),r12,r16)).bind (lpK λ(s61:(List Qy)×Qa×(List Qa))=>some ((⟨s61.1,s61.2.1,s61.2.2⟩:Qs),(⟨0,0,0,0⟩:Qc)))))
def Jt(x0:Qe):Option (Qa):=some (⟨(⟨x0.Neg,x0.N⟩:Qg),x0.D⟩:Qa)
def Q7(n:Nat)(x0:(List Qe)):Option ((List Qa)):=(loopM (λ(s17:(List Qa)×Int)=>bif decide (s17.2<(x0.length:Int)) then((getI x0 s17.2).bind λy18=>(Jt y18).bind λr20=>(appM 56 s17.1 ([r20]:List Qa)).bind λy22=>some (Lp.go (y22,wrap64 (s17.2+(1:Int)))))else(some (Lp.out s17.1))) n (([]:List Qa),(0:Int))).bind λ(t15:(List Qa))=>some t15
def Qar(n:Nat)(x0:(List (List Qe))):Option ((List (List Qa))):=(loopM (λ(s17:(List (List Qa))×Int)=>bif decide (s17.2<(x0.length:Int)) then((getI x0 s17.2).bind λy18=>(Q7 n y18).bind λr20=>(appM 24 s17.1 ([r20]:List (List Qa))).bind λy22=>some (Lp.go (y22,wrap64 (s17.2+(1:Int)))))else(some (Lp.out s17.1))) n (([]:List (List Qa)),(0:Int))).bind λ(t15:(List (List Qa)))=>some t15
def Qas(n:Nat)(x0:Jv):Option (Ql):=(appM 8 ([]:List Int) x0.Ar).bind λy1=>(loopM (λ(s19:(List Qt)×Int)=>bif decide (s19.2<(x0.Code.length:Int)) then((getI x0.Code s19.2).bind λy20=>(Jt y20.N).bind λr22=>(appM 80 s19.1 ([(⟨y20.Op,y20.A,y20.B,r22⟩:Qt)]:List Qt)).bind λy24=>some (Lp.go (y24,wrap64 (s19.2+(1:Int)))))else(some (Lp.out s19.1))) n (([]:List Qt),(0:Int))).bind λ(t17:(List Qt))=>some (⟨t17,y1,x0.Au,x0.Ay⟩:Ql)
def Qcg(n:Nat)(x0:Jn):Option (Qv):=(Q7 n x0.C).bind λr1=>(Qar n x0.A).bind λr3=>(Q7 n x0.B).bind λr5=>(Q7 n x0.E).bind λr7=>some (⟨x0.Name,r1,r3,r5,r7⟩:Qv)
def Vu(x0:Qe)(x1:Int):Option (Bool):=jn (λ(j1:(Bool)->Option _)=>bif decide (x1<(x0.N.length:Int)) then ( j1 true) else ( j1 (decide (x1<(x0.D.length:Int))))) (λ(s3:Bool)=>some s3)
def Qx(n:Nat)(x0:(List Qe))(x1:Int)(x2:Int):Option (Bool):=(loopM (λ(s19:Int)=>jn (λ(j20:(Bool)->Option _)=>bif decide (s19<(x0.length:Int)) then(j20 (decide (s19<x1)))else(j20 false)) (λ(s22:Bool)=>bif s22 then((getI x0 s19).bind λy23=>(Vu y23 x2).bind λr25=>bif r25 then(some (Lp.out (Lp.out (true))))else(some (Lp.go (wrap64 (s19+(1:Int))))))else(some (Lp.out (Lp.go ()))))) n (0:Int)).bind (lpK λ(_:Unit)=>some (decide (x1<(x0.length:Int))))
def Yr(n:Nat)(x0:J7):Option (Bool):=jn (λ(j7:(Bool)->Option _)=>(Vu x0.T (2:Int)).bind λr10=>bif r10 then(j7 true)else((Vu x0.H (2:Int)).bind λr12=>bif r12 then(j7 true)else((Qx n x0.Y (4:Int) (2:Int)).bind λr14=>j7 r14))) (λ(s9:Bool)=>some s9)
def Wj(n:Nat)(x0:Qz):Option (Qf):=(Qas n x0.Tape).bind λr1=>(Qcg n x0.An).bind λr3=>(Q7 n x0.P).bind λr5=>some (⟨r1,r3,r5,x0.Ap⟩:Qf)
def Xc(n:Nat)(x0:Kb):Option (Bool):=jn (λ(j5:(Bool)->Option _)=>(Qx n x0.U (6:Int) (2:Int)).bind λr8=>bif r8 then(j5 true)else((Qx n x0.V (6:Int) (2:Int)).bind λr10=>j5 r10)) (λ(s7:Bool)=>some s7)
def Zz(n:Nat)(x0:Jv)(x1:Int)(x2:Int):Option (Bool):=(loopM (λ(s19:Int)=>jn (λ(j20:(Bool)->Option _)=>bif decide (s19<(x0.Code.length:Int)) then(j20 (decide (s19<x1)))else(j20 false)) (λ(s22:Bool)=>bif s22 then((getI x0.Code s19).bind λy23=>(Vu y23.N x2).bind λr25=>bif r25 then(some (Lp.out (Lp.out (true))))else(some (Lp.go (wrap64 (s19+(1:Int))))))else(some (Lp.out (Lp.go ()))))) n (0:Int)).bind (lpK λ(_:Unit)=>jn (λ(j27:(Bool)->Option _)=>bif decide (x1<(x0.Code.length:Int)) then(j27 true)else(j27 (decide (x1<(x0.Ar.length:Int))))) (λ(s29:Bool)=>some s29))
def Z1(n:Nat)(x0:Jn)(x1:Int)(x2:Int):Option (Bool):=jn (λ(j7:(Bool)->Option _)=>bif decide ((50:Int)<(x0.Name.length:Int)) then(j7 true)else(bif decide (x1<(x0.A.length:Int)) then(j7 true)else((Qx n x0.B x1 x2).bind λr10=>bif r10 then(j7 true)else((Qx n x0.C x1 x2).bind λr12=>bif r12 then(j7 true)else((Qx n x0.E x1 x2).bind λr14=>j7 r14))))) (λ(s9:Bool)=>bif s9 then(some true)else((loopM (λ(s28:Int)=>bif decide (s28<(x0.A.length:Int)) then((getI x0.A s28).bind λy29=>(Qx n y29 x1 x2).bind λr31=>bif r31 then(some (Lp.out (Lp.out (true))))else(some (Lp.go (wrap64 (s28+(1:Int))))))else(some (Lp.out (Lp.go ())))) n (0:Int)).bind (lpK λ(_:Unit)=>some false)))
def Xd(n:Nat)(x0:Qz)(x1:Int)(x2:Int)(x3:Int):Option (Bool):=jn (λ(j7:(Bool)->Option _)=>(Zz n x0.Tape x1 x3).bind λr10=>bif r10 then(j7 true)else((Z1 n x0.An x2 (4:Int)).bind λr12=>bif r12 then(j7 true)else((Qx n x0.P (6:Int) x3).bind λr14=>j7 r14))) (λ(s9:Bool)=>some s9)
def Qmv:Option (Qiu):=some (⟨([101,117,108,101,114,10,48,124,10,98,32,49]:List UInt8),([104,101,117,110,10,48,124,10,49,124,49,10,98,32,49,47,50,44,49,47,50,10,101,32,49,44,48]:List UInt8),([109,105,100,112,111,105,110,116,10,48,124,10,49,47,50,124,49,47,50,10,98,32,48,44,49,10,101,32,49,44,48]:List UInt8),([114,107,52,10,48,124,10,49,47,50,124,49,47,50,10,49,47,50,124,48,44,49,47,50,10,49,124,48,44,48,44,49,10,98,32,49,47,54,44,49,47,51,44,49,47,51,44,49,47,54]:List UInt8),([98,115,50,51,10,48,124,10,49,47,50,124,49,47,50,10,51,47,52,124,48,44,51,47,52,10,49,124,50,47,57,44,49,47,51,44,52,47,57,10,98,32,50,47,57,44,49,47,51,44,52,47,57,44,48,10,101,32,55,47,50,52,44,49,47,52,44,49,47,51,44,49,47,56]:List UInt8),([100,112,52,53,10,48,124,10,49,47,53,124,49,47,53,10,51,47,49,48,124,51,47,52,48,44,57,47,52,48,10,52,47,53,124,52,52,47,52,53,44,45,53,54,47,49,53,44,51,50,47,57,10,56,47,57,124,49,57,51,55,50,47,54,53,54,49,44,45,50,53,51,54,48,47,50,49,56,55,44,54,52,52,52,56,47,54,53,54,49,44,45,50,49,50,47,55,50,57,10,49,124,57,48,49,55,47,51,49,54,56,44,45,51,53,53,47,51,51,44,52,54,55,51,50,47,53,50,52,55,44,52,57,47,49,55,54,44,45,53,49,48,51,47,49,56,54,53,54,10,49,124,51,53,47,51,56,52,44,48,44,53,48,48,47,49,49,49,51,44,49,50,53,47,49,57,50,44,45,50,49,56,55,47,54,55,56,52,44,49,49,47,56,52,10,98,32,51,53,47,51,56,52,44,48,44,53,48,48,47,49,49,49,51,44,49,50,53,47,49,57,50,44,45,50,49,56,55,47,54,55,56,52,44,49,49,47,56,52,44,48,10,101,32,53,49,55,57,47,53,55,54,48,48,44,48,44,55,53,55,49,47,49,54,54,57,53,44,51,57,51,47,54,52,48,44,45,57,50,48,57,55,47,51,51,57,50,48,48,44,49,56,55,47,50,49,48,48,44,49,47,52,48]:List UInt8)⟩:Qiu)
def Qn5(x0:(List UInt8)):Option ((List UInt8)):=(Qge x0 ([10]:List UInt8)).bind λr1=>some r1.1
def Zp(x0:J5):Option ((List UInt8)×Int×Bool×J5):=bif x0.over then(some (([]:List UInt8),x0.at_,false,x0))else((Qge x0.rest ([10]:List UInt8)).bind λr1=>jn (λ(j3:(J5)->Option _)=>bif r1.2.2 then(j3 (⟨r1.2.1,wrap64 ((wrap64 (x0.at_+(r1.1.length:Int)))+(1:Int)),!r1.2.2⟩:J5))else(j3 (⟨r1.2.1,wrap64 (x0.at_+(r1.1.length:Int)),!r1.2.2⟩:J5))) (λ(s5:J5)=>some (r1.1,x0.at_,true,s5)))
def Qc8(x0:J5)(x1:(List UInt8))(x2:Int):Option (J5):=(sub x1 x2 (x1.length:Int)).bind λy1=>some (⟨y1,x2,false⟩:J5)
def Ye(x0:(List UInt8))(x1:(List UInt8)):Option (Bool):=jn (λ(j3:(Bool)->Option _)=>bif decide ((x1.length:Int)≤(x0.length:Int)) then((sub x0 (0:Int) (x1.length:Int)).bind λy6=>j3 (decide (y6=x1)))else(j3 false)) (λ(s5:Bool)=>some s5)
def Qaf(x0:(List UInt8))(x1:(List UInt8)):Option ((List UInt8)×Bool):=(Ye x0 x1).bind λr1=>bif !r1 then(some (x0,false))else((sub x0 (x1.length:Int) (x0.length:Int)).bind λy3=>some (y3,true))
def Qc5(x0:(List UInt8))(x1:(List UInt8)):Option ((List UInt8)×Bool):=(Qaf x0 x1).bind λr1=>some (r1.1,r1.2)
def Qn6(n:Nat)(x0:(List UInt8)):Option (Qg×Qc):=(Qc5 x0 ([45]:List UInt8)).bind λr1=>(Qjg n r1.1).bind λr3=>bif !(Qo r3.2 (⟨0,0,0,0⟩:Qc)) then(some ((⟨false,[]⟩:Qg),(⟨r3.2.Aq,r3.2.Step,r3.2.Ax,wrap64 (r3.2.At+(wrap64 ((x0.length:Int) - (r1.1.length:Int))))⟩:Qc)))else((Ws r1.2 r3.1).bind λr5=>some (r5,(⟨0,0,0,0⟩:Qc)))
def Qbq(n:Nat)(x0:(List UInt8))(x1:Int):Option ((List Nat)×Qc):=(sub x0 x1 (x0.length:Int)).bind λy1=>(Qjg n y1).bind λr3=>jn (λ(j5:(Qc)->Option _)=>bif !(Qo r3.2 (⟨0,0,0,0⟩:Qc)) then(j5 (⟨r3.2.Aq,r3.2.Step,r3.2.Ax,wrap64 (r3.2.At+x1)⟩:Qc))else(j5 r3.2)) (λ(s7:Qc)=>some (r3.1,s7))
def Qmw(n:Nat)(x0:Qg)(x1:(List UInt8))(x2:Int):Option (Qa×Qc):=(Qbq n x1 x2).bind λr1=>bif !(Qo r1.2 (⟨0,0,0,0⟩:Qc)) then((Jp n (0:Int)).bind λr3=>some (r3,r1.2))else((Qkl n x0 r1.1).bind λr5=>bif !r5.2 then(some (r5.1,(⟨(2:Int),0,0,x2⟩:Qc)))else(some (r5.1,(⟨0,0,0,0⟩:Qc))))
def Qgy(x0:(List UInt8))(x1:(List UInt8)):Option (Bool):=(Ye x0 x1).bind λr1=>some r1
def Qmx(n:Nat)(x0:(List Nat)):Option ((List Nat)):=(mkM 4 (0:Nat) (wrap64 ((wrap64 ((2:Int)*(x0.length:Int)))+(1:Int)))).bind λy1=>(rangeL (λ(i21:Nat) (x22:Nat) (s20:(List Nat))=>(sub x0 (wrap64 ((i21:Int)+(1:Int))) (x0.length:Int)).bind λy24=>(Qdn s20 (wrap64 ((wrap64 ((2:Int)*(i21:Int)))+(1:Int))) y24 x22 0).bind λr26=>some (Lp.go r26)) x0 0 y1).bind (lpK λ(s28:(List Nat))=>(Qhe n s28 (1:Int)).bind λr29=>(mkM 4 (0:Nat) (wrap64 ((2:Int)*(x0.length:Int)))).bind λy31=>(rangeL (λ(i57:Nat) (x58:Nat) (s56:(List Nat))=>(Qcf x58 x58 0 0).bind λr60=>(getI s56 (wrap64 ((wrap64 ((2:Int)*(i57:Int)))+(1:Int)))).bind λ_=>(some ((List.set s56 (Int.toNat (wrap64 ((wrap64 ((2:Int)*(i57:Int)))+(1:Int)))) r60.1))).bind λz64=>(getI z64 (wrap64 ((2:Int)*(i57:Int)))).bind λ_=>some (Lp.go (List.set z64 (Int.toNat (wrap64 ((2:Int)*(i57:Int)))) r60.2))) x0 0 y31).bind (lpK λ(s67:(List Nat))=>(Qhd n ([r29,s67]:List (List Nat))).bind λr68=>some r68))
def Qrp(n:Nat)(x0:(List Nat))(x1:Int):Option ((List Nat)×Bool):=(Qds n x0).bind λr1=>jn (λ(j4:(Bool)->Option _)=>bif decide (x1<(0:Int)) then(j4 true)else(bif decide ((1:Int)<r1) then((grd (r1 != 0)).bind λ_=>j4 (decide ((wrap64 (Int.tdiv (65536:Int) r1))<x1)))else(j4 false))) (λ(s6:Bool)=>bif s6 then(some (([]:List Nat),false))else((Zt n 1).bind λr8=>bif decide (r1<(2:Int)) then(jn (λ(j14:((List Nat))->Option _)=>bif decide ((0:Int)<x1) then((Wc n x0).bind λr17=>j14 r17)else(j14 r8)) (λ(s16:(List Nat))=>some (s16,true)))else((Zt n (Int.toNat (x1%18446744073709551616))).bind λr19=>(Qds n r19).bind λr21=>(loopM (λ(s57:(List Nat)×Int)=>bif decide ((0:Int)≤s57.2) then(jn (λ(j64:((List Nat))->Option _)=>(Qmx n s57.1).bind λr67=>(grd (decide (0≤s57.2))).bind λ_=>(some (decide ((wrap64 (andZ (Int.fdiv x1 (2 ^ (min (Int.toNat s57.2) 64))) (1:Int)))=(1:Int)))).bind λz70=>bif z70 then((Qab n r67 x0).bind λr71=>j64 r71)else(j64 r67)) (λ(s66:(List Nat))=>some (Lp.go (s66,wrap64 (s57.2 - (1:Int))))))else(some (Lp.out s57.1))) n (r8,wrap64 (r21 - (1:Int)))).bind λ(t55:(List Nat))=>some (t55,true))))
def Qmy(n:Nat)(x0:Int):Option ((List Nat)):=(Zt n 10).bind λr1=>(Qrp n r1 x0).bind λr3=>some r3.1
def Qkn(n:Nat)(x0:Qg)(x1:Bool)(x2:(List UInt8))(x3:Int):Option (Qa×Qc):=(Qbq n x2 x3).bind λr1=>bif !(Qo r1.2 (⟨0,0,0,0⟩:Qc)) then((Jp n (0:Int)).bind λr3=>some (r3,r1.2))else((Qmy n (wrap64 ((x2.length:Int) - x3))).bind λr5=>(Qab n x0.Az r5).bind λr7=>(Qhd n ([r7,r1.1]:List (List Nat))).bind λr9=>(Qkl n (⟨x1,r9⟩:Qg) r5).bind λr11=>some (r11.1,(⟨0,0,0,0⟩:Qc)))
def Qji(n:Nat)(x0:(List UInt8)):Option (Qa×Qc):=(Qhb x0 ([47,46]:List UInt8)).bind λr1=>jn (λ(j5:((List UInt8))->Option _)=>bif decide ((0:Int)≤r1) then((sub x0 (0:Int) r1).bind λy8=>j5 y8)else(j5 x0)) (λ(s7:(List UInt8))=>(Qn6 n s7).bind λr10=>bif !(Qo r10.2 (⟨0,0,0,0⟩:Qc)) then((Jp n (0:Int)).bind λr12=>some (r12,r10.2))else(bif decide (r1<(0:Int)) then((Zt n 1).bind λr14=>(Qkl n r10.1 r14).bind λr16=>some (r16.1,(⟨0,0,0,0⟩:Qc)))else((getS x0 r1).bind λy18=>bif decide (y18=47) then((Qmw n r10.1 x0 (wrap64 (r1+(1:Int)))).bind λr20=>some (r20.1,r20.2))else((Qgy x0 ([45]:List UInt8)).bind λr22=>(Qkn n r10.1 r22 x0 (wrap64 (r1+(1:Int)))).bind λr24=>some (r24.1,r24.2)))))
def Qfk(x0:Qc)(x1:Int):Option (Qc):=jn (λ(j1:(Qc)->Option _)=>bif !(Qo x0 (⟨0,0,0,0⟩:Qc)) then ( j1 (⟨x0.Aq,x0.Step,x0.Ax,wrap64 (x0.At+x1)⟩:Qc)) else ( j1 x0)) (λ(s3:Qc)=>some s3)
def Qnf(n:Nat)(x0:(List UInt8)):Option ((List Qa)×Qc):=bif decide (x0=([]:List UInt8)) then(some (([]:List Qa),(⟨0,0,0,0⟩:Qc)))else((Qkb x0 ([44]:List UInt8)).bind λr1=>(rangeL (λ(_:Nat) (x22:(List UInt8)) (s20:(List Qa)×Int)=>(Qji n x22).bind λr24=>bif !(Qo r24.2 (⟨0,0,0,0⟩:Qc)) then(some (Lp.out ((([]:List Qa),(⟨r24.2.Aq,r24.2.Step,r24.2.Ax,wrap64 (r24.2.At+s20.2)⟩:Qc)))))else((appM 56 s20.1 ([r24.1]:List Qa)).bind λy26=>some (Lp.go (y26,wrap64 (s20.2+(wrap64 ((x22.length:Int)+(1:Int)))))))) r1 0 (([]:List Qa),(0:Int))).bind (lpK λ(s28:(List Qa)×Int)=>some (s28.1,(⟨0,0,0,0⟩:Qc))))
def Qlx(n:Nat)(x0:(List UInt8))(x1:Int):Option (Qa×(List Qa)×Qc):=(Qge x0 ([124]:List UInt8)).bind λr1=>(Qji n r1.1).bind λr3=>bif !(Qo r3.2 (⟨0,0,0,0⟩:Qc)) then((Qfk r3.2 x1).bind λr5=>some (r3.1,([]:List Qa),r5))else((Qnf n r1.2.1).bind λr7=>(Qfk r7.2 (wrap64 ((wrap64 (x1+(r1.1.length:Int)))+(1:Int)))).bind λr9=>some (r3.1,r7.1,r9))
def Qch(n:Nat)(x0:J5)(x1:(List UInt8))(x2_Name:(List UInt8))(x2_C:(List Qa))(x2_A:(List (List Qa)))(x2_B:(List Qa))(x2_E:(List Qa)):Option (Qc×J5×(List UInt8)×(List Qa)×(List Qa)×(List Qa)×(List (List Qa))):=loopM (λ(s29:J5×(List Qa)×(List (List Qa)))=>(Zp s29.1).bind λr30=>bif !r30.2.2.1 then(some (Lp.out (((⟨0,0,0,0⟩:Qc),r30.2.2.2,x2_Name,x2_B,x2_E,s29.2.1,s29.2.2))))else((Qhc r30.1 ([124]:List UInt8)).bind λr32=>bif !r32 then((Qc8 r30.2.2.2 x1 r30.2.1).bind λr34=>some (Lp.out (((⟨0,0,0,0⟩:Qc),r34,x2_Name,x2_B,x2_E,s29.2.1,s29.2.2))))else((Qlx n r30.1 r30.2.1).bind λr36=>bif !(Qo r36.2.2 (⟨0,0,0,0⟩:Qc)) then(some (Lp.out ((r36.2.2,r30.2.2.2,x2_Name,x2_B,x2_E,s29.2.1,s29.2.2))))else((appM 56 s29.2.1 ([r36.1]:List Qa)).bind λy38=>(appM 24 s29.2.2 ([r36.2.1]:List (List Qa))).bind λy40=>some (Lp.go (r30.2.2.2,y38,y40)))))) n (x0,x2_C,x2_A)
def Qac(n:Nat)(x0:J5)(x1:(List UInt8)):Option ((List Qa)×Qc×J5):=(Zp x0).bind λr1=>(catS x1 ([32]:List UInt8)).bind λy3=>(Qc5 r1.1 y3).bind λr5=>bif !r5.2 then(some (([]:List Qa),(⟨(1:Int),0,0,r1.2.1⟩:Qc),r1.2.2.2))else((Qnf n r5.1).bind λr7=>(Qfk r7.2 (wrap64 ((wrap64 (r1.2.1+(x1.length:Int)))+(1:Int)))).bind λr9=>some (r7.1,r9,r1.2.2.2))
def Qmz(n:Nat)(x0:(List UInt8)):Option (Qv×Qc):=(Zp (⟨x0,0,false⟩:J5)).bind λr1=>(Qgt n (⟨(2:Int),r1.1,0⟩:Qh6)).bind λr3=>bif !r3 then(some ((⟨r1.1,([]:List Qa),([]:List (List Qa)),[],[]⟩:Qv),(⟨(1:Int),0,0,0⟩:Qc)))else((Qch n r1.2.2.2 x0 r1.1 ([]:List Qa) ([]:List (List Qa)) [] []).bind λr5=>bif !(Qo r5.1 (⟨0,0,0,0⟩:Qc)) then(some ((⟨r5.2.2.1,r5.2.2.2.2.2.1,r5.2.2.2.2.2.2,r5.2.2.2.1,r5.2.2.2.2.1⟩:Qv),r5.1))else((Qac n r5.2.1 ([98]:List UInt8)).bind λr7=>jn (λ(j9:(Bool)->Option _)=>bif !(Qo r7.2.1 (⟨0,0,0,0⟩:Qc)) then(j9 true)else(j9 r7.2.2.over)) (λ(s11:Bool)=>bif s11 then(some ((⟨r5.2.2.1,r5.2.2.2.2.2.1,r5.2.2.2.2.2.2,r7.1,r5.2.2.2.2.1⟩:Qv),r7.2.1))else((Qac n r7.2.2 ([101]:List UInt8)).bind λr12=>jn (λ(j14:(Bool)->Option _)=>bif !(Qo r12.2.1 (⟨0,0,0,0⟩:Qc)) then(j14 true)else(j14 r12.2.2.over)) (λ(s16:Bool)=>bif s16 then(some ((⟨r5.2.2.1,r5.2.2.2.2.2.1,r5.2.2.2.2.2.2,r7.1,r12.1⟩:Qv),r12.2.1))else(some ((⟨r5.2.2.1,r5.2.2.2.2.2.1,r5.2.2.2.2.2.2,r7.1,r12.1⟩:Qv),(⟨(1:Int),0,0,r12.2.2.at_⟩:Qc))))))))
def Qly(n:Nat)(x0:(List UInt8)):Option (Qv×Qc):=bif decide ((4000:Int)<(x0.length:Int)) then(some ((⟨[],[],[],[],[]⟩:Qv),(⟨(1:Int),0,0,(4000:Int)⟩:Qc)))else((Qmz n x0).bind λr1=>bif !(Qo r1.2 (⟨0,0,0,0⟩:Qc)) then(some ((⟨[],[],[],[],[]⟩:Qv),r1.2))else((Qcs n r1.1).bind λr3=>bif !decide (r3=(0:Int)) then(some ((⟨[],[],[],[],[]⟩:Qv),(⟨(2:Int),0,0,r3⟩:Qc)))else(some (r1.1,r1.2))))
def Qgv(n:Nat)(x0:(List UInt8)):Option (Qv×Bool):=(Qmv).bind λr1=>(loopM (λ(s17:Int)=>bif decide (s17<(6:Int)) then((getI ([r1.a0,r1.a1,r1.a2,r1.a3,r1.a4,r1.a5]:List (List UInt8)) s17).bind λy18=>(Qn5 y18).bind λr20=>bif decide (r20=x0) then((Qly n y18).bind λr22=>some (Lp.out (Lp.out ((r22.1,true)))))else(some (Lp.go (wrap64 (s17+(1:Int))))))else(some (Lp.out (Lp.go ())))) n (0:Int)).bind (lpK λ(_:Unit)=>some ((⟨[],[],[],[],[]⟩:Qv),false))
def Qhp(n:Nat)(x0:Int)(x1:Int):Option (Qa×Bool):=(Jp n x0).bind λr1=>(Jp n x1).bind λr3=>(Zk n r1 r3).bind λr5=>some (r5.1,r5.2)
def Qn7(n:Nat)(x0:Qg):Option ((List UInt8)):=(Qjh n x0.Az).bind λr1=>(Qbi n x0).bind λr3=>bif decide (r3<(0:Int)) then ( (catS ([45]:List UInt8) r1).bind λy5=>some y5) else ( some r1)
def Qm0(n:Nat)(x0:Qa):Option ((List UInt8)):=(K4 n x0).bind λr1=>(Qn7 n r1.Num).bind λr3=>jn (λ(j15:((List UInt8))->Option _)=>(Zt n 1).bind λr18=>(Qcl n r1.Den r18).bind λr20=>bif !decide (r20=(0:Int)) then((Qjh n r1.Den).bind λr22=>(catS ([47]:List UInt8) r22).bind λy24=>(catS r3 y24).bind λy26=>j15 y26)else(j15 r3)) (λ(s17:(List UInt8))=>some s17)
def Qf6(n:Nat)(x0:(List Qa)):Option ((List UInt8)):=(rangeL (λ(_:Nat) (x20:Qa) (s18:(List (List UInt8)))=>(Qm0 n x20).bind λr22=>(appM 16 s18 ([r22]:List (List UInt8))).bind λy24=>some (Lp.go y24)) x0 0 ([]:List (List UInt8))).bind (lpK λ(s26:(List (List UInt8)))=>(Qlu s26 ([44]:List UInt8)).bind λr27=>some r27)
def Qaj(x0:(List (List Qa)))(x1:Int):Option ((List (List Qa))):=(mkM 24 ([]:(List Qa)) x1).bind λy1=>(rangeL (λ(_:Nat) (x68:(List Qa)) (s66:(List (List Qa)))=>(rangeL (λ(i82:Nat) (_:(List Qa)) (s81:(List (List Qa)))=>(getI s81 (i82:Int)).bind λy85=>(getI x68 (i82:Int)).bind λy87=>(appM 56 y85 ([y87]:List Qa)).bind λy89=>some (Lp.go (List.set s81 (Int.toNat (i82:Int)) y89))) s66 0 s66).bind (lpK λ(s91:(List (List Qa)))=>some (Lp.go s91))) x0 0 y1).bind (lpK λ(s92:(List (List Qa)))=>some s92)
def Qte(n:Nat)(x0:(List Qa))(x1:(List (List Qa)))(x2:Int):Option ((List Qa)×Bool):=jn (λ(j1:(Bool)->Option _)=>bif !decide ((x0.length:Int)=(x1.length:Int)) then(j1 true)else(bif decide (x2<(0:Int)) then(j1 true)else(j1 (decide ((300:Int)<x2))))) (λ(s3:Bool)=>bif s3 then(some (([]:List Qa),false))else((rangeL (λ(_:Nat) (x11:(List Qa)) (_:Unit)=>bif !decide ((x11.length:Int)=x2) then(some (Lp.out ((([]:List Qa),false))))else(some (Lp.go ()))) x1 0 ()).bind (lpK λ(_:Unit)=>(Zj n x2).bind λr14=>(rangeL (λ(i108:Nat) (x109:(List Qa)) (s107:(List Qa))=>(getI x0 (i108:Int)).bind λy111=>(Yq n y111).bind λr113=>bif decide (r113=(0:Int)) then(some (Lp.go s107))else((rangeL (λ(i131:Nat) (x132:Qa) (s130:(List Qa))=>(getI s130 (i131:Int)).bind λy134=>(getI x0 (i108:Int)).bind λy136=>(Vi n y136 x132).bind λr138=>(K1 n y134 r138).bind λr140=>(getI s130 (i131:Int)).bind λ_=>some (Lp.go (List.set s130 (Int.toNat (i131:Int)) r140))) x109 0 s107).bind (lpK λ(s144:(List Qa))=>some (Lp.go s144)))) x1 0 r14).bind (lpK λ(s145:(List Qa))=>some (s145,true)))))
end Go.Proofs.YtkkfedionkhgnaaGreatDoor
