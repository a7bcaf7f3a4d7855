import Derived.Test.YthbndkiddockmaaGreatDoorLibM
set_option maxRecDepth 100000
set_option maxHeartbeats 4000000
namespace Go.Proofs.YthbndkiddockmaaGreatDoor
open Go Go.RowKit
structure Zi where
 Seen:Int
 Peak:Int
structure Ql where
 Count:Zi
 limit:Int
structure Qf where
 Neg:Bool
 Abs:(List Nat)
structure Qc where
 Num:Qf
 Den:(List Nat)
structure Q0 where
 Op:Int
 A:Int
 B:Int
 N:Qc
structure Qx where
 Code:(List Q0)
 Outs:(List Int)
 Dim:Int
 Par:Int
structure Qr where
 Name:(List UInt8)
 C:(List Qc)
 A:(List (List Qc))
 B:(List Qc)
 E:(List Qc)
structure Qs where
 Tape:Qx
 Scheme:Qr
 P:(List Qc)
 Bits:Int
structure Qe where
 Kind:Int
 Step:Int
 Stage:Int
 At:Int
def Q3(x y:Qe):Bool:=((x.Kind == y.Kind) && ((x.Step == y.Step) && ((x.Stage == y.Stage) && ((x.At == y.At) && true))))
structure Yi where
 T:Qc
 Y:(List Qc)
 P:(List Qc)
structure Xd where
 T:Qc
 Y:(List Qc)
 P:(List Qc)
structure J4 where
 op:Int
 a:Int
 b:Int
def Qat(x y:J4):Bool:=((x.op == y.op) && ((x.a == y.a) && ((x.b == y.b) && true)))
structure Qf0 where
 Kind:Int
 Text:(List UInt8)
 At:Int
structure Qhb where
 a0:Nat
 a1:Nat
 a2:Nat
 a3:Nat
 a4:Nat
 a5:Nat
 a6:Nat
 a7:Nat
 a8:Nat
def Qqf:List Nat->Qhb
 | [a0,a1,a2,a3,a4,a5,a6,a7,a8]=>⟨a0,a1,a2,a3,a4,a5,a6,a7,a8⟩
 | _=>(⟨0,0,0,0,0,0,0,0,0⟩:Qhb)
structure J5 where
 T:Qc
 Want:Qc
 H:Qc
 Err:Qc
 Y:(List Qc)
 Ok:Bool
structure Jd where
 Tries:(List J5)
 T:Qc
 Y:(List Qc)
structure Z3 where
 Ys:(List (List Qc))
 Ks:(List (List Qc))
 Next:(List Qc)
 Err:(List Qc)
structure Qa where
 Neg:Bool
 N:(List Nat)
 D:(List Nat)
structure Ja where
 Op:Int
 A:Int
 B:Int
 N:Qa
structure Q6 where
 Code:(List Ja)
 Outs:(List Int)
 Dim:Int
 Par:Int
structure Q4 where
 Name:(List UInt8)
 C:(List Qa)
 A:(List (List Qa))
 B:(List Qa)
 E:(List Qa)
structure J2 where
 T:Qa
 H:Qa
 Y:(List Qa)
structure Qm where
 Tape:Q6
 Scheme:Q4
 P:(List Qa)
 Bits:Int
structure Qgf where
 a0:(List UInt8)
 a1:(List UInt8)
 a2:(List UInt8)
 a3:(List UInt8)
 a4:(List UInt8)
 a5:(List UInt8)
structure Jg where
 rest:(List UInt8)
 at_:Int
 over:Bool
structure Qy where
 Neg:Bool
 Abs:(List Nat)
structure Qg where
 Kind:Int
 Text:(List UInt8)
 At:Int
structure Wj where
 T:Qa
 Y:(List Qa)
 P:(List Qa)
structure Q7 where
 Ys:(List (List Qa))
 Ks:(List (List Qa))
 Next:(List Qa)
 Err:(List Qa)
structure X8 where
 a0:Int
 a1:Int
 a2:Int
structure Qv where
 T:Qa
 Want:Qa
 H:Qa
 Err:Qa
 Y:(List Qa)
 Ok:Bool
structure Qt where
 Tries:(List Qv)
 T:Qa
 Y:(List Qa)
structure Qb2 where
 a0:Int
 a1:Int
 a2:Int
 a3:Int
def Qrb(xs:List Nat):Prop:=xs.length≤maxLen∧∀ x∈xs,(x<4294967296)
def Wt(x:Qa):Prop:=True∧Qrb x.N∧Qrb x.D∧True
def Qc2(x:Ja):Prop:=(-9223372036854775808≤x.Op∧x.Op≤9223372036854775807)∧(-9223372036854775808≤x.A∧x.A≤9223372036854775807)∧(-9223372036854775808≤x.B∧x.B≤9223372036854775807)∧Wt x.N∧True
def Qb3(xs:List Ja):Prop:=xs.length≤maxLen∧∀ x∈xs,Qc2 x
def Qun(xs:List Int):Prop:=xs.length≤maxLen∧∀ x∈xs,(-9223372036854775808≤x∧x≤9223372036854775807)
def Qc3(x:Q6):Prop:=Qb3 x.Code∧Qun x.Outs∧(-9223372036854775808≤x.Dim∧x.Dim≤9223372036854775807)∧(-9223372036854775808≤x.Par∧x.Par≤9223372036854775807)∧True
def Jv(xs:List Qa):Prop:=xs.length≤maxLen∧∀ x∈xs,Wt x
def Qbh(xs:List (List Qa)):Prop:=xs.length≤maxLen∧∀ x∈xs,Jv x
def Qb4(x:Q4):Prop:=(x.Name.length≤maxLen)∧Jv x.C∧Qbh x.A∧Jv x.B∧Jv x.E∧True
def Wy(x:Qm):Prop:=Qc3 x.Tape∧Qb4 x.Scheme∧Jv x.P∧(-9223372036854775808≤x.Bits∧x.Bits≤9223372036854775807)∧True
def Qa0(x:J2):Prop:=Wt x.T∧Wt x.H∧Jv x.Y∧True
def Qa9(x0:Ql)(x1:Int):Option (Ql):=
 some (⟨(⟨wrap64 (x0.Count.Seen+(1:Int)),max x0.Count.Peak x1⟩:Zi),x0.limit⟩:Ql)
def W0(n:Nat)(x0:(List Nat)):Option ((List Nat)):=
 (loopM (fun(s19:Int)=>
  jn (fun(j22:(Bool)->Option _)=>
   bif decide ((0:Int)<s19) then (
    (getI x0 (wrap64 (s19 - (1:Int)))).bind fun y25=>
    j22 (decide (y25=0)))
   else (
    j22 false)) (fun(s24:Bool)=>
   bif s24 then (
    some (Lp.go (wrap64 (s19 - (1:Int)))))
   else (
    some (Lp.out s19)))) n (x0.length:Int)).bind fun(t17:Int)=>
 (sub x0 (0:Int) t17).bind fun y27=>
 some y27
def Qc4(x0:(List Nat))(x1:Int):Option ((List Nat)):=
 (mkM 4 (0:Nat) (wrap64 ((x0.length:Int)+x1))).bind fun y1=>
 some (cpyL y1 x0)
def Vh(n:Nat)(x0:(List Nat)):Option ((List Nat)):=
 (W0 n x0).bind fun r1=>
 (Qc4 r1 (0:Int)).bind fun r3=>
 some r3
def Qf1(n:Nat)(x0:Nat):Option (Int):=
 (loopM (fun(s15:Nat×Int×Int)=>
  bif decide ((0:Int)<s15.2.2) then (
   jn (fun(j18:(Nat×Int)->Option _)=>
    (grd (decide (0≤s15.2.2))).bind fun _=>
    bif !decide ((s15.1 / 2 ^ (min (Int.toNat s15.2.2) 32))=0) then (
     (grd (decide (0≤s15.2.2))).bind fun _=>
     j18 ((s15.1 / 2 ^ (min (Int.toNat s15.2.2) 32)),wrap64 (s15.2.1+s15.2.2)))
    else (
     j18 (s15.1,s15.2.1))) (fun(s20:Nat×Int)=>
    some (Lp.go (s20.1,s20.2,wrap64 (Int.tdiv s15.2.2 (2:Int))))))
  else (
   some (Lp.out (s15.1,s15.2.1)))) n (x0,(0:Int),(16:Int))).bind fun(t13:Nat×Int)=>
 some (wrap64 (t13.2+(t13.1:Int)))
def Qcr(n:Nat)(x0:(List Nat)):Option (Int):=
 (Vh n x0).bind fun r1=>
 bif decide ((r1.length:Int)=(0:Int)) then (
  some (0:Int))
 else (
  (getI r1 (wrap64 ((r1.length:Int) - (1:Int)))).bind fun y3=>
  (Qf1 n y3).bind fun r5=>
  (some (wrap64 ((wrap64 ((32:Int)*(wrap64 ((r1.length:Int) - (1:Int)))))+r5))).bind fun z7=>
  some z7)
def Xr(n:Nat)(x0:Qc):Option (Int):=
 (Qcr n x0.Num.Abs).bind fun r1=>
 (Qcr n x0.Den).bind fun r3=>
 some (wrap64 (r1+r3))
def W2(n:Nat)(x0:Ql)(x1:Qc):Option (Bool×Ql):=
 (Xr n x1).bind fun r1=>
 (Qa9 x0 r1).bind fun r3=>
 some (decide (r1≤r3.limit),r3)
def Z5(n:Nat)(x0:Ql)(x1:(List Qc)):Option (Int×Bool×Ql):=
 (rangeL (fun(i15:Nat) (x16:Qc) (s14:Ql)=>
  (W2 n s14 x16).bind fun r18=>
  bif !r18.1 then (
   some (Lp.out (((i15:Int),false,r18.2))))
  else (
   some (Lp.go r18.2))) x1 0 x0).bind (lpK fun(s20:Ql)=>
 some ((x1.length:Int),true,s20))
def Y7(n:Nat)(x0:Nat):Option ((List Nat)):=
 (W0 n ([(x0%4294967296),((x0 / 2 ^ 32)%4294967296)]:List Nat)).bind fun r1=>
 some r1
def Vy(x0:Bool)(x1:(List Nat)):Option (Qf):=
 jn (fun(j1:(Qf)->Option _)=>
  bif x0 then (
   j1 (⟨decide ((0:Int)<(x1.length:Int)),x1⟩:Qf))
  else (
   j1 (⟨false,x1⟩:Qf))) (fun(s3:Qf)=>
  some s3)
def Qhx(n:Nat)(x0:Int):Option (Qf):=
 bif decide (x0<(0:Int)) then (
  (some (((18446744073709551616 - (Int.toNat (x0%18446744073709551616)))%18446744073709551616))).bind fun z1=>
  (Y7 n z1).bind fun r2=>
  (Vy true r2).bind fun r4=>
  some r4)
 else (
  (Y7 n (Int.toNat (x0%18446744073709551616))).bind fun r6=>
  (Vy false r6).bind fun r8=>
  some r8)
def Kv(n:Nat)(x0:Int):Option (Qc):=
 (Qhx n x0).bind fun r1=>
 (Y7 n 1).bind fun r3=>
 some (⟨r1,r3⟩:Qc)
def Qf2(n:Nat)(x0:Int):Option ((List Qc)):=
 (mkM 56 ((⟨(⟨false,[]⟩:Qf),[]⟩:Qc):Qc) (min (max x0 (0:Int)) (300:Int))).bind fun y1=>
 (loopM (fun(s15:(List Qc)×Int)=>
  bif decide (s15.2<(min (max x0 (0:Int)) (300:Int))) then (
   (Kv n (0:Int)).bind fun r16=>
   (getI s15.1 s15.2).bind fun _=>
   some (Lp.go ((List.set s15.1 (Int.toNat s15.2) r16),wrap64 (s15.2+(1:Int)))))
  else (
   some (Lp.out s15.1))) n (y1,(0:Int))).bind fun(t13:(List Qc))=>
 some t13
def Qbm(n:Nat)(x0:(List Nat)):Option (Bool):=
 (W0 n x0).bind fun r1=>
 some (decide ((r1.length:Int)=(0:Int)))
def Vc(n:Nat)(x0:Qc):Option (Qf×(List Nat)):=
 (Qbm n x0.Den).bind fun r1=>
 bif r1 then (
  (Y7 n 1).bind fun r3=>
  some ((⟨false,[]⟩:Qf),r3))
 else (
  some (x0.Num,x0.Den))
def Qa5(n:Nat)(x0:Qf):Option (Int):=
 (Qbm n x0.Abs).bind fun r1=>
 bif r1 then (
  some (0:Int))
 else (
  bif x0.Neg then (
   some (-1:Int))
  else (
   some (1:Int)))
def Qbs(n:Nat)(x0:Qc):Option (Int):=
 (Vc n x0).bind fun r1=>
 (Qa5 n r1.1).bind fun r3=>
 some r3
def Qbn(x0:Nat)(x1:Nat)(x2:Nat)(x3:Nat):Option (Nat×Nat):=
 (some (((((((x0*x1)%18446744073709551616)+x2)%18446744073709551616)+x3)%18446744073709551616))).bind fun z1=>
 some (((z1 / 2 ^ 32)%4294967296),(z1%4294967296))
def Qcs(x0:(List Nat))(x1:Int)(x2:(List Nat))(x3:Nat)(x4:Nat):Option ((List Nat)):=
 (rangeL (fun(i23:Nat) (x24:Nat) (s22:(List Nat)×Nat)=>
  (getI s22.1 (wrap64 (x1+(i23:Int)))).bind fun y26=>
  (Qbn x3 x24 y26 s22.2).bind fun r28=>
  (getI s22.1 (wrap64 (x1+(i23:Int)))).bind fun _=>
  some (Lp.go ((List.set s22.1 (Int.toNat (wrap64 (x1+(i23:Int)))) r28.2),r28.1))) x2 0 (x0,x4)).bind (lpK fun(s32:(List Nat)×Nat)=>
 (getI s32.1 (wrap64 (x1+(x2.length:Int)))).bind fun _=>
 some (List.set s32.1 (Int.toNat (wrap64 (x1+(x2.length:Int)))) s32.2))
def Zj(n:Nat)(x0:(List Nat))(x1:(List Nat)):Option ((List Nat)):=
 (mkM 4 (0:Nat) (wrap64 ((wrap64 ((x0.length:Int)+(x1.length:Int)))+(1:Int)))).bind fun y1=>
 (rangeL (fun(i17:Nat) (x18:Nat) (s16:(List Nat))=>
  (Qcs s16 (i17:Int) x0 x18 0).bind fun r20=>
  some (Lp.go r20)) x1 0 y1).bind (lpK fun(s22:(List Nat))=>
 (Vh n s22).bind fun r23=>
 some r23)
def Qey(n:Nat)(x0:Qf)(x1:Qf):Option (Qf):=
 (Zj n x0.Abs x1.Abs).bind fun r1=>
 (Vy (x0.Neg != x1.Neg) r1).bind fun r3=>
 some r3
def Qbt(n:Nat)(x0:(List Nat))(x1:(List Nat)):Option (Int):=
 (W0 n x0).bind fun r1=>
 (W0 n x1).bind fun r3=>
 bif decide ((r1.length:Int)<(r3.length:Int)) then (
  some (-1:Int))
 else (
  bif decide ((r3.length:Int)<(r1.length:Int)) then (
   some (1:Int))
  else (
   (loopM (fun(s25:Int)=>
    bif decide ((0:Int)≤s25) then (
     (getI r1 s25).bind fun y26=>
     (getI r3 s25).bind fun y28=>
     bif decide (y26<y28) then (
      some (Lp.out (Lp.out ((-1:Int)))))
     else (
      (getI r1 s25).bind fun y30=>
      (getI r3 s25).bind fun y32=>
      bif decide (y32<y30) then (
       some (Lp.out (Lp.out ((1:Int)))))
      else (
       some (Lp.go (wrap64 (s25 - (1:Int)))))))
    else (
     some (Lp.out (Lp.go ())))) n (wrap64 ((r1.length:Int) - (1:Int)))).bind (lpK fun(_:Unit)=>
   some (0:Int))))
def Qct(x0:Nat)(x1:Nat)(x2:Nat):Option (Nat×Nat×Bool):=
 bif decide (x2≤x0) then (
  some (0,0,false))
 else (
  (grd (x2 != 0)).bind fun _=>
  (grd (x2 != 0)).bind fun _=>
  some ((((((x0*2 ^ 32)%18446744073709551616) ||| x1) / x2)%4294967296),(((((x0*2 ^ 32)%18446744073709551616) ||| x1)%x2)%4294967296),true))
def Qez(n:Nat)(x0:(List Nat))(x1:Nat):Option ((List Nat)×Nat×Bool):=
 bif decide (x1=0) then (
  some (([]:List Nat),0,false))
 else (
  (mkM 4 (0:Nat) (x0.length:Int)).bind fun y1=>
  (loopM (fun(s20:(List Nat)×Nat×Int)=>
   bif decide ((0:Int)≤s20.2.2) then (
    (getI x0 s20.2.2).bind fun y21=>
    (Qct s20.2.1 y21 x1).bind fun r23=>
    (getI s20.1 s20.2.2).bind fun _=>
    some (Lp.go ((List.set s20.1 (Int.toNat s20.2.2) r23.1),r23.2.1,wrap64 (s20.2.2 - (1:Int)))))
   else (
    some (Lp.out (s20.1,s20.2.1)))) n (y1,0,wrap64 ((x0.length:Int) - (1:Int)))).bind fun(t18:(List Nat)×Nat)=>
  (Vh n t18.1).bind fun r27=>
  some (r27,t18.2,true))
def Qfm(n:Nat)(x0:(List Nat))(x1:Int):Option ((List Nat)):=
 (some (wrap64 ((wrap64 (Int.tdiv (min (max x1 (0:Int)) (4096:Int)) (32:Int)))+(x0.length:Int)))).bind fun z1=>
 (mkM 4 (0:Nat) (wrap64 (z1+(1:Int)))).bind fun y2=>
 (rangeL (fun(i36:Nat) (x37:Nat) (s35:(List Nat))=>
  (grd (decide (0≤Int.tmod (min (max x1 (0:Int)) (4096:Int)) (32:Int)))).bind fun _=>
  (some (((x37*2 ^ (min (Int.toNat (Int.tmod (min (max x1 (0:Int)) (4096:Int)) (32:Int))) 64))%18446744073709551616))).bind fun z40=>
  (some (wrap64 ((wrap64 (Int.tdiv (min (max x1 (0:Int)) (4096:Int)) (32:Int)))+(i36:Int)))).bind fun z41=>
  (getI s35 z41).bind fun y42=>
  (getI s35 z41).bind fun _=>
  (some (wrap64 ((wrap64 (Int.tdiv (min (max x1 (0:Int)) (4096:Int)) (32:Int)))+(i36:Int)))).bind fun z46=>
  (getI (List.set s35 (Int.toNat z41) (y42 ||| (z40%4294967296))) (wrap64 (z46+(1:Int)))).bind fun _=>
  (some ((List.set (List.set s35 (Int.toNat z41) (y42 ||| (z40%4294967296))) (Int.toNat (wrap64 (z46+(1:Int)))) ((z40 / 2 ^ 32)%4294967296)))).bind fun z49=>
  some (Lp.go z49)) x0 0 y2).bind (lpK fun(s50:(List Nat))=>
 (Vh n s50).bind fun r51=>
 some r51)
def Yt(x0:Nat)(x1:Nat)(x2:Nat):Option (Nat×Nat):=
 jn (fun(j1:(Nat)->Option _)=>
  bif decide (((x0+x1)%4294967296)<x0) then (
   j1 ((0+1)%4294967296))
  else (
   j1 0)) (fun(s3:Nat)=>
  jn (fun(j4:(Nat)->Option _)=>
   bif decide (((((x0+x1)%4294967296)+x2)%4294967296)<x2) then (
    j4 ((s3+1)%4294967296))
   else (
    j4 s3)) (fun(s6:Nat)=>
   some (((((x0+x1)%4294967296)+x2)%4294967296),s6)))
def Qdn(n:Nat)(x0:Nat)(x1:Nat)(x2:Nat)(x3:Nat)(x4:Nat):Option (Nat):=
 (Qct x0 x1 x3).bind fun r1=>
 jn (fun(j8:(Nat×Nat)->Option _)=>
  bif !r1.2.2 then (
   (Yt x1 x3 0).bind fun r11=>
   jn (fun(j13:(Bool)->Option _)=>
    bif decide (x3<x0) then (
     j13 true)
    else (
     j13 (decide (0<r11.2)))) (fun(s15:Bool)=>
    bif s15 then (
     some 4294967295)
    else (
     j8 (4294967295,r11.1))))
  else (
   j8 (r1.1,r1.2.1))) (fun(s10:Nat×Nat)=>
  (loopM (fun(s34:Nat×Nat)=>
   (Qbn s34.1 x4 0 0).bind fun r35=>
   jn (fun(j37:(Bool)->Option _)=>
    bif decide (r35.1<s34.2) then (
     j37 true)
    else (
     bif decide (r35.1=s34.2) then (
      j37 (decide (r35.2≤x2)))
     else (
      j37 false))) (fun(s39:Bool)=>
    bif s39 then (
     some (Lp.out s34.1))
    else (
     (Yt s34.2 x3 0).bind fun r40=>
     bif decide (0<r40.2) then (
      some (Lp.out ((s34.1+4294967296 - 1)%4294967296)))
     else (
      some (Lp.go (((s34.1+4294967296 - 1)%4294967296),r40.1)))))) n (s10.1,s10.2)).bind fun(t32:Nat)=>
  some t32)
def Qed(x0:Nat)(x1:Nat)(x2:Nat):Option (Nat×Nat):=
 jn (fun(j1:(Nat)->Option _)=>
  bif decide (x0<x1) then (
   j1 ((0+1)%4294967296))
  else (
   j1 0)) (fun(s3:Nat)=>
  jn (fun(j4:(Nat)->Option _)=>
   bif decide (((x0+4294967296 - x1)%4294967296)<x2) then (
    j4 ((s3+1)%4294967296))
   else (
    j4 s3)) (fun(s6:Nat)=>
   (some (((((x0+4294967296 - x1)%4294967296)+4294967296 - x2)%4294967296))).bind fun z7=>
   some (z7,s6)))
def Qbu(x0:(List Nat))(x1:Int)(x2:(List Nat))(x3:Nat):Option (Bool×(List Nat)):=
 (rangeL (fun(i27:Nat) (x28:Nat) (s26:(List Nat)×Nat×Nat)=>
  (Qbn x3 x28 s26.2.1 0).bind fun r30=>
  (getI s26.1 (wrap64 (x1+(i27:Int)))).bind fun y32=>
  (Qed y32 r30.2 s26.2.2).bind fun r34=>
  (getI s26.1 (wrap64 (x1+(i27:Int)))).bind fun _=>
  some (Lp.go ((List.set s26.1 (Int.toNat (wrap64 (x1+(i27:Int)))) r34.1),r30.1,r34.2))) x2 0 (x0,0,0)).bind (lpK fun(s38:(List Nat)×Nat×Nat)=>
 (getI s38.1 (wrap64 (x1+(x2.length:Int)))).bind fun y39=>
 (Qed y39 s38.2.1 s38.2.2).bind fun r41=>
 (getI s38.1 (wrap64 (x1+(x2.length:Int)))).bind fun _=>
 some (decide (0<r41.2),(List.set s38.1 (Int.toNat (wrap64 (x1+(x2.length:Int)))) r41.1)))
def Qc5(x0:(List Nat))(x1:Int)(x2:(List Nat)):Option ((List Nat)):=
 (rangeL (fun(i23:Nat) (x24:Nat) (s22:(List Nat)×Nat)=>
  (getI s22.1 (wrap64 (x1+(i23:Int)))).bind fun y26=>
  (Yt y26 x24 s22.2).bind fun r28=>
  (getI s22.1 (wrap64 (x1+(i23:Int)))).bind fun _=>
  some (Lp.go ((List.set s22.1 (Int.toNat (wrap64 (x1+(i23:Int)))) r28.1),r28.2))) x2 0 (x0,0)).bind (lpK fun(s32:(List Nat)×Nat)=>
 (getI s32.1 (wrap64 (x1+(x2.length:Int)))).bind fun y33=>
 (getI s32.1 (wrap64 (x1+(x2.length:Int)))).bind fun _=>
 (some ((List.set s32.1 (Int.toNat (wrap64 (x1+(x2.length:Int)))) ((y33+s32.2)%4294967296)))).bind fun z37=>
 some z37)
def Qgg(n:Nat)(x0:(List Nat))(x1:(List Nat)):Option ((List Nat)×(List Nat)):=
 (mkM 4 (0:Nat) (wrap64 ((x0.length:Int) - (x1.length:Int)))).bind fun y1=>
 (loopM (fun(s60:(List Nat)×(List Nat)×Int)=>
  bif decide ((0:Int)≤s60.2.2) then (
   (getI s60.1 (wrap64 (s60.2.2+(x1.length:Int)))).bind fun y61=>
   (getI s60.1 (wrap64 ((wrap64 (s60.2.2+(x1.length:Int))) - (1:Int)))).bind fun y63=>
   (getI s60.1 (wrap64 ((wrap64 (s60.2.2+(x1.length:Int))) - (2:Int)))).bind fun y65=>
   (getI x1 (wrap64 ((x1.length:Int) - (1:Int)))).bind fun y67=>
   (getI x1 (wrap64 ((x1.length:Int) - (2:Int)))).bind fun y69=>
   (Qdn n y61 y63 y65 y67 y69).bind fun r71=>
   jn (fun(j77:((List Nat)×Nat)->Option _)=>
    (Qbu s60.1 s60.2.2 x1 r71).bind fun r80=>
    bif r80.1 then (
     (Qc5 r80.2 s60.2.2 x1).bind fun r82=>
     j77 (r82,((r71+4294967296 - 1)%4294967296)))
    else (
     j77 (r80.2,r71))) (fun(s79:(List Nat)×Nat)=>
    (getI s60.2.1 s60.2.2).bind fun _=>
    some (Lp.go (s79.1,(List.set s60.2.1 (Int.toNat s60.2.2) s79.2),wrap64 (s60.2.2 - (1:Int))))))
  else (
   some (Lp.out (s60.1,s60.2.1)))) n (x0,y1,wrap64 ((y1.length:Int) - (1:Int)))).bind fun(t58:(List Nat)×(List Nat))=>
 some (t58.2,t58.1)
def Qgh(n:Nat)(x0:(List Nat))(x1:Int):Option ((List Nat)):=
 (some (decide ((x0.length:Int)≤(wrap64 (Int.tdiv (max x1 (0:Int)) (32:Int)))))).bind fun z1=>
 bif z1 then (
  some ([]:List Nat))
 else (
  (some (wrap64 ((x0.length:Int) - (wrap64 (Int.tdiv (max x1 (0:Int)) (32:Int)))))).bind fun z2=>
  (mkM 4 (0:Nat) z2).bind fun y3=>
  (rangeL (fun(i49:Nat) (_:Nat) (s48:(List Nat))=>
   (some (wrap64 ((wrap64 (Int.tdiv (max x1 (0:Int)) (32:Int)))+(i49:Int)))).bind fun z52=>
   (getI x0 z52).bind fun y53=>
   jn (fun(j59:(Nat)->Option _)=>
    (some (wrap64 ((wrap64 (Int.tdiv (max x1 (0:Int)) (32:Int)))+(i49:Int)))).bind fun z62=>
    bif decide ((wrap64 (z62+(1:Int)))<(x0.length:Int)) then (
     (some (wrap64 ((wrap64 (Int.tdiv (max x1 (0:Int)) (32:Int)))+(i49:Int)))).bind fun z63=>
     (getI x0 (wrap64 (z63+(1:Int)))).bind fun y64=>
     j59 (y53 ||| ((y64*2 ^ 32)%18446744073709551616)))
    else (
     j59 y53)) (fun(s61:Nat)=>
    (grd (decide (0≤Int.tmod (max x1 (0:Int)) (32:Int)))).bind fun _=>
    (some ((s61 / 2 ^ (min (Int.toNat (Int.tmod (max x1 (0:Int)) (32:Int))) 64)))).bind fun z67=>
    (getI s48 (i49:Int)).bind fun _=>
    some (Lp.go (List.set s48 (Int.toNat (i49:Int)) (z67%4294967296))))) y3 0 y3).bind (lpK fun(s70:(List Nat))=>
  (Vh n s70).bind fun r71=>
  some r71))
def Qcu(n:Nat)(x0:(List Nat))(x1:(List Nat)):Option ((List Nat)×(List Nat)×Bool):=
 (Vh n x1).bind fun r1=>
 bif decide ((r1.length:Int)=(0:Int)) then (
  some (([]:List Nat),([]:List Nat),false))
 else (
  (Qbt n x0 r1).bind fun r3=>
  bif decide (r3<(0:Int)) then (
   (Vh n x0).bind fun r5=>
   some (([]:List Nat),r5,true))
  else (
   bif decide ((r1.length:Int)=(1:Int)) then (
    (getI r1 (0:Int)).bind fun y7=>
    (Qez n x0 y7).bind fun r9=>
    (Y7 n r9.2.1).bind fun r11=>
    some (r9.1,r11,true))
   else (
    (getI r1 (wrap64 ((r1.length:Int) - (1:Int)))).bind fun y13=>
    (Qf1 n y13).bind fun r15=>
    (Qfm n x0 (wrap64 ((32:Int) - r15))).bind fun r17=>
    (appM 4 r17 ([0]:List Nat)).bind fun y19=>
    (Qfm n r1 (wrap64 ((32:Int) - r15))).bind fun r21=>
    (Qgg n y19 r21).bind fun r23=>
    (Vh n r23.1).bind fun r25=>
    (Qgh n r23.2 (wrap64 ((32:Int) - r15))).bind fun r27=>
    some (r25,r27,true))))
def Qe0(n:Nat)(x0:(List Nat)):Option (Nat×Bool):=
 (W0 n x0).bind fun r1=>
 bif decide ((2:Int)<(r1.length:Int)) then (
  some (0,false))
 else (
  (rangeL (fun(i17:Nat) (x18:Nat) (s16:Nat)=>
   (grd (decide (0≤wrap64 ((32:Int)*(i17:Int))))).bind fun _=>
   (some (((x18*2 ^ (min (Int.toNat (wrap64 ((32:Int)*(i17:Int)))) 64))%18446744073709551616))).bind fun z21=>
   some (Lp.go (s16 ||| z21))) r1 0 0).bind (lpK fun(s22:Nat)=>
  some (s22,true)))
def Qdo(n:Nat)(x0:Nat)(x1:Nat):Option (Nat):=
 (loopM (fun(s7:Nat×Nat)=>
  bif !decide (s7.2=0) then (
   (grd (s7.2 != 0)).bind fun _=>
   some (Lp.go (s7.2,(s7.1%s7.2))))
  else (
   some (Lp.out s7.1))) n (x0,x1)).bind fun(t5:Nat)=>
 some t5
def Qfn(n:Nat)(x0:(List Nat))(x1:(List Nat)):Option ((List Nat)):=
 (Vh n x0).bind fun r1=>
 (Vh n x1).bind fun r3=>
 (loopM (fun(s19:(List Nat)×(List Nat))=>
  bif decide ((2:Int)<(s19.2.length:Int)) then (
   (Qcu n s19.1 s19.2).bind fun r20=>
   some (Lp.go (s19.2,r20.2.1)))
  else (
   some (Lp.out (s19.1,s19.2)))) n (r1,r3)).bind fun(t17:(List Nat)×(List Nat))=>
 bif decide ((t17.2.length:Int)=(0:Int)) then (
  some t17.1)
 else (
  (Qcu n t17.1 t17.2).bind fun r22=>
  (Qe0 n t17.2).bind fun r24=>
  (Qe0 n r22.2.1).bind fun r26=>
  (Qdo n r24.1 r26.1).bind fun r28=>
  (Y7 n r28).bind fun r30=>
  some r30)
def Qfo(x0:(List Nat)):Option (Bool):=
 jn (fun(j3:(Bool)->Option _)=>
  bif decide ((x0.length:Int)=(1:Int)) then (
   (getI x0 (0:Int)).bind fun y6=>
   j3 (decide (y6=1)))
  else (
   j3 false)) (fun(s5:Bool)=>
  some s5)
def Qcv(n:Nat)(x0:(List Nat))(x1:(List Nat)):Option ((List Nat)×(List Nat)):=
 (Qfn n x0 x1).bind fun r1=>
 bif decide ((r1.length:Int)=(0:Int)) then (
  some (([]:List Nat),([]:List Nat)))
 else (
  (Qfo r1).bind fun r3=>
  bif r3 then (
   (Vh n x0).bind fun r5=>
   (Vh n x1).bind fun r7=>
   some (r5,r7))
  else (
   (Qcu n x0 r1).bind fun r9=>
   (Qcu n x1 r1).bind fun r11=>
   some (r9.1,r11.1)))
def Z6(n:Nat)(x0:Qf):Option (Qf):=
 (Vh n x0.Abs).bind fun r3=>
 (Vy x0.Neg r3).bind fun r5=>
 some r5
def Yr(n:Nat)(x0:Qf)(x1:(List Nat)):Option (Qc):=
 (Qcv n x0.Abs x1).bind fun r1=>
 (Z6 n (⟨x0.Neg,r1.1⟩:Qf)).bind fun r3=>
 some (⟨r3,r1.2⟩:Qc)
def Qbo(n:Nat)(x0:Qc)(x1:Qc):Option (Qc):=
 (Vc n x0).bind fun r1=>
 (Vc n x1).bind fun r3=>
 (Qey n r1.1 r3.1).bind fun r5=>
 (Zj n r1.2 r3.2).bind fun r7=>
 (Yr n r5 r7).bind fun r9=>
 some r9
def Yj(n:Nat)(x0:Qf)(x1:(List Nat)):Option (Qf):=
 (Qey n x0 (⟨false,x1⟩:Qf)).bind fun r1=>
 some r1
def Qee(n:Nat)(x0:(List Nat))(x1:(List Nat)):Option ((List Nat)):=
 jn (fun(j1:((List Nat)×(List Nat))->Option _)=>
  bif decide ((x0.length:Int)<(x1.length:Int)) then (
   j1 (x1,x0))
  else (
   j1 (x0,x1))) (fun(s3:(List Nat)×(List Nat))=>
  (Qc4 s3.1 (1:Int)).bind fun r4=>
  (rangeL (fun(i38:Nat) (x39:Nat) (s37:(List Nat)×Nat)=>
   jn (fun(j43:(Nat)->Option _)=>
    bif decide ((i38:Int)<(s3.2.length:Int)) then (
     (getI s3.2 (i38:Int)).bind fun y46=>
     j43 y46)
    else (
     j43 0)) (fun(s45:Nat)=>
    (Yt x39 s45 s37.2).bind fun r48=>
    (getI s37.1 (i38:Int)).bind fun _=>
    some (Lp.go ((List.set s37.1 (Int.toNat (i38:Int)) r48.1),r48.2)))) s3.1 0 (r4,0)).bind (lpK fun(s52:(List Nat)×Nat)=>
  (getI s52.1 (s3.1.length:Int)).bind fun _=>
  (W0 n (List.set s52.1 (Int.toNat (s3.1.length:Int)) s52.2)).bind fun r55=>
  some r55))
def Qfp(n:Nat)(x0:(List (List Nat))):Option ((List Nat)):=
 (rangeL (fun(_:Nat) (x20:(List Nat)) (s18:(List Nat))=>
  (W0 n x20).bind fun r22=>
  (Qee n s18 r22).bind fun r24=>
  some (Lp.go r24)) x0 0 ([]:List Nat)).bind (lpK fun(s26:(List Nat))=>
 some s26)
def Qjx(n:Nat)(x0:(List Nat))(x1:(List Nat)):Option ((List Nat)×Bool):=
 (W0 n x0).bind fun r1=>
 (W0 n x1).bind fun r3=>
 (Qbt n r1 r3).bind fun r5=>
 bif decide (r5<(0:Int)) then (
  some (([]:List Nat),false))
 else (
  (Qc4 r1 (0:Int)).bind fun r7=>
  (rangeL (fun(i41:Nat) (x42:Nat) (s40:(List Nat)×Nat)=>
   jn (fun(j46:(Nat)->Option _)=>
    bif decide ((i41:Int)<(r3.length:Int)) then (
     (getI r3 (i41:Int)).bind fun y49=>
     j46 y49)
    else (
     j46 0)) (fun(s48:Nat)=>
    (Qed x42 s48 s40.2).bind fun r51=>
    (getI s40.1 (i41:Int)).bind fun _=>
    some (Lp.go ((List.set s40.1 (Int.toNat (i41:Int)) r51.1),r51.2)))) r1 0 (r7,0)).bind (lpK fun(s55:(List Nat)×Nat)=>
  (W0 n s55.1).bind fun r56=>
  some (r56,true)))
def Qjy(n:Nat)(x0:(List Nat))(x1:(List Nat)):Option ((List Nat)×Int):=
 (Qbt n x0 x1).bind fun r1=>
 jn (fun(j3:((List Nat)×(List Nat))->Option _)=>
  bif decide (r1<(0:Int)) then (
   j3 (x1,x0))
  else (
   j3 (x0,x1))) (fun(s5:(List Nat)×(List Nat))=>
  (Qjx n s5.1 s5.2).bind fun r6=>
  some (r6.1,r1))
def Qe1(n:Nat)(x0:Qf)(x1:Qf):Option (Qf):=
 bif (x0.Neg == x1.Neg) then (
  (Qfp n ([x0.Abs,x1.Abs]:List (List Nat))).bind fun r1=>
  (Vy x0.Neg r1).bind fun r3=>
  some r3)
 else (
  (Qjy n x0.Abs x1.Abs).bind fun r5=>
  bif decide (r5.2<(0:Int)) then (
   (Vy x1.Neg r5.1).bind fun r7=>
   some r7)
  else (
   (Vy x0.Neg r5.1).bind fun r9=>
   some r9))
def X9(n:Nat)(x0:Qc)(x1:Qc):Option (Qc):=
 (Vc n x0).bind fun r1=>
 (Vc n x1).bind fun r3=>
 (Yj n r1.1 r3.2).bind fun r5=>
 (Yj n r3.1 r1.2).bind fun r7=>
 (Qe1 n r5 r7).bind fun r9=>
 (Zj n r1.2 r3.2).bind fun r11=>
 (Yr n r9 r11).bind fun r13=>
 some r13
def Qhy(n:Nat)(x0:(List Qc))(x1:(List (List Qc)))(x2:Int):Option ((List Qc)×Bool):=
 jn (fun(j1:(Bool)->Option _)=>
  bif !decide ((x0.length:Int)=(x1.length:Int)) then (
   j1 true)
  else (
   bif decide (x2<(0:Int)) then (
    j1 true)
   else (
    j1 (decide ((300:Int)<x2))))) (fun(s3:Bool)=>
  bif s3 then (
   some (([]:List Qc),false))
  else (
   (rangeL (fun(_:Nat) (x11:(List Qc)) (_:Unit)=>
    bif !decide ((x11.length:Int)=x2) then (
     some (Lp.out ((([]:List Qc),false))))
    else (
     some (Lp.go ()))) x1 0 ()).bind (lpK fun(_:Unit)=>
   (Qf2 n x2).bind fun r14=>
   (rangeL (fun(i108:Nat) (x109:(List Qc)) (s107:(List Qc))=>
    (getI x0 (i108:Int)).bind fun y111=>
    (Qbs n y111).bind fun r113=>
    bif decide (r113=(0:Int)) then (
     some (Lp.go s107))
    else (
     (rangeL (fun(i131:Nat) (x132:Qc) (s130:(List Qc))=>
      (getI s130 (i131:Int)).bind fun y134=>
      (getI x0 (i108:Int)).bind fun y136=>
      (Qbo n y136 x132).bind fun r138=>
      (X9 n y134 r138).bind fun r140=>
      (getI s130 (i131:Int)).bind fun _=>
      some (Lp.go (List.set s130 (Int.toNat (i131:Int)) r140))) x109 0 s107).bind (lpK fun(s144:(List Qc))=>
     some (Lp.go s144)))) x1 0 r14).bind (lpK fun(s145:(List Qc))=>
   some (s145,true)))))
def Qbv(n:Nat)(x0:Qc)(x1:(List Qc)):Option ((List Qc)):=
 (rangeL (fun(_:Nat) (x20:Qc) (s18:(List Qc))=>
  (Qbo n x0 x20).bind fun r22=>
  (appM 56 s18 ([r22]:List Qc)).bind fun y24=>
  some (Lp.go y24)) x1 0 ([]:List Qc)).bind (lpK fun(s26:(List Qc))=>
 some s26)
def K9(n:Nat)(x0_p:Qs)(x0_t:Qc)(x0_h:Qc)(x0_y:(List Qc))(x0_g:Ql)(x0_out_Ys:(List (List Qc)))(x0_out_Ks:(List (List Qc)))(x0_out_Next:(List Qc))(x0_out_Err:(List Qc))(x1:(List Qc)):Option ((List Qc)):=
 (Qhy n x1 x0_out_Ks (x0_y.length:Int)).bind fun r1=>
 (Qbv n x0_h r1.1).bind fun r3=>
 some r3
def Kw(n:Nat)(x0:Qc):Option (Qc):=
 (Vc n x0).bind fun r1=>
 (Yr n r1.1 r1.2).bind fun r3=>
 some r3
def Qhz(n:Nat)(x0:(List Qc)):Option ((List Qc)):=
 (rangeL (fun(_:Nat) (x20:Qc) (s18:(List Qc))=>
  (Kw n x20).bind fun r22=>
  (appM 56 s18 ([r22]:List Qc)).bind fun y24=>
  some (Lp.go y24)) x0 0 ([]:List Qc)).bind (lpK fun(s26:(List Qc))=>
 some s26)
def Qhc(n:Nat)(x0:(List (List Qc))):Option ((List Qc)×Bool):=
 bif decide ((x0.length:Int)=(0:Int)) then (
  some (([]:List Qc),true))
 else (
  (getI x0 (0:Int)).bind fun y1=>
  (Qhz n y1).bind fun r3=>
  (sub x0 (1:Int) (x0.length:Int)).bind fun y5=>
  (rangeL (fun(_:Nat) (x72:(List Qc)) (s70:(List Qc))=>
   bif !decide ((x72.length:Int)=(s70.length:Int)) then (
    some (Lp.out ((([]:List Qc),false))))
   else (
    (rangeL (fun(i86:Nat) (x87:Qc) (s85:(List Qc))=>
     (getI s85 (i86:Int)).bind fun y89=>
     (X9 n y89 x87).bind fun r91=>
     (getI s85 (i86:Int)).bind fun _=>
     some (Lp.go (List.set s85 (Int.toNat (i86:Int)) r91))) x72 0 s70).bind (lpK fun(s95:(List Qc))=>
    some (Lp.go s95)))) y5 0 r3).bind (lpK fun(s96:(List Qc))=>
  some (s96,true)))
def Xl(n:Nat)(x0_p:Qs)(x0_t:Qc)(x0_h:Qc)(x0_y:(List Qc))(x0_g:Ql)(x0_out_Ys:(List (List Qc)))(x0_out_Ks:(List (List Qc)))(x0_out_Next:(List Qc))(x0_out_Err:(List Qc))(x1:(List Qc)):Option ((List Qc)):=
 (K9 n x0_p x0_t x0_h x0_y x0_g x0_out_Ys x0_out_Ks x0_out_Next x0_out_Err x1).bind fun r3=>
 (Qhc n ([x0_y,r3]:List (List Qc))).bind fun r5=>
 some r5.1
def Vq(n:Nat)(x0_p:Qs)(x0_t:Qc)(x0_h:Qc)(x0_y:(List Qc))(x0_g:Ql)(x0_out_Ys:(List (List Qc)))(x0_out_Ks:(List (List Qc)))(x0_out_Next:(List Qc))(x0_out_Err:(List Qc))(x1:(List Qc))(x2:Int):Option (Qe×Ql):=
 (Z5 n x0_g x1).bind fun r1=>
 bif !r1.2.1 then (
  some ((⟨(6:Int),0,x2,wrap64 ((300:Int)+r1.1)⟩:Qe),r1.2.2))
 else (
  some ((⟨0,0,0,0⟩:Qe),r1.2.2))
def Qep(n:Nat)(x0:Qs)(x1:Qc)(x2:Qc)(x3:Int):Option (Qc):=
 jn (fun(j1:(Bool)->Option _)=>
  bif decide (x3<(0:Int)) then (
   j1 true)
  else (
   j1 (decide ((x0.Scheme.C.length:Int)≤x3)))) (fun(s3:Bool)=>
  bif s3 then (
   (Kw n x1).bind fun r4=>
   some r4)
  else (
   (getI x0.Scheme.C x3).bind fun y6=>
   (Qbo n x2 y6).bind fun r8=>
   (X9 n x1 r8).bind fun r10=>
   some r10))
def Qmh(x0:Qs)(x1:Qc)(x2:(List Qc)):Option (Yi):=
 some (⟨x1,x2,x0.P⟩:Yi)
def Qfq(n:Nat)(x0:(List Qc)):Option ((List Qc)):=
 (rangeL (fun(_:Nat) (x20:Qc) (s18:(List Qc))=>
  (Kw n x20).bind fun r22=>
  (appM 56 s18 ([r22]:List Qc)).bind fun y24=>
  some (Lp.go y24)) x0 0 ([]:List Qc)).bind (lpK fun(s26:(List Qc))=>
 some s26)
def Qjq(n:Nat)(x0:Yi):Option (Yi):=
 (Kw n x0.T).bind fun r1=>
 (Qfq n x0.Y).bind fun r3=>
 (Qfq n x0.P).bind fun r5=>
 some (⟨r1,r3,r5⟩:Yi)
def Qe2(x0:Int):Option (Ql):=
 some (⟨(⟨0,0⟩:Zi),min (max x0 (0:Int)) (4096:Int)⟩:Ql)
def Yk(x0:Int)(x1:Int):Option (Bool):=
 jn (fun(j1:(Bool)->Option _)=>
  bif decide ((0:Int)≤x0) then (
   j1 (decide (x0<x1)))
  else (
   j1 false)) (fun(s3:Bool)=>
  some s3)
def Qfr(x0:Qx):Option (Bool):=
 jn (fun(j5:(Bool)->Option _)=>
  (Yk (wrap64 (x0.Dim - (1:Int))) (6:Int)).bind fun r8=>
  bif r8 then (
   (Yk x0.Par (7:Int)).bind fun r10=>
   bif r10 then (
    bif decide ((x0.Outs.length:Int)=x0.Dim) then (
     j5 (decide ((x0.Code.length:Int)≤(300:Int))))
    else (
     j5 false))
   else (
    j5 false))
  else (
   j5 false)) (fun(s7:Bool)=>
  some s7)
def Qhd(x0:Q0):Option (J4):=
 some (⟨x0.Op,x0.A,x0.B⟩:J4)
def Yl(n:Nat)(x0:Qc):Option (Bool):=
 (Kw n x0).bind fun r1=>
 jn (fun(j7:(Bool)->Option _)=>
  bif (x0.Num.Neg == r1.Num.Neg) then (
   bif decide ((x0.Num.Abs.length:Int)=(r1.Num.Abs.length:Int)) then (
    bif decide ((x0.Den.length:Int)=(r1.Den.length:Int)) then (
     (Qbt n x0.Num.Abs r1.Num.Abs).bind fun r10=>
     bif decide (r10=(0:Int)) then (
      (Qbt n x0.Den r1.Den).bind fun r12=>
      j7 (decide (r12=(0:Int))))
     else (
      j7 false))
    else (
     j7 false))
   else (
    j7 false))
  else (
   j7 false)) (fun(s9:Bool)=>
  some s9)
def Qfs(x0:Qc):Option (Bool):=
 jn (fun(j1:(Bool)->Option _)=>
  bif !x0.Num.Neg then (
   bif decide ((x0.Num.Abs.length:Int)=(0:Int)) then (
    j1 (decide ((x0.Den.length:Int)=(0:Int))))
   else (
    j1 false))
  else (
   j1 false)) (fun(s3:Bool)=>
  some s3)
def Qdp(x0:Q0):Option ((List Int)):=
 jn (fun(j1:(Bool)->Option _)=>
  bif decide (x0.Op=(6:Int)) then (
   j1 (decide (x0.Op=(6:Int))))
  else (
   j1 (decide (x0.Op=(11:Int))))) (fun(s3:Bool)=>
  bif s3 then (
   some ([x0.A]:List Int))
  else (
   jn (fun(j4:(Bool)->Option _)=>
    bif decide (x0.Op=(7:Int)) then (
     j4 (decide (x0.Op=(7:Int))))
    else (
     bif decide (x0.Op=(8:Int)) then (
      j4 (decide (x0.Op=(8:Int))))
     else (
      bif decide (x0.Op=(9:Int)) then (
       j4 (decide (x0.Op=(9:Int))))
      else (
       j4 (decide (x0.Op=(10:Int))))))) (fun(s6:Bool)=>
    bif s6 then (
     some ([x0.A,x0.B]:List Int))
    else (
     some ([]:List Int)))))
def Qf3(n:Nat)(x0:Qx)(x1:Int):Option (Bool):=
 (getI x0.Code x1).bind fun y1=>
 bif decide (y1.Op=(1:Int)) then (
  jn (fun(j7:(Bool)->Option _)=>
   (Qhd y1).bind fun r10=>
   bif (Qat r10 (⟨(1:Int),0,0⟩:J4)) then (
    (Yl n y1.N).bind fun r12=>
    j7 r12)
   else (
    j7 false)) (fun(s9:Bool)=>
   some s9))
 else (
  (Qfs y1.N).bind fun r14=>
  bif !r14 then (
   some false)
  else (
   (Qdp y1).bind fun r16=>
   (rangeL (fun(_:Nat) (x27:Int) (_:Unit)=>
    (Yk x27 x1).bind fun r29=>
    bif !r29 then (
     some (Lp.out (false)))
    else (
     some (Lp.go ()))) r16 0 ()).bind (lpK fun(_:Unit)=>
   bif decide (y1.Op=(2:Int)) then (
    (Qhd y1).bind fun r32=>
    some (Qat r32 (⟨(2:Int),0,0⟩:J4)))
   else (
    bif decide (y1.Op=(3:Int)) then (
     jn (fun(j36:(Bool)->Option _)=>
      (Yk y1.A x0.Dim).bind fun r39=>
      bif r39 then (
       j36 (decide (y1.B=(0:Int))))
      else (
       j36 false)) (fun(s38:Bool)=>
      some s38))
    else (
     bif decide (y1.Op=(4:Int)) then (
      jn (fun(j43:(Bool)->Option _)=>
       (Yk y1.A x0.Par).bind fun r46=>
       bif r46 then (
        j43 (decide (y1.B=(0:Int))))
       else (
        j43 false)) (fun(s45:Bool)=>
       some s45))
     else (
      bif decide (y1.Op=(6:Int)) then (
       some (decide (y1.B=(0:Int))))
      else (
       bif decide (y1.Op=(11:Int)) then (
        jn (fun(j48:(Bool)->Option _)=>
         bif decide ((-8:Int)≤y1.B) then (
          j48 (decide (y1.B≤(8:Int))))
         else (
          j48 false)) (fun(s50:Bool)=>
         some s50))
       else (
        (Qdp y1).bind fun r51=>
        some (decide ((r51.length:Int)=(2:Int)))))))))))
def Qh0(n:Nat)(x0:Qx):Option (Int):=
 (Qfr x0).bind fun r1=>
 bif !r1 then (
  some (-2:Int))
 else (
  (rangeL (fun(i11:Nat) (_:Q0) (_:Unit)=>
   (Qf3 n x0 (i11:Int)).bind fun r14=>
   bif !r14 then (
    some (Lp.out ((i11:Int))))
   else (
    some (Lp.go ()))) x0.Code 0 ()).bind (lpK fun(_:Unit)=>
  (rangeL (fun(_:Nat) (x26:Int) (_:Unit)=>
   (Yk x26 (x0.Code.length:Int)).bind fun r28=>
   bif !r28 then (
    some (Lp.out ((x0.Code.length:Int))))
   else (
    some (Lp.go ()))) x0.Outs 0 ()).bind (lpK fun(_:Unit)=>
  some (-1:Int))))
def Z7(n:Nat)(x0:Qx):Option (Bool):=
 (Qh0 n x0).bind fun r1=>
 some (decide (r1=(-1:Int)))
def Qe3(n:Nat)(x0:Qf):Option (Qf):=
 (Vh n x0.Abs).bind fun r3=>
 (Vy (!x0.Neg) r3).bind fun r5=>
 some r5
def Qh1(n:Nat)(x0:Qc):Option (Qc):=
 (Kw n x0).bind fun r1=>
 (Qe3 n r1.Num).bind fun r3=>
 some (⟨r3,r1.Den⟩:Qc)
def Qde(n:Nat)(x0_g:Ql)(x1:Qc):Option (Qc):=
 (Qh1 n x1).bind fun r1=>
 some r1
def Qdq(n:Nat)(x0:(List Nat))(x1:Int):Option ((List Nat)):=
 (Y7 n 1).bind fun r1=>
 (loopM (fun(s11:(List Nat)×Int)=>
  bif decide (s11.2<x1) then (
   (Zj n s11.1 x0).bind fun r12=>
   some (Lp.go (r12,wrap64 (s11.2+(1:Int)))))
  else (
   some (Lp.out s11.1))) n (r1,(0:Int))).bind fun(t9:(List Nat))=>
 some t9
def Qh2(n:Nat)(x0:Qc)(x1:Int):Option (Qc×Bool):=
 jn (fun(j3:(Bool)->Option _)=>
  bif decide (x1<(-8:Int)) then (
   j3 true)
  else (
   bif decide ((8:Int)<x1) then (
    j3 true)
   else (
    bif decide (x1<(0:Int)) then (
     (Qbs n x0).bind fun r6=>
     j3 (decide (r6=(0:Int))))
    else (
     j3 false)))) (fun(s5:Bool)=>
  bif s5 then (
   (Kv n (0:Int)).bind fun r8=>
   some (r8,false))
  else (
   (Kw n x0).bind fun r10=>
   (Qdq n r10.Num.Abs (max x1 (wrap64 (-x1)))).bind fun r12=>
   (Qdq n r10.Den (max x1 (wrap64 (-x1)))).bind fun r14=>
   jn (fun(j16:((List Nat)×(List Nat))->Option _)=>
    bif decide (x1<(0:Int)) then (
     j16 (r14,r12))
    else (
     j16 (r12,r14))) (fun(s18:(List Nat)×(List Nat))=>
    jn (fun(j23:(Qc)->Option _)=>
     bif r10.Num.Neg then (
      (Z6 n (⟨decide ((Int.tmod (max x1 (wrap64 (-x1))) (2:Int))=(1:Int)),s18.1⟩:Qf)).bind fun r26=>
      j23 (⟨r26,s18.2⟩:Qc))
     else (
      (Z6 n (⟨false,s18.1⟩:Qf)).bind fun r28=>
      j23 (⟨r28,s18.2⟩:Qc))) (fun(s25:Qc)=>
     some (s25,true)))))
def Qdf(n:Nat)(x0_g:Ql)(x1:Qc)(x2:Int):Option (Qc×Bool):=
 (Qh2 n x1 x2).bind fun r1=>
 some (r1.1,r1.2)
def Qdg(n:Nat)(x0_g:Ql)(x1:Qc)(x2:Qc):Option (Qc):=
 (X9 n x1 x2).bind fun r1=>
 some r1
def Qe4(n:Nat)(x0:Qf)(x1:Qf):Option (Qf):=
 (Qe3 n x1).bind fun r1=>
 (Qe1 n x0 r1).bind fun r3=>
 some r3
def Qf4(n:Nat)(x0:Qc)(x1:Qc):Option (Qc):=
 (Vc n x0).bind fun r1=>
 (Vc n x1).bind fun r3=>
 (Yj n r1.1 r3.2).bind fun r5=>
 (Yj n r3.1 r1.2).bind fun r7=>
 (Qe4 n r5 r7).bind fun r9=>
 (Zj n r1.2 r3.2).bind fun r11=>
 (Yr n r9 r11).bind fun r13=>
 some r13
def Qdh(n:Nat)(x0_g:Ql)(x1:Qc)(x2:Qc):Option (Qc):=
 (Qf4 n x1 x2).bind fun r1=>
 some r1
def Qdi(n:Nat)(x0_g:Ql)(x1:Qc)(x2:Qc):Option (Qc):=
 (Qbo n x1 x2).bind fun r1=>
 some r1
def Qef(n:Nat)(x0:Qc)(x1:Qc):Option (Qc×Bool):=
 (Vc n x0).bind fun r1=>
 (Vc n x1).bind fun r3=>
 (Qa5 n r3.1).bind fun r5=>
 bif decide (r5=(0:Int)) then (
  (Kv n (0:Int)).bind fun r7=>
  some (r7,false))
 else (
  (Yj n r1.1 r3.2).bind fun r9=>
  (Zj n r1.2 r3.1.Abs).bind fun r11=>
  (Yr n (⟨(r9.Neg != r3.1.Neg),r9.Abs⟩:Qf) r11).bind fun r13=>
  some (r13,true))
def Qdj(n:Nat)(x0_g:Ql)(x1:Qc)(x2:Qc):Option (Qc×Bool):=
 (Qef n x1 x2).bind fun r1=>
 some (r1.1,r1.2)
def Qeg(n:Nat)(x0_g:Ql)(x1:Qc):Option (Qc):=
 (Kw n x1).bind fun r1=>
 some r1
def Vi(n:Nat)(x0_Arith_g:Ql)(x1:Q0)(x2:Xd):Option (Qc):=
 bif decide (x1.Op=(1:Int)) then (
  (Qeg n x0_Arith_g x1.N).bind fun r1=>
  some r1)
 else (
  bif decide (x1.Op=(3:Int)) then (
   (getI x2.Y x1.A).bind fun y3=>
   some y3)
  else (
   bif decide (x1.Op=(4:Int)) then (
    (getI x2.P x1.A).bind fun y5=>
    some y5)
   else (
    some x2.T)))
def Jz(n:Nat)(x0_Arith_g:Ql)(x1:Q0)(x2:Xd)(x3:(List Qc)):Option (Qc×Bool):=
 bif decide (x1.Op=(6:Int)) then (
  (getI x3 x1.A).bind fun y1=>
  (Qde n x0_Arith_g y1).bind fun r3=>
  some (r3,true))
 else (
  bif decide (x1.Op=(11:Int)) then (
   (getI x3 x1.A).bind fun y5=>
   (Qdf n x0_Arith_g y5 x1.B).bind fun r7=>
   some (r7.1,r7.2))
  else (
   bif decide (x1.Op=(7:Int)) then (
    (getI x3 x1.A).bind fun y9=>
    (getI x3 x1.B).bind fun y11=>
    (Qdg n x0_Arith_g y9 y11).bind fun r13=>
    some (r13,true))
   else (
    bif decide (x1.Op=(8:Int)) then (
     (getI x3 x1.A).bind fun y15=>
     (getI x3 x1.B).bind fun y17=>
     (Qdh n x0_Arith_g y15 y17).bind fun r19=>
     some (r19,true))
    else (
     bif decide (x1.Op=(9:Int)) then (
      (getI x3 x1.A).bind fun y21=>
      (getI x3 x1.B).bind fun y23=>
      (Qdi n x0_Arith_g y21 y23).bind fun r25=>
      some (r25,true))
     else (
      bif decide (x1.Op=(10:Int)) then (
       (getI x3 x1.A).bind fun y27=>
       (getI x3 x1.B).bind fun y29=>
       (Qdj n x0_Arith_g y27 y29).bind fun r31=>
       some (r31.1,r31.2))
      else (
       (Vi n x0_Arith_g x1 x2).bind fun r33=>
       some (r33,true)))))))
def Qa6(n:Nat)(x0_g:Ql)(x1:Qc):Option (Bool×Ql):=
 (W2 n x0_g x1).bind fun r1=>
 some (r1.1,r1.2)
def Kr(n:Nat)(x0_Arith_g:Ql)(x1:Qx)(x2:Xd):Option ((List Qc)×Qe×Ql):=
 jn (fun(j3:(Bool)->Option _)=>
  (Z7 n x1).bind fun r6=>
  bif !r6 then (
   j3 true)
  else (
   bif !decide ((x2.Y.length:Int)=x1.Dim) then (
    j3 true)
   else (
    j3 (!decide ((x2.P.length:Int)=x1.Par))))) (fun(s5:Bool)=>
  bif s5 then (
   some (([]:List Qc),(⟨(2:Int),0,0,0⟩:Qe),x0_Arith_g))
  else (
   (rangeL (fun(i30:Nat) (x31:Q0) (s29:Ql×(List Qc))=>
    (Jz n s29.1 x31 x2 s29.2).bind fun r33=>
    bif !r33.2 then (
     some (Lp.out ((([]:List Qc),(⟨(3:Int),0,0,(i30:Int)⟩:Qe),s29.1))))
    else (
     (Qa6 n s29.1 r33.1).bind fun r35=>
     bif !r35.1 then (
      some (Lp.out ((([]:List Qc),(⟨(6:Int),0,0,(i30:Int)⟩:Qe),r35.2))))
     else (
      (appM 56 s29.2 ([r33.1]:List Qc)).bind fun y37=>
      some (Lp.go (r35.2,y37))))) x1.Code 0 (x0_Arith_g,([]:List Qc))).bind (lpK fun(s39:Ql×(List Qc))=>
   some (s39.2,(⟨0,0,0,0⟩:Qe),s39.1))))
def Qkq(n:Nat)(x0:Qx)(x1:Yi)(x2:Int):Option ((List Qc)×Qe):=
 (Qjq n x1).bind fun r1=>
 (Qe2 x2).bind fun r3=>
 (Kr n r3 x0 (⟨r1.T,r1.Y,r1.P⟩:Xd)).bind fun r5=>
 some (r5.1,r5.2.1)
def Qkr(n:Nat)(x0:Qx)(x1:(List Qc)):Option ((List Qc)):=
 jn (fun(j3:(Bool)->Option _)=>
  (Z7 n x0).bind fun r6=>
  bif !r6 then (
   j3 true)
  else (
   j3 (!decide ((x1.length:Int)=(x0.Code.length:Int))))) (fun(s5:Bool)=>
  bif s5 then (
   some ([]:List Qc))
  else (
   (rangeL (fun(_:Nat) (x31:Int) (s29:(List Qc))=>
    (getI x1 x31).bind fun y33=>
    (Kw n y33).bind fun r35=>
    (appM 56 s29 ([r35]:List Qc)).bind fun y37=>
    some (Lp.go y37)) x0.Outs 0 ([]:List Qc)).bind (lpK fun(s39:(List Qc))=>
   some s39)))
def Qgi(n:Nat)(x0:Qx)(x1:Yi)(x2:Int):Option ((List Qc)×Qe):=
 (Qkq n x0 x1 x2).bind fun r1=>
 bif !(Q3 r1.2 (⟨0,0,0,0⟩:Qe)) then (
  some (([]:List Qc),r1.2))
 else (
  (Qkr n x0 r1.1).bind fun r3=>
  some (r3,r1.2))
def W3(n:Nat)(x0_p:Qs)(x0_t:Qc)(x0_h:Qc)(x0_y:(List Qc))(x0_g:Ql)(x0_out_Ys:(List (List Qc)))(x0_out_Ks:(List (List Qc)))(x0_out_Next:(List Qc))(x0_out_Err:(List Qc))(x1:Int):Option (Qe×Qs×Qc×Qc×(List Qc)×(List Qc)×(List Qc)×Ql×(List (List Qc))×(List (List Qc))):=
 (getI x0_p.Scheme.A x1).bind fun y1=>
 (Xl n x0_p x0_t x0_h x0_y x0_g x0_out_Ys x0_out_Ks x0_out_Next x0_out_Err y1).bind fun r3=>
 (Vq n x0_p x0_t x0_h x0_y x0_g x0_out_Ys x0_out_Ks x0_out_Next x0_out_Err r3 x1).bind fun r5=>
 bif !(Q3 r5.1 (⟨0,0,0,0⟩:Qe)) then (
  some (r5.1,x0_p,x0_t,x0_h,x0_y,x0_out_Next,x0_out_Err,r5.2,x0_out_Ys,x0_out_Ks))
 else (
  (Qep n x0_p x0_t x0_h x1).bind fun r7=>
  (Qmh x0_p r7 r3).bind fun r9=>
  (Qgi n x0_p.Tape r9 x0_p.Bits).bind fun r11=>
  bif !(Q3 r11.2 (⟨0,0,0,0⟩:Qe)) then (
   some ((⟨r11.2.Kind,r11.2.Step,x1,r11.2.At⟩:Qe),x0_p,x0_t,x0_h,x0_y,x0_out_Next,x0_out_Err,r5.2,x0_out_Ys,x0_out_Ks))
  else (
   (appM 24 x0_out_Ys ([r3]:List (List Qc))).bind fun y13=>
   (appM 24 x0_out_Ks ([r11.1]:List (List Qc))).bind fun y15=>
   some (r11.2,x0_p,x0_t,x0_h,x0_y,x0_out_Next,x0_out_Err,r5.2,y13,y15)))
def Qbw(x0:Nat):Option (Bool):=
 jn (fun(j1:(Bool)->Option _)=>
  bif decide (48≤x0) then (
   j1 (decide (x0≤57)))
  else (
   j1 false)) (fun(s3:Bool)=>
  some s3)
def Qb5(x0:Nat):Option (Bool):=
 jn (fun(j1:(Bool)->Option _)=>
  bif decide (97≤x0) then (
   bif decide (x0≤122) then (
    j1 true)
   else (
    bif decide (65≤x0) then (
     bif decide (x0≤90) then (
      j1 true)
     else (
      j1 (decide (x0=95))))
    else (
     j1 (decide (x0=95)))))
  else (
   bif decide (65≤x0) then (
    bif decide (x0≤90) then (
     j1 true)
    else (
     j1 (decide (x0=95))))
   else (
    j1 (decide (x0=95))))) (fun(s3:Bool)=>
  some s3)
def Qh3(n:Nat)(x0:Nat):Option (Bool):=
 (loopM (fun(s9:Nat)=>
  bif decide (s9<([43,45,42,47,94,40,41,91,93,44,59,61]:List UInt8).length) then (
   (some (((decR ([43,45,42,47,94,40,41,91,93,44,59,61]:List UInt8) s9:Nat):Int))).bind fun z11=>
   bif decide ((Int.toNat (z11%256))=x0) then (
    some (Lp.out (Lp.out (true))))
   else (
    some (Lp.go (s9+decW ([43,45,42,47,94,40,41,91,93,44,59,61]:List UInt8) s9))))
  else (
   some (Lp.out (Lp.go ())))) n 0).bind (lpK fun(_:Unit)=>
 some false)
def Qh4(n:Nat)(x0:Nat):Option (Int):=
 (Qbw x0).bind fun r1=>
 bif r1 then (
  some (1:Int))
 else (
  (Qb5 x0).bind fun r3=>
  bif r3 then (
   some (2:Int))
  else (
   (Qh3 n x0).bind fun r5=>
   bif r5 then (
    some (3:Int))
   else (
    some (0:Int))))
def Qh5(x0:Int)(x1:Nat):Option (Bool):=
 jn (fun(j11:(Bool)->Option _)=>
  bif decide (x0=(1:Int)) then (
   (Qbw x1).bind fun r14=>
   bif r14 then (
    j11 true)
   else (
    bif decide (x0=(2:Int)) then (
     (Qb5 x1).bind fun r16=>
     bif r16 then (
      j11 true)
     else (
      (Qbw x1).bind fun r18=>
      j11 r18))
    else (
     j11 false)))
  else (
   bif decide (x0=(2:Int)) then (
    (Qb5 x1).bind fun r20=>
    bif r20 then (
     j11 true)
    else (
     (Qbw x1).bind fun r22=>
     j11 r22))
   else (
    j11 false))) (fun(s13:Bool)=>
  some s13)
def Qgj(n:Nat)(x0:(List UInt8))(x1:Int):Option (Int):=
 (loopM (fun(s27:Int)=>
  jn (fun(j32:(Bool)->Option _)=>
   bif decide (s27<(x0.length:Int)) then (
    (getS x0 s27).bind fun y35=>
    (Qh5 x1 y35).bind fun r37=>
    j32 r37)
   else (
    j32 false)) (fun(s34:Bool)=>
   bif s34 then (
    some (Lp.go (wrap64 (s27+(1:Int)))))
   else (
    some (Lp.out s27)))) n (1:Int)).bind fun(t25:Int)=>
 some t25
def Qh6(x0:Int):Option (Int):=
 bif decide (x0=(1:Int)) then (
  some (60:Int))
 else (
  bif decide (x0=(2:Int)) then (
   some (12:Int))
  else (
   some (1:Int)))
def Qe5(n:Nat)(x0:Qf0):Option (Bool):=
 jn (fun(j7:(Bool)->Option _)=>
  bif decide (x0.Text=([]:List UInt8)) then (
   j7 true)
  else (
   bif decide (x0.Kind=(0:Int)) then (
    j7 true)
   else (
    (getS x0.Text (0:Int)).bind fun y12=>
    (Qh4 n y12).bind fun r14=>
    j7 (!decide (r14=x0.Kind))))) (fun(s9:Bool)=>
  bif s9 then (
   some false)
  else (
   jn (fun(j21:(Bool)->Option _)=>
    (Qgj n x0.Text x0.Kind).bind fun r24=>
    bif decide (r24=(x0.Text.length:Int)) then (
     (Qh6 x0.Kind).bind fun r27=>
     j21 (decide ((x0.Text.length:Int)≤r27)))
    else (
     j21 false)) (fun(s23:Bool)=>
    some s23)))
def Qdr(x0:Qr):Option (Bool):=
 jn (fun(j1:(Bool)->Option _)=>
  bif decide ((x0.B.length:Int)<(1:Int)) then (
   j1 true)
  else (
   bif decide ((8:Int)<(x0.B.length:Int)) then (
    j1 true)
   else (
    bif !decide ((x0.C.length:Int)=(x0.B.length:Int)) then (
     j1 true)
    else (
     bif !decide ((x0.A.length:Int)=(x0.B.length:Int)) then (
      j1 true)
     else (
      bif !decide ((x0.E.length:Int)=(x0.B.length:Int)) then (
       j1 (!decide ((x0.E.length:Int)=(0:Int))))
      else (
       j1 false)))))) (fun(s3:Bool)=>
  bif s3 then (
   some false)
  else (
   (rangeL (fun(i10:Nat) (x11:(List Qc)) (_:Unit)=>
    bif !decide ((x11.length:Int)=(i10:Int)) then (
     some (Lp.out (false)))
    else (
     some (Lp.go ()))) x0.A 0 ()).bind (lpK fun(_:Unit)=>
   some true)))
def Qau(n:Nat)(x0:(List (List Qc))):Option (Bool):=
 (rangeL (fun(_:Nat) (x40:(List Qc)) (_:Unit)=>
  (rangeL (fun(_:Nat) (x60:Qc) (_:Unit)=>
   jn (fun(j66:(Bool)->Option _)=>
    (Yl n x60).bind fun r69=>
    bif !r69 then (
     j66 true)
    else (
     (Xr n x60).bind fun r71=>
     j66 (decide ((190:Int)<r71)))) (fun(s68:Bool)=>
    bif s68 then (
     some (Lp.out (Lp.out (false))))
    else (
     some (Lp.go ())))) x40 0 ()).bind (lpK fun(_:Unit)=>
  some (Lp.go ()))) x0 0 ()).bind (lpK fun(_:Unit)=>
 some true)
def Qa7(n:Nat)(x0:(List Qc)):Option (Qc):=
 (Kv n (0:Int)).bind fun r1=>
 (rangeL (fun(_:Nat) (x18:Qc) (s16:Qc)=>
  (X9 n s16 x18).bind fun r20=>
  some (Lp.go r20)) x0 0 r1).bind (lpK fun(s22:Qc)=>
 some s22)
def Qgk(n:Nat)(x0:Qf)(x1:Qf):Option (Int):=
 (Qe4 n x0 x1).bind fun r1=>
 (Qa5 n r1).bind fun r3=>
 some r3
def Qeh(n:Nat)(x0:Qc)(x1:Qc):Option (Int):=
 (Vc n x0).bind fun r1=>
 (Vc n x1).bind fun r3=>
 (Yj n r1.1 r3.2).bind fun r5=>
 (Yj n r3.1 r1.2).bind fun r7=>
 (Qgk n r5 r7).bind fun r9=>
 some r9
def Qa1(n:Nat)(x0:Qc)(x1:Qc):Option (Bool):=
 (Qeh n x0 x1).bind fun r1=>
 some (decide (r1=(0:Int)))
def Qeq(n:Nat)(x0:Qr):Option (Bool):=
 (rangeL (fun(i13:Nat) (x14:(List Qc)) (_:Unit)=>
  (Qa7 n x14).bind fun r16=>
  (getI x0.C (i13:Int)).bind fun y18=>
  (Qa1 n r16 y18).bind fun r20=>
  bif !r20 then (
   some (Lp.out (false)))
  else (
   some (Lp.go ()))) x0.A 0 ()).bind (lpK fun(_:Unit)=>
 some true)
def Qbx(n:Nat)(x0:Qr):Option (Int):=
 (Kv n (1:Int)).bind fun r1=>
 (Qe5 n (⟨(2:Int),x0.Name,0⟩:Qf0)).bind fun r3=>
 bif !r3 then (
  some (1:Int))
 else (
  (Qdr x0).bind fun r5=>
  bif !r5 then (
   some (2:Int))
  else (
   jn (fun(j11:(Bool)->Option _)=>
    (Qau n x0.A).bind fun r14=>
    bif !r14 then (
     j11 true)
    else (
     (Qau n ([x0.B,x0.C,x0.E]:List (List Qc))).bind fun r16=>
     j11 (!r16))) (fun(s13:Bool)=>
    bif s13 then (
     some (3:Int))
    else (
     (Qeq n x0).bind fun r18=>
     bif !r18 then (
      some (4:Int))
     else (
      (Qa7 n x0.B).bind fun r20=>
      (Qa1 n r20 r1).bind fun r22=>
      bif !r22 then (
       some (5:Int))
      else (
       jn (fun(j29:(Bool)->Option _)=>
        bif decide ((0:Int)<(x0.E.length:Int)) then (
         (Qa7 n x0.E).bind fun r33=>
         (Qa1 n r33 r1).bind fun r35=>
         j29 (!r35))
        else (
         j29 false)) (fun(s31:Bool)=>
        bif s31 then (
         some (6:Int))
        else (
         some (0:Int)))))))))
def Qby(n:Nat)(x0:Qr):Option (Bool):=
 (Qbx n x0).bind fun r1=>
 some (decide (r1=(0:Int)))
def Qmi(n:Nat)(x0:(List Qc))(x1:(List Qc)):Option ((List Qc)×Bool):=
 (Kv n (-1:Int)).bind fun r1=>
 (Qbv n r1 x1).bind fun r3=>
 (Qhc n ([x0,r3]:List (List Qc))).bind fun r5=>
 some (r5.1,r5.2)
def Qds(n:Nat)(x0:Qr):Option ((List Qc)):=
 jn (fun(j3:(Bool)->Option _)=>
  (Qby n x0).bind fun r6=>
  bif !r6 then (
   j3 true)
  else (
   j3 (decide ((x0.E.length:Int)=(0:Int))))) (fun(s5:Bool)=>
  bif s5 then (
   some ([]:List Qc))
  else (
   (Qmi n x0.B x0.E).bind fun r8=>
   some r8.1))
def Qaq(n:Nat)(x0_p:Qs)(x0_t:Qc)(x0_h:Qc)(x0_y:(List Qc))(x0_g:Ql)(x0_out_Ys:(List (List Qc)))(x0_out_Ks:(List (List Qc)))(x0_out_Next:(List Qc))(x0_out_Err:(List Qc)):Option (Qe×Qs×Qc×Qc×(List Qc)×(List Qc)×(List Qc)×Ql×(List (List Qc))×(List (List Qc))):=
 (rangeL (fun(i15:Nat) (_:Qc) (s14:Qs×Qc×Qc×(List Qc)×Ql×(List (List Qc))×(List (List Qc))×(List Qc)×(List Qc))=>
  (W3 n s14.1 s14.2.1 s14.2.2.1 s14.2.2.2.1 s14.2.2.2.2.1 s14.2.2.2.2.2.1 s14.2.2.2.2.2.2.1 s14.2.2.2.2.2.2.2.1 s14.2.2.2.2.2.2.2.2 (i15:Int)).bind fun r18=>
  bif !(Q3 r18.1 (⟨0,0,0,0⟩:Qe)) then (
   some (Lp.out ((r18.1,r18.2.1,r18.2.2.1,r18.2.2.2.1,r18.2.2.2.2.1,r18.2.2.2.2.2.1,r18.2.2.2.2.2.2.1,r18.2.2.2.2.2.2.2.1,r18.2.2.2.2.2.2.2.2.1,r18.2.2.2.2.2.2.2.2.2))))
  else (
   some (Lp.go (r18.2.1,r18.2.2.1,r18.2.2.2.1,r18.2.2.2.2.1,r18.2.2.2.2.2.2.2.1,r18.2.2.2.2.2.2.2.2.1,r18.2.2.2.2.2.2.2.2.2,r18.2.2.2.2.2.1,r18.2.2.2.2.2.2.1)))) x0_p.Scheme.B 0 (x0_p,x0_t,x0_h,x0_y,x0_g,x0_out_Ys,x0_out_Ks,x0_out_Next,x0_out_Err)).bind (lpK fun(s20:Qs×Qc×Qc×(List Qc)×Ql×(List (List Qc))×(List (List Qc))×(List Qc)×(List Qc))=>
 (Xl n s20.1 s20.2.1 s20.2.2.1 s20.2.2.2.1 s20.2.2.2.2.1 s20.2.2.2.2.2.1 s20.2.2.2.2.2.2.1 s20.2.2.2.2.2.2.2.1 s20.2.2.2.2.2.2.2.2 x0_p.Scheme.B).bind fun r21=>
 (Vq n s20.1 s20.2.1 s20.2.2.1 s20.2.2.2.1 s20.2.2.2.2.1 s20.2.2.2.2.2.1 s20.2.2.2.2.2.2.1 r21 s20.2.2.2.2.2.2.2.2 r21 (x0_p.Scheme.B.length:Int)).bind fun r23=>
 bif !(Q3 r23.1 (⟨0,0,0,0⟩:Qe)) then (
  some (r23.1,s20.1,s20.2.1,s20.2.2.1,s20.2.2.2.1,r21,s20.2.2.2.2.2.2.2.2,r23.2,s20.2.2.2.2.2.1,s20.2.2.2.2.2.2.1))
 else (
  jn (fun(j29:((List Qc))->Option _)=>
   (Qds n x0_p.Scheme).bind fun r32=>
   bif decide ((0:Int)<(r32.length:Int)) then (
    (K9 n s20.1 s20.2.1 s20.2.2.1 s20.2.2.2.1 r23.2 s20.2.2.2.2.2.1 s20.2.2.2.2.2.2.1 r21 s20.2.2.2.2.2.2.2.2 r32).bind fun r34=>
    j29 r34)
   else (
    j29 s20.2.2.2.2.2.2.2.2)) (fun(s31:(List Qc))=>
   (Vq n s20.1 s20.2.1 s20.2.2.1 s20.2.2.2.1 r23.2 s20.2.2.2.2.2.1 s20.2.2.2.2.2.2.1 r21 s31 s31 (wrap64 ((x0_p.Scheme.B.length:Int)+(1:Int)))).bind fun r36=>
   some (r36.1,s20.1,s20.2.1,s20.2.2.1,s20.2.2.2.1,r21,s31,r36.2,s20.2.2.2.2.2.1,s20.2.2.2.2.2.2.1))))
def Qi5(n:Nat)(x0:(List UInt8)):Option (Int):=
 (loopM (fun(s27:Int)=>
  bif decide (s27<(x0.length:Int)) then (
   jn (fun(j32:(Bool)->Option _)=>
    (getS x0 s27).bind fun y35=>
    bif decide (y35<48) then (
     j32 true)
    else (
     (getS x0 s27).bind fun y37=>
     bif decide (57<y37) then (
      j32 true)
     else (
      j32 (decide (s27=(60:Int)))))) (fun(s34:Bool)=>
    bif s34 then (
     some (Lp.out (Lp.out (s27))))
    else (
     some (Lp.go (wrap64 (s27+(1:Int)))))))
  else (
   some (Lp.out (Lp.go ())))) n (0:Int)).bind (lpK fun(_:Unit)=>
 bif decide (x0=([]:List UInt8)) then (
  some (0:Int))
 else (
  some (-1:Int)))
def Qm8(n:Nat)(x0:(List Nat))(x1:Nat)(x2:Nat):Option ((List Nat)):=
 (mkM 4 (0:Nat) (wrap64 ((x0.length:Int)+(1:Int)))).bind fun y1=>
 (Qcs y1 (0:Int) x0 x1 x2).bind fun r3=>
 (Vh n r3).bind fun r5=>
 some r5
def Qgw(n:Nat)(x0:(List UInt8)):Option ((List Nat)×Qe):=
 (Qi5 n x0).bind fun r1=>
 bif decide ((0:Int)≤r1) then (
  some (([]:List Nat),(⟨(1:Int),0,0,r1⟩:Qe)))
 else (
  (loopM (fun(s49:(List Nat)×Int)=>
   bif decide (s49.2<(x0.length:Int)) then (
    (loopM (fun(s59:Int×Nat×Nat×Int)=>
     jn (fun(j60:(Bool)->Option _)=>
      bif decide (s59.2.2.2<(9:Int)) then (
       j60 (decide (s59.1<(x0.length:Int))))
      else (
       j60 false)) (fun(s62:Bool)=>
      bif s62 then (
       (getS x0 s59.1).bind fun y63=>
       (some (((((s59.2.1*10)%4294967296)+((y63+256 - 48)%256))%4294967296))).bind fun z65=>
       some (Lp.go (wrap64 (s59.1+(1:Int)),z65,((s59.2.2.1*10)%4294967296),wrap64 (s59.2.2.2+(1:Int)))))
      else (
       some (Lp.out (s59.1,s59.2.1,s59.2.2.1))))) n (s49.2,0,1,(0:Int))).bind fun(t57:Int×Nat×Nat)=>
    (Qm8 n s49.1 t57.2.2 t57.2.1).bind fun r66=>
    some (Lp.go (r66,t57.1)))
   else (
    some (Lp.out s49.1))) n (([]:List Nat),(0:Int))).bind fun(t47:(List Nat))=>
  some (t47,(⟨0,0,0,0⟩:Qe)))
def Qj7(n:Nat)(x0:Nat):Option ((List UInt8)):=
 (loopM (fun(s7:Nat×Qhb×Int)=>
  bif decide ((0:Int)≤s7.2.2) then (
   (getI ([s7.2.1.a0,s7.2.1.a1,s7.2.1.a2,s7.2.1.a3,s7.2.1.a4,s7.2.1.a5,s7.2.1.a6,s7.2.1.a7,s7.2.1.a8]:List Nat) s7.2.2).bind fun _=>
   some (Lp.go ((s7.1 / 10),(Qqf (List.set ([s7.2.1.a0,s7.2.1.a1,s7.2.1.a2,s7.2.1.a3,s7.2.1.a4,s7.2.1.a5,s7.2.1.a6,s7.2.1.a7,s7.2.1.a8]:List Nat) (Int.toNat s7.2.2) (((48+(s7.1%10))%4294967296)%256))),wrap64 (s7.2.2 - (1:Int)))))
  else (
   some (Lp.out s7.2.1))) n (x0,(⟨0,0,0,0,0,0,0,0,0⟩:Qhb),(8:Int))).bind fun(t5:Qhb)=>
 (some (([t5.a0,t5.a1,t5.a2,t5.a3,t5.a4,t5.a5,t5.a6,t5.a7,t5.a8]:List Nat))).bind fun z10=>
 some (bS z10)
def Qgx(n:Nat)(x0:(List Nat)):Option ((List UInt8)):=
 (Qbm n x0).bind fun r1=>
 bif r1 then (
  some ([48]:List UInt8))
 else (
  (loopM (fun(s23:(List Nat)×(List (List UInt8)))=>
   (Qbm n s23.1).bind fun r24=>
   bif !r24 then (
    (Qez n s23.1 1000000000).bind fun r26=>
    (Qj7 n r26.2.1).bind fun r28=>
    (appM 16 s23.2 ([r28]:List (List UInt8))).bind fun y30=>
    some (Lp.go (r26.1,y30)))
   else (
    some (Lp.out s23.2))) n (x0,([]:List (List UInt8)))).bind fun(t21:(List (List UInt8)))=>
  (loopM (fun(s44:(List UInt8)×Int)=>
   bif decide ((0:Int)≤s44.2) then (
    (getI t21 s44.2).bind fun y45=>
    (appM 1 s44.1 y45).bind fun y47=>
    some (Lp.go (y47,wrap64 (s44.2 - (1:Int)))))
   else (
    some (Lp.out s44.1))) n (([]:List UInt8),wrap64 ((t21.length:Int) - (1:Int)))).bind fun(t42:(List UInt8))=>
  (Qfj t42 ([48]:List UInt8)).bind fun r49=>
  some r49)
def Qh7(n:Nat)(x0:Qc):Option (Qc):=
 (Kw n x0).bind fun r1=>
 some (⟨(⟨false,r1.Num.Abs⟩:Qf),r1.Den⟩:Qc)
def Qh8(n:Nat)(x0:(List Qc)):Option (Qc):=
 (Kv n (0:Int)).bind fun r1=>
 (rangeL (fun(i31:Nat) (x32:Qc) (s30:Qc)=>
  jn (fun(j36:(Bool)->Option _)=>
   bif decide ((i31:Int)=(0:Int)) then (
    j36 true)
   else (
    (Qeh n x32 s30).bind fun r39=>
    j36 (decide ((0:Int)<r39)))) (fun(s38:Bool)=>
   bif s38 then (
    (Kw n x32).bind fun r41=>
    some (Lp.go r41))
   else (
    some (Lp.go s30)))) x0 0 r1).bind (lpK fun(s43:Qc)=>
 some s43)
def Qa8(n:Nat)(x0:Qs):Option (Bool):=
 jn (fun(j5:(Bool)->Option _)=>
  (Z7 n x0.Tape).bind fun r8=>
  bif r8 then (
   (Qby n x0.Scheme).bind fun r10=>
   bif r10 then (
    j5 (decide ((x0.P.length:Int)=x0.Tape.Par)))
   else (
    j5 false))
  else (
   j5 false)) (fun(s7:Bool)=>
  some s7)
def Qe6(n:Nat)(x0:(List Qc)):Option (Bool):=
 (rangeL (fun(_:Nat) (x10:Qc) (_:Unit)=>
  (Qbs n x10).bind fun r12=>
  bif decide (r12≤(0:Int)) then (
   some (Lp.out (false)))
  else (
   some (Lp.go ()))) x0 0 ()).bind (lpK fun(_:Unit)=>
 some (decide ((x0.length:Int)≤(200:Int))))
def Qft(n:Nat)(x0:Qs)(x1:Qc)(x2:Qc)(x3:(List Qc)):Option (Z3×Qe):=
 jn (fun(j3:(Bool)->Option _)=>
  (Qa8 n x0).bind fun r6=>
  bif !r6 then (
   j3 true)
  else (
   j3 (!decide ((x3.length:Int)=x0.Tape.Dim)))) (fun(s5:Bool)=>
  bif s5 then (
   some ((⟨[],[],[],[]⟩:Z3),(⟨(2:Int),0,0,0⟩:Qe)))
  else (
   (Qe2 x0.Bits).bind fun r8=>
   (Qaq n x0 x1 x2 x3 r8 ([]:List (List Qc)) ([]:List (List Qc)) [] []).bind fun r10=>
   bif !(Q3 r10.1 (⟨0,0,0,0⟩:Qe)) then (
    some ((⟨[],[],[],[]⟩:Z3),r10.1))
   else (
    some ((⟨r10.2.2.2.2.2.2.2.2.1,r10.2.2.2.2.2.2.2.2.2,r10.2.2.2.2.2.1,r10.2.2.2.2.2.2.1⟩:Z3),(⟨0,0,0,0⟩:Qe)))))
def Qcw(n:Nat)(x0:(List Qc)):Option (Qc):=
 (Kv n (0:Int)).bind fun r1=>
 (rangeL (fun(_:Nat) (x24:Qc) (s22:Qc)=>
  (Qh7 n x24).bind fun r26=>
  (Qh8 n ([s22,r26]:List Qc)).bind fun r28=>
  some (Lp.go r28)) x0 0 r1).bind (lpK fun(s30:Qc)=>
 some s30)
def Qaj(n:Nat)(x0:Qs)(x1:Qc)(x2:(List Qc))(x3:(List Qc)):Option (Jd×Qe):=
 jn (fun(j5:(Bool)->Option _)=>
  (Qa8 n x0).bind fun r8=>
  bif !r8 then (
   j5 true)
  else (
   bif !decide ((x2.length:Int)=x0.Tape.Dim) then (
    j5 true)
   else (
    (Qe6 n x3).bind fun r10=>
    j5 (!r10)))) (fun(s7:Bool)=>
  bif s7 then (
   some ((⟨[],(⟨(⟨false,[]⟩:Qf),[]⟩:Qc),[]⟩:Jd),(⟨(2:Int),0,0,0⟩:Qe)))
  else (
   (Kw n x1).bind fun r12=>
   (Kv n (1:Int)).bind fun r14=>
   (Qbv n r14 x2).bind fun r16=>
   (rangeL (fun(i48:Nat) (x49:Qc) (s47:(List J5)×Qc×(List Qc))=>
    (Kw n x49).bind fun r51=>
    (Qft n x0 s47.2.1 r51 s47.2.2).bind fun r53=>
    bif !(Q3 r53.2 (⟨0,0,0,0⟩:Qe)) then (
     some (Lp.out (((⟨[],(⟨(⟨false,[]⟩:Qf),[]⟩:Qc),[]⟩:Jd),(⟨r53.2.Kind,wrap64 ((i48:Int)+(1:Int)),r53.2.Stage,r53.2.At⟩:Qe)))))
    else (
     (Qcw n r53.1.Err).bind fun r55=>
     (appM 256 s47.1 ([(⟨s47.2.1,r51,r51,r55,s47.2.2,true⟩:J5)]:List J5)).bind fun y57=>
     (X9 n s47.2.1 r51).bind fun r59=>
     some (Lp.go (y57,r59,r53.1.Next)))) x3 0 (([]:List J5),r12,r16)).bind (lpK fun(s61:(List J5)×Qc×(List Qc))=>
   some ((⟨s61.1,s61.2.1,s61.2.2⟩:Jd),(⟨0,0,0,0⟩:Qe)))))
def Vr(x0:Qc):Option (Qa):=
 some (⟨x0.Num.Neg,x0.Num.Abs,x0.Den⟩:Qa)
def Xs(n:Nat)(x0:(List Nat))(x1:(List Nat)):Option (Bool):=
 bif !decide ((x0.length:Int)=(x1.length:Int)) then (
  some false)
 else (
  (loopM (fun(s13:Int)=>
   bif decide (s13<(x0.length:Int)) then (
    (getI x0 s13).bind fun y14=>
    (getI x1 s13).bind fun y16=>
    bif !decide (y14=y16) then (
     some (Lp.out (Lp.out (false))))
    else (
     some (Lp.go (wrap64 (s13+(1:Int))))))
   else (
    some (Lp.out (Lp.go ())))) n (0:Int)).bind (lpK fun(_:Unit)=>
  some true))
def Jm(n:Nat)(x0:Qa)(x1:Qa):Option (Bool):=
 jn (fun(j5:(Bool)->Option _)=>
  bif (x0.Neg == x1.Neg) then (
   (Xs n x0.N x1.N).bind fun r8=>
   bif r8 then (
    (Xs n x0.D x1.D).bind fun r10=>
    j5 r10)
   else (
    j5 false))
  else (
   j5 false)) (fun(s7:Bool)=>
  some s7)
def K0(x0:Qa):Option (Qc):=
 some (⟨(⟨x0.Neg,x0.N⟩:Qf),x0.D⟩:Qc)
def Yu(n:Nat)(x0:(List Qc)):Option ((List Qa)):=
 (loopM (fun(s17:(List Qa)×Int)=>
  bif decide (s17.2<(x0.length:Int)) then (
   (getI x0 s17.2).bind fun y18=>
   (Vr y18).bind fun r20=>
   (appM 56 s17.1 ([r20]:List Qa)).bind fun y22=>
   some (Lp.go (y22,wrap64 (s17.2+(1:Int)))))
  else (
   some (Lp.out s17.1))) n (([]:List Qa),(0:Int))).bind fun(t15:(List Qa))=>
 some t15
def Vt(n:Nat)(x0:(List Qa))(x1:(List Qa)):Option (Bool):=
 bif !decide ((x0.length:Int)=(x1.length:Int)) then (
  some false)
 else (
  (loopM (fun(s17:Int)=>
   bif decide (s17<(x0.length:Int)) then (
    (getI x0 s17).bind fun y18=>
    (getI x1 s17).bind fun y20=>
    (Jm n y18 y20).bind fun r22=>
    bif !r22 then (
     some (Lp.out (Lp.out (false))))
    else (
     some (Lp.go (wrap64 (s17+(1:Int))))))
   else (
    some (Lp.out (Lp.go ())))) n (0:Int)).bind (lpK fun(_:Unit)=>
  some true))
def Kh(n:Nat)(x0:(List Qa)):Option ((List Qc)):=
 (loopM (fun(s17:(List Qc)×Int)=>
  bif decide (s17.2<(x0.length:Int)) then (
   (getI x0 s17.2).bind fun y18=>
   (K0 y18).bind fun r20=>
   (appM 56 s17.1 ([r20]:List Qc)).bind fun y22=>
   some (Lp.go (y22,wrap64 (s17.2+(1:Int)))))
  else (
   some (Lp.out s17.1))) n (([]:List Qc),(0:Int))).bind fun(t15:(List Qc))=>
 some t15
def Z8(n:Nat)(x0:(List (List Qa))):Option ((List (List Qc))):=
 (loopM (fun(s17:(List (List Qc))×Int)=>
  bif decide (s17.2<(x0.length:Int)) then (
   (getI x0 s17.2).bind fun y18=>
   (Kh n y18).bind fun r20=>
   (appM 24 s17.1 ([r20]:List (List Qc))).bind fun y22=>
   some (Lp.go (y22,wrap64 (s17.2+(1:Int)))))
  else (
   some (Lp.out s17.1))) n (([]:List (List Qc)),(0:Int))).bind fun(t15:(List (List Qc)))=>
 some t15
def Z9(n:Nat)(x0:Q6):Option (Qx):=
 (appM 8 ([]:List Int) x0.Outs).bind fun y1=>
 (loopM (fun(s19:(List Q0)×Int)=>
  bif decide (s19.2<(x0.Code.length:Int)) then (
   (getI x0.Code s19.2).bind fun y20=>
   (K0 y20.N).bind fun r22=>
   (appM 80 s19.1 ([(⟨y20.Op,y20.A,y20.B,r22⟩:Q0)]:List Q0)).bind fun y24=>
   some (Lp.go (y24,wrap64 (s19.2+(1:Int)))))
  else (
   some (Lp.out s19.1))) n (([]:List Q0),(0:Int))).bind fun(t17:(List Q0))=>
 some (⟨t17,y1,x0.Dim,x0.Par⟩:Qx)
def Qbp(n:Nat)(x0:Q4):Option (Qr):=
 (Kh n x0.C).bind fun r1=>
 (Z8 n x0.A).bind fun r3=>
 (Kh n x0.B).bind fun r5=>
 (Kh n x0.E).bind fun r7=>
 some (⟨x0.Name,r1,r3,r5,r7⟩:Qr)
def Va(x0:Qa)(x1:Int):Option (Bool):=
 jn (fun(j1:(Bool)->Option _)=>
  bif decide (x1<(x0.N.length:Int)) then (
   j1 true)
  else (
   j1 (decide (x1<(x0.D.length:Int))))) (fun(s3:Bool)=>
  some s3)
def Jn(n:Nat)(x0:(List Qa))(x1:Int)(x2:Int):Option (Bool):=
 (loopM (fun(s19:Int)=>
  jn (fun(j20:(Bool)->Option _)=>
   bif decide (s19<(x0.length:Int)) then (
    j20 (decide (s19<x1)))
   else (
    j20 false)) (fun(s22:Bool)=>
   bif s22 then (
    (getI x0 s19).bind fun y23=>
    (Va y23 x2).bind fun r25=>
    bif r25 then (
     some (Lp.out (Lp.out (true))))
    else (
     some (Lp.go (wrap64 (s19+(1:Int))))))
   else (
    some (Lp.out (Lp.go ()))))) n (0:Int)).bind (lpK fun(_:Unit)=>
 some (decide (x1<(x0.length:Int))))
def Xt(n:Nat)(x0:J2):Option (Bool):=
 jn (fun(j7:(Bool)->Option _)=>
  (Va x0.T (2:Int)).bind fun r10=>
  bif r10 then (
   j7 true)
  else (
   (Va x0.H (2:Int)).bind fun r12=>
   bif r12 then (
    j7 true)
   else (
    (Jn n x0.Y (4:Int) (2:Int)).bind fun r14=>
    j7 r14))) (fun(s9:Bool)=>
  some s9)
def Yv(n:Nat)(x0:Qm):Option (Qs):=
 (Z9 n x0.Tape).bind fun r1=>
 (Qbp n x0.Scheme).bind fun r3=>
 (Kh n x0.P).bind fun r5=>
 some (⟨r1,r3,r5,x0.Bits⟩:Qs)
def Zb(n:Nat)(x0:Q6)(x1:Int)(x2:Int):Option (Bool):=
 (loopM (fun(s19:Int)=>
  jn (fun(j20:(Bool)->Option _)=>
   bif decide (s19<(x0.Code.length:Int)) then (
    j20 (decide (s19<x1)))
   else (
    j20 false)) (fun(s22:Bool)=>
   bif s22 then (
    (getI x0.Code s19).bind fun y23=>
    (Va y23.N x2).bind fun r25=>
    bif r25 then (
     some (Lp.out (Lp.out (true))))
    else (
     some (Lp.go (wrap64 (s19+(1:Int))))))
   else (
    some (Lp.out (Lp.go ()))))) n (0:Int)).bind (lpK fun(_:Unit)=>
 jn (fun(j27:(Bool)->Option _)=>
  bif decide (x1<(x0.Code.length:Int)) then (
   j27 true)
  else (
   j27 (decide (x1<(x0.Outs.length:Int))))) (fun(s29:Bool)=>
  some s29))
def Zc(n:Nat)(x0:Q4)(x1:Int)(x2:Int):Option (Bool):=
 jn (fun(j7:(Bool)->Option _)=>
  bif decide ((50:Int)<(x0.Name.length:Int)) then (
   j7 true)
  else (
   bif decide (x1<(x0.A.length:Int)) then (
    j7 true)
   else (
    (Jn n x0.B x1 x2).bind fun r10=>
    bif r10 then (
     j7 true)
    else (
     (Jn n x0.C x1 x2).bind fun r12=>
     bif r12 then (
      j7 true)
     else (
      (Jn n x0.E x1 x2).bind fun r14=>
      j7 r14))))) (fun(s9:Bool)=>
  bif s9 then (
   some true)
  else (
   (loopM (fun(s28:Int)=>
    bif decide (s28<(x0.A.length:Int)) then (
     (getI x0.A s28).bind fun y29=>
     (Jn n y29 x1 x2).bind fun r31=>
     bif r31 then (
      some (Lp.out (Lp.out (true))))
     else (
      some (Lp.go (wrap64 (s28+(1:Int))))))
    else (
     some (Lp.out (Lp.go ())))) n (0:Int)).bind (lpK fun(_:Unit)=>
   some false)))
def Xu(n:Nat)(x0:Qm)(x1:Int)(x2:Int)(x3:Int):Option (Bool):=
 jn (fun(j7:(Bool)->Option _)=>
  (Zb n x0.Tape x1 x3).bind fun r10=>
  bif r10 then (
   j7 true)
  else (
   (Zc n x0.Scheme x2 (4:Int)).bind fun r12=>
   bif r12 then (
    j7 true)
   else (
    (Jn n x0.P (6:Int) x3).bind fun r14=>
    j7 r14))) (fun(s9:Bool)=>
  some s9)
def Qj8:Option (Qgf):=
 some (⟨([101,117,108,101,114,10,48,124,10,98,32,49]:List UInt8),([104,101,117,110,10,48,124,10,49,124,49,10,98,32,49,47,50,44,49,47,50,10,101,32,49,44,48]:List UInt8),([109,105,100,112,111,105,110,116,10,48,124,10,49,47,50,124,49,47,50,10,98,32,48,44,49,10,101,32,49,44,48]:List UInt8),([114,107,52,10,48,124,10,49,47,50,124,49,47,50,10,49,47,50,124,48,44,49,47,50,10,49,124,48,44,48,44,49,10,98,32,49,47,54,44,49,47,51,44,49,47,51,44,49,47,54]:List UInt8),([98,115,50,51,10,48,124,10,49,47,50,124,49,47,50,10,51,47,52,124,48,44,51,47,52,10,49,124,50,47,57,44,49,47,51,44,52,47,57,10,98,32,50,47,57,44,49,47,51,44,52,47,57,44,48,10,101,32,55,47,50,52,44,49,47,52,44,49,47,51,44,49,47,56]:List UInt8),([100,112,52,53,10,48,124,10,49,47,53,124,49,47,53,10,51,47,49,48,124,51,47,52,48,44,57,47,52,48,10,52,47,53,124,52,52,47,52,53,44,45,53,54,47,49,53,44,51,50,47,57,10,56,47,57,124,49,57,51,55,50,47,54,53,54,49,44,45,50,53,51,54,48,47,50,49,56,55,44,54,52,52,52,56,47,54,53,54,49,44,45,50,49,50,47,55,50,57,10,49,124,57,48,49,55,47,51,49,54,56,44,45,51,53,53,47,51,51,44,52,54,55,51,50,47,53,50,52,55,44,52,57,47,49,55,54,44,45,53,49,48,51,47,49,56,54,53,54,10,49,124,51,53,47,51,56,52,44,48,44,53,48,48,47,49,49,49,51,44,49,50,53,47,49,57,50,44,45,50,49,56,55,47,54,55,56,52,44,49,49,47,56,52,10,98,32,51,53,47,51,56,52,44,48,44,53,48,48,47,49,49,49,51,44,49,50,53,47,49,57,50,44,45,50,49,56,55,47,54,55,56,52,44,49,49,47,56,52,44,48,10,101,32,53,49,55,57,47,53,55,54,48,48,44,48,44,55,53,55,49,47,49,54,54,57,53,44,51,57,51,47,54,52,48,44,45,57,50,48,57,55,47,51,51,57,50,48,48,44,49,56,55,47,50,49,48,48,44,49,47,52,48]:List UInt8)⟩:Qgf)
def Qlb(x0:(List UInt8)):Option ((List UInt8)):=
 (Qeo x0 ([10]:List UInt8)).bind fun r1=>
 some r1.1
def Y1(x0:Jg):Option ((List UInt8)×Int×Bool×Jg):=
 bif x0.over then (
  some (([]:List UInt8),x0.at_,false,x0))
 else (
  (Qeo x0.rest ([10]:List UInt8)).bind fun r1=>
  jn (fun(j3:(Jg)->Option _)=>
   bif r1.2.2 then (
    j3 (⟨r1.2.1,wrap64 ((wrap64 (x0.at_+(r1.1.length:Int)))+(1:Int)),!r1.2.2⟩:Jg))
   else (
    j3 (⟨r1.2.1,wrap64 (x0.at_+(r1.1.length:Int)),!r1.2.2⟩:Jg))) (fun(s5:Jg)=>
   some (r1.1,x0.at_,true,s5)))
def Qch(x0:Jg)(x1:(List UInt8))(x2:Int):Option (Jg):=
 (sub x1 x2 (x1.length:Int)).bind fun y1=>
 some (⟨y1,x2,false⟩:Jg)
def Xm(x0:(List UInt8))(x1:(List UInt8)):Option (Bool):=
 jn (fun(j3:(Bool)->Option _)=>
  bif decide ((x1.length:Int)≤(x0.length:Int)) then (
   (sub x0 (0:Int) (x1.length:Int)).bind fun y6=>
   j3 (decide (y6=x1)))
  else (
   j3 false)) (fun(s5:Bool)=>
  some s5)
def Zn(x0:(List UInt8))(x1:(List UInt8)):Option ((List UInt8)×Bool):=
 (Xm x0 x1).bind fun r1=>
 bif !r1 then (
  some (x0,false))
 else (
  (sub x0 (x1.length:Int) (x0.length:Int)).bind fun y3=>
  some (y3,true))
def Qcg(x0:(List UInt8))(x1:(List UInt8)):Option ((List UInt8)×Bool):=
 (Zn x0 x1).bind fun r1=>
 some (r1.1,r1.2)
def Qlc(n:Nat)(x0:(List UInt8)):Option (Qf×Qe):=
 (Qcg x0 ([45]:List UInt8)).bind fun r1=>
 (Qgw n r1.1).bind fun r3=>
 bif !(Q3 r3.2 (⟨0,0,0,0⟩:Qe)) then (
  some ((⟨false,[]⟩:Qf),(⟨r3.2.Kind,r3.2.Step,r3.2.Stage,wrap64 (r3.2.At+(wrap64 ((x0.length:Int) - (r1.1.length:Int))))⟩:Qe)))
 else (
  (Vy r1.2 r3.1).bind fun r5=>
  some (r5,(⟨0,0,0,0⟩:Qe)))
def Qh9(n:Nat)(x0:Qf)(x1:(List Nat)):Option (Qc×Bool):=
 (Qbm n x1).bind fun r1=>
 bif r1 then (
  (Kv n (0:Int)).bind fun r3=>
  some (r3,false))
 else (
  (Yr n x0 x1).bind fun r5=>
  some (r5,true))
def Qba(n:Nat)(x0:(List UInt8))(x1:Int):Option ((List Nat)×Qe):=
 (sub x0 x1 (x0.length:Int)).bind fun y1=>
 (Qgw n y1).bind fun r3=>
 jn (fun(j5:(Qe)->Option _)=>
  bif !(Q3 r3.2 (⟨0,0,0,0⟩:Qe)) then (
   j5 (⟨r3.2.Kind,r3.2.Step,r3.2.Stage,wrap64 (r3.2.At+x1)⟩:Qe))
  else (
   j5 r3.2)) (fun(s7:Qe)=>
  some (r3.1,s7))
def Qj9(n:Nat)(x0:Qf)(x1:(List UInt8))(x2:Int):Option (Qc×Qe):=
 (Qba n x1 x2).bind fun r1=>
 bif !(Q3 r1.2 (⟨0,0,0,0⟩:Qe)) then (
  (Kv n (0:Int)).bind fun r3=>
  some (r3,r1.2))
 else (
  (Qh9 n x0 r1.1).bind fun r5=>
  bif !r5.2 then (
   some (r5.1,(⟨(2:Int),0,0,x2⟩:Qe)))
  else (
   some (r5.1,(⟨0,0,0,0⟩:Qe))))
def Qe8(x0:(List UInt8))(x1:(List UInt8)):Option (Bool):=
 (Xm x0 x1).bind fun r1=>
 some r1
def Qka(n:Nat)(x0:(List Nat)):Option ((List Nat)):=
 (mkM 4 (0:Nat) (wrap64 ((wrap64 ((2:Int)*(x0.length:Int)))+(1:Int)))).bind fun y1=>
 (rangeL (fun(i21:Nat) (x22:Nat) (s20:(List Nat))=>
  (sub x0 (wrap64 ((i21:Int)+(1:Int))) (x0.length:Int)).bind fun y24=>
  (Qcs s20 (wrap64 ((wrap64 ((2:Int)*(i21:Int)))+(1:Int))) y24 x22 0).bind fun r26=>
  some (Lp.go r26)) x0 0 y1).bind (lpK fun(s28:(List Nat))=>
 (Qfm n s28 (1:Int)).bind fun r29=>
 (mkM 4 (0:Nat) (wrap64 ((2:Int)*(x0.length:Int)))).bind fun y31=>
 (rangeL (fun(i57:Nat) (x58:Nat) (s56:(List Nat))=>
  (Qbn x58 x58 0 0).bind fun r60=>
  (getI s56 (wrap64 ((wrap64 ((2:Int)*(i57:Int)))+(1:Int)))).bind fun _=>
  (some ((List.set s56 (Int.toNat (wrap64 ((wrap64 ((2:Int)*(i57:Int)))+(1:Int)))) r60.1))).bind fun z64=>
  (getI z64 (wrap64 ((2:Int)*(i57:Int)))).bind fun _=>
  some (Lp.go (List.set z64 (Int.toNat (wrap64 ((2:Int)*(i57:Int)))) r60.2))) x0 0 y31).bind (lpK fun(s67:(List Nat))=>
 (Qfp n ([r29,s67]:List (List Nat))).bind fun r68=>
 some r68))
def Qoz(n:Nat)(x0:(List Nat))(x1:Int):Option ((List Nat)×Bool):=
 (Qcr n x0).bind fun r1=>
 jn (fun(j4:(Bool)->Option _)=>
  bif decide (x1<(0:Int)) then (
   j4 true)
  else (
   bif decide ((1:Int)<r1) then (
    (grd (r1 != 0)).bind fun _=>
    j4 (decide ((wrap64 (Int.tdiv (65536:Int) r1))<x1)))
   else (
    j4 false))) (fun(s6:Bool)=>
  bif s6 then (
   some (([]:List Nat),false))
  else (
   (Y7 n 1).bind fun r8=>
   bif decide (r1<(2:Int)) then (
    jn (fun(j14:((List Nat))->Option _)=>
     bif decide ((0:Int)<x1) then (
      (Vh n x0).bind fun r17=>
      j14 r17)
     else (
      j14 r8)) (fun(s16:(List Nat))=>
     some (s16,true)))
   else (
    (Y7 n (Int.toNat (x1%18446744073709551616))).bind fun r19=>
    (Qcr n r19).bind fun r21=>
    (loopM (fun(s57:(List Nat)×Int)=>
     bif decide ((0:Int)≤s57.2) then (
      jn (fun(j64:((List Nat))->Option _)=>
       (Qka n s57.1).bind fun r67=>
       (grd (decide (0≤s57.2))).bind fun _=>
       (some (decide ((wrap64 (andZ (Int.fdiv x1 (2 ^ (min (Int.toNat s57.2) 64))) (1:Int)))=(1:Int)))).bind fun z70=>
       bif z70 then (
        (Zj n r67 x0).bind fun r71=>
        j64 r71)
       else (
        j64 r67)) (fun(s66:(List Nat))=>
       some (Lp.go (s66,wrap64 (s57.2 - (1:Int))))))
     else (
      some (Lp.out s57.1))) n (r8,wrap64 (r21 - (1:Int)))).bind fun(t55:(List Nat))=>
    some (t55,true))))
def Qkb(n:Nat)(x0:Int):Option ((List Nat)):=
 (Y7 n 10).bind fun r1=>
 (Qoz n r1 x0).bind fun r3=>
 some r3.1
def Qia(n:Nat)(x0:Qf)(x1:Bool)(x2:(List UInt8))(x3:Int):Option (Qc×Qe):=
 (Qba n x2 x3).bind fun r1=>
 bif !(Q3 r1.2 (⟨0,0,0,0⟩:Qe)) then (
  (Kv n (0:Int)).bind fun r3=>
  some (r3,r1.2))
 else (
  (Qkb n (wrap64 ((x2.length:Int) - x3))).bind fun r5=>
  (Zj n x0.Abs r5).bind fun r7=>
  (Qfp n ([r7,r1.1]:List (List Nat))).bind fun r9=>
  (Qh9 n (⟨x1,r9⟩:Qf) r5).bind fun r11=>
  some (r11.1,(⟨0,0,0,0⟩:Qe)))
def Qgy(n:Nat)(x0:(List UInt8)):Option (Qc×Qe):=
 (Qfk x0 ([47,46]:List UInt8)).bind fun r1=>
 jn (fun(j5:((List UInt8))->Option _)=>
  bif decide ((0:Int)≤r1) then (
   (sub x0 (0:Int) r1).bind fun y8=>
   j5 y8)
  else (
   j5 x0)) (fun(s7:(List UInt8))=>
  (Qlc n s7).bind fun r10=>
  bif !(Q3 r10.2 (⟨0,0,0,0⟩:Qe)) then (
   (Kv n (0:Int)).bind fun r12=>
   some (r12,r10.2))
  else (
   bif decide (r1<(0:Int)) then (
    (Y7 n 1).bind fun r14=>
    (Qh9 n r10.1 r14).bind fun r16=>
    some (r16.1,(⟨0,0,0,0⟩:Qe)))
   else (
    (getS x0 r1).bind fun y18=>
    bif decide (y18=47) then (
     (Qj9 n r10.1 x0 (wrap64 (r1+(1:Int)))).bind fun r20=>
     some (r20.1,r20.2))
    else (
     (Qe8 x0 ([45]:List UInt8)).bind fun r22=>
     (Qia n r10.1 r22 x0 (wrap64 (r1+(1:Int)))).bind fun r24=>
     some (r24.1,r24.2)))))
def Qdt(x0:Qe)(x1:Int):Option (Qe):=
 jn (fun(j1:(Qe)->Option _)=>
  bif !(Q3 x0 (⟨0,0,0,0⟩:Qe)) then (
   j1 (⟨x0.Kind,x0.Step,x0.Stage,wrap64 (x0.At+x1)⟩:Qe))
  else (
   j1 x0)) (fun(s3:Qe)=>
  some s3)
def Qks(n:Nat)(x0:(List UInt8)):Option ((List Qc)×Qe):=
 bif decide (x0=([]:List UInt8)) then (
  some (([]:List Qc),(⟨0,0,0,0⟩:Qe)))
 else (
  (Qhw x0 ([44]:List UInt8)).bind fun r1=>
  (rangeL (fun(_:Nat) (x22:(List UInt8)) (s20:(List Qc)×Int)=>
   (Qgy n x22).bind fun r24=>
   bif !(Q3 r24.2 (⟨0,0,0,0⟩:Qe)) then (
    some (Lp.out ((([]:List Qc),(⟨r24.2.Kind,r24.2.Step,r24.2.Stage,wrap64 (r24.2.At+s20.2)⟩:Qe)))))
   else (
    (appM 56 s20.1 ([r24.1]:List Qc)).bind fun y26=>
    some (Lp.go (y26,wrap64 (s20.2+(wrap64 ((x22.length:Int)+(1:Int)))))))) r1 0 (([]:List Qc),(0:Int))).bind (lpK fun(s28:(List Qc)×Int)=>
  some (s28.1,(⟨0,0,0,0⟩:Qe))))
def Qi6(n:Nat)(x0:(List UInt8))(x1:Int):Option (Qc×(List Qc)×Qe):=
 (Qeo x0 ([124]:List UInt8)).bind fun r1=>
 (Qgy n r1.1).bind fun r3=>
 bif !(Q3 r3.2 (⟨0,0,0,0⟩:Qe)) then (
  (Qdt r3.2 x1).bind fun r5=>
  some (r3.1,([]:List Qc),r5))
 else (
  (Qks n r1.2.1).bind fun r7=>
  (Qdt r7.2 (wrap64 ((wrap64 (x1+(r1.1.length:Int)))+(1:Int)))).bind fun r9=>
  some (r3.1,r7.1,r9))
def Qbq(n:Nat)(x0:Jg)(x1:(List UInt8))(x2_Name:(List UInt8))(x2_C:(List Qc))(x2_A:(List (List Qc)))(x2_B:(List Qc))(x2_E:(List Qc)):Option (Qe×Jg×(List UInt8)×(List Qc)×(List Qc)×(List Qc)×(List (List Qc))):=
 loopM (fun(s29:Jg×(List Qc)×(List (List Qc)))=>
  (Y1 s29.1).bind fun r30=>
  bif !r30.2.2.1 then (
   some (Lp.out (((⟨0,0,0,0⟩:Qe),r30.2.2.2,x2_Name,x2_B,x2_E,s29.2.1,s29.2.2))))
  else (
   (Qfl r30.1 ([124]:List UInt8)).bind fun r32=>
   bif !r32 then (
    (Qch r30.2.2.2 x1 r30.2.1).bind fun r34=>
    some (Lp.out (((⟨0,0,0,0⟩:Qe),r34,x2_Name,x2_B,x2_E,s29.2.1,s29.2.2))))
   else (
    (Qi6 n r30.1 r30.2.1).bind fun r36=>
    bif !(Q3 r36.2.2 (⟨0,0,0,0⟩:Qe)) then (
     some (Lp.out ((r36.2.2,r30.2.2.2,x2_Name,x2_B,x2_E,s29.2.1,s29.2.2))))
    else (
     (appM 56 s29.2.1 ([r36.1]:List Qc)).bind fun y38=>
     (appM 24 s29.2.2 ([r36.2.1]:List (List Qc))).bind fun y40=>
     some (Lp.go (r30.2.2.2,y38,y40)))))) n (x0,x2_C,x2_A)
def Zk(n:Nat)(x0:Jg)(x1:(List UInt8)):Option ((List Qc)×Qe×Jg):=
 (Y1 x0).bind fun r1=>
 (catS x1 ([32]:List UInt8)).bind fun y3=>
 (Qcg r1.1 y3).bind fun r5=>
 bif !r5.2 then (
  some (([]:List Qc),(⟨(1:Int),0,0,r1.2.1⟩:Qe),r1.2.2.2))
 else (
  (Qks n r5.1).bind fun r7=>
  (Qdt r7.2 (wrap64 ((wrap64 (r1.2.1+(x1.length:Int)))+(1:Int)))).bind fun r9=>
  some (r7.1,r9,r1.2.2.2))
def Qkc(n:Nat)(x0:(List UInt8)):Option (Qr×Qe):=
 (Y1 (⟨x0,0,false⟩:Jg)).bind fun r1=>
 (Qe5 n (⟨(2:Int),r1.1,0⟩:Qf0)).bind fun r3=>
 bif !r3 then (
  some ((⟨r1.1,([]:List Qc),([]:List (List Qc)),[],[]⟩:Qr),(⟨(1:Int),0,0,0⟩:Qe)))
 else (
  (Qbq n r1.2.2.2 x0 r1.1 ([]:List Qc) ([]:List (List Qc)) [] []).bind fun r5=>
  bif !(Q3 r5.1 (⟨0,0,0,0⟩:Qe)) then (
   some ((⟨r5.2.2.1,r5.2.2.2.2.2.1,r5.2.2.2.2.2.2,r5.2.2.2.1,r5.2.2.2.2.1⟩:Qr),r5.1))
  else (
   (Zk n r5.2.1 ([98]:List UInt8)).bind fun r7=>
   jn (fun(j9:(Bool)->Option _)=>
    bif !(Q3 r7.2.1 (⟨0,0,0,0⟩:Qe)) then (
     j9 true)
    else (
     j9 r7.2.2.over)) (fun(s11:Bool)=>
    bif s11 then (
     some ((⟨r5.2.2.1,r5.2.2.2.2.2.1,r5.2.2.2.2.2.2,r7.1,r5.2.2.2.2.1⟩:Qr),r7.2.1))
    else (
     (Zk n r7.2.2 ([101]:List UInt8)).bind fun r12=>
     jn (fun(j14:(Bool)->Option _)=>
      bif !(Q3 r12.2.1 (⟨0,0,0,0⟩:Qe)) then (
       j14 true)
      else (
       j14 r12.2.2.over)) (fun(s16:Bool)=>
      bif s16 then (
       some ((⟨r5.2.2.1,r5.2.2.2.2.2.1,r5.2.2.2.2.2.2,r7.1,r12.1⟩:Qr),r12.2.1))
      else (
       some ((⟨r5.2.2.1,r5.2.2.2.2.2.1,r5.2.2.2.2.2.2,r7.1,r12.1⟩:Qr),(⟨(1:Int),0,0,r12.2.2.at_⟩:Qe))))))))
def Qi7(n:Nat)(x0:(List UInt8)):Option (Qr×Qe):=
 bif decide ((4000:Int)<(x0.length:Int)) then (
  some ((⟨[],[],[],[],[]⟩:Qr),(⟨(1:Int),0,0,(4000:Int)⟩:Qe)))
 else (
  (Qkc n x0).bind fun r1=>
  bif !(Q3 r1.2 (⟨0,0,0,0⟩:Qe)) then (
   some ((⟨[],[],[],[],[]⟩:Qr),r1.2))
  else (
   (Qbx n r1.1).bind fun r3=>
   bif !decide (r3=(0:Int)) then (
    some ((⟨[],[],[],[],[]⟩:Qr),(⟨(2:Int),0,0,r3⟩:Qe)))
   else (
    some (r1.1,r1.2))))
def Qm9(n:Nat)(x0:(List UInt8)):Option (Qr×Bool):=
 (Qj8 ).bind fun r1=>
 (loopM (fun(s17:Int)=>
  bif decide (s17<(6:Int)) then (
   (getI ([r1.a0,r1.a1,r1.a2,r1.a3,r1.a4,r1.a5]:List (List UInt8)) s17).bind fun y18=>
   (Qlb y18).bind fun r20=>
   bif decide (r20=x0) then (
    (Qi7 n y18).bind fun r22=>
    some (Lp.out (Lp.out ((r22.1,true)))))
   else (
    some (Lp.go (wrap64 (s17+(1:Int))))))
  else (
   some (Lp.out (Lp.go ())))) n (0:Int)).bind (lpK fun(_:Unit)=>
 some ((⟨[],[],[],[],[]⟩:Qr),false))
def Qld(n:Nat)(x0:Int)(x1:Int):Option (Qc×Bool):=
 (Kv n x0).bind fun r1=>
 (Kv n x1).bind fun r3=>
 (Qef n r1 r3).bind fun r5=>
 some (r5.1,r5.2)
def Qle(n:Nat)(x0:Qf):Option ((List UInt8)):=
 (Qgx n x0.Abs).bind fun r1=>
 (Qa5 n x0).bind fun r3=>
 bif decide (r3<(0:Int)) then (
  (catS ([45]:List UInt8) r1).bind fun y5=>
  some y5)
 else (
  some r1)
def Qkd(n:Nat)(x0:Qc):Option ((List UInt8)):=
 (Kw n x0).bind fun r1=>
 (Qle n r1.Num).bind fun r3=>
 jn (fun(j15:((List UInt8))->Option _)=>
  (Y7 n 1).bind fun r18=>
  (Qbt n r1.Den r18).bind fun r20=>
  bif !decide (r20=(0:Int)) then (
   (Qgx n r1.Den).bind fun r22=>
   (catS ([47]:List UInt8) r22).bind fun y24=>
   (catS r3 y24).bind fun y26=>
   j15 y26)
  else (
   j15 r3)) (fun(s17:(List UInt8))=>
  some s17)
def Qo0(n:Nat)(x0:(List Qc)):Option ((List UInt8)):=
 (rangeL (fun(_:Nat) (x20:Qc) (s18:(List (List UInt8)))=>
  (Qkd n x20).bind fun r22=>
  (appM 16 s18 ([r22]:List (List UInt8))).bind fun y24=>
  some (Lp.go y24)) x0 0 ([]:List (List UInt8))).bind (lpK fun(s26:(List (List UInt8)))=>
 (Qi4 s26 ([44]:List UInt8)).bind fun r27=>
 some r27)
def Kk(n:Nat):Option (Bool):=
 (some (([(⟨(3:Int),0,0,(⟨(⟨false,[]⟩:Qf),[]⟩:Qc)⟩:Q0)]:List Q0))).bind fun z1=>
 (Qm9 n ([101,117,108,101,114]:List UInt8)).bind fun r2=>
 (Qld n (1:Int) (2:Int)).bind fun r4=>
 (Kv n (0:Int)).bind fun r14=>
 (Kv n (1:Int)).bind fun r16=>
 (Qaj n (⟨(⟨z1,([(0:Int)]:List Int),(1:Int),0⟩:Qx),r2.1,[],(100:Int)⟩:Qs) r14 ([r16]:List Qc) ([r4.1,r4.1]:List Qc)).bind fun r18=>
 jn (fun(j30:(Bool)->Option _)=>
  bif r2.2 then (
   bif (Q3 r18.2 (⟨0,0,0,0⟩:Qe)) then (
    bif decide ((r18.1.Tries.length:Int)=(2:Int)) then (
     (Kv n (1:Int)).bind fun r36=>
     (Qa1 n r18.1.T r36).bind fun r38=>
     bif r38 then (
      (Qo0 n r18.1.Y).bind fun r41=>
      j30 (decide (r41=([57,47,52]:List UInt8))))
     else (
      j30 false))
    else (
     j30 false))
   else (
    j30 false))
  else (
   j30 false)) (fun(s32:Bool)=>
  some s32)
def Xe(n:Nat)(x0:Nat):Option (Int):=
 bif decide (x0=0) then (
  some (32:Int))
 else (
  (loopM (fun(s5:Nat×Int)=>
   bif decide ((s5.1%2)=0) then (
    some (Lp.go ((s5.1 / 2),wrap64 (s5.2+(1:Int)))))
   else (
    some (Lp.out s5.2))) n (x0,(0:Int))).bind fun(t3:Int)=>
  some t3)
def K1(x0:(List Nat))(x1:Int):Option (Nat):=
 bif decide (x1<(x0.length:Int)) then (
  (getI x0 x1).bind fun y1=>
  some y1)
 else (
  some 0)
def Ji(n:Nat)(x0:(List Nat)):Option ((List Nat)):=
 (loopM (fun(s19:Int)=>
  jn (fun(j22:(Bool)->Option _)=>
   bif decide ((0:Int)<s19) then (
    (getI x0 (wrap64 (s19 - (1:Int)))).bind fun y25=>
    j22 (decide (y25=0)))
   else (
    j22 false)) (fun(s24:Bool)=>
   bif s24 then (
    some (Lp.go (wrap64 (s19 - (1:Int)))))
   else (
    some (Lp.out s19)))) n (x0.length:Int)).bind fun(t17:Int)=>
 (sub x0 (0:Int) t17).bind fun y27=>
 (appM 4 ([]:List Nat) y27).bind fun y29=>
 some y29
def Yb(n:Nat)(x0:(List Nat))(x1:(List Nat)):Option ((List Nat)):=
 (mkM 4 (0:Nat) (wrap64 ((max (x0.length:Int) (x1.length:Int))+(1:Int)))).bind fun y1=>
 (loopM (fun(s24:(List Nat)×Nat×Int)=>
  (some (decide (s24.2.2<(wrap64 ((max (x0.length:Int) (x1.length:Int))+(1:Int)))))).bind fun z25=>
  bif z25 then (
   (K1 x0 s24.2.2).bind fun r26=>
   (K1 x1 s24.2.2).bind fun r28=>
   (some (((s24.2.1+((r26+r28)%18446744073709551616))%18446744073709551616))).bind fun z30=>
   (getI s24.1 s24.2.2).bind fun _=>
   some (Lp.go ((List.set s24.1 (Int.toNat s24.2.2) ((z30%4294967296)%4294967296)),(z30 / 4294967296),wrap64 (s24.2.2+(1:Int)))))
  else (
   some (Lp.out s24.1))) n (y1,0,(0:Int))).bind fun(t22:(List Nat))=>
 (Ji n t22).bind fun r33=>
 some r33
def W4(n:Nat)(x0:(List Nat))(x1:(List Nat)):Option (Int):=
 (loopM (fun(s15:Int)=>
  bif decide ((0:Int)≤s15) then (
   (K1 x0 s15).bind fun r16=>
   (K1 x1 s15).bind fun r18=>
   bif decide (r16<r18) then (
    some (Lp.out (Lp.out ((-1:Int)))))
   else (
    bif decide (r18<r16) then (
     some (Lp.out (Lp.out ((1:Int)))))
    else (
     some (Lp.go (wrap64 (s15 - (1:Int)))))))
  else (
   some (Lp.out (Lp.go ())))) n (wrap64 ((max (x0.length:Int) (x1.length:Int)) - (1:Int)))).bind (lpK fun(_:Unit)=>
 some (0:Int))
def Yw(n:Nat)(x0:Nat):Option ((List Nat)):=
 (some (([((x0%4294967296)%4294967296),((x0 / 4294967296)%4294967296)]:List Nat))).bind fun z1=>
 (Ji n z1).bind fun r2=>
 some r2
def V9(n:Nat)(x0:(List Nat))(x1:(List Nat)):Option ((List Nat)):=
 (mkM 4 (0:Nat) (max (x0.length:Int) (x1.length:Int))).bind fun y1=>
 (loopM (fun(s27:(List Nat)×Nat×Int)=>
  bif decide (s27.2.2<(max (x0.length:Int) (x1.length:Int))) then (
   (K1 x0 s27.2.2).bind fun r28=>
   (K1 x1 s27.2.2).bind fun r30=>
   jn (fun(j32:(Nat×Nat)->Option _)=>
    bif decide (r28<((r30+s27.2.1)%18446744073709551616)) then (
     j32 (1,((r28+4294967296)%18446744073709551616)))
    else (
     j32 (0,r28))) (fun(s34:Nat×Nat)=>
    (some (((s34.2+18446744073709551616 - ((r30+s27.2.1)%18446744073709551616))%18446744073709551616))).bind fun z35=>
    (getI s27.1 s27.2.2).bind fun _=>
    some (Lp.go ((List.set s27.1 (Int.toNat s27.2.2) (z35%4294967296)),s34.1,wrap64 (s27.2.2+(1:Int))))))
  else (
   some (Lp.out s27.1))) n (y1,0,(0:Int))).bind fun(t25:(List Nat))=>
 (Ji n t25).bind fun r38=>
 some r38
def Zq(n:Nat)(x0:(List Nat))(x1:Int):Option (Bool):=
 jn (fun(j1:(Bool)->Option _)=>
  bif decide (x1<(0:Int)) then (
   j1 true)
  else (
   j1 (decide ((x0.length:Int)≤(wrap64 (Int.tdiv x1 (32:Int))))))) (fun(s3:Bool)=>
  bif s3 then (
   some false)
  else (
   (getI x0 (wrap64 (Int.tdiv x1 (32:Int)))).bind fun y4=>
   (loopM (fun(s10:Nat×Int)=>
    bif decide (s10.2<(Int.tmod x1 (32:Int))) then (
     some (Lp.go ((s10.1 / 2),wrap64 (s10.2+(1:Int)))))
    else (
     some (Lp.out s10.1))) n (y4,(0:Int))).bind fun(t8:Nat)=>
   some (decide ((t8%2)=1))))
def W5(n:Nat)(x0:(List Nat)):Option (Int):=
 (loopM (fun(s19:Int)=>
  jn (fun(j22:(Bool)->Option _)=>
   bif decide ((0:Int)<s19) then (
    (Zq n x0 (wrap64 (s19 - (1:Int)))).bind fun r25=>
    j22 (!r25))
   else (
    j22 false)) (fun(s24:Bool)=>
   bif s24 then (
    some (Lp.go (wrap64 (s19 - (1:Int)))))
   else (
    some (Lp.out s19)))) n (wrap64 ((32:Int)*(x0.length:Int)))).bind fun(t17:Int)=>
 some t17
def J9(n:Nat)(x0:(List Nat))(x1:(List Nat)):Option ((List Nat)):=
 (mkM 4 (0:Nat) (wrap64 ((x0.length:Int)+(x1.length:Int)))).bind fun y1=>
 (loopM (fun(s77:(List Nat)×Int)=>
  bif decide (s77.2<(x0.length:Int)) then (
   (loopM (fun(s92:(List Nat)×Nat×Int)=>
    bif decide (s92.2.2<(x1.length:Int)) then (
     (getI x0 s77.2).bind fun y93=>
     (getI x1 s92.2.2).bind fun y95=>
     (getI s92.1 (wrap64 (s77.2+s92.2.2))).bind fun y97=>
     (some (((s92.2.1+((((y93*y95)%18446744073709551616)+y97)%18446744073709551616))%18446744073709551616))).bind fun z99=>
     (some (((s92.2.1+((((y93*y95)%18446744073709551616)+y97)%18446744073709551616))%18446744073709551616))).bind fun _=>
     (getI s92.1 (wrap64 (s77.2+s92.2.2))).bind fun _=>
     (some ((List.set s92.1 (Int.toNat (wrap64 (s77.2+s92.2.2))) ((z99%4294967296)%4294967296)))).bind fun z103=>
     some (Lp.go (z103,(z99 / 4294967296),wrap64 (s92.2.2+(1:Int)))))
    else (
     some (Lp.out (s92.1,s92.2.1)))) n (s77.1,0,(0:Int))).bind fun(t90:(List Nat)×Nat)=>
   (getI t90.1 (wrap64 (s77.2+(x1.length:Int)))).bind fun _=>
   (some ((List.set t90.1 (Int.toNat (wrap64 (s77.2+(x1.length:Int)))) (t90.2%4294967296)))).bind fun z106=>
   some (Lp.go (z106,wrap64 (s77.2+(1:Int)))))
  else (
   some (Lp.out s77.1))) n (y1,(0:Int))).bind fun(t75:(List Nat))=>
 (Ji n t75).bind fun r107=>
 some r107
def V5(n:Nat)(x0:(List Nat))(x1:Bool):Option ((List Nat)):=
 jn (fun(j1:(Nat)->Option _)=>
  bif x1 then (
   j1 1)
  else (
   j1 0)) (fun(s3:Nat)=>
  (loopM (fun(s22:(List Nat)×Nat×Int)=>
   bif decide (s22.2.2<(s22.1.length:Int)) then (
    (getI s22.1 s22.2.2).bind fun y23=>
    (getI s22.1 s22.2.2).bind fun y25=>
    (getI s22.1 s22.2.2).bind fun _=>
    (some ((List.set s22.1 (Int.toNat s22.2.2) ((((y25*2)%4294967296)+s22.2.1)%4294967296)))).bind fun z29=>
    some (Lp.go (z29,(y23 / 2147483648),wrap64 (s22.2.2+(1:Int)))))
   else (
    some (Lp.out s22.1))) n (x0,s3,(0:Int))).bind fun(t20:(List Nat))=>
  some t20)
def Vu(n:Nat)(x0:(List Nat))(x0o:Nat)(x0l:Nat)(x1:(List Nat)):Option ((List Nat)):=
 (loopM (fun(s30:(List Nat)×Nat×Int)=>
  bif decide (s30.2.2<(x0l:Int)) then (
   (grd (winS s30.2.2 x0l)).bind fun _=>
   (getI s30.1 ((x0o:Int)+s30.2.2)).bind fun y31=>
   (K1 x1 s30.2.2).bind fun r34=>
   jn (fun(j36:(Nat×Nat)->Option _)=>
    bif decide (y31<((r34+s30.2.1)%18446744073709551616)) then (
     j36 (1,((y31+4294967296)%18446744073709551616)))
    else (
     j36 (0,y31))) (fun(s38:Nat×Nat)=>
    (some (((s38.2+18446744073709551616 - ((r34+s30.2.1)%18446744073709551616))%18446744073709551616))).bind fun z39=>
    (grd (winS s30.2.2 x0l)).bind fun _=>
    (getI s30.1 ((x0o:Int)+s30.2.2)).bind fun _=>
    (some ((List.set s30.1 (Int.toNat ((x0o:Int)+s30.2.2)) (z39%4294967296)))).bind fun z43=>
    some (Lp.go (z43,s38.1,wrap64 (s30.2.2+(1:Int))))))
  else (
   some (Lp.out s30.1))) n (x0,0,(0:Int))).bind fun(t28:(List Nat))=>
 some t28
def Zs(n:Nat)(x0:(List Nat))(x1:(List Nat)):Option ((List Nat)×(List Nat)):=
 (mkM 4 (0:Nat) (x0.length:Int)).bind fun y1=>
 (mkM 4 (0:Nat) (wrap64 ((x1.length:Int)+(1:Int)))).bind fun y3=>
 (W5 n x0).bind fun r5=>
 (loopM (fun(s97:(List Nat)×(List Nat)×Int)=>
  bif decide ((0:Int)≤s97.2.2) then (
   jn (fun(j118:((List Nat)×(List Nat))->Option _)=>
    (getI x0 (wrap64 (Int.tdiv s97.2.2 (32:Int)))).bind fun y121=>
    (grd (decide (0≤Int.tmod s97.2.2 (32:Int)))).bind fun _=>
    (grd (((1*2 ^ (min (Int.toNat (Int.tmod s97.2.2 (32:Int))) 32))%4294967296) != 0)).bind fun _=>
    (V5 n s97.2.1 (decide (((y121 / ((1*2 ^ (min (Int.toNat (Int.tmod s97.2.2 (32:Int))) 32))%4294967296))%2)=1))).bind fun r125=>
    (some (((1*2 ^ (min (Int.toNat (Int.tmod s97.2.2 (32:Int))) 32))%4294967296))).bind fun _=>
    (some ((y121 / ((1*2 ^ (min (Int.toNat (Int.tmod s97.2.2 (32:Int))) 32))%4294967296)))).bind fun _=>
    (some (((y121 / ((1*2 ^ (min (Int.toNat (Int.tmod s97.2.2 (32:Int))) 32))%4294967296))%2))).bind fun _=>
    (some (decide (((y121 / ((1*2 ^ (min (Int.toNat (Int.tmod s97.2.2 (32:Int))) 32))%4294967296))%2)=1))).bind fun _=>
    (V5 n s97.1 false).bind fun r131=>
    (W4 n r125 x1).bind fun r133=>
    bif decide ((0:Int)≤r133) then (
     (Vu n r125 0 r125.length x1).bind fun r135=>
     (getI r131 (0:Int)).bind fun y137=>
     (getI r131 (0:Int)).bind fun _=>
     j118 ((List.set r131 (Int.toNat (0:Int)) ((y137+1)%4294967296)),r135))
    else (
     j118 (r131,r125))) (fun(s120:(List Nat)×(List Nat))=>
    some (Lp.go (s120.1,s120.2,wrap64 (s97.2.2 - (1:Int))))))
  else (
   some (Lp.out (s97.1,s97.2.1)))) n (y1,y3,wrap64 (r5 - (1:Int)))).bind fun(t95:(List Nat)×(List Nat))=>
 (Ji n t95.1).bind fun r141=>
 (Ji n t95.2).bind fun r143=>
 some (r141,r143)
def Xv(n:Nat)(x0:(List Nat))(x0o:Nat)(x0l:Nat)(x1:Int):Option (Nat×Nat×(List Nat)):=
 (loopM (fun(s41:(List Nat)×Int)=>
  bif decide (s41.2<(x0l:Int)) then (
   jn (fun(j45:(Nat)->Option _)=>
    bif decide ((wrap64 (s41.2+(1:Int)))<(x0l:Int)) then (
     (grd (winS (wrap64 (s41.2+(1:Int))) x0l)).bind fun _=>
     (getI s41.1 ((x0o:Int)+(wrap64 (s41.2+(1:Int))))).bind fun y48=>
     j45 y48)
    else (
     j45 0)) (fun(s47:Nat)=>
    (grd (winS s41.2 x0l)).bind fun _=>
    (getI s41.1 ((x0o:Int)+s41.2)).bind fun y51=>
    (some (((((s47*4294967296)%18446744073709551616)+y51)%18446744073709551616))).bind fun z54=>
    (grd (decide (0≤x1))).bind fun _=>
    (grd (winS s41.2 x0l)).bind fun _=>
    (getI s41.1 ((x0o:Int)+s41.2)).bind fun _=>
    (some ((List.set s41.1 (Int.toNat ((x0o:Int)+s41.2)) ((z54 / 2 ^ (min (Int.toNat x1) 64))%4294967296)))).bind fun z59=>
    some (Lp.go (z59,wrap64 (s41.2+(1:Int))))))
  else (
   some (Lp.out s41.1))) n (x0,(0:Int))).bind fun(t39:(List Nat))=>
 (loopM (fun(s84:Nat×Nat)=>
  jn (fun(j88:(Bool)->Option _)=>
   bif decide ((0:Int)<(s84.2:Int)) then (
    (grd (winS (wrap64 ((s84.2:Int) - (1:Int))) s84.2)).bind fun _=>
    (getI t39 ((s84.1:Int)+(wrap64 ((s84.2:Int) - (1:Int))))).bind fun y91=>
    j88 (decide (y91=0)))
   else (
    j88 false)) (fun(s90:Bool)=>
   bif s90 then (
    (grd (winC (0:Int) (wrap64 ((s84.2:Int) - (1:Int))) s84.2)).bind fun _=>
    some (Lp.go ((s84.1+Int.toNat (0:Int)),(Int.toNat (wrap64 ((s84.2:Int) - (1:Int))) - Int.toNat (0:Int)))))
   else (
    some (Lp.out (s84.1,s84.2))))) n (x0o,x0l)).bind fun(t82:Nat×Nat)=>
 some (t82.1,t82.2,t39)
def Vj(n:Nat)(x0:(List Nat))(x0o:Nat)(x0l:Nat):Option (Nat×Nat×Int×(List Nat)):=
 (loopM (fun(s13:Nat×Nat×Int)=>
  (grd (winS (0:Int) s13.2.1)).bind fun _=>
  (getI x0 ((s13.1:Int)+(0:Int))).bind fun y14=>
  bif decide (y14=0) then (
   (grd (winC (1:Int) (s13.2.1:Int) s13.2.1)).bind fun _=>
   some (Lp.go ((s13.1+Int.toNat (1:Int)),(Int.toNat (s13.2.1:Int) - Int.toNat (1:Int)),wrap64 (s13.2.2+(32:Int)))))
  else (
   some (Lp.out (s13.1,s13.2.1,s13.2.2)))) n (x0o,x0l,(0:Int))).bind fun(t11:Nat×Nat×Int)=>
 (grd (winS (0:Int) t11.2.1)).bind fun _=>
 (getI x0 ((t11.1:Int)+(0:Int))).bind fun y18=>
 (Xe n y18).bind fun r21=>
 (Xv n x0 t11.1 t11.2.1 r21).bind fun r23=>
 some (r23.1,r23.2.1,wrap64 (t11.2.2+r21),r23.2.2)
def Ym(n:Nat)(x0:(List Nat))(x1:Int):Option ((List Nat)):=
 (mkM 4 (0:Nat) (wrap64 (Int.tdiv x1 (32:Int)))).bind fun y1=>
 (appM 4 y1 x0).bind fun y3=>
 (grd (decide (0≤Int.tmod x1 (32:Int)))).bind fun _=>
 (some (([((1*2 ^ (min (Int.toNat (Int.tmod x1 (32:Int))) 32))%4294967296)]:List Nat))).bind fun z6=>
 (J9 n y3 z6).bind fun r7=>
 some r7
def Zt(n:Nat)(x0:(List Nat))(x1:(List Nat)):Option ((List Nat)):=
 (Ji n x0).bind fun r1=>
 (Ji n x1).bind fun r3=>
 bif decide ((r1.length:Int)=(0:Int)) then (
  some r3)
 else (
  bif decide ((r3.length:Int)=(0:Int)) then (
   some r1)
  else (
   (Vj n r1 0 r1.length).bind fun r5=>
   (Vj n r3 0 r3.length).bind fun r7=>
   (loopM (fun(s43:(List Nat)×Nat×Nat×(List Nat)×Nat×Nat)=>
    (subW s43.1 s43.2.1 s43.2.2.1).bind fun y44=>
    (subW s43.2.2.2.1 s43.2.2.2.2.1 s43.2.2.2.2.2).bind fun y46=>
    (W4 n y44 y46).bind fun r48=>
    bif decide (r48=(0:Int)) then (
     some (Lp.out (s43.1,s43.2.1,s43.2.2.1)))
    else (
     jn (fun(j50:((List Nat)×Nat×Nat×(List Nat)×Nat×Nat)->Option _)=>
      bif decide (r48<(0:Int)) then (
       j50 (s43.2.2.2.1,s43.2.2.2.2.1,s43.2.2.2.2.2,s43.1,s43.2.1,s43.2.2.1))
      else (
       j50 (s43.1,s43.2.1,s43.2.2.1,s43.2.2.2.1,s43.2.2.2.2.1,s43.2.2.2.2.2))) (fun(s52:(List Nat)×Nat×Nat×(List Nat)×Nat×Nat)=>
      (subW s52.2.2.2.1 s52.2.2.2.2.1 s52.2.2.2.2.2).bind fun y53=>
      (Vu n s52.1 s52.2.1 s52.2.2.1 y53).bind fun r55=>
      (Vj n r55 s52.2.1 s52.2.2.1).bind fun r57=>
      some (Lp.go (r57.2.2.2,r57.1,r57.2.1,s52.2.2.2.1,s52.2.2.2.2.1,s52.2.2.2.2.2))))) n (r5.2.2.2,r5.1,r5.2.1,r7.2.2.2,r7.1,r7.2.1)).bind fun(t41:(List Nat)×Nat×Nat)=>
   (subW t41.1 t41.2.1 t41.2.2).bind fun y59=>
   (Ym n y59 (min r5.2.2.1 r7.2.2.1)).bind fun r61=>
   some r61))
def Yc(x0:(List Nat)):Option (Bool):=
 jn (fun(j3:(Bool)->Option _)=>
  bif decide ((x0.length:Int)=(1:Int)) then (
   (getI x0 (0:Int)).bind fun y6=>
   j3 (decide (y6=1)))
  else (
   j3 false)) (fun(s5:Bool)=>
  some s5)
def Xw(n:Nat)(x0:(List Nat))(x1:(List Nat)):Option ((List Nat)):=
 (Yc x1).bind fun r1=>
 bif r1 then (
  (Ji n x0).bind fun r3=>
  some r3)
 else (
  (Zs n x0 x1).bind fun r5=>
  some r5.1)
def Kx(n:Nat)(x0:Qy):Option (Qy):=
 (Ji n x0.Abs).bind fun r1=>
 jn (fun(j3:(Qy)->Option _)=>
  bif x0.Neg then (
   j3 (⟨decide ((0:Int)<(r1.length:Int)),r1⟩:Qy))
  else (
   j3 (⟨false,r1⟩:Qy))) (fun(s5:Qy)=>
  some s5)
def Zu(n:Nat)(x0:Qy)(x1:Qy):Option (Qy):=
 bif (x0.Neg == x1.Neg) then (
  (Yb n x0.Abs x1.Abs).bind fun r1=>
  (Kx n (⟨x0.Neg,r1⟩:Qy)).bind fun r3=>
  some r3)
 else (
  (W4 n x0.Abs x1.Abs).bind fun r5=>
  bif decide (r5<(0:Int)) then (
   (V9 n x1.Abs x0.Abs).bind fun r7=>
   (Kx n (⟨x1.Neg,r7⟩:Qy)).bind fun r9=>
   some r9)
  else (
   (V9 n x0.Abs x1.Abs).bind fun r11=>
   (Kx n (⟨x0.Neg,r11⟩:Qy)).bind fun r13=>
   some r13))
def Zv(x0:Qa):Option (Qa):=
 some (⟨false,x0.N,x0.D⟩:Qa)
def Jb(n:Nat)(x0:Qa):Option (Qa):=
 (Ji n x0.D).bind fun r1=>
 (Ji n x0.N).bind fun r3=>
 jn (fun(j5:(Bool)->Option _)=>
  bif decide ((r1.length:Int)=(0:Int)) then (
   j5 true)
  else (
   j5 (decide ((r3.length:Int)=(0:Int))))) (fun(s7:Bool)=>
  bif s7 then (
   some (⟨false,([]:List Nat),([1]:List Nat)⟩:Qa))
  else (
   jn (fun(j32:((List Nat)×(List Nat))->Option _)=>
    (Yc r1).bind fun r35=>
    bif !r35 then (
     (Zt n r3 r1).bind fun r37=>
     (Xw n r3 r37).bind fun r39=>
     (Xw n r1 r37).bind fun r41=>
     j32 (r41,r39))
    else (
     j32 (r1,r3))) (fun(s34:(List Nat)×(List Nat))=>
    some (⟨x0.Neg,s34.2,s34.1⟩:Qa))))
def Ka(n:Nat)(x0:Qa)(x1:Qa):Option (Qa):=
 (J9 n x0.N x1.D).bind fun r1=>
 (J9 n x1.N x0.D).bind fun r3=>
 (Zu n (⟨x0.Neg,r1⟩:Qy) (⟨x1.Neg,r3⟩:Qy)).bind fun r5=>
 (J9 n x0.D x1.D).bind fun r7=>
 (Jb n (⟨r5.Neg,r5.Abs,r7⟩:Qa)).bind fun r9=>
 some r9
def Yd(n:Nat)(x0:Qa):Option (Qa):=
 (Jb n (⟨!x0.Neg,x0.N,x0.D⟩:Qa)).bind fun r1=>
 some r1
def Wa(n:Nat)(x0:Qa)(x1:Qa):Option (Qa):=
 (Yd n x1).bind fun r1=>
 (Ka n x0 r1).bind fun r3=>
 some r3
def Wu(x0:Qa):Option (Int):=
 bif decide ((x0.N.length:Int)=(0:Int)) then (
  some (0:Int))
 else (
  bif x0.Neg then (
   some (-1:Int))
  else (
   some (1:Int)))
def Zw(n:Nat)(x0:Qa)(x1:Qa):Option (Int):=
 (Wa n x0 x1).bind fun r1=>
 (Wu r1).bind fun r3=>
 some r3
def Jl(n:Nat)(x0:Int):Option (Qa):=
 bif decide (x0<(0:Int)) then (
  (some ((Int.toNat ((wrap64 (-(wrap64 (x0+(1:Int)))))%18446744073709551616)))).bind fun z1=>
  (Yw n z1).bind fun r2=>
  (Yb n r2 ([1]:List Nat)).bind fun r4=>
  (Jb n (⟨true,r4,([1]:List Nat)⟩:Qa)).bind fun r6=>
  some r6)
 else (
  (Yw n (Int.toNat (x0%18446744073709551616))).bind fun r8=>
  (Jb n (⟨false,r8,([1]:List Nat)⟩:Qa)).bind fun r10=>
  some r10)
def K3(n:Nat)(x0:Qa)(x1:Qa):Option (Qa):=
 (J9 n x0.N x1.N).bind fun r1=>
 (J9 n x0.D x1.D).bind fun r3=>
 (Jb n (⟨(x0.Neg != x1.Neg),r1,r3⟩:Qa)).bind fun r5=>
 some r5
def Wv(x0:Qa):Option (Bool):=
 some (decide ((x0.N.length:Int)=(0:Int)))
def K4(n:Nat)(x0:Qa)(x1:Qa):Option (Qa):=
 (J9 n x0.N x1.D).bind fun r1=>
 (J9 n x0.D x1.N).bind fun r3=>
 (Jb n (⟨(x0.Neg != x1.Neg),r1,r3⟩:Qa)).bind fun r5=>
 some r5
def Zx(n:Nat)(x0:Qa)(x1:Int):Option (Qa×Bool):=
 jn (fun(j3:(Bool)->Option _)=>
  bif decide (x1<(-8:Int)) then (
   j3 true)
  else (
   bif decide ((8:Int)<x1) then (
    j3 true)
   else (
    bif decide (x1<(0:Int)) then (
     (Wv x0).bind fun r6=>
     j3 r6)
    else (
     j3 false)))) (fun(s5:Bool)=>
  bif s5 then (
   (Jl n (0:Int)).bind fun r8=>
   some (r8,false))
  else (
   (Jl n (1:Int)).bind fun r10=>
   (loopM (fun(s20:Qa×Int)=>
    bif decide (s20.2<x1) then (
     (K3 n s20.1 x0).bind fun r21=>
     some (Lp.go (r21,wrap64 (s20.2+(1:Int)))))
    else (
     some (Lp.out s20.1))) n (r10,(0:Int))).bind fun(t18:Qa)=>
   (loopM (fun(s31:Qa×Int)=>
    bif decide (x1<s31.2) then (
     (K4 n s31.1 x0).bind fun r32=>
     some (Lp.go (r32,wrap64 (s31.2 - (1:Int)))))
    else (
     some (Lp.out s31.1))) n (t18,(0:Int))).bind fun(t29:Qa)=>
   some (t29,true)))
def Xx(n:Nat)(x0:Qa):Option (Int):=
 (W5 n x0.N).bind fun r1=>
 (W5 n x0.D).bind fun r3=>
 some (wrap64 (r1+r3))
def W6(n:Nat)(x0:(List Qa)):Option (Qa):=
 (Jl n (0:Int)).bind fun r1=>
 (loopM (fun(s37:Qa×Int)=>
  bif decide (s37.2<(x0.length:Int)) then (
   jn (fun(j44:(Qa)->Option _)=>
    (getI x0 s37.2).bind fun y47=>
    (Zv y47).bind fun r49=>
    (Zw n r49 s37.1).bind fun r51=>
    bif decide ((0:Int)<r51) then (
     j44 r49)
    else (
     j44 s37.1)) (fun(s46:Qa)=>
    some (Lp.go (s46,wrap64 (s37.2+(1:Int))))))
  else (
   some (Lp.out s37.1))) n (r1,(0:Int))).bind fun(t35:Qa)=>
 some t35
def K5(n:Nat)(x0:(List Qa)):Option ((List Qa)):=
 (loopM (fun(s17:(List Qa)×Int)=>
  bif decide (s17.2<(x0.length:Int)) then (
   (getI x0 s17.2).bind fun y18=>
   (Jb n y18).bind fun r20=>
   (appM 56 s17.1 ([r20]:List Qa)).bind fun y22=>
   some (Lp.go (y22,wrap64 (s17.2+(1:Int)))))
  else (
   some (Lp.out s17.1))) n (([]:List Qa),(0:Int))).bind fun(t15:(List Qa))=>
 some t15
def Xy(n:Nat)(x0:Int):Option ((List Qa)):=
 (loopM (fun(s19:(List Qa)×Int)=>
  jn (fun(j20:(Bool)->Option _)=>
   bif decide (s19.2<x0) then (
    j20 (decide (s19.2<(300:Int))))
   else (
    j20 false)) (fun(s22:Bool)=>
   bif s22 then (
    (Jl n (0:Int)).bind fun r23=>
    (appM 56 s19.1 ([r23]:List Qa)).bind fun y25=>
    some (Lp.go (y25,wrap64 (s19.2+(1:Int)))))
   else (
    some (Lp.out s19.1)))) n (([]:List Qa),(0:Int))).bind fun(t17:(List Qa))=>
 some t17
def Ky(n:Nat)(x0:Qa)(x1:Int):Option (Bool):=
 (Xx n x0).bind fun r1=>
 some (decide (r1≤x1))
def Kn(n:Nat)(x0:(List Qa))(x1:Int):Option (Int):=
 (loopM (fun(s13:Int)=>
  bif decide (s13<(x0.length:Int)) then (
   (getI x0 s13).bind fun y14=>
   (Ky n y14 x1).bind fun r16=>
   bif !r16 then (
    some (Lp.out (Lp.out (s13))))
   else (
    some (Lp.go (wrap64 (s13+(1:Int))))))
  else (
   some (Lp.out (Lp.go ())))) n (0:Int)).bind (lpK fun(_:Unit)=>
 some (x0.length:Int))
def Vm(x0:Nat):Option (Bool):=
 jn (fun(j1:(Bool)->Option _)=>
  bif decide (48≤x0) then (
   j1 (decide (x0≤57)))
  else (
   j1 false)) (fun(s3:Bool)=>
  some s3)
def V6(x0:Nat):Option (Bool):=
 jn (fun(j1:(Bool)->Option _)=>
  bif decide (97≤x0) then (
   bif decide (x0≤122) then (
    j1 true)
   else (
    bif decide (65≤x0) then (
     bif decide (x0≤90) then (
      j1 true)
     else (
      j1 (decide (x0=95))))
    else (
     j1 (decide (x0=95)))))
  else (
   bif decide (65≤x0) then (
    bif decide (x0≤90) then (
     j1 true)
    else (
     j1 (decide (x0=95))))
   else (
    j1 (decide (x0=95))))) (fun(s3:Bool)=>
  some s3)
def Zd(n:Nat)(x0:Nat):Option (Int):=
 (Vm x0).bind fun r1=>
 bif r1 then (
  some (1:Int))
 else (
  (V6 x0).bind fun r3=>
  bif r3 then (
   some (2:Int))
  else (
   (loopM (fun(s15:Int)=>
    (some ((([43,45,42,47,94,40,41,91,93,44,59,61]:List UInt8).length:Int))).bind fun z16=>
    bif decide (s15<z16) then (
     (getS ([43,45,42,47,94,40,41,91,93,44,59,61]:List UInt8) s15).bind fun y17=>
     bif decide (y17=x0) then (
      some (Lp.out (Lp.out ((3:Int)))))
     else (
      some (Lp.go (wrap64 (s15+(1:Int))))))
    else (
     some (Lp.out (Lp.go ())))) n (0:Int)).bind (lpK fun(_:Unit)=>
   some (0:Int))))
def Ze(x0:Int):Option (Int):=
 bif decide (x0=(1:Int)) then (
  some (60:Int))
 else (
  bif decide (x0=(2:Int)) then (
   some (12:Int))
  else (
   some (1:Int)))
def Zf(x0:Int)(x1:Nat):Option (Bool):=
 jn (fun(j11:(Bool)->Option _)=>
  bif decide (x0=(1:Int)) then (
   (Vm x1).bind fun r14=>
   bif r14 then (
    j11 true)
   else (
    bif decide (x0=(2:Int)) then (
     (Vm x1).bind fun r16=>
     bif r16 then (
      j11 true)
     else (
      (V6 x1).bind fun r18=>
      j11 r18))
    else (
     j11 false)))
  else (
   bif decide (x0=(2:Int)) then (
    (Vm x1).bind fun r20=>
    bif r20 then (
     j11 true)
    else (
     (V6 x1).bind fun r22=>
     j11 r22))
   else (
    j11 false))) (fun(s13:Bool)=>
  some s13)
def Xz(n:Nat)(x0:(List UInt8)):Option ((List Qg)×Int):=
 bif decide ((4000:Int)<(x0.length:Int)) then (
  some (([]:List Qg),(4000:Int)))
 else (
  (loopM (fun(s407:(List Qg)×Bool×Int)=>
   bif decide (s407.2.2<(x0.length:Int)) then (
    jn (fun(j507:((List Qg)×Bool)->Option _)=>
     (getS x0 s407.2.2).bind fun y510=>
     jn (fun(j512:(Bool)->Option _)=>
      bif decide (y510=10) then (
       j512 false)
      else (
       j512 s407.2.1)) (fun(s514:Bool)=>
      jn (fun(j515:(Bool)->Option _)=>
       bif decide (y510=35) then (
        j515 true)
       else (
        j515 s514)) (fun(s517:Bool)=>
       jn (fun(j518:(Bool)->Option _)=>
        bif s517 then (
         j518 true)
        else (
         bif decide (y510=32) then (
          j518 true)
         else (
          bif decide (y510=9) then (
           j518 true)
          else (
           bif decide (y510=10) then (
            j518 true)
           else (
            j518 (decide (y510=13))))))) (fun(s520:Bool)=>
        bif s520 then (
         j507 (s407.1,s517))
        else (
         jn (fun(j558:((List Qg))->Option _)=>
          jn (fun(j571:(Bool)->Option _)=>
           bif decide ((0:Int)<(s407.1.length:Int)) then (
            (getI s407.1 (wrap64 ((s407.1.length:Int) - (1:Int)))).bind fun y575=>
            (getI s407.1 (wrap64 ((s407.1.length:Int) - (1:Int)))).bind fun y577=>
            bif decide ((wrap64 (y575.At+(y577.Text.length:Int)))=s407.2.2) then (
             (getI s407.1 (wrap64 ((s407.1.length:Int) - (1:Int)))).bind fun y580=>
             (Zf y580.Kind y510).bind fun r582=>
             j571 r582)
            else (
             j571 false))
           else (
            j571 false)) (fun(s573:Bool)=>
           bif s573 then (
            (getI s407.1 (wrap64 ((s407.1.length:Int) - (1:Int)))).bind fun y584=>
            (sub x0 s407.2.2 (wrap64 (s407.2.2+(1:Int)))).bind fun y586=>
            (catS y584.Text y586).bind fun y588=>
            (getI s407.1 (wrap64 ((s407.1.length:Int) - (1:Int)))).bind fun y590=>
            j558 (List.set s407.1 (Int.toNat (wrap64 ((s407.1.length:Int) - (1:Int)))) (⟨y590.Kind,y588,y590.At⟩:Qg)))
           else (
            (Zd n y510).bind fun r592=>
            (sub x0 s407.2.2 (wrap64 (s407.2.2+(1:Int)))).bind fun y594=>
            (appM 32 s407.1 ([(⟨r592,y594,s407.2.2⟩:Qg)]:List Qg)).bind fun y596=>
            j558 y596))) (fun(s560:(List Qg))=>
          (getI s560 (wrap64 ((s560.length:Int) - (1:Int)))).bind fun y598=>
          jn (fun(j603:(Bool)->Option _)=>
           bif decide (y598.Kind=(0:Int)) then (
            j603 true)
           else (
            (Ze y598.Kind).bind fun r607=>
            j603 (decide (r607<(y598.Text.length:Int))))) (fun(s605:Bool)=>
           bif s605 then (
            some (Lp.out (Lp.out ((([]:List Qg),s407.2.2)))))
           else (
            j507 (s560,s517))))))))) (fun(s509:(List Qg)×Bool)=>
     some (Lp.go (s509.1,s509.2,wrap64 (s407.2.2+(1:Int))))))
   else (
    some (Lp.out (Lp.go s407.1)))) n (([]:List Qg),false,(0:Int))).bind (lpK fun(t405:(List Qg))=>
  some (t405,(-1:Int))))
def Y2(n:Nat)(x0:Qg):Option (Bool):=
 (Xz n x0.Text).bind fun r1=>
 jn (fun(j10:(Bool)->Option _)=>
  bif decide (r1.2<(0:Int)) then (
   bif decide ((r1.1.length:Int)=(1:Int)) then (
    (getI r1.1 (0:Int)).bind fun y15=>
    bif decide (y15.Kind=x0.Kind) then (
     (getI r1.1 (0:Int)).bind fun y18=>
     j10 (decide (y18.Text=x0.Text)))
    else (
     j10 false))
   else (
    j10 false))
  else (
   j10 false)) (fun(s12:Bool)=>
  some s12)
def Qaa(n:Nat)(x0:Int)(x1:Int)(x2:Qa)(x3:Qa):Option (Qa×Bool):=
 bif decide (x0=(6:Int)) then (
  (Yd n x2).bind fun r1=>
  some (r1,true))
 else (
  bif decide (x0=(7:Int)) then (
   (Ka n x2 x3).bind fun r3=>
   some (r3,true))
  else (
   bif decide (x0=(8:Int)) then (
    (Wa n x2 x3).bind fun r5=>
    some (r5,true))
   else (
    bif decide (x0=(9:Int)) then (
     (K3 n x2 x3).bind fun r7=>
     some (r7,true))
    else (
     bif decide (x0=(11:Int)) then (
      (Zx n x2 x1).bind fun r9=>
      some (r9.1,r9.2))
     else (
      (Wv x3).bind fun r11=>
      bif r11 then (
       some (x3,false))
      else (
       (K4 n x2 x3).bind fun r13=>
       some (r13,true)))))))
def Qal(x0:Int):Option (Int):=
 some (min (max x0 (0:Int)) (4096:Int))
def Jf(x0:Int)(x1:Int)(x2:Int):Option (Bool):=
 jn (fun(j1:(Bool)->Option _)=>
  bif decide (x1≤x0) then (
   j1 (decide (x0≤x2)))
  else (
   j1 false)) (fun(s3:Bool)=>
  some s3)
def Ye(n:Nat)(x0:Ja)(x1:Int)(x2:Int)(x3:Int):Option (Bool):=
 bif decide (x0.Op=(1:Int)) then (
  jn (fun(j7:(Bool)->Option _)=>
   bif decide (x0.A=(0:Int)) then (
    bif decide (x0.B=(0:Int)) then (
     (Jb n x0.N).bind fun r12=>
     (Jm n r12 x0.N).bind fun r14=>
     j7 r14)
    else (
     j7 false))
   else (
    j7 false)) (fun(s9:Bool)=>
   some s9))
 else (
  jn (fun(j16:(Bool)->Option _)=>
   bif x0.N.Neg then (
    j16 true)
   else (
    bif decide ((0:Int)<(x0.N.N.length:Int)) then (
     j16 true)
    else (
     j16 (decide ((0:Int)<(x0.N.D.length:Int)))))) (fun(s18:Bool)=>
   bif s18 then (
    some false)
   else (
    bif decide (x0.Op=(2:Int)) then (
     jn (fun(j19:(Bool)->Option _)=>
      bif decide (x0.A=(0:Int)) then (
       j19 (decide (x0.B=(0:Int))))
      else (
       j19 false)) (fun(s21:Bool)=>
      some s21))
    else (
     bif decide (x0.Op=(3:Int)) then (
      jn (fun(j24:(Bool)->Option _)=>
       (Jf x0.A (0:Int) (wrap64 (x2 - (1:Int)))).bind fun r27=>
       bif r27 then (
        j24 (decide (x0.B=(0:Int))))
       else (
        j24 false)) (fun(s26:Bool)=>
       some s26))
     else (
      bif decide (x0.Op=(4:Int)) then (
       jn (fun(j31:(Bool)->Option _)=>
        (Jf x0.A (0:Int) (wrap64 (x3 - (1:Int)))).bind fun r34=>
        bif r34 then (
         j31 (decide (x0.B=(0:Int))))
        else (
         j31 false)) (fun(s33:Bool)=>
        some s33))
      else (
       bif decide (x0.Op=(6:Int)) then (
        jn (fun(j38:(Bool)->Option _)=>
         (Jf x0.A (0:Int) (wrap64 (x1 - (1:Int)))).bind fun r41=>
         bif r41 then (
          j38 (decide (x0.B=(0:Int))))
         else (
          j38 false)) (fun(s40:Bool)=>
         some s40))
       else (
        bif decide (x0.Op=(11:Int)) then (
         jn (fun(j47:(Bool)->Option _)=>
          (Jf x0.A (0:Int) (wrap64 (x1 - (1:Int)))).bind fun r50=>
          bif r50 then (
           (Jf x0.B (-8:Int) (8:Int)).bind fun r52=>
           j47 r52)
          else (
           j47 false)) (fun(s49:Bool)=>
          some s49))
        else (
         jn (fun(j60:(Bool)->Option _)=>
          (Jf x0.Op (7:Int) (10:Int)).bind fun r63=>
          bif r63 then (
           (Jf x0.A (0:Int) (wrap64 (x1 - (1:Int)))).bind fun r65=>
           bif r65 then (
            (Jf x0.B (0:Int) (wrap64 (x1 - (1:Int)))).bind fun r67=>
            j60 r67)
           else (
            j60 false))
          else (
           j60 false)) (fun(s62:Bool)=>
          some s62)))))))))
def Y3(n:Nat)(x0:Q6):Option (Int):=
 jn (fun(j5:(Bool)->Option _)=>
  (Jf x0.Dim (1:Int) (6:Int)).bind fun r8=>
  bif !r8 then (
   j5 true)
  else (
   (Jf x0.Par (0:Int) (6:Int)).bind fun r10=>
   bif !r10 then (
    j5 true)
   else (
    bif !decide ((x0.Outs.length:Int)=x0.Dim) then (
     j5 true)
    else (
     j5 (decide ((300:Int)<(x0.Code.length:Int))))))) (fun(s7:Bool)=>
  bif s7 then (
   some (-2:Int))
  else (
   (loopM (fun(s24:Int)=>
    bif decide (s24<(x0.Code.length:Int)) then (
     (getI x0.Code s24).bind fun y25=>
     (Ye n y25 s24 x0.Dim x0.Par).bind fun r27=>
     bif !r27 then (
      some (Lp.out (Lp.out (s24))))
     else (
      some (Lp.go (wrap64 (s24+(1:Int))))))
    else (
     some (Lp.out (Lp.go ())))) n (0:Int)).bind (lpK fun(_:Unit)=>
   (loopM (fun(s41:Int)=>
    bif decide (s41<(x0.Outs.length:Int)) then (
     (getI x0.Outs s41).bind fun y42=>
     (Jf y42 (0:Int) (wrap64 ((x0.Code.length:Int) - (1:Int)))).bind fun r44=>
     bif !r44 then (
      some (Lp.out (Lp.out ((x0.Code.length:Int)))))
     else (
      some (Lp.go (wrap64 (s41+(1:Int))))))
    else (
     some (Lp.out (Lp.go ())))) n (0:Int)).bind (lpK fun(_:Unit)=>
   some (-1:Int)))))
def X0(n:Nat)(x0:Ja)(x1:Wj)(x2:(List Qa)):Option (Qa×Bool):=
 bif decide (x0.Op=(1:Int)) then (
  some (x0.N,true))
 else (
  bif decide (x0.Op=(2:Int)) then (
   some (x1.T,true))
  else (
   bif decide (x0.Op=(3:Int)) then (
    (getI x1.Y x0.A).bind fun y1=>
    some (y1,true))
   else (
    bif decide (x0.Op=(4:Int)) then (
     (getI x1.P x0.A).bind fun y3=>
     some (y3,true))
    else (
     jn (fun(j5:(Bool)->Option _)=>
      bif decide (x0.Op=(6:Int)) then (
       j5 true)
      else (
       j5 (decide (x0.Op=(11:Int))))) (fun(s7:Bool)=>
      bif s7 then (
       (getI x2 x0.A).bind fun y8=>
       (getI x2 x0.A).bind fun y10=>
       (Qaa n x0.Op x0.B y8 y10).bind fun r12=>
       some (r12.1,r12.2))
      else (
       (getI x2 x0.A).bind fun y14=>
       (getI x2 x0.B).bind fun y16=>
       (Qaa n x0.Op (0:Int) y14 y16).bind fun r18=>
       some (r18.1,r18.2)))))))
def X4(n:Nat)(x0:Q6)(x1:(List Qa)):Option ((List Qa)):=
 (loopM (fun(s17:(List Qa)×Int)=>
  bif decide (s17.2<(x0.Outs.length:Int)) then (
   (getI x0.Outs s17.2).bind fun y18=>
   (getI x1 y18).bind fun y20=>
   (appM 56 s17.1 ([y20]:List Qa)).bind fun y22=>
   some (Lp.go (y22,wrap64 (s17.2+(1:Int)))))
  else (
   some (Lp.out s17.1))) n (([]:List Qa),(0:Int))).bind fun(t15:(List Qa))=>
 some t15
def X5(n:Nat)(x0:Q6)(x1:Wj)(x2:Int):Option ((List Qa)×Int×Int):=
 (loopM (fun(s21:(List Qa)×Int)=>
  bif decide (s21.2<(x0.Code.length:Int)) then (
   (getI x0.Code s21.2).bind fun y22=>
   (X0 n y22 x1 s21.1).bind fun r24=>
   bif !r24.2 then (
    some (Lp.out (Lp.out ((([]:List Qa),(3:Int),s21.2)))))
   else (
    (Ky n r24.1 x2).bind fun r26=>
    bif !r26 then (
     some (Lp.out (Lp.out ((([]:List Qa),(6:Int),s21.2)))))
    else (
     (appM 56 s21.1 ([r24.1]:List Qa)).bind fun y28=>
     some (Lp.go (y28,wrap64 (s21.2+(1:Int)))))))
  else (
   some (Lp.out (Lp.go s21.1)))) n (([]:List Qa),(0:Int))).bind (lpK fun(t19:(List Qa))=>
 some (t19,(0:Int),(0:Int)))
def Wb(n:Nat)(x0:(List Qa)):Option (Qa):=
 (Jl n (0:Int)).bind fun r1=>
 (loopM (fun(s15:Qa×Int)=>
  bif decide (s15.2<(x0.length:Int)) then (
   (getI x0 s15.2).bind fun y16=>
   (Ka n s15.1 y16).bind fun r18=>
   some (Lp.go (r18,wrap64 (s15.2+(1:Int)))))
  else (
   some (Lp.out s15.1))) n (r1,(0:Int))).bind fun(t13:Qa)=>
 some t13
def Wc(n:Nat)(x0:(List Qa)):Option (Bool):=
 (loopM (fun(s63:Int)=>
  bif decide (s63<(x0.length:Int)) then (
   jn (fun(j77:(Bool)->Option _)=>
    (getI x0 s63).bind fun y80=>
    (Jb n y80).bind fun r82=>
    (getI x0 s63).bind fun y84=>
    (Jm n r82 y84).bind fun r86=>
    bif !r86 then (
     j77 true)
    else (
     (getI x0 s63).bind fun y89=>
     (Xx n y89).bind fun r91=>
     j77 (decide ((190:Int)<r91)))) (fun(s79:Bool)=>
    bif s79 then (
     some (Lp.out (Lp.out (true))))
    else (
     some (Lp.go (wrap64 (s63+(1:Int)))))))
  else (
   some (Lp.out (Lp.go ())))) n (0:Int)).bind (lpK fun(_:Unit)=>
 some false)
def Y4(n:Nat)(x0:Q4):Option (Int):=
 (Y2 n (⟨(2:Int),x0.Name,0⟩:Qg)).bind fun r1=>
 bif !r1 then (
  some (1:Int))
 else (
  jn (fun(j3:(Bool)->Option _)=>
   bif decide ((x0.B.length:Int)<(1:Int)) then (
    j3 true)
   else (
    bif decide ((8:Int)<(x0.B.length:Int)) then (
     j3 true)
    else (
     bif !decide ((x0.C.length:Int)=(x0.B.length:Int)) then (
      j3 true)
     else (
      bif !decide ((x0.A.length:Int)=(x0.B.length:Int)) then (
       j3 true)
      else (
       bif !decide ((x0.E.length:Int)=(0:Int)) then (
        j3 (!decide ((x0.E.length:Int)=(x0.B.length:Int))))
       else (
        j3 false)))))) (fun(s5:Bool)=>
   bif s5 then (
    some (2:Int))
   else (
    (loopM (fun(s14:Int)=>
     bif decide (s14<(x0.B.length:Int)) then (
      (getI x0.A s14).bind fun y15=>
      bif !decide ((y15.length:Int)=s14) then (
       some (Lp.out (Lp.out ((2:Int)))))
      else (
       some (Lp.go (wrap64 (s14+(1:Int))))))
     else (
      some (Lp.out (Lp.go ())))) n (0:Int)).bind (lpK fun(_:Unit)=>
    (loopM (fun(s29:Int)=>
     bif decide (s29<(x0.B.length:Int)) then (
      (getI x0.A s29).bind fun y30=>
      (Wc n y30).bind fun r32=>
      bif r32 then (
       some (Lp.out (Lp.out ((3:Int)))))
      else (
       some (Lp.go (wrap64 (s29+(1:Int))))))
     else (
      some (Lp.out (Lp.go ())))) n (0:Int)).bind (lpK fun(_:Unit)=>
    jn (fun(j40:(Bool)->Option _)=>
     (Wc n x0.B).bind fun r43=>
     bif r43 then (
      j40 true)
     else (
      (Wc n x0.C).bind fun r45=>
      bif r45 then (
       j40 true)
      else (
       (Wc n x0.E).bind fun r47=>
       j40 r47))) (fun(s42:Bool)=>
     bif s42 then (
      some (3:Int))
     else (
      (loopM (fun(s69:Int)=>
       bif decide (s69<(x0.B.length:Int)) then (
        (getI x0.A s69).bind fun y70=>
        (Wb n y70).bind fun r72=>
        (getI x0.C s69).bind fun y74=>
        (Jm n r72 y74).bind fun r76=>
        bif !r76 then (
         some (Lp.out (Lp.out ((4:Int)))))
        else (
         some (Lp.go (wrap64 (s69+(1:Int))))))
       else (
        some (Lp.out (Lp.go ())))) n (0:Int)).bind (lpK fun(_:Unit)=>
      (Jl n (1:Int)).bind fun r78=>
      (Wb n x0.B).bind fun r80=>
      (Jm n r80 r78).bind fun r82=>
      bif !r82 then (
       some (5:Int))
      else (
       jn (fun(j89:(Bool)->Option _)=>
        bif decide ((0:Int)<(x0.E.length:Int)) then (
         (Wb n x0.E).bind fun r93=>
         (Jm n r93 r78).bind fun r95=>
         j89 (!r95))
        else (
         j89 false)) (fun(s91:Bool)=>
        bif s91 then (
         some (6:Int))
        else (
         some (0:Int))))))))))))
def W7(n:Nat)(x0:Qm)(x1:Qa)(x2:Qa)(x3:Int):Option (Qa):=
 (getI x0.Scheme.C x3).bind fun y1=>
 (K3 n x2 y1).bind fun r3=>
 (Ka n x1 r3).bind fun r5=>
 some r5
def Xf(n:Nat)(x0:Qm)(x1:Qa)(x2:(List Qa)):Option (Wj):=
 (K5 n x0.P).bind fun r1=>
 some (⟨x1,x2,r1⟩:Wj)
def Yn(n:Nat)(x0:(List Qa))(x1:(List (List Qa)))(x2:Int)(x3:Qa):Option (Qa):=
 (Jl n (0:Int)).bind fun r1=>
 (loopM (fun(s69:Qa×Int)=>
  bif decide (s69.2<(x0.length:Int)) then (
   jn (fun(j84:(Qa)->Option _)=>
    (getI x0 s69.2).bind fun y87=>
    (Wv y87).bind fun r89=>
    bif !r89 then (
     (getI x0 s69.2).bind fun y91=>
     (getI x1 s69.2).bind fun y93=>
     (getI y93 x2).bind fun y95=>
     (K3 n y91 y95).bind fun r97=>
     (Ka n s69.1 r97).bind fun r99=>
     j84 r99)
    else (
     j84 s69.1)) (fun(s86:Qa)=>
    some (Lp.go (s86,wrap64 (s69.2+(1:Int))))))
  else (
   some (Lp.out s69.1))) n (r1,(0:Int))).bind fun(t67:Qa)=>
 (K3 n x3 t67).bind fun r101=>
 some r101
def J8(n:Nat)(x0:(List Qa))(x1:(List Qa))(x2:(List (List Qa)))(x3:Qa):Option ((List Qa)):=
 (loopM (fun(s21:(List Qa)×Int)=>
  bif decide (s21.2<(x0.length:Int)) then (
   (getI x0 s21.2).bind fun y22=>
   (Yn n x1 x2 s21.2 x3).bind fun r24=>
   (Ka n y22 r24).bind fun r26=>
   (appM 56 s21.1 ([r26]:List Qa)).bind fun y28=>
   some (Lp.go (y28,wrap64 (s21.2+(1:Int)))))
  else (
   some (Lp.out s21.1))) n (([]:List Qa),(0:Int))).bind fun(t19:(List Qa))=>
 some t19
def Yf(n:Nat)(x0:Q4):Option ((List Qa)):=
 (loopM (fun(s27:(List Qa)×Int)=>
  jn (fun(j28:(Bool)->Option _)=>
   bif decide (s27.2<(x0.E.length:Int)) then (
    j28 (decide (s27.2<(x0.B.length:Int))))
   else (
    j28 false)) (fun(s30:Bool)=>
   bif s30 then (
    (getI x0.B s27.2).bind fun y31=>
    (getI x0.E s27.2).bind fun y33=>
    (Wa n y31 y33).bind fun r35=>
    (appM 56 s27.1 ([r35]:List Qa)).bind fun y37=>
    some (Lp.go (y37,wrap64 (s27.2+(1:Int)))))
   else (
    some (Lp.out s27.1)))) n (([]:List Qa),(0:Int))).bind fun(t25:(List Qa))=>
 some t25
def Yx(n:Nat)(x0:Qm)(x1:Qa)(x2:Qa)(x3:(List Qa)):Option (Q7×X8):=
 (Qal x0.Bits).bind fun r1=>
 (loopM (fun(s43:(List (List Qa))×(List (List Qa))×Int)=>
  bif decide (s43.2.2<(x0.Scheme.B.length:Int)) then (
   (getI x0.Scheme.A s43.2.2).bind fun y44=>
   (J8 n x3 y44 s43.2.1 x2).bind fun r46=>
   (Kn n r46 r1).bind fun r48=>
   bif decide (r48<(r46.length:Int)) then (
    some (Lp.out (Lp.out (((⟨[],[],[],[]⟩:Q7),(⟨(6:Int),s43.2.2,wrap64 ((300:Int)+r48)⟩:X8))))))
   else (
    (W7 n x0 x1 x2 s43.2.2).bind fun r50=>
    (Xf n x0 r50 r46).bind fun r52=>
    (X5 n x0.Tape r52 r1).bind fun r54=>
    bif !decide (r54.2.1=(0:Int)) then (
     some (Lp.out (Lp.out (((⟨[],[],[],[]⟩:Q7),(⟨r54.2.1,s43.2.2,r54.2.2⟩:X8))))))
    else (
     (appM 24 s43.1 ([r46]:List (List Qa))).bind fun y56=>
     (X4 n x0.Tape r54.1).bind fun r58=>
     (appM 24 s43.2.1 ([r58]:List (List Qa))).bind fun y60=>
     some (Lp.go (y56,y60,wrap64 (s43.2.2+(1:Int)))))))
  else (
   some (Lp.out (Lp.go (s43.1,s43.2.1))))) n (([]:List (List Qa)),([]:List (List Qa)),(0:Int))).bind (lpK fun(t41:(List (List Qa))×(List (List Qa)))=>
 (J8 n x3 x0.Scheme.B t41.2 x2).bind fun r62=>
 (Kn n r62 r1).bind fun r64=>
 bif decide (r64<(r62.length:Int)) then (
  some ((⟨[],[],[],[]⟩:Q7),(⟨(6:Int),(x0.Scheme.B.length:Int),wrap64 ((300:Int)+r64)⟩:X8)))
 else (
  jn (fun(j76:((List Qa))->Option _)=>
   bif decide ((0:Int)<(x0.Scheme.E.length:Int)) then (
    (Xy n (x3.length:Int)).bind fun r79=>
    (Yf n x0.Scheme).bind fun r81=>
    (J8 n r79 r81 t41.2 x2).bind fun r83=>
    j76 r83)
   else (
    j76 [])) (fun(s78:(List Qa))=>
   (Kn n s78 r1).bind fun r85=>
   bif decide (r85<(s78.length:Int)) then (
    some ((⟨[],[],[],[]⟩:Q7),(⟨(6:Int),wrap64 ((x0.Scheme.B.length:Int)+(1:Int)),wrap64 ((300:Int)+r85)⟩:X8)))
   else (
    some ((⟨t41.1,t41.2,r62,s78⟩:Q7),(⟨0,0,0⟩:X8))))))
def Y5(n:Nat)(x0:Qm):Option (Bool):=
 jn (fun(j5:(Bool)->Option _)=>
  (Y3 n x0.Tape).bind fun r8=>
  bif decide (r8=(-1:Int)) then (
   (Y4 n x0.Scheme).bind fun r10=>
   bif decide (r10=(0:Int)) then (
    j5 (decide ((x0.P.length:Int)=x0.Tape.Par)))
   else (
    j5 false))
  else (
   j5 false)) (fun(s7:Bool)=>
  some s7)
def Qqg(n:Nat)(x0:(List Qc))(x1:(List (List Qc)))(x2:Int):Option ((List Qc)×Bool):=
 jn (fun(j1:(Bool)->Option _)=>
  bif !decide ((x0.length:Int)=(x1.length:Int)) then (
   j1 true)
  else (
   bif decide (x2<(0:Int)) then (
    j1 true)
   else (
    j1 (decide ((300:Int)<x2))))) (fun(s3:Bool)=>
  bif s3 then (
   some (([]:List Qc),false))
  else (
   (rangeL (fun(_:Nat) (x11:(List Qc)) (_:Unit)=>
    bif !decide ((x11.length:Int)=x2) then (
     some (Lp.out ((([]:List Qc),false))))
    else (
     some (Lp.go ()))) x1 0 ()).bind (lpK fun(_:Unit)=>
   (Qf2 n x2).bind fun r14=>
   (rangeL (fun(i108:Nat) (x109:(List Qc)) (s107:(List Qc))=>
    (getI x0 (i108:Int)).bind fun y111=>
    (Qbs n y111).bind fun r113=>
    bif decide (r113=(0:Int)) then (
     some (Lp.go s107))
    else (
     (rangeL (fun(i131:Nat) (x132:Qc) (s130:(List Qc))=>
      (getI s130 (i131:Int)).bind fun y134=>
      (getI x0 (i108:Int)).bind fun y136=>
      (Qbo n y136 x132).bind fun r138=>
      (X9 n y134 r138).bind fun r140=>
      (getI s130 (i131:Int)).bind fun _=>
      some (Lp.go (List.set s130 (Int.toNat (i131:Int)) r140))) x109 0 s107).bind (lpK fun(s144:(List Qc))=>
     some (Lp.go s144)))) x1 0 r14).bind (lpK fun(s145:(List Qc))=>
   some (s145,true)))))
def Yg(n:Nat)(x0:Qm)(x1:(List Qa))(x2:(List Qa)):Option (Bool):=
 (loopM (fun(s17:Int)=>
  bif decide (s17<(x2.length:Int)) then (
   (getI x2 s17).bind fun y18=>
   (Jb n y18).bind fun r20=>
   (Wu r20).bind fun r22=>
   bif decide (r22≤(0:Int)) then (
    some (Lp.out (Lp.out (false))))
   else (
    some (Lp.go (wrap64 (s17+(1:Int))))))
  else (
   some (Lp.out (Lp.go ())))) n (0:Int)).bind (lpK fun(_:Unit)=>
 jn (fun(j26:(Bool)->Option _)=>
  (Y5 n x0).bind fun r29=>
  bif r29 then (
   bif decide ((x1.length:Int)=x0.Tape.Dim) then (
    j26 (decide ((x2.length:Int)≤(200:Int))))
   else (
    j26 false))
  else (
   j26 false)) (fun(s28:Bool)=>
  some s28))
def Qab(n:Nat)(x0:Jd):Option (Qt):=
 (Vr x0.T).bind fun r1=>
 (Yu n x0.Y).bind fun r3=>
 (loopM (fun(s37:(List Qv)×Int)=>
  bif decide (s37.2<(x0.Tries.length:Int)) then (
   (getI x0.Tries s37.2).bind fun y38=>
   (Vr y38.T).bind fun r40=>
   (Vr y38.Want).bind fun r42=>
   (Vr y38.H).bind fun r44=>
   (Vr y38.Err).bind fun r46=>
   (Yu n y38.Y).bind fun r48=>
   (appM 256 s37.1 ([(⟨r40,r42,r44,r46,r48,y38.Ok⟩:Qv)]:List Qv)).bind fun y50=>
   some (Lp.go (y50,wrap64 (s37.2+(1:Int)))))
  else (
   some (Lp.out s37.1))) n (([]:List Qv),(0:Int))).bind fun(t35:(List Qv))=>
 some (⟨t35,r1,r3⟩:Qt)
def Ya(x0:Qv):Option ((List Qa)):=
 some ([x0.T,x0.Want,x0.H,x0.Err]:List Qa)
def Zg(n:Nat)(x0:Qt)(x1:Qt):Option (Bool):=
 jn (fun(j5:(Bool)->Option _)=>
  bif !decide ((x0.Tries.length:Int)=(x1.Tries.length:Int)) then (
   j5 true)
  else (
   (Jm n x0.T x1.T).bind fun r8=>
   bif !r8 then (
    j5 true)
   else (
    (Vt n x0.Y x1.Y).bind fun r10=>
    j5 (!r10)))) (fun(s7:Bool)=>
  bif s7 then (
   some false)
  else (
   (loopM (fun(s70:Int)=>
    bif decide (s70<(x0.Tries.length:Int)) then (
     (getI x0.Tries s70).bind fun y71=>
     (getI x1.Tries s70).bind fun y73=>
     jn (fun(j85:(Bool)->Option _)=>
      bif (y71.Ok != y73.Ok) then (
       j85 true)
      else (
       (Ya y71).bind fun r89=>
       (Ya y73).bind fun r91=>
       (Vt n r89 r91).bind fun r93=>
       bif !r93 then (
        j85 true)
       else (
        (Vt n y71.Y y73.Y).bind fun r96=>
        j85 (!r96)))) (fun(s87:Bool)=>
      bif s87 then (
       some (Lp.out (Lp.out (false))))
      else (
       some (Lp.go (wrap64 (s70+(1:Int)))))))
    else (
     some (Lp.out (Lp.go ())))) n (0:Int)).bind (lpK fun(_:Unit)=>
   some true)))
def J6(n:Nat)(x0:Jd)(x1:Qt):Option (Bool):=
 (Qab n x0).bind fun r1=>
 (Zg n r1 x1).bind fun r3=>
 some r3
def Xg(n:Nat)(x0:Qm)(x1:Qa)(x2:(List Qa))(x3:(List Qa)):Option (Qt×Qb2):=
 (loopM (fun(s37:(List Qv)×Qa×(List Qa)×Int)=>
  bif decide (s37.2.2.2<(x3.length:Int)) then (
   (getI x3 s37.2.2.2).bind fun y38=>
   (Yx n x0 s37.2.1 y38 s37.2.2.1).bind fun r40=>
   bif !decide (r40.2.a0=(0:Int)) then (
    some (Lp.out (Lp.out (((⟨[],(⟨false,[],[]⟩:Qa),[]⟩:Qt),(⟨r40.2.a0,wrap64 (s37.2.2.2+(1:Int)),r40.2.a1,r40.2.a2⟩:Qb2))))))
   else (
    (getI x3 s37.2.2.2).bind fun y42=>
    (getI x3 s37.2.2.2).bind fun y44=>
    (W6 n r40.1.Err).bind fun r46=>
    (appM 256 s37.1 ([(⟨s37.2.1,y42,y44,r46,s37.2.2.1,true⟩:Qv)]:List Qv)).bind fun y48=>
    (getI x3 s37.2.2.2).bind fun y50=>
    (Ka n s37.2.1 y50).bind fun r52=>
    some (Lp.go (y48,r52,r40.1.Next,wrap64 (s37.2.2.2+(1:Int))))))
  else (
   some (Lp.out (Lp.go (s37.1,s37.2.1,s37.2.2.1))))) n (([]:List Qv),x1,x2,(0:Int))).bind (lpK fun(t35:(List Qv)×Qa×(List Qa))=>
 some ((⟨t35.1,t35.2.1,t35.2.2⟩:Qt),(⟨0,0,0,0⟩:Qb2)))
def Xh(x0:Qb2):Option (Qe):=
 some (⟨x0.a0,x0.a1,x0.a2,x0.a3⟩:Qe)
def W8(n:Nat)(x0:Qm)(x1:J2)(x2:(List Qa)):Option (Bool):=
 jn (fun(j7:(Bool)->Option _)=>
  (Xu n x0 (10:Int) (4:Int) (2:Int)).bind fun r10=>
  bif r10 then (
   j7 true)
  else (
   (Xt n x1).bind fun r12=>
   bif r12 then (
    j7 true)
   else (
    (Jn n x2 (3:Int) (2:Int)).bind fun r14=>
    bif r14 then (
     j7 true)
    else (
     j7 (decide ((400:Int)<x0.Bits)))))) (fun(s9:Bool)=>
  bif s9 then (
   (Kk n ).bind fun r16=>
   some r16)
  else (
   (Yv n x0).bind fun r18=>
   (K0 x1.T).bind fun r20=>
   (Kh n x1.Y).bind fun r22=>
   (Kh n x2).bind fun r24=>
   (Qaj n r18 r20 r22 r24).bind fun r26=>
   (Yg n x0 x1.Y x2).bind fun r28=>
   bif !r28 then (
    jn (fun(j34:(Bool)->Option _)=>
     (J6 n r26.1 (⟨[],(⟨false,[],[]⟩:Qa),[]⟩:Qt)).bind fun r37=>
     bif r37 then (
      bif (Q3 r26.2 (⟨(2:Int),0,0,0⟩:Qe)) then (
       (Kk n ).bind fun r39=>
       j34 r39)
      else (
       j34 false))
     else (
      j34 false)) (fun(s36:Bool)=>
     some s36))
   else (
    (Jb n x1.T).bind fun r41=>
    (K5 n x1.Y).bind fun r43=>
    (K5 n x2).bind fun r45=>
    (Xg n x0 r41 r43 r45).bind fun r47=>
    jn (fun(j57:(Bool)->Option _)=>
     (J6 n r26.1 r47.1).bind fun r60=>
     bif r60 then (
      (Xh r47.2).bind fun r63=>
      bif (Q3 r26.2 r63) then (
       (Kk n ).bind fun r66=>
       j57 r66)
      else (
       j57 false))
     else (
      j57 false)) (fun(s59:Bool)=>
     some s59))))
def Qei(n:Nat)(x0:Qs)(x1:Qc)(x2:(List Qc))(x3:(List Qc)):Option (Jd×Qe):=
 jn (fun(j5:(Bool)->Option _)=>
  (Qa8 n x0).bind fun r8=>
  bif !r8 then (
   j5 true)
  else (
   bif !decide ((x2.length:Int)=x0.Tape.Dim) then (
    j5 true)
   else (
    (Qe6 n x3).bind fun r10=>
    j5 (!r10)))) (fun(s7:Bool)=>
  bif s7 then (
   some ((⟨[],(⟨(⟨false,[]⟩:Qf),[]⟩:Qc),[]⟩:Jd),(⟨(2:Int),0,0,0⟩:Qe)))
  else (
   (Kw n x1).bind fun r12=>
   (Kv n (1:Int)).bind fun r14=>
   (Qbv n r14 x2).bind fun r16=>
   (rangeL (fun(i48:Nat) (x49:Qc) (s47:(List J5)×Qc×(List Qc))=>
    (Kw n x49).bind fun r51=>
    (Qft n x0 s47.2.1 r51 s47.2.2).bind fun r53=>
    bif !(Q3 r53.2 (⟨0,0,0,0⟩:Qe)) then (
     some (Lp.out (((⟨[],(⟨(⟨false,[]⟩:Qf),[]⟩:Qc),[]⟩:Jd),(⟨r53.2.Kind,wrap64 ((i48:Int)+(1:Int)),r53.2.Stage,r53.2.At⟩:Qe)))))
    else (
     (Qcw n r53.1.Err).bind fun r55=>
     (appM 256 s47.1 ([(⟨s47.2.1,r51,r51,r55,s47.2.2,true⟩:J5)]:List J5)).bind fun y57=>
     (X9 n s47.2.1 r51).bind fun r59=>
     some (Lp.go (y57,r59,r53.1.Next)))) x3 0 (([]:List J5),r12,r16)).bind (lpK fun(s61:(List J5)×Qc×(List Qc))=>
   some ((⟨s61.1,s61.2.1,s61.2.2⟩:Jd),(⟨0,0,0,0⟩:Qe)))))
def Qb6(n:Nat)(x0:Qs)(x1:Qc)(x2:Qc)(x3:Int)(x4:(List Qc)):Option (Jd×Qe):=
 jn (fun(j3:(Bool)->Option _)=>
  bif decide (x3<(1:Int)) then (
   j3 true)
  else (
   bif decide ((200:Int)<x3) then (
    j3 true)
   else (
    (Qeh n x2 x1).bind fun r6=>
    j3 (decide (r6≤(0:Int)))))) (fun(s5:Bool)=>
  bif s5 then (
   some ((⟨[],(⟨(⟨false,[]⟩:Qf),[]⟩:Qc),[]⟩:Jd),(⟨(2:Int),0,0,0⟩:Qe)))
  else (
   (Qf4 n x2 x1).bind fun r8=>
   (Kv n x3).bind fun r10=>
   (Qef n r8 r10).bind fun r12=>
   (loopM (fun(s22:(List Qc)×Int)=>
    bif decide (s22.2<x3) then (
     (appM 56 s22.1 ([r12.1]:List Qc)).bind fun y23=>
     some (Lp.go (y23,wrap64 (s22.2+(1:Int)))))
    else (
     some (Lp.out s22.1))) n (([]:List Qc),(0:Int))).bind fun(t20:(List Qc))=>
   (Qei n x0 x1 x4 t20).bind fun r25=>
   some (r25.1,r25.2)))
def Xc(n:Nat)(x0:Qm)(x1:J2)(x2:Int):Option (Bool):=
 jn (fun(j5:(Bool)->Option _)=>
  (Xu n x0 (10:Int) (4:Int) (2:Int)).bind fun r8=>
  bif r8 then (
   j5 true)
  else (
   (Xt n x1).bind fun r10=>
   bif r10 then (
    j5 true)
   else (
    bif decide ((3:Int)<x2) then (
     bif decide (x2≤(200:Int)) then (
      j5 true)
     else (
      j5 (decide ((400:Int)<x0.Bits))))
    else (
     j5 (decide ((400:Int)<x0.Bits)))))) (fun(s7:Bool)=>
  bif s7 then (
   (Kk n ).bind fun r12=>
   some r12)
  else (
   (Yv n x0).bind fun r14=>
   (K0 x1.T).bind fun r16=>
   (K0 x1.H).bind fun r18=>
   (Kh n x1.Y).bind fun r20=>
   (Qb6 n r14 r16 r18 x2 r20).bind fun r22=>
   (Jb n x1.T).bind fun r24=>
   (Jb n x1.H).bind fun r26=>
   (Wa n r26 r24).bind fun r28=>
   (loopM (fun(s52:(List Qa)×Int)=>
    jn (fun(j53:(Bool)->Option _)=>
     bif decide (s52.2<x2) then (
      j53 (decide (s52.2<(3:Int))))
     else (
      j53 false)) (fun(s55:Bool)=>
     bif s55 then (
      (Jl n x2).bind fun r56=>
      (K4 n r28 r56).bind fun r58=>
      (appM 56 s52.1 ([r58]:List Qa)).bind fun y60=>
      some (Lp.go (y60,wrap64 (s52.2+(1:Int)))))
     else (
      some (Lp.out s52.1)))) n (([]:List Qa),(0:Int))).bind fun(t50:(List Qa))=>
   jn (fun(j66:(Bool)->Option _)=>
    bif decide (x2<(1:Int)) then (
     j66 true)
    else (
     bif decide ((3:Int)<x2) then (
      j66 true)
     else (
      (Wu r28).bind fun r69=>
      bif decide (r69≤(0:Int)) then (
       j66 true)
      else (
       (Yg n x0 x1.Y t50).bind fun r71=>
       j66 (!r71))))) (fun(s68:Bool)=>
    bif s68 then (
     jn (fun(j77:(Bool)->Option _)=>
      (J6 n r22.1 (⟨[],(⟨false,[],[]⟩:Qa),[]⟩:Qt)).bind fun r80=>
      bif r80 then (
       bif (Q3 r22.2 (⟨(2:Int),0,0,0⟩:Qe)) then (
        (Kk n ).bind fun r82=>
        j77 r82)
       else (
        j77 false))
      else (
       j77 false)) (fun(s79:Bool)=>
      some s79))
    else (
     (K5 n x1.Y).bind fun r86=>
     (Xg n x0 r24 r86 t50).bind fun r88=>
     jn (fun(j98:(Bool)->Option _)=>
      (J6 n r22.1 r88.1).bind fun r101=>
      bif r101 then (
       (Xh r88.2).bind fun r104=>
       bif (Q3 r22.2 r104) then (
        (Kk n ).bind fun r107=>
        j98 r107)
       else (
        j98 false))
      else (
       j98 false)) (fun(s100:Bool)=>
      some s100)))))
end Go.Proofs.YthbndkiddockmaaGreatDoor
