import Derived.Test.YtbdgngdpkdagoabGreatDoorMod
set_option maxRecDepth 100000
set_option maxHeartbeats 4000000
namespace Go.Proofs.YtbdgngdpkdagoabGreatDoor
open Go Go.RowKit
def Q1l:List Nat->Qpv
 | [a0,a1,a2,a3,a4,a5,a6,a7,a8]=>⟨a0,a1,a2,a3,a4,a5,a6,a7,a8⟩
 | _=>(⟨0,0,0,0,0,0,0,0,0⟩:Qpv)
def Qte(n:Nat)(x0:Nat):Option ((List UInt8)):=(loopM (λ(g:Nat×Qpv×Int)=>bif decide ((0:Int)<=g.2.2) then((getI ([g.2.1.a0,g.2.1.a1,g.2.1.a2,g.2.1.a3,g.2.1.a4,g.2.1.a5,g.2.1.a6,g.2.1.a7,g.2.1.a8]:List Nat) g.2.2).bind λ_=>some (Lp.go ((g.1 / 10),(Q1l (List.set ([g.2.1.a0,g.2.1.a1,g.2.1.a2,g.2.1.a3,g.2.1.a4,g.2.1.a5,g.2.1.a6,g.2.1.a7,g.2.1.a8]:List Nat) (Int.toNat g.2.2) (((48+(g.1%10))%4294967296)%256))),wrap64 (g.2.2 - (1:Int)))))else(some (Lp.out g.2.1))) n (x0,(⟨0,0,0,0,0,0,0,0,0⟩:Qpv),(8:Int))).bind λ(u:Qpv)=>(some (([u.a0,u.a1,u.a2,u.a3,u.a4,u.a5,u.a6,u.a7,u.a8]:List Nat))).bind λv=>some (bS v)
def Qpf(n:Nat)(x0:(List Nat)):Option ((List UInt8)):=(Qhf n x0).bind λr1=>bif r1 then(some ([48]:List UInt8))else((loopM (λ(u:(List Nat)×(List (List UInt8)))=>(Qhf n u.1).bind λa1=>bif !a1 then((Qmm n u.1 1000000000).bind λv=>(Qte n v.2.1).bind λa2=>(appM 16 u.2 ([a2]:List (List UInt8))).bind λa5=>some (Lp.go (v.1,a5)))else(some (Lp.out u.2))) n (x0,([]:List (List UInt8)))).bind λ(a0:(List (List UInt8)))=>(loopM (λ(g:(List UInt8)×Int)=>bif decide ((0:Int)<=g.2) then((getI a0 g.2).bind λa6=>(appM 1 g.1 a6).bind λa7=>some (Lp.go (a7,wrap64 (g.2 - (1:Int)))))else(some (Lp.out g.1))) n (([]:List UInt8),wrap64 ((a0.length:Int) - (1:Int)))).bind λ(a4:(List UInt8))=>(Qm6 a4 ([48]:List UInt8)).bind λa3=>some a3)
def Qup(n:Nat)(x0:Qf):Option ((List UInt8)):=(Qpf n x0.A8).bind λg=>(Qdu n x0).bind λu=>bif decide (u<(0:Int)) then ( (catS ([45]:List UInt8) g).bind λv=>some v) else ( some g)
def Qtf(n:Nat)(x0:Qc):Option ((List UInt8)):=(K3 n x0).bind λu=>(Qup n u.Num).bind λr3=>jn (λ(g:((List UInt8))->Option _)=>(Qdr n 1).bind λv=>(Qhu n u.Den v).bind λa0=>bif !decide (a0=(0:Int)) then((Qpf n u.Den).bind λa1=>(catS ([47]:List UInt8) a1).bind λa4=>(catS r3 a4).bind λa5=>g a5)else(g r3)) (λ(a3:(List UInt8))=>some a3)
def Qqy(n:Nat)(x0:(List Qc)):Option ((List UInt8)):=(rangeL (λ(_:Nat) (a1:Qc) (v:(List (List UInt8)))=>(Qtf n a1).bind λg=>(appM 16 v ([g]:List (List UInt8))).bind λa2=>some (Lp.go a2)) x0 0 ([]:List (List UInt8))).bind (lpK λ(a0:(List (List UInt8)))=>(Qr4 a0 ([44]:List UInt8)).bind λu=>some u)
def Z6(n:Nat)(x0:Qa)(x1:Int):Option (Qa):=(Ka n x1).bind λr1=>(loopM (λ(g:Qa×Int)=>bif decide (g.2<x1) then((Q3 n g.1 x0).bind λa0=>some (Lp.go (a0,wrap64 (g.2+(1:Int)))))else(some (Lp.out g.1))) n (r1,(1:Int))).bind λ(t9:Qa)=>(loopM (λ(u:Qa×Int)=>jn (λ(v:(Bool)->Option _)=>bif decide (x1<u.2) then(v (decide (x1<(0:Int))))else(v false)) (λ(a2:Bool)=>bif a2 then((Vl n u.1 x0).bind λa1=>some (Lp.go (a1,wrap64 (u.2 - (1:Int)))))else(some (Lp.out u.1)))) n (t9,(1:Int))).bind λ(a3:Qa)=>some a3
end Go.Proofs.YtbdgngdpkdagoabGreatDoor
