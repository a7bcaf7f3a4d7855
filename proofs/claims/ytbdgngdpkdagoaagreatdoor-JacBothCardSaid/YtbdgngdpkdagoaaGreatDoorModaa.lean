import Derived.Test.YtbdgngdpkdagoaaGreatDoorModa
set_option maxRecDepth 100000
set_option maxHeartbeats 4000000
namespace Go.Proofs.YtbdgngdpkdagoaaGreatDoor
open Go Go.RowKit
def Qqu(x0:(List (List Qa)))(x1:Int):Option ((List (List Qa))):=(mkM 24 ([]:(List Qa)) x1).bind λy1=>(rangeL (λ(_:Nat) (a2:(List Qa)) (u:(List (List Qa)))=>(rangeL (λ(g:Nat) (_:(List Qa)) (v:(List (List Qa)))=>(getI v (g:Int)).bind λa3=>(getI a2 (g:Int)).bind λa4=>(appM 56 a3 ([a4]:List Qa)).bind λa5=>some (Lp.go (List.set v (Int.toNat (g:Int)) a5))) u 0 u).bind (lpK λ(a0:(List (List Qa)))=>some (Lp.go a0))) x0 0 y1).bind (lpK λ(a1:(List (List Qa)))=>some a1)
def Qbr(n:Nat)(x0:Wx)(x1:Int):Option (Bool):=(Qbd n x0).bind λr1=>bif r1 then((V4 n).bind λr3=>some r3)else((Qay n x0.P).bind λg=>(Kw x0.F.T).bind λr7=>(Kx n x0.F.Y).bind λr9=>(Kx n x0.A5).bind λa3=>(Qa5 n (⟨g.Tape,g.Av,g.P,(2000:Int)⟩:Qg) r7 r9 a3).bind λa0=>(Qdh n (⟨g.Tape,g.Av,g.P,(2000:Int)⟩:Qg) a0.1 x1).bind λa1=>(Qpm n (⟨g.Tape,g.Av,g.P,(2000:Int)⟩:Qg) a0.1).bind λa2=>jn (λ(u:(Bool)->Option _)=>bif !(Qs a0.2 (⟨0,0,0,0⟩:Qe)) then(u true)else(bif !(Qs a1.2 (⟨0,0,0,0⟩:Qe)) then(u true)else(u (!(Qs a2.2 (⟨0,0,0,0⟩:Qe)))))) (λ(a7:Bool)=>bif a7 then((V4 n).bind λa4=>some a4)else(jn (λ(v:(Bool)->Option _)=>(Qh8 n a1.1 a2.1).bind λa5=>bif a5 then(bif decide ((a1.1.Y.length:Int)=(x0.F.Y.length:Int)) then((V4 n).bind λa6=>v a6)else(v false))else(v false)) (λ(a8:Bool)=>some a8))))
end Go.Proofs.YtbdgngdpkdagoaaGreatDoor
