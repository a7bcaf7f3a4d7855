import Derived.Test.YtkkfedionkhgnaaGreatDoorMod
set_option maxRecDepth 100000
set_option maxHeartbeats 4000000
namespace Go.Proofs.YtkkfedionkhgnaaGreatDoor
open Go Go.RowKit
def Z2(x0:(List (List Qa))):Option (Int):=bif decide ((x0.length:Int)=(0:Int)) then ( some (0:Int)) else ( (getI x0 (0:Int)).bind λy1=>some (y1.length:Int))
def Qhq(x0:(List (List Qa))):Option (Bool):=(rangeL (λ(_:Nat) (x10:(List Qa)) (_:Unit)=>(Z2 x0).bind λr12=>bif !decide ((x10.length:Int)=r12) then(some (Lp.out (false)))else(some (Lp.go ()))) x0 0 ()).bind (lpK λ(_:Unit)=>some true)
def Qbm(n:Nat)(x0:(List (List Qa)))(x1:(List Qa)):Option ((List Qa)×Bool):=jn (λ(j5:(Bool)->Option _)=>(Z2 x0).bind λr8=>bif !decide (r8=(x1.length:Int)) then(j5 true)else((Qhq x0).bind λr10=>j5 (!r10))) (λ(s7:Bool)=>bif s7 then(some (([]:List Qa),false))else((rangeL (λ(_:Nat) (x31:(List Qa)) (s29:(List Qa))=>(Qfy n x31 x1).bind λr33=>(appM 56 s29 ([r33.1]:List Qa)).bind λy35=>some (Lp.go y35)) x0 0 ([]:List Qa)).bind (lpK λ(s37:(List Qa))=>some (s37,true))))
end Go.Proofs.YtkkfedionkhgnaaGreatDoor
