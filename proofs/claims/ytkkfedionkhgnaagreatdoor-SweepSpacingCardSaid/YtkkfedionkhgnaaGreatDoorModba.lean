import Derived.Test.YtkkfedionkhgnaaGreatDoorModb
set_option maxRecDepth 100000
set_option maxHeartbeats 4000000
namespace Go.Proofs.YtkkfedionkhgnaaGreatDoor
open Go Go.RowKit
def W9(n:Nat)(x0:Ke)(x1:Int)(x2:Int):Option (Bool):=jn (λ(j3:(Bool)->Option _)=>(Wn n x0).bind λr6=>bif r6 then(j3 true)else(bif decide (x1<(1:Int)) then(j3 true)else(bif decide (x2<(0:Int)) then(j3 true)else(bif decide ((10:Int)<x1) then(j3 true)else(bif decide ((10:Int)<x2) then(j3 true)else(j3 (decide ((2000:Int)<x0.P.Ap)))))))) (λ(s5:Bool)=>bif s5 then((Vz n).bind λr8=>some r8)else((Wj n x0.P).bind λr10=>(Jt x0.F.T).bind λr12=>(Q7 n x0.F.Y).bind λr14=>(Q7 n x0.Aw).bind λr16=>(Zf n r10 r12 r14 r16).bind λr18=>(Q7 n x0.W).bind λr20=>(Z5 n r10 r18.1 r20 x1).bind λr22=>(Z5 n r10 r18.1 r20 (wrap64 (x1+x2))).bind λr24=>bif !(Qo r18.2 (⟨0,0,0,0⟩:Qc)) then((Vz n).bind λr26=>some r26)else((Qbz n r18.1 x1).bind λr28=>(Qbz n r18.1 (wrap64 (x1+x2))).bind λr30=>jn (λ(j38:(Bool)->Option _)=>bif (Qo r22.2 r24.2) then((Qap n r22.1.Y r24.1.Y).bind λr41=>bif r41 then((Qap n r22.1.P r24.1.P).bind λr43=>bif r43 then(bif decide (r30.Kept≤r28.Kept) then(bif decide (r28.A2≤r30.A2) then((Vz n).bind λr45=>j38 r45)else(j38 false))else(j38 false))else(j38 false))else(j38 false))else(j38 false)) (λ(s40:Bool)=>some s40))))
end Go.Proofs.YtkkfedionkhgnaaGreatDoor
