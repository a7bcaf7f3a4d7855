import Derived.Test.YtlfphifbmoccgaaGreatDoorLibM
import Derived.Test.YtlfphifbmoccgaaGreatDoorMod
set_option maxRecDepth 100000
set_option maxHeartbeats 4000000
namespace Go.Proofs.YtlfphifbmoccgaaGreatDoor
open Go Go.RowKit
structure Xp where
 a0:(List Qc)
 a1:(List Qc)
def Qgk(x:Xp):Prop:=Q6 x.a0∧Q6 x.a1∧True
def Yq(n:Nat)(x0:Qx)(x1:J9)(x2:Xp):Option (Bool):=jn (λ(j9:(Bool)->Option _)=>(Xd n x0 (10:Int) (4:Int) (2:Int)).bind λr12=>bif r12 then(j9 true)else(bif decide ((3:Int)<(x0.Scheme.B.length:Int)) then(j9 true)else((X8 n x1).bind λr14=>bif r14 then(j9 true)else((Qu n x2.a0 (6:Int) (2:Int)).bind λr16=>bif r16 then(j9 true)else((Qu n x2.a1 (6:Int) (2:Int)).bind λr18=>j9 r18))))) (λ(s11:Bool)=>bif s11 then((Vb n).bind λr20=>some r20)else((X0 n x0).bind λr22=>(Jf x1.T).bind λr24=>(Jf x1.H).bind λr26=>(Qw n x1.Y).bind λr28=>(Qw n x2.a0).bind λr34=>(Qw n x2.a1).bind λr36=>(K8 n ([r34,r36]:List (List Qa))).bind λr38=>(Qw n x2.a0).bind λr40=>(Zk n (⟨r22.Tape,r22.Scheme,r22.P,(1500:Int)⟩:Qh) r24 r26 r28 r40).bind λr42=>(Qw n x2.a1).bind λr44=>(Zk n (⟨r22.Tape,r22.Scheme,r22.P,(1500:Int)⟩:Qh) r24 r26 r28 r44).bind λr46=>(Zk n (⟨r22.Tape,r22.Scheme,r22.P,(1500:Int)⟩:Qh) r24 r26 r28 r38.1).bind λr48=>jn (λ(j50:(Bool)->Option _)=>bif !r38.2 then(j50 true)else(bif !(Qo r42.2 (⟨0,0,0,0⟩:Qd)) then(j50 true)else(bif !(Qo r46.2 (⟨0,0,0,0⟩:Qd)) then(j50 true)else(j50 (!(Qo r48.2 (⟨0,0,0,0⟩:Qd))))))) (λ(s52:Bool)=>bif s52 then((Vb n).bind λr53=>some r53)else((Qel n r42.1 r46.1).bind λr55=>jn (λ(j63:(Bool)->Option _)=>bif r55.2 then((Vk n r48.1.Y r55.1.Y).bind λr66=>bif r66 then((Vk n r48.1.P r55.1.P).bind λr68=>bif r68 then((Vb n).bind λr70=>j63 r70)else(j63 false))else(j63 false))else(j63 false)) (λ(s65:Bool)=>some s65)))))
end Go.Proofs.YtlfphifbmoccgaaGreatDoor
