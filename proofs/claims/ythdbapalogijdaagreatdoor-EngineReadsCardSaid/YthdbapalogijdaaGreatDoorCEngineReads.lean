import Derived.Test.YthdbapalogijdaaGreatDoorRows
import Derived.Test.YthdbapalogijdaaGreatDoorChecked
import Derived.Lay
import Derived.Stop.Joined
import Derived.SevenTiedAt
namespace Go.Proofs.YthdbapalogijdaaGreatDoor
open Go
set_option maxRecDepth 100000
set_option maxHeartbeats 8000000
theorem Ec{a b:Bool}(ha:a=true)(hb:b=true):(a && b)=true:=by rw[ha,hb];rfl
def cloBit(P:Program):Nat->List Nat->Nat->List Nat->List Nat
 |0,_,_,s=>s.reverse
 |_+1,[],_,s=>s.reverse
 |n+1,f::t,k,s=>bif Nat.beq (Nat.land 1 (Nat.shiftRight k f)) 0 then cloBit P n ((P.funcs[f]?).elim [] P.leadsTo++t) (Nat.lor k (Nat.shiftLeft 1 f)) (f::s) else cloBit P n t k s
theorem cloBitB(k x:Nat):(Nat.beq (Nat.land 1 (Nat.shiftRight k x)) 0)=!k.testBit x:=by
 show Nat.beq (1&&&k>>>x) 0=!(1&&&k>>>x != 0)
 cases h:1&&&k>>>x<;>rfl
theorem cloBitE(P:Program):∀(n:Nat)(t:List Nat)(k:Nat)(s:List Nat),(∀ x,s.contains x=k.testBit x)->P.closureVia n t s=cloBit P n t k s
 |0,_,_,_,_=>by simp [Program.closureVia,cloBit]
 |n+1,[],_,_,_=>by simp [Program.closureVia,cloBit]
 |n+1,f::t,k,s,h=>by
  rw[Program.closureVia,cloBit,cloBitB,h f]
  cases k.testBit f
  · exact cloBitE P n _ _ _ λx=>by
     rw[List.contains_cons,h x,show Nat.lor k (Nat.shiftLeft 1 f)=k|||1<<<f from rfl,Nat.testBit_or,Nat.one_shiftLeft,Nat.testBit_two_pow,Bool.or_comm]
     grind
  · exact cloBitE P n t k s h
theorem cloBitC(P:Program)(f:Nat):P.closure f=cloBit P (1+(P.funcs.toList.map λg=>(P.leadsTo g).length+1).sum) [f] 0 []:=cloBitE P _ _ _ _ λx=>by simp
set_option maxHeartbeats 8000000 in
theorem Qzp:joinedFacts Tryz.prog 3 Tryz.f3 Rows.engineReadsSpec Rows.engineReadsRow=true:=by
 unfold joinedFacts Program.inPlace Program.recurses Program.unfollowed Program.varsNamed
 rw[cloBitC Tryz.prog 3]
 repeat' (with_reducible apply Ec)
 all_goals as_aux_lemma=>kernel_rfl
end Go.Proofs.YthdbapalogijdaaGreatDoor
