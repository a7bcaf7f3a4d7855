import Derived.WalkKit
import Derived.KernelRfl
import Derived.Test.YtkkfedionkhgnaaGreatDoorProg
namespace Go.Proofs.YtkkfedionkhgnaaGreatDoor
open Go
def gN:Nat:=1
def GF(w:World):Prop:=(∃ m,w.cell? ⟨0,0,none⟩=some (.int .i64 m))∧True
theorem GF_st{w w':World}(h:GF w)(_:w.heap.size≤w'.heap.size)(hb:∀ b,b<gN->w'.heap[b]?=w.heap[b]?):GF w':=by obtain⟨⟨m,hm⟩,_⟩:=h;have b1:=hb 0 (by decide);exact⟨⟨m,by rw[←hm];simp only[World.cell?,b1]⟩,trivial⟩
end Go.Proofs.YtkkfedionkhgnaaGreatDoor
