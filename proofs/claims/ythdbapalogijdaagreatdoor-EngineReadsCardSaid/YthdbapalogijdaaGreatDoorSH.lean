import Derived.MapKept
import Derived.Test.YthdbapalogijdaaGreatDoorSB
namespace Go.Proofs.YthdbapalogijdaaGreatDoor
open Go Go.RowKit
theorem XH{w S γ}{ly:Ly}{l:List Ly}{v:Value}{vs:List Value}:Ly.vals w S γ (ly::l) (v::vs)↔Ly.val w S γ ly v/\Ly.vals w S γ l vs:=by constructor;grind[Ly.vals];rintro⟨h1,h2⟩;simp only[Ly.vals];grind
theorem XI{w S γ}{ly:Ly}{v:Value}:∀ {l:List Ly}{vs:List Value},Ly.vals w S γ l vs->Ly.val w S γ ly v->Ly.vals w S γ (l++[ly]) (vs++[v])
 | [],vs,h,hv=>by grind[Ly.vals]
 | l0::l,vs,h,hv=>by simp only[Ly.vals] at h;obtain⟨v0,r,rfl,h1,h2⟩:=h;exact XH.2 ⟨h1,XI h2 hv⟩
section aG
variable {X:Cx}{st:Nat->Option Ly}{mm:Nat->Option Ct}
end aG
end Go.Proofs.YthdbapalogijdaaGreatDoor
