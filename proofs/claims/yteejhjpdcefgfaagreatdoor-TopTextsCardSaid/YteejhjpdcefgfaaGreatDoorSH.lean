import Derived.MapKept
import Derived.Test.YteejhjpdcefgfaaGreatDoorSB
namespace Go.Proofs.YteejhjpdcefgfaaGreatDoor
open Go Go.RowKit
theorem Qr9{w S γ}{ly:Ly}{l:List Ly}{v:Value}{vs:List Value}:Ly.vals w S γ (ly::l) (v::vs)↔Ly.val w S γ ly v/\Ly.vals w S γ l vs:=by constructor;intro h;simp only[Ly.vals] at h;obtain⟨_,_,e,h1,h2⟩:=h;cases e;exact⟨h1,h2⟩;rintro⟨h1,h2⟩;simp only[Ly.vals];exact⟨_,_,rfl,h1,h2⟩
theorem Qyg{w S γ}{ly:Ly}{v:Value}:∀ {l:List Ly}{vs:List Value},Ly.vals w S γ l vs->Ly.val w S γ ly v->Ly.vals w S γ (l++[ly]) (vs++[v])
 | [],vs,h,hv=>by simp only[Ly.vals] at h;subst h;exact Qr9.2 ⟨hv,by simp[Ly.vals]⟩
 | l0::l,vs,h,hv=>by simp only[Ly.vals] at h;obtain⟨v0,r,rfl,h1,h2⟩:=h;exact Qr9.2 ⟨h1,Qyg h2 hv⟩
section ops
variable {X:Cx}{st:Nat->Option Ly}{mm:Nat->Option Ct}
end ops
end Go.Proofs.YteejhjpdcefgfaaGreatDoor
