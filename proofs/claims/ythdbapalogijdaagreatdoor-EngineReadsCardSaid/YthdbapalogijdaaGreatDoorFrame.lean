import Derived.ChangeArms
import Derived.Carry
import Derived.OpenShut
import Derived.ProofKit
import Derived.Test.YthdbapalogijdaaGreatDoorSB
namespace Go.Proofs.YthdbapalogijdaaGreatDoor
open Go Go.RowKit Go.ChangeShapes Go.WideShapes Go.ChangeAt
def yD:Nat->Prop:=λ_=>False
def Ef:Nm:=λ_=>none
def H8{α:Type}(P:Program)(T:Nat)(L:α->Ly)(B:α->Prop):Prop:=
 ∀(H:Type) (enc:TypeId×Value->H) (w:World) (fuel:Nat) (cs:List Value) (x:DataW H×List MemPlace),
  DataW.trod enc P w 0 (λ_=>true) true fuel T cs=some x->∃ y:α,(L y).hold w yD Ef cs/\B y
theorem X3{P T}(a:P.underlying T=some .string):H8 P T am (λs=>s.length<=maxLen):=by intro H enc w fuel cs x h;obtain⟨s,rfl,_,d⟩:=DataW.trod_string a h;refine⟨s.data.toList,⟨_,rfl,oh,?_⟩,?_⟩<;>simpa using d
theorem YA{P T}{α:Type}{L:α->Ly}{B:α->Prop}{r:Reach}{base:Nat}{w:World}{v:Value}{H:Type}{enc:TypeId×Value->H}{d:DataW H}{g:List MemPlace}(h:H8 P T L B)(k:∀ y,(L y).isN=false)
 (j:∀ fs n e,P.underlying T≠some (.struct fs)/\P.underlying T≠some (.array n e)) (a:Value.okWide P w r base T v) (hd:DataW.Trod enc P w 0 (λ_=>true) true T v d g):∃ y,(L y).val w yD Ef v/\B y:=by
 obtain⟨fuel,hf⟩:=hd;obtain⟨y,m,i⟩:=h H enc w fuel _ _ hf;have l:v.cells=#[v]:=by
  cases v with
  | agg cs=>
    exfalso;unfold Value.okWide at a;split at a
    . rename_i fs f;exact by simp_all
    . rename_i n e f;exact by simp_all
    . unfold Cell.okWide at a
      split at a<;>(try (simp_all;done));unfold Cell.ok at a;split at a<;>simp_all
  | _=>rfl
 grind[Ly.val_of_hold1]
theorem YB{H:Type}{enc:TypeId×Value->H}{P:Program}{f:Func}{s:ChangeSpec}{apart fresh handsOn again:Bool}{W W':World}{args:Array Value}{v:Value}{g i:List (DataW H)}{before pa pv:List MemPlace}
 (m:DataW.Whole enc P f.params.toList s.vars apart W args.toList g i before) (u:Below W.heap.size W W')
 (a:∀(b:Nat) (sp:Nat->Bool) (hd:Bool),DataW.TrodAll enc P W' b sp hd f.resultTypes.toList (v.resultList f.resultTypes.size) (s.fn H (g++i)).results [])
 (hargs:∀ sp:Nat->Bool,(∀ p∈before,sp p.block=true)->DataW.TrodAll enc P W' 0 sp true f.params.toList args.toList (s.fn H (g++i)).args pa)
 (hvars:∀ sp:Nat->Bool,(∀ p∈before,sp p.block=true)->DataW.TrodVars enc P W' sp s.vars (s.fn H (g++i)).vars pv) (e:before=pa++pv)
 (q:∀(j:Nat) (t:TypeId) (r:Value),f.resultTypes[j]?=some t->(v.resultList f.resultTypes.size)[j]?=some r->Value.okWide P W' .any 0 t r) :
 s.post enc P f apart fresh handsOn again W args v W':=by
 have n:=λp d=>m.lt p d;have k:∀ p∈before,decide (p.block<W.heap.size)=true:=ol
 refine⟨g,i,before,[],pa,pv,m,a _ _ _,hargs _ k,hvars _ k,World.keptBut_mono (λp d=>⟨d,.inr ?_⟩) (u.frame (·∈before)),λ_=>⟨q,_,_,([]++pa)++pv,⟨[]++pa,pv,trodAll_append (hargs _ λ_ _=>rfl) (a _ _ _),hvars _ λ_ _=>rfl,rfl,?_,?_⟩,?_⟩⟩;rw[e,yz] at d;exact d;intro b off d;have l:MemPlace.cell b off∈before:=by rw[e];simpa using d
 obtain⟨_,_,_,_,_,y,_⟩:=m;rw[u.frozen (n _ l)];exact y b off l;intro w;obtain⟨_,_,_,_,_,_,x⟩:=m;have:=x w;rw[e] at this;simpa using this;grind
end Go.Proofs.YthdbapalogijdaaGreatDoor
