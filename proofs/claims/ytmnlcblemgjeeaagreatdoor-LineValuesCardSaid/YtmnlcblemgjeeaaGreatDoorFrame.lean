import Derived.ChangeArms
import Derived.Carry
import Derived.OpenShut
import Derived.ProofKit
import Derived.Test.YtmnlcblemgjeeaaGreatDoorSB
namespace Go.Proofs.YtmnlcblemgjeeaaGreatDoor
open Go Go.RowKit Go.ChangeShapes Go.WideShapes Go.ChangeAt
def S0n:Nat->Prop:=λ_=>False
def g0n:Nm:=λ_=>none
def Opn{α:Type}(P:Program)(T:Nat)(L:α->Ly)(B:α->Prop):Prop:=
 ∀(H:Type) (enc:TypeId×Value->H) (w:World) (fuel:Nat) (cs:List Value) (x:DataW H×List MemPlace),
  DataW.trod enc P w 0 (λ_=>true) true fuel T cs=some x->∃ y:α,(L y).hold w S0n g0n cs/\B y
theorem Q32{P T k N}(f:UK k N)(g:P.underlying T=some (.int k)):Opn P T (uk k) (λx=>x<N):=by
 intro H enc w fuel cs x h;obtain⟨n,rfl,_,i⟩:=DataW.trod_int g h;have a:k.min<=n/\n<=k.max:=by simpa [Lit.wf] using i
 have d:=a;rw[f.min,f.max] at d;have e:((n.toNat:Nat):Int)=n:=om
 exact⟨n.toNat,⟨_,rfl,by rw[e],by rw[e];exact a.1,by rw[e];exact a.2⟩,om⟩
theorem Q33{P T}(a:P.underlying T=some .bool):Opn P T bl (λ_=>True):=by
 intro H enc w fuel cs x h;cases fuel with
 | zero=>simp[DataW.trod] at h
 | succ n=>
   unfold DataW.trod at h;rw[a] at h;split at h
   case h_1=>exact⟨_,⟨_,rfl,rfl⟩,trivial⟩
   all_goals simp_all
theorem cells?_all{w:World}{b:Nat}{a:Addr}{n:Nat}{cs:List Value}(h:w.cells? b a n=some cs):cs.length=n/\∀ i u,cs[i]?=some u->w.cell? (a.add i)=some u:=by
 unfold World.cells? at h;split at h
 case isFalse=>cases h
 have e:=mapM_some_length h;simp only[List.length_range] at e;refine⟨e,λi u f=>?_⟩;have hi:i<n:=by
  rcases xx i cs.length with d | d
  . omega
  . simp[ou d] at f
 rw[mapM_some_get h i i (by simp[hi]),f]
theorem Qr7{H:Type}{enc:TypeId×Value->H}{P:Program}{f:Func}{s:ChangeSpec}{apart fresh handsOn again:Bool}{W W':World}{args:Array Value}{v:Value}{g i:List (DataW H)}{before pa pv:List MemPlace}
 (n:DataW.Whole enc P f.params.toList s.vars apart W args.toList g i before) (u:Below W.heap.size W W')
 (e:∀(b:Nat) (sp:Nat->Bool) (hd:Bool),DataW.TrodAll enc P W' b sp hd f.resultTypes.toList (v.resultList f.resultTypes.size) (s.fn H (g++i)).results [])
 (hargs:∀ sp:Nat->Bool,(∀ p∈before,sp p.block=true)->DataW.TrodAll enc P W' 0 sp true f.params.toList args.toList (s.fn H (g++i)).args pa)
 (hvars:∀ sp:Nat->Bool,(∀ p∈before,sp p.block=true)->DataW.TrodVars enc P W' sp s.vars (s.fn H (g++i)).vars pv) (d:before=pa++pv)
 (q:∀(j:Nat) (t:TypeId) (r:Value),f.resultTypes[j]?=some t->(v.resultList f.resultTypes.size)[j]?=some r->Value.okWide P W' .any 0 t r) :
 s.post enc P f apart fresh handsOn again W args v W':=by
 have l:=λp a=>n.lt p a;have k:∀ p∈before,decide (p.block<W.heap.size)=true:=λp a=>by simpa using l p a
 refine⟨g,i,before,[],pa,pv,n,e _ _ _,hargs _ k,hvars _ k,World.keptBut_mono (λp a=>⟨a,.inr ?_⟩) (u.frame (·∈before)),λ_=>⟨q,_,_,([]++pa)++pv,⟨[]++pa,pv,trodAll_append (hargs _ λ_ _=>rfl) (e _ _ _),hvars _ λ_ _=>rfl,rfl,?_,?_⟩,?_⟩⟩;rw[d,wn] at a;exact a;intro b off a;have m:MemPlace.cell b off∈before:=by rw[d];simpa using a
 obtain⟨_,_,_,_,_,y,_⟩:=n;rw[u.frozen (l _ m)];exact y b off m;intro w;obtain⟨_,_,_,_,_,_,x⟩:=n;have:=x w;rw[d] at this;simpa using this;intro p a _;rw[d];simpa using a
end Go.Proofs.YtmnlcblemgjeeaaGreatDoor
