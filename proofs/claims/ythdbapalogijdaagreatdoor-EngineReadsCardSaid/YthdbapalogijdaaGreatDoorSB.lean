import Derived.Laws.BytesString
import Derived.Laws.BytesArg
import Derived.Lib.ConvBytes
import Derived.Laws.RangeString
import Derived.Lib.AppendStr
import Derived.Lib.Builder
import Derived.Lib.UnsafeStr
import Derived.Scope
import Derived.Test.YthdbapalogijdaaGreatDoorSA
namespace Go.Proofs.YthdbapalogijdaaGreatDoor
open Go Go.RowKit
section aH
variable {α:Type}
def aH(base:Nat->Option α):List (List (Nat×α))->Nat->(Nat->Bool)->Nat->Option α
 | [],_,_=>base
 | e::a,i,L=>aH (if L i then up base e else base) a (i+1) L
def wr(e:List (Nat×α))(r:Nat):Bool:=(lk e r).isSome
theorem jH{st:Nat->Option α}{e r}(h:wr e r=false):up st e r=st r:=by grind[wr,up]
theorem Dd{st a:Nat->Option α}{e r}(h:wr e r=true):up st e r=up a e r:=by grind[wr,up]
theorem HO{L:Nat->Bool}{r:Nat}:∀(d:List (List (Nat×α))) (b a:Nat->Option α) (i:Nat),b r=a r->aH b d i L r=aH a d i L r
 | [],b,a,i,h=>h
 | e::d,b,a,i,h=>by simp only[aH];apply HO d;cases L i;grind;simp only[yt];grind[jH,Dd]
theorem Na{L:Nat->Bool}{r:Nat}:∀(a:List (List (Nat×α))) (b:Nat->Option α) (i:Nat),(∀ k e,a[k]?=some e->wr e r=true->L (i+k)=false)->aH b a i L r=b r
 | [],b,i,_=>rfl
 | e::a,b,i,h=>by simp only[aH];rw[Na a _ (i+1) (λk f hk d=>by have:=h (k+1) f (by simpa using hk) d;grind)];cases g:L i;rfl;simp only[yt];cases d:wr e r;exact jH d;have:=h 0 e rfl d;grind
theorem qL{r:Nat}:∀(a:List (List (Nat×α))) (b:Nat->Option α) (i:Nat) (L L':Nat->Bool),(∀ k e,a[k]?=some e->wr e r=true->L (i+k)=L' (i+k))->aH b a i L r=aH b a i L' r
 | [],b,i,L,L',_=>rfl
 | e::a,b,i,L,L',h=>by simp only[aH];rw[qL a _ (i+1) L L' (λk f hk d=>by have:=h (k+1) f (by simpa using hk) d;grind)];apply HO;cases d:wr e r;grind[jH];have:=h 0 e rfl d;grind
theorem Nb{r:Nat}:∀(a:List (List (Nat×α))) (b:Nat->Option α) (i j:Nat) (L L':Nat->Bool) (g:List (Nat×α)),a[j]?=some g->L' (i+j)=true->(∀ k,k≠i+j->L' k=L k)->L (i+j)=false ->
 (∀ k e,a[k]?=some e->j<k->wr g r=true->wr e r=true->L (i+k)=false)->aH b a i L' r=up (aH b a i L) g r
 | [],_,_,j,_,_,_,h,_,_,_,_=>by simp at h
 | e::a,b,i,0,L,L',g,h,n,s,p,t=>by
   simp at h;subst h;simp only[xg] at n p;simp only[aH,n,p,yt];have w:∀ d,aH d a (i+1) L' r=aH d a (i+1) L r:=by grind[qL]
   rw[w];cases u:wr e r;grind[jH,HO]
   have y:∀ d,aH d a (i+1) L r=d r:=λd=>Na a d (i+1) (λk q hk f=>by
    have:=t (k+1) q (by simpa using hk) om u f
    grind)
   grind[Dd]
 | e::a,b,i,j+1,L,L',g,h,n,s,p,t=>by
   simp only[aH];have v:L' i=L i:=s i om;rw[v]
   exact Nb a _ (i+1) j L L' g (by simpa using h) (by rw[show i+1+j=i+(j+1) by omega];exact n) (λk hk=>s k om) (by rw[show i+1+j=i+(j+1) by omega];exact p)
    (λk q hk x u f=>by have:=t (k+1) q (by simpa using hk) om u f;rw[show i+1+k=i+(k+1) by omega];exact this)
theorem Nc{r:Nat}(L:Nat->Bool):∀(a:List (List (Nat×α))) (b:Nat->Option α) (i j:Nat),(∀ k e,a[k]?=some e->wr e r=true->k<j->L (i+k)=true)->(∀ k e,a[k]?=some e->wr e r=true->j<=k->L (i+k)=false) ->
 aH b a i L r=aH b (a.take j) i (λ_=>true) r
 | [],b,i,j,_,_=>by simp[aH]
 | e::a,b,i,0,g,n=>by simp_all[Na]
 | e::a,b,i,j+1,g,n=>by
   simp only[yv,aH,yt]
   rw[Nc L a _ (i+1) j (λk f hk d q=>by have:=g (k+1) f (by simpa using hk) d om;grind)
    (λk f hk d p=>by have:=n (k+1) f (by simpa using hk) d om;grind)]
   apply HO;cases s:L i;cases d:wr e r;simp[jH d];have:=g 0 e rfl d om;grind;simp
end aH
structure D where
 rs:Bf
 ri:Bf
 el:List (Nat×Ly)
 em:List (Nat×Ct)
def Ag{α:Type}(st jP:Nat->Option α):Bf->Prop
 | []=>True
 | d::r=>st d=jP d/\Ag st jP r
theorem Ag.of{α:Type}{st jP:Nat->Option α}:∀ {l:Bf},(∀ d∈l,st d=jP d)->Ag st jP l
 | [],_=>trivial
 | d::_,h=>⟨h d ve,Ag.of (λx a=>h x (vn _ a))⟩
def mE(X:Cx)(aG:Array Oper)(st:Nat->Option Ly)(mm:Nat->Option Ct)(o:Oper)(el:List (Nat×Ly))(em:List (Nat×Ct)):Prop:=
 ∀ a w γ K Q,bq X st mm a w γ->(∀ d w' γ',bq X (up st el) (up mm em) d w' γ'->K d w')->if Region.wanted o (yielded aG a.tmps) then o.wp X.P a w K Q else K (a.put o.dst undef) w
def qM(X:Cx)(aG:Array Oper):List (Nat×Ly)->List (Nat×Ct)->List Oper->List D->Prop
 | _,_,[],[]=>True
 | l,m,o::os,d::a=>(∀ st mm,Ag st (lk l) d.rs->Ag mm (lk m) d.ri->mE X aG st mm o d.el d.em)/\qM X aG (d.el++l) (d.em++m) os a
 | _,_,_,_=>False
def ku(o:Oper):Bf:=(o.after.toList.filter (Region.binds .any)).map (·.on)
def eW(l:Bf)(j:Nat):Bool:=l.any (Nat.beq j)
def cC{α:Type}(l:List (Nat×α))(rs:Bf):Bool:=rs.any λr=>wr l r
def cf(d a:D):Bool:=cC d.el a.rs || cC a.el d.rs || cC d.el (a.el.map (·.1)) || cC d.em a.ri || cC a.em d.ri || cC d.em (a.em.map (·.1))
def jI(d:Bf)(a:D):Nat->List D->Bool
 | _,[]=>true
 | j,e::f=>(!(cf e a) || eW d j) && jI d a (j+1) f
def far(a:List Bf)(o:Oper):Bf:=ku o++(ku o).flatMap (λp=>a.getD p [])
def cT:List Oper->List D->Nat->List D->List Bf->Bool
 | [],[],_,_,_=>true
 | o::os,d::e,i,before,a=>(ku o).all (λp=>Nat.blt p i) && jI (far a o) d 0 before && cT os e (i+1) (before++[d]) (a++[far a o])
 | _,_,_,_,_=>false
inductive mf (ls:List Oper):Nat->Nat->Prop
 | one {j i o}:ls[i]?=some o->j∈ku o->mf ls j i
 | far {j p i o}:ls[i]?=some o->p∈ku o->mf ls j p->mf ls j i
theorem mf.listed{ls:List Oper}{listed:Array Bool}(e:∀ i o,ls[i]?=some o->listed.getD i false=true->∀ p∈ku o,listed.getD p false=true){j i:Nat}(h:mf ls j i):listed.getD i false=true->listed.getD j false=true:=by
 induction h with
 | one a d=>grind
 | far a d _ f=>grind
theorem VK{l:Bf}{j:Nat}(h:eW l j=true):j∈l:=by grind[eW,Nat.eq_of_beq_eq_true]
theorem xU{α:Type}{l:List (Nat×α)}{rs:Bf}(h:cC l rs=false):∀ r∈rs,wr l r=false:=by grind[cC]
theorem Jk1{α:Type}:∀ {l:List (Nat×α)}{r x},lk l r=some x->(r,x)∈l:=by
        intro l
        induction l with
        | nil=>intro r x h;cases h
        | cons e l a=>
          grind[lk,Nat.eq_of_beq_eq_true]
theorem VL{α:Type}{l:List (Nat×α)}{r:Nat}(h:wr l r=true):r∈l.map (·.1):=by
 unfold wr at h;cases a:lk l r with
 | none=>grind
 | some x=>exact xv.2 ⟨(r,x),Jk1 a,rfl⟩
structure HP(aG:List Oper)(ds:List D):Prop where
 len:aG.length=ds.length
 back:∀ i o,aG[i]?=some o->∀ p∈ku o,p<i
 pair:∀(i j:Nat) o di dj,aG[i]?=some o->ds[i]?=some di->ds[j]?=some dj->j<i->mf aG j i\/cf dj di=false
theorem VM{k i}:∀ {f:List D}{g:Nat},jI k i g f=true->∀ j a,f[j]?=some a->g+j∈k\/cf a i=false
 | [],_,_,j,a,h=>by simp at h
 | d::f,g,e,0,a,h=>by simp only[jI,xp,Bool.or_eq_true,vk] at e;simp at h;subst h;exact nt e.1.symm (by grind[VK]) (λh=>h)
 | d::f,g,e,j+1,a,h=>by simp only[jI,xp] at e;have:=VM e.2 j a ol;grind
theorem VN{ls:List Oper}{d:List Bf}(f:∀ k l,d[k]?=some l->∀ j∈l,mf ls j k){i o}(e:ls[i]?=some o):∀ j∈far d o,mf ls j i:=by
 intro j g;rcases yz.1 g with h | h;exact .one e h;obtain⟨p,q,a⟩:=List.mem_flatMap.1 h;rw[wn] at a;cases n:d[p]? with
 | none=>grind
 | some l=>rw[n] at a;exact .far e q ol
theorem HQ{ls:List Oper}:∀(aG:List Oper) (e:List D) (i:Nat) (before:List D) (a:List Bf),before.length=i->a.length=i->(∀ k o,aG[k]?=some o->ls[i+k]?=some o)->(∀ k l,a[k]?=some l->∀ j∈l,mf ls j k)->cT aG e i before a=true ->
 aG.length=e.length/\(∀ k o,aG[k]?=some o->∀ p∈ku o,p<i+k)/\(∀(k j:Nat) o q n,aG[k]?=some o->e[k]?=some q->(before++e)[j]?=some n->j<i+k->mf ls j (i+k)\/cf n q=false)
 | [],[],i,before,a,_,_,_,_,_=>⟨rfl,oh,oh⟩
 | o::os,d::e,i,before,a,x,w,g,r,h=>by
   simp only[cT,xp] at h;obtain⟨⟨E,u⟩,v⟩:=h;have B:ls[i]?=some o:=by have:=g 0 o rfl;omega
   have t:=VN r B
   obtain⟨g1,C,g3⟩:=HQ os e (i+1) (before++[d]) (a++[far a o]) (by simp[x]) (by simp[w])
    (λk s hk=>by rw[show i+1+k=i+(k+1) by omega];exact g (k+1) s (by simpa using hk))
    ol v
   refine⟨by simp[g1],λk s hk p F=>?_,λk j s q n hk f y A=>?_⟩;cases k with
   | zero=>simp_all
   | succ k=>grind
   cases k with
   | zero=>
     simp at hk f;subst hk;subst f;have:=VM u j n ol;grind
   | succ k=>
     grind
 | [],_::_,_,_,_,_,_,_,_,h=>by grind[cT]
 | _::_,[],_,_,_,_,_,_,_,h=>by grind[cT]
theorem Nd{X:Cx}{aG:Array Oper}:∀ {os:List Oper}{a:List D}{l m},qM X aG l m os a->∀ j o d,os[j]?=some o->a[j]?=some d ->
 ∀ st mm,Ag st (aH (lk l) ((a.map (·.el)).take j) 0 (λ_=>true)) d.rs->Ag mm (aH (lk m) ((a.map (·.em)).take j) 0 (λ_=>true)) d.ri->mE X aG st mm o d.el d.em
 | [],[],_,_,_,j,o,d,h,_=>by simp at h
 | o::os,d::a,l,m,n,0,t,q,g,k=>by simp at g k;subst g;subst k;intro st mm r s;exact n.1 st mm (by grind[aH]) (by grind[aH])
 | o::os,d::a,l,m,n,j+1,t,q,g,k=>by
   intro st mm r s;have shift:∀ {α:Type}(f:List (List (Nat×α))) (b:Nat->Option α) (i p:Nat),aH b f i (λ_=>true)=aH b f p (λ_=>true):=by
    intro α f
    induction f with
    | nil=>intro b i p;rfl
    | cons e f u=>intro b i p;simp only[aH,yt];grind
   refine Nd n.2 j t q ol ol st mm ?_ ?_;simp only[xt,yv,aH,yt,co] at r;grind;simp only[xt,yv,aH,yt,co] at s;grind
 | [],_::_,_,_,h,_,_,_,_,_=>h.elim
 | _::_,[],_,_,h,_,_,_,_,_=>h.elim
def eG{α:Type}:List (List (Nat×α))->List (Nat×α)->List (Nat×α)
 | [],l=>l
 | e::a,l=>eG a (e++l)
theorem HR{α:Type}:∀(a:List (List (Nat×α))) (l:List (Nat×α)) (i:Nat) (L:Nat->Bool),(∀ k,k<a.length->L (i+k)=true)->aH (lk l) a i L=lk (eG a l)
 | [],l,_,_,_=>rfl
 | e::a,l,i,L,h=>by simp only[aH,eG];have h0:=h 0 oh;rw[xg] at h0;simp only[h0,yt];rw[co,HR a _ (i+1) L (λk hk=>by rw[show i+1+k=i+(k+1) by omega];simp_all)]
def OpQ(X:Cx)(Q:Exit->Act->World->Prop)(aG:Array Oper)(st:Nat->Option Ly)(mm:Nat->Option Ct)(o:Oper)(el:List (Nat×Ly))(em:List (Nat×Ct)):Prop:=
 ∀ a w γ K,bq X st mm a w γ->(∀ d w' γ',bq X (up st el) (up mm em) d w' γ'->K d w')->if Region.wanted o (yielded aG a.tmps) then o.wp X.P a w K Q else K (a.put o.dst undef) w
theorem Nf{X:Cx}{ls:List Oper}{n:List D}{l m}(S:HP ls n){Q:Exit->Act->World->Prop}{Wp:(Nat->Option Ct)->D->Prop}
 (hS:∀ j o d,ls[j]?=some o->n[j]?=some d->∀ st mm,Ag st (aH (lk l) ((n.map (·.el)).take j) 0 (λ_=>true)) d.rs->Ag mm (aH (lk m) ((n.map (·.em)).take j) 0 (λ_=>true)) d.ri->Wp mm d->OpQ X Q ⟨ls⟩ st mm o d.el d.em)
 (hW:∀(L:Array Bool) j d,n[j]?=some d->(∀ i o,ls[i]?=some o->L.getD i false=true->∀ p∈ku o,L.getD p false=true)->L.getD j false=false->Wp (aH (lk m) (n.map (·.em)) 0 (λi=>L.getD i false)) d)
 (hQ:∀ a w γ,bq X (lk (eG (n.map (·.el)) l)) (lk (eG (n.map (·.em)) m)) a w γ->Q .normal a w) :
 ∀(fuel:Nat) (listed:Array Bool) (a:Act) (w:World) (γ:Nm),listed.size=ls.length->(listed.toList.filter (!·)).length<=fuel->(∀ i o,ls[i]?=some o->listed.getD i true=true->∀ p∈ku o,listed.getD p false=true) ->
  bq X (aH (lk l) (n.map (·.el)) 0 (λi=>listed.getD i false)) (aH (lk m) (n.map (·.em)) 0 (λi=>listed.getD i false)) a w γ ->
  wpAny X.P .any ⟨ls⟩ Q fuel listed a w:=by
 have all_listed:∀(listed:Array Bool),listed.size=ls.length->Region.ready .any ⟨ls⟩ listed=[]->∀ i,i<ls.length->listed.getD i false=true:=by
  intro listed F H i
  induction i using Nat.strongRecOn with
  | _ i ih=>
    intro hi;cases A:listed.getD i false with
    | true=>rfl
    | false=>
      exfalso;have C:i∈Region.ready .any ⟨ls⟩ listed:=by
       rw[mem_ready];refine⟨?_,ls[i],by simp[hi],λe he hb=>?_⟩
       . have t:i<listed.size:=om
         simp only[uh,yu t,ut] at A |-;exact A
       . have T:e.on∈ku ls[i]:=xv.2 ⟨e,ol,rfl⟩
         have q:=S.back i ls[i] (by simp[hi]) e.on T;exact by grind
      grind
 have done:∀(listed:Array Bool) (a:Act) (w:World) (γ:Nm),listed.size=ls.length->Region.ready .any ⟨ls⟩ listed=[]->bq X (aH (lk l) (n.map (·.el)) 0 (λi=>listed.getD i false)) (aH (lk m) (n.map (·.em)) 0 (λi=>listed.getD i false)) a w γ->Q .normal a w:=by intro listed a w γ F H hi;have h:=all_listed listed F H;have hlen:=S.len;rw[HR _ l 0 _ ol,HR _ m 0 _ ol] at hi;grind
 intro fuel
 induction fuel with
 | zero=>
   intro listed a w γ F hc I hi;have H:Region.ready .any ⟨ls⟩ listed=[]:=by
    cases hrd:Region.ready .any ⟨ls⟩ listed with
    | nil=>rfl
    | cons i r=>
      exfalso;have C:i∈Region.ready .any ⟨ls⟩ listed:=by rw[hrd];exact by simp
      rw[mem_ready] at C;obtain⟨h1,_⟩:=C;have t:i<listed.size:=by
       rcases yx i listed.size with h | h
       . exact h
       . simp[vu h] at h1
      have:false∈listed.toList.filter (!·):=List.mem_filter.2 ⟨by
       have:=Array.getElem_mem t;simp only[uh,yu t,ut] at h1
       rw[h1] at this;simpa using this,rfl⟩
      grind
   exact⟨H,ol⟩
 | succ fuel ih=>
   intro listed a w γ F hc I hi;refine⟨ol,λj hj=>?_⟩;rw[mem_ready] at hj;obtain⟨Z,o,ho,hpre⟩:=hj;have y:ls[j]?=some o:=by simpa using ho
   have hjl:j<ls.length:=by
    rcases yx j ls.length with h | h
    . exact h
    . simp[uf h] at y
   have J:j<listed.size:=om
   have u:listed.getD j false=false:=by simp only[uh,yu J,ut] at Z |-;exact Z
   obtain⟨d,hd⟩:∃ d,n[j]?=some d:=⟨_,xm (by rw[<-S.len];exact hjl)⟩
   have E:∀ p∈ku o,listed.getD p false=true:=by intro p T;obtain⟨e,he,rfl⟩:=xv.1 T;obtain⟨he1,he2⟩:=List.mem_filter.1 he;exact by grind
   have B:∀ i o,ls[i]?=some o->listed.getD i false=true->∀ p∈ku o,listed.getD p false=true:=by
    intro k K hk A;refine I k K hk ?_;have:k<listed.size:=by
     rcases yx k listed.size with h | h
     . exact h
     . simp[vu h] at A
    simp only[uh,yu this,ut] at A |-;exact A
   have later:∀ k K,ls[k]?=some K->j∈ku K->listed.getD k false=false:=by
    intro k K hk hjp;cases A:listed.getD k false with
    | false=>rfl
    | true=>
      have hk':listed.getD k true=true:=by
       have:k<listed.size:=by
        rcases yx k listed.size with h | h
        . exact h
        . simp[vu h] at A
       simp only[uh,yu this,ut] at A |-;exact A
      have:=I k K hk hk' j hjp;rw[u] at this;cases this
   have prOk:∀ k f,n[k]?=some f->k<j->listed.getD k false=true\/(cC f.el d.rs || cC d.el f.rs || cC f.el (d.el.map (·.1)) || cC f.em d.ri || cC d.em f.ri || cC f.em (d.em.map (·.1)))=false:=by
    intro k f hk q;rcases S.pair j k o d f y hd hk q with h | h
    . refine .inl ?_
      cases h with
      | one U e2=>rw[y] at U;cases U;exact E k e2
      | far U e2 e3=>rw[y] at U;cases U;exact e3.listed B (E _ e2)
    . exact .inr h
   have poOk:∀ k f,n[k]?=some f->j<k->listed.getD k false=false\/(cC d.el f.rs || cC f.el d.rs || cC d.el (f.el.map (·.1)) || cC d.em f.ri || cC f.em d.ri || cC d.em (f.em.map (·.1)))=false:=by
    intro k f hk q;have hkl:k<ls.length:=by
     rw[S.len];rcases yx k n.length with h | h
     . exact h
     . simp[uf h] at hk
    rcases S.pair k j ls[k] f d (by simp[hkl]) hk hd q with h | h
    . refine .inl ?_
      cases A:listed.getD k false with
      | false=>rfl
      | true=>have:=h.listed B A;rw[u] at this;cases this
    . exact .inr h
   have mapget:∀ {β:Type}(g:D->β) (k:Nat) (b:β),(n.map g)[k]?=some b->∃ f,n[k]?=some f/\g f=b:=by intro β g k b h;simp only[uq,Option.map_eq_some_iff] at h;exact h
   have hrs:Ag (aH (lk l) (n.map (·.el)) 0 (λi=>listed.getD i false)) (aH (lk l) ((n.map (·.el)).take j) 0 (λ_=>true)) d.rs:=Ag.of λr H=>by
    refine Nc _ _ _ 0 j (λk e hk x q=>?_) (λk e hk x O=>?_)
    . obtain⟨f,s,rfl⟩:=mapget _ k e hk
      rw[xx];rcases prOk k f s q with h | h
      . exact h
      . simp only[vz] at h
        have:=xU h.1.1.1.1.1 r H;rw[this] at x;cases x
    . obtain⟨f,s,rfl⟩:=mapget _ k e hk
      rw[xx];rcases Nat.eq_or_lt_of_le O with rfl | q
      . exact u
      . rcases poOk k f s q with h | h
        . exact h
        . simp only[vz] at h
          have:=xU h.1.1.1.1.2 r H;rw[this] at x;cases x
   have hri:Ag (aH (lk m) (n.map (·.em)) 0 (λi=>listed.getD i false)) (aH (lk m) ((n.map (·.em)).take j) 0 (λ_=>true)) d.ri:=Ag.of λr H=>by
    refine Nc _ _ _ 0 j (λk e hk x q=>?_) (λk e hk x O=>?_)
    . obtain⟨f,s,rfl⟩:=mapget _ k e hk
      rw[xx];rcases prOk k f s q with h | h
      . exact h
      . simp only[vz] at h
        have:=xU h.1.1.2 r H;rw[this] at x;cases x
    . obtain⟨f,s,rfl⟩:=mapget _ k e hk
      rw[xx];rcases Nat.eq_or_lt_of_le O with rfl | q
      . exact u
      . rcases poOk k f s q with h | h
        . exact h
        . simp only[vz] at h
          have:=xU h.1.2 r H;rw[this] at x;cases x
   have hop:=hS j o d y hd _ _ hrs hri (hW listed j d hd B u);have v:∀ k,(listed.setIfInBounds j true).getD k false=if k=j then true else listed.getD k false:=by
    intro k;by_cases N:k=j
    . subst N;simp[J]
    . simp[N,Array.getElem?_setIfInBounds_ne (Ne.symm N)]
   have V:∀ i o,ls[i]?=some o->(listed.setIfInBounds j true).getD i true=true->∀ p∈ku o,(listed.setIfInBounds j true).getD p false=true:=by
    intro i K t hli p T;rw[v];split
    . rfl
    . by_cases Y:i=j
      . subst Y;rw[y] at t;cases t;exact E p T
      . refine I i K t ?_ p T
        simpa [Array.getElem?_setIfInBounds_ne (Ne.symm Y)] using hli
   have W:((listed.setIfInBounds j true).toList.filter (!·)).length<=fuel:=by
    rw[Array.toList_setIfInBounds];have key:∀(L:List Bool) (j:Nat),L[j]?=some false->((L.set j true).filter (!·)).length+1=(L.filter (!·)).length:=by
     intro L
     induction L with
     | nil=>intro j h;simp at h
     | cons b L ih=>
       intro j h;cases j with
       | zero=>simp at h;subst h;simp
       | succ j=>
         have:=ih j (by simpa using h);cases b<;>simp at this |-<;>omega
    have:=key listed.toList j (by
     rw[xq,yu J];simp only[uh,yu J,ut] at u
     rw[u])
    omega
   have hst:aH (lk l) (n.map (·.el)) 0 (λi=>(listed.setIfInBounds j true).getD i false)=up (aH (lk l) (n.map (·.el)) 0 (λi=>listed.getD i false)) d.el:=by
    funext r;refine Nb _ _ 0 j _ _ d.el (by simp[hd]) (by rw[xx];simp[v]) (λk hk=>by rw[xx] at hk;simp[v,hk]) (by rw[xx];exact u) (λk e hk M x P=>?_);obtain⟨f,s,rfl⟩:=mapget _ k e hk;rw[xx];rcases poOk k f s M with h | h
    . exact h
    . simp only[vz] at h
      have:=xU h.1.1.1.2 r (VL P);rw[this] at x;cases x
   have hmt:aH (lk m) (n.map (·.em)) 0 (λi=>(listed.setIfInBounds j true).getD i false)=up (aH (lk m) (n.map (·.em)) 0 (λi=>listed.getD i false)) d.em:=by
    funext r;refine Nb _ _ 0 j _ _ d.em (by simp[hd]) (by rw[xx];simp[v]) (λk hk=>by rw[xx] at hk;simp[v,hk]) (by rw[xx];exact u) (λk e hk M x P=>?_);obtain⟨f,s,rfl⟩:=mapget _ k e hk;rw[xx];rcases poOk k f s M with h | h
    . exact h
    . simp only[vz] at h
      have:=xU h.2 r (VL P);rw[this] at x;cases x
   have goon:∀ a' w' γ',bq X (up (aH (lk l) (n.map (·.el)) 0 (λi=>listed.getD i false)) d.el) (up (aH (lk m) (n.map (·.em)) 0 (λi=>listed.getD i false)) d.em) a' w' γ'->wpAny X.P .any ⟨ls⟩ Q fuel (listed.setIfInBounds j true) a' w':=by intro a' w' γ' t;exact ih _ a' w' γ' (by simpa using F) W V (by rw[hst,hmt];exact t)
   have:=hop a w γ (wpAny X.P .any ⟨ls⟩ Q fuel (listed.setIfInBounds j true)) hi goon;unfold wpOp;rw[ho];split at this
   all_goals simp[*]
theorem tJ{R:Type}{X:Cx}{l m}{md:Option R}{Q:R->Exit->Act->World->Prop}{ls:List Oper}(f:List D)(u:cT ls f 0 [] []=true)(x:qM X ⟨ls⟩ l m ls f)
 (k:Sq X (eG (f.map (·.el)) l) (eG (f.map (·.em)) m) md (λr=>Q r .normal)):Sq X l m md (λr a w=>wpAny X.P .any ⟨ls⟩ (Q r) ls.length (Array.replicate ls.length false) a { w with drawn:=w.drawn+1 }):=by
 intro r a w γ B hi;obtain⟨n,q,s⟩:=HQ (ls:=ls) ls f 0 [] [] rfl rfl oh oh u;have p:HP ls f:=⟨n,ol,ol⟩
 have y:bq X (lk l) (lk m) a { w with drawn:=w.drawn+1 } γ:=hi.ext (w':={ w with drawn:=w.drawn+1 }) rfl rfl rfl ⟨xe _,oh⟩;refine Nf (Wp:=λ_ _=>True) p (λj o d n q st mm s t _ a w γ K hi v=>Nd x j o d n q st mm s t a w γ K _ hi v) oh (λa w γ h=>k r a w γ B h) _ _ a _ γ oh oh (λi o H F=>?_) ?_;have A:i<ls.length:=ol
 simp_all;have C:(λi=>(Array.replicate ls.length false).getD i false)=λ_=>false:=by funext i;by_cases h:i<ls.length<;>simp[h]
 have E:∀ {α:Type}(g:List (List (Nat×α))) (b:Nat->Option α) (i:Nat),aH b g i (λ_=>false)=b:=by
  intro α g
  induction g with
  | nil=>intro b i;rfl
  | cons e g I=>grind[aH]
 grind
section
variable {X:Cx}{st:Nat->Option Ly}{mm:Nat->Option Ct}{aG:Array Oper}
theorem og{d op ty pos after el em}(h:ax X st mm ⟨d,op,ty,pos,after,none⟩ el em):mE X aG st mm ⟨d,op,ty,pos,after,none⟩ el em:=by intro a w γ K Q hi e;rw[ot oe];exact h a w γ K Q hi e
theorem jJ{d op ty pos after j b el em}(e:Nat)(g:((aG[j]?).bind (·.dst))=some e)(i:st e=some (bl b))(h:ax X st mm ⟨d,op,ty,pos,after,none⟩ el em):mE X aG st mm ⟨d,op,ty,pos,after,some (j,b)⟩ el em:=by intro a w γ K Q hi f;rw[ot (by grind[Region.wanted,C0])];exact h a w γ K Q hi f
end
section
variable {R:Type}{X:Cx}{l:List (Nat×Ly)}{m:List (Nat×Ct)}{md:Option R}{G:R->Act->World->Prop}
theorem dH{α:Type}{F:α->Ly}{x:α}{k:α->Option R}(d:Nat)(hd:lk l d=some (F x))(h:∀ y,Sq X ((d,F y)::l) m (k y) G):Sq X l m ((some x).bind k) G:=by
 refine nv (λa w γ hi=>⟨γ,{ hi with sts:=λi ly h=>hi.sts i ly (by grind[lk,Nat.eq_of_beq_eq_true]) }⟩) (h x)
end
section aG
variable {X:Cx}{st:Nat->Option Ly}{mm:Nat->Option Ct}
theorem xV{α:Type}(f:α->Ly){k}:ac st (.const (.slice none 0 0)) (bA k (List.map f [])):=λ_ _ _=>.inl oh
theorem pB{x y T ty pos af e k a id E ly d ln ly2 off}(p:Bf)(i:Ly.pu ln p ly=ly2)(q:mm id=some (.bx E ly))(n:Ly.go p ly=some (d,off))(j:fB X.P T e k)(u:d.sz=k)(g:ln.sz=k)(f:ln.lies=true)
 (s:ac st x a) (r:nz mm a id off) (t:ac st y ln) :
 ax X st mm ⟨none,.store T x y,ty,pos,af,none⟩ [] [(id,.bx E ly2)]:=by grind[stB]
theorem VO{d o x y T a ty pos af p q b}(h:∀ w,(binOp o T (.bool p) (.bool q)).run X.P w=.ok (.bool b) w)(hd:Nat.blt d X.N=true)(e:ac st x (bl p))(f:ac st y (bl q)):
 ax X st mm ⟨some d,.binOp o T x y a,ty,pos,af,none⟩ [(d,bl b)] []:=
 mC hd e f (by simp_all[bl,Ly.val,l7,eqGuard])
theorem eqB{d x y T a ty pos af p q}(g:X.P.underlying T=some .bool)(hd:Nat.blt d X.N=true)(e:ac st x (bl p))(f:ac st y (bl q)):
 ax X st mm ⟨some d,.binOp .eql T x y a,ty,pos,af,none⟩ [(d,bl (p == q))] []:=VO (by simp_all[binOp,run_equal_bool]) hd e f
theorem neB{d x y T a ty pos af p q}(e:X.P.underlying T=some .bool)(hd:Nat.blt d X.N=true)(f:ac st x (bl p))(g:ac st y (bl q)):
 ax X st mm ⟨some d,.binOp .neq T x y a,ty,pos,af,none⟩ [(d,bl (p != q))] []:=VO (λw=>by simp[binOp,run_equal_bool w T p q e];grind) hd f g
theorem nzI{q:Int}{u:Unit}(h:eQ (q != 0)=some u):(q == 0)=false:=by grind[lh]
theorem Nh{q:Nat}{u:Unit}(h:eQ (q != 0)=some u):Nat.beq q 0=false:=by
 have:=lh h;cases q with
 | zero=>grind
 | succ n=>rfl
theorem pC{q:Int}{u:Unit}(h:eQ (decide (0<=q))=some u):(decide (0<=q))=true:=lh h
theorem Ni{d x y T j ty pos af p t}{q:Int}(u:(decide (0<=q))=true)(hd:Nat.blt d X.N=true)(r:ac st x (ab p))(s:ac st y (.cell (gX t q))):
 ax X st mm ⟨some d,.binOp .shr T x y j,ty,pos,af,none⟩ [(d,ab (p.fdiv (2 ^ (min q.toNat 64))))] []:=
 mC hd r s λw S γ v A f g=>by
  obtain⟨rfl,a1,a2⟩:=f;obtain⟨rfl,_⟩:=g;have:¬ q<0:=ol
  refine⟨_,λw=>oe,λw=>by simp only[binOp,Op.shift,oq this];rfl,rfl,?_⟩;have i:(0:Int)<2 ^ (min q.toNat 64):=Int.pow_pos oc;rw[Int.fdiv_eq_ediv_of_nonneg _ om];have f:IntKind.i64.min=-9223372036854775808:=oc
  have g:IntKind.i64.max=9223372036854775807:=oc
  rw[f] at a1 |-;rw[g] at a2 |-;have e:(1:Int)<=2 ^ (min q.toNat 64):=om
  rcases Int.le_total 0 p with h | h;have k:=Int.ediv_nonneg h (Int.le_of_lt i);have n:=Int.ediv_le_self (a:=p) (2 ^ (min q.toNat 64)) h;omega;have k:p<=p / 2 ^ (min q.toNat 64):=by rw[Int.le_ediv_iff_mul_le i];have:=Int.mul_le_mul_of_nonpos_left h e;omega
  have n:p / 2 ^ (min q.toNat 64)<=0:=by have:=Int.ediv_le_ediv (c:=2 ^ (min q.toNat 64)) i h;simp_all
  omega
end aG
section
variable {R:Type}{X:Cx}{l:List (Nat×Ly)}{m:List (Nat×Ct)}{md:Option R}{Q:R->Exit->Act->World->Prop}{G:R->Act->World->Prop}
theorem VP{c:Operand}{x y:Code}(d:ac (lk l) c (bl true))(h:Sq X l m md (λr=>x.wp X.P (Q r))):Sq X l m md (λr=>(Code.cond c x y).wp X.P (Q r)):=by intro r a w γ e hi;have:=d.val hi;simp only[bl,Ly.val,l7] at this;refine wp_cond_split this (λ_=>h r a w γ e hi) oh
theorem Nj{c:Operand}{x y:Code}(d:ac (lk l) c (bl false))(h:Sq X l m md (λr=>y.wp X.P (Q r))):Sq X l m md (λr=>(Code.cond c x y).wp X.P (Q r)):=by intro r a w γ e hi;have:=d.val hi;simp only[bl,Ly.val,l7] at this;refine wp_cond_split this oh (λ_=>h r a w γ e hi)
theorem ik{α:Type}{C:α->Ct}{x:α}{k:α->Option R}(d:Nat)(hd:lk m d=some (C x))(h:∀ y,Sq X l ((d,C y)::m) (k y) G):Sq X l m ((some x).bind k) G:=by
 refine nv (λa w γ hi=>⟨γ,?_⟩) (h x);have:lk ((d,C x)::m)=lk m:=by grind[lk,Nat.eq_of_beq_eq_true]
 grind
def aS{τ ρ:Type}(k:τ->Option ρ):Lp τ ρ->Option ρ
 | .go t=>k t
 | .out r=>some r
def cI{ε α R:Type}(a:ε->Option R)(k:α->Option R):Except ε α->Option R
 | .ok x=>k x
 | .error e=>a e
theorem Nk{σ:Type}{body:Code}{f:σ->Option (Lp σ R)}{n:Nat}{s0:σ}
 (L:σ->List (Nat×Ly)) (M:σ->List (Nat×Ct)) (h0:k7 X l m (L s0) (M s0))
 (a:∀ s,Sq X (L s) (M s) (f s) (λo=>body.wp X.P (iV X L M some Q o))) :
 Sq X l m (ae f n s0) (λr=>(Code.loop body).wp X.P (Q r)):=by
 have:=qH (k:=some) (G':=λ_ _ _=>True) (Q:=Q) (X:=X) (l:=l) (m:=m) (n:=n) (τ0:=Empty) (λe=>e.elim) L M (λ_=>[]) (λ_=>[]) h0 (λ_=>a) ol;grind
theorem pD{α σ:Type}{f:Nat->α->σ->Option (Lp σ R)}{xs:List α}{s0:σ}{k:σ->Option R}
 {j id2 e g a d t2 u v w y n p q:Nat}{H I J:String}{A C f3:Array Edge}{B:Code}
 (L:σ->List (Nat×Ly)) (M:σ->List (Nat×Ct))
 (hd:(Nat.blt g X.N && Nat.blt a X.N && Nat.blt t2 X.N && !(Nat.beq g a) && !(Nat.beq g d) && !(Nat.beq a d) && !(Nat.beq t2 d) && !(Nat.beq t2 a))=true)
 (hk:∀ s,(cY g (L s) && cY a (L s) && cY t2 (L s) && cY d (L s))=true)
 (h0:k7 X l m ((a,ab (0:Nat))::(d,ab xs.length)::L s0) (M s0))
 (F:∀(i:Nat) x s,xs[i]?=some x->Sq X ((a,ab i)::(d,ab xs.length)::L s) (M s) (f i x s)
  (λo=>B.wp X.P (iV X (λs=>(a,ab i)::(d,ab xs.length)::L s) M (λt=>aS k (.out t)) Q o)))
 (E:∀ s,Sq X (L s) (M s) (k s) (λr=>Q r (.exit e))) :
 Sq X l m ((ao f xs 0 s0).bind (aS k)) (λr=>(Code.loop (.seq (.region j ⟨[⟨some g,.binOp .lss u (.tmp a) (.tmp d) v,n,H,A,none⟩]⟩ false)
  (.seq (.cond (.tmp g) .skip (.exit e)) (.seq B (.region id2 ⟨[⟨some t2,.binOp .add w (.tmp a) (.const (.int .i64 1)) y,p,I,C,none⟩,⟨some a,.move (.tmp t2),q,J,f3,none⟩]⟩ false))))).wp X.P (Q r)):=
 tv (k:=aS k) L M hd hk h0 F E
end
section aG
variable {X:Cx}{st:Nat->Option Ly}{mm:Nat->Option Ct}
theorem cvI{d x S T ty pos af a p}(i:X.P.underlying S=some a)(j:X.P.underlying T=some (.int .i64))(hd:Nat.blt d X.N=true)(n:ac st x (ab p)):
 ax X st mm ⟨some d,.convert S T x,ty,pos,af,none⟩ [(d,ab p)] []:=
 iF i j hd n λw S γ v k=>by
  obtain⟨rfl,f,g⟩:=k;have a1:IntKind.i64.min=-9223372036854775808:=oc
  have a2:IntKind.i64.max=9223372036854775807:=oc
  have e:wrap64 p=p:=by grind[wrap64]
  exact⟨_,_,rfl,by rw[ps,e];exact⟨rfl,f,g⟩⟩
theorem qN{α:Type}{xs:List α}{p:Int}{y:α}(h:ah xs p=some y):xs[p.toNat]?=some y:=(tC h).2
end aG
theorem Nl:Hs [] []:=⟨trivial,trivial⟩
theorem sj{R:Type}{X:Cx}{l l' m m'}{md:Option R}{G:R->Act->World->Prop}(k:Sq X l' m' md G)(h:k7 X l m l' m'):Sq X l m md G:=nv h k
def dK(ρ:List (Nat×Nat))(mm:Nat->Option Ct):List (Nat×Ct)->Prop
 | []=>True
 | (x,a)::r=>(∃ y c,lk ρ x=some y/\mm y=some c/\gV ρ c a)/\dK ρ mm r
theorem dK.get{ρ mm}:∀ {mi:List (Nat×Ct)},dK ρ mm mi->∀ x a,lk mi x=some a->∃ y c,lk ρ x=some y/\mm y=some c/\gV ρ c a
 | [],_,_,_,h=>by cases h
 | (i,c0)::r,e,x,a,h=>by simp only[lk] at h;cases d:Nat.beq i x;rw[d] at h;exact dK.get e.2 x a h;rw[d] at h;have:i=x:=xy d;subst this;simp at h;subst h;exact e.1
section
variable {R:Type}{X:Cx}{l:List (Nat×Ly)}{m:List (Nat×Ct)}{md:Option R}{Q:R->Exit->Act->World->Prop}{G:R->Act->World->Prop}
theorem pE{σ:Type}{x y:Code}{A:(σ->Option R)->Option R}{k:σ->Option R}(L:σ->List (Nat×Ly))(M:σ->List (Nat×Ct))
 (h:∀ j:σ->Option R,(∀ s,Sq X (L s) (M s) (j s) (λr=>y.wp X.P (Q r)))->Sq X l m (A j) (λr=>x.wp X.P (Exit.then (y.wp X.P (Q r)) (Q r))))
 (J:∀ s,Sq X (L s) (M s) (k s) (λr=>y.wp X.P (Q r))):Sq X l m (jn A k) (λr=>(Code.seq x y).wp X.P (Q r)):=ko (h k J)
theorem dZ{σ τ τ0:Type}{body:Code}{f:σ->Option (Lp σ τ)}{n:Nat}{s0:σ}{k:τ->Option R}(e:Nat)(inj:τ0->τ)
 (L:σ->List (Nat×Ly)) (M:σ->List (Nat×Ct)) (Lo:τ0->List (Nat×Ly)) (Mo:τ0->List (Nat×Ct)) (h0:k7 X l m (L s0) (M s0))
 (d:(∀ t,Sq X (Lo t) (Mo t) (k (inj t)) (λr=>Q r (.exit e)))->∀ s,Sq X (L s) (M s) (f s) (λo=>body.wp X.P (iV X L M k Q o)))
 (a:∀ t,Sq X (Lo t) (Mo t) (k (inj t)) (λr=>Q r (.exit e))) :
 Sq X l m ((ae f n s0).bind k) (λr=>(Code.loop body).wp X.P (Q r)):=qH inj L M Lo Mo h0 d a
end
section
variable {R:Type}{X:Cx}{l:List (Nat×Ly)}{m:List (Nat×Ct)}{md:Option R}{Q:R->Exit->Act->World->Prop}
theorem VQ{aG:Array Oper}{j d:Nat}{st mm a w γ}(hi:bq X st mm a w γ)(g:((aG[j]?).bind (·.dst))=some d)(e:st d=some (.tup [])):yielded aG a.tmps j=none:=by obtain⟨v,f,i⟩:=hi.sts d _ e;simp_all[Ly.val,Ly.vals,yielded]
theorem HS{w S γ}:Ly.val w S γ (.tup []) undef:=by simp only[Ly.val,Ly.vals];exact⟨#[],rfl,rfl⟩
theorem spB{d op ty pos after j b}{aG:Array Oper}{rest:List Oper}(e:Nat)(g:((aG[j]?).bind (·.dst))=some e)(n:lk l e=some (bl (!b)))(hd:Nat.blt d X.N=true)
 (k:Sq X ((d,.tup [])::l) m md (λr=>wpList X.P aG (Q r) rest)):Sq X l m md (λr=>wpList X.P aG (Q r) (⟨some d,op,ty,pos,after,some (j,b)⟩::rest)):=by
 intro r a w γ i hi;refine wpList_step λK f=>?_;rw[oq (by cases b<;>simp[Region.wanted,C0 hi g n])];refine f _ w (k r _ w γ i ?_);have:=hi.put (d:=d) (v:=undef) (ly:=.tup []) oo HS;grind[co]
theorem spU{d op ty pos after j b}{aG:Array Oper}{rest:List Oper}(e:Nat)(i:((aG[j]?).bind (·.dst))=some e)(n:lk l e=some (.tup []))(hd:Nat.blt d X.N=true)
 (k:Sq X ((d,.tup [])::l) m md (λr=>wpList X.P aG (Q r) rest)):Sq X l m md (λr=>wpList X.P aG (Q r) (⟨some d,op,ty,pos,after,some (j,b)⟩::rest)):=by
 intro r a w γ g hi;refine wpList_step λK f=>?_;rw[oq (by grind[Region.wanted,VQ])];refine f _ w (k r _ w γ g ?_);have:=hi.put (d:=d) (v:=undef) (ly:=.tup []) oo HS;grind[co]
end
section
variable {X:Cx}{st:Nat->Option Ly}{mm:Nat->Option Ct}{aG:Array Oper}
theorem ogB{d op ty pos after j b}(e:Nat)(g:((aG[j]?).bind (·.dst))=some e)(i:st e=some (bl (!b)))(hd:Nat.blt d X.N=true):mE X aG st mm ⟨some d,op,ty,pos,after,some (j,b)⟩ [(d,.tup [])] []:=by intro a w γ K Q hi f;rw[oq (by cases b<;>simp[Region.wanted,C0 hi g i])];exact f _ _ _ (hi.put (d:=d) (v:=undef) (ly:=.tup []) oo HS)
theorem ogU{d op ty pos after j b}(e:Nat)(g:((aG[j]?).bind (·.dst))=some e)(i:st e=some (.tup []))(hd:Nat.blt d X.N=true):mE X aG st mm ⟨some d,op,ty,pos,after,some (j,b)⟩ [(d,.tup [])] []:=by intro a w γ K Q hi f;rw[oq (by grind[Region.wanted,VQ])];exact f _ _ _ (hi.put (d:=d) (v:=undef) (ly:=.tup []) oo HS)
theorem Nn{a w γ d id E k ls}(hi:bq X st mm a w γ)(A:mm id=some (.sl E k ls))(y:it ls)(hd:st d=some (.own id)):bq X (up st [(d,bA k ls)]) (up mm [(id,.gone)]) a w γ:=by
 obtain⟨v,cs,p,⟨M,C⟩,F,H⟩:=kr hi A;have f:=hi.drop id;have P:∀ b,X.S γ (up mm [(id,.gone)]) b->X.S γ mm b:=by rintro b (h | ⟨i,n,u,r,s,t,x⟩);exact .inl h;rw[Xb] at r;by_cases e:id=i;grind[Ct.alive];simp[e] at r;exact .inr ⟨i,n,u,r,s,t,x⟩
 have I:(xP k ls).p w (X.S γ (up mm [(id,.gone)])) v:=by rcases C with ⟨rfl,T⟩ | ⟨g,cap,aH,rfl,_,s,t,x,N,O⟩;exact .inl ol;have hmine:=hi.mine g ⟨id,_,_,A,rfl,p,rfl⟩;refine .inr (.inl ⟨g,0,cap,cs,rfl,t,x,hmine.2.1,?_,λj u S=>?_,Ly.holds_mono (Kp.refl _ _) ol (Ng.refl _) _ _ ((y w _ γ (λ_=>none)).1 _ F),H⟩);rintro(h | ⟨i,n,u,B,J,K,L⟩);grind;rw[Xb] at B;by_cases e:id=i;grind[Ct.alive];simp[e] at B;exact e (hi.apart id i _ n _ u g A rfl B J p K rfl L);rw[Xc s,<-xq,xx];grind
 refine { f with sts:=?_ };intro i ly h;rw[Xb] at h;by_cases e:d=i;subst e;simp at h;subst h;obtain⟨u,g1,q,_⟩:=hi.sts d _ hd;rw[p] at q;simp at q;subst q;exact⟨v,g1,I⟩;simp[e] at h;exact f.sts i ly h
theorem VR{o d y E k ls em}(h:ax X st mm o [(d,.own y)] ((y,.sl E k ls)::em))(f:it ls):ax X st mm o [(d,bA k ls)] ((y,.gone)::em):=by
 intro a w γ K Q hi i;refine h a w γ K Q hi λg w' γ' e=>i g w' γ' ?_;have:=Nn (d:=d) (id:=y) (E:=E) (k:=k) (ls:=ls) e (by simp[up,lk]) f (by simp[up,lk]);have j:up (up st [(d,.own y)]) [(d,bA k ls)]=up st [(d,bA k ls)]:=by grind[Xb]
 have n:up (up mm ((y,.sl E k ls)::em)) [(y,.gone)]=up mm ((y,.gone)::em):=by grind[up,lk]
 grind
theorem HT{d x hi T ty pos af id y E E' k b z q}{α:Type}{f:α->Ly}{xs U:List α}(hs:sub xs 0 q=some U)(N:mm id=some (.sl E' k (xs.map f)))(A:X.P.underlying T=some (.slice E))(u:eU X.P E k b z)
 (hd:Nat.blt d X.N=true) (hx:ac st x (.own id)) (F:iw st xs.length hi q) (hy:mm y=none) :
 ax X st mm ⟨some d,.slice T x none hi none,ty,pos,af,none⟩ [(d,.own y)] [(y,.sl E' k (U.map f)),(id,.gone)]:=by
 intro a w γ K Q t hK;obtain⟨h0,Z,h2,rfl⟩:=M7 hs;obtain⟨v,cs,V,⟨C,L⟩,e3,e4⟩:=kr t N;obtain⟨hv,_⟩:=hx.val t;have s:a.eval x=v:=ol
 have j:(hi.map a.eval=none/\q=(xs.length:Nat))\/∃ O,hi.map a.eval=some (.int O q):=by
  rcases tH t F with ⟨rfl,h⟩ | ⟨x,O,rfl,h⟩
  all_goals grind
 rw[xf] at C L;have i:(cs.take (q.toNat*k)).length=q.toNat*k:=oo
 have hylen:((xs.take q.toNat).drop (0:Int).toNat).length=q.toNat:=ol
 have hold:Ly.holds w (X.S γ mm) γ (((xs.take q.toNat).drop (0:Int).toNat).map f) (cs.take (q.toNat*k)):=by grind[oD,List.map_take]
 have I:∀ ly∈((xs.take q.toNat).drop (0:Int).toNat).map f,ly.sz=k:=ol
 have eG:∀ v',(execOp a.eval ⟨some d,.slice T x none hi none,ty,pos,af,none⟩).run X.P w=.ok (.value v') w->w.ownsRow 0 E' k v' q.toNat (cs.take (q.toNat*k))->(∀ b,aC v'=some b->aC v=some b) ->
  Oper.wp X.P ⟨some d,.slice T x none hi none,ty,pos,af,none⟩ a w K Q:=by
  intro v' hr e B;unfold Oper.wp;rw[hr];have r:v'.oneCell'=true:=by rcases e.2 with ⟨rfl,_⟩ | ⟨g,cap,aH,rfl,_⟩<;>rfl
  have n:=t.replace (w':=w) rfl rfl rfl N rfl V (Kp.refl _ _) (y:=y) (ct:=.sl E' k (((xs.take q.toNat).drop (0:Int).toNat).map f)) (v':=v') hy rfl
   (λS γ' hS H J=>⟨v',cs.take (q.toNat*k),J,ol,Ly.holds_mono (Kp.refl _ _) hS H _ _ hold,I⟩)
   (λb hb'=>⟨ol,by
    rcases e.2 with ⟨rfl,_⟩ | ⟨g,cap,aH,rfl,_,h2,_⟩
    all_goals grind[aC]⟩)
  exact hK _ _ _ (n.put (d:=d) (v:=v') (ly:=.own y) oo ⟨by simp[bq.gset],r⟩)
 rcases L with ⟨rfl,hn⟩ | ⟨g,cap,aH,rfl,hg,W,g3,g4,Y,g6⟩
 . have hq:q=0:=om
   subst hq;refine eG (.slice none 0 0) ?_ ⟨oh,oh⟩ oh;have:=pz (P:=X.P) (w:=w) (isS:=true) (len:=0) (cap:=0) (lo:=none) (hi:=hi.map a.eval) (p:=0) (q:=0) oh ol om om om;simp only[execOp,s];simp[Instr.sliceAt,Instr.slice,underlying,A,this,W4 u]
 . have B:=pz (P:=X.P) (w:=w) (isS:=true) (len:=xs.length) (cap:=cap) (lo:=none) (hi:=hi.map a.eval) (p:=0) (q:=q) oh j om Z om
   refine eG (.slice (some ⟨g,0,none⟩) q.toNat cap) ?_ ⟨i,.inr ⟨g,cap,aH,rfl,hg,W,om,g4,Y,?_⟩⟩ (by grind[aC])
   . simp only[execOp,s]
     by_cases M:cap=0
     . subst M
       simp[Instr.sliceAt,Instr.slice,underlying,A,B,W4 u]
     . simp[Instr.sliceAt,Instr.slice,underlying,A,B,W4 u,M,fc]
   grind
end
section
variable {X:Cx}{st:Nat->Option Ly}{mm:Nat->Option Ct}
theorem bnd{a x p q}(h:ac st x (.cell (gX a q))):iw st p (some x) q:=⟨a,h⟩
theorem dl{p}:iw st p none p:=rfl
theorem De{d x T ty pos af y E k b z W}{α:Type}{f:α->Ly}{p zs:List α}(A:az b [] p=some zs)(C:X.P.underlying T=some (.slice E))(hE:eU X.P E k b z)(O:z.cells.size=k)(hk0:Nat.blt 0 k=true)
 (hx:ac st x W) (hF:Dc mm W k (p.map f)) (hy:mm y=none) (hd:Nat.blt d X.N=true) :
 ax X st mm ⟨some d,.call { callee:=.builtin .append,args:=#[.const (.slice none 0 0),x],argTypes:=#[T,T] },ty,pos,af,none⟩ [(d,.own y)] [(y,.sl E k (zs.map f))]:=by
 unfold az at A;split at A
 case isFalse=>cases A
 rename_i I;obtain⟨hbytes,B⟩:=I;cases A;obtain⟨i,hi,N,L,H⟩:=hE;have s:0<k:=oo
 simp only[yn,xx] at hbytes B;refine qK hd hy rfl λa w γ hI=>?_;have n:w.ownsRow w.heap.size E k (.slice none 0 0) 0 []:=⟨oh,oh⟩
 have eG:∀ v' w' news,(Builtin.append_ #[T,T] ty #[.slice none 0 0,a.eval x]).run X.P w=.ok v' w'->w'.ownsRow w.heap.size E k v' p.length news->w.grownBy w' (Value.slice none 0 0).ownBlock->Ly.holds w (X.S γ mm) γ (p.map f) news ->
  (∀ ly∈p.map f,ly.sz=k) ->
  ∃ v w',(execOp a.eval ⟨some d,.call { callee:=.builtin .append,args:=#[.const (.slice none 0 0),x],argTypes:=#[T,T] },ty,pos,af,none⟩).run X.P w=.ok (.value v) w'/\w'.os=w.os/\w'.tape=w.tape/\w'.output=w.output/\Kp (λ_=>False) w w'/\v.oneCell'=true /\
  (∀ S γ',(∀ b,S b->X.S γ mm b\/w.heap.size<=b)->Ng γ γ'->γ' y=some v->Xk w' S γ' y (.sl E k (([]++p).map f)))/\(∀ b,aC v=some b->w.heap.size<=b/\b<w'.heap.size):=by
  intro v' w' news u j r hh hz2;have hk:Kp (λ_=>False) w w':=⟨r.size,λb F _=>r.block b F (by simp[Value.ownBlock])⟩
  refine⟨v',w',?_,r.os,r.tape,r.output,hk,?_,?_,?_⟩
  . simp only[execOp,resolve]
    have e:a.eval (.const (.slice none 0 0))=.slice none 0 0:=rfl;simp_all[invoke,builtin]
  . rcases j.2 with ⟨rfl,_⟩ | ⟨g,cap,aH,rfl,_⟩<;>rfl
  . intro S γ' hS J M
    refine⟨v',news,M,?_,?_,?_⟩
    . simp only[xi,xf]
      refine⟨j.1,?_⟩;rcases j.2 with h | ⟨g,cap,aH,q,t,h3⟩
      all_goals grind
    . exact Ly.holds_mono (⟨hk.1,λb V hn=>hk.2 b V (λh=>h)⟩) hS J _ _ ol
    grind
  . intro b V
    rcases j.2 with ⟨rfl,_⟩ | ⟨g,cap,aH,rfl,hge,t,_⟩
    all_goals grind[aC]
 rcases M6 hI hF hx with ⟨q,t⟩ | ⟨Z,o,cap,news,q,t,h3,h4,h5,U,h7⟩ | ⟨t,Y,q⟩
 rotate_left 2
 . have:p=[]:=oo
   subst this;have u:=VC (P:=X.P) w w.heap.size T ty E i k C hi (.slice none 0 0) 0 [] n Y;refine eG _ w [] (by rw[q];exact u) om ⟨rfl,rfl,rfl,xe _,oh⟩ oe oh
 . have:p=[]:=oo
   subst this;have u:=run_append_owned_none (P:=X.P) w w.heap.size T ty E i k C hi (.slice none 0 0) 0 [] n;refine eG _ w [] (by rw[q];exact u) om ⟨rfl,rfl,rfl,xe _,oh⟩ oe oh
 . have K:news.length=p.length*k:=by
    have:=Ly.holds_sz _ _ U;grind[HI]
   rw[xf] at q
   obtain⟨v',w',r1,r2,r3,r4⟩:=run_append_own (P:=X.P) w w.heap.size T ty E i z k b C hi N L H O s (.slice none 0 0) 0 [] n ⟨Z,o,none⟩ p.length cap news K
    (by grind[fc]) (Ly.oneCell_of_holds _ _ U) ol ol oh
   grind
end
theorem No{P:Program}{T:Nat}{d:Bool}{k off:Nat}{w w':World}{S γ}{ly:Ly}{cs:Array Value}{a u b:List Value}(h:fB P T d k)(e:ly.isN=d)(p:ly.sz=k)
 (j:cs.toList=a++u++b) (n:a.length=off) (g:ly.hold w S γ u):∃ v,(part T cs off).run P w'=.ok v w'/\ly.val w S γ v:=by
 have f:=Ly.hold_sz _ _ g;cases d with
 | true=>
   refine⟨.agg u.toArray,?_,?_⟩;have:cs.extract off (off+k)=u.toArray:=by apply vr;simp_all
   simp[part,tB h,C8 h,this];cases ly<;>simp[Ly.isN] at e;simp_all[Ly.val,Ly.hold]
 | false=>
   have i:u.length=1:=by cases ly<;>simp[Ly.isN] at e<;>simpa [Ly.sz] using f
   obtain⟨v,rfl⟩:∃ v,u=[v]:=by
    match u,i with
    | [v],_=>simp
   refine⟨v,?_,Ly.val_of_hold1 e g⟩;have:cs[off]?=some v:=by rw[<-xq,j,<-n,ye,xw oh];simp
   simp[part,tB h,this]
def oE(P:Program)(n T:Nat){α:Type}(f:α->Ly)(e:α->α->Bool):Prop:=
 ∀ d w w' S γ x y a g,(f x).val w S γ a->(f y).val w S γ g->(Op.equalIn (d+n) T a g).run P w'=.ok (e x y) w'
theorem tK{P n T}(h:P.underlying T=some (.int .i64)):oE P (n+1) T ab (λx y=>x == y):=by intro d w w' S γ x y f g a e;obtain⟨rfl,_⟩:=a;obtain⟨rfl,_⟩:=e;grind[run_equalIn_int]
theorem tL{P n T}{α β:Type}{f:α->Ly}{e:α->α->Bool}(g:β->α)(h:oE P n T f e):oE P n T (λx=>f (g x)) (λx y=>e (g x) (g y)):=λd w w' S γ x y=>h d w w' S γ (g x) (g y)
def pG(P:Program)(n:Nat)(fs:List Field)(off:Nat){α:Type}(f:α->List Ly)(e:α->α->Bool):Prop:=
 ∀ d w w' S γ x y (xs a:Array Value) a1 u1 a2 u2,xs.toList=a1++u1->a1.length=off->Ly.holds w S γ (f x) u1->a.toList=a2++u2->a2.length=off->Ly.holds w S γ (f y) u2 ->
   (Op.eqFields (d+n) xs a fs).run P w'=.ok (e x y) w'
theorem VS{P n off}{α:Type}:pG P n [] off (λ_:α=>[]) (λ_ _=>true):=by intro d w w' S γ x y xs f a1 a a2 e _ _ _ _ _ _;rfl
theorem tM{P n off k ag}{α:Type}{F:Field}{fs:List Field}{g:α->Ly}{f:α->List Ly}{e1 e2:α->α->Bool}(hname:(F.name == "_")=false)(hoff:F.offset=off)(hT:fB P F.type ag k)(hn:∀ x,(g x).isN=ag)(hz:∀ x,(g x).sz=k)
 (h1:oE P n F.type g e1) (h2:pG P n fs (off+k) f e2):pG P n (F::fs) off (λx=>g x::f x) (λx y=>e1 x y && e2 x y):=by
 intro d w w' S γ x y xs ys a1 u1 a2 u2 hx hxl hxh hy hyl hyh;obtain⟨c1,c2,rfl,p1,p2⟩:=hxh;obtain⟨d1,d2,rfl,q1,q2⟩:=hyh;have hne:F.name≠ "_":=ol
 obtain⟨v,r1,r2⟩:=No (w:=w) (w':=w') (S:=S) (γ:=γ) (off:=off) hT (hn x) (hz x) (cs:=xs) (b:=c2) ol hxl p1;obtain⟨v',s1,s2⟩:=No (w:=w) (w':=w') (S:=S) (γ:=γ) (off:=off) hT (hn y) (hz y) (cs:=ys) (b:=d2) ol hyl q1;have he:=h1 d w w' S γ x y v v' r2 s2;have hrest:=h2 d w w' S γ x y xs ys (a1++c1) c2 (a2++d1) d2 ol (by grind[Ly.hold_sz]) p2 ol (by grind[Ly.hold_sz]) q2;simp only[Op.eqFields,hoff];rw[ot hne];simp only[Sem.run_bind,r1,s1,Result.andThen_ok,he];cases h:e1 x y
 all_goals simp_all
theorem VT{P n T}{α:Type}{fs:Array Field}{f:α->List Ly}{e:α->α->Bool}(q:P.underlying T=some (.struct fs))(p:P.stoodInHeld T=false)(h:pG P n fs.toList 0 f e):oE P (n+1) T (λx=>.agg (f x)) e:=by
 intro d w w' S γ x y r s i j;obtain⟨cs,rfl,k⟩:=i;obtain⟨g,rfl,a⟩:=j;have hf:P.fieldsOf T=fs:=by grind[Program.fieldsOf]
 rw[show d+(n+1)=(d+n)+1 by omega,run_equalIn_struct w' (d+n) T cs g ol p,hf];exact h d w w' S γ x y cs g [] _ [] _ rfl rfl k rfl rfl a
section aG
variable {X:Cx}{st:Nat->Option Ly}{mm:Nat->Option Ct}
theorem VU{d o x y T r ty pos af n}{α:Type}{f:α->List Ly}{e:α->α->Bool}{p q:α}{b:Bool}(s:oE X.P n T (λx=>.agg (f x)) e)(u:Nat.ble n 10000=true)(E:X.P.eqGuardType X.P.depth T=false)
 (a:∀ cs g w,(Op.equal T (.agg cs) (.agg g)).run X.P w=.ok (e p q) w->(binOp o T (.agg cs) (.agg g)).run X.P w=.ok (.bool b) w)
 (hd:Nat.blt d X.N=true) (v:ac st x (.agg (f p))) (A:ac st y (.agg (f q))) :
 ax X st mm ⟨some d,.binOp o T x y r,ty,pos,af,none⟩ [(d,bl b)] []:=
 mC hd v A λw S γ B C i j=>by have t:=ym u;have k:=λw':World=>s (10000 - n) w w' S γ p q B C i j;rw[show 10000 - n+n=10000 by omega] at k;simp only[Ly.val] at i j;obtain⟨cs,rfl,_⟩:=i;obtain⟨g,rfl,_⟩:=j;refine⟨.bool b,λw'=>?_,λw'=>a cs g w' (k w'),oe⟩;simp_all[eqGuard]
theorem VV{d x y T a ty pos af n}{α:Type}{f:α->List Ly}{e:α->α->Bool}{p q:α}(g:oE X.P n T (λx=>.agg (f x)) e)(j:Nat.ble n 10000=true)(i:X.P.eqGuardType X.P.depth T=false)
 (hd:Nat.blt d X.N=true) (k:ac st x (.agg (f p))) (r:ac st y (.agg (f q))) :
 ax X st mm ⟨some d,.binOp .eql T x y a,ty,pos,af,none⟩ [(d,bl (e p q))] []:=
 VU g j i (by simp_all[binOp]) hd k r
theorem gp{d x y T a ty pos af n}{α:Type}{f:α->List Ly}{e:α->α->Bool}{p q:α}(g:oE X.P n T (λx=>.agg (f x)) e)(j:Nat.ble n 10000=true)(i:X.P.eqGuardType X.P.depth T=false)
 (hd:Nat.blt d X.N=true) (k:ac st x (.agg (f p))) (r:ac st y (.agg (f q))) :
 ax X st mm ⟨some d,.binOp .neq T x y a,ty,pos,af,none⟩ [(d,bl (!(e p q)))] []:=
 VU g j i (by simp_all[binOp]) hd k r
end aG
theorem VW{α:Type}{f:α->Ly}{k:Nat}(d:∀ x,(f x).sz=k){xs:List α}{i:Nat}{y:α}(h:xs[i]?=some y):Ly.go [i] (.agg (xs.map f))=some (f y,i*k):=by
 have a:(xs.map f)[i]?=some (f y):=by simp[h]
 grind[HG,Ly.go]
theorem puA{α:Type}{f:α->Ly}{xs:List α}{i:Nat}{y a:α}(h:xs[i]?=some y):Ly.pu (f a) [i] (.agg (xs.map f))=.agg ((xs.set i a).map f):=by grind[Ly.pu,List.map_set]
section aG
variable {X:Cx}{st:Nat->Option Ly}{mm:Nat->Option Ct}
theorem fq{A:IntKind}{d x i T ty pos af n E k b z id off j}{p:Int}(u:X.P.underlying T=some (.array n E))(t:eU X.P E k b z)(e:(decide (0<=p) && decide (p<(n:Int)))=true)(v:nz mm j id off)
 (hd:Nat.blt d X.N=true) (y:ac st x j) (hi:ac st i (.cell (gX A p))) :
 ax X st mm ⟨some d,.indexAddr T x i,ty,pos,af,none⟩ [(d,.ptr id (off+p.toNat*k))] []:=
 Wv hd λa w γ f=>by simp only[xp,yq] at e;obtain⟨v0,g,q,r,s⟩:=M1 f v y;obtain⟨g1,_⟩:=hi.val f;refine⟨.pointer (some ⟨g,off+p.toNat*k,none⟩),?_,v0,g,q,r,rfl⟩;simp only[execOp,s,g1];simp[Instr.indexAt,asIntOf,underlying,u,e.1,e.2,W4 t,fc,Instr.sureAddr]
def lm(st:Nat->Option Ly)(k:Nat):List (Nat×Operand)->Ly->Ly->Prop
 | [],z,r=>z=r
 | (i,x)::d,z,r=>∃ ly a off,ac st x ly/\ly.lies=true/\Ly.go [i] z=some (a,off)/\off=i*k/\a.sz=k/\ly.sz=k/\lm st k d (Ly.pu ly [i] z) r
theorem VX{st k}:∀ {a:List (Nat×Operand)}{z r:Ly}(pl:List (Nat×Nat)),(∀ i x,(i,x)∈a->pl[i]?=some (i*k,k))->lm st k a z r->ie st pl a z r
 | [],z,r,pl,_,h=>h
 | (i,x)::a,z,r,pl,e,h=>by obtain⟨ly,u,off,f,g,n,p,d,q,s⟩:=h;subst p;exact⟨ly,u,_,f,g,n,by rw[d];exact e i x ve,by rw[d];exact q,VX pl (λj y t=>e j y (vn _ t)) s⟩
theorem VY{g d:Nat->Option (Nat×Nat)}:∀(a:List (Nat×Value)) (cells:Array Value),(∀ i x,(i,x)∈a->g i=d i)->Instr.fill g cells a=Instr.fill d cells a
 | [],_,_=>rfl
 | (i,x)::a,cells,h=>by simp only[Instr.fill,h i x ve];split;rfl;split;rfl;exact VY a _ (λj y e=>h j y (vn _ e))
theorem Np{d T n E parts ty pos af kT bT zT k b z q l}(t:X.P.underlying T=some (.array n E))(e:eU X.P T kT bT zT)(r:eU X.P E k b z)(v:Zr q zT.cells.toList)(g:(parts.all λp=>Nat.blt p.1 n)=true)(u:lm st k parts q (.agg l))(hd:Nat.blt d X.N=true):
 ax X st mm ⟨some d,.build T ⟨parts⟩,ty,pos,af,none⟩ [(d,.agg l)] []:=
 Wv hd λa w γ s=>by
  have j:∀ i x,(i,x)∈parts->((List.range n).map (λi=>(i*k,k)))[i]?=some (i*k,k):=by intro i x f;have:=uv.1 g _ f;simp_all
  obtain⟨cells',g1,y⟩:=HL s parts q (.agg l) zT.cells (VX _ j u) (v _ _ _);refine⟨.agg cells',?_,⟨_,rfl,by grind[Ly.hold]⟩⟩;have hfill:Instr.fill (λi=>some (i*k,k)) zT.cells (parts.map λ(i,x)=>(i,a.eval x))=some cells':=by grind[VY]
  simp only[execOp,Instr.build];simp only[Sem.run_bind,qJ e,Result.andThen_ok,underlying,run_program,t,Sem.run_pure,W4 r];simp_all
end aG
section aG
variable {X:Cx}{st:Nat->Option Ly}{mm:Nat->Option Ct}
theorem slA{d x T ty pos af n E k b z id W}{α:Type}{f:α->Ly}{xs:List α}(U:X.P.underlying T=some (.array n E))(S:eU X.P E k b z)(J:mm id=some (.bx W (.agg (xs.map f))))(hn:xs.length=n)(I:Nat.ble n 1000000=true)
 (H:∀ x,IF (f x)) (hz:∀ x,(f x).sz=k) (hd:Nat.blt d X.N=true) (hx:ac st x (.own id)) :
 ax X st mm ⟨some d,.slice T x none none none,ty,pos,af,none⟩ [(d,bA k (xs.map f))] [(id,.gone)]:=by
 intro a w γ K Q s Z;have V:=ym I;obtain⟨g,aH,A,Y,h3⟩:=oC s J;obtain⟨L,_⟩:=hx.val s;rw[A] at L;have L:a.eval x=.pointer (some ⟨g,0,none⟩):=ol
 have F:=s.drop id;have hmine:=s.mine g ⟨id,_,_,J,rfl,A,rfl⟩;have hS:∀ b,X.S γ (up mm [(id,.gone)]) b->X.S γ mm b:=by rintro b (h | ⟨i,y,u,r,M,N,O⟩);exact .inl h;rw[Xb] at r;by_cases e:id=i;grind[Ct.alive];simp[e] at r;exact .inr ⟨i,y,u,r,M,N,O⟩
 have v:(execOp a.eval ⟨some d,.slice T x none none none,ty,pos,af,none⟩).run X.P w=.ok (.value (.slice (some ⟨g,0,none⟩) n n)) w:=by have C:=pz (P:=X.P) (w:=w) (isS:=false) (len:=n) (cap:=n) (lo:=none) (hi:=none) (p:=0) (q:=n) (.inl ⟨rfl,rfl⟩) (.inl ⟨rfl,rfl⟩) om om om;simp only[execOp,L];by_cases t:n=0;subst t;simp at C;simp[Instr.sliceAt,underlying,U,C,W4 S,Instr.sureAddr];simp[Instr.sliceAt,underlying,U,C,W4 S,Instr.sureAddr,t,fc]
 have hp:(xP k (xs.map f)).p w (X.S γ (up mm [(id,.gone)])) (.slice (some ⟨g,0,none⟩) n n):=by
  have hl:(xs.map f).length=n:=by simp[hn]
  refine .inr (.inl ⟨g,0,n,aH.toList,by rw[hl],om,by grind[maxLen],hmine.2.1,?_,λj u hj=>?_,?_,λly hly=>?_⟩);rintro(h | ⟨i,y,u,r,M,N,O⟩);grind;rw[Xb] at r;by_cases e:id=i;grind[Ct.alive];simp[e] at r;exact e (s.apart id i _ y _ u g J rfl r M A N rfl O);rw[Xc Y,<-xq,xx];exact hj;have B:Ly.holds w (X.S γ mm) γ (xs.map f) aH.toList:=by grind[Ly.hold]
  exact Ly.holds_mono (Kp.refl _ _) ol (Ng.refl _) _ _ ((Ju H xs w _ γ (λ_=>none)).1 _ B);grind
 unfold Oper.wp;rw[v];exact Z _ _ _ (F.put (d:=d) (ly:=bA k (xs.map f)) oo hp)
end aG
def bS(xs:Bf):Be:=xs.map UInt8.ofNat
theorem VZ{w S γ}:∀ {xs:Bf}{cs:List Value},Ly.holds w S γ (xs.map u8) cs->cs=(xs.map (λx:Nat=>(x:Int))).map (Value.int .u8)
 | [],cs,h=>by grind[Ly.holds]
 | x::xs,cs,h=>by obtain⟨c1,c2,rfl,a,d⟩:=h;obtain⟨v,rfl,rfl,_⟩:=a;rw[VZ d];simp
section aG
variable {X:Cx}{st:Nat->Option Ly}{mm:Nat->Option Ct}
theorem Nq{d x S T E ty pos af}{xs:Bf}(q:X.P.underlying S=some (.slice E))(n:X.P.underlying E=some (.int .u8))(r:X.P.underlying T=some .string)(hd:Nat.blt d X.N=true)(A:ac st x (bA 1 (xs.map u8))):
 ax X st mm ⟨some d,.convert S T x,ty,pos,af,none⟩ [(d,am (bS xs))] []:=
 Wv hd λa w γ p=>by
  rcases A.val p with ⟨f,y⟩ | ⟨e,o,cap,cs,f,g,C,F,H,i,k,I⟩ | ⟨y,B,f⟩
  rotate_left 2
  . have:xs=[]:=oo
    subst this;refine⟨.string ByteArray.empty,?_,rfl,by simp[bS]⟩;simp_all[loadCells,loadCellsFrom,execOp,run_convert_bytes_string,run_bytesToString]
  . have:xs=[]:=oo
    subst this;refine⟨.string ByteArray.empty,?_,rfl,by simp[bS]⟩;grind[execOp,run_convert_bytes_nil,Sem.run_bind,Result.andThen_ok,Sem.run_pure]
  . rw[xf] at f g
    have s:=VZ k;have v:(loadCells ⟨e,o,none⟩ xs.length).run X.P w=.ok ((xs.map (λx:Nat=>(x:Int))).map (Value.int .u8)).toArray w:=by have:=Hy (P:=X.P) (b:=e) (o:=o) (w:=w) cs 0 #[] (λj u t=>by simpa using i j u t);grind[loadCells]
    have J:(convert S T (.slice (some ⟨e,o,none⟩) xs.length cap)).run X.P w=.ok (.string ⟨(bS xs).toArray⟩) w:=by rw[run_convert_bytes_string w S T E _ _ _ q n r,run_bytesToString w _ _ cap _ v,foldl_push_bytes];congr 2;apply ByteArray.ext;simp[bS,ByteArray.empty,ByteArray.emptyWithCapacity,Function.comp_def];rfl
    refine⟨.string ⟨(bS xs).toArray⟩,?_,rfl,by grind[bS]⟩;simp_all[execOp]
end aG
def mg(s:Be)(p:Nat):Obj:=.stringIter ⟨s.toArray⟩ p
def ig(s:Be)(p:Nat):Nat:=(Utf8.decode ⟨s.toArray⟩ p).1
def iY(s:Be)(p:Nat):Nat:=(Utf8.decode ⟨s.toArray⟩ p).2
theorem Jk2(s:Be)(p:Nat):ig s p<=1114111:=by grind[ig,Utf8.decode,Utf8.runeError,Utf8.valid]
section aG
variable {X:Cx}{st:Nat->Option Ly}{mm:Nat->Option Ct}
theorem Nr{d T x ty pos af s y}(j:X.P.underlying T=some .string)(f:ac st x (am s))(g:mm y=none)(hd:Nat.blt d X.N=true):
 ax X st mm ⟨some d,.range T x,ty,pos,af,none⟩ [(d,.own y)] [(y,.ob (mg s 0))]:=
 qK hd g rfl λa w γ hi=>by
  obtain⟨n,_⟩:=f.val hi
  refine⟨.pointer (some ⟨w.heap.size,0,none⟩),w.alloc (mg s 0),?_,rfl,rfl,rfl,pw _ _ _,rfl,
   λS γ' i k e=>⟨w.heap.size,e,tD _ _⟩,by simp[aC]⟩
  simp_all[execOp,run_range_string,World.iter,mg]
theorem V1{id o}{a w γ}(d:bq X st mm a w γ)(e:mm id=some (.ob o)):∃ g,γ id=some (.pointer (some ⟨g,0,none⟩))/\w.heap[g]?=some o:=d.cts id _ e
theorem Ns{d x ty pos af id s p}(h:decide (p<s.length)=false)(n:mm id=some (.ob (mg s p)))(hd:Nat.blt d X.N=true)(q:ac st x (.own id)):
 ax X st mm ⟨some d,.next x true,ty,pos,af,none⟩ [(d,.tup [bl false])] []:=by
 refine Wv hd λa w γ i=>?_;obtain⟨g,k,f⟩:=V1 i n;obtain⟨e,_⟩:=q.val i;rw[k] at e;have e:a.eval x=.pointer (some ⟨g,0,none⟩):=ol
 have j:¬ p<(ByteArray.mk s.toArray).size:=by grind[ByteArray.size]
 refine⟨.tuple #[.bool false],?_,#[.bool false],rfl,_,[],rfl,rfl,rfl⟩;simp only[execOp,e];simp only[mg] at f;simp[Instr.next,getObj,Sem.run,f,j]
theorem Nt{d x ty pos af id s p}(h:decide (p<s.length)=true)(q:Nat.ble s.length 1000000=true)(v:mm id=some (.ob (mg s p)))(hd:Nat.blt d X.N=true)(B:ac st x (.own id)):
 ax X st mm ⟨some d,.next x true,ty,pos,af,none⟩ [(d,.tup [bl true,ab (p:Int),i32 (ig s p:Nat)])] [(id,.ob (mg s (p+iY s p)))]:=by
 intro a w γ K Q j A;have u:=ym q;obtain⟨g,i,t⟩:=V1 j v;obtain⟨r,_⟩:=B.val j;rw[i] at r;have r:a.eval x=.pointer (some ⟨g,0,none⟩):=ol
 have H:p<s.length:=ol
 have y:p<(ByteArray.mk s.toArray).size:=by grind[ByteArray.size]
 have E:g<w.heap.size:=ol
 let w':World:={ w with heap:=w.heap.setIfInBounds g (mg s (p+iY s p)) }
 have f:(execOp a.eval ⟨some d,.next x true,ty,pos,af,none⟩).run X.P w=.ok (.value (.tuple #[.bool true,.int .i64 p,.int .i32 (ig s p:Nat)])) w':=by simp only[execOp,r];simp only[mg] at t;simp[Instr.next,getObj,setObj,Sem.run,t,y,goInt,w',ig,iY,mg]
 have n:Kp (λb=>b=g) w w':=⟨by simp[w'],λb C F=>ol⟩
 have e:w'.heap[g]?=some (mg s (p+iY s p)):=ol
 have k:=j.setc (w':=w') (ct:=.ob (mg s (p+iY s p))) rfl rfl rfl v rfl i rfl n rfl ⟨g,i,e⟩;unfold Oper.wp;rw[f];have I:=Jk2 s p;refine A _ _ _ (k.put (d:=d) (ly:=.tup [bl true,ab (p:Int),i32 (ig s p:Nat)]) oo ⟨#[.bool true,.int .i64 p,.int .i32 (ig s p:Nat)],rfl,_,_,rfl,rfl,_,_,rfl,⟨rfl,?_,?_⟩,_,_,rfl,⟨rfl,?_,?_⟩,rfl⟩)
 all_goals grind[IntKind.min,IntKind.max,IntKind.bits]
theorem Nu{α:Type}{f:α->Ly}{k:Nat}(a:∀ x,(f x).sz=k){xs:List α}{i:Int}{y:α}(h:ah xs i=some y):Ly.go [i.toNat] (.agg (xs.map f))=some (f y,0+i.toNat*k):=by simp_all[VW,tC]
theorem Nv{α:Type}{f:α->Ly}{xs:List α}{i:Int}{y a:α}{ly:Ly}(h:ah xs i=some y)(d:.agg ((xs.set i.toNat a).map f)=ly):Ly.pu (f a) [i.toNat] (.agg (xs.map f))=ly:=by simp_all[puA,tC]
theorem V2{α:Type}{xs:List α}{i:Int}{y:α}{n:Nat}(d:xs.length=n)(h:ah xs i=some y):(decide (0<=i) && decide (i<(n:Int)))=true:=by obtain⟨h0,a⟩:=tC h;grind
theorem ixV{K:IntKind}{d T x i ty pos af n E q k}{p:Int}{α:Type}{f:α->Ly}{xs:List α}{y:α}(C:X.P.underlying T=some (.array n E))(s:fB X.P E q k)(U:Nat.beq xs.length n=true)(e:ah xs p=some y)
 (t:∀ x,(f x).sz=k) (F:∀ x,(f x).isN=q) (hd:Nat.blt d X.N=true) (J:ac st x (.agg (xs.map f))) (hi:ac st i (.cell (gX K p))) :
 ax X st mm ⟨some d,.index T x i,ty,pos,af,none⟩ [(d,f y)] []:=
 Wv hd λa w γ r=>by
  have j:xs.length=n:=oo
  have g:=V2 j e;simp only[xp,yq] at g;obtain⟨h0,e⟩:=tC e;obtain⟨g1,_⟩:=hi.val r;obtain⟨cs,I,O⟩:=J.val r;obtain⟨a1,u,N,H,A,B,_⟩:=pt (w:=w) (S:=X.S γ mm) (γ:=γ) [p.toNat] (VW t e) (cs:=cs.toList) (by grind[Ly.hold]);obtain⟨v,L,M⟩:=No (P:=X.P) (w':=w) s (F y) (t y) H A B;refine⟨v,?_,M⟩;simp only[execOp,I,g1];simp[Instr.index,asIntOf,underlying,C,g.1,g.2,C8 s,L]
end aG
def Pl(ly:Ly):Prop:=∀ w S S' γ,(∀ cs,ly.hold w S γ cs->ly.hold w S' γ cs)/\(∀ v,ly.val w S γ v->ly.val w S' γ v)
def tN(l:List Ly):Prop:=∀ w S S' γ,(∀ cs,Ly.holds w S γ l cs->Ly.holds w S' γ l cs)/\(∀ v,Ly.vals w S γ l v->Ly.vals w S' γ l v)
theorem HU(p:CP)(h:∀ w S S' v,p.p w S v->p.p w S' v):Pl (.cell p):=λw S S' γ=>⟨λcs ⟨v,h1,h2⟩=>⟨v,h1,h _ _ _ _ h2⟩,by grind[Ly.val]⟩
theorem Nw{x}:Pl (ab x):=HU _ λ_ _ _ _ h=>h
theorem kv{x}:Pl (av x):=HU _ λ_ _ _ _ h=>h
theorem cp{x}:Pl (bl x):=HU _ λ_ _ _ _ h=>h
theorem mF{x}:Pl (am x):=HU _ λ_ _ _ _ h=>h
theorem lp{x}:Pl (.own x):=λ_ _ _ _=>⟨λ_ h=>h,by grind[Ly.val]⟩
theorem pH:tN []:=λ_ _ _ _=>⟨λ_ h=>h,by grind[Ly.vals]⟩
theorem kw{ly l}(d:Pl ly)(e:tN l):tN (ly::l):=λw S S' γ=>
 ⟨λcs h=>by obtain⟨c1,c2,rfl,g1,a⟩:=h;exact⟨c1,c2,rfl,(d w S S' γ).1 _ g1,(e w S S' γ).1 _ a⟩,
  λv h=>by
   simp only[Ly.vals] at h |-
   obtain⟨u,r,rfl,g1,a⟩:=h;exact⟨u,r,rfl,(d w S S' γ).2 _ g1,(e w S S' γ).2 _ a⟩⟩
theorem jS{α:Type}{f:α->Ly}(h:∀ x,Pl (f x)):∀ xs:List α,tN (xs.map f)
 | []=>pH
 | x::xs=>kw (h x) (jS h xs)
theorem qO{l}(h:tN l):Pl (.tup l):=λw S S' γ=>
 ⟨by grind[Ly.hold],
  λv g=>by simp only[Ly.val] at g |-;obtain⟨cs,rfl,g⟩:=g;exact⟨cs,rfl,(h w S S' γ).2 _ g⟩⟩
def Nx:Ct->Prop
 | .sl _ _ ls=>tN ls
 | .bx _ ly=>Pl ly
 | .mp _ ls=>tN ls
 | _=>True
def Df:List (Nat×Ct)->Prop
 | []=>True
 | (_,c)::r=>Nx c/\Df r
theorem Df.get:∀ {m:List (Nat×Ct)},Df m->∀ {x c},lk m x=some c->Nx c
 | [],_,_,_,h=>by cases h
 | (i,c0)::r,d,x,c,h=>by simp only[lk] at h;cases a:Nat.beq i x;rw[a] at h;exact Df.get d.2 h;rw[a] at h;simp at h;subst h;exact d.1
theorem Xk.pl{w S S' γ id c}(h:Xk w S γ id c)(j:Nx c):Xk w S' γ id c:=by
 cases c with
 | gone=>trivial
 | sl E k ls=>obtain⟨v,cs,a,d,e,i⟩:=h;exact⟨v,cs,a,d,(j _ _ _ _).1 _ e,i⟩
 | bx E ly=>obtain⟨g,aH,a,d,e⟩:=h;exact⟨g,aH,a,d,(j _ _ _ _).1 _ e⟩
 | ob o=>exact h
 | ch o=>exact h
 | mp q ls=>obtain⟨g,n,f,a,d,e,i,p⟩:=h;exact⟨g,n,f,a,d,e,(j _ _ _ _).2 _ i,p⟩
def lq(lt:Bf)(id:Nat):Bool:=lt.any (Nat.beq id)
def Dg(st:Nat->Option Ly)(mm:Nat->Option Ct)(lt:Bf)(x:Operand)(a:Ly):Prop:=
 ∃ id,lq lt id=true/\((ac st x (.own id)/\((∃ E k ls,mm id=some (.sl E k ls)/\it ls/\a=bA k ls)\/(∃ E ly,mm id=some (.bx E ly)/\IF ly/\a=.ref ly))) \/
   ∃ off len E ls,ac st x (.win id off len)/\mm id=some (.sl E 1 ls)/\it ls/\off+len<=ls.length/\a=bA 1 ((ls.drop off).take len))
def tO(st:Nat->Option Ly)(mm:Nat->Option Ct)(ρ:List (Nat×Nat))(lt:Bf):List Operand->List Ly->Prop
 | [],[]=>True
 | x::xs,a::d=>((∃ ly,ac st x ly/\Rn ρ ly a)\/Dg st mm lt x a)/\tO st mm ρ lt xs d
 | _,_=>False
section
variable {X:Cx}{st:Nat->Option Ly}{mm:Nat->Option Ct}
theorem Jjg{a w γ γc S lt x p}(hi:bq X st mm a w γ)(hS:∀ b,S b->X.S γ mm b)
 (y:∀ id c v b,lq lt id=true->mm id=some c->c.alive=true->γ id=some v->aC v=some b->¬ S b) (h:Dg st mm lt x p):p.val w S γc (a.eval x):=by
 obtain⟨id,h0,h⟩:=h;rcases h with ⟨C,h⟩ | ⟨off,len,E,ls,C,f,e,W,rfl⟩
 rotate_left
 . obtain⟨v,cs,d,⟨r,i⟩,s,q⟩:=kr hi f
   obtain⟨v0,H,O⟩:=C.val hi;rw[d] at H;cases H;have A:Ly.holds w S (λ_=>none) ls cs:=Ly.holds_mono (Kp.refl _ _) ol (Ng.refl _) _ _ ((e w _ γ (λ_=>none)).1 _ s);obtain⟨_,Y⟩:=oD off A q;obtain⟨Z,_⟩:=oD len Y (λly V=>q ly (List.mem_of_mem_drop V));rcases O with ⟨f3,I,J⟩ | ⟨g,cap,o,f3,I,fo,J,P⟩
   . rw[f3]
     subst J;exact .inl oh
   . rcases i with ⟨i,_⟩ | ⟨t,F,aH,i,_,K,L,M,T,U⟩
     . grind[aC]
     . subst i
       simp[aC] at f3;subst f3;have hmine:=hi.mine t ⟨id,_,_,f,rfl,d,rfl⟩;have N:((ls.drop off).take len).length=len:=ol
       rw[I];refine .inr (.inl ⟨t,o,cap,(cs.drop (off*1)).take (len*1),?_,?_,P,hmine.2.1,y id _ _ t h0 f rfl d rfl,λj u B=>?_,Z,ol⟩)
       all_goals grind[Xc]
 obtain⟨n,_⟩:=C.val hi;rcases h with ⟨E,k,ls,f,e,rfl⟩ | ⟨E,ly,f,e,rfl⟩
 . obtain⟨v,cs,d,⟨r,i⟩,s,q⟩:=kr hi f
   rw[n] at d;simp at d;rw[d];rw[d] at n;rcases i with ⟨rfl,hn⟩ | ⟨g,cap,aH,rfl,_,K,L,M,T,U⟩
   . exact .inl ol
   . have hmine:=hi.mine g ⟨id,_,_,f,rfl,n,rfl⟩
     refine .inr (.inl ⟨g,0,cap,cs,rfl,L,M,hmine.2.1,y id _ _ g h0 f rfl n rfl,λj u B=>?_,?_,q⟩)
     . rw[Xc K,<-xq,xx]
       grind
     . exact Ly.holds_mono (Kp.refl _ _) ol (Ng.refl _) _ _ ((e w _ γ (λ_=>none)).1 _ s)
 . obtain⟨g,aH,d,r,i⟩:=oC hi f
   rw[n] at d;simp at d;rw[d];rw[d] at n;have hmine:=hi.mine g ⟨id,_,_,f,rfl,n,rfl⟩;refine⟨g,0,aH.toList,rfl,hmine.2.1,y id _ _ g h0 f rfl n rfl,λj u B=>?_,?_⟩
   . rw[Xc r,<-xq,xx];exact B
   . exact Ly.hold_mono (Kp.refl _ _) ol (Ng.refl _) _ _ ((e w _ γ γc).1 _ i)
theorem WA{a w γ γc ρ S lt}(hi:bq X st mm a w γ)(f:∀ y x,lk ρ y=some x->γc y=γ x)(k:∀ b,S b->X.S γ mm b)
 (j:∀ id c v b,lq lt id=true->mm id=some c->c.alive=true->γ id=some v->aC v=some b->¬ S b) :
 ∀ {xs:List Operand}{d:List Ly},tO st mm ρ lt xs d->Ly.vals w S γc d (xs.map a.eval)
 | [],[],_=>oe
 | x::xs,ly::d,h=>by obtain⟨e,i⟩:=h;simp only[xt,Ly.vals];refine⟨_,_,rfl,?_,WA hi f k j i⟩;rcases e with ⟨n,e,g⟩ | e;exact Ly.val_mono (Kp.refl _ _) ol (Ng.refl _) _ _ ((g w _ γ γc f).2 _ (e.val hi));grind[Jjg]
 | [],_::_,h=>h.elim
 | _::_,[],h=>h.elim
theorem aR{d f args argTypes ty pos af largs mi res mo res' em}(lt:Bf)(ρ τ σ:List (Nat×Nat))(hlr:(lt.any λid=>ρ.any λe=>Nat.beq e.2 id)=false)(hf:bo X.P f largs mi res mo)(hpm:Df mo)(hpr:Pl res')
 (ha:tO st mm ρ lt args largs) (hmi:∀ x c',lk mi x=some c'->∃ y c,lk ρ x=some y/\mm y=some c/\gV ρ c c') (hρm:gc mi ρ) (hρn:aJ (ρ.map (·.2))=true)
 (hτ:ez mm τ) (hσ:gg τ ρ σ) (hσn:aJ (σ.map (·.2))=true) (hem:dD σ ρ mo em) (hall:bN em (ρ.map (·.2))) (hall2:bN em (τ.map (·.1)))
 (hres:Rn σ res res') (hd:Nat.blt d X.N=true) :
 ax X st mm ⟨some d,.call { callee:=.value (.func f),args:=⟨args⟩,argTypes:=argTypes },ty,pos,af,none⟩ [(d,res')] em:=by
 obtain⟨⟨fn,hfn,hname,hbody⟩,hc⟩:=hf;intro a w γ K Q hi hK
 obtain⟨_,_,rfl,rfl,g1,g2,g3,g4,g5,g6,g7,gL,g8⟩:=UZ (res':=res') (lq lt) ρ τ σ (by
  rintro id h ⟨x,hx⟩;have:(lt.any λid=>ρ.any λe=>Nat.beq e.2 id)=true:=by
   obtain⟨z,hz,he⟩:=wh.1 h;have:id=z:=ol
   subst this;exact by grind
  grind) (.inr ⟨by intro x c g w S S' γ id h;exact h.pl (hpm.get g),λw S S' γ v=>(hpr w S S' γ).2 v⟩) hmi hρm hρn hτ hσ hσn hem hall hall2 hres hi
 have hrun:(execOp a.eval ⟨some d,.call { callee:=.value (.func f),args:=⟨args⟩,argTypes:=argTypes },ty,pos,af,none⟩).run X.P w=.ok (.enter f (args.map a.eval).toArray) w:=by
  have e1:fn.body.isNone=false:=by cases h:fn.body<;>simp[h] at hbody |-
  have e2:¬ fn.name= "runtime.NumGoroutine":=by simpa using hname
  simp only[execOp,resolve,Act.eval];simp[Deferred.ofValue,invoke,callFunc,hfn,e2];grind
 unfold Oper.wp;rw[hrun,Oper.upon_enter];refine(hc w _ _ (args.map a.eval).toArray g3 g4 g5 g6 g7 (by simpa using WA hi g1 g2 gL ha) (hi.gw g2)).mono ?_;rintro e w' ⟨v,γ',rfl,hb⟩;show K (a.put (some d) v) w';obtain⟨γ'',hinv,_,hv⟩:=g8 v γ' w' hb;exact hK _ _ _ (hinv.put oo hv)
end
def kx(a:List (Nat×Nat×Nat)):List (Nat×Ct):=a.map λe=>(e.1,.sl e.2.1 e.2.2 [])
def nF(a:List (Nat×Nat×Nat))(γ:Nm):Prop:=∀ e∈a,γ e.1=some (.slice none 0 0)
def HV(mm:Nat->Option Ct):List (Nat×Nat×Nat)->Prop
 | []=>True
 | e::r=>mm e.1=none/\HV mm r
theorem Ny(mm:Nat->Option Ct)(i:Nat)(c:Ct)(l:List (Nat×Ct)):up mm ((i,c)::l)=up (up mm l) [(i,c)]:=by grind[up,lk]
theorem WB{a:List (Nat×Nat×Nat)}{y:Nat}(h:∀ e∈a,e.1≠y):lk (kx a) y=none:=by
 induction a with
 | nil=>rfl
 | cons e a g=>
   have f:=h e ve;have d:Nat.beq e.1 y=false:=by
    cases d:Nat.beq e.1 y
    all_goals simp_all
   simp_all[kx,lk]
theorem bq.nils{X:Cx}{st a w}:∀(f:List (Nat×Nat×Nat)) {γ mm},bq X st mm a w γ->HV mm f->aJ (f.map (·.1))=true->∃ γ',bq X st (up mm (kx f)) a w γ'/\Ng γ γ'/\nF f γ'/\∀ z,mm z=none->(∀ e∈f,e.1≠z)->γ' z=none
 | [],γ,mm,i,_,_=>⟨γ,i,Ng.refl _,(λ_ h=>by cases h),λz A _=>i.fresh z A⟩
 | e::f,γ,mm,i,hf,q=>by
   simp only[xt,aJ,xp,vk] at q;obtain⟨γ1,r,s,t,B⟩:=bq.nils f i hf.2 q.2;have j:∀ g∈f,g.1≠e.1:=by intro g d h;have:(f.map (·.1)).any (Nat.beq e.1)=true:=wh.2 ⟨g.1,ol,oo⟩;grind
   have k:up mm (kx f) e.1=none:=by simp only[up,WB j];exact hf.1
   have:=r.new (w':=w) (y:=e.1) (ct:=.sl e.2.1 e.2.2 []) (v:=.slice none 0 0) rfl rfl rfl (Kp.refl _ _) k rfl
    (λS γ' _ _ _ p=>⟨_,[],p,⟨oh,oh⟩,rfl,oh⟩) (by grind[aC])
   rw[<-Ny] at this;refine⟨_,this,?_,?_,?_⟩;intro id v n;have x:=s id v n;by_cases u:e.1=id;subst u;rw[i.fresh e.1 hf.1] at n;cases n;grind[bq.gset];intro g d;rcases xk.1 d with rfl | d;simp[bq.gset];have:=j g d;simp only[bq.gset];rw[oq om];exact t g d;grind[bq.gset]
def inN(a:List (Nat×Nat×Nat))(y:Nat):Bool:=a.any λe=>Nat.beq e.1 y
def tQ(a:List (Nat×Nat×Nat))(ly:Ly)(cs:List Value):Prop:=∀ w S γ,nF a γ->ly.hold w S γ cs
def pI(a:List (Nat×Nat×Nat))(l:List Ly)(cs:List Value):Prop:=∀ w S γ,nF a γ->Ly.holds w S γ l cs
theorem dr{a ly cs}(h:Zr ly cs):tQ a ly cs:=λw S γ _=>h w S γ
theorem ix{a y}(h:inN a y=true):tQ a (.own y) [.slice none 0 0]:=λw S γ f=>by obtain⟨e,d,g⟩:=wh.1 h;have:=xy g;subst this;exact⟨_,rfl,f e d,rfl⟩
theorem Nz{a y}:tQ a (.por y) [.pointer none]:=λ_ _ _ _=>⟨_,rfl,.inl rfl⟩
theorem mh{a l cs}(h:pI a l cs):tQ a (.agg l) cs:=λw S γ d=>by simp only[Ly.hold];exact h w S γ d
theorem mj{a}:pI a [] []:=λ_ _ _ _=>rfl
theorem K5{a ly l c1 c2}(e:tQ a ly c1)(f:pI a l c2):pI a (ly::l) (c1++c2):=λw S γ d=>⟨c1,c2,rfl,e w S γ d,f w S γ d⟩
section aG
variable {X:Cx}{st:Nat->Option Ly}{mm:Nat->Option Ct}
theorem ky{d T ty pos af y k b z ly}(g:List (Nat×Nat×Nat))(x:eU X.P T k b z)(F:tQ g ly z.cells.toList)(hf:HV mm g)(q:aJ (y::g.map (·.1))=true)(J:mm y=none)(hd:Nat.blt d X.N=true):
 ax X st mm ⟨some d,.alloc T,ty,pos,af,none⟩ [(d,.own y)] ((y,.bx T ly)::kx g):=by
 intro a w γ K Q t u;simp only[aJ,xp,vk] at q;obtain⟨γ1,r,H,s,I⟩:=t.nils g hf q.2;have E:∀ j∈g,j.1≠y:=by intro j B h;have:(g.map (·.1)).any (Nat.beq y)=true:=wh.2 ⟨j.1,ol,oo⟩;grind
 have n:up mm (kx g) y=none:=by grind[up,WB]
 have f:=r.new (w':=w.alloc (.cells z.cells T)) (y:=y) (ct:=.bx T ly) (v:=.pointer (some ⟨w.heap.size,0,none⟩)) rfl rfl rfl (pw _ _ _) n rfl
  (λS γ' _ _ C p=>⟨w.heap.size,z.cells,p,tD _ _,F _ _ _ (λe A=>C _ _ (s e A))⟩) (by simp[aC])
 rw[<-Ny] at f;have i:(execOp a.eval ⟨some d,.alloc T,ty,pos,af,none⟩).run X.P w=.ok (.value (.pointer (some ⟨w.heap.size,0,none⟩))) (w.alloc (.cells z.cells T)):=by simp only[execOp];simp[Instr.alloc,qJ x,newVar,newRow]
 unfold Oper.wp;rw[i];exact u _ _ _ (f.put (d:=d) (ly:=.own y) oo ⟨by simp[bq.gset],rfl⟩)
theorem ml{d T parts ty pos af pl k b z q l}(j:List (Nat×Nat×Nat))(A:HK X.P T pl)(v:eU X.P T k b z)(E:tQ j q z.cells.toList)(hf:HV mm j)(B:aJ (j.map (·.1))=true)(C:ie st pl parts q (.agg l))(hd:Nat.blt d X.N=true):
 ax X st mm ⟨some d,.build T ⟨parts⟩,ty,pos,af,none⟩ [(d,.agg l)] (kx j):=by
 intro a w γ K Q n y;obtain⟨γ1,s,r,u,H⟩:=n.nils j hf B;obtain⟨fs,t,r⟩:=A;obtain⟨cells',g1,F⟩:=HL s parts q (.agg l) z.cells C (E _ _ _ u);have p:(fs.mapM (λf=>(do pure (f.offset,<-sizeOf f.type):Sem (Nat×Nat)))).run X.P w=.ok pl.toArray w:=by
  have e:fs.mapM (λf=>(do pure (f.offset,<-sizeOf f.type):Sem (Nat×Nat)))=List.toArray <$> (fs.toList.mapM (λf=>(do pure (f.offset,<-sizeOf f.type):Sem (Nat×Nat)))):=by
   conv=>lhs;rw[<-Array.toArray_toList (xs:=fs)]
   grind
  rw[e];simp only[Sem.run_map,M9 _ _ r,Result.andThen_ok]
 have g:(execOp a.eval ⟨some d,.build T ⟨parts⟩,ty,pos,af,none⟩).run X.P w=.ok (.value (.agg cells')) w:=by
  simp only[execOp,Instr.build];have hfill:Instr.fill (λi=>pl.toArray[i]?) z.cells (parts.map λ(i,x)=>(i,a.eval x))=some cells':=ol
  simp only[Sem.run_bind,qJ v,Result.andThen_ok,underlying,run_program,t,Sem.run_pure,p];simp_all
 unfold Oper.wp;rw[g];exact y _ _ _ (s.put (d:=d) (ly:=.agg l) oo ⟨_,rfl,by grind[Ly.hold]⟩)
def ub(b:UInt8):Ly:=u8 b.toNat
theorem fH{x}:IF (ub x):=nu _
def gi:Ly:=.cell (UQ .nilIface rfl)
theorem tU:IF gi:=nu _
theorem xW:ac st (.const .nilIface) gi:=λ_ _ _=>oe
theorem WC{w S γ}:∀(s:Be),Ly.holds w S γ (s.map ub) (s.map λb=>Value.int .u8 b.toNat)
 | []=>rfl
 | b::s=>⟨[_],_,rfl,⟨_,rfl,rfl,by grind[IntKind.min],by have:=b.toNat_lt;grind[IntKind.max,IntKind.bits,IntKind.signed]⟩,WC s⟩
theorem NA{d s x T U ty pos af y id E b z}{xs e zs:Be}(V:az b xs e=some zs)(hm:mm id=some (.sl E 1 (xs.map ub)))(O:X.P.underlying T=some (.slice E))(hU:X.P.underlying U=some .string)(hE:eU X.P E 1 b z)(p:z=.int .u8 0)(W:b=1)
 (hs:ac st s (.own id)) (hx:ac st x (am e)) (hy:mm y=none) (hd:Nat.blt d X.N=true) :
 ax X st mm ⟨some d,.call { callee:=.builtin .append,args:=#[s,x],argTypes:=#[T,U] },ty,pos,af,none⟩ [(d,.own y)] [(y,.sl E 1 (zs.map ub)),(id,.gone)]:=by
 subst p W;intro a w γ K Q N hK;unfold az at V;split at V
 case isFalse=>cases V
 rename_i Y;obtain⟨hbytes,h63⟩:=Y;cases V;obtain⟨i,hi,p,r,A⟩:=hE;obtain⟨v,cs,e1,M,e3,e4⟩:=kr N hm;obtain⟨hv,hv1⟩:=hs.val N;have hvs:a.eval s=v:=ol
 rw[xf] at M;obtain⟨hxv,hxl⟩:=hx.val N;have k:(ByteArray.mk e.toArray).size=e.length:=oe
 have hsc:Lib.strCells ⟨e.toArray⟩=e.map λb=>Value.int .u8 b.toNat:=oe
 obtain⟨v',w',r1,r2,C,r4⟩:=Lib.run_append_own_string (P:=X.P) w 0 T U ty E i O hU hi p r A v xs.length cs M ⟨e.toArray⟩ (by grind[maxLen]) om oh;rw[k,hsc] at r2;have hob:v.ownBlock=aC v:=by rcases M.2 with ⟨rfl,_⟩ | ⟨g,cap,aH,rfl,_⟩<;>rfl
 have L:(execOp a.eval ⟨some d,.call { callee:=.builtin .append,args:=#[s,x],argTypes:=#[T,U] },ty,pos,af,none⟩).run X.P w=.ok (.value v') w':=by simp_all[execOp,resolve,invoke,builtin]
 have hk:Kp (λb=>aC v=some b) w w':=⟨C.size,λb n hn=>C.block b n ol⟩
 have hkS:Kp (X.S γ mm) w w':=⟨C.size,λb n hn=>hk.2 b n (λh=>hn (.inr ⟨id,_,v,hm,rfl,e1,h⟩))⟩
 have J:v'.oneCell'=true:=by rcases r2.2 with ⟨rfl,_⟩ | ⟨g,cap,aH,rfl,_⟩<;>rfl
 have F:∀ b,aC v'=some b->(aC v=some b\/w.heap.size<=b):=by
  intro b hb;rcases M with ⟨H,⟨rfl,hn0⟩ | ⟨g,f,aH,rfl,_,g2,g3,g4,g5,g6⟩⟩
  . obtain⟨v2,w2,q1,q2,_,_⟩:=Lib.run_append_own_string (P:=X.P) w w.heap.size T U ty E i O hU hi p r A (.slice none 0 0) xs.length cs ⟨H,ol⟩ ⟨e.toArray⟩ om om oh
    rw[r1] at q1;obtain⟨rfl,rfl⟩:v'=v2/\w'=w2:=ol
    rcases q2.2 with ⟨rfl,_⟩ | ⟨g,cap1,cur1,rfl,hge,_⟩
    all_goals grind[aC]
  . have t:Src X.P i.size U (.string ⟨e.toArray⟩) (ByteArray.mk e.toArray).size (byteCells ⟨e.toArray⟩) w:=by grind[Src.ofString]
    by_cases hroom:xs.length+e.length<=f
    . have q:=run_append_room_src (P:=X.P) w T U ty E i O hi g 0 xs.length f _ _ _ t om
       (λj B=>by
        rw[byteCells_length,k] at B;rw[Xc g2,r]
        grind)
       (λj B=>by grind[World.frozen?])
      rw[r1] at q;simp at q;rw[q.1] at hb;exact .inl hb
    . have hold:(Builtin.firstCells i.size xs.length (.slice (some ⟨g,0,none⟩) xs.length f)).run X.P w.drew=.ok cs.toArray w.drew:=
       run_firstCells_some w.drew i.size xs.length ⟨g,0,none⟩ xs.length f cs (by rw[r];exact H) (λj u B=>by
        rw[fc,xx];have:w.drew.cell? ⟨g,j,none⟩=w.cell? ⟨g,j,none⟩:=rfl;rw[this,Xc g2,<-xq];rw[<-g6,vf] at B;split at B
        . exact B
        . cases B)
      have q:=run_append_grow_src (P:=X.P) w T U ty E i _ O hi p (some ⟨g,0,none⟩) xs.length f cs hold _ _ _ t (by rw[k];omega) (by rw[k];omega) (growslice_fits (by rw[k];omega) (by rw[A,k];omega));grind[aC]
 unfold Oper.wp;rw[L]
 have I:=N.replace C.os C.tape C.output hm rfl e1 hk (y:=y) (ct:=.sl E 1 ((xs++e).map ub)) (v':=v') hy rfl
  (λS γ' hS hng hy'=>by
   refine⟨v',cs++e.map (λb=>Value.int .u8 b.toNat),hy',ol,?_,?_⟩
   . grind[HH,Ly.holds_mono,WC]
   . intro ly Z
     obtain⟨x,_,rfl⟩:=xv.1 Z;rfl)
  (λb n=>⟨F b n,by
   rcases r2.2 with ⟨rfl,_⟩ | ⟨g,cap,aH,rfl,_,h2,_⟩
   all_goals grind[aC]⟩)
 exact hK _ _ _ (I.put (d:=d) (v:=v') (ly:=.own y) oo ⟨by simp[bq.gset],J⟩)
end aG
theorem bq.dropc{X:Cx}{st mm a w γ}(h:bq X st mm a w γ){w':World}(F:w'.os=w.os)(O:w'.tape=w.tape)(y:w'.output=w.output){id:Nat}{c:Ct}{v:Value}(q:mm id=some c)(E:c.alive=true)(H:γ id=some v)
 (hk:Kp (λb=>aC v=some b) w w'):bq X st (up mm [(id,.gone)]) a w' γ:=by
 have A:∀ b,Ow γ (up mm [(id,.gone)]) b->∃ i g u,i≠id/\mm i=some g/\g.alive=true/\γ i=some u/\aC u=some b:=by rintro b ⟨i,g,u,k,r,p,s⟩;grind[Xb,Ct.alive]
 have S:∀ b,X.S γ (up mm [(id,.gone)]) b->X.S γ mm b:=λb h=>nt h (λx=>x) (λh=>by obtain⟨i,g,u,_,k,r,p,s⟩:=A b h;exact⟨i,g,u,k,r,p,s⟩)
 have t:Kp (X.S γ mm) w w':=⟨hk.1,λb n N=>hk.2 b n (λe=>N (.inr ⟨id,c,v,q,E,H,e⟩))⟩
 refine { h with os:=F.trans h.os,tape:=O.trans h.tape,output:=y.trans h.output,grow:=xz h.grow hk.1,old:=?_,fresh:=?_,cts:=?_,apart:=?_,mine:=?_,sts:=?_ }
 . intro b n L
   rw[hk.2 b (xr n h.grow) (λe=>by
    rcases(h.mine b ⟨id,c,v,q,E,H,e⟩).1 with k | k
    all_goals grind)]
   exact h.old b n L
 . intro i hi
   rw[Xb] at hi;by_cases e:id=i
   . grind
   . simp[e] at hi;exact h.fresh i hi
 . intro i g f
   rw[Xb] at f;by_cases e:id=i
   . simp[e] at f;subst f;trivial
   . simp[e] at f
     by_cases j:g.alive=true
     . refine(h.cts i g f).mono t ol (Ng.refl _) ?_
       intro u b B n;exact hk.2 b (h.mine b ⟨i,g,u,f,j,B,n⟩).2.1 (λC=>e (h.apart id i c g v u b q E f j H B C n))
     . cases g<;>simp[Ct.alive] at j
       trivial
 . intro i I c1 c2 u P b k r p s
   rw[Xb] at k p;by_cases e:id=i
   . grind[Ct.alive]
   . by_cases J:id=I
     . grind[Ct.alive]
     . simp[e] at k;simp[J] at p
       exact h.apart i I c1 c2 u P b k r p s
 . intro b n
   obtain⟨i,g,u,_,k,r,p,s⟩:=A b n;obtain⟨g1,K,g3⟩:=h.mine b ⟨i,g,u,k,r,p,s⟩;exact⟨g1,xr K hk.1,g3⟩
 . intro d ly hd
   obtain⟨u,B,M⟩:=h.sts d ly hd;exact⟨u,B,Ly.val_mono t ol (Ng.refl _) ly u M⟩
theorem xX{P:Program}{d f:Nat}{args:List Operand}{argTypes ty pos af}{a:Act}{w:World}{K:Act->World->Prop}{Q:Exit->Act->World->Prop}{R:Ending->World->Prop}
 (hf:∃ fn,P.funcs[f]?=some fn∧(fn.name == "runtime.NumGoroutine")=false∧fn.body.isSome=true) (hc:Calls P f (args.map a.eval).toArray w R)
 (hK:∀ e w',R e w'->∃ v,e=.returned v/\K (a.put (some d) v) w') :
 Oper.wp P ⟨some d,.call { callee:=.value (.func f),args:=⟨args⟩,argTypes:=argTypes },ty,pos,af,none⟩ a w K Q:=by
 obtain⟨fn,hfn,hname,hbody⟩:=hf;have hrun:(execOp a.eval ⟨some d,.call { callee:=.value (.func f),args:=⟨args⟩,argTypes:=argTypes },ty,pos,af,none⟩).run P w=.ok (.enter f (args.map a.eval).toArray) w:=by
  have e1:fn.body.isNone=false:=oo
  have e2:¬ fn.name= "runtime.NumGoroutine":=ol
  simp only[execOp,resolve,Act.eval];simp[Deferred.ofValue,invoke,callFunc,hfn,e2];grind
 unfold Oper.wp;rw[hrun,Oper.upon_enter];refine hc.mono ?_;grind
def gj(g:Option Nat)(w w':World):Prop:=w'.os=w.os/\w'.tape=w.tape/\w'.output=w.output/\Kp (λb=>g=some b) w w'
theorem WD{P:Program}{f:Nat}{args:List Ly}{res:Ly}(hf:∃ fn,P.funcs[f]?=some fn∧(fn.name == "runtime.NumGoroutine")=false∧fn.body.isSome=true)
 (h:∀ w S γ (vs:Array Value),Ly.vals w S γ args vs.toList->Calls P f vs w λe w'=>∃ v,e=.returned v/\w'=w/\res.val w S γ v):bo P f args [] res []:=by
 refine⟨hf,λw S0 γ vs h1 h2 h3 h4 h5 h6 _=>(h w _ γ vs h6).mono ?_⟩;rintro e w' ⟨v,rfl,rfl,hv⟩;exact⟨v,γ,rfl,⟨rfl,rfl,rfl,xe _,oh,Ng.refl _,h2,om,om,ol,hv⟩⟩
section
variable {R:Type}{X:Cx}{l:List (Nat×Ly)}{m:List (Nat×Ct)}{md:Option R}{Q:R->Exit->Act->World->Prop}
theorem NC{c:Code}(h:Sq X l m md (λr=>c.wp X.P (Exit.noGoto (Q r)))):Sq X l m md (λr=>(Code.scope c).wp X.P (Q r)):=λr a w γ d hi=>wp_scope_straight (h r a w γ d hi)
theorem ND{i:Nat}(h:Sq X l m md (λr=>Q r .normal)):Sq X l m md (λr=>(Code.label i).wp X.P (Q r)):=λr a w γ d hi=>wp_label (h r a w γ d hi)
theorem pgr(h:Sq X l m md (λr=>Q r .ret)):Sq X l m md (λr=>Exit.noGoto (Q r) .ret):=h
end
section aG
variable {X:Cx}{st:Nat->Option Ly}{mm:Nat->Option Ct}
theorem NE{d x T ty pos af p k N}(e:UK k N)(hd:Nat.blt d X.N=true)(i:ac st x (uk k p)):
 ax X st mm ⟨some d,.unOp .neg T x,ty,pos,af,none⟩ [(d,uk k ((N - p)%N))] []:=
 Wv hd λa w γ hi=>by
  obtain⟨f,_,g⟩:=i.val hi;rw[e.max] at g;have:(0 - (p:Int))%(N:Int)=(((N - p)%N:Nat):Int):=by rw[Int.natCast_emod,Int.ofNat_sub om,show 0 - p=(N:Int) - p+(-1)*N by omega,Int.add_mul_emod_self_right]
  refine⟨.int k (((N - p)%N:Nat):Int),by simp only[execOp,f];simp only[Op.unary,Op.intArith,e.wrap,this];rfl,rfl,jE e _ (yo _ e.pos)⟩
def pJ(p q:Int):Int:=((BitVec.ofInt 64 p &&& BitVec.ofInt 64 q).toNat:Int)
theorem NF{d x y T a ty pos af p q}(hd:Nat.blt d X.N=true)(e:ac st x (ab p))(f:ac st y (ab q)):
 ax X st mm ⟨some d,.binOp .and T x y a,ty,pos,af,none⟩ [(d,ab (wrap64 (pJ p q)))] []:=C3 (λw=>by simp only[binOp,Op.intBits,ps,pJ];rfl) rfl hd e f
end aG
theorem qP{σ y x off len}(h:lk σ y=some x):Rn σ (.win x off len) (.win y off len):=λw S γ γ' d=>by have:=d y x h;exact⟨λcs g=>by obtain⟨v,rfl,v0,g1,a⟩:=g;exact⟨v,rfl,v0,ol,a⟩,λv g=>by simp only[Ly.val] at g |-;obtain⟨v0,g1,a⟩:=g;exact⟨v0,ol,a⟩⟩
theorem NG{R:Type}{X:Cx}{l:List (Nat×Ly)}{m:List (Nat×Ct)}{md:Option R}{G:R->Act->World->Prop}(d:Nat){id E ls n}(hd:lk l d=some (.own id))(x:lk m id=some (.sl E 1 ls))(k:n=ls.length)
 (K:Sq X ((d,.win id 0 n)::l) m md G):Sq X l m md G:=by
 subst k;intro r a w γ y hi;refine K r a w γ y { hi with sts:=λi ly h=>?_ };simp only[lk] at h;cases j:Nat.beq d i;rw[j] at h;exact hi.sts i ly h;rw[j] at h;have:d=i:=oo
 subst this;simp only[cond,Option.some.injEq] at h;subst h;obtain⟨v,q,f,_⟩:=hi.sts d _ hd;refine⟨v,q,?_⟩;obtain⟨u,cs,e,⟨A,p⟩,_⟩:=kr hi x;rw[f] at e;cases e;refine⟨v,f,?_⟩;rcases p with ⟨rfl,k⟩ | ⟨g,cap,aH,rfl,_,_,s,t,_⟩;grind;exact .inr ⟨g,cap,0,rfl,rfl,λ_=>rfl,s,t⟩
def fO(i:Int)(len:Nat):Bool:=decide (0<=i) && decide (i<len)
def mn(lo hi:Int)(len:Nat):Bool:=decide (0<=lo) && (decide (lo<=hi) && decide (hi<=len))
def gz{α:Type}(xs:List α)(off len:Nat):Option (List α):=if off+len<=xs.length then some ((xs.drop off).take len) else none
theorem Jk3{α:Type}{xs:List α}{off len y}(h:gz xs off len=some y):off+len<=xs.length:=by grind[gz]
theorem HX{α:Type}{f:α->Ly}{xs:List α}{off len y}(h:gz xs off len=some y):off+len<=(xs.map f).length:=by simp_all[Jk3]
theorem HY{α:Type}{f:α->Ly}{xs:List α}{off len y}(h:gz xs off len=some y):bA 1 (y.map f)=bA 1 (((xs.map f).drop off).take len):=by grind[gz,List.map_drop,List.map_take]
theorem NH{R:Type}{X:Cx}{l:List (Nat×Ly)}{m:List (Nat×Ct)}{md:Option R}{G:R->Act->World->Prop}(d:Nat){id off len E}{α:Type}{f:α->Ly}{xs y:List α}(S:gz xs off len=some y)
 (hd:lk l d=some (.win id off len)) (F:lk m id=some (.sl E 1 (xs.map f))) (C:it (xs.map f)) (K:Sq X ((d,bA 1 (y.map f))::l) ((id,.gone)::m) md G):Sq X l m md G:=by
 intro r a w γ hr hi;rw[HY S] at K;refine K r a w γ hr ?_;have hle:=HX (f:=f) S;generalize xs.map f=ls at *;obtain⟨v,cs,s,⟨e2,p⟩,T,J⟩:=kr hi F;obtain⟨v1,t1,v0,L,U⟩:=hi.sts d _ hd;rw[s] at L;cases L;have Y:=hi.drop id;have hS:∀ b,X.S γ (up (lk m) [(id,.gone)]) b->X.S γ (lk m) b:=by rintro b (h | ⟨i,q,u,x,A,O,P⟩);exact .inl h;rw[Xb] at x;by_cases e:id=i;grind[Ct.alive];simp[e] at x;exact .inr ⟨i,q,u,x,A,O,P⟩
 have B:Ly.holds w (X.S γ (up (lk m) [(id,.gone)])) (λ_=>none) ls cs:=Ly.holds_mono (Kp.refl _ _) ol (Ng.refl _) _ _ ((C w _ γ (λ_=>none)).1 _ T);obtain⟨_,s2⟩:=oD off B J;obtain⟨s3,_⟩:=oD len s2 (λly Z=>J ly (List.mem_of_mem_drop Z));have hp:(bA 1 ((ls.drop off).take len)).val w (X.S γ (up (lk m) [(id,.gone)])) γ v1:=by
  rcases U with ⟨f3,M,N⟩ | ⟨g,cap,o,f3,M,fo,N,V⟩;rw[f3];subst N;exact .inl oh;rcases p with ⟨p,_⟩ | ⟨t,I,aH,p,_,A,O,P,h5,h6⟩;grind[aC];subst p;simp[aC] at f3;subst f3;have hmine:=hi.mine t ⟨id,_,_,F,rfl,s,rfl⟩;have n:((ls.drop off).take len).length=len:=ol
  rw[M];refine .inr (.inl ⟨t,o,cap,(cs.drop (off*1)).take (len*1),?_,?_,V,hmine.2.1,?_,λj u hj=>?_,s3,ol⟩);rw[n];omega;rintro(h | ⟨i,q,u,H,k2,k3,k4⟩);grind;rw[Xb] at H;by_cases e:id=i;grind[Ct.alive];simp[e] at H;exact e (hi.apart id i _ q _ u t F rfl H k2 s k3 rfl k4);rw[Xc A,<-xq];grind
 have k:bq X (lk l) (lk ((id,.gone)::m)) a w γ:=by grind[co]
 refine { k with sts:=λi ly h=>?_ };simp only[lk] at h;cases W:Nat.beq d i;rw[W] at h;exact k.sts i ly h;simp_all[co]
section aG
variable {X:Cx}{st:Nat->Option Ly}{mm:Nat->Option Ct}
theorem NI{d x T ty pos af E id off len}(e:X.P.underlying T=some (.slice E))(hd:Nat.blt d X.N=true)(i:ac st x (.win id off len)):
 ax X st mm ⟨some d,.call { callee:=.builtin .len,args:=#[x],argTypes:=#[T] },ty,pos,af,none⟩ [(d,ab (len:Nat))] []:=
 Hw hd i λa w γ hi v f=>by obtain⟨v0,_,⟨rfl,_,rfl⟩ | ⟨g,cap,o,_,rfl,_,j,k⟩⟩:=f;exact⟨by unfold Builtin.len_;simp[underlying,e,goInt],ge oh⟩;exact⟨by unfold Builtin.len_;simp[underlying,e,goInt],ge om⟩
theorem qQ{A:IntKind}{d x i T ty pos af E E' b z p id}{off len:Nat}{α:Type}{f:α->Ly}{xs:List α}{y:α}(k:fO p len=true)(_:mm id=some (.sl E' 1 (xs.map f)))(t:X.P.underlying T=some (.slice E))(s:eU X.P E 1 b z)(_:ah xs ((off:Int)+p)=some y)
 (hd:Nat.blt d X.N=true) (v:ac st x (.win id off len)) (hi:ac st i (.cell (gX A p))) :
 ax X st mm ⟨some d,.indexAddr T x i,ty,pos,af,none⟩ [(d,.ptr id (Int.toNat ((off:Int)+p)*1))] []:=
 Wv hd λa w γ j=>by simp only[fO,xp,yq] at k;obtain⟨h0,u⟩:=k;obtain⟨g1,_⟩:=hi.val j;obtain⟨v0,n,⟨_,_,h⟩ | ⟨g,cap,o,q,e,r,B,C⟩⟩:=v.val j;omega;rw[r om] at e;refine⟨.pointer (some ⟨g,Int.toNat ((off:Int)+p)*1,none⟩),?_,v0,g,n,q,rfl⟩;simp only[execOp,e,g1];rw[show Int.toNat ((off:Int)+p)*1=off+p.toNat*1 by omega];simp[Instr.indexAt,asIntOf,underlying,t,h0,u,W4 s,fc]
theorem WE{d x lo hi T ty pos af E E' b z p q id off len}{ls:List Ly}(B:mn p q len=true)(_:mm id=some (.sl E' 1 ls))(t:X.P.underlying T=some (.slice E))(r:eU X.P E 1 b z)
 (hd:Nat.blt d X.N=true) (F:ac st x (.win id off len)) (v:iw st 0 lo p) (u:iw st len hi q) :
 ax X st mm ⟨some d,.slice T x lo hi none,ty,pos,af,none⟩ [(d,.win id (off+p.toNat) (q.toNat - p.toNat))] []:=
 Wv hd λa w γ s=>by
  simp only[mn,xp,yq] at B;obtain⟨h0,C,K⟩:=B;have f:(lo.map a.eval=none/\p=0)\/∃ i,lo.map a.eval=some (.int i p):=by
   rcases tH s v with ⟨rfl,h⟩ | ⟨x,i,rfl,h⟩
   all_goals grind
  have e:(hi.map a.eval=none/\q=(len:Nat))\/∃ i,hi.map a.eval=some (.int i q):=by
   rcases tH s u with ⟨rfl,h⟩ | ⟨x,i,rfl,h⟩
   all_goals grind
  obtain⟨v0,j,⟨k,n,rfl⟩ | ⟨g,cap,o,k,n,H,I,J⟩⟩:=F.val s
  . obtain rfl:q=0:=om
    obtain rfl:p=0:=om
    refine⟨.slice none 0 0,?_,v0,j,ol⟩;have:=pz (P:=X.P) (w:=w) (isS:=true) (len:=0) (cap:=0) f e om om om;simp only[execOp,k];simp[Instr.sliceAt,Instr.slice,underlying,t,this,W4 r]
  . have y:=pz (P:=X.P) (w:=w) (isS:=true) (len:=len) (cap:=cap) f e h0 C om
    by_cases A:cap=p.toNat
    . subst A
      refine⟨.slice (some ⟨g,o,none⟩) (q.toNat - p.toNat) (p.toNat - p.toNat),?_,v0,j,.inr ⟨g,p.toNat - p.toNat,o,k,rfl,om,om,om⟩⟩;simp only[execOp,n];simp[Instr.sliceAt,Instr.slice,underlying,t,y,W4 r]
    . refine⟨.slice (some ⟨g,o+p.toNat*1,none⟩) (q.toNat - p.toNat) (cap - p.toNat),?_,v0,j,ol⟩
      simp only[execOp,n];simp[Instr.sliceAt,Instr.slice,underlying,t,y,W4 r,A,fc]
end aG
def lr(P:Program)(T:Nat)(nm:String):Option (Bool×Option (Nat×Bool)):=(P.info? T).bind λi=>(i.methods.find? (·.name == nm)).map λm=>(m.path.isEmpty,m.func)
def qR(P:Program)(T:Nat)(nm:String)(f:Nat):Prop:=lr P T nm=some (true,some (f,false))/\∃ fs,P.underlying T=some (.struct fs)
section call
variable {X:Cx}{st:Nat->Option Ly}{mm:Nat->Option Ct}
theorem Jfv{P:Program}{w:World}{T:Nat}{nm:String}{f k:Nat}{u:Value}(d:qR P T nm f):(method (k+1) T u nm).run P w=.ok (f,u) w:=by
 obtain⟨e,fs,p⟩:=d;obtain⟨i,m,a,g,j,n⟩:∃ i m,P.info? T=some i/\i.methods.find? (·.name == nm)=some m/\m.path=#[]/\m.func=some (f,false):=by
  unfold lr at e;cases a:P.info? T with
  | none=>grind
  | some i=>
    simp_all
 simp_all[method,typeInfo,underlying,follow,receiverAt,Place.get]
theorem NJ{d T x ty pos af ly fs}(f:X.P.underlying T=some (.struct fs))(hd:Nat.blt d X.N=true)(e:ac st x ly):
 ax X st mm ⟨some d,.makeInterface T x,ty,pos,af,none⟩ [(d,.ifc T ly)] []:=
 Wv hd λa w γ hi=>by refine⟨.iface T (a.eval x),?_,⟨_,rfl,e.val hi⟩⟩;simp_all[execOp,Instr.makeInterface,underlying]
theorem WF{d r nm T f args argTypes ty pos af ly0 ly1 largs mi res mo res' em}(ρ τ σ:List (Nat×Nat))(hr:ac st r (.ifc T ly0))(hm:qR X.P T nm f)(hf:bo X.P f (ly1::largs) mi res mo)(hr1:Rn ρ ly0 ly1)
 (ha:dY st ρ args largs) (hmi:∀ x c',lk mi x=some c'->∃ y c,lk ρ x=some y/\mm y=some c/\gV ρ c c') (hρm:gc mi ρ) (hρn:aJ (ρ.map (·.2))=true)
 (hτ:ez mm τ) (hσ:gg τ ρ σ) (hσn:aJ (σ.map (·.2))=true) (hem:dD σ ρ mo em) (hall:bN em (ρ.map (·.2))) (hall2:bN em (τ.map (·.1)))
 (hres:Rn σ res res') (hd:Nat.blt d X.N=true) :
 ax X st mm ⟨some d,.call { callee:=.invoke r nm,args:=⟨args⟩,argTypes:=argTypes },ty,pos,af,none⟩ [(d,res')] em:=by
 refine lj ρ τ σ hf rfl (λfn hfn hname hbody a w γ hi=>?_) hmi hρm hρn hτ hσ hσn hem hall hall2 hres hd;obtain⟨u,hu,hu2⟩:=hr.val hi;refine⟨#[u]++(args.map a.eval).toArray,?_,fun γc S hgc hSc=>?_⟩;have e1:fn.body.isNone=false:=oo
 have e2:¬ fn.name= "runtime.NumGoroutine":=ol
 have hm':(method (X.P.types.size+Made.depth) T u nm).run X.P w=.ok (f,u) w:=Jfv (k:=X.P.types.size+(Made.depth - 1)) hm;simp only[execOp,resolve];simp[invoke,callMethod,hu,hm',callFunc,hfn,e2];grind[List.take_of_length_le];simp only[Array.toList_append,yr,xi,Ly.vals];refine⟨u,_,rfl,Ly.val_mono (Kp.refl _ _) ol (Ng.refl _) _ _ ((hr1 w _ γ γc hgc).2 _ hu2),by grind[tG]⟩
end call
theorem Dh{st:Nat->Option Ly}{v:Value}:ac st (.const v) .any:=λ_ _ _=>trivial
theorem pK{a b k:Nat}(d:a=k)(e:b=k):a=b:=om
theorem bO{R τ:Type}{X:Cx}{l m}{k:τ->Option R}{t:τ}{G:R->Act->World->Prop}(h:Sq X l m (k t) G):Sq X l m (aS k (.go t)) G:=h
def cpE(b:Bool):CP where
 p:=λ_ _ v=>(b=false/\v=.nilIface)\/(b=true/\∃ t u,v=.iface t u)
 one:=by rintro _ _ v (⟨_,rfl⟩ | ⟨_,t,u,rfl⟩)<;>rfl
 mono:=ol
def NK(b:Bool):Ly:=.cell (cpE b)
theorem Jm9{b}:IF (NK b):=nu _
section aG
variable {X:Cx}{st:Nat->Option Ly}{mm:Nat->Option Ct}
theorem Jna{P:Program}{T:TypeId}{e:Array (String×TypeId)}(a:P.underlying T=some (.interface e))(w:World):(Op.equal T .nilIface .nilIface).run P w=.ok true w:=by
 have h:∀ d:Nat,(Op.equalIn (d+1) T .nilIface .nilIface).run P w=.ok true w:=λd=>by simp[Op.equalIn,run_underlying a]
 exact h 9999
theorem Jk4{P:Program}{T:TypeId}{e:Array (String×TypeId)}(a:P.underlying T=some (.interface e))(t:TypeId)(u:Value)(w:World):(Op.equal T (.iface t u) .nilIface).run P w=.ok false w:=by
 have h:∀ d:Nat,(Op.equalIn (d+1) T (.iface t u) .nilIface).run P w=.ok false w:=λd=>by simp[Op.equalIn,run_underlying a]
 exact h 9999
end aG
theorem xY{P:Program}{f:Nat}{args:List Ly}{res:Ly}(hf:∃ fn,P.funcs[f]?=some fn∧(fn.name == "runtime.NumGoroutine")=false∧fn.body.isSome=true)
 (h:∀ w S γ (vs:Array Value),(∀ b,S b->b<w.heap.size)->GF w->Ly.vals w S γ args vs.toList->Calls P f vs w λe w'=>∃ v,e=.returned v/\Below w.heap.size w w'/\res.val w' S γ v):bo P f args [] res []:=by
 refine⟨hf,λw S0 γ vs h1 h2 h3 h4 h5 h6 h7=>(h w (Sx S0 γ []) γ vs (λb hb=>hb.elim (h1 b) ol) h7.2 h6).mono ?_⟩;rintro e w' ⟨v,rfl,hb,hv⟩;exact⟨v,γ,rfl,⟨hb.os,hb.tape,hb.output,hb.size,λb hb' _=>hb.block b hb',Ng.refl _,h2,(λ_ _ h=>by cases h),om,(λb ⟨_,_,_,h,_⟩=>by cases h),hv⟩⟩
theorem Jk5{w:World}{S:Nat->Prop}{γ:Nm}{E:TypeId}{ws:List Be}(g:∀ b,S b->b<w.heap.size)(e:∀ x∈ws,x.length<=maxLen)(f:ws.length<=maxLen):
 (bA 1 (ws.map am)).val (w.alloc (.cells ((ws.map λl=>Value.string ⟨l.toArray⟩).toArray) E)) S γ (.slice (some ⟨w.heap.size,0,none⟩) ws.length ws.length):=by
 have d:∀(l:List Be) (w:World) (S:Nat->Prop),(∀ x∈l,x.length<=maxLen)->Ly.holds w S (λ_=>none) (l.map am) (l.map λl=>Value.string ⟨l.toArray⟩):=by
  intro l
  induction l with
  | nil=>intro w S _;rfl
  | cons x l i=>intro w S h;exact⟨[_],_,rfl,⟨_,rfl,rfl,h x (.head _)⟩,ol⟩
 refine .inr (.inl ⟨w.heap.size,0,ws.length,ws.map λl=>Value.string ⟨l.toArray⟩,oh,oh,f,oh,ol,?_,d _ _ _ e,?_⟩);simp;intro ly a;obtain⟨x,_,rfl⟩:=xv.1 a;rfl
theorem Di{σ:List (Nat×Nat)}{γ γ':Nm}(a:∀ y x,lk σ y=some x->γ' y=γ x):∀ {l l':Bf}{us:List Value},l.map some=l'.map (lk σ)->gb γ l us->gb γ' l' us
 | [],[],[],_,_=>trivial
 | [],[],_::_,_,h=>h.elim
 | x::l,y::l',[],_,h=>h.elim
 | x::l,y::l',v::us,e,h=>by simp only[xt,List.cons.injEq] at e;exact⟨by rw[a y x e.1.symm];exact h.1,h.2.1,Di a e.2 h.2.2⟩
 | [],_::_,_,e,_=>by simp at e
 | _::_,[],_,e,_=>by simp at e
theorem xZ{σ f l l'}(h:l.map some=l'.map (lk σ)):Rn σ (.clo f l) (.clo f l'):=λw S γ γ' d=>
 ⟨λcs g=>by
  simp only[Ly.hold] at g |-;obtain⟨v,rfl,us,g1,a⟩:=g;exact⟨v,rfl,us,g1,Di d h a⟩,λv g=>by
  simp only[Ly.val] at g |-;obtain⟨us,g1,a⟩:=g
  exact⟨us,g1,Di d h a⟩⟩
theorem x6{σ f l l'}(h:kl σ l l'):Rn σ (.bnd f l) (.bnd f l'):=λw S γ γ' d=>
 ⟨by grind[Ly.hold],λv g=>by
  simp only[Ly.val] at g |-;obtain⟨us,g1,a⟩:=g
  exact⟨us,g1,(h w S γ γ' d).2 _ a⟩⟩
theorem NL{w S}{γ:Nm}:∀ {l:Bf}{us:List Value},gb γ l us->Ly.vals w S γ (l.map .own) us
 | [],[],_=>oe
 | x::l,v::us,h=>by simp only[xt,Ly.vals,Ly.val];exact⟨_,_,rfl,⟨h.1,h.2.1⟩,NL h.2.2⟩
 | [],_::_,h=>h.elim
 | _::_,[],h=>h.elim
theorem HZ{w S γ}:∀ {e f:List Ly}{g v2:List Value},Ly.vals w S γ e g->Ly.vals w S γ f v2->Ly.vals w S γ (e++f) (g++v2)
 | [],_,_,_,a,d=>by grind[Ly.vals]
 | x::l,_,_,_,a,d=>by simp only[Ly.vals] at a;obtain⟨v,r,rfl,g1,i⟩:=a;simp only[yr,Ly.vals];exact⟨v,_,rfl,g1,HZ i d⟩
theorem WG{st:Nat->Option Ly}{f:Nat}:ac st (.func f) (.clo f []):=λ_ _ _=>by simp only[Ly.val];exact⟨[],rfl,trivial⟩
section aG
variable {X:Cx}{st:Nat->Option Ly}{mm:Nat->Option Ct}
def tX(st:Nat->Option Ly):List Operand->Bf->Prop
 | [],[]=>True
 | x::xs,id::a=>ac st x (.own id)/\tX st xs a
 | _,_=>False
theorem WH{a w γ}(hi:bq X st mm a w γ):∀ {xs:List Operand}{d:Bf},tX st xs d->gb γ d (xs.map a.eval)
 | [],[],_=>trivial
 | x::xs,id::d,h=>by have:=h.1.val hi;simp only[Ly.val] at this;exact⟨this.1,this.2,WH hi h.2⟩
 | [],_::_,h=>h.elim
 | _::_,[],h=>h.elim
theorem mkC{d f caps ty pos af}{l:Bf}(e:tX st caps l)(hd:Nat.blt d X.N=true):ax X st mm ⟨some d,.makeFunc (.func f) #[] ⟨caps⟩,ty,pos,af,none⟩ [(d,.clo f l)] []:=
 Wv hd λa w γ hi=>⟨.func (.func f) #[] (caps.map a.eval).toArray,by simp[execOp,Instr.makeFunc],by simp only[Ly.val];exact⟨_,rfl,WH hi e⟩⟩
theorem lu{caps lc:Bf}{d x f args argTypes ty pos af la largs mi res mo res' em}(ρ τ σ:List (Nat×Nat))(hx:ac st x (.clo f caps))(hf:bo X.P f largs mi res mo)(hl:largs=la++lc.map .own)(hc:caps.map some=lc.map (lk ρ))
 (ha:dY st ρ args la) (hmi:∀ x c',lk mi x=some c'->∃ y c,lk ρ x=some y/\mm y=some c/\gV ρ c c') (hρm:gc mi ρ) (hρn:aJ (ρ.map (·.2))=true)
 (hτ:ez mm τ) (hσ:gg τ ρ σ) (hσn:aJ (σ.map (·.2))=true) (hem:dD σ ρ mo em) (hall:bN em (ρ.map (·.2))) (hall2:bN em (τ.map (·.1)))
 (hres:Rn σ res res') (hd:Nat.blt d X.N=true) :
 ax X st mm ⟨some d,.call { callee:=.value x,args:=⟨args⟩,argTypes:=argTypes },ty,pos,af,none⟩ [(d,res')] em:=by
 refine lj ρ τ σ hf rfl (λfn hfn hname hbody a w γ hi=>?_) hmi hρm hρn hτ hσ hσn hem hall hall2 hres hd;have hv:=hx.val hi;simp only[Ly.val] at hv;obtain⟨us,hu,hu2⟩:=hv;refine⟨(args.map a.eval).toArray++us.toArray,?_,fun γc S hgc hSc=>?_⟩;have e1:fn.body.isNone=false:=oo
 have e2:¬ fn.name= "runtime.NumGoroutine":=ol
 simp only[execOp,resolve,hu];simp[Deferred.ofValue,invoke,callFunc,hfn,e2];grind;grind[HZ,tG,NL,Di]
def nG(st:Nat->Option Ly):List Operand->List Ly->Prop
 | [],[]=>True
 | x::xs,ly::a=>ac st x ly/\nG st xs a
 | _,_=>False
theorem WI{a w γ}(hi:bq X st mm a w γ):∀ {xs:List Operand}{d:List Ly},nG st xs d->Ly.vals w (X.S γ mm) γ d (xs.map a.eval)
 | [],[],_=>oe
 | x::xs,ly::d,h=>by simp only[xt,Ly.vals];exact⟨_,_,rfl,h.1.val hi,WI hi h.2⟩
 | [],_::_,h=>h.elim
 | _::_,[],h=>h.elim
theorem WJ{d f bs ty pos af}{l:List Ly}(e:nG st bs l)(hd:Nat.blt d X.N=true):ax X st mm ⟨some d,.makeFunc (.func f) ⟨bs⟩ #[],ty,pos,af,none⟩ [(d,.bnd f l)] []:=
 Wv hd λa w γ hi=>⟨.func (.func f) (bs.map a.eval).toArray #[],by simp[execOp,Instr.makeFunc],by simp only[Ly.val];exact⟨_,rfl,WI hi e⟩⟩
theorem lv{d x f bs lb args argTypes ty pos af la largs mi res mo res' em}(ρ τ σ:List (Nat×Nat))(hx:ac st x (.bnd f bs))(hf:bo X.P f largs mi res mo)(hl:largs=lb++la)(hc:kl ρ bs lb)
 (ha:dY st ρ args la) (hmi:∀ x c',lk mi x=some c'->∃ y c,lk ρ x=some y/\mm y=some c/\gV ρ c c') (hρm:gc mi ρ) (hρn:aJ (ρ.map (·.2))=true)
 (hτ:ez mm τ) (hσ:gg τ ρ σ) (hσn:aJ (σ.map (·.2))=true) (hem:dD σ ρ mo em) (hall:bN em (ρ.map (·.2))) (hall2:bN em (τ.map (·.1)))
 (hres:Rn σ res res') (hd:Nat.blt d X.N=true) :
 ax X st mm ⟨some d,.call { callee:=.value x,args:=⟨args⟩,argTypes:=argTypes },ty,pos,af,none⟩ [(d,res')] em:=by
 refine lj ρ τ σ hf rfl (λfn hfn hname hbody a w γ hi=>?_) hmi hρm hρn hτ hσ hσn hem hall hall2 hres hd;have hv:=hx.val hi;simp only[Ly.val] at hv;obtain⟨us,hu,hu2⟩:=hv;refine⟨us.toArray++(args.map a.eval).toArray,?_,fun γc S hgc hSc=>?_⟩;have e1:fn.body.isNone=false:=oo
 have e2:¬ fn.name= "runtime.NumGoroutine":=ol
 simp only[execOp,resolve,hu];simp[Deferred.ofValue,invoke,callFunc,hfn,e2];grind;rw[hl];simp only[Array.toList_append];exact HZ (((hc w _ γ γc hgc).2 _ hu2) |> Ly.vals_mono (Kp.refl _ _) ol (Ng.refl _) _ _) (by grind[tG])
end aG
def dU{κ α:Type}(e:κ->κ->Bool):List (κ×α)->κ->Option α
 | [],_=>none
 | (k,x)::r,p=>bif e p k then some x else dU e r p
end Go.Proofs.YthdbapalogijdaaGreatDoor
