import Derived.Laws.BytesString
import Derived.Laws.BytesArg
import Derived.Lib.ConvBytes
import Derived.Laws.RangeString
import Derived.Lib.AppendStr
import Derived.Lib.Builder
import Derived.Lib.UnsafeStr
import Derived.Scope
import Derived.Test.YtjmfkenegjhohaaGreatDoorSA
namespace Go.Proofs.YtjmfkenegjhohaaGreatDoor
open Go Go.RowKit
section cur
variable {α:Type}
def cur(base:Nat->Option α):List (List (Nat×α))->Nat->(Nat->Bool)->Nat->Option α
 | [],_,_=>base
 | e::a,i,L=>cur (if L i then up base e else base) a (i+1) L
def wr(e:List (Nat×α))(r:Nat):Bool:=(lk e r).isSome
theorem up_nw{st:Nat->Option α}{e r}(h:wr e r=false):up st e r=st r:=by
 unfold wr at h;unfold up;cases a:lk e r with
 | none=>rfl
 | some x=>rw[a] at h;cases h
theorem up_w{st a:Nat->Option α}{e r}(h:wr e r=true):up st e r=up a e r:=by
 unfold wr at h;unfold up;cases d:lk e r with
 | none=>rw[d] at h;cases h
 | some x=>rfl
theorem Q3z{L:Nat->Bool}{r:Nat}:∀(d:List (List (Nat×α))) (b a:Nat->Option α) (i:Nat),b r=a r->cur b d i L r=cur a d i L r
 | [],b,a,i,h=>h
 | e::d,b,a,i,h=>by
   simp only[cur];apply Q3z d;cases L i
   simpa using h
   simp only[ya];cases f:wr e r;rw[up_nw f,up_nw f,h];exact up_w f
theorem Q9t{L:Nat->Bool}{r:Nat}:∀(a:List (List (Nat×α))) (b:Nat->Option α) (i:Nat),(∀ k e,a[k]?=some e->wr e r=true->L (i+k)=false)->cur b a i L r=b r
 | [],b,i,_=>rfl
 | e::a,b,i,h=>by simp only[cur];rw[Q9t a _ (i+1) (λk f hk d=>by have:=h (k+1) f (by simpa using hk) d;rw[show i+1+k=i+(k+1) by omega];exact this)];cases g:L i;rfl;simp only[ya];cases d:wr e r;exact up_nw d;have:=h 0 e rfl d;rw[xp,g] at this;cases this
theorem cur_L{r:Nat}:∀(a:List (List (Nat×α))) (b:Nat->Option α) (i:Nat) (L L':Nat->Bool),(∀ k e,a[k]?=some e->wr e r=true->L (i+k)=L' (i+k))->cur b a i L r=cur b a i L' r
 | [],b,i,L,L',_=>rfl
 | e::a,b,i,L,L',h=>by simp only[cur];rw[cur_L a _ (i+1) L L' (λk f hk d=>by have:=h (k+1) f (by simpa using hk) d;rw[show i+1+k=i+(k+1) by omega];exact this)];apply Q3z;cases d:wr e r;cases L i<;>cases L' i<;>simp[up_nw d];have:=h 0 e rfl d;rw[xp] at this;rw[this]
theorem Q5s{r:Nat}:∀(a:List (List (Nat×α))) (b:Nat->Option α) (i j:Nat) (L L':Nat->Bool) (g:List (Nat×α)),a[j]?=some g->L' (i+j)=true->(∀ k,k≠i+j->L' k=L k)->L (i+j)=false ->
 (∀ k e,a[k]?=some e->j<k->wr g r=true->wr e r=true->L (i+k)=false)->cur b a i L' r=up (cur b a i L) g r
 | [],_,_,j,_,_,_,h,_,_,_,_=>by simp at h
 | e::a,b,i,0,L,L',g,h,p,q,s,u=>by
   simp at h;subst h;simp only[xp] at p s;simp only[cur,p,s,ya];have w:∀ d,cur d a (i+1) L' r=cur d a (i+1) L r:=λd=>cur_L a d (i+1) L' L (λk _ _ _=>q _ om);rw[w];cases n:wr e r;rw[up_nw n];exact Q3z a _ _ _ (up_nw n)
   have hn:∀ d,cur d a (i+1) L r=d r:=λd=>Q9t a d (i+1) (λk t hk f=>by
    have:=u (k+1) t (by simpa using hk) om n f
    rw[show i+1+k=i+(k+1) by omega];exact this)
   rw[hn];exact up_w n
 | e::a,b,i,j+1,L,L',g,h,p,q,s,u=>by
   simp only[cur];have v:L' i=L i:=q i om;rw[v]
   exact Q5s a _ (i+1) j L L' g (by simpa using h) (by rw[show i+1+j=i+(j+1) by omega];exact p) (λk hk=>q k om) (by rw[show i+1+j=i+(j+1) by omega];exact s)
    (λk t hk x n f=>by have:=u (k+1) t (by simpa using hk) om n f;rw[show i+1+k=i+(k+1) by omega];exact this)
theorem Q2k{r:Nat}(L:Nat->Bool):∀(a:List (List (Nat×α))) (b:Nat->Option α) (i j:Nat),(∀ k e,a[k]?=some e->wr e r=true->k<j->L (i+k)=true)->(∀ k e,a[k]?=some e->wr e r=true->j<=k->L (i+k)=false) ->
 cur b a i L r=cur b (a.take j) i (λ_=>true) r
 | [],b,i,j,_,_=>by simp[cur]
 | e::a,b,i,0,g,n=>by simp only[gg];rw[Q9t (e::a) b i (λk f hk d=>n k f hk d (yb _))];rfl
 | e::a,b,i,j+1,g,n=>by
   simp only[vp,cur,ya]
   rw[Q2k L a _ (i+1) j (λk f hk d s=>by have:=g (k+1) f (by simpa using hk) d om;rw[show i+1+k=i+(k+1) by omega];exact this)
    (λk f hk d q=>by have:=n (k+1) f (by simpa using hk) d om;rw[show i+1+k=i+(k+1) by omega];exact this)]
   apply Q3z;cases p:L i;cases d:wr e r;simp[up_nw d];have:=g 0 e rfl d om;rw[xp,p] at this;cases this;simp
end cur
structure D where
 rs:List Nat
 ri:List Nat
 el:List (Nat×Ly)
 em:List (Nat×Ct)
def Ag{α:Type}(st a:Nat->Option α):List Nat->Prop
 | []=>True
 | d::r=>st d=a d/\Ag st a r
theorem Ag.of{α:Type}{st a:Nat->Option α}:∀ {l:List Nat},(∀ d∈l,st d=a d)->Ag st a l
 | [],_=>trivial
 | d::_,h=>⟨h d vf,Ag.of (λx e=>h x (vz _ e))⟩
def OpG(X:Cx)(ops:Array Oper)(st:Nat->Option Ly)(mm:Nat->Option Ct)(o:Oper)(el:List (Nat×Ly))(em:List (Nat×Ct)):Prop:=
 ∀ a w γ K Q,Inv X st mm a w γ->(∀ d w' γ',Inv X (up st el) (up mm em) d w' γ'->K d w')->if Region.wanted o (yielded ops a.tmps) then o.wp X.P a w K Q else K (a.put o.dst undef) w
def Qoo(X:Cx)(ops:Array Oper):List (Nat×Ly)->List (Nat×Ct)->List Oper->List D->Prop
 | _,_,[],[]=>True
 | l,m,o::os,d::ds=>(∀ st mm,Ag st (lk l) d.rs->Ag mm (lk m) d.ri->OpG X ops st mm o d.el d.em)/\Qoo X ops (d.el++l) (d.em++m) os ds
 | _,_,_,_=>False
def prs(o:Oper):List Nat:=(o.after.toList.filter (Region.binds .any)).map (·.on)
def anyB(l:List Nat)(j:Nat):Bool:=l.any (Nat.beq j)
def wrAny{α:Type}(l:List (Nat×α))(rs:List Nat):Bool:=rs.any λr=>wr l r
def cf(d a:D):Bool:=wrAny d.el a.rs || wrAny a.el d.rs || wrAny d.el (a.el.map (·.1)) || wrAny d.em a.ri || wrAny a.em d.ri || wrAny d.em (a.em.map (·.1))
def rowOk(d:List Nat)(a:D):Nat->List D->Bool
 | _,[]=>true
 | j,e::ds=>(!(cf e a) || anyB d j) && rowOk d a (j+1) ds
def far(a:List (List Nat))(o:Oper):List Nat:=prs o++(prs o).flatMap (λp=>a.getD p [])
def drawOk:List Oper->List D->Nat->List D->List (List Nat)->Bool
 | [],[],_,_,_=>true
 | o::os,d::ds,i,before,a=>(prs o).all (λp=>Nat.blt p i) && rowOk (far a o) d 0 before && drawOk os ds (i+1) (before++[d]) (a++[far a o])
 | _,_,_,_,_=>false
inductive Anc (ls:List Oper):Nat->Nat->Prop
 | one {j i o}:ls[i]?=some o->j∈prs o->Anc ls j i
 | far {j p i o}:ls[i]?=some o->p∈prs o->Anc ls j p->Anc ls j i
theorem Anc.listed{ls:List Oper}{listed:Array Bool}(a:∀ i o,ls[i]?=some o->listed.getD i false=true->∀ p∈prs o,listed.getD p false=true){j i:Nat}(h:Anc ls j i):listed.getD i false=true->listed.getD j false=true:=by
 induction h with
 | one d e=>intro h;exact a _ _ d h _ e
 | far d e _ f=>intro h;exact f (a _ _ d h _ e)
theorem Jie{l:List Nat}{j:Nat}(h:anyB l j=true):j∈l:=by unfold anyB at h;obtain⟨x,d,a⟩:=wu.1 h;rw[xx a];exact d
theorem Qkh{α:Type}{l:List (Nat×α)}{rs:List Nat}(h:wrAny l rs=false):∀ r∈rs,wr l r=false:=by intro r hr;unfold wrAny at h;cases a:wr l r;rfl;have:(rs.any λr=>wr l r)=true:=wu.2 ⟨r,hr,a⟩;rw[this] at h;cases h
theorem Jjs{α:Type}:∀ {l:List (Nat×α)}{r x},lk l r=some x->(r,x)∈l:=by
        intro l
        induction l with
        | nil=>intro r x h;cases h
        | cons e l a=>
          obtain⟨i,y⟩:=e;intro r x h;simp only[lk] at h;cases hb:Nat.beq i r;rw[hb] at h;exact vz _ (a h);rw[hb] at h;simp at h;subst h;rw[xx hb];exact vf
theorem Jfw{α:Type}{l:List (Nat×α)}{r:Nat}(h:wr l r=true):r∈l.map (·.1):=by
 unfold wr at h;cases a:lk l r with
 | none=>rw[a] at h;cases h
 | some x=>exact xy.2 ⟨(r,x),Jjs a,rfl⟩
structure Q7p(ops:List Oper)(ds:List D):Prop where
 len:ops.length=ds.length
 back:∀ i o,ops[i]?=some o->∀ p∈prs o,p<i
 pair:∀(i j:Nat) o di dj,ops[i]?=some o->ds[i]?=some di->ds[j]?=some dj->j<i->Anc ops j i\/cf dj di=false
theorem Q7q{g f}:∀ {ds:List D}{e:Nat},rowOk g f e ds=true->∀ j a,ds[j]?=some a->e+j∈g\/cf a f=false
 | [],_,_,j,a,h=>by simp at h
 | d::ds,e,hr,0,a,h=>by simp only[rowOk,ug,Bool.or_eq_true,gk] at hr;simp at h;subst h;exact orM hr.1.symm (λh=>Jie h) (λh=>h)
 | d::ds,e,hr,j+1,a,h=>by simp only[rowOk,ug] at hr;have:=Q7q hr.2 j a (by simpa using h);rw[show e+(j+1)=e+1+j by omega];exact this
theorem Jjt{ls:List Oper}{d:List (List Nat)}(e:∀ k l,d[k]?=some l->∀ j∈l,Anc ls j k){i o}(g:ls[i]?=some o):∀ j∈far d o,Anc ls j i:=by
 intro j n;rcases yr.1 n with h | h;exact .one g h;obtain⟨p,hp,a⟩:=List.mem_flatMap.1 h;rw[ou] at a;cases f:d[p]? with
 | none=>rw[f] at a;simp at a
 | some l=>rw[f] at a;exact .far g hp (e p l f j a)
theorem Qy4{ls:List Oper}:∀(ops:List Oper) (ds:List D) (i:Nat) (before:List D) (a:List (List Nat)),before.length=i->a.length=i->(∀ k o,ops[k]?=some o->ls[i+k]?=some o)->(∀ k l,a[k]?=some l->∀ j∈l,Anc ls j k)->drawOk ops ds i before a=true ->
 ops.length=ds.length/\(∀ k o,ops[k]?=some o->∀ p∈prs o,p<i+k)/\(∀(k j:Nat) o q n,ops[k]?=some o->ds[k]?=some q->(before++ds)[j]?=some n->j<i+k->Anc ls j (i+k)\/cf n q=false)
 | [],[],i,before,a,_,_,_,_,_=>⟨rfl,λk o h=>by simp at h,λk j o q n h=>by simp at h⟩
 | o::os,d::ds,i,before,a,hb,u,s,r,h=>by
   simp only[drawOk,ug] at h;obtain⟨⟨w,x⟩,y⟩:=h;have B:ls[i]?=some o:=by have:=s 0 o rfl;simpa using this
   have e:=Jjt r B
   obtain⟨g1,v,g3⟩:=Qy4 os ds (i+1) (before++[d]) (a++[far a o]) (by simp[hb]) (by simp[u])
    (λk t hk=>by rw[show i+1+k=i+(k+1) by omega];exact s (k+1) t (by simpa using hk))
    (λk l hk=>by
     rcases xt k a.length with h | h;rw[yp h] at hk;exact r k l hk;rw[yg h] at hk;have:k=i:=by rcases jv h with h | h;omega;rw[xz oh] at hk;cases hk
     subst this;rw[u,gc] at hk
     simp at hk;subst hk;exact e) y
   refine⟨by simp[g1],λk t hk p hp=>?_,λk j t q n hk f g A=>?_⟩;cases k with
   | zero=>simp at hk;subst hk;have:=jr.1 w p hp;simpa using this
   | succ k=>have:=v k t (by simpa using hk) p hp;omega
   cases k with
   | zero=>
     simp at hk f;subst hk;subst f;have:=Q7q x j n (by rw[yp om] at g;exact g);rw[xg] at this;exact orM this (λh=>e j h) (λh=>h)
   | succ k=>
     have:=g3 k j t q n (by simpa using hk) (by simpa using f) (by simpa using g) om;rw[show i+1+k=i+(k+1) by omega] at this;exact this
 | [],_::_,_,_,_,_,_,_,_,h=>by simp[drawOk] at h
 | _::_,[],_,_,_,_,_,_,_,h=>by simp[drawOk] at h
theorem Q7r{X:Cx}{ops:Array Oper}:∀ {os:List Oper}{ds:List D}{l m},Qoo X ops l m os ds->∀ j o d,os[j]?=some o->ds[j]?=some d ->
 ∀ st mm,Ag st (cur (lk l) ((ds.map (·.el)).take j) 0 (λ_=>true)) d.rs->Ag mm (cur (lk m) ((ds.map (·.em)).take j) 0 (λ_=>true)) d.ri->OpG X ops st mm o d.el d.em
 | [],[],_,_,_,j,o,d,h,_=>by simp at h
 | o::os,d::ds,l,m,hs,0,r,q,f,g=>by simp at f g;subst f;subst g;intro st mm k n;exact hs.1 st mm (by simpa [cur] using k) (by simpa [cur] using n)
 | o::os,d::ds,l,m,hs,j+1,r,q,f,g=>by
   intro st mm k n;have shift:∀ {α:Type}(a:List (List (Nat×α))) (b:Nat->Option α) (i p:Nat),cur b a i (λ_=>true)=cur b a p (λ_=>true):=by
    intro α a
    induction a with
    | nil=>intro b i p;rfl
    | cons e a s=>intro b i p;simp only[cur,ya];exact s _ _ _
   refine Q7r hs.2 j r q (by simpa using f) (by simpa using g) st mm ?_ ?_;simp only[yz,vp,cur,ya,up_lk] at k;rw[shift _ _ 0 (0+1)];exact k;simp only[yz,vp,cur,ya,up_lk] at n;rw[shift _ _ 0 (0+1)];exact n
 | [],_::_,_,_,h,_,_,_,_,_=>h.elim
 | _::_,[],_,_,h,_,_,_,_,_=>h.elim
def fin{α:Type}:List (List (Nat×α))->List (Nat×α)->List (Nat×α)
 | [],l=>l
 | e::a,l=>fin a (e++l)
theorem Q5t{α:Type}:∀(a:List (List (Nat×α))) (l:List (Nat×α)) (i:Nat) (L:Nat->Bool),(∀ k,k<a.length->L (i+k)=true)->cur (lk l) a i L=lk (fin a l)
 | [],l,_,_,_=>rfl
 | e::a,l,i,L,h=>by simp only[cur,fin];have h0:=h 0 oc;rw[xp] at h0;simp only[h0,ya];rw[up_lk,Q5t a _ (i+1) L (λk hk=>by rw[show i+1+k=i+(k+1) by omega];exact h (k+1) (by simpa using hk))]
theorem Jef{X:Cx}{ls:List Oper}{ds:List D}{l m}(O:Q7p ls ds)(hS:Qoo X ⟨ls⟩ l m ls ds){Q:Exit->Act->World->Prop}
 (hQ:∀ a w γ,Inv X (lk (fin (ds.map (·.el)) l)) (lk (fin (ds.map (·.em)) m)) a w γ->Q .normal a w) :
 ∀(fuel:Nat) (listed:Array Bool) (a:Act) (w:World) (γ:Nm),listed.size=ls.length->(listed.toList.filter (!·)).length<=fuel->(∀ i o,ls[i]?=some o->listed.getD i true=true->∀ p∈prs o,listed.getD p false=true) ->
  Inv X (cur (lk l) (ds.map (·.el)) 0 (λi=>listed.getD i false)) (cur (lk m) (ds.map (·.em)) 0 (λi=>listed.getD i false)) a w γ ->
  wpAny X.P .any ⟨ls⟩ Q fuel listed a w:=by
 have all_listed:∀(listed:Array Bool),listed.size=ls.length->Region.ready .any ⟨ls⟩ listed=[]->∀ i,i<ls.length->listed.getD i false=true:=by
  intro listed y hr i
  induction i using Nat.strongRecOn with
  | _ i Z=>
    intro hi;cases B:listed.getD i false with
    | true=>rfl
    | false=>
      exfalso;have v:i∈Region.ready .any ⟨ls⟩ listed:=by
       rw[mem_ready];refine⟨?_,ls[i],by simp[hi],λe he hb=>?_⟩
       . have s:i<listed.size:=om
         simp only[wk,vr s,ut] at B |-;exact B
       . have hp:e.on∈prs ls[i]:=xy.2 ⟨e,gp.2 ⟨by simpa using he,hb⟩,rfl⟩
         have n:=O.back i ls[i] (by simp[hi]) e.on hp;exact Z e.on n om
      rw[hr] at v;cases v
 have done:∀(listed:Array Bool) (a:Act) (w:World) (γ:Nm),listed.size=ls.length->Region.ready .any ⟨ls⟩ listed=[]->Inv X (cur (lk l) (ds.map (·.el)) 0 (λi=>listed.getD i false)) (cur (lk m) (ds.map (·.em)) 0 (λi=>listed.getD i false)) a w γ->Q .normal a w:=by intro listed a w γ y hr hi;have h:=all_listed listed y hr;have hlen:=O.len;rw[Q5t _ l 0 _ (λk hk=>by rw[xg];exact h k (by simp at hk;omega)),Q5t _ m 0 _ (λk hk=>by rw[xg];exact h k (by simp at hk;omega))] at hi;exact hQ a w γ hi
 intro fuel
 induction fuel with
 | zero=>
   intro listed a w γ y hc E hi;have hr:Region.ready .any ⟨ls⟩ listed=[]:=by
    cases hrd:Region.ready .any ⟨ls⟩ listed with
    | nil=>rfl
    | cons i r=>
      exfalso;have v:i∈Region.ready .any ⟨ls⟩ listed:=by rw[hrd];exact vf
      rw[mem_ready] at v;obtain⟨h1,_⟩:=v;have s:i<listed.size:=by
       rcases xt i listed.size with h | h
       . exact h
       . simp[uy h] at h1
      have:false∈listed.toList.filter (!·):=gp.2 ⟨by
       have:=Array.getElem_mem s;simp only[wk,vr s,ut] at h1
       rw[h1] at this;simpa using this,rfl⟩
      have W:listed.toList.filter (!·)=[]:=xd om;rw[W] at this;cases this
   exact⟨hr,done listed a w γ y hr hi⟩
 | succ fuel Z=>
   intro listed a w γ y hc E hi;refine⟨λhr=>done listed a w γ y hr hi,λj hj=>?_⟩;rw[mem_ready] at hj;obtain⟨V,o,ho,Y⟩:=hj;have A:ls[j]?=some o:=by simpa using ho
   have hjl:j<ls.length:=by
    rcases xt j ls.length with h | h
    . exact h
    . simp[xz h] at A
   have F:j<listed.size:=om
   have u:listed.getD j false=false:=by simp only[wk,vr F,ut] at V |-;exact V
   obtain⟨d,hd⟩:∃ d,ds[j]?=some d:=⟨_,oi (by rw[<-O.len];exact hjl)⟩
   have C:∀ p∈prs o,listed.getD p false=true:=by intro p hp;obtain⟨e,he,rfl⟩:=xy.1 hp;obtain⟨he1,he2⟩:=gp.1 he;exact Y e (by simpa using he1) he2
   have H:∀ i o,ls[i]?=some o->listed.getD i false=true->∀ p∈prs o,listed.getD p false=true:=by
    intro k I hk B;refine E k I hk ?_;have:k<listed.size:=by
     rcases xt k listed.size with h | h
     . exact h
     . simp[uy h] at B
    simp only[wk,vr this,ut] at B |-;exact B
   have later:∀ k I,ls[k]?=some I->j∈prs I->listed.getD k false=false:=by
    intro k I hk hjp;cases B:listed.getD k false with
    | false=>rfl
    | true=>
      have hk':listed.getD k true=true:=by
       have:k<listed.size:=by
        rcases xt k listed.size with h | h
        . exact h
        . simp[uy h] at B
       simp only[wk,vr this,ut] at B |-;exact B
      have:=E k I hk hk' j hjp;rw[u] at this;cases this
   have prOk:∀ k f,ds[k]?=some f->k<j->listed.getD k false=true\/(wrAny f.el d.rs || wrAny d.el f.rs || wrAny f.el (d.el.map (·.1)) || wrAny f.em d.ri || wrAny d.em f.ri || wrAny f.em (d.em.map (·.1)))=false:=by
    intro k f hk n;rcases O.pair j k o d f A hd hk n with h | h
    . refine .inl ?_
      cases h with
      | one P e2=>rw[A] at P;cases P;exact C k e2
      | far P e2 e3=>rw[A] at P;cases P;exact e3.listed H (C _ e2)
    . exact .inr h
   have poOk:∀ k f,ds[k]?=some f->j<k->listed.getD k false=false\/(wrAny d.el f.rs || wrAny f.el d.rs || wrAny d.el (f.el.map (·.1)) || wrAny d.em f.ri || wrAny f.em d.ri || wrAny d.em (f.em.map (·.1)))=false:=by
    intro k f hk n;have hkl:k<ls.length:=by
     rw[O.len];rcases xt k ds.length with h | h
     . exact h
     . simp[xz h] at hk
    rcases O.pair k j ls[k] f d (by simp[hkl]) hk hd n with h | h
    . refine .inl ?_
      cases B:listed.getD k false with
      | false=>rfl
      | true=>have:=h.listed H B;rw[u] at this;cases this
    . exact .inr h
   have mapget:∀ {β:Type}(g:D->β) (k:Nat) (b:β),(ds.map g)[k]?=some b->∃ f,ds[k]?=some f/\g f=b:=by intro β g k b h;simp only[xr,Option.map_eq_some_iff] at h;exact h
   have hrs:Ag (cur (lk l) (ds.map (·.el)) 0 (λi=>listed.getD i false)) (cur (lk l) ((ds.map (·.el)).take j) 0 (λ_=>true)) d.rs:=Ag.of λr hr=>by
    refine Q2k _ _ _ 0 j (λk e hk t n=>?_) (λk e hk t M=>?_)
    . obtain⟨f,q,rfl⟩:=mapget _ k e hk
      rw[xg];rcases prOk k f q n with h | h
      . exact h
      . simp only[gh] at h
        have:=Qkh h.1.1.1.1.1 r hr;rw[this] at t;cases t
    . obtain⟨f,q,rfl⟩:=mapget _ k e hk
      rw[xg];rcases jv M with rfl | n
      . exact u
      . rcases poOk k f q n with h | h
        . exact h
        . simp only[gh] at h
          have:=Qkh h.1.1.1.1.2 r hr;rw[this] at t;cases t
   have hri:Ag (cur (lk m) (ds.map (·.em)) 0 (λi=>listed.getD i false)) (cur (lk m) ((ds.map (·.em)).take j) 0 (λ_=>true)) d.ri:=Ag.of λr hr=>by
    refine Q2k _ _ _ 0 j (λk e hk t n=>?_) (λk e hk t M=>?_)
    . obtain⟨f,q,rfl⟩:=mapget _ k e hk
      rw[xg];rcases prOk k f q n with h | h
      . exact h
      . simp only[gh] at h
        have:=Qkh h.1.1.2 r hr;rw[this] at t;cases t
    . obtain⟨f,q,rfl⟩:=mapget _ k e hk
      rw[xg];rcases jv M with rfl | n
      . exact u
      . rcases poOk k f q n with h | h
        . exact h
        . simp only[gh] at h
          have:=Qkh h.1.2 r hr;rw[this] at t;cases t
   have hop:=Q7r hS j o d A hd _ _ hrs hri;have x:∀ k,(listed.setIfInBounds j true).getD k false=if k=j then true else listed.getD k false:=by
    intro k;by_cases K:k=j
    . subst K;simp[F]
    . simp[K,wn (Ne.symm K)]
   have S:∀ i o,ls[i]?=some o->(listed.setIfInBounds j true).getD i true=true->∀ p∈prs o,(listed.setIfInBounds j true).getD p false=true:=by
    intro i I s hli p hp;rw[x];split
    . rfl
    . by_cases U:i=j
      . subst U;rw[A] at s;cases s;exact C p hp
      . refine E i I s ?_ p hp
        simpa [wn (Ne.symm U)] using hli
   have T:((listed.setIfInBounds j true).toList.filter (!·)).length<=fuel:=by
    rw[Array.toList_setIfInBounds];have key:∀(L:List Bool) (j:Nat),L[j]?=some false->((L.set j true).filter (!·)).length+1=(L.filter (!·)).length:=by
     intro L
     induction L with
     | nil=>intro j h;simp at h
     | cons b L Z=>
       intro j h;cases j with
       | zero=>simp at h;subst h;simp
       | succ j=>
         have:=Z j (by simpa using h);cases b<;>simp at this |-<;>omega
    have:=key listed.toList j (by
     rw[yf,vr F];simp only[wk,vr F,ut] at u
     rw[u])
    omega
   have hst:cur (lk l) (ds.map (·.el)) 0 (λi=>(listed.setIfInBounds j true).getD i false)=up (cur (lk l) (ds.map (·.el)) 0 (λi=>listed.getD i false)) d.el:=by
    funext r;refine Q5s _ _ 0 j _ _ d.el (by simp[hd]) (by rw[xg];simp[x]) (λk hk=>by rw[xg] at hk;simp[x,hk]) (by rw[xg];exact u) (λk e hk J t N=>?_);obtain⟨f,q,rfl⟩:=mapget _ k e hk;rw[xg];rcases poOk k f q J with h | h
    . exact h
    . simp only[gh] at h
      have:=Qkh h.1.1.1.2 r (Jfw N);rw[this] at t;cases t
   have hmt:cur (lk m) (ds.map (·.em)) 0 (λi=>(listed.setIfInBounds j true).getD i false)=up (cur (lk m) (ds.map (·.em)) 0 (λi=>listed.getD i false)) d.em:=by
    funext r;refine Q5s _ _ 0 j _ _ d.em (by simp[hd]) (by rw[xg];simp[x]) (λk hk=>by rw[xg] at hk;simp[x,hk]) (by rw[xg];exact u) (λk e hk J t N=>?_);obtain⟨f,q,rfl⟩:=mapget _ k e hk;rw[xg];rcases poOk k f q J with h | h
    . exact h
    . simp only[gh] at h
      have:=Qkh h.2 r (Jfw N);rw[this] at t;cases t
   have goon:∀ a' w' γ',Inv X (up (cur (lk l) (ds.map (·.el)) 0 (λi=>listed.getD i false)) d.el) (up (cur (lk m) (ds.map (·.em)) 0 (λi=>listed.getD i false)) d.em) a' w' γ'->wpAny X.P .any ⟨ls⟩ Q fuel (listed.setIfInBounds j true) a' w':=by intro a' w' γ' s;exact Z _ a' w' γ' (by simpa using y) T S (by rw[hst,hmt];exact s)
   have:=hop a w γ (wpAny X.P .any ⟨ls⟩ Q fuel (listed.setIfInBounds j true)) Q hi goon;unfold wpOp;rw[ho];split at this
   . rename_i t;simp only[t,ya];exact .inl this
   . rename_i t;simp only[t];exact this
theorem sdrawA{R:Type}{X:Cx}{l m}{md:Option R}{Q:R->Exit->Act->World->Prop}{ls:List Oper}(ds:List D)(E:drawOk ls ds 0 [] []=true)(F:Qoo X ⟨ls⟩ l m ls ds)
 (k:Sq X (fin (ds.map (·.el)) l) (fin (ds.map (·.em)) m) md (λr=>Q r .normal)):Sq X l m md (λr a w=>wpAny X.P .any ⟨ls⟩ (Q r) ls.length (Array.replicate ls.length false) a { w with drawn:=w.drawn+1 }):=by
 intro r a w γ hr hi;obtain⟨A,B,C⟩:=Qy4 (ls:=ls) ls ds 0 [] [] rfl rfl (λk o h=>by rw[xg];exact h) (λk l h=>by simp at h) E;have n:Q7p ls ds:=⟨A,λi o f p hp=>by have:=B i o f p hp;omega,λi j o v x f q s d=>by have:=C i j o v x f q (by simpa using s) om;rw[xg] at this;exact this⟩
 have t:Inv X (lk l) (lk m) a { w with drawn:=w.drawn+1 } γ:=hi.ext (w':={ w with drawn:=w.drawn+1 }) rfl rfl rfl ⟨xm _,λ_ _ _=>rfl⟩;refine Jef n F (λa w γ h=>k r a w γ hr h) _ _ a _ γ oc oc (λi o f H=>?_) ?_;have d:i<ls.length:=by rcases xt i ls.length with h | h;exact h;simp[xz h] at f
 simp[d] at H;have y:(λi=>(Array.replicate ls.length false).getD i false)=λ_=>false:=by funext i;by_cases h:i<ls.length<;>simp[h]
 have u:∀ {α:Type}(g:List (List (Nat×α))) (b:Nat->Option α) (i:Nat),cur b g i (λ_=>false)=b:=by
  intro α g
  induction g with
  | nil=>intro b i;rfl
  | cons e g I=>intro b i;simp[cur,I]
 show Inv X (cur _ _ 0 (λi=>(Array.replicate ls.length false).getD i false)) (cur _ _ 0 (λi=>(Array.replicate ls.length false).getD i false)) _ _ _;rw[y,u,u];exact t
section
variable {X:Cx}{st:Nat->Option Ly}{mm:Nat->Option Ct}{ops:Array Oper}
theorem og{d op ty pos after el em}(h:OpOk X st mm ⟨d,op,ty,pos,after,none⟩ el em):OpG X ops st mm ⟨d,op,ty,pos,after,none⟩ el em:=by intro a w γ K Q hi e;rw[oq (by simp[Region.wanted])];exact h a w γ K Q hi e
theorem ogG{d op ty pos after j b el em}(e:Nat)(g:((ops[j]?).bind (·.dst))=some e)(i:st e=some (bl b))(h:OpOk X st mm ⟨d,op,ty,pos,after,none⟩ el em):OpG X ops st mm ⟨d,op,ty,pos,after,some (j,b)⟩ el em:=by intro a w γ K Q hi f;rw[oq (by simp[Region.wanted,Qon hi g i])];exact h a w γ K Q hi f
theorem okb{o d b c em}(hb:b=c)(h:OpOk X st mm o [(d,bl b)] em):OpOk X st mm o [(d,bl c)] em:=hb ▸ h
end
section
variable {R:Type}{X:Cx}{l:List (Nat×Ly)}{m:List (Nat×Ct)}{md:Option R}{G:R->Act->World->Prop}
theorem sbn{α:Type}{F:α->Ly}{x:α}{k:α->Option R}(d:Nat)(hd:lk l d=some (F x))(h:∀ y,Sq X ((d,F y)::l) m (k y) G):Sq X l m ((some x).bind k) G:=by
 refine sent (λa w γ hi=>⟨γ,{ hi with sts:=λi ly h=>hi.sts i ly (by
  simp only[lk] at h;cases e:Nat.beq d i;rw[e] at h;exact h
  rw[e] at h;rw[<-xx e,hd];exact h) }⟩) (h x)
end
section ops
variable {X:Cx}{st:Nat->Option Ly}{mm:Nat->Option Ct}
theorem kLm{α:Type}(f:α->Ly){k}:OpdF st (.const (.slice none 0 0)) (sli k (List.map f [])):=λ_ _ _=>.inl ⟨rfl,rfl⟩
theorem stB2{x y T ty pos af i k f id E ly g ln ly2 off}(p:List Nat)(e:Ly.pu ln p ly=ly2)(q:mm id=some (.bx E ly))(n:Ly.go p ly=some (g,off))(j:Shp X.P T i k)(u:g.sz=k)(d:ln.sz=k)(a:ln.lies=true)
 (s:OpdF st x f) (r:OwnP mm f id off) (t:OpdF st y ln) :
 OpOk X st mm ⟨none,.store T x y,ty,pos,af,none⟩ [] [(id,.bx E ly2)]:=e ▸ stB p q n j u d a s r t
theorem Jdd{d o x y T f ty pos af p q b}(h:∀ w,(binOp o T (.bool p) (.bool q)).run X.P w=.ok (.bool b) w)(hd:Nat.blt d X.N=true)(g:OpdF st x (bl p))(i:OpdF st y (bl q)):
 OpOk X st mm ⟨some d,.binOp o T x y f,ty,pos,af,none⟩ [(d,bl b)] []:=
 Qmv hd g i λw S γ j k a e=>by simp only[bl,Ly.val,cpB] at a e;subst a;subst e;exact⟨_,λw=>by cases o<;>simp[eqGuard],h,by simp[bl,Ly.val,cpB]⟩
theorem eqB{d x y T a ty pos af p q}(e:X.P.underlying T=some .bool)(hd:Nat.blt d X.N=true)(f:OpdF st x (bl p))(g:OpdF st y (bl q)):
 OpOk X st mm ⟨some d,.binOp .eql T x y a,ty,pos,af,none⟩ [(d,bl (p == q))] []:=Jdd (λw=>by simp[binOp,run_equal_bool w T p q e]) hd f g
theorem neB{d x y T a ty pos af p q}(e:X.P.underlying T=some .bool)(hd:Nat.blt d X.N=true)(f:OpdF st x (bl p))(g:OpdF st y (bl q)):
 OpOk X st mm ⟨some d,.binOp .neq T x y a,ty,pos,af,none⟩ [(d,bl (p != q))] []:=Jdd (λw=>by simp[binOp,run_equal_bool w T p q e];cases p<;>cases q<;>rfl) hd f g
theorem nzI{q:Int}{u:Unit}(h:grd (q != 0)=some u):(q == 0)=false:=by have:=Qer h;simpa [bne] using this
theorem nzU{q:Nat}{u:Unit}(h:grd (q != 0)=some u):Nat.beq q 0=false:=by
 have:=Qer h;cases q with
 | zero=>exact absurd this oz
 | succ n=>rfl
theorem ge0{q:Int}{u:Unit}(h:grd (decide (0<=q))=some u):(decide (0<=q))=true:=Qer h
theorem shrI{d x y T i ty pos af p t}{q:Int}(n:(decide (0<=q))=true)(hd:Nat.blt d X.N=true)(r:OpdF st x (i64 p))(s:OpdF st y (.cell (cpI t q))):
 OpOk X st mm ⟨some d,.binOp .shr T x y i,ty,pos,af,none⟩ [(d,i64 (p.fdiv (2 ^ (min q.toNat 64))))] []:=
 Qmv hd r s λw S γ u v f g=>by
  obtain⟨rfl,a1,a2⟩:=f;obtain⟨rfl,_⟩:=g;have:¬ q<0:=by have:=uf n;omega
  refine⟨_,λw=>by simp[eqGuard],λw=>by simp only[binOp,Op.shift,ol this];rfl,rfl,?_⟩;have hp:(0:Int)<2 ^ (min q.toNat 64):=Int.pow_pos oz;rw[Int.fdiv_eq_ediv_of_nonneg _ (Int.le_of_lt hp)];have f:IntKind.i64.min=-9223372036854775808:=oz
  have g:IntKind.i64.max=9223372036854775807:=oz
  rw[f] at a1 |-;rw[g] at a2 |-;have e:(1:Int)<=2 ^ (min q.toNat 64):=om
  rcases Int.le_total 0 p with h | h;have j:=Int.ediv_nonneg h (Int.le_of_lt hp);have k:=Int.ediv_le_self (a:=p) (2 ^ (min q.toNat 64)) h;omega;have j:p<=p / 2 ^ (min q.toNat 64):=by
   rw[Int.le_ediv_iff_mul_le hp];have:=Int.mul_le_mul_of_nonpos_left h e
   simpa using this
  have k:p / 2 ^ (min q.toNat 64)<=0:=by
   have:=Int.ediv_le_ediv (c:=2 ^ (min q.toNat 64)) hp h
   simpa using this
  omega
end ops
section
variable {R:Type}{X:Cx}{l:List (Nat×Ly)}{m:List (Nat×Ct)}{md:Option R}{Q:R->Exit->Act->World->Prop}{G:R->Act->World->Prop}
theorem scT{c:Operand}{x y:Code}(d:OpdF (lk l) c (bl true))(h:Sq X l m md (λr=>x.wp X.P (Q r))):Sq X l m md (λr=>(Code.cond c x y).wp X.P (Q r)):=by intro r a w γ hr hi;have:=d.val hi;simp only[bl,Ly.val,cpB] at this;refine wp_cond_split this (λ_=>h r a w γ hr hi) (λhb=>by cases hb)
theorem scF{c:Operand}{x y:Code}(d:OpdF (lk l) c (bl false))(h:Sq X l m md (λr=>y.wp X.P (Q r))):Sq X l m md (λr=>(Code.cond c x y).wp X.P (Q r)):=by intro r a w γ hr hi;have:=d.val hi;simp only[bl,Ly.val,cpB] at this;refine wp_cond_split this (λhb=>by cases hb) (λ_=>h r a w γ hr hi)
theorem sbm{α:Type}{C:α->Ct}{x:α}{k:α->Option R}(d:Nat)(hd:lk m d=some (C x))(h:∀ y,Sq X l ((d,C y)::m) (k y) G):Sq X l m ((some x).bind k) G:=by
 refine sent (λa w γ hi=>⟨γ,?_⟩) (h x);have:lk ((d,C x)::m)=lk m:=by funext i;simp only[lk];cases e:Nat.beq d i;rfl;rw[<-xx e,hd];rfl
 rw[this];exact hi
def lpK{τ ρ:Type}(k:τ->Option ρ):Lp τ ρ->Option ρ
 | .go t=>k t
 | .out r=>some r
def rangeD{σ R:Type}(f:Nat->σ->Option (Lp σ R)):Nat->σ->Option (Lp σ R)
 | 0,s=>some (.go s)
 | d+1,s=>(f d s).bind λo=>match o with
   | .go s'=>rangeD f d s'
   | .out r=>some (.out r)
def rangeN{σ R:Type}(f:Nat->σ->Option (Lp σ R))(n:Int)(s:σ):Option (Lp σ R):=bif decide (-9223372036854775808<n) then rangeD f n.toNat s else none
def rfK{σ τ R:Type}(a:σ->Option R)(b:τ->Option R):Lp σ τ->Option R
 | .go s=>a s
 | .out t=>b t
theorem Jls{σ:Type}{body:Code}{f:σ->Option (Lp σ R)}{n:Nat}{s0:σ}
 (L:σ->List (Nat×Ly)) (M:σ->List (Nat×Ct)) (h0:Ent X l m (L s0) (M s0))
 (hb:∀ s,Sq X (L s) (M s) (f s) (λo=>body.wp X.P (LpQ X L M some Q o))) :
 Sq X l m (loopM f n s0) (λr=>(Code.loop body).wp X.P (Q r)):=by
 have:=sloop (k:=some) (G':=λ_ _ _=>True) (Q:=Q) (X:=X) (l:=l) (m:=m) (n:=n) (τ0:=Empty) (λe=>e.elim) L M (λ_=>[]) (λ_=>[]) h0 (λ_=>hb) (λt=>t.elim);rw[show(loopM f n s0).bind some=loopM f n s0 by cases loopM f n s0<;>rfl] at this;exact this
theorem srangeN{α σ:Type}{f:Nat->α->σ->Option (Lp σ R)}{xs:List α}{s0:σ}{k:σ->Option R}
 {n id2 e j a d g v w y A p q u:Nat}{H I J:String}{C E f3:Array Edge}{B:Code}
 (L:σ->List (Nat×Ly)) (M:σ->List (Nat×Ct))
 (hd:(Nat.blt j X.N && Nat.blt a X.N && Nat.blt g X.N && !(Nat.beq j a) && !(Nat.beq j d) && !(Nat.beq a d) && !(Nat.beq g d) && !(Nat.beq g a))=true)
 (hk:∀ s,(nkey j (L s) && nkey a (L s) && nkey g (L s) && nkey d (L s))=true)
 (h0:Ent X l m ((a,i64 (0:Nat))::(d,i64 xs.length)::L s0) (M s0))
 (hb:∀(i:Nat) x s,xs[i]?=some x->Sq X ((a,i64 i)::(d,i64 xs.length)::L s) (M s) (f i x s)
  (λo=>B.wp X.P (LpQ X (λs=>(a,i64 i)::(d,i64 xs.length)::L s) M (λt=>lpK k (.out t)) Q o)))
 (F:∀ s,Sq X (L s) (M s) (k s) (λr=>Q r (.exit e))) :
 Sq X l m ((rangeL f xs 0 s0).bind (lpK k)) (λr=>(Code.loop (.seq (.region n ⟨[⟨some j,.binOp .lss v (.tmp a) (.tmp d) w,p,H,C,none⟩]⟩ false)
  (.seq (.cond (.tmp j) .skip (.exit e)) (.seq B (.region id2 ⟨[⟨some g,.binOp .add y (.tmp a) (.const (.int .i64 1)) A,q,I,E,none⟩,⟨some a,.move (.tmp g),u,J,f3,none⟩]⟩ false))))).wp X.P (Q r)):=
 srange (k:=lpK k) L M hd hk h0 hb F
end
section ops
variable {X:Cx}{st:Nat->Option Ly}{mm:Nat->Option Ct}
theorem cvI{d x S T ty pos af ds p}(g:X.P.underlying S=some ds)(i:X.P.underlying T=some (.int .i64))(hd:Nat.blt d X.N=true)(k:OpdF st x (i64 p)):
 OpOk X st mm ⟨some d,.convert S T x,ty,pos,af,none⟩ [(d,i64 p)] []:=
 cv_ok g i hd k λw S γ v j=>by
  obtain⟨rfl,a,f⟩:=j;have a1:IntKind.i64.min=-9223372036854775808:=oz
  have a2:IntKind.i64.max=9223372036854775807:=oz
  have e:wrap64 p=p:=by rw[a1] at a;rw[a2] at f;unfold wrap64;omega
  exact⟨_,_,rfl,by rw[Qmw,e];exact⟨rfl,a,f⟩⟩
theorem Y2{α:Type}{xs:List α}{p:Int}{y:α}(h:getI xs p=some y):xs[p.toNat]?=some y:=(Qk5 h).2
end ops
theorem eqm0:EqM [] []:=⟨trivial,trivial⟩
theorem sj{R:Type}{X:Cx}{l l' m m'}{md:Option R}{G:R->Act->World->Prop}(k:Sq X l' m' md G)(h:Ent X l m l' m'):Sq X l m md G:=sent h k
def MiF(ρ:List (Nat×Nat))(mm:Nat->Option Ct):List (Nat×Ct)->Prop
 | []=>True
 | (x,a)::r=>(∃ y c,lk ρ x=some y/\mm y=some c/\RnC ρ c a)/\MiF ρ mm r
theorem MiF.get{ρ mm}:∀ {mi:List (Nat×Ct)},MiF ρ mm mi->∀ x a,lk mi x=some a->∃ y c,lk ρ x=some y/\mm y=some c/\RnC ρ c a
 | [],_,_,_,h=>by cases h
 | (i,c0)::r,d,x,a,h=>by simp only[lk] at h;cases hb:Nat.beq i x;rw[hb] at h;exact MiF.get d.2 x a h;rw[hb] at h;have:i=x:=xx hb;subst this;simp at h;subst h;exact d.1
section
variable {R:Type}{X:Cx}{l:List (Nat×Ly)}{m:List (Nat×Ct)}{md:Option R}{Q:R->Exit->Act->World->Prop}{G:R->Act->World->Prop}
theorem sjq{σ:Type}{x y:Code}{A:(σ->Option R)->Option R}{k:σ->Option R}(L:σ->List (Nat×Ly))(M:σ->List (Nat×Ct))
 (h:∀ j:σ->Option R,(∀ s,Sq X (L s) (M s) (j s) (λr=>y.wp X.P (Q r)))->Sq X l m (A j) (λr=>x.wp X.P (Exit.then (y.wp X.P (Q r)) (Q r))))
 (J:∀ s,Sq X (L s) (M s) (k s) (λr=>y.wp X.P (Q r))):Sq X l m (jn A k) (λr=>(Code.seq x y).wp X.P (Q r)):=sseq (h k J)
theorem sloopE{σ τ τ0:Type}{body:Code}{f:σ->Option (Lp σ τ)}{n:Nat}{s0:σ}{k:τ->Option R}(e:Nat)(inj:τ0->τ)
 (L:σ->List (Nat×Ly)) (M:σ->List (Nat×Ct)) (Lo:τ0->List (Nat×Ly)) (Mo:τ0->List (Nat×Ct)) (h0:Ent X l m (L s0) (M s0))
 (hb:(∀ t,Sq X (Lo t) (Mo t) (k (inj t)) (λr=>Q r (.exit e)))->∀ s,Sq X (L s) (M s) (f s) (λo=>body.wp X.P (LpQ X L M k Q o)))
 (a:∀ t,Sq X (Lo t) (Mo t) (k (inj t)) (λr=>Q r (.exit e))) :
 Sq X l m ((loopM f n s0).bind k) (λr=>(Code.loop body).wp X.P (Q r)):=sloop inj L M Lo Mo h0 hb a
end
section
variable {R:Type}{X:Cx}{l:List (Nat×Ly)}{m:List (Nat×Ct)}{md:Option R}{Q:R->Exit->Act->World->Prop}
theorem Q30{ops:Array Oper}{j d:Nat}{st mm a w γ}(hi:Inv X st mm a w γ)(g:((ops[j]?).bind (·.dst))=some d)(i:st d=some (.tup [])):yielded ops a.tmps j=none:=by obtain⟨v,e,f⟩:=hi.sts d _ i;simp only[Ly.val,Ly.vals] at f;obtain⟨cs,rfl,_⟩:=f;unfold yielded;simp[g,e]
theorem Q06{w S γ}:Ly.val w S γ (.tup []) undef:=by simp only[Ly.val,Ly.vals];exact⟨#[],rfl,rfl⟩
theorem spB{d op ty pos after j b}{ops:Array Oper}{rest:List Oper}(e:Nat)(g:((ops[j]?).bind (·.dst))=some e)(i:lk l e=some (bl (!b)))(hd:Nat.blt d X.N=true)
 (k:Sq X ((d,.tup [])::l) m md (λr=>wpList X.P ops (Q r) rest)):Sq X l m md (λr=>wpList X.P ops (Q r) (⟨some d,op,ty,pos,after,some (j,b)⟩::rest)):=by
 intro r a w γ hr hi;refine wpList_step λK f=>?_;rw[ol (by cases b<;>simp[Region.wanted,Qon hi g i])];refine f _ w (k r _ w γ hr ?_);have:=hi.put (d:=d) (v:=undef) (ly:=.tup []) (by simpa using hd) Q06;rw[up_lk] at this;exact this
theorem spU{d op ty pos after j b}{ops:Array Oper}{rest:List Oper}(e:Nat)(g:((ops[j]?).bind (·.dst))=some e)(i:lk l e=some (.tup []))(hd:Nat.blt d X.N=true)
 (k:Sq X ((d,.tup [])::l) m md (λr=>wpList X.P ops (Q r) rest)):Sq X l m md (λr=>wpList X.P ops (Q r) (⟨some d,op,ty,pos,after,some (j,b)⟩::rest)):=by
 intro r a w γ hr hi;refine wpList_step λK f=>?_;rw[ol (by simp[Region.wanted,Q30 hi g i])];refine f _ w (k r _ w γ hr ?_);have:=hi.put (d:=d) (v:=undef) (ly:=.tup []) (by simpa using hd) Q06;rw[up_lk] at this;exact this
end
section
variable {X:Cx}{st:Nat->Option Ly}{mm:Nat->Option Ct}{ops:Array Oper}
theorem ogB{d op ty pos after j b}(e:Nat)(g:((ops[j]?).bind (·.dst))=some e)(i:st e=some (bl (!b)))(hd:Nat.blt d X.N=true):OpG X ops st mm ⟨some d,op,ty,pos,after,some (j,b)⟩ [(d,.tup [])] []:=by intro a w γ K Q hi f;rw[ol (by cases b<;>simp[Region.wanted,Qon hi g i])];exact f _ _ _ (hi.put (d:=d) (v:=undef) (ly:=.tup []) (by simpa using hd) Q06)
theorem ogU{d op ty pos after j b}(e:Nat)(g:((ops[j]?).bind (·.dst))=some e)(i:st e=some (.tup []))(hd:Nat.blt d X.N=true):OpG X ops st mm ⟨some d,op,ty,pos,after,some (j,b)⟩ [(d,.tup [])] []:=by intro a w γ K Q hi f;rw[ol (by simp[Region.wanted,Q30 hi g i])];exact f _ _ _ (hi.put (d:=d) (v:=undef) (ly:=.tup []) (by simpa using hd) Q06)
theorem frzI{a w γ d id E k ls}(hi:Inv X st mm a w γ)(B:mm id=some (.sl E k ls))(A:IFs ls)(hd:st d=some (.own id)):Inv X (up st [(d,sli k ls)]) (up mm [(id,.gone)]) a w γ:=by
 obtain⟨v,cs,s,⟨M,C⟩,F,H⟩:=slI hi B;have n:=hi.drop id;have J:∀ b,X.S γ (up mm [(id,.gone)]) b->X.S γ mm b:=by rintro b (h | ⟨i,r,u,f,p,x,y⟩);exact .inl h;rw[Wt] at f;by_cases e:id=i;simp[e] at f;subst f;simp[Ct.alive] at p;simp[e] at f;exact .inr ⟨i,r,u,f,p,x,y⟩
 have hp:(cpL k ls).p w (X.S γ (up mm [(id,.gone)])) v:=by rcases C with ⟨rfl,hn⟩ | ⟨g,cap,cur,rfl,_,p,x,y,N,I⟩;exact .inl ⟨rfl,xd hn⟩;have hmine:=hi.mine g ⟨id,_,_,B,rfl,s,rfl⟩;refine .inr (.inl ⟨g,0,cap,cs,rfl,x,y,hmine.2.1,?_,λj u q=>?_,Ly.holds_mono (Kp.refl _ _) (λb hb=>.inl (J b hb)) (Ng.refl _) _ _ ((A w _ γ (λ_=>none)).1 _ F),H⟩);rintro(h | ⟨i,r,u,k1,k2,K,L⟩);exact hmine.2.2 h;rw[Wt] at k1;by_cases e:id=i;simp[e] at k1;subst k1;simp[Ct.alive] at k2;simp[e] at k1;exact e (hi.apart id i _ r _ u g B rfl k1 k2 s K rfl L);rw[Xa p,<-yf,xg];rw[<-I,uh] at q;split at q;exact q;cases q
 refine { n with sts:=?_ };intro i ly h;rw[Wt] at h;by_cases e:d=i;subst e;simp at h;subst h;obtain⟨u,g1,t,_⟩:=hi.sts d _ hd;rw[s] at t;simp at t;subst t;exact⟨v,g1,hp⟩;simp[e] at h;exact n.sts i ly h
theorem toV{o d y E k ls em}(h:OpOk X st mm o [(d,.own y)] ((y,.sl E k ls)::em))(g:IFs ls):OpOk X st mm o [(d,sli k ls)] ((y,.gone)::em):=by
 intro a w γ K Q hi q;refine h a w γ K Q hi λj w' γ' f=>q j w' γ' ?_;have:=frzI (d:=d) (id:=y) (E:=E) (k:=k) (ls:=ls) f (by simp[up,lk]) g (by simp[up,lk]);have n:up (up st [(d,.own y)]) [(d,sli k ls)]=up st [(d,sli k ls)]:=by funext i;simp only[Wt];by_cases e:d=i<;>simp[e]
 have p:up (up mm ((y,.sl E k ls)::em)) [(y,.gone)]=up mm ((y,.gone)::em):=by
  funext i;rw[Wt];by_cases e:y=i;subst e;simp[up,lk];have hb:Nat.beq y i=false:=by cases hb:Nat.beq y i;rfl;exact absurd (xx hb) e
  simp[e,up,lk,hb]
 rw[n,p] at this;exact this
theorem slO{d x hi T ty pos af id y E E' k b z q}{α:Type}{f:α->Ly}{xs ys:List α}(hs:sub xs 0 q=some ys)(W:mm id=some (.sl E' k (xs.map f)))(F:X.P.underlying T=some (.slice E))(C:TyI X.P E k b z)
 (hd:Nat.blt d X.N=true) (hx:OpdF st x (.own id)) (H:BndF st xs.length hi q) (hy:mm y=none) :
 OpOk X st mm ⟨some d,.slice T x none hi none,ty,pos,af,none⟩ [(d,.own y)] [(y,.sl E' k (ys.map f)),(id,.gone)]:=by
 intro a w γ K Q hI hK;obtain⟨h0,h1,U,rfl⟩:=Qxd hs;obtain⟨v,cs,B,⟨n,N⟩,Y,O⟩:=slI hI W;obtain⟨hv,_⟩:=hx.val hI;have A:a.eval x=v:=by rw[hv] at B;simpa using B
 have e:(hi.map a.eval=none/\q=(xs.length:Nat))\/∃ M,hi.map a.eval=some (.int M q):=by rcases Qn7 hI H with ⟨rfl,h⟩ | ⟨x,M,rfl,h⟩;exact .inl ⟨rfl,h⟩;exact .inr ⟨M,by simp[h]⟩
 rw[ot] at n N;have r:(cs.take (q.toNat*k)).length=q.toNat*k:=by rw[xi,n];exact yy (xc k om)
 have hylen:((xs.take q.toNat).drop (0:Int).toNat).length=q.toNat:=oh
 have hold:Ly.holds w (X.S γ mm) γ (((xs.take q.toNat).drop (0:Int).toNat).map f) (cs.take (q.toNat*k)):=by
  have:=(Qei q.toNat Y O).1
  simpa [wh] using this
 have J:∀ ly∈((xs.take q.toNat).drop (0:Int).toNat).map f,ly.sz=k:=λly h=>O ly (by
  obtain⟨u,hu,rfl⟩:=xy.1 h
  exact xy.2 ⟨u,ym (by simpa using hu),rfl⟩)
 have fin:∀ v',(execOp a.eval ⟨some d,.slice T x none hi none,ty,pos,af,none⟩).run X.P w=.ok (.value v') w->w.ownsRow 0 E' k v' q.toNat (cs.take (q.toNat*k))->(∀ b,blkOf v'=some b->blkOf v=some b) ->
  Oper.wp X.P ⟨some d,.slice T x none hi none,ty,pos,af,none⟩ a w K Q:=by
  intro v' hr i hb;unfold Oper.wp;rw[hr];have t:v'.oneCell'=true:=by rcases i.2 with ⟨rfl,_⟩ | ⟨g,cap,cur,rfl,_⟩<;>rfl
  have s:=hI.replace (w':=w) rfl rfl rfl W rfl B (Kp.refl _ _) (y:=y) (ct:=.sl E' k (((xs.take q.toNat).drop (0:Int).toNat).map f)) (v':=v') hy rfl
   (λS γ' hS I L=>⟨v',cs.take (q.toNat*k),L,by rw[ot,hylen];exact i,Ly.holds_mono (Kp.refl _ _) hS I _ _ hold,J⟩)
   (λb j=>⟨.inl (hb b j),by
    rcases i.2 with ⟨rfl,_⟩ | ⟨g,cap,cur,rfl,_,U,_⟩;simp[blkOf] at j;simp[blkOf] at j;subst j;rcases xt g w.heap.size with h | h;exact h
    simp[uy h] at U⟩)
  exact hK _ _ _ (s.put (d:=d) (v:=v') (ly:=.own y) (by simpa using hd) ⟨by simp[Inv.gset],t⟩)
 rcases N with ⟨rfl,hn⟩ | ⟨g,cap,cur,rfl,hg,Z,g3,g4,g5,g6⟩;have hq:q=0:=om
 subst hq;refine fin (.slice none 0 0) ?_ ⟨oc,.inl ⟨rfl,rfl⟩⟩ (λb hb=>hb);have:=Qbh (P:=X.P) (w:=w) (isS:=true) (len:=0) (cap:=0) (lo:=none) (hi:=hi.map a.eval) (p:=0) (q:=0) (.inl ⟨rfl,rfl⟩) (by rw[hn] at e;exact e) om om om;simp only[execOp,A];simp[Instr.sliceAt,Instr.slice,underlying,F,this,V7 C];have hb:=Qbh (P:=X.P) (w:=w) (isS:=true) (len:=xs.length) (cap:=cap) (lo:=none) (hi:=hi.map a.eval) (p:=0) (q:=q) (.inl ⟨rfl,rfl⟩) e om h1 om;refine fin (.slice (some ⟨g,0,none⟩) q.toNat cap) ?_ ⟨r,.inr ⟨g,cap,cur,rfl,hg,Z,om,g4,g5,?_⟩⟩ (λb hb=>by simpa [blkOf] using hb);simp only[execOp,A];by_cases V:cap=0;subst V;simp[Instr.sliceAt,Instr.slice,underlying,F,hb,V7 C];simp[Instr.sliceAt,Instr.slice,underlying,F,hb,V7 C,V,add0];rw[<-g6,List.take_take,yy (xc k om)]
end
section
variable {X:Cx}{st:Nat->Option Ly}{mm:Nat->Option Ct}
theorem bnd{a x p q}(h:OpdF st x (.cell (cpI a q))):BndF st p (some x) q:=⟨a,h⟩
theorem bnd0{p}:BndF st p none p:=rfl
end
theorem Qy5{P:Program}{T:Nat}{f:Bool}{k off:Nat}{w w':World}{S γ}{ly:Ly}{cs:Array Value}{a u b:List Value}(h:Shp P T f k)(hn:ly.isN=f)(n:ly.sz=k)
 (g:cs.toList=a++u++b) (i:a.length=off) (e:ly.hold w S γ u):∃ v,(part T cs off).run P w'=.ok v w'/\ly.val w S γ v:=by
 have d:=Ly.hold_sz _ _ e;cases f with
 | true=>
   refine⟨.agg u.toArray,?_,?_⟩;have:cs.extract off (off+k)=u.toArray:=by apply dc;rw[Array.toList_extract,g];simp only[List.extract_eq_take_drop];rw[<-i,xf,List.drop_left,<-n,<-d,show a.length+u.length - a.length=u.length by omega,List.take_left]
   simp[part,Qt3 h,Qrw h,this];cases ly<;>simp[Ly.isN] at hn;simp only[Ly.val,Ly.hold] at e |-;exact⟨_,rfl,e⟩
 | false=>
   have j:u.length=1:=by cases ly<;>simp[Ly.isN] at hn<;>simpa [Ly.sz] using d
   obtain⟨v,rfl⟩:∃ v,u=[v]:=by
    match u,j with
    | [v],_=>exact⟨v,rfl⟩
   refine⟨v,?_,Ly.val_of_hold1 hn e⟩;have:cs[off]?=some v:=by rw[<-yf,g,<-i,xf,yg (xm _)];simp
   simp[part,Qt3 h,this]
def EqF(P:Program)(n T:Nat){α:Type}(f:α->Ly)(e:α->α->Bool):Prop:=
 ∀ d w w' S γ x y a g,(f x).val w S γ a->(f y).val w S γ g->(Op.equalIn (d+n) T a g).run P w'=.ok (e x y) w'
theorem Ql6{P n T}(h:P.underlying T=some (.int .i64)):EqF P (n+1) T i64 (λx y=>x == y):=by intro d w w' S γ x y f g a e;obtain⟨rfl,_⟩:=a;obtain⟨rfl,_⟩:=e;exact run_equalIn_int w' (d+n) T _ _ x y h
theorem Qjs{P n T}{α β:Type}{f:α->Ly}{e:α->α->Bool}(g:β->α)(h:EqF P n T f e):EqF P n T (λx=>f (g x)) (λx y=>e (g x) (g y)):=λd w w' S γ x y=>h d w w' S γ (g x) (g y)
def EqFs(P:Program)(n:Nat)(fs:List Field)(off:Nat){α:Type}(f:α->List Ly)(e:α->α->Bool):Prop:=
 ∀ d w w' S γ x y (xs ys:Array Value) a1 u1 a2 u2,xs.toList=a1++u1->a1.length=off->Ly.holds w S γ (f x) u1->ys.toList=a2++u2->a2.length=off->Ly.holds w S γ (f y) u2 ->
   (Op.eqFields (d+n) xs ys fs).run P w'=.ok (e x y) w'
theorem Q2l{P n off}{α:Type}:EqFs P n [] off (λ_:α=>[]) (λ_ _=>true):=by intro d w w' S γ x y xs ys a1 a a2 e _ _ _ _ _ _;simp[Op.eqFields]
theorem Qhb{P n off k ag}{α:Type}{F:Field}{fs:List Field}{g:α->Ly}{f:α->List Ly}{e1 e2:α->α->Bool}(hname:(F.name == "_")=false)(hoff:F.offset=off)(hT:Shp P F.type ag k)(hn:∀ x,(g x).isN=ag)(hz:∀ x,(g x).sz=k)
 (h1:EqF P n F.type g e1) (h2:EqFs P n fs (off+k) f e2):EqFs P n (F::fs) off (λx=>g x::f x) (λx y=>e1 x y && e2 x y):=by
 intro d w w' S γ x y xs ys a1 u1 a2 u2 hx hxl hxh hy hyl hyh;obtain⟨c1,c2,rfl,p1,p2⟩:=hxh;obtain⟨d1,d2,rfl,q1,q2⟩:=hyh;have hne:F.name≠ "_":=by simpa using hname
 obtain⟨v,r1,r2⟩:=Qy5 (w:=w) (w':=w') (S:=S) (γ:=γ) (off:=off) hT (hn x) (hz x) (cs:=xs) (b:=c2) (by rw[hx,xf]) hxl p1;obtain⟨v',s1,s2⟩:=Qy5 (w:=w) (w':=w') (S:=S) (γ:=γ) (off:=off) hT (hn y) (hz y) (cs:=ys) (b:=d2) (by rw[hy,xf]) hyl q1;have he:=h1 d w w' S γ x y v v' r2 s2;have hrest:=h2 d w w' S γ x y xs ys (a1++c1) c2 (a2++d1) d2 (by rw[hx,xf]) (by rw[yd,hxl,Ly.hold_sz _ _ p1,hz]) p2 (by rw[hy,xf]) (by rw[yd,hyl,Ly.hold_sz _ _ q1,hz]) q2;simp only[Op.eqFields,hoff];rw[oq hne];simp only[Sem.run_bind,r1,s1,Result.andThen_ok,he];cases h:e1 x y;simp;simp[hrest]
theorem Qxf{P n T}{α:Type}{fs:Array Field}{f:α->List Ly}{e:α->α->Bool}(g:P.underlying T=some (.struct fs))(hp:P.stoodInHeld T=false)(h:EqFs P n fs.toList 0 f e):EqF P (n+1) T (λx=>.agg (f x)) e:=by
 intro d w w' S γ x y q r j k;obtain⟨cs,rfl,p⟩:=j;obtain⟨ds,rfl,a⟩:=k;have i:P.fieldsOf T=fs:=by simp[Program.fieldsOf,g]
 rw[show d+(n+1)=(d+n)+1 by omega,run_equalIn_struct w' (d+n) T cs ds (by rw[i];exact g) hp,i];exact h d w w' S γ x y cs ds [] _ [] _ rfl rfl p rfl rfl a
section ops
variable {X:Cx}{st:Nat->Option Ly}{mm:Nat->Option Ct}
theorem Jde{d o x y T j ty pos af n}{α:Type}{f:α->List Ly}{e:α->α->Bool}{p q:α}{b:Bool}(k:EqF X.P n T (λx=>.agg (f x)) e)(hn:Nat.ble n 10000=true)(r:X.P.eqGuardType X.P.depth T=false)
 (a:∀ cs ds w,(Op.equal T (.agg cs) (.agg ds)).run X.P w=.ok (e p q) w->(binOp o T (.agg cs) (.agg ds)).run X.P w=.ok (.bool b) w)
 (hd:Nat.blt d X.N=true) (t:OpdF st x (.agg (f p))) (u:OpdF st y (.agg (f q))) :
 OpOk X st mm ⟨some d,.binOp o T x y j,ty,pos,af,none⟩ [(d,bl b)] []:=
 Qmv hd t u λw S γ v A g i=>by have s:=uw hn;have hr:=λw':World=>k (10000 - n) w w' S γ p q v A g i;rw[show 10000 - n+n=10000 by omega] at hr;simp only[Ly.val] at g i;obtain⟨cs,rfl,_⟩:=g;obtain⟨ds,rfl,_⟩:=i;refine⟨.bool b,λw'=>?_,λw'=>a cs ds w' (hr w'),by simp[bl,Ly.val,cpB]⟩;cases o<;>simp[eqGuard,r]
theorem eqA{d x y T a ty pos af n}{α:Type}{f:α->List Ly}{e:α->α->Bool}{p q:α}(g:EqF X.P n T (λx=>.agg (f x)) e)(hn:Nat.ble n 10000=true)(i:X.P.eqGuardType X.P.depth T=false)
 (hd:Nat.blt d X.N=true) (j:OpdF st x (.agg (f p))) (k:OpdF st y (.agg (f q))) :
 OpOk X st mm ⟨some d,.binOp .eql T x y a,ty,pos,af,none⟩ [(d,bl (e p q))] []:=
 Jde g hn i (λcs ds w h=>by simp[binOp,h]) hd j k
theorem neA{d x y T a ty pos af n}{α:Type}{f:α->List Ly}{e:α->α->Bool}{p q:α}(g:EqF X.P n T (λx=>.agg (f x)) e)(hn:Nat.ble n 10000=true)(i:X.P.eqGuardType X.P.depth T=false)
 (hd:Nat.blt d X.N=true) (j:OpdF st x (.agg (f p))) (k:OpdF st y (.agg (f q))) :
 OpOk X st mm ⟨some d,.binOp .neq T x y a,ty,pos,af,none⟩ [(d,bl (!(e p q)))] []:=
 Jde g hn i (λcs ds w h=>by simp[binOp,h]) hd j k
end ops
theorem goA{α:Type}{f:α->Ly}{k:Nat}(g:∀ x,(f x).sz=k){xs:List α}{i:Nat}{y:α}(h:xs[i]?=some y):Ly.go [i] (.agg (xs.map f))=some (f y,i*k):=by
 have e:(xs.map f)[i]?=some (f y):=by simp[h]
 have hi:i<xs.length:=by rcases xt i xs.length with a | a;exact a;simp[xz a] at h
 have hs:Ly.szs ((xs.map f).take i)=i*k:=Qxc (λly d=>by obtain⟨x,_,rfl⟩:=xy.1 d;exact g x) oh;simp[Ly.go,e,hs]
theorem puA{α:Type}{f:α->Ly}{xs:List α}{i:Nat}{y a:α}(h:xs[i]?=some y):Ly.pu (f a) [i] (.agg (xs.map f))=.agg ((xs.set i a).map f):=by
 have d:(xs.map f)[i]?=some (f y):=by simp[h]
 simp[Ly.pu,d,List.map_set]
section ops
variable {X:Cx}{st:Nat->Option Ly}{mm:Nat->Option Ct}
theorem ixAO{v:IntKind}{d x i T ty pos af n E k b z id off e}{p:Int}(s:X.P.underlying T=some (.array n E))(r:TyI X.P E k b z)(hp:(decide (0<=p) && decide (p<(n:Int)))=true)(t:OwnP mm e id off)
 (hd:Nat.blt d X.N=true) (u:OpdF st x e) (hi:OpdF st i (.cell (cpI v p))) :
 OpOk X st mm ⟨some d,.indexAddr T x i,ty,pos,af,none⟩ [(d,.ptr id (off+p.toNat*k))] []:=
 Xj hd λa w γ hI=>by simp only[ug,gr] at hp;obtain⟨v0,g,f,j,q⟩:=Qy3 hI t u;obtain⟨g1,_⟩:=hi.val hI;refine⟨.pointer (some ⟨g,off+p.toNat*k,none⟩),?_,v0,g,f,j,rfl⟩;simp only[execOp,q,g1];simp[Instr.indexAt,asIntOf,underlying,s,hp.1,hp.2,V7 r,add0,Instr.sureAddr]
def APart(st:Nat->Option Ly)(k:Nat):List (Nat×Operand)->Ly->Ly->Prop
 | [],z,r=>z=r
 | (i,x)::d,z,r=>∃ ly a off,OpdF st x ly/\ly.lies=true/\Ly.go [i] z=some (a,off)/\off=i*k/\a.sz=k/\ly.sz=k/\APart st k d (Ly.pu ly [i] z) r
theorem Jdf{st k}:∀ {a:List (Nat×Operand)}{z r:Ly}(pl:List (Nat×Nat)),(∀ i x,(i,x)∈a->pl[i]?=some (i*k,k))->APart st k a z r->BPart st pl a z r
 | [],z,r,pl,_,h=>h
 | (i,x)::a,z,r,pl,hp,h=>by obtain⟨ly,t,off,e,f,g,n,d,p,q⟩:=h;subst n;exact⟨ly,t,_,e,f,g,by rw[d];exact hp i x vf,by rw[d];exact p,Jdf pl (λj y s=>hp j y (vz _ s)) q⟩
theorem Q31{g d:Nat->Option (Nat×Nat)}:∀(a:List (Nat×Value)) (cells:Array Value),(∀ i x,(i,x)∈a->g i=d i)->Instr.fill g cells a=Instr.fill d cells a
 | [],_,_=>rfl
 | (i,x)::a,cells,h=>by simp only[Instr.fill,h i x vf];split;rfl;split;rfl;exact Q31 a _ (λj y e=>h j y (vz _ e))
theorem bldA{d T n E parts ty pos af kT bT zT k b z s l}(A:X.P.underlying T=some (.array n E))(g:TyI X.P T kT bT zT)(v:TyI X.P E k b z)(B:Zr s zT.cells.toList)(r:(parts.all λp=>Nat.blt p.1 n)=true)(hp:APart st k parts s (.agg l))(hd:Nat.blt d X.N=true):
 OpOk X st mm ⟨some d,.build T ⟨parts⟩,ty,pos,af,none⟩ [(d,.agg l)] []:=
 Xj hd λa w γ hI=>by
  have f:∀ i x,(i,x)∈parts->((List.range n).map (λi=>(i*k,k)))[i]?=some (i*k,k):=by intro i x e;have:=jr.1 r _ e;simp at this;simp[this]
  obtain⟨cells',g1,u⟩:=Qqp hI parts s (.agg l) zT.cells (Jdf _ f hp) (B _ _ _);refine⟨.agg cells',?_,⟨_,rfl,by simpa [Ly.hold] using u⟩⟩;have hfill:Instr.fill (λi=>some (i*k,k)) zT.cells (parts.map λ(i,x)=>(i,a.eval x))=some cells':=by rw[<-g1];refine Q31 _ _ λi x e=>?_;obtain⟨⟨j,y⟩,q,t⟩:=xy.1 e;simp at t;rw[<-t.1];exact(f j y q).symm
  simp only[execOp,Instr.build];simp only[Sem.run_bind,Qeh g,Result.andThen_ok,underlying,run_program,A,Sem.run_pure,V7 v];simp only[List.map_toArray,hfill];rfl
end ops
section ops
variable {X:Cx}{st:Nat->Option Ly}{mm:Nat->Option Ct}
theorem slA{d x T ty pos af n E k b z id U}{α:Type}{f:α->Ly}{xs:List α}(N:X.P.underlying T=some (.array n E))(M:TyI X.P E k b z)(I:mm id=some (.bx U (.agg (xs.map f))))(hn:xs.length=n)(F:Nat.ble n 1000000=true)
 (C:∀ x,IF (f x)) (hz:∀ x,(f x).sz=k) (hd:Nat.blt d X.N=true) (hx:OpdF st x (.own id)) :
 OpOk X st mm ⟨some d,.slice T x none none none,ty,pos,af,none⟩ [(d,sli k (xs.map f))] [(id,.gone)]:=by
 intro a w γ K Q hI Y;have S:=uw F;obtain⟨g,cur,y,V,W⟩:=bxI hI I;obtain⟨t,_⟩:=hx.val hI;rw[y] at t;have t:a.eval x=.pointer (some ⟨g,0,none⟩):=by simpa using t.symm
 have B:=hI.drop id;have hmine:=hI.mine g ⟨id,_,_,I,rfl,y,rfl⟩;have Z:∀ b,X.S γ (up mm [(id,.gone)]) b->X.S γ mm b:=by rintro b (h | ⟨i,v,u,k1,k2,J,L⟩);exact .inl h;rw[Wt] at k1;by_cases e:id=i;simp[e] at k1;subst k1;simp[Ct.alive] at k2;simp[e] at k1;exact .inr ⟨i,v,u,k1,k2,J,L⟩
 have s:(execOp a.eval ⟨some d,.slice T x none none none,ty,pos,af,none⟩).run X.P w=.ok (.value (.slice (some ⟨g,0,none⟩) n n)) w:=by have hb:=Qbh (P:=X.P) (w:=w) (isS:=false) (len:=n) (cap:=n) (lo:=none) (hi:=none) (p:=0) (q:=n) (.inl ⟨rfl,rfl⟩) (.inl ⟨rfl,rfl⟩) om om om;simp only[execOp,t];by_cases r:n=0;subst r;simp at hb;simp[Instr.sliceAt,underlying,N,hb,V7 M,Instr.sureAddr];simp[Instr.sliceAt,underlying,N,hb,V7 M,Instr.sureAddr,r,add0]
 have hp:(cpL k (xs.map f)).p w (X.S γ (up mm [(id,.gone)])) (.slice (some ⟨g,0,none⟩) n n):=by
  have O:(xs.map f).length=n:=by simp[hn]
  refine .inr (.inl ⟨g,0,n,cur.toList,by rw[O],by rw[O];exact xm _,by unfold maxLen;omega,hmine.2.1,?_,λj u hj=>?_,?_,λly H=>?_⟩);rintro(h | ⟨i,v,u,k1,k2,J,L⟩);exact hmine.2.2 h;rw[Wt] at k1;by_cases e:id=i;simp[e] at k1;subst k1;simp[Ct.alive] at k2;simp[e] at k1;exact e (hI.apart id i _ v _ u g I rfl k1 k2 y J rfl L);rw[Xa V,<-yf,xg];exact hj;have A:Ly.holds w (X.S γ mm) γ (xs.map f) cur.toList:=by simpa [Ly.hold] using W
  exact Ly.holds_mono (Kp.refl _ _) (λb hb=>.inl (Z b hb)) (Ng.refl _) _ _ ((Kh C xs w _ γ (λ_=>none)).1 _ A);obtain⟨x,_,rfl⟩:=xy.1 H;exact hz x
 unfold Oper.wp;rw[s];exact Y _ _ _ (B.put (d:=d) (ly:=sli k (xs.map f)) (by simpa using hd) hp)
end ops
def bS(xs:List Nat):List UInt8:=xs.map UInt8.ofNat
theorem Q9u{w S γ}:∀ {xs:List Nat}{cs:List Value},Ly.holds w S γ (xs.map u8) cs->cs=(xs.map (λx:Nat=>(x:Int))).map (Value.int .u8)
 | [],cs,h=>by simp only[List.map_nil,Ly.holds] at h;simp[h]
 | x::xs,cs,h=>by obtain⟨c1,e,rfl,a,d⟩:=h;obtain⟨v,rfl,rfl,_⟩:=a;rw[Q9u d];simp
section ops
variable {X:Cx}{st:Nat->Option Ly}{mm:Nat->Option Ct}
theorem cvBS{d x S T E ty pos af}{xs:List Nat}(k:X.P.underlying S=some (.slice E))(i:X.P.underlying E=some (.int .u8))(n:X.P.underlying T=some .string)(hd:Nat.blt d X.N=true)(y:OpdF st x (sli 1 (xs.map u8))):
 OpOk X st mm ⟨some d,.convert S T x,ty,pos,af,none⟩ [(d,str (bS xs))] []:=
 Xj hd λa w γ hI=>by
  rcases y.val hI with ⟨e,hn⟩ | ⟨bb,o,cap,cs,e,r,A,B,C,s,t,F⟩ | ⟨hn,q,e⟩
  rotate_left 2
  . have:xs=[]:=by simpa using hn
    subst this;refine⟨.string ByteArray.empty,?_,rfl,by simp[bS]⟩;have p:(loadCells q 0).run X.P w=.ok #[] w:=by simp[loadCells,loadCellsFrom]
    simp only[execOp,e];rw[Sem.run_bind,run_convert_bytes_string w S T E _ _ _ k i n,run_bytesToString w _ _ 0 [] (by simpa using p)];simp
  . have:xs=[]:=by simpa using hn
    subst this;refine⟨.string ByteArray.empty,?_,rfl,by simp[bS]⟩;simp only[execOp,e,run_convert_bytes_nil (P:=X.P) w S E k i 0 0 T n,Sem.run_bind,Result.andThen_ok,Sem.run_pure]
  . rw[ot] at e r
    have f:=Q9u t;have p:(loadCells ⟨bb,o,none⟩ xs.length).run X.P w=.ok ((xs.map (λx:Nat=>(x:Int))).map (Value.int .u8)).toArray w:=by
     have:=Qin (P:=X.P) (b:=bb) (o:=o) (w:=w) cs 0 #[] (λj u v=>by simpa using s j u v);have g:cs.length=xs.length:=by rw[f];simp
     rw[g] at this;rw[<-f]
     simpa [loadCells] using this
    have hr:(convert S T (.slice (some ⟨bb,o,none⟩) xs.length cap)).run X.P w=.ok (.string ⟨(bS xs).toArray⟩) w:=by rw[run_convert_bytes_string w S T E _ _ _ k i n,run_bytesToString w _ _ cap _ p,foldl_push_bytes];congr 2;apply ByteArray.ext;simp[bS,ByteArray.empty,ByteArray.emptyWithCapacity,Function.comp_def];rfl
    refine⟨.string ⟨(bS xs).toArray⟩,?_,rfl,by simp[bS];omega⟩;simp only[execOp,e];simp[hr]
end ops
def sIt(s:List UInt8)(p:Nat):Obj:=.stringIter ⟨s.toArray⟩ p
def decR(s:List UInt8)(p:Nat):Nat:=(Utf8.decode ⟨s.toArray⟩ p).1
def decW(s:List UInt8)(p:Nat):Nat:=(Utf8.decode ⟨s.toArray⟩ p).2
theorem Jju(s:List UInt8)(p:Nat):decR s p<=1114111:=by unfold decR Utf8.decode;simp only[];split;rename_i h;simp at h |-;omega;split;split;rename_i h a;simp at h |-;omega;simp[Utf8.runeError];split;split;rename_i h;simp[Utf8.valid] at h |-;omega;simp[Utf8.runeError];split;split;rename_i h;simp[Utf8.valid] at h |-;omega;simp[Utf8.runeError];simp[Utf8.runeError]
section ops
variable {X:Cx}{st:Nat->Option Ly}{mm:Nat->Option Ct}
theorem rngS{d T x ty pos af s y}(f:X.P.underlying T=some .string)(i:OpdF st x (str s))(j:mm y=none)(hd:Nat.blt d X.N=true):
 OpOk X st mm ⟨some d,.range T x,ty,pos,af,none⟩ [(d,.own y)] [(y,.ob (sIt s 0))]:=
 Qsl hd j rfl λa w γ hi=>by
  obtain⟨g,_⟩:=i.val hi
  refine⟨.pointer (some ⟨w.heap.size,0,none⟩),w.alloc (sIt s 0),?_,rfl,rfl,rfl,Qh3 _ _ _,rfl,
   λS γ' k n e=>⟨w.heap.size,e,Qny _ _⟩,λb hb=>by simp[blkOf] at hb;subst hb;simp⟩
  simp only[execOp,g];simp[run_range_string w T _ f,World.iter,sIt]
theorem obI{id o}{a w γ}(hI:Inv X st mm a w γ)(d:mm id=some (.ob o)):∃ g,γ id=some (.pointer (some ⟨g,0,none⟩))/\w.heap[g]?=some o:=hI.cts id _ d
theorem nxtF{d x ty pos af id s p}(h:decide (p<s.length)=false)(k:mm id=some (.ob (sIt s p)))(hd:Nat.blt d X.N=true)(n:OpdF st x (.own id)):
 OpOk X st mm ⟨some d,.next x true,ty,pos,af,none⟩ [(d,.tup [bl false])] []:=by
 refine Xj hd λa w γ hI=>?_;obtain⟨g,j,f⟩:=obI hI k;obtain⟨e,_⟩:=n.val hI;rw[j] at e;have e:a.eval x=.pointer (some ⟨g,0,none⟩):=by simpa using e.symm
 have i:¬ p<(ByteArray.mk s.toArray).size:=by simpa [ByteArray.size] using h
 refine⟨.tuple #[.bool false],?_,#[.bool false],rfl,_,[],rfl,rfl,rfl⟩;simp only[execOp,e];simp only[sIt] at f;simp[Instr.next,getObj,Sem.run,f,i]
theorem nxtT{d x ty pos af id s p}(h:decide (p<s.length)=true)(r:Nat.ble s.length 1000000=true)(u:mm id=some (.ob (sIt s p)))(hd:Nat.blt d X.N=true)(B:OpdF st x (.own id)):
 OpOk X st mm ⟨some d,.next x true,ty,pos,af,none⟩ [(d,.tup [bl true,i64 (p:Int),i32 (decR s p:Nat)])] [(id,.ob (sIt s (p+decW s p)))]:=by
 intro a w γ K Q hI y;have t:=uw r;obtain⟨g,j,k⟩:=obI hI u;obtain⟨i,_⟩:=B.val hI;rw[j] at i;have i:a.eval x=.pointer (some ⟨g,0,none⟩):=by simpa using i.symm
 have hp:p<s.length:=uf h;have v:p<(ByteArray.mk s.toArray).size:=by simpa [ByteArray.size] using hp
 have A:g<w.heap.size:=by
  rcases xt g w.heap.size with h | h
  . exact h
  . simp[uy h] at k
 let w':World:={ w with heap:=w.heap.setIfInBounds g (sIt s (p+decW s p)) }
 have f:(execOp a.eval ⟨some d,.next x true,ty,pos,af,none⟩).run X.P w=.ok (.value (.tuple #[.bool true,.int .i64 p,.int .i32 (decR s p:Nat)])) w':=by simp only[execOp,i];simp only[sIt] at k;simp[Instr.next,getObj,setObj,Sem.run,k,v,goInt,w',decR,decW,sIt]
 have q:Kp (λb=>b=g) w w':=⟨by simp[w'],λb hb hn=>by simp[w',wn (Ne.symm hn)]⟩
 have e:w'.heap[g]?=some (sIt s (p+decW s p)):=by simp[w',A]
 have n:=hI.setc (w':=w') (ct:=.ob (sIt s (p+decW s p))) rfl rfl rfl u rfl j rfl q rfl ⟨g,j,e⟩;unfold Oper.wp;rw[f];have hr:=Jju s p;refine y _ _ _ (n.put (d:=d) (ly:=.tup [bl true,i64 (p:Int),i32 (decR s p:Nat)]) (by simpa using hd) ⟨#[.bool true,.int .i64 p,.int .i32 (decR s p:Nat)],rfl,_,_,rfl,rfl,_,_,rfl,⟨rfl,?_,?_⟩,_,_,rfl,⟨rfl,?_,?_⟩,rfl⟩)
 all_goals simp[IntKind.min,IntKind.max,IntKind.bits,IntKind.signed]<;>omega
theorem goA0{α:Type}{f:α->Ly}{k:Nat}(a:∀ x,(f x).sz=k){xs:List α}{i:Int}{y:α}(h:getI xs i=some y):Ly.go [i.toNat] (.agg (xs.map f))=some (f y,0+i.toNat*k):=by rw[xg];exact goA a (Qk5 h).2
theorem puA0{α:Type}{f:α->Ly}{xs:List α}{i:Int}{y a:α}{ly:Ly}(h:getI xs i=some y)(d:.agg ((xs.set i.toNat a).map f)=ly):Ly.pu (f a) [i.toNat] (.agg (xs.map f))=ly:=by rw[<-d];exact puA (Qk5 h).2
theorem Q9v{α:Type}{xs:List α}{i:Int}{y:α}{n:Nat}(hn:xs.length=n)(h:getI xs i=some y):(decide (0<=i) && decide (i<(n:Int)))=true:=by
 obtain⟨h0,a⟩:=Qk5 h;have:i.toNat<xs.length:=by rcases xt i.toNat xs.length with h | h;exact h;simp[xz h] at a
 simp;omega
theorem ixV{J:IntKind}{d T x i ty pos af n E j k}{p:Int}{α:Type}{f:α->Ly}{xs:List α}{y:α}(A:X.P.underlying T=some (.array n E))(q:Shp X.P E j k)(hn:Nat.beq xs.length n=true)(e:getI xs p=some y)
 (r:∀ x,(f x).sz=k) (B:∀ x,(f x).isN=j) (hd:Nat.blt d X.N=true) (I:OpdF st x (.agg (xs.map f))) (hi:OpdF st i (.cell (cpI J p))) :
 OpOk X st mm ⟨some d,.index T x i,ty,pos,af,none⟩ [(d,f y)] []:=
 Xj hd λa w γ hI=>by have g:xs.length=n:=xx hn;have hb:=Q9v g e;simp only[ug,gr] at hb;obtain⟨h0,e⟩:=Qk5 e;obtain⟨g1,_⟩:=hi.val hI;obtain⟨cs,H,F⟩:=I.val hI;obtain⟨a1,u,M,C,s,t,_⟩:=Qn6 (w:=w) (S:=X.S γ mm) (γ:=γ) [p.toNat] (goA r e) (cs:=cs.toList) (by simpa [Ly.hold] using F);obtain⟨v,K,L⟩:=Qy5 (P:=X.P) (w':=w) q (B y) (r y) C s t;refine⟨v,?_,L⟩;simp only[execOp,H,g1];simp[Instr.index,asIntOf,underlying,A,hb.1,hb.2,Qrw q,K]
end ops
def Pl(ly:Ly):Prop:=∀ w S S' γ,(∀ cs,ly.hold w S γ cs->ly.hold w S' γ cs)/\(∀ v,ly.val w S γ v->ly.val w S' γ v)
def Pls(l:List Ly):Prop:=∀ w S S' γ,(∀ cs,Ly.holds w S γ l cs->Ly.holds w S' γ l cs)/\(∀ v,Ly.vals w S γ l v->Ly.vals w S' γ l v)
theorem Q07(p:CP)(h:∀ w S S' v,p.p w S v->p.p w S' v):Pl (.cell p):=λw S S' γ=>⟨λcs ⟨v,a,h2⟩=>⟨v,a,h _ _ _ _ h2⟩,λv a=>by simp only[Ly.val] at a |-;exact h _ _ _ _ a⟩
theorem Qy6{x}:Pl (i64 x):=Q07 _ λ_ _ _ _ h=>h
theorem Qhc{x}:Pl (u32 x):=Q07 _ λ_ _ _ _ h=>h
theorem pl_bl{x}:Pl (bl x):=Q07 _ λ_ _ _ _ h=>h
theorem Jlt{x}:Pl (str x):=Q07 _ λ_ _ _ _ h=>h
theorem Qix{x}:Pl (.own x):=λ_ _ _ _=>⟨λ_ h=>h,λv h=>by simp only[Ly.val] at h |-;exact h⟩
theorem Jdg:Pls []:=λ_ _ _ _=>⟨λ_ h=>h,λv h=>by simpa [Ly.vals] using h⟩
theorem Jif{ly l}(d:Pl ly)(e:Pls l):Pls (ly::l):=λw S S' γ=>
 ⟨λcs h=>by obtain⟨c1,f,rfl,g1,a⟩:=h;exact⟨c1,f,rfl,(d w S S' γ).1 _ g1,(e w S S' γ).1 _ a⟩,
  λv h=>by
   simp only[Ly.vals] at h |-
   obtain⟨u,r,rfl,g1,a⟩:=h;exact⟨u,r,rfl,(d w S S' γ).2 _ g1,(e w S S' γ).2 _ a⟩⟩
theorem Qes{α:Type}{f:α->Ly}(h:∀ x,Pl (f x)):∀ xs:List α,Pls (xs.map f)
 | []=>Jdg
 | x::xs=>Jif (h x) (Qes h xs)
theorem Jlu{l}(h:Pls l):Pl (.tup l):=λw S S' γ=>
 ⟨λcs g=>by simp[Ly.hold] at g,
  λv g=>by simp only[Ly.val] at g |-;obtain⟨cs,rfl,g⟩:=g;exact⟨cs,rfl,(h w S S' γ).2 _ g⟩⟩
def PlC:Ct->Prop
 | .sl _ _ ls=>Pls ls
 | .bx _ ly=>Pl ly
 | .mp _ ls=>Pls ls
 | _=>True
def PlM:List (Nat×Ct)->Prop
 | []=>True
 | (_,c)::r=>PlC c/\PlM r
theorem PlM.get:∀ {m:List (Nat×Ct)},PlM m->∀ {x c},lk m x=some c->PlC c
 | [],_,_,_,h=>by cases h
 | (i,c0)::r,a,x,c,h=>by simp only[lk] at h;cases hb:Nat.beq i x;rw[hb] at h;exact PlM.get a.2 h;rw[hb] at h;simp at h;subst h;exact a.1
theorem Za.pl{w S S' γ id c}(h:Za w S γ id c)(hp:PlC c):Za w S' γ id c:=by
 cases c with
 | gone=>trivial
 | sl E k ls=>obtain⟨v,cs,a,d,e,i⟩:=h;exact⟨v,cs,a,d,(hp _ _ _ _).1 _ e,i⟩
 | bx E ly=>obtain⟨g,cur,a,d,e⟩:=h;exact⟨g,cur,a,d,(hp _ _ _ _).1 _ e⟩
 | ob o=>exact h
 | mp ks ls=>obtain⟨g,j,f,a,d,e,i⟩:=h;exact⟨g,j,f,a,d,e,(hp _ _ _ _).2 _ i⟩
def lentB(lt:List Nat)(id:Nat):Bool:=lt.any (Nat.beq id)
def LArg(st:Nat->Option Ly)(mm:Nat->Option Ct)(lt:List Nat)(x:Operand)(a:Ly):Prop:=
 ∃ id,lentB lt id=true/\((OpdF st x (.own id)/\((∃ E k ls,mm id=some (.sl E k ls)/\IFs ls/\a=sli k ls)\/(∃ E ly,mm id=some (.bx E ly)/\IF ly/\a=.ref ly))) \/
   ∃ off len E ls,OpdF st x (.win id off len)/\mm id=some (.sl E 1 ls)/\IFs ls/\off+len<=ls.length/\a=sli 1 ((ls.drop off).take len))
def ArgL(st:Nat->Option Ly)(mm:Nat->Option Ct)(ρ:List (Nat×Nat))(lt:List Nat):List Operand->List Ly->Prop
 | [],[]=>True
 | x::xs,a::d=>((∃ ly,OpdF st x ly/\Rn ρ ly a)\/LArg st mm lt x a)/\ArgL st mm ρ lt xs d
 | _,_=>False
section
variable {X:Cx}{st:Nat->Option Ly}{mm:Nat->Option Ct}
theorem Jig{a w γ γc S lt x s}(hi:Inv X st mm a w γ)(H:∀ b,S b->X.S γ mm b)
 (F:∀ id c v b,lentB lt id=true->mm id=some c->c.alive=true->γ id=some v->blkOf v=some b->¬ S b) (h:LArg st mm lt x s):s.val w S γc (a.eval x):=by
 obtain⟨id,h0,h⟩:=h;rcases h with ⟨K,h⟩ | ⟨off,len,E,ls,K,i,f,W,rfl⟩
 rotate_left
 . obtain⟨v,cs,e,⟨t,n⟩,y,r⟩:=slI hi i
   obtain⟨v0,M,P⟩:=K.val hi;rw[e] at M;cases M;have I:Ly.holds w S (λ_=>none) ls cs:=Ly.holds_mono (Kp.refl _ _) (λb hb=>.inl (H b hb)) (Ng.refl _) _ _ ((f w _ γ (λ_=>none)).1 _ y);obtain⟨_,Y⟩:=Qei off I r;obtain⟨Z,_⟩:=Qei len Y (λly J=>r ly (vv J));rcases P with ⟨f3,f4,f5⟩ | ⟨g,cap,o,f3,f4,U,f5,T⟩
   . rw[f3]
     subst f5;exact .inl ⟨rfl,oc⟩
   . rcases n with ⟨n,_⟩ | ⟨A,L,cur,n,_,B,N,O,V,C⟩
     . rw[n] at f3;simp[blkOf] at f3
     . subst n
       simp[blkOf] at f3;subst f3;have hmine:=hi.mine A ⟨id,_,_,i,rfl,e,rfl⟩;have p:((ls.drop off).take len).length=len:=oh
       rw[f4];refine .inr (.inl ⟨A,o,cap,(cs.drop (off*1)).take (len*1),?_,?_,T,hmine.2.1,F id _ _ A h0 i rfl e rfl,λj u d=>?_,Z,λly J=>r ly (vv (ym J))⟩)
       . rw[p]
       . rw[p];exact f5
       . rw[Xa B,<-yf]
         rw[uh] at d;split at d
         . rw[U om]
           rw[vk,<-C,uh] at d;split at d
           . rw[Nat.mul_one] at d;exact d
           . cases d
         . cases d
 obtain⟨q,_⟩:=K.val hi;rcases h with ⟨E,k,ls,i,f,rfl⟩ | ⟨E,ly,i,f,rfl⟩
 . obtain⟨v,cs,e,⟨t,n⟩,y,r⟩:=slI hi i
   rw[q] at e;simp at e;rw[e];rw[e] at q;rcases n with ⟨rfl,hn⟩ | ⟨g,cap,cur,rfl,_,B,N,O,V,C⟩
   . exact .inl ⟨rfl,xd hn⟩
   . have hmine:=hi.mine g ⟨id,_,_,i,rfl,q,rfl⟩
     refine .inr (.inl ⟨g,0,cap,cs,rfl,N,O,hmine.2.1,F id _ _ g h0 i rfl q rfl,λj u d=>?_,?_,r⟩)
     . rw[Xa B,<-yf,xg]
       rw[<-C,uh] at d;split at d
       . exact d
       . cases d
     . exact Ly.holds_mono (Kp.refl _ _) (λb hb=>.inl (H b hb)) (Ng.refl _) _ _ ((f w _ γ (λ_=>none)).1 _ y)
 . obtain⟨g,cur,e,t,n⟩:=bxI hi i
   rw[q] at e;simp at e;rw[e];rw[e] at q;have hmine:=hi.mine g ⟨id,_,_,i,rfl,q,rfl⟩;refine⟨g,0,cur.toList,rfl,hmine.2.1,F id _ _ g h0 i rfl q rfl,λj u d=>?_,?_⟩
   . rw[Xa t,<-yf,xg];exact d
   . exact Ly.hold_mono (Kp.refl _ _) (λb hb=>.inl (H b hb)) (Ng.refl _) _ _ ((f w _ γ γc).1 _ n)
theorem Q7s{a w γ γc ρ S lt}(hi:Inv X st mm a w γ)(i:∀ y x,lk ρ y=some x->γc y=γ x)(f:∀ b,S b->X.S γ mm b)
 (g:∀ id c v b,lentB lt id=true->mm id=some c->c.alive=true->γ id=some v->blkOf v=some b->¬ S b) :
 ∀ {xs:List Operand}{d:List Ly},ArgL st mm ρ lt xs d->Ly.vals w S γc d (xs.map a.eval)
 | [],[],_=>by simp[Ly.vals]
 | x::xs,ly::d,h=>by obtain⟨e,k⟩:=h;simp only[yz,Ly.vals];refine⟨_,_,rfl,?_,Q7s hi i f g k⟩;rcases e with ⟨n,e,j⟩ | e;exact Ly.val_mono (Kp.refl _ _) (λb hb=>.inl (f b hb)) (Ng.refl _) _ _ ((j w _ γ γc i).2 _ (e.val hi));exact Jig hi f g e
 | [],_::_,h=>h.elim
 | _::_,[],h=>h.elim
theorem callL{d f args argTypes ty pos af largs mi res mo res' em}(lt:List Nat)(ρ τ σ:List (Nat×Nat))(hlr:(lt.any λid=>ρ.any λe=>Nat.beq e.2 id)=false)(hf:FnOk X.P f largs mi res mo)(hpm:PlM mo)(hpr:Pl res')
 (ha:ArgL st mm ρ lt args largs) (hmi:∀ x c',lk mi x=some c'->∃ y c,lk ρ x=some y/\mm y=some c/\RnC ρ c c') (hρm:NmM mi ρ) (hρn:nodupB (ρ.map (·.2))=true)
 (hτ:Fresh mm τ) (hσ:SigT τ ρ σ) (hσn:nodupB (σ.map (·.2))=true) (hem:BackM σ ρ mo em) (hall:AllIn em (ρ.map (·.2))) (hall2:AllIn em (τ.map (·.1)))
 (hres:Rn σ res res') (hd:Nat.blt d X.N=true) :
 OpOk X st mm ⟨some d,.call { callee:=.value (.func f),args:=⟨args⟩,argTypes:=argTypes },ty,pos,af,none⟩ [(d,res')] em:=by
 obtain⟨⟨fn,hfn,hname,hbody⟩,hc⟩:=hf;intro a w γ K Q hi hK;let γc:Nm:=λx=>match lk ρ x with | some y=>γ y | none=>none
 have hgc:∀ x y,lk ρ x=some y->γc x=γ y:=λx y h=>by simp only[γc,h]
 let img:Nat->Prop:=λy=>∃ x,(x,y)∈ρ;let S0c:Nat->Prop:=λb=>X.S0 b\/∃ id c v,mm id=some c/\c.alive=true/\¬ img id/\lentB lt id=false/\γ id=some v/\blkOf v=some b;let LB:Nat->Prop:=λb=>∃ id c v,lentB lt id=true/\mm id=some c/\c.alive=true/\γ id=some v/\blkOf v=some b;have hli:∀ id,lentB lt id=true->¬ img id:=by
  rintro id h ⟨x,hx⟩;have:(lt.any λid=>ρ.any λe=>Nat.beq e.2 id)=true:=by obtain⟨z,hz,he⟩:=wu.1 h;have:id=z:=xx he;subst this;exact wu.2 ⟨id,hz,wu.2 ⟨(x,id),hx,oc⟩⟩
  rw[hlr] at this;cases this
 have hS0c:∀ b,S0c b->X.S γ mm b:=by rintro b (h | ⟨id,c,v,h1,h2,h3,h3',h4,h5⟩);exact .inl h;exact .inr ⟨id,c,v,h1,h2,h4,h5⟩
 have hOwc:∀ b,Ow γc (lk mi) b->∃ y c v,img y/\mm y=some c/\c.alive=true/\γ y=some v/\blkOf v=some b:=by rintro b ⟨x,c',v,h1,h2,h3,h4⟩;obtain⟨y,c,g1,g2,g3⟩:=hmi x c' h1;exact⟨y,c,v,⟨x,Qcx g1⟩,g2,g3.alive.1,by rw[<-hgc x y g1];exact h3,h4⟩
 have hOwS:∀ b,Ow γc (lk mi) b->X.S γ mm b:=λb h=>by obtain⟨y,c,v,h1,h2,h3,h4,h5⟩:=hOwc b h;exact .inr ⟨y,c,v,h2,h3,h4,h5⟩
 have hSc:∀ b,Sx S0c γc mi b->X.S γ mm b:=λb h=>h.elim (hS0c b) (hOwS b);have hS0lt:∀ b,S0c b->b<w.heap.size:=by rintro b (h | ⟨id,c,v,h1,h2,h3,h3',h4,h5⟩);exact xv (hi.s0 b h) hi.grow;exact(hi.mine b ⟨id,c,v,h1,h2,h4,h5⟩).2.1
 have hdis:∀ b,Ow γc (lk mi) b->¬ S0c b:=by intro b h hs;obtain⟨y,c,v,h1,h2,h3,h4,h5⟩:=hOwc b h;rcases hs with hs | ⟨id,c2,v2,g1,g2,g3,g3',g4,g5⟩;exact(hi.mine b ⟨y,c,v,h2,h3,h4,h5⟩).2.2 hs;have:=hi.apart y id c c2 v v2 b h2 h3 g1 g2 h4 g4 h5 g5;subst this;exact g3 h1
 have hLn:∀ id c v b,lentB lt id=true->mm id=some c->c.alive=true->γ id=some v->blkOf v=some b->¬ Sx S0c γc mi b:=by rintro id c v b h1 h2 h3 h4 h5 (h | h);rcases h with h | ⟨id2,c2,v2,g1,g2,g3,g3',g4,g5⟩;exact(hi.mine b ⟨id,c,v,h2,h3,h4,h5⟩).2.2 h;have:=hi.apart id id2 c c2 v v2 b h2 h3 g1 g2 h4 g4 h5 g5;subst this;rw[h1] at g3';cases g3';obtain⟨y,c2,v2,g1,g2,g3,g4,g5⟩:=hOwc b h;have:=hi.apart id y c c2 v v2 b h2 h3 g2 g3 h4 g4 h5 g5;subst this;exact hli id h1 g1
 have hcall:=hc w S0c γc (args.map a.eval).toArray hS0lt
  (λx hx=>by
   cases h:lk ρ x with
   | none=>simp only[γc,h]
   | some y=>obtain⟨c,hc⟩:=hρm.get x y h;rw[hx] at hc;cases hc)
  (λx c' hx=>by
   obtain⟨y,c,g1,g2,g3⟩:=hmi x c' hx;have h0:=hi.cts y c g2;have h1:Za w (Sx S0c γc mi) γ y c:=h0.mono (Kp.refl _ _) (λb hb=>.inl (hSc b hb)) (Ng.refl _) (λ_ _ _ _=>rfl)
   exact h1.rn hgc g1 g3)
  (λx x' c c' v v' b h1 h2 h3 h4 h5 h6 h7 h8=>by
   obtain⟨y,d,g1,g2,g3⟩:=hmi x c h1;obtain⟨y',d',g1',g2',g3'⟩:=hmi x' c' h3;rw[hgc x y g1] at h5;rw[hgc x' y' g1'] at h6;have:=hi.apart y y' d d' v v' b g2 g3.alive.1 g2' g3'.alive.1 h5 h6 h7 h8;subst this
   exact Qqv hρn (Qcx g1) (Qcx g1') g1 g1')
  (λb hb=>by
   obtain⟨y,c,v,h1,h2,h3,h4,h5⟩:=hOwc b hb
   exact⟨(hi.mine b ⟨y,c,v,h2,h3,h4,h5⟩).2.1,hdis b hb⟩)
  (by simpa using Q7s hi hgc hSc hLn ha) (hi.gw hSc)
 have hrun:(execOp a.eval ⟨some d,.call { callee:=.value (.func f),args:=⟨args⟩,argTypes:=argTypes },ty,pos,af,none⟩).run X.P w=.ok (.enter f (args.map a.eval).toArray) w:=by
  have e1:fn.body.isNone=false:=by cases h:fn.body<;>simp[h] at hbody |-
  have e2:¬ fn.name= "runtime.NumGoroutine":=by simpa using hname
  simp only[execOp,resolve,Act.eval];simp[Deferred.ofValue,invoke,callFunc,hfn,e2];intro e3;rw[e3] at e1;cases e1
 unfold Oper.wp;rw[hrun,Oper.upon_enter];refine hcall.mono ?_;rintro e w' ⟨v,γ',rfl,hb⟩;show K (a.put (some d) v) w';let γ'':Nm:=λy=>match lk τ y with | some x=>γ' x | none=>γ y
 have hnτ:∀ y c,mm y=some c->lk τ y=none:=λy c hy=>by
  cases h:lk τ y with
  | none=>rfl
  | some x=>rw[hτ.get y x h] at hy;cases hy
 have hng:Ng γ γ'':=by
  intro y u hu;cases h:lk τ y with
  | none=>simp only[γ'',h];exact hu
  | some x=>have:=hi.fresh y (hτ.get y x h);rw[this] at hu;cases hu
 have hg2:∀ y x,lk σ y=some x->γ'' y=γ' x:=by
  intro y x h;rcases hσ.get y x h with h1 | h1;simp only[γ'',h1];obtain⟨c',hc'⟩:=hρm.get x y h1;obtain⟨y2,c,g1,g2,g3⟩:=hmi x c' hc';rw[h1] at g1;simp at g1;subst g1;have hal:=g3.alive.1;have h0:=hi.cts y c g2;obtain⟨u,hu⟩:∃ u,γ y=some u:=by
   cases c with
   | gone=>simp[Ct.alive] at hal
   | sl E k ls=>obtain⟨u,_,hu,_⟩:=h0;exact⟨u,hu⟩
   | bx E ly=>obtain⟨g,_,hu,_⟩:=h0;exact⟨_,hu⟩
   | ob o=>obtain⟨g,hu,_⟩:=h0;exact⟨_,hu⟩
   | mp ks ls=>obtain⟨g,_,_,hu,_⟩:=h0;exact⟨_,hu⟩
  have e1:γ'' y=γ y:=by simp only[γ'',hnτ y c g2]
  rw[e1,hu];exact(hb.keep x u (by rw[hgc x y h1];exact hu)).symm
 let mm2:=up mm em;have hmm2:∀ y c,mm2 y=some c->lk em y=some c\/(lk em y=none/\mm y=some c):=by
  intro y c h;simp only[mm2,up] at h;cases he:lk em y with
  | none=>rw[he] at h;exact .inr ⟨rfl,h⟩
  | some c'=>rw[he] at h;exact .inl h
 have hnimg:∀ y,lk em y=none->¬ img y:=by rintro y h ⟨x,hx⟩;obtain⟨c,hc⟩:=hall.get y (xy.2 ⟨_,hx,rfl⟩);rw[h] at hc;cases hc
 have how:∀ b,Ow γ'' mm2 b->Ow γ' (lk mo) b\/S0c b\/LB b:=by
  rintro b ⟨y,c,u,h1,h2,h3,h4⟩;rcases hmm2 y c h1 with h | ⟨h,h'⟩;rcases hem.get y c h with ⟨x,c0,g1,g2,g3⟩ | ⟨rfl,_⟩;exact .inl ⟨x,c0,u,g2,g3.alive.1,by rw[<-hg2 y x g1];exact h3,h4⟩;simp[Ct.alive] at h2;have e1:γ'' y=γ y:=by simp only[γ'',hnτ y c h']
  rw[e1] at h3;cases hl:lentB lt y;exact .inr (.inl (.inr ⟨y,c,u,h',h2,hnimg y h,hl,h3,h4⟩));exact .inr (.inr ⟨y,c,u,hl,h',h2,h3,h4⟩)
 have hS2':∀ b,X.S γ'' mm2 b->X.S γ mm b\/w.heap.size<=b:=by rintro b (h | h);exact .inl (.inl h);rcases how b h with h | h | ⟨id,c,v,h0,h1,h2,h3,h4⟩;rcases(hb.mine b h).1 with h | h;exact .inr h;exact .inl (hOwS b h);exact .inl (hS0c b h);exact .inl (.inr ⟨id,c,v,h1,h2,h3,h4⟩)
 have hk:Kp (X.S γ mm) w w':=⟨hb.grow,λb hb' hn=>hb.old b hb' (λh=>hn (hOwS b h))⟩
 have hinv:Inv X st mm2 a w' γ'':={
  size:=hi.size,defs:=hi.defs,s0:=hi.s0,gx:=hi.gx,keep:=λid u hu=>hng id u (hi.keep id u hu)
  os:=hb.os.trans hi.os,tape:=hb.tape.trans hi.tape,output:=hb.output.trans hi.output,grow:=xo hi.grow hb.grow
  old:=by
   intro b hb' hM
   rw[hb.old b (xv hb' hi.grow) (λh=>by
    obtain⟨y,c,u,h1,h2,h3,h4,h5⟩:=hOwc b h;rcases(hi.mine b ⟨y,c,u,h2,h3,h4,h5⟩).1 with h | h;omega
    exact hM h)]
   exact hi.old b hb' hM
  fresh:=by
   intro y hy;have h1:lk em y=none:=by
    cases he:lk em y with
    | none=>rfl
    | some c=>simp only[mm2,up,he] at hy;cases hy
   have h2:mm y=none:=by simpa only[mm2,up,h1] using hy
   have h3:lk τ y=none:=by
    cases h:lk τ y with
    | none=>rfl
    | some x=>
      obtain⟨c,hc⟩:=hall2.get y (xy.2 ⟨_,Qcx h,rfl⟩);rw[h1] at hc;cases hc
   simp only[γ'',h3];exact hi.fresh y h2
  cts:=by intro y c hy;rcases hmm2 y c hy with h | ⟨h,h'⟩;rcases hem.get y c h with ⟨x,c0,g1,g2,g3⟩ | ⟨rfl,_⟩;have h0:=hb.cts x c0 g2;have h1:Za w' (X.S γ'' mm2) γ' x c0:=h0.pl (hpm.get g2);exact h1.rn hg2 g1 g3;trivial;by_cases hal:c.alive=true;refine(hi.cts y c h').mono hk hS2' hng ?_;intro u b hu hb';refine hb.old b (hi.mine b ⟨y,c,u,h',hal,hu,hb'⟩).2.1 (λho=>?_);obtain⟨y2,c2,u2,k1,k2,k3,k4,k5⟩:=hOwc b ho;have:=hi.apart y y2 c c2 u u2 b h' hal k2 k3 hu k4 hb' k5;subst this;exact hnimg y h k1;cases c<;>simp[Ct.alive] at hal;trivial
  apart:=by
   have cross:∀ y y' c c' u u' b,lk em y=some c->c.alive=true->lk em y'=none->mm y'=some c'->c'.alive=true->γ'' y=some u->γ'' y'=some u'->blkOf u=some b->blkOf u'=some b->False:=by
    intro y y' c c' u u' b h1 h2 h3 h4 h5 h6 h7 h8 h9;rcases hem.get y c h1 with ⟨x,c0,g1,g2,g3⟩ | ⟨rfl,_⟩;have e1:γ'' y'=γ y':=by simp only[γ'',hnτ y' c' h4]
    rw[e1] at h7;obtain⟨k1,_,k3⟩:=hb.mine b ⟨x,c0,u,g2,g3.alive.1,by rw[<-hg2 y x g1];exact h6,h8⟩;cases hl:lentB lt y';exact k3 (.inr ⟨y',c',u',h4,h5,hnimg y' h3,hl,h7,h9⟩);rcases k1 with k1 | k1;have:=(hi.mine b ⟨y',c',u',h4,h5,h7,h9⟩).2.1;omega;exact hLn y' c' u' b hl h4 h5 h7 h9 (.inr k1);simp[Ct.alive] at h2
   intro y y' c c' u u' b h1 h2 h3 h4 h5 h6 h7 h8;rcases hmm2 y c h1 with e1 | ⟨e1,e1'⟩<;>rcases hmm2 y' c' h3 with e2 | ⟨e2,e2'⟩;rcases hem.get y c e1 with ⟨x,c0,g1,g2,g3⟩ | ⟨rfl,_⟩;rcases hem.get y' c' e2 with ⟨x',c0',g1',g2',g3'⟩ | ⟨rfl,_⟩;rw[hg2 y x g1] at h5;rw[hg2 y' x' g1'] at h6;have:=hb.apart x x' c0 c0' u u' b g2 g3.alive.1 g2' g3'.alive.1 h5 h6 h7 h8;subst this;exact Qqv hσn (Qcx g1) (Qcx g1') g1 g1';simp[Ct.alive] at h4;simp[Ct.alive] at h2;exact(cross y y' c c' u u' b e1 h2 e2 e2' h4 h5 h6 h7 h8).elim;exact(cross y' y c' c u' u b e2 h4 e1 e1' h2 h6 h5 h8 h7).elim;have k1:γ'' y=γ y:=by simp only[γ'',hnτ y c e1']
   have k2:γ'' y'=γ y':=by simp only[γ'',hnτ y' c' e2']
   rw[k1] at h5;rw[k2] at h6;exact hi.apart y y' c c' u u' b e1' h2 e2' h4 h5 h6 h7 h8
  mine:=by
   intro b h;rcases how b h with h | h | ⟨id,c2,u2,k0,k1,k2,k4,k5⟩;obtain⟨g1,g2,g3⟩:=hb.mine b h;refine⟨?_,g2,λh'=>g3 (.inl h')⟩;rcases g1 with g1 | g1;exact .inl (xo hi.grow g1);obtain⟨y,c,u,k1,k2,k3,k4,k5⟩:=hOwc b g1;exact(hi.mine b ⟨y,c,u,k2,k3,k4,k5⟩).1;obtain⟨y,c,u,h1,h2,h3,h4⟩:=‹Ow γ'' mm2 b›;rcases h with h | ⟨id,c2,u2,k1,k2,k3,k3',k4,k5⟩;rcases hmm2 y c h1 with e1 | ⟨e1,e1'⟩;rcases hem.get y c e1 with ⟨x,c0,g1,g2,g3⟩ | ⟨rfl,_⟩;exact((hb.mine b ⟨x,c0,u,g2,g3.alive.1,by rw[<-hg2 y x g1];exact h3,h4⟩).2.2 (.inl h)).elim;simp[Ct.alive] at h2;have k1:γ'' y=γ y:=by simp only[γ'',hnτ y c e1']
   rw[k1] at h3;obtain⟨g1,g2,g3⟩:=hi.mine b ⟨y,c,u,e1',h2,h3,h4⟩;exact(g3 h).elim;obtain⟨g1,g2,g3⟩:=hi.mine b ⟨id,c2,u2,k1,k2,k4,k5⟩;exact⟨g1,xv g2 hb.grow,g3⟩;obtain⟨g1,g2,g3⟩:=hi.mine b ⟨id,c2,u2,k1,k2,k4,k5⟩;exact⟨g1,xv g2 hb.grow,g3⟩
  sts:=by
   intro i ly hly;obtain⟨u,hu,hl⟩:=hi.sts i ly hly
   exact⟨u,hu,Ly.val_mono hk hS2' hng ly u hl⟩ }
 have hv:res'.val w' (X.S γ'' mm2) γ'' v:=(hpr w' _ _ γ'').2 v ((hres w' _ γ' γ'' hg2).2 v hb.res);exact hK _ _ _ (hinv.put (by simpa using hd) hv)
end
def nilM(ys:List (Nat×Nat×Nat)):List (Nat×Ct):=ys.map λe=>(e.1,.sl e.2.1 e.2.2 [])
def NilIn(ys:List (Nat×Nat×Nat))(γ:Nm):Prop:=∀ e∈ys,γ e.1=some (.slice none 0 0)
def Q32(mm:Nat->Option Ct):List (Nat×Nat×Nat)->Prop
 | []=>True
 | e::r=>mm e.1=none/\Q32 mm r
theorem Q5u(mm:Nat->Option Ct)(i:Nat)(c:Ct)(l:List (Nat×Ct)):up mm ((i,c)::l)=up (up mm l) [(i,c)]:=by funext d;simp only[up,lk];cases Nat.beq i d<;>rfl
theorem Jdh{ys:List (Nat×Nat×Nat)}{y:Nat}(h:∀ e∈ys,e.1≠y):lk (nilM ys) y=none:=by
 induction ys with
 | nil=>rfl
 | cons e ys f=>
   have a:=h e vf;have hb:Nat.beq e.1 y=false:=by cases hb:Nat.beq e.1 y;rfl;exact absurd (xx hb) a
   simp only[nilM,yz,lk,hb,cond];exact f λe d=>h e (vz _ d)
theorem Inv.nils{X:Cx}{st a w}:∀(ys:List (Nat×Nat×Nat)) {γ mm},Inv X st mm a w γ->Q32 mm ys->nodupB (ys.map (·.1))=true->∃ γ',Inv X st (up mm (nilM ys)) a w γ'/\Ng γ γ'/\NilIn ys γ'/\∀ z,mm z=none->(∀ e∈ys,e.1≠z)->γ' z=none
 | [],γ,mm,hI,_,_=>⟨γ,hI,Ng.refl _,(λ_ h=>by cases h),λz r _=>hI.fresh z r⟩
 | e::ys,γ,mm,hI,j,hn=>by
   simp only[yz,nodupB,ug,gk] at hn;obtain⟨γ1,t,u,x,A⟩:=Inv.nils ys hI j.2 hn.2;have g:∀ f∈ys,f.1≠e.1:=by intro f d h;have:(ys.map (·.1)).any (Nat.beq e.1)=true:=wu.2 ⟨f.1,xy.2 ⟨f,d,rfl⟩,by rw[h];simp⟩;rw[this] at hn;simp at hn
   have k:up mm (nilM ys) e.1=none:=by simp only[up,Jdh g];exact j.1
   have:=t.new (w':=w) (y:=e.1) (ct:=.sl e.2.1 e.2.2 []) (v:=.slice none 0 0) rfl rfl rfl (Kp.refl _ _) k rfl
    (λS γ' _ _ _ q=>⟨_,[],q,⟨oc,.inl ⟨rfl,rfl⟩⟩,rfl,λ_ h=>by cases h⟩) (λb hb=>by simp[blkOf] at hb)
   rw[<-Q5u] at this;refine⟨_,this,?_,?_,?_⟩;intro id v n;have p:=u id v n;by_cases s:e.1=id;subst s;rw[hI.fresh e.1 j.1] at n;cases n;simp[Inv.gset,s,p];intro f d;rcases xu.1 d with rfl | d;simp[Inv.gset];have:=g f d;simp only[Inv.gset];rw[ol (λh=>this h.symm)];exact x f d;intro z r i;have:=i e vf;simp only[Inv.gset];rw[ol this];exact A z r λf d=>i f (vz _ d)
def inN(ys:List (Nat×Nat×Nat))(y:Nat):Bool:=ys.any λe=>Nat.beq e.1 y
def ZrO(ys:List (Nat×Nat×Nat))(ly:Ly)(cs:List Value):Prop:=∀ w S γ,NilIn ys γ->ly.hold w S γ cs
def ZrOs(ys:List (Nat×Nat×Nat))(l:List Ly)(cs:List Value):Prop:=∀ w S γ,NilIn ys γ->Ly.holds w S γ l cs
theorem zo_of{ys ly cs}(h:Zr ly cs):ZrO ys ly cs:=λw S γ _=>h w S γ
theorem Qhd{ys y}(h:inN ys y=true):ZrO ys (.own y) [.slice none 0 0]:=λw S γ hn=>by obtain⟨e,a,d⟩:=wu.1 h;have:=xx d;subst this;exact⟨_,rfl,hn e a,rfl⟩
theorem Jlv{ys y}:ZrO ys (.por y) [.pointer none]:=λ_ _ _ _=>⟨_,rfl,.inl rfl⟩
theorem Qk8{ys l cs}(h:ZrOs ys l cs):ZrO ys (.agg l) cs:=λw S γ hn=>by simp only[Ly.hold];exact h w S γ hn
theorem Qiy{ys}:ZrOs ys [] []:=λ_ _ _ _=>rfl
theorem Kw{ys ly l c1 a}(d:ZrO ys ly c1)(e:ZrOs ys l a):ZrOs ys (ly::l) (c1++a):=λw S γ hn=>⟨c1,a,rfl,d w S γ hn,e w S γ hn⟩
section ops
variable {X:Cx}{st:Nat->Option Ly}{mm:Nat->Option Ct}
theorem alOw{d T ty pos af y k b z ly}(ys:List (Nat×Nat×Nat))(u:TyI X.P T k b z)(E:ZrO ys ly z.cells.toList)(A:Q32 mm ys)(hn:nodupB (y::ys.map (·.1))=true)(C:mm y=none)(hd:Nat.blt d X.N=true):
 OpOk X st mm ⟨some d,.alloc T,ty,pos,af,none⟩ [(d,.own y)] ((y,.bx T ly)::nilM ys):=by
 intro a w γ K Q hI t;simp only[nodupB,ug,gk] at hn;obtain⟨γ1,r,F,s,H⟩:=hI.nils ys A hn.2;have p:∀ i∈ys,i.1≠y:=by intro i j h;have:(ys.map (·.1)).any (Nat.beq y)=true:=wu.2 ⟨i.1,xy.2 ⟨i,j,rfl⟩,by rw[h];simp⟩;rw[this] at hn;simp at hn
 have n:up mm (nilM ys) y=none:=by simp only[up,Jdh p];exact C
 have f:=r.new (w':=w.alloc (.cells z.cells T)) (y:=y) (ct:=.bx T ly) (v:=.pointer (some ⟨w.heap.size,0,none⟩)) rfl rfl rfl (Qh3 _ _ _) n rfl
  (λS γ' _ _ B q=>⟨w.heap.size,z.cells,q,Qny _ _,E _ _ _ (λe x=>B _ _ (s e x))⟩) (λb hb=>by simp[blkOf] at hb;subst hb;simp)
 rw[<-Q5u] at f;have g:(execOp a.eval ⟨some d,.alloc T,ty,pos,af,none⟩).run X.P w=.ok (.value (.pointer (some ⟨w.heap.size,0,none⟩))) (w.alloc (.cells z.cells T)):=by simp only[execOp];simp[Instr.alloc,Qeh u,newVar,newRow]
 unfold Oper.wp;rw[g];exact t _ _ _ (f.put (d:=d) (ly:=.own y) (by simpa using hd) ⟨by simp[Inv.gset],rfl⟩)
theorem bldO{d T parts ty pos af pl k b z p l}(ys:List (Nat×Nat×Nat))(y:Plc X.P T pl)(u:TyI X.P T k b z)(B:ZrO ys p z.cells.toList)(A:Q32 mm ys)(hn:nodupB (ys.map (·.1))=true)(hp:BPart st pl parts p (.agg l))(hd:Nat.blt d X.N=true):
 OpOk X st mm ⟨some d,.build T ⟨parts⟩,ty,pos,af,none⟩ [(d,.agg l)] (nilM ys):=by
 intro a w γ K Q j v;obtain⟨γ1,hI,q,t,C⟩:=j.nils ys A hn;obtain⟨fs,s,q⟩:=y;obtain⟨cells',g1,r⟩:=Qqp hI parts p (.agg l) z.cells hp (B _ _ _ t);have n:(fs.mapM (λf=>(do pure (f.offset,<-sizeOf f.type):Sem (Nat×Nat)))).run X.P w=.ok pl.toArray w:=by
  have e:fs.mapM (λf=>(do pure (f.offset,<-sizeOf f.type):Sem (Nat×Nat)))=List.toArray <$> (fs.toList.mapM (λf=>(do pure (f.offset,<-sizeOf f.type):Sem (Nat×Nat)))):=by
   conv=>lhs;rw[<-Array.toArray_toList (xs:=fs)]
   rw[List.mapM_toArray]
  rw[e];simp only[Sem.run_map,Qxe _ _ q,Result.andThen_ok]
 have g:(execOp a.eval ⟨some d,.build T ⟨parts⟩,ty,pos,af,none⟩).run X.P w=.ok (.value (.agg cells')) w:=by
  simp only[execOp,Instr.build];have hfill:Instr.fill (λi=>pl.toArray[i]?) z.cells (parts.map λ(i,x)=>(i,a.eval x))=some cells':=by simpa using g1
  simp only[Sem.run_bind,Qeh u,Result.andThen_ok,underlying,run_program,s,Sem.run_pure,n];simp only[List.map_toArray,hfill];rfl
 unfold Oper.wp;rw[g];exact v _ _ _ (hI.put (d:=d) (ly:=.agg l) (by simpa using hd) ⟨_,rfl,by simpa [Ly.hold] using r⟩)
def ub(b:UInt8):Ly:=u8 b.toNat
theorem if_ub{x}:IF (ub x):=Qiv _
def nilI:Ly:=.cell (cpX .nilIface rfl)
theorem Q5v:IF nilI:=Qiv _
theorem kNI:OpdF st (.const .nilIface) nilI:=λ_ _ _=>by simp[nilI,Ly.val,cpX]
theorem Q9w{w S γ}:∀(s:List UInt8),Ly.holds w S γ (s.map ub) (s.map λb=>Value.int .u8 b.toNat)
 | []=>rfl
 | b::s=>⟨[_],_,rfl,⟨_,rfl,rfl,by have:=b.toNat_lt;simp[IntKind.min,IntKind.signed],by have:=b.toNat_lt;simp[IntKind.max,IntKind.bits,IntKind.signed];omega⟩,Q9w s⟩
theorem appS{d s x T U ty pos af y id E b z}{xs e zs:List UInt8}(V:appM b xs e=some zs)(hm:mm id=some (.sl E 1 (xs.map ub)))(O:X.P.underlying T=some (.slice E))(hU:X.P.underlying U=some .string)(hE:TyI X.P E 1 b z)(r:z=.int .u8 0)(hb1:b=1)
 (hs:OpdF st s (.own id)) (hx:OpdF st x (str e)) (hy:mm y=none) (hd:Nat.blt d X.N=true) :
 OpOk X st mm ⟨some d,.call { callee:=.builtin .append,args:=#[s,x],argTypes:=#[T,U] },ty,pos,af,none⟩ [(d,.own y)] [(y,.sl E 1 (zs.map ub)),(id,.gone)]:=by
 subst r hb1;intro a w γ K Q hI hK;unfold appM at V;split at V
 case isFalse=>cases V
 rename_i hle;obtain⟨hbytes,h63⟩:=hle;cases V;obtain⟨i,hi,r,q,A⟩:=hE;obtain⟨v,cs,M,N,e3,e4⟩:=slI hI hm;obtain⟨hv,hv1⟩:=hs.val hI;have hvs:a.eval s=v:=by rw[hv] at M;simpa using M
 rw[ot] at N;obtain⟨hxv,hxl⟩:=hx.val hI;have f:(ByteArray.mk e.toArray).size=e.length:=by simp[ByteArray.size]
 have hsc:Lib.strCells ⟨e.toArray⟩=e.map λb=>Value.int .u8 b.toNat:=by simp[Lib.strCells]
 obtain⟨v',w',W,Y,C,r4⟩:=Lib.run_append_own_string (P:=X.P) w 0 T U ty E i O hU hi r q A v xs.length cs N ⟨e.toArray⟩ (by rw[f];unfold maxLen;omega) (by rw[f];omega) (yb _);rw[f,hsc] at Y;have hob:v.ownBlock=blkOf v:=by rcases N.2 with ⟨rfl,_⟩ | ⟨g,cap,cur,rfl,_⟩<;>rfl
 have L:(execOp a.eval ⟨some d,.call { callee:=.builtin .append,args:=#[s,x],argTypes:=#[T,U] },ty,pos,af,none⟩).run X.P w=.ok (.value v') w':=by simp only[execOp,resolve];simp[invoke,builtin,hvs,hxv,W]
 have hk:Kp (λb=>blkOf v=some b) w w':=⟨C.size,λb n hn=>C.block b n (by rw[hob];exact λh=>hn h.symm)⟩
 have hkS:Kp (X.S γ mm) w w':=⟨C.size,λb n hn=>hk.2 b n (λh=>hn (.inr ⟨id,_,v,hm,rfl,M,h⟩))⟩
 have J:v'.oneCell'=true:=by rcases Y.2 with ⟨rfl,_⟩ | ⟨g,cap,cur,rfl,_⟩<;>rfl
 have F:∀ b,blkOf v'=some b->(blkOf v=some b\/w.heap.size<=b):=by
  intro b hb;rcases N with ⟨H,⟨rfl,hn0⟩ | ⟨g,k,cur,rfl,_,Z,g3,g4,g5,g6⟩⟩
  . obtain⟨v2,w2,q1,q2,_,_⟩:=Lib.run_append_own_string (P:=X.P) w w.heap.size T U ty E i O hU hi r q A (.slice none 0 0) xs.length cs ⟨H,.inl ⟨rfl,hn0⟩⟩ ⟨e.toArray⟩ (by rw[f];unfold maxLen;omega) (by rw[f];omega) (xm _)
    rw[W] at q1;obtain⟨rfl,rfl⟩:v'=v2/\w'=w2:=by simpa using q1
    rcases q2.2 with ⟨rfl,_⟩ | ⟨g,cap1,cur1,rfl,hge,_⟩
    . simp[blkOf] at hb
    . simp[blkOf] at hb;subst hb;exact .inr hge
  . have t:Src X.P i.size U (.string ⟨e.toArray⟩) (ByteArray.mk e.toArray).size (byteCells ⟨e.toArray⟩) w:=by rw[q];exact Src.ofString w hU _
    by_cases hroom:xs.length+e.length<=k
    . have p:=run_append_room_src (P:=X.P) w T U ty E i O hi g 0 xs.length k _ _ _ t (by rw[f];exact hroom)
       (λj B=>by
        rw[byteCells_length,f] at B;rw[Xa Z,q];have:0+xs.length*1+j<cur.size:=om
        rw[vr this];rfl)
       (λj B=>by simp[World.frozen?,Z])
      rw[W] at p;simp at p;rw[p.1] at hb;exact .inl hb
    . have hold:(Builtin.firstCells i.size xs.length (.slice (some ⟨g,0,none⟩) xs.length k)).run X.P w.drew=.ok cs.toArray w.drew:=
       run_firstCells_some w.drew i.size xs.length ⟨g,0,none⟩ xs.length k cs (by rw[q];exact H) (λj u B=>by
        rw[add0,xg];have:w.drew.cell? ⟨g,j,none⟩=w.cell? ⟨g,j,none⟩:=rfl;rw[this,Xa Z,<-yf];rw[<-g6,uh] at B;split at B
        . exact B
        . cases B)
      have p:=run_append_grow_src (P:=X.P) w T U ty E i _ O hi r (some ⟨g,0,none⟩) xs.length k cs hold _ _ _ t (by rw[f];omega) (by rw[f];omega) (growslice_fits (by rw[f];omega) (by rw[A,f];omega));rw[W] at p;simp at p;rw[p.1] at hb;simp[blkOf] at hb;subst hb;exact .inr (xm _)
 unfold Oper.wp;rw[L]
 have I:=hI.replace C.os C.tape C.output hm rfl M hk (y:=y) (ct:=.sl E 1 ((xs++e).map ub)) (v':=v') hy rfl
  (λS γ' hS hng hy'=>by
   refine⟨v',cs++e.map (λb=>Value.int .u8 b.toNat),hy',by simpa using Y,?_,?_⟩
   . rw[yx]
     exact Qk7 (Ly.holds_mono hkS hS hng _ _ e3) (Q9w _)
   . intro ly hly
     obtain⟨x,_,rfl⟩:=xy.1 hly;rfl)
  (λb n=>⟨F b n,by
   rcases Y.2 with ⟨rfl,_⟩ | ⟨g,cap,cur,rfl,_,h2,_⟩
   . simp[blkOf] at n
   . simp[blkOf] at n;subst n
     rcases xt g w'.heap.size with h | h
     . exact h
     . simp[uy h] at h2⟩)
 exact hK _ _ _ (I.put (d:=d) (v:=v') (ly:=.own y) (by simpa using hd) ⟨by simp[Inv.gset],J⟩)
end ops
theorem Inv.dropc{X:Cx}{st mm a w γ}(h:Inv X st mm a w γ){w':World}(F:w'.os=w.os)(O:w'.tape=w.tape)(t:w'.output=w.output){id:Nat}{c:Ct}{v:Value}(r:mm id=some c)(E:c.alive=true)(H:γ id=some v)
 (hk:Kp (λb=>blkOf v=some b) w w'):Inv X st (up mm [(id,.gone)]) a w' γ:=by
 have y:∀ b,Ow γ (up mm [(id,.gone)]) b->∃ i j u,i≠id/\mm i=some j/\j.alive=true/\γ i=some u/\blkOf u=some b:=by rintro b ⟨i,j,u,f,p,k,q⟩;rw[Wt] at f;by_cases e:id=i;simp[e] at f;subst f;simp[Ct.alive] at p;simp[e] at f;exact⟨i,j,u,λA=>e A.symm,f,p,k,q⟩
 have J:∀ b,X.S γ (up mm [(id,.gone)]) b->X.S γ mm b:=λb h=>orM h (λx=>x) (λh=>by obtain⟨i,j,u,_,f,p,k,q⟩:=y b h;exact⟨i,j,u,f,p,k,q⟩)
 have s:Kp (X.S γ mm) w w':=⟨hk.1,λb hb hn=>hk.2 b hb (λe=>hn (.inr ⟨id,c,v,r,E,H,e⟩))⟩
 refine { h with os:=F.trans h.os,tape:=O.trans h.tape,output:=t.trans h.output,grow:=xo h.grow hk.1,old:=?_,fresh:=?_,cts:=?_,apart:=?_,mine:=?_,sts:=?_ };intro b hb I
 rw[hk.2 b (xv hb h.grow) (λe=>by
  rcases(h.mine b ⟨id,c,v,r,E,H,e⟩).1 with f | f;omega
  exact I f)]
 exact h.old b hb I;intro i hi;rw[Wt] at hi;by_cases e:id=i;simp[e] at hi;simp[e] at hi;exact h.fresh i hi;intro i j g;rw[Wt] at g;by_cases e:id=i;simp[e] at g;subst g;trivial;simp[e] at g;by_cases n:j.alive=true;refine(h.cts i j g).mono s (λb hb=>.inl (J b hb)) (Ng.refl _) ?_;intro u b B hb;exact hk.2 b (h.mine b ⟨i,j,u,g,n,B,hb⟩).2.1 (λC=>e (h.apart id i c j v u b r E g n H B C hb));cases j<;>simp[Ct.alive] at n;trivial;intro i K c1 L u P b f p k q;rw[Wt] at f k;by_cases e:id=i;simp[e] at f;subst f;simp[Ct.alive] at p;by_cases A:id=K;simp[A] at k;subst k;simp[Ct.alive] at q;simp[e] at f;simp[A] at k;exact h.apart i K c1 L u P b f p k q;intro b hb;obtain⟨i,j,u,_,f,p,k,q⟩:=y b hb;obtain⟨g1,M,g3⟩:=h.mine b ⟨i,j,u,f,p,k,q⟩;exact⟨g1,xv M hk.1,g3⟩;intro d ly hd;obtain⟨u,B,N⟩:=h.sts d ly hd;exact⟨u,B,Ly.val_mono s (λb hb=>.inl (J b hb)) (Ng.refl _) ly u N⟩
theorem Qki{P:Program}{d f:Nat}{args:List Operand}{argTypes ty pos af}{a:Act}{w:World}{K:Act->World->Prop}{Q:Exit->Act->World->Prop}{R:Ending->World->Prop}
 (hf:∃ fn,P.funcs[f]?=some fn∧(fn.name == "runtime.NumGoroutine")=false∧fn.body.isSome=true) (hc:Calls P f (args.map a.eval).toArray w R)
 (hK:∀ e w',R e w'->∃ v,e=.returned v/\K (a.put (some d) v) w') :
 Oper.wp P ⟨some d,.call { callee:=.value (.func f),args:=⟨args⟩,argTypes:=argTypes },ty,pos,af,none⟩ a w K Q:=by
 obtain⟨fn,hfn,hname,hbody⟩:=hf;have hrun:(execOp a.eval ⟨some d,.call { callee:=.value (.func f),args:=⟨args⟩,argTypes:=argTypes },ty,pos,af,none⟩).run P w=.ok (.enter f (args.map a.eval).toArray) w:=by
  have e1:fn.body.isNone=false:=by cases h:fn.body<;>simp[h] at hbody |-
  have e2:¬ fn.name= "runtime.NumGoroutine":=by simpa using hname
  simp only[execOp,resolve,Act.eval];simp[Deferred.ofValue,invoke,callFunc,hfn,e2];intro e3;rw[e3] at e1;cases e1
 unfold Oper.wp;rw[hrun,Oper.upon_enter];refine hc.mono ?_;intro e w' hR;obtain⟨v,rfl,hk⟩:=hK e w' hR;exact hk
def Turns(g:Option Nat)(w w':World):Prop:=w'.os=w.os/\w'.tape=w.tape/\w'.output=w.output/\Kp (λb=>g=some b) w w'
theorem Jdi{P:Program}{f:Nat}{args:List Ly}{res:Ly}(hf:∃ fn,P.funcs[f]?=some fn∧(fn.name == "runtime.NumGoroutine")=false∧fn.body.isSome=true)
 (h:∀ w S γ (vs:Array Value),Ly.vals w S γ args vs.toList->Calls P f vs w λe w'=>∃ v,e=.returned v/\w'=w/\res.val w S γ v):FnOk P f args [] res []:=by
 refine⟨hf,λw S0 γ vs h1 h2 h3 h4 h5 h6 _=>(h w _ γ vs h6).mono ?_⟩;rintro e w' ⟨v,rfl,rfl,hv⟩;exact⟨v,γ,rfl,⟨rfl,rfl,rfl,xm _,λ_ _ _=>rfl,Ng.refl _,h2,(λ_ _ h=>by cases h),(λ_ _ _ _ _ _ _ h=>by cases h),(λb ⟨_,_,_,h,_⟩=>by cases h),hv⟩⟩
section
variable {R:Type}{X:Cx}{l:List (Nat×Ly)}{m:List (Nat×Ct)}{md:Option R}{Q:R->Exit->Act->World->Prop}
theorem sscp{c:Code}(h:Sq X l m md (λr=>c.wp X.P (Exit.noGoto (Q r)))):Sq X l m md (λr=>(Code.scope c).wp X.P (Q r)):=λr a w γ hr hi=>wp_scope_straight (h r a w γ hr hi)
theorem slab{i:Nat}(h:Sq X l m md (λr=>Q r .normal)):Sq X l m md (λr=>(Code.label i).wp X.P (Q r)):=λr a w γ hr hi=>wp_label (h r a w γ hr hi)
theorem pgr(h:Sq X l m md (λr=>Q r .ret)):Sq X l m md (λr=>Exit.noGoto (Q r) .ret):=h
end
section ops
variable {X:Cx}{st:Nat->Option Ly}{mm:Nat->Option Ct}
theorem negU{d x T ty pos af p k N}(e:UK k N)(hd:Nat.blt d X.N=true)(i:OpdF st x (uk k p)):
 OpOk X st mm ⟨some d,.unOp .neg T x,ty,pos,af,none⟩ [(d,uk k ((N - p)%N))] []:=
 Xj hd λa w γ hi=>by
  obtain⟨f,_,g⟩:=i.val hi;rw[e.max] at g;have:(0 - (p:Int))%(N:Int)=(((N - p)%N:Nat):Int):=by rw[Int.natCast_emod,Int.ofNat_sub om,show(0:Int) - p=(N:Int) - p+(-1)*N by omega,Int.add_mul_emod_self_right]
  refine⟨.int k (((N - p)%N:Nat):Int),by simp only[execOp,f];simp only[Op.unary,Op.intArith,e.wrap,this];rfl,rfl,uk_b e _ (vn _ e.pos)⟩
def andZ(p q:Int):Int:=((BitVec.ofInt 64 p &&& BitVec.ofInt 64 q).toNat:Int)
theorem andI{d x y T a ty pos af p q}(hd:Nat.blt d X.N=true)(e:OpdF st x (i64 p))(f:OpdF st y (i64 q)):
 OpOk X st mm ⟨some d,.binOp .and T x y a,ty,pos,af,none⟩ [(d,i64 (wrap64 (andZ p q)))] []:=arI (λw=>by simp only[binOp,Op.intBits,Qmw,andZ];rfl) rfl hd e f
end ops
theorem Qsm{σ y x off len}(h:lk σ y=some x):Rn σ (.win x off len) (.win y off len):=λw S γ γ' d=>by have:=d y x h;exact⟨λcs g=>by obtain⟨v,rfl,v0,g1,a⟩:=g;exact⟨v,rfl,v0,by rw[this];exact g1,a⟩,λv g=>by simp only[Ly.val] at g |-;obtain⟨v0,g1,a⟩:=g;exact⟨v0,by rw[this];exact g1,a⟩⟩
theorem owW{R:Type}{X:Cx}{l:List (Nat×Ly)}{m:List (Nat×Ct)}{md:Option R}{G:R->Act->World->Prop}(d:Nat){id E ls n}(hd:lk l d=some (.own id))(s:lk m id=some (.sl E 1 ls))(hn:n=ls.length)
 (K:Sq X ((d,.win id 0 n)::l) m md G):Sq X l m md G:=by
 subst hn;intro r a w γ hr hi;refine K r a w γ hr { hi with sts:=λi ly h=>?_ };simp only[lk] at h;cases hb:Nat.beq d i;rw[hb] at h;exact hi.sts i ly h;rw[hb] at h;have:d=i:=xx hb;subst this;simp only[cond,Option.some.injEq] at h;subst h;obtain⟨v,k,f,_⟩:=hi.sts d _ hd;refine⟨v,k,?_⟩;obtain⟨u,cs,e,⟨t,j⟩,_⟩:=slI hi s;rw[f] at e;cases e;refine⟨v,f,?_⟩;rcases j with ⟨rfl,hn⟩ | ⟨g,cap,cur,rfl,_,_,p,q,_⟩;exact .inl ⟨rfl,rfl,hn⟩;exact .inr ⟨g,cap,0,rfl,rfl,λ_=>rfl,p,q⟩
def winS(i:Int)(len:Nat):Bool:=decide (0<=i) && decide (i<len)
def winC(lo hi:Int)(len:Nat):Bool:=decide (0<=lo) && (decide (lo<=hi) && decide (hi<=len))
def subW{α:Type}(xs:List α)(off len:Nat):Option (List α):=if off+len<=xs.length then some ((xs.drop off).take len) else none
theorem Jjv{α:Type}{xs:List α}{off len y}(h:subW xs off len=some y):off+len<=xs.length:=by unfold subW at h;split at h;assumption;cases h
theorem Qxg{α:Type}{f:α->Ly}{xs:List α}{off len y}(h:subW xs off len=some y):off+len<=(xs.map f).length:=by rw[ot];exact Jjv h
theorem Qxh{α:Type}{f:α->Ly}{xs:List α}{off len y}(h:subW xs off len=some y):sli 1 (y.map f)=sli 1 (((xs.map f).drop off).take len):=by unfold subW at h;split at h;cases h;rw[<-gn,<-wh];cases h
theorem frzW{R:Type}{X:Cx}{l:List (Nat×Ly)}{m:List (Nat×Ct)}{md:Option R}{G:R->Act->World->Prop}(d:Nat){id off len E}{α:Type}{f:α->Ly}{xs y:List α}(hs:subW xs off len=some y)
 (hd:lk l d=some (.win id off len)) (L:lk m id=some (.sl E 1 (xs.map f))) (I:IFs (xs.map f)) (K:Sq X ((d,sli 1 (y.map f))::l) ((id,.gone)::m) md G):Sq X l m md G:=by
 intro r a w γ hr hi;rw[Qxh hs] at K;refine K r a w γ hr ?_;have hle:=Qxg (f:=f) hs;generalize xs.map f=ls at *;obtain⟨v,cs,A,⟨e2,q⟩,T,B⟩:=slI hi L;obtain⟨S,t1,v0,N,U⟩:=hi.sts d _ hd;rw[A] at N;cases N;have F:=hi.drop id;have Z:∀ b,X.S γ (up (lk m) [(id,.gone)]) b->X.S γ (lk m) b:=by rintro b (h | ⟨i,x,u,s,t,O,P⟩);exact .inl h;rw[Wt] at s;by_cases e:id=i;simp[e] at s;subst s;simp[Ct.alive] at t;simp[e] at s;exact .inr ⟨i,x,u,s,t,O,P⟩
 have H:Ly.holds w (X.S γ (up (lk m) [(id,.gone)])) (λ_=>none) ls cs:=Ly.holds_mono (Kp.refl _ _) (λb hb=>.inl (Z b hb)) (Ng.refl _) _ _ ((I w _ γ (λ_=>none)).1 _ T);obtain⟨_,s2⟩:=Qei off H B;obtain⟨s3,_⟩:=Qei len s2 (λly J=>B ly (vv J));have hp:(sli 1 ((ls.drop off).take len)).val w (X.S γ (up (lk m) [(id,.gone)])) γ S:=by
  rcases U with ⟨f3,f4,f5⟩ | ⟨g,cap,o,f3,f4,W,f5,V⟩;rw[f3];subst f5;exact .inl ⟨rfl,oc⟩;rcases q with ⟨q,_⟩ | ⟨C,M,cur,q,_,t,O,P,h5,Y⟩;rw[q] at f3;simp[blkOf] at f3;subst q;simp[blkOf] at f3;subst f3;have hmine:=hi.mine C ⟨id,_,_,L,rfl,A,rfl⟩;have p:((ls.drop off).take len).length=len:=oh
  rw[f4];refine .inr (.inl ⟨C,o,cap,(cs.drop (off*1)).take (len*1),?_,?_,V,hmine.2.1,?_,λj u n=>?_,s3,λly J=>B ly (vv (ym J))⟩);rw[p];rw[p];exact f5;rintro(h | ⟨i,x,u,k1,k2,k3,k4⟩);exact hmine.2.2 h;rw[Wt] at k1;by_cases e:id=i;simp[e] at k1;subst k1;simp[Ct.alive] at k2;simp[e] at k1;exact e (hi.apart id i _ x _ u C L rfl k1 k2 A k3 rfl k4);rw[Xa t,<-yf];rw[uh] at n;split at n;rw[W om];rw[vk,<-Y,uh] at n;split at n;rw[Nat.mul_one] at n;exact n;cases n;cases n
 have k:Inv X (lk l) (lk ((id,.gone)::m)) a w γ:=by have:=F;rwa [up_lk] at this
 refine { k with sts:=λi ly h=>?_ };simp only[lk] at h;cases hb:Nat.beq d i;rw[hb] at h;exact k.sts i ly h;rw[hb] at h;have:d=i:=xx hb;subst this;simp only[cond,Option.some.injEq] at h;subst h;refine⟨S,t1,?_⟩;have e:X.S γ (lk ((id,.gone)::m))=X.S γ (up (lk m) [(id,.gone)]):=by rw[up_lk];rfl
 rw[e];exact hp
section ops
variable {X:Cx}{st:Nat->Option Ly}{mm:Nat->Option Ct}
theorem lenW{d x T ty pos af E id off len}(e:X.P.underlying T=some (.slice E))(hd:Nat.blt d X.N=true)(i:OpdF st x (.win id off len)):
 OpOk X st mm ⟨some d,.call { callee:=.builtin .len,args:=#[x],argTypes:=#[T] },ty,pos,af,none⟩ [(d,i64 (len:Nat))] []:=
 Q3w hd i λa w γ hi v f=>by obtain⟨v0,_,⟨rfl,_,rfl⟩ | ⟨g,cap,o,_,rfl,_,j,k⟩⟩:=f;exact⟨by unfold Builtin.len_;simp[underlying,e,goInt],len_b (yb _)⟩;exact⟨by unfold Builtin.len_;simp[underlying,e,goInt],len_b om⟩
theorem ixW{v:IntKind}{d x i T ty pos af E E' b z p id}{off len:Nat}{α:Type}{f:α->Ly}{xs:List α}{y:α}(j:winS p len=true)(_:mm id=some (.sl E' 1 (xs.map f)))(s:X.P.underlying T=some (.slice E))(r:TyI X.P E 1 b z)(_:getI xs ((off:Int)+p)=some y)
 (hd:Nat.blt d X.N=true) (u:OpdF st x (.win id off len)) (hi:OpdF st i (.cell (cpI v p))) :
 OpOk X st mm ⟨some d,.indexAddr T x i,ty,pos,af,none⟩ [(d,.ptr id (Int.toNat ((off:Int)+p)*1))] []:=
 Xj hd λa w γ hI=>by simp only[winS,ug,gr] at j;obtain⟨h0,t⟩:=j;obtain⟨g1,_⟩:=hi.val hI;obtain⟨v0,k,⟨_,_,h⟩ | ⟨g,cap,o,n,e,q,A,B⟩⟩:=u.val hI;omega;rw[q om] at e;refine⟨.pointer (some ⟨g,Int.toNat ((off:Int)+p)*1,none⟩),?_,v0,g,k,n,rfl⟩;simp only[execOp,e,g1];rw[show Int.toNat ((off:Int)+p)*1=off+p.toNat*1 by omega];simp[Instr.indexAt,asIntOf,underlying,s,h0,t,V7 r,add0]
theorem slW{d x lo hi T ty pos af E E' b z p q id off len}{ls:List Ly}(y:winC p q len=true)(_:mm id=some (.sl E' 1 ls))(s:X.P.underlying T=some (.slice E))(r:TyI X.P E 1 b z)
 (hd:Nat.blt d X.N=true) (C:OpdF st x (.win id off len)) (u:BndF st 0 lo p) (t:BndF st len hi q) :
 OpOk X st mm ⟨some d,.slice T x lo hi none,ty,pos,af,none⟩ [(d,.win id (off+p.toNat) (q.toNat - p.toNat))] []:=
 Xj hd λa w γ hI=>by
  simp only[winC,ug,gr] at y;obtain⟨h0,B,I⟩:=y;have f:(lo.map a.eval=none/\p=0)\/∃ i,lo.map a.eval=some (.int i p):=by rcases Qn7 hI u with ⟨rfl,h⟩ | ⟨x,i,rfl,h⟩;exact .inl ⟨rfl,h⟩;exact .inr ⟨i,by simp[h]⟩
  have e:(hi.map a.eval=none/\q=(len:Nat))\/∃ i,hi.map a.eval=some (.int i q):=by rcases Qn7 hI t with ⟨rfl,h⟩ | ⟨x,i,rfl,h⟩;exact .inl ⟨rfl,h⟩;exact .inr ⟨i,by simp[h]⟩
  obtain⟨v0,n,⟨j,k,rfl⟩ | ⟨g,cap,o,j,k,A,F,H⟩⟩:=C.val hI;obtain rfl:q=0:=om
  obtain rfl:p=0:=om
  refine⟨.slice none 0 0,?_,v0,n,.inl ⟨rfl,k,rfl⟩⟩;have:=Qbh (P:=X.P) (w:=w) (isS:=true) (len:=0) (cap:=0) f e om om om;simp only[execOp,j];simp[Instr.sliceAt,Instr.slice,underlying,s,this,V7 r];have hb:=Qbh (P:=X.P) (w:=w) (isS:=true) (len:=len) (cap:=cap) f e h0 B om;by_cases v:cap=p.toNat;subst v;refine⟨.slice (some ⟨g,o,none⟩) (q.toNat - p.toNat) (p.toNat - p.toNat),?_,v0,n,.inr ⟨g,p.toNat - p.toNat,o,j,rfl,λh=>om,om,om⟩⟩;simp only[execOp,k];simp[Instr.sliceAt,Instr.slice,underlying,s,hb,V7 r];refine⟨.slice (some ⟨g,o+p.toNat*1,none⟩) (q.toNat - p.toNat) (cap - p.toNat),?_,v0,n,.inr ⟨g,cap - p.toNat,o+p.toNat*1,j,rfl,λh=>by rw[A om];omega,om,om⟩⟩;simp only[execOp,k];simp[Instr.sliceAt,Instr.slice,underlying,s,hb,V7 r,v,add0]
end ops
def methRow(P:Program)(T:Nat)(a:String):Option (Bool×Option (Nat×Bool)):=(P.info? T).bind λi=>(i.methods.find? (·.name == a)).map λm=>(m.path.isEmpty,m.func)
def MethF(P:Program)(T:Nat)(a:String)(f:Nat):Prop:=methRow P T a=some (true,some (f,false))/\∃ fs,P.underlying T=some (.struct fs)
section call
variable {X:Cx}{st:Nat->Option Ly}{mm:Nat->Option Ct}
theorem Jeg{P:Program}{w:World}{T:Nat}{e:String}{f k:Nat}{u:Value}(r:MethF P T e f):(method (k+1) T u e).run P w=.ok (f,u) w:=by
 obtain⟨hr,fs,q⟩:=r;obtain⟨i,m,d,a,n,p⟩:∃ i m,P.info? T=some i/\i.methods.find? (·.name == e)=some m/\m.path=#[]/\m.func=some (f,false):=by
  unfold methRow at hr;cases d:P.info? T with
  | none=>rw[d] at hr;cases hr
  | some i=>
    rw[d] at hr;simp only[xq] at hr;cases a:i.methods.find? (·.name == e) with
    | none=>rw[a] at hr;cases hr
    | some m=>
      rw[a] at hr;simp only[Option.map_some,Option.some.injEq,Prod.mk.injEq] at hr;exact⟨i,m,rfl,a,by simpa using hr.1,hr.2⟩
 unfold method;have g:(typeInfo T).run P w=.ok i w:=by simp[typeInfo,d]
 have j:(underlying T).run P w=.ok (.struct fs) w:=by simp[underlying,q]
 simp only[Sem.run_bind,g,Result.andThen_ok,a,n,p];simp[follow,receiverAt,j,Place.get]
theorem mkIf{d T x ty pos af ly fs}(e:X.P.underlying T=some (.struct fs))(hd:Nat.blt d X.N=true)(f:OpdF st x ly):
 OpOk X st mm ⟨some d,.makeInterface T x,ty,pos,af,none⟩ [(d,.ifc T ly)] []:=
 Xj hd λa w γ hi=>by refine⟨.iface T (a.eval x),?_,⟨_,rfl,f.val hi⟩⟩;simp only[execOp];simp[Instr.makeInterface,underlying,e]
theorem callI{d r nm T f args argTypes ty pos af ly0 ly1 largs mi res mo res' em}(ρ τ σ:List (Nat×Nat))(hr:OpdF st r (.ifc T ly0))(hm:MethF X.P T nm f)(hf:FnOk X.P f (ly1::largs) mi res mo)(hr1:Rn ρ ly0 ly1)
 (ha:ArgF st ρ args largs) (hmi:∀ x c',lk mi x=some c'->∃ y c,lk ρ x=some y/\mm y=some c/\RnC ρ c c') (hρm:NmM mi ρ) (hρn:nodupB (ρ.map (·.2))=true)
 (hτ:Fresh mm τ) (hσ:SigT τ ρ σ) (hσn:nodupB (σ.map (·.2))=true) (hem:BackM σ ρ mo em) (hall:AllIn em (ρ.map (·.2))) (hall2:AllIn em (τ.map (·.1)))
 (hres:Rn σ res res') (hd:Nat.blt d X.N=true) :
 OpOk X st mm ⟨some d,.call { callee:=.invoke r nm,args:=⟨args⟩,argTypes:=argTypes },ty,pos,af,none⟩ [(d,res')] em:=by
 refine callR ρ τ σ hf rfl (λfn hfn hname hbody a w γ hi=>?_) hmi hρm hρn hτ hσ hσn hem hall hall2 hres hd;obtain⟨u,hu,hu2⟩:=hr.val hi;refine⟨#[u]++(args.map a.eval).toArray,?_,fun γc S hgc hSc=>?_⟩;have e1:fn.body.isNone=false:=by cases h:fn.body<;>simp[h] at hbody |-
 have e2:¬ fn.name= "runtime.NumGoroutine":=by simpa using hname
 have hm':(method (X.P.types.size+Made.depth) T u nm).run X.P w=.ok (f,u) w:=Jeg (k:=X.P.types.size+(Made.depth - 1)) hm;simp only[execOp,resolve];simp[invoke,callMethod,hu,hm',callFunc,hfn,e2];have e3:¬ fn.body=none:=by intro h;rw[h] at e1;cases e1
 rw[ol e3,xb oc];simp only[Array.toList_append,yj,yw,Ly.vals];refine⟨u,_,rfl,Ly.val_mono (Kp.refl _ _) (λb hb=>.inl (hSc b hb)) (Ng.refl _) _ _ ((hr1 w _ γ γc hgc).2 _ hu2),by simpa using Qt4 hi hgc hSc ha⟩
end call
theorem Qmy:Zr (.por 0) [.pointer none]:=λ_ _ _=>⟨_,rfl,.inl rfl⟩
theorem kAny{st:Nat->Option Ly}{v:Value}:OpdF st (.const v) .any:=λ_ _ _=>trivial
theorem szk{a b k:Nat}(d:a=k)(e:b=k):a=b:=d.trans e.symm
theorem slpk{R τ:Type}{X:Cx}{l m}{k:τ->Option R}{t:τ}{G:R->Act->World->Prop}(h:Sq X l m (k t) G):Sq X l m (lpK k (.go t)) G:=h
def cpE(b:Bool):CP where
 p:=λ_ _ v=>(b=false/\v=.nilIface)\/(b=true/\∃ t u,v=.iface t u)
 one:=by rintro _ _ v (⟨_,rfl⟩ | ⟨_,t,u,rfl⟩)<;>rfl
 mono:=λh _ _=>h
def erl(b:Bool):Ly:=.cell (cpE b)
theorem Jlw{b}:IF (erl b):=Qiv _
section ops
variable {X:Cx}{st:Nat->Option Ly}{mm:Nat->Option Ct}
end ops
theorem Q33{P:Program}{f:Nat}{args:List Ly}{res:Ly}(hf:∃ fn,P.funcs[f]?=some fn∧(fn.name == "runtime.NumGoroutine")=false∧fn.body.isSome=true)
 (h:∀ w S γ (vs:Array Value),(∀ b,S b->b<w.heap.size)->GF w->Ly.vals w S γ args vs.toList->Calls P f vs w λe w'=>∃ v,e=.returned v/\Below w.heap.size w w'/\res.val w' S γ v):FnOk P f args [] res []:=by
 refine⟨hf,λw S0 γ vs h1 h2 h3 h4 h5 h6 h7=>(h w (Sx S0 γ []) γ vs (λb hb=>hb.elim (h1 b) (λ⟨_,_,_,h,_⟩=>by cases h)) h7.2 h6).mono ?_⟩;rintro e w' ⟨v,rfl,hb,hv⟩;exact⟨v,γ,rfl,⟨hb.os,hb.tape,hb.output,hb.size,λb hb' _=>hb.block b hb',Ng.refl _,h2,(λ_ _ h=>by cases h),(λ_ _ _ _ _ _ _ h=>by cases h),(λb ⟨_,_,_,h,_⟩=>by cases h),hv⟩⟩
theorem Jjw{w:World}{S:Nat->Prop}{γ:Nm}{E:TypeId}{a:List (List UInt8)}(e:∀ b,S b->b<w.heap.size)(i:∀ x∈a,x.length<=maxLen)(hn:a.length<=maxLen):
 (sli 1 (a.map str)).val (w.alloc (.cells ((a.map λl=>Value.string ⟨l.toArray⟩).toArray) E)) S γ (.slice (some ⟨w.heap.size,0,none⟩) a.length a.length):=by
 have f:∀(l:List (List UInt8)) (w:World) (S:Nat->Prop),(∀ x∈l,x.length<=maxLen)->Ly.holds w S (λ_=>none) (l.map str) (l.map λl=>Value.string ⟨l.toArray⟩):=by
  intro l
  induction l with
  | nil=>intro w S _;rfl
  | cons x l n=>intro w S h;exact⟨[_],_,rfl,⟨_,rfl,rfl,h x (.head _)⟩,n w S λy k=>h y (.tail _ k)⟩
 refine .inr (.inl ⟨w.heap.size,0,a.length,a.map λl=>Value.string ⟨l.toArray⟩,oc,oc,hn,(by show w.heap.size<(w.heap.push _).size;simp),λh=>absurd (e _ h) (Nat.lt_irrefl _),?_,f _ _ _ i,?_⟩);intro j u g;have hb:(w.alloc (.cells ((a.map λl=>Value.string ⟨l.toArray⟩).toArray) E)).heap[w.heap.size]?=some (.cells ((a.map λl=>Value.string ⟨l.toArray⟩).toArray) E (0,0)):=by show(w.heap.push _)[w.heap.size]?=_;rw[Array.getElem?_push,oq rfl]
 simp only[World.cell?,hb,xg]
 simpa using g
 intro ly d;obtain⟨x,_,rfl⟩:=xy.1 d;rfl
theorem Q34{σ:List (Nat×Nat)}{γ γ':Nm}(a:∀ y x,lk σ y=some x->γ' y=γ x):∀ {l l':List Nat}{us:List Value},l.map some=l'.map (lk σ)->CapV γ l us->CapV γ' l' us
 | [],[],[],_,_=>trivial
 | [],[],_::_,_,h=>h.elim
 | x::l,y::l',[],_,h=>h.elim
 | x::l,y::l',v::us,e,h=>by simp only[yz,List.cons.injEq] at e;exact⟨by rw[a y x e.1.symm];exact h.1,h.2.1,Q34 a e.2 h.2.2⟩
 | [],_::_,_,e,_=>by simp at e
 | _::_,[],_,e,_=>by simp at e
theorem Qhe{σ f l l'}(h:l.map some=l'.map (lk σ)):Rn σ (.clo f l) (.clo f l'):=λw S γ γ' d=>
 ⟨λcs g=>by
  simp only[Ly.hold] at g |-;obtain⟨v,rfl,us,g1,a⟩:=g;exact⟨v,rfl,us,g1,Q34 d h a⟩,λv g=>by
  simp only[Ly.val] at g |-;obtain⟨us,g1,a⟩:=g
  exact⟨us,g1,Q34 d h a⟩⟩
theorem Qy7{σ f l l'}(h:Rns σ l l'):Rn σ (.bnd f l) (.bnd f l'):=λw S γ γ' d=>
 ⟨λcs g=>by simp[Ly.hold] at g,λv g=>by
  simp only[Ly.val] at g |-;obtain⟨us,g1,a⟩:=g
  exact⟨us,g1,(h w S γ γ' d).2 _ a⟩⟩
theorem Q9x{w S}{γ:Nm}:∀ {l:List Nat}{us:List Value},CapV γ l us->Ly.vals w S γ (l.map .own) us
 | [],[],_=>by simp only[List.map_nil,Ly.vals]
 | x::l,v::us,h=>by simp only[yz,Ly.vals,Ly.val];exact⟨_,_,rfl,⟨h.1,h.2.1⟩,Q9x h.2.2⟩
 | [],_::_,h=>h.elim
 | _::_,[],h=>h.elim
theorem Q9y{w S γ}:∀ {e f:List Ly}{g i:List Value},Ly.vals w S γ e g->Ly.vals w S γ f i->Ly.vals w S γ (e++f) (g++i)
 | [],_,_,_,a,d=>by simp only[Ly.vals] at a;subst a;exact d
 | x::l,_,_,_,a,d=>by simp only[Ly.vals] at a;obtain⟨v,r,rfl,g1,j⟩:=a;simp only[yj,Ly.vals];exact⟨v,_,rfl,g1,Q9y j d⟩
def cpNF:CP:=⟨λ_ _ v=>v=.nilFunc,λh=>by rw[h];rfl,λh _ _=>h⟩
abbrev nfl:Ly:=.cell cpNF
theorem Q9z:Zr nfl [.nilFunc]:=λ_ _ _=>⟨_,rfl,rfl⟩
section ops
variable {X:Cx}{st:Nat->Option Ly}{mm:Nat->Option Ct}
def CapF(st:Nat->Option Ly):List Operand->List Nat->Prop
 | [],[]=>True
 | x::xs,id::a=>OpdF st x (.own id)/\CapF st xs a
 | _,_=>False
theorem Q90{a w γ}(hi:Inv X st mm a w γ):∀ {xs:List Operand}{d:List Nat},CapF st xs d->CapV γ d (xs.map a.eval)
 | [],[],_=>trivial
 | x::xs,id::d,h=>by have:=h.1.val hi;simp only[Ly.val] at this;exact⟨this.1,this.2,Q90 hi h.2⟩
 | [],_::_,h=>h.elim
 | _::_,[],h=>h.elim
theorem mkC{d f caps ty pos af}{l:List Nat}(e:CapF st caps l)(hd:Nat.blt d X.N=true):OpOk X st mm ⟨some d,.makeFunc (.func f) #[] ⟨caps⟩,ty,pos,af,none⟩ [(d,.clo f l)] []:=
 Xj hd λa w γ hi=>⟨.func (.func f) #[] (caps.map a.eval).toArray,by simp[execOp,Instr.makeFunc],by simp only[Ly.val];exact⟨_,rfl,Q90 hi e⟩⟩
theorem callC{caps lc:List Nat}{d x f args argTypes ty pos af la largs mi res mo res' em}(ρ τ σ:List (Nat×Nat))(hx:OpdF st x (.clo f caps))(hf:FnOk X.P f largs mi res mo)(hl:largs=la++lc.map .own)(hc:caps.map some=lc.map (lk ρ))
 (ha:ArgF st ρ args la) (hmi:∀ x c',lk mi x=some c'->∃ y c,lk ρ x=some y/\mm y=some c/\RnC ρ c c') (hρm:NmM mi ρ) (hρn:nodupB (ρ.map (·.2))=true)
 (hτ:Fresh mm τ) (hσ:SigT τ ρ σ) (hσn:nodupB (σ.map (·.2))=true) (hem:BackM σ ρ mo em) (hall:AllIn em (ρ.map (·.2))) (hall2:AllIn em (τ.map (·.1)))
 (hres:Rn σ res res') (hd:Nat.blt d X.N=true) :
 OpOk X st mm ⟨some d,.call { callee:=.value x,args:=⟨args⟩,argTypes:=argTypes },ty,pos,af,none⟩ [(d,res')] em:=by
 refine callR ρ τ σ hf rfl (λfn hfn hname hbody a w γ hi=>?_) hmi hρm hρn hτ hσ hσn hem hall hall2 hres hd;have hv:=hx.val hi;simp only[Ly.val] at hv;obtain⟨us,hu,hu2⟩:=hv;refine⟨(args.map a.eval).toArray++us.toArray,?_,fun γc S hgc hSc=>?_⟩;have e1:fn.body.isNone=false:=by cases h:fn.body<;>simp[h] at hbody |-
 have e2:¬ fn.name= "runtime.NumGoroutine":=by simpa using hname
 simp only[execOp,resolve,hu];simp[Deferred.ofValue,invoke,callFunc,hfn,e2];intro e3;rw[e3] at e1;cases e1;rw[hl];simp only[Array.toList_append];exact Q9y (Qt4 hi hgc hSc ha) (Q9x (Q34 hgc hc hu2))
theorem Qnz{P:Program}{w:World}{isS:Bool}{len cap:Nat}{lo:Option Value}{p q:Int}{k1 k2:IntKind}(d:(lo=none/\p=0)\/∃ e,lo=some (.int e p))
 (h0:0<=p) (j:p<=q) (a:q<=cap):(Instr.sliceBounds isS len cap lo (some (.int k1 q)) (some (.int k2 q))).run P w=.ok (p.toNat,q.toNat,q.toNat) w:=by
 have f:(0<=q/\q<=(cap:Int)):=⟨om,a⟩
 have g:(0<=p/\p<=((q.toNat:Nat):Int)):=⟨h0,om⟩
 have i:(0<=q/\q<=((q.toNat:Nat):Int)):=⟨om,om⟩
 rcases d with ⟨rfl,rfl⟩ | ⟨k,rfl⟩ <;>
  simp_all [Instr.sliceBounds,Instr.sliceBound,asIntOf]
theorem slR3{d x lo hi L T ty pos af E k b z p q}{α:Type}{f:α->Ly}{xs ys:List α}(hs:sub xs p q=some ys)(B:X.P.underlying T=some (.slice E))(A:TyI X.P E k b z)
 (hd:Nat.blt d X.N=true) (Z:OpdF st x (sli k (xs.map f))) (I:BndF st 0 lo p) (H:∃ t,OpdF st hi (.cell (cpI t q))) (J:∃ t,OpdF st L (.cell (cpI t q))) :
 OpOk X st mm ⟨some d,.slice T x lo (some hi) (some L),ty,pos,af,none⟩ [(d,sli k (ys.map f))] []:=
 Xj hd λa w γ hI=>by
  obtain⟨h0,V,y,rfl⟩:=Qxd hs;have g:(lo.map a.eval=none/\p=0)\/∃ t,lo.map a.eval=some (.int t p):=by
   rcases Qn7 hI I with ⟨rfl,h⟩ | ⟨x,t,rfl,h⟩
   . exact .inl ⟨rfl,h⟩
   . exact .inr ⟨t,by simp[h]⟩
  obtain⟨C,W⟩:=H;obtain⟨F,Y⟩:=J;have n:a.eval hi=.int C q:=((OpdF.val hI W:Ly.val _ _ _ _ _)).1;have r:a.eval L=.int F q:=((OpdF.val hI Y:Ly.val _ _ _ _ _)).1;rcases Z.val hI with ⟨s,hn⟩ | ⟨bb,o,cap,cs,s,k1,k2,O,S,k5,k6,K⟩ | ⟨hn,M,s⟩
  rotate_left 2
  . have:xs=[]:=by simpa using hn
    subst this;simp only[ye] at y;obtain rfl:q=0:=by simp at y;omega
    obtain rfl:p=0:=om
    refine⟨.slice (some M) 0 0,?_,.inr (.inr ⟨oc,M,rfl⟩)⟩;have:=Qnz (P:=X.P) (w:=w) (isS:=true) (len:=0) (cap:=0) (k1:=C) (k2:=F) g (q:=0) om om om;simp only[execOp,s];simp[Instr.sliceAt,Instr.slice,underlying,B,n,r,this,V7 A]
  . have:xs=[]:=by simpa using hn
    subst this;simp only[ye] at y;obtain rfl:q=0:=by simp at y;omega
    obtain rfl:p=0:=om
    refine⟨.slice none 0 0,?_,.inl ⟨rfl,oc⟩⟩;have:=Qnz (P:=X.P) (w:=w) (isS:=true) (len:=0) (cap:=0) (k1:=C) (k2:=F) g (q:=0) om om om;simp only[execOp,s];simp[Instr.sliceAt,Instr.slice,underlying,B,n,r,this,V7 A]
  . rw[ot] at s k1
    have hb:=Qnz (P:=X.P) (w:=w) (isS:=true) (len:=xs.length) (cap:=cap) (k1:=C) (k2:=F) g h0 V om;have e:(((xs.take q.toNat).drop p.toNat).map f).length=q.toNat - p.toNat:=oh
    by_cases N:q.toNat=p.toNat
    . refine⟨.slice (some ⟨bb,o,none⟩) (q.toNat - p.toNat) (q.toNat - p.toNat),?_,.inr (.inl ⟨bb,o,q.toNat - p.toNat,[],by rw[e],by rw[e];omega,om,O,S,λj u v=>by simp at v,?_,?_⟩)⟩
      . simp only[execOp,s]
        simp[Instr.sliceAt,Instr.slice,underlying,B,n,r,hb,V7 A,N]
      . have:((xs.take q.toNat).drop p.toNat).map f=[]:=xd (by rw[e];omega)
        rw[this];rfl
      . intro ly i
        have:((xs.take q.toNat).drop p.toNat).map f=[]:=xd (by rw[e];omega);rw[this] at i;cases i
    . obtain⟨g1,_⟩:=Qei q.toNat k6 K
      obtain⟨_,U⟩:=Qei p.toNat g1 (λly h=>K ly (ym h));refine⟨.slice (some ⟨bb,o+p.toNat*k,none⟩) (q.toNat - p.toNat) (q.toNat - p.toNat),?_,.inr (.inl ⟨bb,o+p.toNat*k,q.toNat - p.toNat,_,by rw[e],by rw[e];omega,om,O,S,λj u v=>?_,by rw[gn,wh];exact U,?_⟩)⟩
      . simp only[execOp,s]
        simp[Instr.sliceAt,Instr.slice,underlying,B,n,r,hb,V7 A,N,add0]
      . rw[vk,uh] at v
        split at v
        . rw[ju];exact k5 _ u v
        . cases v
      . intro ly i
        rw[gn,wh] at i;exact K ly (ym (vv i))
end ops
def mget{α:Type}:List (Int×α)->Int->Option α
 | [],_=>none
 | (k,v)::r,i=>cond (decide (k=i)) (some v) (mget r i)
def mset{α:Type}:List (Int×α)->Int->α->List (Int×α)
 | [],i,x=>[(i,x)]
 | (k,v)::r,i,x=>cond (decide (k=i)) ((k,x)::r) ((k,v)::mset r i x)
end Go.Proofs.YtjmfkenegjhohaaGreatDoor
