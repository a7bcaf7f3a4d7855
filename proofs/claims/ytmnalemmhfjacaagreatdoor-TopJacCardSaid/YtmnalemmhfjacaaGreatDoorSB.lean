import Derived.Laws.BytesString
import Derived.Laws.BytesArg
import Derived.Lib.ConvBytes
import Derived.Laws.RangeString
import Derived.Lib.AppendStr
import Derived.Lib.Builder
import Derived.Lib.UnsafeStr
import Derived.Scope
import Derived.Test.YtmnalemmhfjacaaGreatDoorSA
namespace Go.Proofs.YtmnalemmhfjacaaGreatDoor
open Go Go.RowKit
section cur
variable {α:Type}
def cur(base:Nat->Option α):List (List (Nat×α))->Nat->(Nat->Bool)->Nat->Option α
 | [],_,_=>base
 | e::a,i,L=>cur (if L i then up base e else base) a (i+1) L
def wr(e:List (Nat×α))(r:Nat):Bool:=(lk e r).isSome
theorem up_nw{st:Nat->Option α}{e r}(h:wr e r=false):up st e r=st r:=by
 unfold wr at h;unfold up;cases a:lk e r with
 | none=>rfl
 | some x=>rw[a] at h;cases h
theorem up_w{st a:Nat->Option α}{e r}(h:wr e r=true):up st e r=up a e r:=by
 unfold wr at h;unfold up;cases d:lk e r with
 | none=>rw[d] at h;cases h
 | some x=>rfl
theorem Qt9{L:Nat->Bool}{r:Nat}:∀(d:List (List (Nat×α))) (b a:Nat->Option α) (i:Nat),b r=a r->cur b d i L r=cur a d i L r
 | [],b,a,i,h=>h
 | e::d,b,a,i,h=>by
   simp only[cur];apply Qt9 d;cases L i
   simpa using h
   simp only[vh];cases f:wr e r;rw[up_nw f,up_nw f,h];exact up_w f
theorem Qzd{L:Nat->Bool}{r:Nat}:∀(a:List (List (Nat×α))) (b:Nat->Option α) (i:Nat),(∀ k e,a[k]?=some e->wr e r=true->L (i+k)=false)->cur b a i L r=b r
 | [],b,i,_=>rfl
 | e::a,b,i,h=>by simp only[cur];rw[Qzd a _ (i+1) (λk f hk d=>by have:=h (k+1) f (by simpa using hk) d;rw[show i+1+k=i+(k+1) by omega];exact this)];cases g:L i;rfl;simp only[vh];cases d:wr e r;exact up_nw d;have:=h 0 e rfl d;rw[xf,g] at this;cases this
theorem cur_L{r:Nat}:∀(a:List (List (Nat×α))) (b:Nat->Option α) (i:Nat) (L L':Nat->Bool),(∀ k e,a[k]?=some e->wr e r=true->L (i+k)=L' (i+k))->cur b a i L r=cur b a i L' r
 | [],b,i,L,L',_=>rfl
 | e::a,b,i,L,L',h=>by simp only[cur];rw[cur_L a _ (i+1) L L' (λk f hk d=>by have:=h (k+1) f (by simpa using hk) d;rw[show i+1+k=i+(k+1) by omega];exact this)];apply Qt9;cases d:wr e r;cases L i<;>cases L' i<;>simp[up_nw d];have:=h 0 e rfl d;rw[xf] at this;rw[this]
theorem Qvu{r:Nat}:∀(a:List (List (Nat×α))) (b:Nat->Option α) (i j:Nat) (L L':Nat->Bool) (g:List (Nat×α)),a[j]?=some g->L' (i+j)=true->(∀ k,k≠i+j->L' k=L k)->L (i+j)=false ->
 (∀ k e,a[k]?=some e->j<k->wr g r=true->wr e r=true->L (i+k)=false)->cur b a i L' r=up (cur b a i L) g r
 | [],_,_,j,_,_,_,h,_,_,_,_=>by simp at h
 | e::a,b,i,0,L,L',g,h,p,q,s,u=>by
   simp at h;subst h;simp only[xf] at p s;simp only[cur,p,s,vh];have w:∀ d,cur d a (i+1) L' r=cur d a (i+1) L r:=λd=>cur_L a d (i+1) L' L (λk _ _ _=>q _ om);rw[w];cases n:wr e r;rw[up_nw n];exact Qt9 a _ _ _ (up_nw n)
   have y:∀ d,cur d a (i+1) L r=d r:=λd=>Qzd a d (i+1) (λk t hk f=>by
    have:=u (k+1) t (by simpa using hk) om n f
    rw[show i+1+k=i+(k+1) by omega];exact this)
   rw[y];exact up_w n
 | e::a,b,i,j+1,L,L',g,h,p,q,s,u=>by
   simp only[cur];have v:L' i=L i:=q i om;rw[v]
   exact Qvu a _ (i+1) j L L' g (by simpa using h) (by rw[show i+1+j=i+(j+1) by omega];exact p) (λk hk=>q k om) (by rw[show i+1+j=i+(j+1) by omega];exact s)
    (λk t hk x n f=>by have:=u (k+1) t (by simpa using hk) om n f;rw[show i+1+k=i+(k+1) by omega];exact this)
theorem Qte{r:Nat}(L:Nat->Bool):∀(a:List (List (Nat×α))) (b:Nat->Option α) (i j:Nat),(∀ k e,a[k]?=some e->wr e r=true->k<j->L (i+k)=true)->(∀ k e,a[k]?=some e->wr e r=true->j<=k->L (i+k)=false) ->
 cur b a i L r=cur b (a.take j) i (λ_=>true) r
 | [],b,i,j,_,_=>by simp[cur]
 | e::a,b,i,0,g,n=>by simp only[List.take_zero];rw[Qzd (e::a) b i (λk f hk d=>n k f hk d (xo _))];rfl
 | e::a,b,i,j+1,g,n=>by
   simp only[uf,cur,vh]
   rw[Qte L a _ (i+1) j (λk f hk d s=>by have:=g (k+1) f (by simpa using hk) d om;rw[show i+1+k=i+(k+1) by omega];exact this)
    (λk f hk d q=>by have:=n (k+1) f (by simpa using hk) d om;rw[show i+1+k=i+(k+1) by omega];exact this)]
   apply Qt9;cases p:L i;cases d:wr e r;simp[up_nw d];have:=g 0 e rfl d om;rw[xf,p] at this;cases this;simp
end cur
structure D where
 rs:List Nat
 ri:List Nat
 el:List (Nat×Ly)
 em:List (Nat×Ct)
def Ag{α:Type}(st a:Nat->Option α):List Nat->Prop
 | []=>True
 | d::r=>st d=a d/\Ag st a r
theorem Ag.of{α:Type}{st a:Nat->Option α}:∀ {l:List Nat},(∀ d∈l,st d=a d)->Ag st a l
 | [],_=>trivial
 | d::_,h=>⟨h d um,Ag.of (λx e=>h x (yw _ e))⟩
def OpG(X:Cx)(ops:Array Oper)(st:Nat->Option Ly)(mm:Nat->Option Ct)(o:Oper)(el:List (Nat×Ly))(em:List (Nat×Ct)):Prop:=
 ∀ a w γ K Q,Inv X st mm a w γ->(∀ d w' γ',Inv X (up st el) (up mm em) d w' γ'->K d w')->if Region.wanted o (yielded ops a.tmps) then o.wp X.P a w K Q else K (a.put o.dst undef) w
def Qif(X:Cx)(ops:Array Oper):List (Nat×Ly)->List (Nat×Ct)->List Oper->List D->Prop
 | _,_,[],[]=>True
 | l,m,o::os,d::ds=>(∀ st mm,Ag st (lk l) d.rs->Ag mm (lk m) d.ri->OpG X ops st mm o d.el d.em)/\Qif X ops (d.el++l) (d.em++m) os ds
 | _,_,_,_=>False
def prs(o:Oper):List Nat:=(o.after.toList.filter (Region.binds .any)).map (·.on)
def anyB(l:List Nat)(j:Nat):Bool:=l.any (Nat.beq j)
def wrAny{α:Type}(l:List (Nat×α))(rs:List Nat):Bool:=rs.any λr=>wr l r
def cf(d a:D):Bool:=wrAny d.el a.rs || wrAny a.el d.rs || wrAny d.el (a.el.map (·.1)) || wrAny d.em a.ri || wrAny a.em d.ri || wrAny d.em (a.em.map (·.1))
def rowOk(d:List Nat)(a:D):Nat->List D->Bool
 | _,[]=>true
 | j,e::ds=>(!(cf e a) || anyB d j) && rowOk d a (j+1) ds
def far(a:List (List Nat))(o:Oper):List Nat:=prs o++(prs o).flatMap (λp=>a.getD p [])
def drawOk:List Oper->List D->Nat->List D->List (List Nat)->Bool
 | [],[],_,_,_=>true
 | o::os,d::ds,i,before,a=>(prs o).all (λp=>Nat.blt p i) && rowOk (far a o) d 0 before && drawOk os ds (i+1) (before++[d]) (a++[far a o])
 | _,_,_,_,_=>false
inductive Anc (ls:List Oper):Nat->Nat->Prop
 | one {j i o}:ls[i]?=some o->j∈prs o->Anc ls j i
 | far {j p i o}:ls[i]?=some o->p∈prs o->Anc ls j p->Anc ls j i
theorem Anc.listed{ls:List Oper}{listed:Array Bool}(a:∀ i o,ls[i]?=some o->listed.getD i false=true->∀ p∈prs o,listed.getD p false=true){j i:Nat}(h:Anc ls j i):listed.getD i false=true->listed.getD j false=true:=by
 induction h with
 | one d e=>intro h;exact a _ _ d h _ e
 | far d e _ f=>intro h;exact f (a _ _ d h _ e)
theorem Q66{l:List Nat}{j:Nat}(h:anyB l j=true):j∈l:=by unfold anyB at h;obtain⟨x,d,a⟩:=vc.1 h;rw[ou a];exact d
theorem Qe4{α:Type}{l:List (Nat×α)}{rs:List Nat}(h:wrAny l rs=false):∀ r∈rs,wr l r=false:=by intro r hr;unfold wrAny at h;cases a:wr l r;rfl;have:(rs.any λr=>wr l r)=true:=vc.2 ⟨r,hr,a⟩;rw[this] at h;cases h
theorem Q8s{α:Type}:∀ {l:List (Nat×α)}{r x},lk l r=some x->(r,x)∈l:=by
        intro l
        induction l with
        | nil=>intro r x h;cases h
        | cons e l a=>
          obtain⟨i,y⟩:=e;intro r x h;simp only[lk] at h;cases hb:Nat.beq i r;rw[hb] at h;exact yw _ (a h);rw[hb] at h;simp at h;subst h;rw[ou hb];exact um
theorem Q4w{α:Type}{l:List (Nat×α)}{r:Nat}(h:wr l r=true):r∈l.map (·.1):=by
 unfold wr at h;cases a:lk l r with
 | none=>rw[a] at h;cases h
 | some x=>exact xa.2 ⟨(r,x),Q8s a,rfl⟩
structure Qxj(ops:List Oper)(ds:List D):Prop where
 len:ops.length=ds.length
 back:∀ i o,ops[i]?=some o->∀ p∈prs o,p<i
 pair:∀(i j:Nat) o di dj,ops[i]?=some o->ds[i]?=some di->ds[j]?=some dj->j<i->Anc ops j i\/cf dj di=false
theorem Qxk{g f}:∀ {ds:List D}{e:Nat},rowOk g f e ds=true->∀ j a,ds[j]?=some a->e+j∈g\/cf a f=false
 | [],_,_,j,a,h=>by simp at h
 | d::ds,e,hr,0,a,h=>by simp only[rowOk,yg,Bool.or_eq_true,uj] at hr;simp at h;subst h;exact orM hr.1.symm (λh=>Q66 h) (λh=>h)
 | d::ds,e,hr,j+1,a,h=>by simp only[rowOk,yg] at hr;have:=Qxk hr.2 j a (by simpa using h);rw[show e+(j+1)=e+1+j by omega];exact this
theorem Q8t{ls:List Oper}{d:List (List Nat)}(e:∀ k l,d[k]?=some l->∀ j∈l,Anc ls j k){i o}(g:ls[i]?=some o):∀ j∈far d o,Anc ls j i:=by
 intro j n;rcases xw.1 n with h | h;exact .one g h;obtain⟨p,q,a⟩:=List.mem_flatMap.1 h;rw[oq] at a;cases f:d[p]? with
 | none=>rw[f] at a;simp at a
 | some l=>rw[f] at a;exact .far g q (e p l f j a)
theorem Qqc{ls:List Oper}:∀(ops:List Oper) (ds:List D) (i:Nat) (before:List D) (a:List (List Nat)),before.length=i->a.length=i->(∀ k o,ops[k]?=some o->ls[i+k]?=some o)->(∀ k l,a[k]?=some l->∀ j∈l,Anc ls j k)->drawOk ops ds i before a=true ->
 ops.length=ds.length/\(∀ k o,ops[k]?=some o->∀ p∈prs o,p<i+k)/\(∀(k j:Nat) o q n,ops[k]?=some o->ds[k]?=some q->(before++ds)[j]?=some n->j<i+k->Anc ls j (i+k)\/cf n q=false)
 | [],[],i,before,a,_,_,_,_,_=>⟨rfl,λk o h=>by simp at h,λk j o q n h=>by simp at h⟩
 | o::os,d::ds,i,before,a,hb,u,s,r,h=>by
   simp only[drawOk,yg] at h;obtain⟨⟨x,y⟩,A⟩:=h;have C:ls[i]?=some o:=by have:=s 0 o rfl;simpa using this
   have e:=Q8t r C
   obtain⟨g1,w,g3⟩:=Qqc os ds (i+1) (before++[d]) (a++[far a o]) (by simp[hb]) (by simp[u])
    (λk t hk=>by rw[show i+1+k=i+(k+1) by omega];exact s (k+1) t (by simpa using hk))
    (λk l hk=>by
     rcases xc k a.length with h | h;rw[yu h] at hk;exact r k l hk;rw[yy h] at hk;have:k=i:=by rcases Nat.eq_or_lt_of_le h with h | h;omega;rw[xn oe] at hk;cases hk
     subst this;rw[u,wx] at hk
     simp at hk;subst hk;exact e) A
   refine⟨by simp[g1],λk t hk p v=>?_,λk j t q n hk f g B=>?_⟩;cases k with
   | zero=>simp at hk;subst hk;have:=gc.1 x p v;simpa using this
   | succ k=>have:=w k t (by simpa using hk) p v;omega
   cases k with
   | zero=>
     simp at hk f;subst hk;subst f;have:=Qxk y j n (by rw[yu om] at g;exact g);rw[xz] at this;exact orM this (λh=>e j h) (λh=>h)
   | succ k=>
     have:=g3 k j t q n (by simpa using hk) (by simpa using f) (by simpa using g) om;rw[show i+1+k=i+(k+1) by omega] at this;exact this
 | [],_::_,_,_,_,_,_,_,_,h=>by simp[drawOk] at h
 | _::_,[],_,_,_,_,_,_,_,h=>by simp[drawOk] at h
theorem Qxl{X:Cx}{ops:Array Oper}:∀ {os:List Oper}{ds:List D}{l m},Qif X ops l m os ds->∀ j o d,os[j]?=some o->ds[j]?=some d ->
 ∀ st mm,Ag st (cur (lk l) ((ds.map (·.el)).take j) 0 (λ_=>true)) d.rs->Ag mm (cur (lk m) ((ds.map (·.em)).take j) 0 (λ_=>true)) d.ri->OpG X ops st mm o d.el d.em
 | [],[],_,_,_,j,o,d,h,_=>by simp at h
 | o::os,d::ds,l,m,hs,0,r,q,f,g=>by simp at f g;subst f;subst g;intro st mm k n;exact hs.1 st mm (by simpa [cur] using k) (by simpa [cur] using n)
 | o::os,d::ds,l,m,hs,j+1,r,q,f,g=>by
   intro st mm k n;have shift:∀ {α:Type}(a:List (List (Nat×α))) (b:Nat->Option α) (i p:Nat),cur b a i (λ_=>true)=cur b a p (λ_=>true):=by
    intro α a
    induction a with
    | nil=>intro b i p;rfl
    | cons e a s=>intro b i p;simp only[cur,vh];exact s _ _ _
   refine Qxl hs.2 j r q (by simpa using f) (by simpa using g) st mm ?_ ?_;simp only[xp,uf,cur,vh,up_lk] at k;rw[shift _ _ 0 (0+1)];exact k;simp only[xp,uf,cur,vh,up_lk] at n;rw[shift _ _ 0 (0+1)];exact n
 | [],_::_,_,_,h,_,_,_,_,_=>h.elim
 | _::_,[],_,_,h,_,_,_,_,_=>h.elim
def fin{α:Type}:List (List (Nat×α))->List (Nat×α)->List (Nat×α)
 | [],l=>l
 | e::a,l=>fin a (e++l)
theorem Qvv{α:Type}:∀(a:List (List (Nat×α))) (l:List (Nat×α)) (i:Nat) (L:Nat->Bool),(∀ k,k<a.length->L (i+k)=true)->cur (lk l) a i L=lk (fin a l)
 | [],l,_,_,_=>rfl
 | e::a,l,i,L,h=>by simp only[cur,fin];have h0:=h 0 oa;rw[xf] at h0;simp only[h0,vh];rw[up_lk,Qvv a _ (i+1) L (λk hk=>by rw[show i+1+k=i+(k+1) by omega];exact h (k+1) (by simpa using hk))]
theorem Q28{X:Cx}{ls:List Oper}{ds:List D}{l m}(O:Qxj ls ds)(hS:Qif X ⟨ls⟩ l m ls ds){Q:Exit->Act->World->Prop}
 (hQ:∀ a w γ,Inv X (lk (fin (ds.map (·.el)) l)) (lk (fin (ds.map (·.em)) m)) a w γ->Q .normal a w) :
 ∀(fuel:Nat) (listed:Array Bool) (a:Act) (w:World) (γ:Nm),listed.size=ls.length->(listed.toList.filter (!·)).length<=fuel->(∀ i o,ls[i]?=some o->listed.getD i true=true->∀ p∈prs o,listed.getD p false=true) ->
  Inv X (cur (lk l) (ds.map (·.el)) 0 (λi=>listed.getD i false)) (cur (lk m) (ds.map (·.em)) 0 (λi=>listed.getD i false)) a w γ ->
  wpAny X.P .any ⟨ls⟩ Q fuel listed a w:=by
 have all_listed:∀(listed:Array Bool),listed.size=ls.length->Region.ready .any ⟨ls⟩ listed=[]->∀ i,i<ls.length->listed.getD i false=true:=by
  intro listed y hr i
  induction i using Nat.strongRecOn with
  | _ i ih=>
    intro hi;cases B:listed.getD i false with
    | true=>rfl
    | false=>
      exfalso;have v:i∈Region.ready .any ⟨ls⟩ listed:=by
       rw[mem_ready];refine⟨?_,ls[i],by simp[hi],λe he hb=>?_⟩
       . have s:i<listed.size:=om
         simp only[vz,uy s,wa] at B |-;exact B
       . have P:e.on∈prs ls[i]:=xa.2 ⟨e,wh.2 ⟨by simpa using he,hb⟩,rfl⟩
         have n:=O.back i ls[i] (by simp[hi]) e.on P;exact ih e.on n om
      rw[hr] at v;cases v
 have done:∀(listed:Array Bool) (a:Act) (w:World) (γ:Nm),listed.size=ls.length->Region.ready .any ⟨ls⟩ listed=[]->Inv X (cur (lk l) (ds.map (·.el)) 0 (λi=>listed.getD i false)) (cur (lk m) (ds.map (·.em)) 0 (λi=>listed.getD i false)) a w γ->Q .normal a w:=by intro listed a w γ y hr hi;have h:=all_listed listed y hr;have hlen:=O.len;rw[Qvv _ l 0 _ (λk hk=>by rw[xz];exact h k (by simp at hk;omega)),Qvv _ m 0 _ (λk hk=>by rw[xz];exact h k (by simp at hk;omega))] at hi;exact hQ a w γ hi
 intro fuel
 induction fuel with
 | zero=>
   intro listed a w γ y hc E hi;have hr:Region.ready .any ⟨ls⟩ listed=[]:=by
    cases hrd:Region.ready .any ⟨ls⟩ listed with
    | nil=>rfl
    | cons i r=>
      exfalso;have v:i∈Region.ready .any ⟨ls⟩ listed:=by rw[hrd];exact um
      rw[mem_ready] at v;obtain⟨h1,_⟩:=v;have s:i<listed.size:=by
       rcases xc i listed.size with h | h
       . exact h
       . simp[yo h] at h1
      have:false∈listed.toList.filter (!·):=wh.2 ⟨by
       have:=Array.getElem_mem s;simp only[vz,uy s,wa] at h1
       rw[h1] at this;simpa using this,rfl⟩
      have Y:listed.toList.filter (!·)=[]:=xm om;rw[Y] at this;cases this
   exact⟨hr,done listed a w γ y hr hi⟩
 | succ fuel ih=>
   intro listed a w γ y hc E hi;refine⟨λhr=>done listed a w γ y hr hi,λj hj=>?_⟩;rw[mem_ready] at hj;obtain⟨W,o,ho,Z⟩:=hj;have A:ls[j]?=some o:=by simpa using ho
   have hjl:j<ls.length:=by
    rcases xc j ls.length with h | h
    . exact h
    . simp[xn h] at A
   have F:j<listed.size:=om
   have u:listed.getD j false=false:=by simp only[vz,uy F,wa] at W |-;exact W
   obtain⟨d,hd⟩:∃ d,ds[j]?=some d:=⟨_,ol (by rw[<-O.len];exact hjl)⟩
   have C:∀ p∈prs o,listed.getD p false=true:=by intro p P;obtain⟨e,he,rfl⟩:=xa.1 P;obtain⟨he1,he2⟩:=wh.1 he;exact Z e (by simpa using he1) he2
   have H:∀ i o,ls[i]?=some o->listed.getD i false=true->∀ p∈prs o,listed.getD p false=true:=by
    intro k I hk B;refine E k I hk ?_;have:k<listed.size:=by
     rcases xc k listed.size with h | h
     . exact h
     . simp[yo h] at B
    simp only[vz,uy this,wa] at B |-;exact B
   have later:∀ k I,ls[k]?=some I->j∈prs I->listed.getD k false=false:=by
    intro k I hk hjp;cases B:listed.getD k false with
    | false=>rfl
    | true=>
      have hk':listed.getD k true=true:=by
       have:k<listed.size:=by
        rcases xc k listed.size with h | h
        . exact h
        . simp[yo h] at B
       simp only[vz,uy this,wa] at B |-;exact B
      have:=E k I hk hk' j hjp;rw[u] at this;cases this
   have prOk:∀ k f,ds[k]?=some f->k<j->listed.getD k false=true\/(wrAny f.el d.rs || wrAny d.el f.rs || wrAny f.el (d.el.map (·.1)) || wrAny f.em d.ri || wrAny d.em f.ri || wrAny f.em (d.em.map (·.1)))=false:=by
    intro k f hk n;rcases O.pair j k o d f A hd hk n with h | h
    . refine .inl ?_
      cases h with
      | one S e2=>rw[A] at S;cases S;exact C k e2
      | far S e2 e3=>rw[A] at S;cases S;exact e3.listed H (C _ e2)
    . exact .inr h
   have poOk:∀ k f,ds[k]?=some f->j<k->listed.getD k false=false\/(wrAny d.el f.rs || wrAny f.el d.rs || wrAny d.el (f.el.map (·.1)) || wrAny d.em f.ri || wrAny f.em d.ri || wrAny d.em (f.em.map (·.1)))=false:=by
    intro k f hk n;have hkl:k<ls.length:=by
     rw[O.len];rcases xc k ds.length with h | h
     . exact h
     . simp[xn h] at hk
    rcases O.pair k j ls[k] f d (by simp[hkl]) hk hd n with h | h
    . refine .inl ?_
      cases B:listed.getD k false with
      | false=>rfl
      | true=>have:=h.listed H B;rw[u] at this;cases this
    . exact .inr h
   have mapget:∀ {β:Type}(g:D->β) (k:Nat) (b:β),(ds.map g)[k]?=some b->∃ f,ds[k]?=some f/\g f=b:=by intro β g k b h;simp only[xy,Option.map_eq_some_iff] at h;exact h
   have hrs:Ag (cur (lk l) (ds.map (·.el)) 0 (λi=>listed.getD i false)) (cur (lk l) ((ds.map (·.el)).take j) 0 (λ_=>true)) d.rs:=Ag.of λr hr=>by
    refine Qte _ _ _ 0 j (λk e hk t n=>?_) (λk e hk t M=>?_)
    . obtain⟨f,q,rfl⟩:=mapget _ k e hk
      rw[xz];rcases prOk k f q n with h | h
      . exact h
      . simp only[vu] at h
        have:=Qe4 h.1.1.1.1.1 r hr;rw[this] at t;cases t
    . obtain⟨f,q,rfl⟩:=mapget _ k e hk
      rw[xz];rcases Nat.eq_or_lt_of_le M with rfl | n
      . exact u
      . rcases poOk k f q n with h | h
        . exact h
        . simp only[vu] at h
          have:=Qe4 h.1.1.1.1.2 r hr;rw[this] at t;cases t
   have hri:Ag (cur (lk m) (ds.map (·.em)) 0 (λi=>listed.getD i false)) (cur (lk m) ((ds.map (·.em)).take j) 0 (λ_=>true)) d.ri:=Ag.of λr hr=>by
    refine Qte _ _ _ 0 j (λk e hk t n=>?_) (λk e hk t M=>?_)
    . obtain⟨f,q,rfl⟩:=mapget _ k e hk
      rw[xz];rcases prOk k f q n with h | h
      . exact h
      . simp only[vu] at h
        have:=Qe4 h.1.1.2 r hr;rw[this] at t;cases t
    . obtain⟨f,q,rfl⟩:=mapget _ k e hk
      rw[xz];rcases Nat.eq_or_lt_of_le M with rfl | n
      . exact u
      . rcases poOk k f q n with h | h
        . exact h
        . simp only[vu] at h
          have:=Qe4 h.1.2 r hr;rw[this] at t;cases t
   have hop:=Qxl hS j o d A hd _ _ hrs hri;have x:∀ k,(listed.setIfInBounds j true).getD k false=if k=j then true else listed.getD k false:=by
    intro k;by_cases K:k=j
    . subst K;simp[F]
    . simp[K,vg (Ne.symm K)]
   have T:∀ i o,ls[i]?=some o->(listed.setIfInBounds j true).getD i true=true->∀ p∈prs o,(listed.setIfInBounds j true).getD p false=true:=by
    intro i I s hli p P;rw[x];split
    . rfl
    . by_cases V:i=j
      . subst V;rw[A] at s;cases s;exact C p P
      . refine E i I s ?_ p P
        simpa [vg (Ne.symm V)] using hli
   have U:((listed.setIfInBounds j true).toList.filter (!·)).length<=fuel:=by
    rw[Array.toList_setIfInBounds];have key:∀(L:List Bool) (j:Nat),L[j]?=some false->((L.set j true).filter (!·)).length+1=(L.filter (!·)).length:=by
     intro L
     induction L with
     | nil=>intro j h;simp at h
     | cons b L ih=>
       intro j h;cases j with
       | zero=>simp at h;subst h;simp
       | succ j=>
         have:=ih j (by simpa using h);cases b<;>simp at this |-<;>omega
    have:=key listed.toList j (by
     rw[xt,uy F];simp only[vz,uy F,wa] at u
     rw[u])
    omega
   have hst:cur (lk l) (ds.map (·.el)) 0 (λi=>(listed.setIfInBounds j true).getD i false)=up (cur (lk l) (ds.map (·.el)) 0 (λi=>listed.getD i false)) d.el:=by
    funext r;refine Qvu _ _ 0 j _ _ d.el (by simp[hd]) (by rw[xz];simp[x]) (λk hk=>by rw[xz] at hk;simp[x,hk]) (by rw[xz];exact u) (λk e hk J t N=>?_);obtain⟨f,q,rfl⟩:=mapget _ k e hk;rw[xz];rcases poOk k f q J with h | h
    . exact h
    . simp only[vu] at h
      have:=Qe4 h.1.1.1.2 r (Q4w N);rw[this] at t;cases t
   have hmt:cur (lk m) (ds.map (·.em)) 0 (λi=>(listed.setIfInBounds j true).getD i false)=up (cur (lk m) (ds.map (·.em)) 0 (λi=>listed.getD i false)) d.em:=by
    funext r;refine Qvu _ _ 0 j _ _ d.em (by simp[hd]) (by rw[xz];simp[x]) (λk hk=>by rw[xz] at hk;simp[x,hk]) (by rw[xz];exact u) (λk e hk J t N=>?_);obtain⟨f,q,rfl⟩:=mapget _ k e hk;rw[xz];rcases poOk k f q J with h | h
    . exact h
    . simp only[vu] at h
      have:=Qe4 h.2 r (Q4w N);rw[this] at t;cases t
   have goon:∀ a' w' γ',Inv X (up (cur (lk l) (ds.map (·.el)) 0 (λi=>listed.getD i false)) d.el) (up (cur (lk m) (ds.map (·.em)) 0 (λi=>listed.getD i false)) d.em) a' w' γ'->wpAny X.P .any ⟨ls⟩ Q fuel (listed.setIfInBounds j true) a' w':=by intro a' w' γ' s;exact ih _ a' w' γ' (by simpa using y) U T (by rw[hst,hmt];exact s)
   have:=hop a w γ (wpAny X.P .any ⟨ls⟩ Q fuel (listed.setIfInBounds j true)) Q hi goon;unfold wpOp;rw[ho];split at this
   . rename_i t;simp only[t,vh];exact .inl this
   . rename_i t;simp only[t];exact this
theorem sdrawA{R:Type}{X:Cx}{l m}{md:Option R}{Q:R->Exit->Act->World->Prop}{ls:List Oper}(ds:List D)(E:drawOk ls ds 0 [] []=true)(F:Qif X ⟨ls⟩ l m ls ds)
 (k:Sq X (fin (ds.map (·.el)) l) (fin (ds.map (·.em)) m) md (λr=>Q r .normal)):Sq X l m md (λr a w=>wpAny X.P .any ⟨ls⟩ (Q r) ls.length (Array.replicate ls.length false) a { w with drawn:=w.drawn+1 }):=by
 intro r a w γ hr hi;obtain⟨A,B,C⟩:=Qqc (ls:=ls) ls ds 0 [] [] rfl rfl (λk o h=>by rw[xz];exact h) (λk l h=>by simp at h) E;have n:Qxj ls ds:=⟨A,λi o f p I=>by have:=B i o f p I;omega,λi j o v x f q s d=>by have:=C i j o v x f q (by simpa using s) om;rw[xz] at this;exact this⟩
 have t:Inv X (lk l) (lk m) a { w with drawn:=w.drawn+1 } γ:=hi.ext (w':={ w with drawn:=w.drawn+1 }) rfl rfl rfl ⟨xd _,λ_ _ _=>rfl⟩;refine Q28 n F (λa w γ h=>k r a w γ hr h) _ _ a _ γ oa oa (λi o f H=>?_) ?_;have d:i<ls.length:=by rcases xc i ls.length with h | h;exact h;simp[xn h] at f
 simp[d] at H;have y:(λi=>(Array.replicate ls.length false).getD i false)=λ_=>false:=by funext i;by_cases h:i<ls.length<;>simp[h]
 have u:∀ {α:Type}(g:List (List (Nat×α))) (b:Nat->Option α) (i:Nat),cur b g i (λ_=>false)=b:=by
  intro α g
  induction g with
  | nil=>intro b i;rfl
  | cons e g J=>intro b i;simp[cur,J]
 show Inv X (cur _ _ 0 (λi=>(Array.replicate ls.length false).getD i false)) (cur _ _ 0 (λi=>(Array.replicate ls.length false).getD i false)) _ _ _;rw[y,u,u];exact t
section
variable {X:Cx}{st:Nat->Option Ly}{mm:Nat->Option Ct}{ops:Array Oper}
theorem og{d op ty pos after el em}(h:OpOk X st mm ⟨d,op,ty,pos,after,none⟩ el em):OpG X ops st mm ⟨d,op,ty,pos,after,none⟩ el em:=by intro a w γ K Q hi e;rw[oi (by simp[Region.wanted])];exact h a w γ K Q hi e
theorem ogG{d op ty pos after j b el em}(e:Nat)(g:((ops[j]?).bind (·.dst))=some e)(i:st e=some (bl b))(h:OpOk X st mm ⟨d,op,ty,pos,after,none⟩ el em):OpG X ops st mm ⟨d,op,ty,pos,after,some (j,b)⟩ el em:=by intro a w γ K Q hi f;rw[oi (by simp[Region.wanted,Qib hi g i])];exact h a w γ K Q hi f
theorem okb{o d b c em}(hb:b=c)(h:OpOk X st mm o [(d,bl b)] em):OpOk X st mm o [(d,bl c)] em:=hb ▸ h
end
section
variable {R:Type}{X:Cx}{l:List (Nat×Ly)}{m:List (Nat×Ct)}{md:Option R}{G:R->Act->World->Prop}
theorem sbn{α:Type}{F:α->Ly}{x:α}{k:α->Option R}(d:Nat)(hd:lk l d=some (F x))(h:∀ y,Sq X ((d,F y)::l) m (k y) G):Sq X l m ((some x).bind k) G:=by
 refine sent (λa w γ hi=>⟨γ,{ hi with sts:=λi ly h=>hi.sts i ly (by
  simp only[lk] at h;cases e:Nat.beq d i;rw[e] at h;exact h
  rw[e] at h;rw[<-ou e,hd];exact h) }⟩) (h x)
end
section ops
variable {X:Cx}{st:Nat->Option Ly}{mm:Nat->Option Ct}
theorem kLm{α:Type}(f:α->Ly){k}:OpdF st (.const (.slice none 0 0)) (sli k (List.map f [])):=λ_ _ _=>.inl ⟨rfl,rfl⟩
theorem stB2{x y T ty pos af n k i id E ly j d a off}(p:List Nat)(g:Ly.pu d p ly=a)(s:mm id=some (.bx E ly))(r:Ly.go p ly=some (j,off))(q:Shp X.P T n k)(w:j.sz=k)(f:d.sz=k)(e:d.lies=true)
 (u:OpdF st x i) (t:OwnP mm i id off) (v:OpdF st y d) :
 OpOk X st mm ⟨none,.store T x y,ty,pos,af,none⟩ [] [(id,.bx E a)]:=g ▸ stB p s r q w f e u t v
theorem Q2d{d o x y T f ty pos af p q b}(h:∀ w,(binOp o T (.bool p) (.bool q)).run X.P w=.ok (.bool b) w)(hd:Nat.blt d X.N=true)(g:OpdF st x (bl p))(i:OpdF st y (bl q)):
 OpOk X st mm ⟨some d,.binOp o T x y f,ty,pos,af,none⟩ [(d,bl b)] []:=
 Qgz hd g i λw S γ j k a e=>by simp only[bl,Ly.val,cpB] at a e;subst a;subst e;exact⟨_,λw=>by cases o<;>simp[eqGuard],h,by simp[bl,Ly.val,cpB]⟩
theorem eqB{d x y T a ty pos af p q}(e:X.P.underlying T=some .bool)(hd:Nat.blt d X.N=true)(f:OpdF st x (bl p))(g:OpdF st y (bl q)):
 OpOk X st mm ⟨some d,.binOp .eql T x y a,ty,pos,af,none⟩ [(d,bl (p == q))] []:=Q2d (λw=>by simp[binOp,run_equal_bool w T p q e]) hd f g
theorem neB{d x y T a ty pos af p q}(e:X.P.underlying T=some .bool)(hd:Nat.blt d X.N=true)(f:OpdF st x (bl p))(g:OpdF st y (bl q)):
 OpOk X st mm ⟨some d,.binOp .neq T x y a,ty,pos,af,none⟩ [(d,bl (p != q))] []:=Q2d (λw=>by simp[binOp,run_equal_bool w T p q e];cases p<;>cases q<;>rfl) hd f g
theorem nzI{q:Int}{u:Unit}(h:grd (q != 0)=some u):(q == 0)=false:=by have:=Qta h;simpa [bne] using this
theorem nzU{q:Nat}{u:Unit}(h:grd (q != 0)=some u):Nat.beq q 0=false:=by
 have:=Qta h;cases q with
 | zero=>exact absurd this oy
 | succ n=>rfl
theorem ge0{q:Int}{u:Unit}(h:grd (decide (0<=q))=some u):(decide (0<=q))=true:=Qta h
theorem shrI{d x y T j ty pos af p u}{q:Int}(r:(decide (0<=q))=true)(hd:Nat.blt d X.N=true)(s:OpdF st x (i64 p))(t:OpdF st y (.cell (cpI u q))):
 OpOk X st mm ⟨some d,.binOp .shr T x y j,ty,pos,af,none⟩ [(d,i64 (p.fdiv (2 ^ (min q.toNat 64))))] []:=
 Qgz hd s t λw S γ v A g i=>by
  obtain⟨rfl,a1,a2⟩:=g;obtain⟨rfl,_⟩:=i;have:¬ q<0:=by have:=wt r;omega
  refine⟨_,λw=>by simp[eqGuard],λw=>by simp only[binOp,Op.shift,oh this];rfl,rfl,?_⟩;have f:(0:Int)<2 ^ (min q.toNat 64):=Int.pow_pos oy;rw[Int.fdiv_eq_ediv_of_nonneg _ (Int.le_of_lt f)];have g:IntKind.i64.min=-9223372036854775808:=oy
  have i:IntKind.i64.max=9223372036854775807:=oy
  rw[g] at a1 |-;rw[i] at a2 |-;have e:(1:Int)<=2 ^ (min q.toNat 64):=om
  rcases Int.le_total 0 p with h | h;have k:=Int.ediv_nonneg h (Int.le_of_lt f);have n:=Int.ediv_le_self (a:=p) (2 ^ (min q.toNat 64)) h;omega;have k:p<=p / 2 ^ (min q.toNat 64):=by
   rw[Int.le_ediv_iff_mul_le f];have:=Int.mul_le_mul_of_nonpos_left h e
   simpa using this
  have n:p / 2 ^ (min q.toNat 64)<=0:=by
   have:=Int.ediv_le_ediv (c:=2 ^ (min q.toNat 64)) f h
   simpa using this
  omega
end ops
section
variable {R:Type}{X:Cx}{l:List (Nat×Ly)}{m:List (Nat×Ct)}{md:Option R}{Q:R->Exit->Act->World->Prop}{G:R->Act->World->Prop}
theorem scT{c:Operand}{x y:Code}(d:OpdF (lk l) c (bl true))(h:Sq X l m md (λr=>x.wp X.P (Q r))):Sq X l m md (λr=>(Code.cond c x y).wp X.P (Q r)):=by intro r a w γ hr hi;have:=d.val hi;simp only[bl,Ly.val,cpB] at this;refine wp_cond_split this (λ_=>h r a w γ hr hi) (λhb=>by cases hb)
theorem scF{c:Operand}{x y:Code}(d:OpdF (lk l) c (bl false))(h:Sq X l m md (λr=>y.wp X.P (Q r))):Sq X l m md (λr=>(Code.cond c x y).wp X.P (Q r)):=by intro r a w γ hr hi;have:=d.val hi;simp only[bl,Ly.val,cpB] at this;refine wp_cond_split this (λhb=>by cases hb) (λ_=>h r a w γ hr hi)
theorem sbm{α:Type}{C:α->Ct}{x:α}{k:α->Option R}(d:Nat)(hd:lk m d=some (C x))(h:∀ y,Sq X l ((d,C y)::m) (k y) G):Sq X l m ((some x).bind k) G:=by
 refine sent (λa w γ hi=>⟨γ,?_⟩) (h x);have:lk ((d,C x)::m)=lk m:=by funext i;simp only[lk];cases e:Nat.beq d i;rfl;rw[<-ou e,hd];rfl
 rw[this];exact hi
def lpK{τ ρ:Type}(k:τ->Option ρ):Lp τ ρ->Option ρ
 | .go t=>k t
 | .out r=>some r
def rangeD{σ R:Type}(f:Nat->σ->Option (Lp σ R)):Nat->σ->Option (Lp σ R)
 | 0,s=>some (.go s)
 | d+1,s=>(f d s).bind λo=>match o with
   | .go s'=>rangeD f d s'
   | .out r=>some (.out r)
def rangeN{σ R:Type}(f:Nat->σ->Option (Lp σ R))(n:Int)(s:σ):Option (Lp σ R):=bif decide (-9223372036854775808<n) then rangeD f n.toNat s else none
def rfK{σ τ R:Type}(a:σ->Option R)(b:τ->Option R):Lp σ τ->Option R
 | .go s=>a s
 | .out t=>b t
theorem Jah{σ:Type}{body:Code}{f:σ->Option (Lp σ R)}{n:Nat}{s0:σ}
 (L:σ->List (Nat×Ly)) (M:σ->List (Nat×Ct)) (h0:Ent X l m (L s0) (M s0))
 (hb:∀ s,Sq X (L s) (M s) (f s) (λo=>body.wp X.P (LpQ X L M some Q o))) :
 Sq X l m (loopM f n s0) (λr=>(Code.loop body).wp X.P (Q r)):=by
 have:=sloop (k:=some) (G':=λ_ _ _=>True) (Q:=Q) (X:=X) (l:=l) (m:=m) (n:=n) (τ0:=Empty) (λe=>e.elim) L M (λ_=>[]) (λ_=>[]) h0 (λ_=>hb) (λt=>t.elim);rw[show(loopM f n s0).bind some=loopM f n s0 by cases loopM f n s0<;>rfl] at this;exact this
theorem srangeN{α σ:Type}{f:Nat->α->σ->Option (Lp σ R)}{xs:List α}{s0:σ}{k:σ->Option R}
 {n p e j a d g w y A C q u v:Nat}{I J K:String}{E F f3:Array Edge}{B:Code}
 (L:σ->List (Nat×Ly)) (M:σ->List (Nat×Ct))
 (hd:(Nat.blt j X.N && Nat.blt a X.N && Nat.blt g X.N && !(Nat.beq j a) && !(Nat.beq j d) && !(Nat.beq a d) && !(Nat.beq g d) && !(Nat.beq g a))=true)
 (hk:∀ s,(nkey j (L s) && nkey a (L s) && nkey g (L s) && nkey d (L s))=true)
 (h0:Ent X l m ((a,i64 (0:Nat))::(d,i64 xs.length)::L s0) (M s0))
 (hb:∀(i:Nat) x s,xs[i]?=some x->Sq X ((a,i64 i)::(d,i64 xs.length)::L s) (M s) (f i x s)
  (λo=>B.wp X.P (LpQ X (λs=>(a,i64 i)::(d,i64 xs.length)::L s) M (λt=>lpK k (.out t)) Q o)))
 (H:∀ s,Sq X (L s) (M s) (k s) (λr=>Q r (.exit e))) :
 Sq X l m ((rangeL f xs 0 s0).bind (lpK k)) (λr=>(Code.loop (.seq (.region n ⟨[⟨some j,.binOp .lss w (.tmp a) (.tmp d) y,q,I,E,none⟩]⟩ false)
  (.seq (.cond (.tmp j) .skip (.exit e)) (.seq B (.region p ⟨[⟨some g,.binOp .add A (.tmp a) (.const (.int .i64 1)) C,u,J,F,none⟩,⟨some a,.move (.tmp g),v,K,f3,none⟩]⟩ false))))).wp X.P (Q r)):=
 srange (k:=lpK k) L M hd hk h0 hb H
end
section ops
variable {X:Cx}{st:Nat->Option Ly}{mm:Nat->Option Ct}
theorem cvI{d x S T ty pos af ds p}(g:X.P.underlying S=some ds)(i:X.P.underlying T=some (.int .i64))(hd:Nat.blt d X.N=true)(k:OpdF st x (i64 p)):
 OpOk X st mm ⟨some d,.convert S T x,ty,pos,af,none⟩ [(d,i64 p)] []:=
 cv_ok g i hd k λw S γ v j=>by
  obtain⟨rfl,a,f⟩:=j;have a1:IntKind.i64.min=-9223372036854775808:=oy
  have a2:IntKind.i64.max=9223372036854775807:=oy
  have e:wrap64 p=p:=by rw[a1] at a;rw[a2] at f;unfold wrap64;omega
  exact⟨_,_,rfl,by rw[Qg0,e];exact⟨rfl,a,f⟩⟩
theorem Z4{α:Type}{xs:List α}{p:Int}{y:α}(h:getI xs p=some y):xs[p.toNat]?=some y:=(Qj5 h).2
end ops
theorem eqm0:EqM [] []:=⟨trivial,trivial⟩
theorem sj{R:Type}{X:Cx}{l l' m m'}{md:Option R}{G:R->Act->World->Prop}(k:Sq X l' m' md G)(h:Ent X l m l' m'):Sq X l m md G:=sent h k
def MiF(ρ:List (Nat×Nat))(mm:Nat->Option Ct):List (Nat×Ct)->Prop
 | []=>True
 | (x,a)::r=>(∃ y c,lk ρ x=some y/\mm y=some c/\RnC ρ c a)/\MiF ρ mm r
theorem MiF.get{ρ mm}:∀ {mi:List (Nat×Ct)},MiF ρ mm mi->∀ x a,lk mi x=some a->∃ y c,lk ρ x=some y/\mm y=some c/\RnC ρ c a
 | [],_,_,_,h=>by cases h
 | (i,c0)::r,d,x,a,h=>by simp only[lk] at h;cases hb:Nat.beq i x;rw[hb] at h;exact MiF.get d.2 x a h;rw[hb] at h;have:i=x:=ou hb;subst this;simp at h;subst h;exact d.1
section
variable {R:Type}{X:Cx}{l:List (Nat×Ly)}{m:List (Nat×Ct)}{md:Option R}{Q:R->Exit->Act->World->Prop}{G:R->Act->World->Prop}
theorem sjq{σ:Type}{x y:Code}{A:(σ->Option R)->Option R}{k:σ->Option R}(L:σ->List (Nat×Ly))(M:σ->List (Nat×Ct))
 (h:∀ j:σ->Option R,(∀ s,Sq X (L s) (M s) (j s) (λr=>y.wp X.P (Q r)))->Sq X l m (A j) (λr=>x.wp X.P (Exit.then (y.wp X.P (Q r)) (Q r))))
 (J:∀ s,Sq X (L s) (M s) (k s) (λr=>y.wp X.P (Q r))):Sq X l m (jn A k) (λr=>(Code.seq x y).wp X.P (Q r)):=sseq (h k J)
theorem sloopE{σ τ τ0:Type}{body:Code}{f:σ->Option (Lp σ τ)}{n:Nat}{s0:σ}{k:τ->Option R}(e:Nat)(inj:τ0->τ)
 (L:σ->List (Nat×Ly)) (M:σ->List (Nat×Ct)) (Lo:τ0->List (Nat×Ly)) (Mo:τ0->List (Nat×Ct)) (h0:Ent X l m (L s0) (M s0))
 (hb:(∀ t,Sq X (Lo t) (Mo t) (k (inj t)) (λr=>Q r (.exit e)))->∀ s,Sq X (L s) (M s) (f s) (λo=>body.wp X.P (LpQ X L M k Q o)))
 (a:∀ t,Sq X (Lo t) (Mo t) (k (inj t)) (λr=>Q r (.exit e))) :
 Sq X l m ((loopM f n s0).bind k) (λr=>(Code.loop body).wp X.P (Q r)):=sloop inj L M Lo Mo h0 hb a
end
section
variable {R:Type}{X:Cx}{l:List (Nat×Ly)}{m:List (Nat×Ct)}{md:Option R}{Q:R->Exit->Act->World->Prop}
theorem Qua{ops:Array Oper}{j d:Nat}{st mm a w γ}(hi:Inv X st mm a w γ)(g:((ops[j]?).bind (·.dst))=some d)(i:st d=some (.tup [])):yielded ops a.tmps j=none:=by obtain⟨v,e,f⟩:=hi.sts d _ i;simp only[Ly.val,Ly.vals] at f;obtain⟨cs,rfl,_⟩:=f;unfold yielded;simp[g,e]
theorem Qrv{w S γ}:Ly.val w S γ (.tup []) undef:=by simp only[Ly.val,Ly.vals];exact⟨#[],rfl,rfl⟩
theorem spB{d op ty pos after j b}{ops:Array Oper}{rest:List Oper}(e:Nat)(g:((ops[j]?).bind (·.dst))=some e)(i:lk l e=some (bl (!b)))(hd:Nat.blt d X.N=true)
 (k:Sq X ((d,.tup [])::l) m md (λr=>wpList X.P ops (Q r) rest)):Sq X l m md (λr=>wpList X.P ops (Q r) (⟨some d,op,ty,pos,after,some (j,b)⟩::rest)):=by
 intro r a w γ hr hi;refine wpList_step λK f=>?_;rw[oh (by cases b<;>simp[Region.wanted,Qib hi g i])];refine f _ w (k r _ w γ hr ?_);have:=hi.put (d:=d) (v:=undef) (ly:=.tup []) (by simpa using hd) Qrv;rw[up_lk] at this;exact this
theorem spU{d op ty pos after j b}{ops:Array Oper}{rest:List Oper}(e:Nat)(g:((ops[j]?).bind (·.dst))=some e)(i:lk l e=some (.tup []))(hd:Nat.blt d X.N=true)
 (k:Sq X ((d,.tup [])::l) m md (λr=>wpList X.P ops (Q r) rest)):Sq X l m md (λr=>wpList X.P ops (Q r) (⟨some d,op,ty,pos,after,some (j,b)⟩::rest)):=by
 intro r a w γ hr hi;refine wpList_step λK f=>?_;rw[oh (by simp[Region.wanted,Qua hi g i])];refine f _ w (k r _ w γ hr ?_);have:=hi.put (d:=d) (v:=undef) (ly:=.tup []) (by simpa using hd) Qrv;rw[up_lk] at this;exact this
end
section
variable {X:Cx}{st:Nat->Option Ly}{mm:Nat->Option Ct}{ops:Array Oper}
theorem ogB{d op ty pos after j b}(e:Nat)(g:((ops[j]?).bind (·.dst))=some e)(i:st e=some (bl (!b)))(hd:Nat.blt d X.N=true):OpG X ops st mm ⟨some d,op,ty,pos,after,some (j,b)⟩ [(d,.tup [])] []:=by intro a w γ K Q hi f;rw[oh (by cases b<;>simp[Region.wanted,Qib hi g i])];exact f _ _ _ (hi.put (d:=d) (v:=undef) (ly:=.tup []) (by simpa using hd) Qrv)
theorem ogU{d op ty pos after j b}(e:Nat)(g:((ops[j]?).bind (·.dst))=some e)(i:st e=some (.tup []))(hd:Nat.blt d X.N=true):OpG X ops st mm ⟨some d,op,ty,pos,after,some (j,b)⟩ [(d,.tup [])] []:=by intro a w γ K Q hi f;rw[oh (by simp[Region.wanted,Qua hi g i])];exact f _ _ _ (hi.put (d:=d) (v:=undef) (ly:=.tup []) (by simpa using hd) Qrv)
theorem frzI{a w γ d id E k ls}(hi:Inv X st mm a w γ)(B:mm id=some (.sl E k ls))(A:IFs ls)(hd:st d=some (.own id)):Inv X (up st [(d,sli k ls)]) (up mm [(id,.gone)]) a w γ:=by
 obtain⟨v,cs,s,⟨O,C⟩,F,H⟩:=slI hi B;have n:=hi.drop id;have J:∀ b,X.S γ (up mm [(id,.gone)]) b->X.S γ mm b:=by rintro b (h | ⟨i,r,u,f,p,x,y⟩);exact .inl h;rw[V6] at f;by_cases e:id=i;simp[e] at f;subst f;simp[Ct.alive] at p;simp[e] at f;exact .inr ⟨i,r,u,f,p,x,y⟩
 have L:(cpL k ls).p w (X.S γ (up mm [(id,.gone)])) v:=by rcases C with ⟨rfl,K⟩ | ⟨g,cap,cur,rfl,_,p,x,y,P,I⟩;exact .inl ⟨rfl,xm K⟩;have hmine:=hi.mine g ⟨id,_,_,B,rfl,s,rfl⟩;refine .inr (.inl ⟨g,0,cap,cs,rfl,x,y,hmine.2.1,?_,λj u q=>?_,Ly.holds_mono (Kp.refl _ _) (λb hb=>.inl (J b hb)) (Ng.refl _) _ _ ((A w _ γ (λ_=>none)).1 _ F),H⟩);rintro(h | ⟨i,r,u,k1,k2,M,N⟩);exact hmine.2.2 h;rw[V6] at k1;by_cases e:id=i;simp[e] at k1;subst k1;simp[Ct.alive] at k2;simp[e] at k1;exact e (hi.apart id i _ r _ u g B rfl k1 k2 s M rfl N);rw[Wg p,<-xt,xz];rw[<-I,yh] at q;split at q;exact q;cases q
 refine { n with sts:=?_ };intro i ly h;rw[V6] at h;by_cases e:d=i;subst e;simp at h;subst h;obtain⟨u,g1,t,_⟩:=hi.sts d _ hd;rw[s] at t;simp at t;subst t;exact⟨v,g1,L⟩;simp[e] at h;exact n.sts i ly h
theorem toV{o d y E k ls em}(h:OpOk X st mm o [(d,.own y)] ((y,.sl E k ls)::em))(g:IFs ls):OpOk X st mm o [(d,sli k ls)] ((y,.gone)::em):=by
 intro a w γ K Q hi q;refine h a w γ K Q hi λj w' γ' f=>q j w' γ' ?_;have:=frzI (d:=d) (id:=y) (E:=E) (k:=k) (ls:=ls) f (by simp[up,lk]) g (by simp[up,lk]);have n:up (up st [(d,.own y)]) [(d,sli k ls)]=up st [(d,sli k ls)]:=by funext i;simp only[V6];by_cases e:d=i<;>simp[e]
 have p:up (up mm ((y,.sl E k ls)::em)) [(y,.gone)]=up mm ((y,.gone)::em):=by
  funext i;rw[V6];by_cases e:y=i;subst e;simp[up,lk];have hb:Nat.beq y i=false:=by cases hb:Nat.beq y i;rfl;exact absurd (ou hb) e
  simp[e,up,lk,hb]
 rw[n,p] at this;exact this
theorem slO{d x hi T ty pos af id y E E' k b z q}{α:Type}{f:α->Ly}{xs ys:List α}(hs:sub xs 0 q=some ys)(W:mm id=some (.sl E' k (xs.map f)))(F:X.P.underlying T=some (.slice E))(C:TyI X.P E k b z)
 (hd:Nat.blt d X.N=true) (hx:OpdF st x (.own id)) (H:BndF st xs.length hi q) (hy:mm y=none) :
 OpOk X st mm ⟨some d,.slice T x none hi none,ty,pos,af,none⟩ [(d,.own y)] [(y,.sl E' k (ys.map f)),(id,.gone)]:=by
 intro a w γ K Q hI hK;obtain⟨h0,h1,U,rfl⟩:=Qon hs;obtain⟨v,cs,B,⟨n,N⟩,Y,O⟩:=slI hI W;obtain⟨hv,_⟩:=hx.val hI;have A:a.eval x=v:=by rw[hv] at B;simpa using B
 have e:(hi.map a.eval=none/\q=(xs.length:Nat))\/∃ M,hi.map a.eval=some (.int M q):=by rcases Qh2 hI H with ⟨rfl,h⟩ | ⟨x,M,rfl,h⟩;exact .inl ⟨rfl,h⟩;exact .inr ⟨M,by simp[h]⟩
 rw[xr] at n N;have r:(cs.take (q.toNat*k)).length=q.toNat*k:=by rw[xg,n];exact ya (xq k om)
 have hylen:((xs.take q.toNat).drop (0:Int).toNat).length=q.toNat:=oe
 have hold:Ly.holds w (X.S γ mm) γ (((xs.take q.toNat).drop (0:Int).toNat).map f) (cs.take (q.toNat*k)):=by
  have:=(Qba q.toNat Y O).1
  simpa [uw] using this
 have J:∀ ly∈((xs.take q.toNat).drop (0:Int).toNat).map f,ly.sz=k:=λly h=>O ly (by
  obtain⟨u,hu,rfl⟩:=xa.1 h
  exact xa.2 ⟨u,yd (by simpa using hu),rfl⟩)
 have fin:∀ v',(execOp a.eval ⟨some d,.slice T x none hi none,ty,pos,af,none⟩).run X.P w=.ok (.value v') w->w.ownsRow 0 E' k v' q.toNat (cs.take (q.toNat*k))->(∀ b,blkOf v'=some b->blkOf v=some b) ->
  Oper.wp X.P ⟨some d,.slice T x none hi none,ty,pos,af,none⟩ a w K Q:=by
  intro v' hr i hb;unfold Oper.wp;rw[hr];have t:v'.oneCell'=true:=by rcases i.2 with ⟨rfl,_⟩ | ⟨g,cap,cur,rfl,_⟩<;>rfl
  have s:=hI.replace (w':=w) rfl rfl rfl W rfl B (Kp.refl _ _) (y:=y) (ct:=.sl E' k (((xs.take q.toNat).drop (0:Int).toNat).map f)) (v':=v') hy rfl
   (λS γ' hS I L=>⟨v',cs.take (q.toNat*k),L,by rw[xr,hylen];exact i,Ly.holds_mono (Kp.refl _ _) hS I _ _ hold,J⟩)
   (λb j=>⟨.inl (hb b j),by
    rcases i.2 with ⟨rfl,_⟩ | ⟨g,cap,cur,rfl,_,U,_⟩;simp[blkOf] at j;simp[blkOf] at j;subst j;rcases xc g w.heap.size with h | h;exact h
    simp[yo h] at U⟩)
  exact hK _ _ _ (s.put (d:=d) (v:=v') (ly:=.own y) (by simpa using hd) ⟨by simp[Inv.gset],t⟩)
 rcases N with ⟨rfl,hn⟩ | ⟨g,cap,cur,rfl,hg,Z,g3,g4,g5,g6⟩;have hq:q=0:=om
 subst hq;refine fin (.slice none 0 0) ?_ ⟨oa,.inl ⟨rfl,rfl⟩⟩ (λb hb=>hb);have:=Ym (P:=X.P) (w:=w) (isS:=true) (len:=0) (cap:=0) (lo:=none) (hi:=hi.map a.eval) (p:=0) (q:=0) (.inl ⟨rfl,rfl⟩) (by rw[hn] at e;exact e) om om om;simp only[execOp,A];simp[Instr.sliceAt,Instr.slice,underlying,F,this,Va C];have hb:=Ym (P:=X.P) (w:=w) (isS:=true) (len:=xs.length) (cap:=cap) (lo:=none) (hi:=hi.map a.eval) (p:=0) (q:=q) (.inl ⟨rfl,rfl⟩) e om h1 om;refine fin (.slice (some ⟨g,0,none⟩) q.toNat cap) ?_ ⟨r,.inr ⟨g,cap,cur,rfl,hg,Z,om,g4,g5,?_⟩⟩ (λb hb=>by simpa [blkOf] using hb);simp only[execOp,A];by_cases V:cap=0;subst V;simp[Instr.sliceAt,Instr.slice,underlying,F,hb,Va C];simp[Instr.sliceAt,Instr.slice,underlying,F,hb,Va C,V,add0];rw[<-g6,List.take_take,ya (xq k om)]
end
section
variable {X:Cx}{st:Nat->Option Ly}{mm:Nat->Option Ct}
theorem bnd{a x p q}(h:OpdF st x (.cell (cpI a q))):BndF st p (some x) q:=⟨a,h⟩
theorem bnd0{p}:BndF st p none p:=rfl
end
theorem Qqd{P:Program}{T:Nat}{f:Bool}{k off:Nat}{w w':World}{S γ}{ly:Ly}{cs:Array Value}{a u b:List Value}(h:Shp P T f k)(g:ly.isN=f)(p:ly.sz=k)
 (i:cs.toList=a++u++b) (j:a.length=off) (e:ly.hold w S γ u):∃ v,(part T cs off).run P w'=.ok v w'/\ly.val w S γ v:=by
 have d:=Ly.hold_sz _ _ e;cases f with
 | true=>
   refine⟨.agg u.toArray,?_,?_⟩;have:cs.extract off (off+k)=u.toArray:=by apply Array.ext';rw[Array.toList_extract,i];simp only[List.extract_eq_take_drop];rw[<-j,xb,List.drop_left,<-p,<-d,show a.length+u.length - a.length=u.length by omega,List.take_left]
   simp[part,Qh1 h,Qic h,this];cases ly<;>simp[Ly.isN] at g;simp only[Ly.val,Ly.hold] at e |-;exact⟨_,rfl,e⟩
 | false=>
   have n:u.length=1:=by cases ly<;>simp[Ly.isN] at g<;>simpa [Ly.sz] using d
   obtain⟨v,rfl⟩:∃ v,u=[v]:=by
    match u,n with
    | [v],_=>exact⟨v,rfl⟩
   refine⟨v,?_,Ly.val_of_hold1 g e⟩;have:cs[off]?=some v:=by rw[<-xt,i,<-j,xb,yy (xd _)];simp
   simp[part,Qh1 h,this]
def EqF(P:Program)(n T:Nat){α:Type}(f:α->Ly)(e:α->α->Bool):Prop:=
 ∀ d w w' S γ x y a g,(f x).val w S γ a->(f y).val w S γ g->(Op.equalIn (d+n) T a g).run P w'=.ok (e x y) w'
theorem Qgk{P n T}(h:P.underlying T=some (.int .i64)):EqF P (n+1) T i64 (λx y=>x == y):=by intro d w w' S γ x y f g a e;obtain⟨rfl,_⟩:=a;obtain⟨rfl,_⟩:=e;exact run_equalIn_int w' (d+n) T _ _ x y h
theorem Qeb{P n T}{α β:Type}{f:α->Ly}{e:α->α->Bool}(g:β->α)(h:EqF P n T f e):EqF P n T (λx=>f (g x)) (λx y=>e (g x) (g y)):=λd w w' S γ x y=>h d w w' S γ (g x) (g y)
def EqFs(P:Program)(n:Nat)(fs:List Field)(off:Nat){α:Type}(f:α->List Ly)(e:α->α->Bool):Prop:=
 ∀ d w w' S γ x y (xs ys:Array Value) a1 u1 a2 u2,xs.toList=a1++u1->a1.length=off->Ly.holds w S γ (f x) u1->ys.toList=a2++u2->a2.length=off->Ly.holds w S γ (f y) u2 ->
   (Op.eqFields (d+n) xs ys fs).run P w'=.ok (e x y) w'
theorem Qtf{P n off}{α:Type}:EqFs P n [] off (λ_:α=>[]) (λ_ _=>true):=by intro d w w' S γ x y xs ys a1 a a2 e _ _ _ _ _ _;simp[Op.eqFields]
theorem Qcd{P n off k ag}{α:Type}{F:Field}{fs:List Field}{g:α->Ly}{f:α->List Ly}{e1 e2:α->α->Bool}(hname:(F.name == "_")=false)(hoff:F.offset=off)(hT:Shp P F.type ag k)(hn:∀ x,(g x).isN=ag)(hz:∀ x,(g x).sz=k)
 (h1:EqF P n F.type g e1) (h2:EqFs P n fs (off+k) f e2):EqFs P n (F::fs) off (λx=>g x::f x) (λx y=>e1 x y && e2 x y):=by
 intro d w w' S γ x y xs ys a1 u1 a2 u2 hx hxl hxh hy hyl hyh;obtain⟨c1,c2,rfl,p1,p2⟩:=hxh;obtain⟨d1,d2,rfl,q1,q2⟩:=hyh;have hne:F.name≠ "_":=by simpa using hname
 obtain⟨v,r1,r2⟩:=Qqd (w:=w) (w':=w') (S:=S) (γ:=γ) (off:=off) hT (hn x) (hz x) (cs:=xs) (b:=c2) (by rw[hx,xb]) hxl p1;obtain⟨v',s1,s2⟩:=Qqd (w:=w) (w':=w') (S:=S) (γ:=γ) (off:=off) hT (hn y) (hz y) (cs:=ys) (b:=d2) (by rw[hy,xb]) hyl q1;have he:=h1 d w w' S γ x y v v' r2 s2;have hrest:=h2 d w w' S γ x y xs ys (a1++c1) c2 (a2++d1) d2 (by rw[hx,xb]) (by rw[xk,hxl,Ly.hold_sz _ _ p1,hz]) p2 (by rw[hy,xb]) (by rw[xk,hyl,Ly.hold_sz _ _ q1,hz]) q2;simp only[Op.eqFields,hoff];rw[oi hne];simp only[Sem.run_bind,r1,s1,Result.andThen_ok,he];cases h:e1 x y;simp;simp[hrest]
theorem Qop{P n T}{α:Type}{fs:Array Field}{f:α->List Ly}{e:α->α->Bool}(g:P.underlying T=some (.struct fs))(q:P.stoodInHeld T=false)(h:EqFs P n fs.toList 0 f e):EqF P (n+1) T (λx=>.agg (f x)) e:=by
 intro d w w' S γ x y r s j k;obtain⟨cs,rfl,p⟩:=j;obtain⟨ds,rfl,a⟩:=k;have i:P.fieldsOf T=fs:=by simp[Program.fieldsOf,g]
 rw[show d+(n+1)=(d+n)+1 by omega,run_equalIn_struct w' (d+n) T cs ds (by rw[i];exact g) q,i];exact h d w w' S γ x y cs ds [] _ [] _ rfl rfl p rfl rfl a
section ops
variable {X:Cx}{st:Nat->Option Ly}{mm:Nat->Option Ct}
theorem Q2e{d o x y T j ty pos af n}{α:Type}{f:α->List Ly}{e:α->α->Bool}{p q:α}{b:Bool}(k:EqF X.P n T (λx=>.agg (f x)) e)(t:Nat.ble n 10000=true)(r:X.P.eqGuardType X.P.depth T=false)
 (a:∀ cs ds w,(Op.equal T (.agg cs) (.agg ds)).run X.P w=.ok (e p q) w->(binOp o T (.agg cs) (.agg ds)).run X.P w=.ok (.bool b) w)
 (hd:Nat.blt d X.N=true) (u:OpdF st x (.agg (f p))) (v:OpdF st y (.agg (f q))) :
 OpOk X st mm ⟨some d,.binOp o T x y j,ty,pos,af,none⟩ [(d,bl b)] []:=
 Qgz hd u v λw S γ A B g i=>by have s:=ur t;have hr:=λw':World=>k (10000 - n) w w' S γ p q A B g i;rw[show 10000 - n+n=10000 by omega] at hr;simp only[Ly.val] at g i;obtain⟨cs,rfl,_⟩:=g;obtain⟨ds,rfl,_⟩:=i;refine⟨.bool b,λw'=>?_,λw'=>a cs ds w' (hr w'),by simp[bl,Ly.val,cpB]⟩;cases o<;>simp[eqGuard,r]
theorem eqA{d x y T a ty pos af n}{α:Type}{f:α->List Ly}{e:α->α->Bool}{p q:α}(g:EqF X.P n T (λx=>.agg (f x)) e)(j:Nat.ble n 10000=true)(i:X.P.eqGuardType X.P.depth T=false)
 (hd:Nat.blt d X.N=true) (k:OpdF st x (.agg (f p))) (r:OpdF st y (.agg (f q))) :
 OpOk X st mm ⟨some d,.binOp .eql T x y a,ty,pos,af,none⟩ [(d,bl (e p q))] []:=
 Q2e g j i (λcs ds w h=>by simp[binOp,h]) hd k r
theorem neA{d x y T a ty pos af n}{α:Type}{f:α->List Ly}{e:α->α->Bool}{p q:α}(g:EqF X.P n T (λx=>.agg (f x)) e)(j:Nat.ble n 10000=true)(i:X.P.eqGuardType X.P.depth T=false)
 (hd:Nat.blt d X.N=true) (k:OpdF st x (.agg (f p))) (r:OpdF st y (.agg (f q))) :
 OpOk X st mm ⟨some d,.binOp .neq T x y a,ty,pos,af,none⟩ [(d,bl (!(e p q)))] []:=
 Q2e g j i (λcs ds w h=>by simp[binOp,h]) hd k r
end ops
theorem goA{α:Type}{f:α->Ly}{k:Nat}(g:∀ x,(f x).sz=k){xs:List α}{i:Nat}{y:α}(h:xs[i]?=some y):Ly.go [i] (.agg (xs.map f))=some (f y,i*k):=by
 have e:(xs.map f)[i]?=some (f y):=by simp[h]
 have hi:i<xs.length:=by rcases xc i xs.length with a | a;exact a;simp[xn a] at h
 have hs:Ly.szs ((xs.map f).take i)=i*k:=Qom (λly d=>by obtain⟨x,_,rfl⟩:=xa.1 d;exact g x) oe;simp[Ly.go,e,hs]
section ops
variable {X:Cx}{st:Nat->Option Ly}{mm:Nat->Option Ct}
def APart(st:Nat->Option Ly)(k:Nat):List (Nat×Operand)->Ly->Ly->Prop
 | [],z,r=>z=r
 | (i,x)::d,z,r=>∃ ly a off,OpdF st x ly/\ly.lies=true/\Ly.go [i] z=some (a,off)/\off=i*k/\a.sz=k/\ly.sz=k/\APart st k d (Ly.pu ly [i] z) r
theorem Q2f{st k}:∀ {a:List (Nat×Operand)}{z r:Ly}(pl:List (Nat×Nat)),(∀ i x,(i,x)∈a->pl[i]?=some (i*k,k))->APart st k a z r->BPart st pl a z r
 | [],z,r,pl,_,h=>h
 | (i,x)::a,z,r,pl,e,h=>by obtain⟨ly,u,off,f,g,n,p,d,q,s⟩:=h;subst p;exact⟨ly,u,_,f,g,n,by rw[d];exact e i x um,by rw[d];exact q,Q2f pl (λj y t=>e j y (yw _ t)) s⟩
theorem Qub{g d:Nat->Option (Nat×Nat)}:∀(a:List (Nat×Value)) (cells:Array Value),(∀ i x,(i,x)∈a->g i=d i)->Instr.fill g cells a=Instr.fill d cells a
 | [],_,_=>rfl
 | (i,x)::a,cells,h=>by simp only[Instr.fill,h i x um];split;rfl;split;rfl;exact Qub a _ (λj y e=>h j y (yw _ e))
theorem bldA{d T n E parts ty pos af kT bT zT k b z s l}(A:X.P.underlying T=some (.array n E))(g:TyI X.P T kT bT zT)(v:TyI X.P E k b z)(C:Zr s zT.cells.toList)(r:(parts.all λp=>Nat.blt p.1 n)=true)(B:APart st k parts s (.agg l))(hd:Nat.blt d X.N=true):
 OpOk X st mm ⟨some d,.build T ⟨parts⟩,ty,pos,af,none⟩ [(d,.agg l)] []:=
 Vt hd λa w γ hI=>by
  have f:∀ i x,(i,x)∈parts->((List.range n).map (λi=>(i*k,k)))[i]?=some (i*k,k):=by intro i x e;have:=gc.1 r _ e;simp at this;simp[this]
  obtain⟨cells',g1,u⟩:=Qjx hI parts s (.agg l) zT.cells (Q2f _ f B) (C _ _ _);refine⟨.agg cells',?_,⟨_,rfl,by simpa [Ly.hold] using u⟩⟩;have hfill:Instr.fill (λi=>some (i*k,k)) zT.cells (parts.map λ(i,x)=>(i,a.eval x))=some cells':=by rw[<-g1];refine Qub _ _ λi x e=>?_;obtain⟨⟨j,y⟩,q,t⟩:=xa.1 e;simp at t;rw[<-t.1];exact(f j y q).symm
  simp only[execOp,Instr.build];simp only[Sem.run_bind,Qao g,Result.andThen_ok,underlying,run_program,A,Sem.run_pure,Va v];simp only[List.map_toArray,hfill];rfl
end ops
section ops
variable {X:Cx}{st:Nat->Option Ly}{mm:Nat->Option Ct}
end ops
section ops
variable {X:Cx}{st:Nat->Option Ly}{mm:Nat->Option Ct}
end ops
def sIt(s:List UInt8)(p:Nat):Obj:=.stringIter ⟨s.toArray⟩ p
def decR(s:List UInt8)(p:Nat):Nat:=(Utf8.decode ⟨s.toArray⟩ p).1
def decW(s:List UInt8)(p:Nat):Nat:=(Utf8.decode ⟨s.toArray⟩ p).2
theorem Q8u(s:List UInt8)(p:Nat):decR s p<=1114111:=by unfold decR Utf8.decode;simp only[];split;rename_i h;simp at h |-;omega;split;split;rename_i h a;simp at h |-;omega;simp[Utf8.runeError];split;split;rename_i h;simp[Utf8.valid] at h |-;omega;simp[Utf8.runeError];split;split;rename_i h;simp[Utf8.valid] at h |-;omega;simp[Utf8.runeError];simp[Utf8.runeError]
section ops
variable {X:Cx}{st:Nat->Option Ly}{mm:Nat->Option Ct}
theorem rngS{d T x ty pos af s y}(f:X.P.underlying T=some .string)(i:OpdF st x (str s))(j:mm y=none)(hd:Nat.blt d X.N=true):
 OpOk X st mm ⟨some d,.range T x,ty,pos,af,none⟩ [(d,.own y)] [(y,.ob (sIt s 0))]:=
 Qnp hd j rfl λa w γ hi=>by
  obtain⟨g,_⟩:=i.val hi
  refine⟨.pointer (some ⟨w.heap.size,0,none⟩),w.alloc (sIt s 0),?_,rfl,rfl,rfl,Qea _ _ _,rfl,
   λS γ' k n e=>⟨w.heap.size,e,Qji _ _⟩,λb hb=>by simp[blkOf] at hb;subst hb;simp⟩
  simp only[execOp,g];simp[run_range_string w T _ f,World.iter,sIt]
theorem obI{id o}{a w γ}(hI:Inv X st mm a w γ)(d:mm id=some (.ob o)):∃ g,γ id=some (.pointer (some ⟨g,0,none⟩))/\w.heap[g]?=some o:=hI.cts id _ d
theorem nxtF{d x ty pos af id s p}(h:decide (p<s.length)=false)(k:mm id=some (.ob (sIt s p)))(hd:Nat.blt d X.N=true)(n:OpdF st x (.own id)):
 OpOk X st mm ⟨some d,.next x true,ty,pos,af,none⟩ [(d,.tup [bl false])] []:=by
 refine Vt hd λa w γ hI=>?_;obtain⟨g,j,f⟩:=obI hI k;obtain⟨e,_⟩:=n.val hI;rw[j] at e;have e:a.eval x=.pointer (some ⟨g,0,none⟩):=by simpa using e.symm
 have i:¬ p<(ByteArray.mk s.toArray).size:=by simpa [ByteArray.size] using h
 refine⟨.tuple #[.bool false],?_,#[.bool false],rfl,_,[],rfl,rfl,rfl⟩;simp only[execOp,e];simp only[sIt] at f;simp[Instr.next,getObj,Sem.run,f,i]
theorem nxtT{d x ty pos af id s p}(h:decide (p<s.length)=true)(r:Nat.ble s.length 1000000=true)(u:mm id=some (.ob (sIt s p)))(hd:Nat.blt d X.N=true)(E:OpdF st x (.own id)):
 OpOk X st mm ⟨some d,.next x true,ty,pos,af,none⟩ [(d,.tup [bl true,i64 (p:Int),i32 (decR s p:Nat)])] [(id,.ob (sIt s (p+decW s p)))]:=by
 intro a w γ K Q hI y;have t:=ur r;obtain⟨g,j,k⟩:=obI hI u;obtain⟨i,_⟩:=E.val hI;rw[j] at i;have i:a.eval x=.pointer (some ⟨g,0,none⟩):=by simpa using i.symm
 have C:p<s.length:=wt h;have v:p<(ByteArray.mk s.toArray).size:=by simpa [ByteArray.size] using C
 have A:g<w.heap.size:=by
  rcases xc g w.heap.size with h | h
  . exact h
  . simp[yo h] at k
 let w':World:={ w with heap:=w.heap.setIfInBounds g (sIt s (p+decW s p)) }
 have f:(execOp a.eval ⟨some d,.next x true,ty,pos,af,none⟩).run X.P w=.ok (.value (.tuple #[.bool true,.int .i64 p,.int .i32 (decR s p:Nat)])) w':=by simp only[execOp,i];simp only[sIt] at k;simp[Instr.next,getObj,setObj,Sem.run,k,v,goInt,w',decR,decW,sIt]
 have q:Kp (λb=>b=g) w w':=⟨by simp[w'],λb hb B=>by simp[w',vg (Ne.symm B)]⟩
 have e:w'.heap[g]?=some (sIt s (p+decW s p)):=by simp[w',A]
 have n:=hI.setc (w':=w') (ct:=.ob (sIt s (p+decW s p))) rfl rfl rfl u rfl j rfl q rfl ⟨g,j,e⟩;unfold Oper.wp;rw[f];have hr:=Q8u s p;refine y _ _ _ (n.put (d:=d) (ly:=.tup [bl true,i64 (p:Int),i32 (decR s p:Nat)]) (by simpa using hd) ⟨#[.bool true,.int .i64 p,.int .i32 (decR s p:Nat)],rfl,_,_,rfl,rfl,_,_,rfl,⟨rfl,?_,?_⟩,_,_,rfl,⟨rfl,?_,?_⟩,rfl⟩)
 all_goals simp[IntKind.min,IntKind.max,IntKind.bits,IntKind.signed]<;>omega
theorem Q67{α:Type}{xs:List α}{i:Int}{y:α}{n:Nat}(d:xs.length=n)(h:getI xs i=some y):(decide (0<=i) && decide (i<(n:Int)))=true:=by
 obtain⟨h0,a⟩:=Qj5 h;have:i.toNat<xs.length:=by rcases xc i.toNat xs.length with h | h;exact h;simp[xn h] at a
 simp;omega
theorem ixV{K:IntKind}{d T x i ty pos af n E j k}{p:Int}{α:Type}{f:α->Ly}{xs:List α}{y:α}(A:X.P.underlying T=some (.array n E))(q:Shp X.P E j k)(H:Nat.beq xs.length n=true)(e:getI xs p=some y)
 (r:∀ x,(f x).sz=k) (B:∀ x,(f x).isN=j) (hd:Nat.blt d X.N=true) (J:OpdF st x (.agg (xs.map f))) (hi:OpdF st i (.cell (cpI K p))) :
 OpOk X st mm ⟨some d,.index T x i,ty,pos,af,none⟩ [(d,f y)] []:=
 Vt hd λa w γ hI=>by have g:xs.length=n:=ou H;have hb:=Q67 g e;simp only[yg,decide_eq_true_eq] at hb;obtain⟨h0,e⟩:=Qj5 e;obtain⟨g1,_⟩:=hi.val hI;obtain⟨cs,I,F⟩:=J.val hI;obtain⟨a1,u,N,C,s,t,_⟩:=Qgj (w:=w) (S:=X.S γ mm) (γ:=γ) [p.toNat] (goA r e) (cs:=cs.toList) (by simpa [Ly.hold] using F);obtain⟨v,L,M⟩:=Qqd (P:=X.P) (w':=w) q (B y) (r y) C s t;refine⟨v,?_,M⟩;simp only[execOp,I,g1];simp[Instr.index,asIntOf,underlying,A,hb.1,hb.2,Qic q,L]
end ops
def Pl(ly:Ly):Prop:=∀ w S S' γ,(∀ cs,ly.hold w S γ cs->ly.hold w S' γ cs)/\(∀ v,ly.val w S γ v->ly.val w S' γ v)
def Pls(l:List Ly):Prop:=∀ w S S' γ,(∀ cs,Ly.holds w S γ l cs->Ly.holds w S' γ l cs)/\(∀ v,Ly.vals w S γ l v->Ly.vals w S' γ l v)
theorem Qvw(p:CP)(h:∀ w S S' v,p.p w S v->p.p w S' v):Pl (.cell p):=λw S S' γ=>⟨λcs ⟨v,a,h2⟩=>⟨v,a,h _ _ _ _ h2⟩,λv a=>by simp only[Ly.val] at a |-;exact h _ _ _ _ a⟩
theorem Jai{x}:Pl (i64 x):=Qvw _ λ_ _ _ _ h=>h
theorem Qlf{x}:Pl (u32 x):=Qvw _ λ_ _ _ _ h=>h
theorem pl_bl{x}:Pl (bl x):=Qvw _ λ_ _ _ _ h=>h
theorem Qlg{x}:Pl (.own x):=λ_ _ _ _=>⟨λ_ h=>h,λv h=>by simp only[Ly.val] at h |-;exact h⟩
theorem Q8v:Pls []:=λ_ _ _ _=>⟨λ_ h=>h,λv h=>by simpa [Ly.vals] using h⟩
theorem Q68{ly l}(d:Pl ly)(e:Pls l):Pls (ly::l):=λw S S' γ=>
 ⟨λcs h=>by obtain⟨c1,f,rfl,g1,a⟩:=h;exact⟨c1,f,rfl,(d w S S' γ).1 _ g1,(e w S S' γ).1 _ a⟩,
  λv h=>by
   simp only[Ly.vals] at h |-
   obtain⟨u,r,rfl,g1,a⟩:=h;exact⟨u,r,rfl,(d w S S' γ).2 _ g1,(e w S S' γ).2 _ a⟩⟩
theorem Qh3{α:Type}{f:α->Ly}(h:∀ x,Pl (f x)):∀ xs:List α,Pls (xs.map f)
 | []=>Q8v
 | x::xs=>Q68 (h x) (Qh3 h xs)
def PlC:Ct->Prop
 | .sl _ _ ls=>Pls ls
 | .bx _ ly=>Pl ly
 | .mp _ ls=>Pls ls
 | _=>True
def PlM:List (Nat×Ct)->Prop
 | []=>True
 | (_,c)::r=>PlC c/\PlM r
theorem PlM.get:∀ {m:List (Nat×Ct)},PlM m->∀ {x c},lk m x=some c->PlC c
 | [],_,_,_,h=>by cases h
 | (i,c0)::r,a,x,c,h=>by simp only[lk] at h;cases hb:Nat.beq i x;rw[hb] at h;exact PlM.get a.2 h;rw[hb] at h;simp at h;subst h;exact a.1
theorem V7.pl{w S S' γ id c}(h:V7 w S γ id c)(j:PlC c):V7 w S' γ id c:=by
 cases c with
 | gone=>trivial
 | sl E k ls=>obtain⟨v,cs,a,d,e,i⟩:=h;exact⟨v,cs,a,d,(j _ _ _ _).1 _ e,i⟩
 | bx E ly=>obtain⟨g,cur,a,d,e⟩:=h;exact⟨g,cur,a,d,(j _ _ _ _).1 _ e⟩
 | ob o=>exact h
 | mp ks ls=>obtain⟨g,n,f,a,d,e,i⟩:=h;exact⟨g,n,f,a,d,e,(j _ _ _ _).2 _ i⟩
def lentB(lt:List Nat)(id:Nat):Bool:=lt.any (Nat.beq id)
def LArg(st:Nat->Option Ly)(mm:Nat->Option Ct)(lt:List Nat)(x:Operand)(a:Ly):Prop:=
 ∃ id,lentB lt id=true/\((OpdF st x (.own id)/\((∃ E k ls,mm id=some (.sl E k ls)/\IFs ls/\a=sli k ls)\/(∃ E ly,mm id=some (.bx E ly)/\IF ly/\a=.ref ly))) \/
   ∃ off len E ls,OpdF st x (.win id off len)/\mm id=some (.sl E 1 ls)/\IFs ls/\off+len<=ls.length/\a=sli 1 ((ls.drop off).take len))
def ArgL(st:Nat->Option Ly)(mm:Nat->Option Ct)(ρ:List (Nat×Nat))(lt:List Nat):List Operand->List Ly->Prop
 | [],[]=>True
 | x::xs,a::d=>((∃ ly,OpdF st x ly/\Rn ρ ly a)\/LArg st mm lt x a)/\ArgL st mm ρ lt xs d
 | _,_=>False
section
variable {X:Cx}{st:Nat->Option Ly}{mm:Nat->Option Ct}
theorem Q69{a w γ γc S lt x s}(hi:Inv X st mm a w γ)(I:∀ b,S b->X.S γ mm b)
 (H:∀ id c v b,lentB lt id=true->mm id=some c->c.alive=true->γ id=some v->blkOf v=some b->¬ S b) (h:LArg st mm lt x s):s.val w S γc (a.eval x):=by
 obtain⟨id,h0,h⟩:=h;rcases h with ⟨L,h⟩ | ⟨off,len,E,ls,L,i,f,Z,rfl⟩
 rotate_left
 . obtain⟨v,cs,e,⟨t,n⟩,y,r⟩:=slI hi i
   obtain⟨v0,N,U⟩:=L.val hi;rw[e] at N;cases N;have J:Ly.holds w S (λ_=>none) ls cs:=Ly.holds_mono (Kp.refl _ _) (λb hb=>.inl (I b hb)) (Ng.refl _) _ _ ((f w _ γ (λ_=>none)).1 _ y);obtain⟨_,s2⟩:=Qba off J r;obtain⟨s3,_⟩:=Qba len s2 (λly K=>r ly (ve K));rcases U with ⟨f3,O,A⟩ | ⟨g,cap,o,f3,O,W,A,V⟩
   . rw[f3]
     subst A;exact .inl ⟨rfl,oa⟩
   . rcases n with ⟨n,_⟩ | ⟨B,M,cur,n,_,C,P,T,Y,F⟩
     . rw[n] at f3;simp[blkOf] at f3
     . subst n
       simp[blkOf] at f3;subst f3;have hmine:=hi.mine B ⟨id,_,_,i,rfl,e,rfl⟩;have p:((ls.drop off).take len).length=len:=oe
       rw[O];refine .inr (.inl ⟨B,o,cap,(cs.drop (off*1)).take (len*1),?_,?_,V,hmine.2.1,H id _ _ B h0 i rfl e rfl,λj u d=>?_,s3,λly K=>r ly (ve (yd K))⟩)
       . rw[p]
       . rw[p];exact A
       . rw[Wg C,<-xt]
         rw[yh] at d;split at d
         . rw[W om]
           rw[vq,<-F,yh] at d;split at d
           . rw[Nat.mul_one] at d;exact d
           . cases d
         . cases d
 obtain⟨q,_⟩:=L.val hi;rcases h with ⟨E,k,ls,i,f,rfl⟩ | ⟨E,ly,i,f,rfl⟩
 . obtain⟨v,cs,e,⟨t,n⟩,y,r⟩:=slI hi i
   rw[q] at e;simp at e;rw[e];rw[e] at q;rcases n with ⟨rfl,hn⟩ | ⟨g,cap,cur,rfl,_,C,P,T,Y,F⟩
   . exact .inl ⟨rfl,xm hn⟩
   . have hmine:=hi.mine g ⟨id,_,_,i,rfl,q,rfl⟩
     refine .inr (.inl ⟨g,0,cap,cs,rfl,P,T,hmine.2.1,H id _ _ g h0 i rfl q rfl,λj u d=>?_,?_,r⟩)
     . rw[Wg C,<-xt,xz]
       rw[<-F,yh] at d;split at d
       . exact d
       . cases d
     . exact Ly.holds_mono (Kp.refl _ _) (λb hb=>.inl (I b hb)) (Ng.refl _) _ _ ((f w _ γ (λ_=>none)).1 _ y)
 . obtain⟨g,cur,e,t,n⟩:=bxI hi i
   rw[q] at e;simp at e;rw[e];rw[e] at q;have hmine:=hi.mine g ⟨id,_,_,i,rfl,q,rfl⟩;refine⟨g,0,cur.toList,rfl,hmine.2.1,H id _ _ g h0 i rfl q rfl,λj u d=>?_,?_⟩
   . rw[Wg t,<-xt,xz];exact d
   . exact Ly.hold_mono (Kp.refl _ _) (λb hb=>.inl (I b hb)) (Ng.refl _) _ _ ((f w _ γ γc).1 _ n)
theorem Qxm{a w γ γc ρ S lt}(hi:Inv X st mm a w γ)(i:∀ y x,lk ρ y=some x->γc y=γ x)(f:∀ b,S b->X.S γ mm b)
 (g:∀ id c v b,lentB lt id=true->mm id=some c->c.alive=true->γ id=some v->blkOf v=some b->¬ S b) :
 ∀ {xs:List Operand}{d:List Ly},ArgL st mm ρ lt xs d->Ly.vals w S γc d (xs.map a.eval)
 | [],[],_=>by simp[Ly.vals]
 | x::xs,ly::d,h=>by obtain⟨e,k⟩:=h;simp only[xp,Ly.vals];refine⟨_,_,rfl,?_,Qxm hi i f g k⟩;rcases e with ⟨n,e,j⟩ | e;exact Ly.val_mono (Kp.refl _ _) (λb hb=>.inl (f b hb)) (Ng.refl _) _ _ ((j w _ γ γc i).2 _ (e.val hi));exact Q69 hi f g e
 | [],_::_,h=>h.elim
 | _::_,[],h=>h.elim
theorem callL{d f args argTypes ty pos af largs mi res mo res' em}(lt:List Nat)(ρ τ σ:List (Nat×Nat))(hlr:(lt.any λid=>ρ.any λe=>Nat.beq e.2 id)=false)(hf:FnOk X.P f largs mi res mo)(hpm:PlM mo)(hpr:Pl res')
 (ha:ArgL st mm ρ lt args largs) (hmi:∀ x c',lk mi x=some c'->∃ y c,lk ρ x=some y/\mm y=some c/\RnC ρ c c') (hρm:NmM mi ρ) (hρn:nodupB (ρ.map (·.2))=true)
 (hτ:Fresh mm τ) (hσ:SigT τ ρ σ) (hσn:nodupB (σ.map (·.2))=true) (hem:BackM σ ρ mo em) (hall:AllIn em (ρ.map (·.2))) (hall2:AllIn em (τ.map (·.1)))
 (hres:Rn σ res res') (hd:Nat.blt d X.N=true) :
 OpOk X st mm ⟨some d,.call { callee:=.value (.func f),args:=⟨args⟩,argTypes:=argTypes },ty,pos,af,none⟩ [(d,res')] em:=by
 obtain⟨⟨fn,hfn,hname,hbody⟩,hc⟩:=hf;intro a w γ K Q hi hK;let γc:Nm:=λx=>match lk ρ x with | some y=>γ y | none=>none
 have hgc:∀ x y,lk ρ x=some y->γc x=γ y:=λx y h=>by simp only[γc,h]
 let img:Nat->Prop:=λy=>∃ x,(x,y)∈ρ;let S0c:Nat->Prop:=λb=>X.S0 b\/∃ id c v,mm id=some c/\c.alive=true/\¬ img id/\lentB lt id=false/\γ id=some v/\blkOf v=some b;let LB:Nat->Prop:=λb=>∃ id c v,lentB lt id=true/\mm id=some c/\c.alive=true/\γ id=some v/\blkOf v=some b;have hli:∀ id,lentB lt id=true->¬ img id:=by
  rintro id h ⟨x,hx⟩;have:(lt.any λid=>ρ.any λe=>Nat.beq e.2 id)=true:=by obtain⟨z,hz,he⟩:=vc.1 h;have:id=z:=ou he;subst this;exact vc.2 ⟨id,hz,vc.2 ⟨(x,id),hx,oa⟩⟩
  rw[hlr] at this;cases this
 have hS0c:∀ b,S0c b->X.S γ mm b:=by rintro b (h | ⟨id,c,v,h1,h2,h3,h3',h4,h5⟩);exact .inl h;exact .inr ⟨id,c,v,h1,h2,h4,h5⟩
 have hOwc:∀ b,Ow γc (lk mi) b->∃ y c v,img y/\mm y=some c/\c.alive=true/\γ y=some v/\blkOf v=some b:=by rintro b ⟨x,c',v,h1,h2,h3,h4⟩;obtain⟨y,c,g1,g2,g3⟩:=hmi x c' h1;exact⟨y,c,v,⟨x,Yr g1⟩,g2,g3.alive.1,by rw[<-hgc x y g1];exact h3,h4⟩
 have hOwS:∀ b,Ow γc (lk mi) b->X.S γ mm b:=λb h=>by obtain⟨y,c,v,h1,h2,h3,h4,h5⟩:=hOwc b h;exact .inr ⟨y,c,v,h2,h3,h4,h5⟩
 have hSc:∀ b,Sx S0c γc mi b->X.S γ mm b:=λb h=>h.elim (hS0c b) (hOwS b);have hS0lt:∀ b,S0c b->b<w.heap.size:=by rintro b (h | ⟨id,c,v,h1,h2,h3,h3',h4,h5⟩);exact xi (hi.s0 b h) hi.grow;exact(hi.mine b ⟨id,c,v,h1,h2,h4,h5⟩).2.1
 have hdis:∀ b,Ow γc (lk mi) b->¬ S0c b:=by intro b h hs;obtain⟨y,c,v,h1,h2,h3,h4,h5⟩:=hOwc b h;rcases hs with hs | ⟨id,c2,v2,g1,g2,g3,g3',g4,g5⟩;exact(hi.mine b ⟨y,c,v,h2,h3,h4,h5⟩).2.2 hs;have:=hi.apart y id c c2 v v2 b h2 h3 g1 g2 h4 g4 h5 g5;subst this;exact g3 h1
 have hLn:∀ id c v b,lentB lt id=true->mm id=some c->c.alive=true->γ id=some v->blkOf v=some b->¬ Sx S0c γc mi b:=by rintro id c v b h1 h2 h3 h4 h5 (h | h);rcases h with h | ⟨id2,c2,v2,g1,g2,g3,g3',g4,g5⟩;exact(hi.mine b ⟨id,c,v,h2,h3,h4,h5⟩).2.2 h;have:=hi.apart id id2 c c2 v v2 b h2 h3 g1 g2 h4 g4 h5 g5;subst this;rw[h1] at g3';cases g3';obtain⟨y,c2,v2,g1,g2,g3,g4,g5⟩:=hOwc b h;have:=hi.apart id y c c2 v v2 b h2 h3 g2 g3 h4 g4 h5 g5;subst this;exact hli id h1 g1
 have hcall:=hc w S0c γc (args.map a.eval).toArray hS0lt
  (λx hx=>by
   cases h:lk ρ x with
   | none=>simp only[γc,h]
   | some y=>obtain⟨c,hc⟩:=hρm.get x y h;rw[hx] at hc;cases hc)
  (λx c' hx=>by
   obtain⟨y,c,g1,g2,g3⟩:=hmi x c' hx;have h0:=hi.cts y c g2;have h1:V7 w (Sx S0c γc mi) γ y c:=h0.mono (Kp.refl _ _) (λb hb=>.inl (hSc b hb)) (Ng.refl _) (λ_ _ _ _=>rfl)
   exact h1.rn hgc g1 g3)
  (λx x' c c' v v' b h1 h2 h3 h4 h5 h6 h7 h8=>by
   obtain⟨y,d,g1,g2,g3⟩:=hmi x c h1;obtain⟨y',d',g1',g2',g3'⟩:=hmi x' c' h3;rw[hgc x y g1] at h5;rw[hgc x' y' g1'] at h6;have:=hi.apart y y' d d' v v' b g2 g3.alive.1 g2' g3'.alive.1 h5 h6 h7 h8;subst this
   exact Qj4 hρn (Yr g1) (Yr g1') g1 g1')
  (λb hb=>by
   obtain⟨y,c,v,h1,h2,h3,h4,h5⟩:=hOwc b hb
   exact⟨(hi.mine b ⟨y,c,v,h2,h3,h4,h5⟩).2.1,hdis b hb⟩)
  (by simpa using Qxm hi hgc hSc hLn ha) (hi.gw hSc)
 have hrun:(execOp a.eval ⟨some d,.call { callee:=.value (.func f),args:=⟨args⟩,argTypes:=argTypes },ty,pos,af,none⟩).run X.P w=.ok (.enter f (args.map a.eval).toArray) w:=by
  have e1:fn.body.isNone=false:=by cases h:fn.body<;>simp[h] at hbody |-
  have e2:¬ fn.name= "runtime.NumGoroutine":=by simpa using hname
  simp only[execOp,resolve,Act.eval];simp[Deferred.ofValue,invoke,callFunc,hfn,e2];intro e3;rw[e3] at e1;cases e1
 unfold Oper.wp;rw[hrun,Oper.upon_enter];refine hcall.mono ?_;rintro e w' ⟨v,γ',rfl,hb⟩;show K (a.put (some d) v) w';let γ'':Nm:=λy=>match lk τ y with | some x=>γ' x | none=>γ y
 have hnτ:∀ y c,mm y=some c->lk τ y=none:=λy c hy=>by
  cases h:lk τ y with
  | none=>rfl
  | some x=>rw[hτ.get y x h] at hy;cases hy
 have hng:Ng γ γ'':=by
  intro y u hu;cases h:lk τ y with
  | none=>simp only[γ'',h];exact hu
  | some x=>have:=hi.fresh y (hτ.get y x h);rw[this] at hu;cases hu
 have hg2:∀ y x,lk σ y=some x->γ'' y=γ' x:=by
  intro y x h;rcases hσ.get y x h with h1 | h1;simp only[γ'',h1];obtain⟨c',hc'⟩:=hρm.get x y h1;obtain⟨y2,c,g1,g2,g3⟩:=hmi x c' hc';rw[h1] at g1;simp at g1;subst g1;have hal:=g3.alive.1;have h0:=hi.cts y c g2;obtain⟨u,hu⟩:∃ u,γ y=some u:=by
   cases c with
   | gone=>simp[Ct.alive] at hal
   | sl E k ls=>obtain⟨u,_,hu,_⟩:=h0;exact⟨u,hu⟩
   | bx E ly=>obtain⟨g,_,hu,_⟩:=h0;exact⟨_,hu⟩
   | ob o=>obtain⟨g,hu,_⟩:=h0;exact⟨_,hu⟩
   | mp ks ls=>obtain⟨g,_,_,hu,_⟩:=h0;exact⟨_,hu⟩
  have e1:γ'' y=γ y:=by simp only[γ'',hnτ y c g2]
  rw[e1,hu];exact(hb.keep x u (by rw[hgc x y h1];exact hu)).symm
 let mm2:=up mm em;have hmm2:∀ y c,mm2 y=some c->lk em y=some c\/(lk em y=none/\mm y=some c):=by
  intro y c h;simp only[mm2,up] at h;cases he:lk em y with
  | none=>rw[he] at h;exact .inr ⟨rfl,h⟩
  | some c'=>rw[he] at h;exact .inl h
 have hnimg:∀ y,lk em y=none->¬ img y:=by rintro y h ⟨x,hx⟩;obtain⟨c,hc⟩:=hall.get y (xa.2 ⟨_,hx,rfl⟩);rw[h] at hc;cases hc
 have how:∀ b,Ow γ'' mm2 b->Ow γ' (lk mo) b\/S0c b\/LB b:=by
  rintro b ⟨y,c,u,h1,h2,h3,h4⟩;rcases hmm2 y c h1 with h | ⟨h,h'⟩;rcases hem.get y c h with ⟨x,c0,g1,g2,g3⟩ | ⟨rfl,_⟩;exact .inl ⟨x,c0,u,g2,g3.alive.1,by rw[<-hg2 y x g1];exact h3,h4⟩;simp[Ct.alive] at h2;have e1:γ'' y=γ y:=by simp only[γ'',hnτ y c h']
  rw[e1] at h3;cases hl:lentB lt y;exact .inr (.inl (.inr ⟨y,c,u,h',h2,hnimg y h,hl,h3,h4⟩));exact .inr (.inr ⟨y,c,u,hl,h',h2,h3,h4⟩)
 have hS2':∀ b,X.S γ'' mm2 b->X.S γ mm b\/w.heap.size<=b:=by rintro b (h | h);exact .inl (.inl h);rcases how b h with h | h | ⟨id,c,v,h0,h1,h2,h3,h4⟩;rcases(hb.mine b h).1 with h | h;exact .inr h;exact .inl (hOwS b h);exact .inl (hS0c b h);exact .inl (.inr ⟨id,c,v,h1,h2,h3,h4⟩)
 have hk:Kp (X.S γ mm) w w':=⟨hb.grow,λb hb' hn=>hb.old b hb' (λh=>hn (hOwS b h))⟩
 have hinv:Inv X st mm2 a w' γ'':={
  size:=hi.size,defs:=hi.defs,s0:=hi.s0,gx:=hi.gx,keep:=λid u hu=>hng id u (hi.keep id u hu)
  os:=hb.os.trans hi.os,tape:=hb.tape.trans hi.tape,output:=hb.output.trans hi.output,grow:=xx hi.grow hb.grow
  old:=by
   intro b hb' hM
   rw[hb.old b (xi hb' hi.grow) (λh=>by
    obtain⟨y,c,u,h1,h2,h3,h4,h5⟩:=hOwc b h;rcases(hi.mine b ⟨y,c,u,h2,h3,h4,h5⟩).1 with h | h;omega
    exact hM h)]
   exact hi.old b hb' hM
  fresh:=by
   intro y hy;have h1:lk em y=none:=by
    cases he:lk em y with
    | none=>rfl
    | some c=>simp only[mm2,up,he] at hy;cases hy
   have h2:mm y=none:=by simpa only[mm2,up,h1] using hy
   have h3:lk τ y=none:=by
    cases h:lk τ y with
    | none=>rfl
    | some x=>
      obtain⟨c,hc⟩:=hall2.get y (xa.2 ⟨_,Yr h,rfl⟩);rw[h1] at hc;cases hc
   simp only[γ'',h3];exact hi.fresh y h2
  cts:=by intro y c hy;rcases hmm2 y c hy with h | ⟨h,h'⟩;rcases hem.get y c h with ⟨x,c0,g1,g2,g3⟩ | ⟨rfl,_⟩;have h0:=hb.cts x c0 g2;have h1:V7 w' (X.S γ'' mm2) γ' x c0:=h0.pl (hpm.get g2);exact h1.rn hg2 g1 g3;trivial;by_cases hal:c.alive=true;refine(hi.cts y c h').mono hk hS2' hng ?_;intro u b hu hb';refine hb.old b (hi.mine b ⟨y,c,u,h',hal,hu,hb'⟩).2.1 (λho=>?_);obtain⟨y2,c2,u2,k1,k2,k3,k4,k5⟩:=hOwc b ho;have:=hi.apart y y2 c c2 u u2 b h' hal k2 k3 hu k4 hb' k5;subst this;exact hnimg y h k1;cases c<;>simp[Ct.alive] at hal;trivial
  apart:=by
   have cross:∀ y y' c c' u u' b,lk em y=some c->c.alive=true->lk em y'=none->mm y'=some c'->c'.alive=true->γ'' y=some u->γ'' y'=some u'->blkOf u=some b->blkOf u'=some b->False:=by
    intro y y' c c' u u' b h1 h2 h3 h4 h5 h6 h7 h8 h9;rcases hem.get y c h1 with ⟨x,c0,g1,g2,g3⟩ | ⟨rfl,_⟩;have e1:γ'' y'=γ y':=by simp only[γ'',hnτ y' c' h4]
    rw[e1] at h7;obtain⟨k1,_,k3⟩:=hb.mine b ⟨x,c0,u,g2,g3.alive.1,by rw[<-hg2 y x g1];exact h6,h8⟩;cases hl:lentB lt y';exact k3 (.inr ⟨y',c',u',h4,h5,hnimg y' h3,hl,h7,h9⟩);rcases k1 with k1 | k1;have:=(hi.mine b ⟨y',c',u',h4,h5,h7,h9⟩).2.1;omega;exact hLn y' c' u' b hl h4 h5 h7 h9 (.inr k1);simp[Ct.alive] at h2
   intro y y' c c' u u' b h1 h2 h3 h4 h5 h6 h7 h8;rcases hmm2 y c h1 with e1 | ⟨e1,e1'⟩<;>rcases hmm2 y' c' h3 with e2 | ⟨e2,e2'⟩;rcases hem.get y c e1 with ⟨x,c0,g1,g2,g3⟩ | ⟨rfl,_⟩;rcases hem.get y' c' e2 with ⟨x',c0',g1',g2',g3'⟩ | ⟨rfl,_⟩;rw[hg2 y x g1] at h5;rw[hg2 y' x' g1'] at h6;have:=hb.apart x x' c0 c0' u u' b g2 g3.alive.1 g2' g3'.alive.1 h5 h6 h7 h8;subst this;exact Qj4 hσn (Yr g1) (Yr g1') g1 g1';simp[Ct.alive] at h4;simp[Ct.alive] at h2;exact(cross y y' c c' u u' b e1 h2 e2 e2' h4 h5 h6 h7 h8).elim;exact(cross y' y c' c u' u b e2 h4 e1 e1' h2 h6 h5 h8 h7).elim;have k1:γ'' y=γ y:=by simp only[γ'',hnτ y c e1']
   have k2:γ'' y'=γ y':=by simp only[γ'',hnτ y' c' e2']
   rw[k1] at h5;rw[k2] at h6;exact hi.apart y y' c c' u u' b e1' h2 e2' h4 h5 h6 h7 h8
  mine:=by
   intro b h;rcases how b h with h | h | ⟨id,c2,u2,k0,k1,k2,k4,k5⟩;obtain⟨g1,g2,g3⟩:=hb.mine b h;refine⟨?_,g2,λh'=>g3 (.inl h')⟩;rcases g1 with g1 | g1;exact .inl (xx hi.grow g1);obtain⟨y,c,u,k1,k2,k3,k4,k5⟩:=hOwc b g1;exact(hi.mine b ⟨y,c,u,k2,k3,k4,k5⟩).1;obtain⟨y,c,u,h1,h2,h3,h4⟩:=‹Ow γ'' mm2 b›;rcases h with h | ⟨id,c2,u2,k1,k2,k3,k3',k4,k5⟩;rcases hmm2 y c h1 with e1 | ⟨e1,e1'⟩;rcases hem.get y c e1 with ⟨x,c0,g1,g2,g3⟩ | ⟨rfl,_⟩;exact((hb.mine b ⟨x,c0,u,g2,g3.alive.1,by rw[<-hg2 y x g1];exact h3,h4⟩).2.2 (.inl h)).elim;simp[Ct.alive] at h2;have k1:γ'' y=γ y:=by simp only[γ'',hnτ y c e1']
   rw[k1] at h3;obtain⟨g1,g2,g3⟩:=hi.mine b ⟨y,c,u,e1',h2,h3,h4⟩;exact(g3 h).elim;obtain⟨g1,g2,g3⟩:=hi.mine b ⟨id,c2,u2,k1,k2,k4,k5⟩;exact⟨g1,xi g2 hb.grow,g3⟩;obtain⟨g1,g2,g3⟩:=hi.mine b ⟨id,c2,u2,k1,k2,k4,k5⟩;exact⟨g1,xi g2 hb.grow,g3⟩
  sts:=by
   intro i ly hly;obtain⟨u,hu,hl⟩:=hi.sts i ly hly
   exact⟨u,hu,Ly.val_mono hk hS2' hng ly u hl⟩ }
 have hv:res'.val w' (X.S γ'' mm2) γ'' v:=(hpr w' _ _ γ'').2 v ((hres w' _ γ' γ'' hg2).2 v hb.res);exact hK _ _ _ (hinv.put (by simpa using hd) hv)
end
def nilM(ys:List (Nat×Nat×Nat)):List (Nat×Ct):=ys.map λe=>(e.1,.sl e.2.1 e.2.2 [])
def NilIn(ys:List (Nat×Nat×Nat))(γ:Nm):Prop:=∀ e∈ys,γ e.1=some (.slice none 0 0)
def Qqe(mm:Nat->Option Ct):List (Nat×Nat×Nat)->Prop
 | []=>True
 | e::r=>mm e.1=none/\Qqe mm r
theorem Q2g(mm:Nat->Option Ct)(i:Nat)(c:Ct)(l:List (Nat×Ct)):up mm ((i,c)::l)=up (up mm l) [(i,c)]:=by funext d;simp only[up,lk];cases Nat.beq i d<;>rfl
theorem Q2h{ys:List (Nat×Nat×Nat)}{y:Nat}(h:∀ e∈ys,e.1≠y):lk (nilM ys) y=none:=by
 induction ys with
 | nil=>rfl
 | cons e ys f=>
   have a:=h e um;have hb:Nat.beq e.1 y=false:=by cases hb:Nat.beq e.1 y;rfl;exact absurd (ou hb) a
   simp only[nilM,xp,lk,hb,cond];exact f λe d=>h e (yw _ d)
theorem Inv.nils{X:Cx}{st a w}:∀(ys:List (Nat×Nat×Nat)) {γ mm},Inv X st mm a w γ->Qqe mm ys->nodupB (ys.map (·.1))=true->∃ γ',Inv X st (up mm (nilM ys)) a w γ'/\Ng γ γ'/\NilIn ys γ'/\∀ z,mm z=none->(∀ e∈ys,e.1≠z)->γ' z=none
 | [],γ,mm,hI,_,_=>⟨γ,hI,Ng.refl _,(λ_ h=>by cases h),λz s _=>hI.fresh z s⟩
 | e::ys,γ,mm,hI,k,j=>by
   simp only[xp,nodupB,yg,uj] at j;obtain⟨γ1,u,x,A,B⟩:=Inv.nils ys hI k.2 j.2;have g:∀ f∈ys,f.1≠e.1:=by intro f d h;have:(ys.map (·.1)).any (Nat.beq e.1)=true:=vc.2 ⟨f.1,xa.2 ⟨f,d,rfl⟩,by rw[h];simp⟩;rw[this] at j;simp at j
   have n:up mm (nilM ys) e.1=none:=by simp only[up,Q2h g];exact k.1
   have:=u.new (w':=w) (y:=e.1) (ct:=.sl e.2.1 e.2.2 []) (v:=.slice none 0 0) rfl rfl rfl (Kp.refl _ _) n rfl
    (λS γ' _ _ _ r=>⟨_,[],r,⟨oa,.inl ⟨rfl,rfl⟩⟩,rfl,λ_ h=>by cases h⟩) (λb hb=>by simp[blkOf] at hb)
   rw[<-Q2g] at this;refine⟨_,this,?_,?_,?_⟩;intro id v p;have q:=x id v p;by_cases t:e.1=id;subst t;rw[hI.fresh e.1 k.1] at p;cases p;simp[Inv.gset,t,q];intro f d;rcases xj.1 d with rfl | d;simp[Inv.gset];have:=g f d;simp only[Inv.gset];rw[oh (λh=>this h.symm)];exact A f d;intro z s i;have:=i e um;simp only[Inv.gset];rw[oh this];exact B z s λf d=>i f (yw _ d)
def inN(ys:List (Nat×Nat×Nat))(y:Nat):Bool:=ys.any λe=>Nat.beq e.1 y
def ZrO(ys:List (Nat×Nat×Nat))(ly:Ly)(cs:List Value):Prop:=∀ w S γ,NilIn ys γ->ly.hold w S γ cs
def ZrOs(ys:List (Nat×Nat×Nat))(l:List Ly)(cs:List Value):Prop:=∀ w S γ,NilIn ys γ->Ly.holds w S γ l cs
theorem zo_of{ys ly cs}(h:Zr ly cs):ZrO ys ly cs:=λw S γ _=>h w S γ
theorem Qer{ys y}(h:inN ys y=true):ZrO ys (.own y) [.slice none 0 0]:=λw S γ d=>by obtain⟨e,a,f⟩:=vc.1 h;have:=ou f;subst this;exact⟨_,rfl,d e a,rfl⟩
theorem Qig{ys l cs}(h:ZrOs ys l cs):ZrO ys (.agg l) cs:=λw S γ a=>by simp only[Ly.hold];exact h w S γ a
theorem Qgl{ys}:ZrOs ys [] []:=λ_ _ _ _=>rfl
theorem J7{ys ly l c1 a}(e:ZrO ys ly c1)(f:ZrOs ys l a):ZrOs ys (ly::l) (c1++a):=λw S γ d=>⟨c1,a,rfl,e w S γ d,f w S γ d⟩
section ops
variable {X:Cx}{st:Nat->Option Ly}{mm:Nat->Option Ct}
theorem alOw{d T ty pos af y k b z ly}(ys:List (Nat×Nat×Nat))(x:TyI X.P T k b z)(F:ZrO ys ly z.cells.toList)(B:Qqe mm ys)(j:nodupB (y::ys.map (·.1))=true)(E:mm y=none)(hd:Nat.blt d X.N=true):
 OpOk X st mm ⟨some d,.alloc T,ty,pos,af,none⟩ [(d,.own y)] ((y,.bx T ly)::nilM ys):=by
 intro a w γ K Q hI u;simp only[nodupB,yg,uj] at j;obtain⟨γ1,s,H,t,I⟩:=hI.nils ys B j.2;have q:∀ i∈ys,i.1≠y:=by intro i n h;have:(ys.map (·.1)).any (Nat.beq y)=true:=vc.2 ⟨i.1,xa.2 ⟨i,n,rfl⟩,by rw[h];simp⟩;rw[this] at j;simp at j
 have p:up mm (nilM ys) y=none:=by simp only[up,Q2h q];exact E
 have f:=s.new (w':=w.alloc (.cells z.cells T)) (y:=y) (ct:=.bx T ly) (v:=.pointer (some ⟨w.heap.size,0,none⟩)) rfl rfl rfl (Qea _ _ _) p rfl
  (λS γ' _ _ C r=>⟨w.heap.size,z.cells,r,Qji _ _,F _ _ _ (λe A=>C _ _ (t e A))⟩) (λb hb=>by simp[blkOf] at hb;subst hb;simp)
 rw[<-Q2g] at f;have g:(execOp a.eval ⟨some d,.alloc T,ty,pos,af,none⟩).run X.P w=.ok (.value (.pointer (some ⟨w.heap.size,0,none⟩))) (w.alloc (.cells z.cells T)):=by simp only[execOp];simp[Instr.alloc,Qao x,newVar,newRow]
 unfold Oper.wp;rw[g];exact u _ _ _ (f.put (d:=d) (ly:=.own y) (by simpa using hd) ⟨by simp[Inv.gset],rfl⟩)
theorem bldO{d T parts ty pos af pl k b z p l}(ys:List (Nat×Nat×Nat))(y:Plc X.P T pl)(u:TyI X.P T k b z)(E:ZrO ys p z.cells.toList)(A:Qqe mm ys)(B:nodupB (ys.map (·.1))=true)(C:BPart st pl parts p (.agg l))(hd:Nat.blt d X.N=true):
 OpOk X st mm ⟨some d,.build T ⟨parts⟩,ty,pos,af,none⟩ [(d,.agg l)] (nilM ys):=by
 intro a w γ K Q j v;obtain⟨γ1,hI,q,t,F⟩:=j.nils ys A B;obtain⟨fs,s,q⟩:=y;obtain⟨cells',g1,r⟩:=Qjx hI parts p (.agg l) z.cells C (E _ _ _ t);have n:(fs.mapM (λf=>(do pure (f.offset,<-sizeOf f.type):Sem (Nat×Nat)))).run X.P w=.ok pl.toArray w:=by
  have e:fs.mapM (λf=>(do pure (f.offset,<-sizeOf f.type):Sem (Nat×Nat)))=List.toArray <$> (fs.toList.mapM (λf=>(do pure (f.offset,<-sizeOf f.type):Sem (Nat×Nat)))):=by
   conv=>lhs;rw[<-Array.toArray_toList (xs:=fs)]
   rw[List.mapM_toArray]
  rw[e];simp only[Sem.run_map,Qoo _ _ q,Result.andThen_ok]
 have g:(execOp a.eval ⟨some d,.build T ⟨parts⟩,ty,pos,af,none⟩).run X.P w=.ok (.value (.agg cells')) w:=by
  simp only[execOp,Instr.build];have hfill:Instr.fill (λi=>pl.toArray[i]?) z.cells (parts.map λ(i,x)=>(i,a.eval x))=some cells':=by simpa using g1
  simp only[Sem.run_bind,Qao u,Result.andThen_ok,underlying,run_program,s,Sem.run_pure,n];simp only[List.map_toArray,hfill];rfl
 unfold Oper.wp;rw[g];exact v _ _ _ (hI.put (d:=d) (ly:=.agg l) (by simpa using hd) ⟨_,rfl,by simpa [Ly.hold] using r⟩)
def ub(b:UInt8):Ly:=u8 b.toNat
theorem if_ub{x}:IF (ub x):=Qdo _
def nilI:Ly:=.cell (cpX .nilIface rfl)
theorem Q8w:IF nilI:=Qdo _
theorem kNI:OpdF st (.const .nilIface) nilI:=λ_ _ _=>by simp[nilI,Ly.val,cpX]
end ops
theorem Q8x{P:Program}{f:Nat}{args:List Ly}{res:Ly}(hf:∃ fn,P.funcs[f]?=some fn∧(fn.name == "runtime.NumGoroutine")=false∧fn.body.isSome=true)
 (h:∀ w S γ (vs:Array Value),Ly.vals w S γ args vs.toList->Calls P f vs w λe w'=>∃ v,e=.returned v/\w'=w/\res.val w S γ v):FnOk P f args [] res []:=by
 refine⟨hf,λw S0 γ vs h1 h2 h3 h4 h5 h6 _=>(h w _ γ vs h6).mono ?_⟩;rintro e w' ⟨v,rfl,rfl,hv⟩;exact⟨v,γ,rfl,⟨rfl,rfl,rfl,xd _,λ_ _ _=>rfl,Ng.refl _,h2,(λ_ _ h=>by cases h),(λ_ _ _ _ _ _ _ h=>by cases h),(λb ⟨_,_,_,h,_⟩=>by cases h),hv⟩⟩
section
variable {R:Type}{X:Cx}{l:List (Nat×Ly)}{m:List (Nat×Ct)}{md:Option R}{Q:R->Exit->Act->World->Prop}
theorem sscp{c:Code}(h:Sq X l m md (λr=>c.wp X.P (Exit.noGoto (Q r)))):Sq X l m md (λr=>(Code.scope c).wp X.P (Q r)):=λr a w γ hr hi=>wp_scope_straight (h r a w γ hr hi)
theorem slab{i:Nat}(h:Sq X l m md (λr=>Q r .normal)):Sq X l m md (λr=>(Code.label i).wp X.P (Q r)):=λr a w γ hr hi=>wp_label (h r a w γ hr hi)
theorem pgr(h:Sq X l m md (λr=>Q r .ret)):Sq X l m md (λr=>Exit.noGoto (Q r) .ret):=h
end
section ops
variable {X:Cx}{st:Nat->Option Ly}{mm:Nat->Option Ct}
theorem negU{d x T ty pos af p k N}(e:UK k N)(hd:Nat.blt d X.N=true)(i:OpdF st x (uk k p)):
 OpOk X st mm ⟨some d,.unOp .neg T x,ty,pos,af,none⟩ [(d,uk k ((N - p)%N))] []:=
 Vt hd λa w γ hi=>by
  obtain⟨f,_,g⟩:=i.val hi;rw[e.max] at g;have:(0 - (p:Int))%(N:Int)=(((N - p)%N:Nat):Int):=by rw[Int.natCast_emod,Int.ofNat_sub om,show(0:Int) - p=(N:Int) - p+(-1)*N by omega,Int.add_mul_emod_self_right]
  refine⟨.int k (((N - p)%N:Nat):Int),by simp only[execOp,f];simp only[Op.unary,Op.intArith,e.wrap,this];rfl,rfl,uk_b e _ (uq _ e.pos)⟩
def andZ(p q:Int):Int:=((BitVec.ofInt 64 p &&& BitVec.ofInt 64 q).toNat:Int)
theorem andI{d x y T a ty pos af p q}(hd:Nat.blt d X.N=true)(e:OpdF st x (i64 p))(f:OpdF st y (i64 q)):
 OpOk X st mm ⟨some d,.binOp .and T x y a,ty,pos,af,none⟩ [(d,i64 (wrap64 (andZ p q)))] []:=arI (λw=>by simp only[binOp,Op.intBits,Qg0,andZ];rfl) rfl hd e f
end ops
theorem Qnq{σ y x off len}(h:lk σ y=some x):Rn σ (.win x off len) (.win y off len):=λw S γ γ' d=>by have:=d y x h;exact⟨λcs g=>by obtain⟨v,rfl,v0,g1,a⟩:=g;exact⟨v,rfl,v0,by rw[this];exact g1,a⟩,λv g=>by simp only[Ly.val] at g |-;obtain⟨v0,g1,a⟩:=g;exact⟨v0,by rw[this];exact g1,a⟩⟩
def winC(lo hi:Int)(len:Nat):Bool:=decide (0<=lo) && (decide (lo<=hi) && decide (hi<=len))
section ops
variable {X:Cx}{st:Nat->Option Ly}{mm:Nat->Option Ct}
theorem lenW{d x T ty pos af E id off len}(e:X.P.underlying T=some (.slice E))(hd:Nat.blt d X.N=true)(i:OpdF st x (.win id off len)):
 OpOk X st mm ⟨some d,.call { callee:=.builtin .len,args:=#[x],argTypes:=#[T] },ty,pos,af,none⟩ [(d,i64 (len:Nat))] []:=
 Qt6 hd i λa w γ hi v f=>by obtain⟨v0,_,⟨rfl,_,rfl⟩ | ⟨g,cap,o,_,rfl,_,j,k⟩⟩:=f;exact⟨by unfold Builtin.len_;simp[underlying,e,goInt],len_b (xo _)⟩;exact⟨by unfold Builtin.len_;simp[underlying,e,goInt],len_b om⟩
theorem slW{d x lo hi T ty pos af E E' b z p q id off len}{ls:List Ly}(y:winC p q len=true)(_:mm id=some (.sl E' 1 ls))(s:X.P.underlying T=some (.slice E))(r:TyI X.P E 1 b z)
 (hd:Nat.blt d X.N=true) (C:OpdF st x (.win id off len)) (u:BndF st 0 lo p) (t:BndF st len hi q) :
 OpOk X st mm ⟨some d,.slice T x lo hi none,ty,pos,af,none⟩ [(d,.win id (off+p.toNat) (q.toNat - p.toNat))] []:=
 Vt hd λa w γ hI=>by
  simp only[winC,yg,decide_eq_true_eq] at y;obtain⟨h0,B,I⟩:=y;have f:(lo.map a.eval=none/\p=0)\/∃ i,lo.map a.eval=some (.int i p):=by rcases Qh2 hI u with ⟨rfl,h⟩ | ⟨x,i,rfl,h⟩;exact .inl ⟨rfl,h⟩;exact .inr ⟨i,by simp[h]⟩
  have e:(hi.map a.eval=none/\q=(len:Nat))\/∃ i,hi.map a.eval=some (.int i q):=by rcases Qh2 hI t with ⟨rfl,h⟩ | ⟨x,i,rfl,h⟩;exact .inl ⟨rfl,h⟩;exact .inr ⟨i,by simp[h]⟩
  obtain⟨v0,n,⟨j,k,rfl⟩ | ⟨g,cap,o,j,k,A,F,H⟩⟩:=C.val hI;obtain rfl:q=0:=om
  obtain rfl:p=0:=om
  refine⟨.slice none 0 0,?_,v0,n,.inl ⟨rfl,k,rfl⟩⟩;have:=Ym (P:=X.P) (w:=w) (isS:=true) (len:=0) (cap:=0) f e om om om;simp only[execOp,j];simp[Instr.sliceAt,Instr.slice,underlying,s,this,Va r];have hb:=Ym (P:=X.P) (w:=w) (isS:=true) (len:=len) (cap:=cap) f e h0 B om;by_cases v:cap=p.toNat;subst v;refine⟨.slice (some ⟨g,o,none⟩) (q.toNat - p.toNat) (p.toNat - p.toNat),?_,v0,n,.inr ⟨g,p.toNat - p.toNat,o,j,rfl,λh=>om,om,om⟩⟩;simp only[execOp,k];simp[Instr.sliceAt,Instr.slice,underlying,s,hb,Va r];refine⟨.slice (some ⟨g,o+p.toNat*1,none⟩) (q.toNat - p.toNat) (cap - p.toNat),?_,v0,n,.inr ⟨g,cap - p.toNat,o+p.toNat*1,j,rfl,λh=>by rw[A om];omega,om,om⟩⟩;simp only[execOp,k];simp[Instr.sliceAt,Instr.slice,underlying,s,hb,Va r,v,add0]
end ops
def methRow(P:Program)(T:Nat)(a:String):Option (Bool×Option (Nat×Bool)):=(P.info? T).bind λi=>(i.methods.find? (·.name == a)).map λm=>(m.path.isEmpty,m.func)
def MethF(P:Program)(T:Nat)(a:String)(f:Nat):Prop:=methRow P T a=some (true,some (f,false))/\∃ fs,P.underlying T=some (.struct fs)
section call
variable {X:Cx}{st:Nat->Option Ly}{mm:Nat->Option Ct}
theorem Q29{P:Program}{w:World}{T:Nat}{e:String}{f k:Nat}{u:Value}(r:MethF P T e f):(method (k+1) T u e).run P w=.ok (f,u) w:=by
 obtain⟨hr,fs,q⟩:=r;obtain⟨i,m,d,a,n,p⟩:∃ i m,P.info? T=some i/\i.methods.find? (·.name == e)=some m/\m.path=#[]/\m.func=some (f,false):=by
  unfold methRow at hr;cases d:P.info? T with
  | none=>rw[d] at hr;cases hr
  | some i=>
    rw[d] at hr;simp only[yn] at hr;cases a:i.methods.find? (·.name == e) with
    | none=>rw[a] at hr;cases hr
    | some m=>
      rw[a] at hr;simp only[Option.map_some,Option.some.injEq,Prod.mk.injEq] at hr;exact⟨i,m,rfl,a,by simpa using hr.1,hr.2⟩
 unfold method;have g:(typeInfo T).run P w=.ok i w:=by simp[typeInfo,d]
 have j:(underlying T).run P w=.ok (.struct fs) w:=by simp[underlying,q]
 simp only[Sem.run_bind,g,Result.andThen_ok,a,n,p];simp[follow,receiverAt,j,Place.get]
theorem mkIf{d T x ty pos af ly fs}(e:X.P.underlying T=some (.struct fs))(hd:Nat.blt d X.N=true)(f:OpdF st x ly):
 OpOk X st mm ⟨some d,.makeInterface T x,ty,pos,af,none⟩ [(d,.ifc T ly)] []:=
 Vt hd λa w γ hi=>by refine⟨.iface T (a.eval x),?_,⟨_,rfl,f.val hi⟩⟩;simp only[execOp];simp[Instr.makeInterface,underlying,e]
theorem callI{d r nm T f args argTypes ty pos af ly0 ly1 largs mi res mo res' em}(ρ τ σ:List (Nat×Nat))(hr:OpdF st r (.ifc T ly0))(hm:MethF X.P T nm f)(hf:FnOk X.P f (ly1::largs) mi res mo)(hr1:Rn ρ ly0 ly1)
 (ha:ArgF st ρ args largs) (hmi:∀ x c',lk mi x=some c'->∃ y c,lk ρ x=some y/\mm y=some c/\RnC ρ c c') (hρm:NmM mi ρ) (hρn:nodupB (ρ.map (·.2))=true)
 (hτ:Fresh mm τ) (hσ:SigT τ ρ σ) (hσn:nodupB (σ.map (·.2))=true) (hem:BackM σ ρ mo em) (hall:AllIn em (ρ.map (·.2))) (hall2:AllIn em (τ.map (·.1)))
 (hres:Rn σ res res') (hd:Nat.blt d X.N=true) :
 OpOk X st mm ⟨some d,.call { callee:=.invoke r nm,args:=⟨args⟩,argTypes:=argTypes },ty,pos,af,none⟩ [(d,res')] em:=by
 refine callR ρ τ σ hf rfl (λfn hfn hname hbody a w γ hi=>?_) hmi hρm hρn hτ hσ hσn hem hall hall2 hres hd;obtain⟨u,hu,hu2⟩:=hr.val hi;refine⟨#[u]++(args.map a.eval).toArray,?_,fun γc S hgc hSc=>?_⟩;have e1:fn.body.isNone=false:=by cases h:fn.body<;>simp[h] at hbody |-
 have e2:¬ fn.name= "runtime.NumGoroutine":=by simpa using hname
 have hm':(method (X.P.types.size+Made.depth) T u nm).run X.P w=.ok (f,u) w:=Q29 (k:=X.P.types.size+(Made.depth - 1)) hm;simp only[execOp,resolve];simp[invoke,callMethod,hu,hm',callFunc,hfn,e2];have e3:¬ fn.body=none:=by intro h;rw[h] at e1;cases e1
 rw[oh e3,xe oa];simp only[Array.toList_append,yv,yp,Ly.vals];refine⟨u,_,rfl,Ly.val_mono (Kp.refl _ _) (λb hb=>.inl (hSc b hb)) (Ng.refl _) _ _ ((hr1 w _ γ γc hgc).2 _ hu2),by simpa using Qmd hi hgc hSc ha⟩
end call
theorem Qg3:Zr (.por 0) [.pointer none]:=λ_ _ _=>⟨_,rfl,.inl rfl⟩
theorem kAny{st:Nat->Option Ly}{v:Value}:OpdF st (.const v) .any:=λ_ _ _=>trivial
theorem szk{a b k:Nat}(d:a=k)(e:b=k):a=b:=d.trans e.symm
theorem slpk{R τ:Type}{X:Cx}{l m}{k:τ->Option R}{t:τ}{G:R->Act->World->Prop}(h:Sq X l m (k t) G):Sq X l m (lpK k (.go t)) G:=h
def cpE(b:Bool):CP where
 p:=λ_ _ v=>(b=false/\v=.nilIface)\/(b=true/\∃ t u,v=.iface t u)
 one:=by rintro _ _ v (⟨_,rfl⟩ | ⟨_,t,u,rfl⟩)<;>rfl
 mono:=λh _ _=>h
def erl(b:Bool):Ly:=.cell (cpE b)
theorem Jaj{b}:IF (erl b):=Qdo _
section ops
variable {X:Cx}{st:Nat->Option Ly}{mm:Nat->Option Ct}
end ops
theorem Qze{P:Program}{f:Nat}{args:List Ly}{res:Ly}(hf:∃ fn,P.funcs[f]?=some fn∧(fn.name == "runtime.NumGoroutine")=false∧fn.body.isSome=true)
 (h:∀ w S γ (vs:Array Value),(∀ b,S b->b<w.heap.size)->GF w->Ly.vals w S γ args vs.toList->Calls P f vs w λe w'=>∃ v,e=.returned v/\Below w.heap.size w w'/\res.val w' S γ v):FnOk P f args [] res []:=by
 refine⟨hf,λw S0 γ vs h1 h2 h3 h4 h5 h6 h7=>(h w (Sx S0 γ []) γ vs (λb hb=>hb.elim (h1 b) (λ⟨_,_,_,h,_⟩=>by cases h)) h7.2 h6).mono ?_⟩;rintro e w' ⟨v,rfl,hb,hv⟩;exact⟨v,γ,rfl,⟨hb.os,hb.tape,hb.output,hb.size,λb hb' _=>hb.block b hb',Ng.refl _,h2,(λ_ _ h=>by cases h),(λ_ _ _ _ _ _ _ h=>by cases h),(λb ⟨_,_,_,h,_⟩=>by cases h),hv⟩⟩
theorem Q8y{w:World}{S:Nat->Prop}{γ:Nm}{E:TypeId}{a:List (List UInt8)}(e:∀ b,S b->b<w.heap.size)(i:∀ x∈a,x.length<=maxLen)(k:a.length<=maxLen):
 (sli 1 (a.map str)).val (w.alloc (.cells ((a.map λl=>Value.string ⟨l.toArray⟩).toArray) E)) S γ (.slice (some ⟨w.heap.size,0,none⟩) a.length a.length):=by
 have f:∀(l:List (List UInt8)) (w:World) (S:Nat->Prop),(∀ x∈l,x.length<=maxLen)->Ly.holds w S (λ_=>none) (l.map str) (l.map λl=>Value.string ⟨l.toArray⟩):=by
  intro l
  induction l with
  | nil=>intro w S _;rfl
  | cons x l p=>intro w S h;exact⟨[_],_,rfl,⟨_,rfl,rfl,h x (.head _)⟩,p w S λy n=>h y (.tail _ n)⟩
 refine .inr (.inl ⟨w.heap.size,0,a.length,a.map λl=>Value.string ⟨l.toArray⟩,oa,oa,k,(by show w.heap.size<(w.heap.push _).size;simp),λh=>absurd (e _ h) (Nat.lt_irrefl _),?_,f _ _ _ i,?_⟩);intro j u g;have hb:(w.alloc (.cells ((a.map λl=>Value.string ⟨l.toArray⟩).toArray) E)).heap[w.heap.size]?=some (.cells ((a.map λl=>Value.string ⟨l.toArray⟩).toArray) E (0,0)):=by show(w.heap.push _)[w.heap.size]?=_;rw[Array.getElem?_push,oi rfl]
 simp only[World.cell?,hb,xz]
 simpa using g
 intro ly d;obtain⟨x,_,rfl⟩:=xa.1 d;rfl
theorem Quc{σ:List (Nat×Nat)}{γ γ':Nm}(a:∀ y x,lk σ y=some x->γ' y=γ x):∀ {l l':List Nat}{us:List Value},l.map some=l'.map (lk σ)->CapV γ l us->CapV γ' l' us
 | [],[],[],_,_=>trivial
 | [],[],_::_,_,h=>h.elim
 | x::l,y::l',[],_,h=>h.elim
 | x::l,y::l',v::us,e,h=>by simp only[xp,List.cons.injEq] at e;exact⟨by rw[a y x e.1.symm];exact h.1,h.2.1,Quc a e.2 h.2.2⟩
 | [],_::_,_,e,_=>by simp at e
 | _::_,[],_,e,_=>by simp at e
theorem Qce{σ f l l'}(h:l.map some=l'.map (lk σ)):Rn σ (.clo f l) (.clo f l'):=λw S γ γ' d=>
 ⟨λcs g=>by
  simp only[Ly.hold] at g |-;obtain⟨v,rfl,us,g1,a⟩:=g;exact⟨v,rfl,us,g1,Quc d h a⟩,λv g=>by
  simp only[Ly.val] at g |-;obtain⟨us,g1,a⟩:=g
  exact⟨us,g1,Quc d h a⟩⟩
theorem Qqf{σ f l l'}(h:Rns σ l l'):Rn σ (.bnd f l) (.bnd f l'):=λw S γ γ' d=>
 ⟨λcs g=>by simp[Ly.hold] at g,λv g=>by
  simp only[Ly.val] at g |-;obtain⟨us,g1,a⟩:=g
  exact⟨us,g1,(h w S γ γ' d).2 _ a⟩⟩
theorem Qzf{w S}{γ:Nm}:∀ {l:List Nat}{us:List Value},CapV γ l us->Ly.vals w S γ (l.map .own) us
 | [],[],_=>by simp only[List.map_nil,Ly.vals]
 | x::l,v::us,h=>by simp only[xp,Ly.vals,Ly.val];exact⟨_,_,rfl,⟨h.1,h.2.1⟩,Qzf h.2.2⟩
 | [],_::_,h=>h.elim
 | _::_,[],h=>h.elim
theorem Qzg{w S γ}:∀ {l1 e:List Ly}{f g:List Value},Ly.vals w S γ l1 f->Ly.vals w S γ e g->Ly.vals w S γ (l1++e) (f++g)
 | [],_,_,_,a,d=>by simp only[Ly.vals] at a;subst a;exact d
 | x::l,_,_,_,a,d=>by simp only[Ly.vals] at a;obtain⟨v,r,rfl,g1,i⟩:=a;simp only[yv,Ly.vals];exact⟨v,_,rfl,g1,Qzg i d⟩
def cpNF:CP:=⟨λ_ _ v=>v=.nilFunc,λh=>by rw[h];rfl,λh _ _=>h⟩
abbrev nfl:Ly:=.cell cpNF
theorem Qzh:Zr nfl [.nilFunc]:=λ_ _ _=>⟨_,rfl,rfl⟩
section ops
variable {X:Cx}{st:Nat->Option Ly}{mm:Nat->Option Ct}
def CapF(st:Nat->Option Ly):List Operand->List Nat->Prop
 | [],[]=>True
 | x::xs,id::a=>OpdF st x (.own id)/\CapF st xs a
 | _,_=>False
theorem Qzi{a w γ}(hi:Inv X st mm a w γ):∀ {xs:List Operand}{d:List Nat},CapF st xs d->CapV γ d (xs.map a.eval)
 | [],[],_=>trivial
 | x::xs,id::d,h=>by have:=h.1.val hi;simp only[Ly.val] at this;exact⟨this.1,this.2,Qzi hi h.2⟩
 | [],_::_,h=>h.elim
 | _::_,[],h=>h.elim
theorem mkC{d f caps ty pos af}{l:List Nat}(e:CapF st caps l)(hd:Nat.blt d X.N=true):OpOk X st mm ⟨some d,.makeFunc (.func f) #[] ⟨caps⟩,ty,pos,af,none⟩ [(d,.clo f l)] []:=
 Vt hd λa w γ hi=>⟨.func (.func f) #[] (caps.map a.eval).toArray,by simp[execOp,Instr.makeFunc],by simp only[Ly.val];exact⟨_,rfl,Qzi hi e⟩⟩
theorem callC{caps lc:List Nat}{d x f args argTypes ty pos af la largs mi res mo res' em}(ρ τ σ:List (Nat×Nat))(hx:OpdF st x (.clo f caps))(hf:FnOk X.P f largs mi res mo)(hl:largs=la++lc.map .own)(hc:caps.map some=lc.map (lk ρ))
 (ha:ArgF st ρ args la) (hmi:∀ x c',lk mi x=some c'->∃ y c,lk ρ x=some y/\mm y=some c/\RnC ρ c c') (hρm:NmM mi ρ) (hρn:nodupB (ρ.map (·.2))=true)
 (hτ:Fresh mm τ) (hσ:SigT τ ρ σ) (hσn:nodupB (σ.map (·.2))=true) (hem:BackM σ ρ mo em) (hall:AllIn em (ρ.map (·.2))) (hall2:AllIn em (τ.map (·.1)))
 (hres:Rn σ res res') (hd:Nat.blt d X.N=true) :
 OpOk X st mm ⟨some d,.call { callee:=.value x,args:=⟨args⟩,argTypes:=argTypes },ty,pos,af,none⟩ [(d,res')] em:=by
 refine callR ρ τ σ hf rfl (λfn hfn hname hbody a w γ hi=>?_) hmi hρm hρn hτ hσ hσn hem hall hall2 hres hd;have hv:=hx.val hi;simp only[Ly.val] at hv;obtain⟨us,hu,hu2⟩:=hv;refine⟨(args.map a.eval).toArray++us.toArray,?_,fun γc S hgc hSc=>?_⟩;have e1:fn.body.isNone=false:=by cases h:fn.body<;>simp[h] at hbody |-
 have e2:¬ fn.name= "runtime.NumGoroutine":=by simpa using hname
 simp only[execOp,resolve,hu];simp[Deferred.ofValue,invoke,callFunc,hfn,e2];intro e3;rw[e3] at e1;cases e1;rw[hl];simp only[Array.toList_append];exact Qzg (Qmd hi hgc hSc ha) (Qzf (Quc hgc hc hu2))
theorem Qhu{P:Program}{w:World}{isS:Bool}{len cap:Nat}{lo:Option Value}{p q:Int}{k1 k2:IntKind}(d:(lo=none/\p=0)\/∃ e,lo=some (.int e p))
 (h0:0<=p) (j:p<=q) (a:q<=cap):(Instr.sliceBounds isS len cap lo (some (.int k1 q)) (some (.int k2 q))).run P w=.ok (p.toNat,q.toNat,q.toNat) w:=by
 have f:(0<=q/\q<=(cap:Int)):=⟨om,a⟩
 have g:(0<=p/\p<=((q.toNat:Nat):Int)):=⟨h0,om⟩
 have i:(0<=q/\q<=((q.toNat:Nat):Int)):=⟨om,om⟩
 rcases d with ⟨rfl,rfl⟩ | ⟨k,rfl⟩ <;>
  simp_all [Instr.sliceBounds,Instr.sliceBound,asIntOf]
theorem slR3{d x lo hi M T ty pos af E k b z p q}{α:Type}{f:α->Ly}{xs ys:List α}(hs:sub xs p q=some ys)(B:X.P.underlying T=some (.slice E))(A:TyI X.P E k b z)
 (hd:Nat.blt d X.N=true) (hx:OpdF st x (sli k (xs.map f))) (I:BndF st 0 lo p) (H:∃ t,OpdF st hi (.cell (cpI t q))) (J:∃ t,OpdF st M (.cell (cpI t q))) :
 OpOk X st mm ⟨some d,.slice T x lo (some hi) (some M),ty,pos,af,none⟩ [(d,sli k (ys.map f))] []:=
 Vt hd λa w γ hI=>by
  obtain⟨h0,W,y,rfl⟩:=Qon hs;have g:(lo.map a.eval=none/\p=0)\/∃ t,lo.map a.eval=some (.int t p):=by
   rcases Qh2 hI I with ⟨rfl,h⟩ | ⟨x,t,rfl,h⟩
   . exact .inl ⟨rfl,h⟩
   . exact .inr ⟨t,by simp[h]⟩
  obtain⟨C,Y⟩:=H;obtain⟨F,Z⟩:=J;have n:a.eval hi=.int C q:=((OpdF.val hI Y:Ly.val _ _ _ _ _)).1;have r:a.eval M=.int F q:=((OpdF.val hI Z:Ly.val _ _ _ _ _)).1;rcases hx.val hI with ⟨s,K⟩ | ⟨bb,o,cap,cs,s,k1,k2,S,U,k5,k6,L⟩ | ⟨K,N,s⟩
  rotate_left 2
  . have:xs=[]:=by simpa using K
    subst this;simp only[yx] at y;obtain rfl:q=0:=by simp at y;omega
    obtain rfl:p=0:=om
    refine⟨.slice (some N) 0 0,?_,.inr (.inr ⟨oa,N,rfl⟩)⟩;have:=Qhu (P:=X.P) (w:=w) (isS:=true) (len:=0) (cap:=0) (k1:=C) (k2:=F) g (q:=0) om om om;simp only[execOp,s];simp[Instr.sliceAt,Instr.slice,underlying,B,n,r,this,Va A]
  . have:xs=[]:=by simpa using K
    subst this;simp only[yx] at y;obtain rfl:q=0:=by simp at y;omega
    obtain rfl:p=0:=om
    refine⟨.slice none 0 0,?_,.inl ⟨rfl,oa⟩⟩;have:=Qhu (P:=X.P) (w:=w) (isS:=true) (len:=0) (cap:=0) (k1:=C) (k2:=F) g (q:=0) om om om;simp only[execOp,s];simp[Instr.sliceAt,Instr.slice,underlying,B,n,r,this,Va A]
  . rw[xr] at s k1
    have hb:=Qhu (P:=X.P) (w:=w) (isS:=true) (len:=xs.length) (cap:=cap) (k1:=C) (k2:=F) g h0 W om;have e:(((xs.take q.toNat).drop p.toNat).map f).length=q.toNat - p.toNat:=oe
    by_cases O:q.toNat=p.toNat
    . refine⟨.slice (some ⟨bb,o,none⟩) (q.toNat - p.toNat) (q.toNat - p.toNat),?_,.inr (.inl ⟨bb,o,q.toNat - p.toNat,[],by rw[e],by rw[e];omega,om,S,U,λj u v=>by simp at v,?_,?_⟩)⟩
      . simp only[execOp,s]
        simp[Instr.sliceAt,Instr.slice,underlying,B,n,r,hb,Va A,O]
      . have:((xs.take q.toNat).drop p.toNat).map f=[]:=xm (by rw[e];omega)
        rw[this];rfl
      . intro ly i
        have:((xs.take q.toNat).drop p.toNat).map f=[]:=xm (by rw[e];omega);rw[this] at i;cases i
    . obtain⟨g1,_⟩:=Qba q.toNat k6 L
      obtain⟨_,V⟩:=Qba p.toNat g1 (λly h=>L ly (yd h));refine⟨.slice (some ⟨bb,o+p.toNat*k,none⟩) (q.toNat - p.toNat) (q.toNat - p.toNat),?_,.inr (.inl ⟨bb,o+p.toNat*k,q.toNat - p.toNat,_,by rw[e],by rw[e];omega,om,S,U,λj u v=>?_,by rw[vf,uw];exact V,?_⟩)⟩
      . simp only[execOp,s]
        simp[Instr.sliceAt,Instr.slice,underlying,B,n,r,hb,Va A,O,add0]
      . rw[vq,yh] at v
        split at v
        . rw[gi];exact k5 _ u v
        . cases v
      . intro ly i
        rw[vf,uw] at i;exact L ly (yd (ve i))
end ops
end Go.Proofs.YtmnalemmhfjacaaGreatDoor
