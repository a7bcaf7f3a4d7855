import Derived.Laws.BytesString
import Derived.Laws.BytesArg
import Derived.Lib.ConvBytes
import Derived.Laws.RangeString
import Derived.Lib.AppendStr
import Derived.Lib.Builder
import Derived.Lib.UnsafeStr
import Derived.Scope
import Derived.Test.YtgmknbfonlbjfaaGreatDoorSA
namespace Go.Proofs.YtgmknbfonlbjfaaGreatDoor
open Go Go.RowKit
section cur
variable {α:Type}
def cur(base:Nat->Option α):List (List (Nat×α))->Nat->(Nat->Bool)->Nat->Option α
 | [],_,_=>base
 | e::es,i,L=>cur (if L i then up base e else base) es (i+1) L
def wr(e:List (Nat×α))(r:Nat):Bool:=(lk e r).isSome
theorem up_nw{st:Nat->Option α}{e r}(h:wr e r=false):up st e r=st r:=by
 unfold wr at h;unfold up;cases a:lk e r with
 | none=>rfl
 | some x=>rw[a] at h;cases h
theorem up_w{st a:Nat->Option α}{e r}(h:wr e r=true):up st e r=up a e r:=by
 unfold wr at h;unfold up;cases d:lk e r with
 | none=>rw[d] at h;cases h
 | some x=>rfl
theorem Qp8{L:Nat->Bool}{r:Nat}:∀(es:List (List (Nat×α))) (b a:Nat->Option α) (i:Nat),b r=a r->cur b es i L r=cur a es i L r
 | [],b,a,i,h=>h
 | e::es,b,a,i,h=>by
   simp only[cur];apply Qp8 es;cases L i
   simpa using h
   simp only[vb];cases d:wr e r;rw[up_nw d,up_nw d,h];exact up_w d
theorem Qug{L:Nat->Bool}{r:Nat}:∀(es:List (List (Nat×α))) (b:Nat->Option α) (i:Nat),(∀ k e,es[k]?=some e->wr e r=true->L (i+k)=false)->cur b es i L r=b r
 | [],b,i,_=>rfl
 | e::es,b,i,h=>by simp only[cur];rw[Qug es _ (i+1) (λk d hk a=>by have:=h (k+1) d (by simpa using hk) a;rw[show i+1+k=i+(k+1) by omega];exact this)];cases f:L i;rfl;simp only[vb];cases a:wr e r;exact up_nw a;have:=h 0 e rfl a;rw[xf,f] at this;cases this
theorem cur_L{r:Nat}:∀(es:List (List (Nat×α))) (b:Nat->Option α) (i:Nat) (L L':Nat->Bool),(∀ k e,es[k]?=some e->wr e r=true->L (i+k)=L' (i+k))->cur b es i L r=cur b es i L' r
 | [],b,i,L,L',_=>rfl
 | e::es,b,i,L,L',h=>by simp only[cur];rw[cur_L es _ (i+1) L L' (λk d hk a=>by have:=h (k+1) d (by simpa using hk) a;rw[show i+1+k=i+(k+1) by omega];exact this)];apply Qp8;cases a:wr e r;cases L i<;>cases L' i<;>simp[up_nw a];have:=h 0 e rfl a;rw[xf] at this;rw[this]
theorem Qrj{r:Nat}:∀(es:List (List (Nat×α))) (b:Nat->Option α) (i j:Nat) (L L':Nat->Bool) (f:List (Nat×α)),es[j]?=some f->L' (i+j)=true->(∀ k,k≠i+j->L' k=L k)->L (i+j)=false ->
 (∀ k e,es[k]?=some e->j<k->wr f r=true->wr e r=true->L (i+k)=false)->cur b es i L' r=up (cur b es i L) f r
 | [],_,_,j,_,_,_,h,_,_,_,_=>by simp at h
 | e::es,b,i,0,L,L',f,h,n,p,q,t=>by
   simp at h;subst h;simp only[xf] at n q;simp only[cur,n,q,vb];have v:∀ a,cur a es (i+1) L' r=cur a es (i+1) L r:=λa=>cur_L es a (i+1) L' L (λk _ _ _=>p _ om);rw[v];cases g:wr e r;rw[up_nw g];exact Qp8 es _ _ _ (up_nw g)
   have x:∀ a,cur a es (i+1) L r=a r:=λa=>Qug es a (i+1) (λk s hk d=>by
    have:=t (k+1) s (by simpa using hk) om g d
    rw[show i+1+k=i+(k+1) by omega];exact this)
   rw[x];exact up_w g
 | e::es,b,i,j+1,L,L',f,h,n,p,q,t=>by
   simp only[cur];have u:L' i=L i:=p i om;rw[u]
   exact Qrj es _ (i+1) j L L' f (by simpa using h) (by rw[show i+1+j=i+(j+1) by omega];exact n) (λk hk=>p k om) (by rw[show i+1+j=i+(j+1) by omega];exact q)
    (λk s hk w g d=>by have:=t (k+1) s (by simpa using hk) om g d;rw[show i+1+k=i+(k+1) by omega];exact this)
theorem Qpo{r:Nat}(L:Nat->Bool):∀(es:List (List (Nat×α))) (b:Nat->Option α) (i j:Nat),(∀ k e,es[k]?=some e->wr e r=true->k<j->L (i+k)=true)->(∀ k e,es[k]?=some e->wr e r=true->j<=k->L (i+k)=false) ->
 cur b es i L r=cur b (es.take j) i (λ_=>true) r
 | [],b,i,j,_,_=>by simp[cur]
 | e::es,b,i,0,f,g=>by simp only[List.take_zero];rw[Qug (e::es) b i (λk d hk a=>g k d hk a (xo _))];rfl
 | e::es,b,i,j+1,f,g=>by
   simp only[vi,cur,vb]
   rw[Qpo L es _ (i+1) j (λk d hk a q=>by have:=f (k+1) d (by simpa using hk) a om;rw[show i+1+k=i+(k+1) by omega];exact this)
    (λk d hk a p=>by have:=g (k+1) d (by simpa using hk) a om;rw[show i+1+k=i+(k+1) by omega];exact this)]
   apply Qp8;cases n:L i;cases a:wr e r;simp[up_nw a];have:=f 0 e rfl a om;rw[xf,n] at this;cases this;simp
end cur
structure D where
 rs:List Nat
 ri:List Nat
 el:List (Nat×Ly)
 em:List (Nat×Ct)
def Ag{α:Type}(st a:Nat->Option α):List Nat->Prop
 | []=>True
 | d::r=>st d=a d/\Ag st a r
theorem Ag.of{α:Type}{st a:Nat->Option α}:∀ {l:List Nat},(∀ d∈l,st d=a d)->Ag st a l
 | [],_=>trivial
 | d::_,h=>⟨h d yp,Ag.of (λx e=>h x (yj _ e))⟩
def OpG(X:Cx)(ops:Array Oper)(st:Nat->Option Ly)(mm:Nat->Option Ct)(o:Oper)(el:List (Nat×Ly))(em:List (Nat×Ct)):Prop:=
 ∀ a w γ K Q,Inv X st mm a w γ->(∀ d w' γ',Inv X (up st el) (up mm em) d w' γ'->K d w')->if Region.wanted o (yielded ops a.tmps) then o.wp X.P a w K Q else K (a.put o.dst undef) w
def Qhq(X:Cx)(ops:Array Oper):List (Nat×Ly)->List (Nat×Ct)->List Oper->List D->Prop
 | _,_,[],[]=>True
 | l,m,o::os,d::a=>(∀ st mm,Ag st (lk l) d.rs->Ag mm (lk m) d.ri->OpG X ops st mm o d.el d.em)/\Qhq X ops (d.el++l) (d.em++m) os a
 | _,_,_,_=>False
def prs(o:Oper):List Nat:=(o.after.toList.filter (Region.binds .any)).map (·.on)
def anyB(l:List Nat)(j:Nat):Bool:=l.any (Nat.beq j)
def wrAny{α:Type}(l:List (Nat×α))(rs:List Nat):Bool:=rs.any λr=>wr l r
def cf(d a:D):Bool:=wrAny d.el a.rs || wrAny a.el d.rs || wrAny d.el (a.el.map (·.1)) || wrAny d.em a.ri || wrAny a.em d.ri || wrAny d.em (a.em.map (·.1))
def rowOk(d:List Nat)(a:D):Nat->List D->Bool
 | _,[]=>true
 | j,e::f=>(!(cf e a) || anyB d j) && rowOk d a (j+1) f
def far(a:List (List Nat))(o:Oper):List Nat:=prs o++(prs o).flatMap (λp=>a.getD p [])
def drawOk:List Oper->List D->Nat->List D->List (List Nat)->Bool
 | [],[],_,_,_=>true
 | o::os,d::e,i,before,a=>(prs o).all (λp=>Nat.blt p i) && rowOk (far a o) d 0 before && drawOk os e (i+1) (before++[d]) (a++[far a o])
 | _,_,_,_,_=>false
inductive Anc (ls:List Oper):Nat->Nat->Prop
 | one {j i o}:ls[i]?=some o->j∈prs o->Anc ls j i
 | far {j p i o}:ls[i]?=some o->p∈prs o->Anc ls j p->Anc ls j i
theorem Anc.listed{ls:List Oper}{listed:Array Bool}(a:∀ i o,ls[i]?=some o->listed.getD i false=true->∀ p∈prs o,listed.getD p false=true){j i:Nat}(h:Anc ls j i):listed.getD i false=true->listed.getD j false=true:=by
 induction h with
 | one d e=>intro h;exact a _ _ d h _ e
 | far d e _ f=>intro h;exact f (a _ _ d h _ e)
theorem Qz4{l:List Nat}{j:Nat}(h:anyB l j=true):j∈l:=by unfold anyB at h;obtain⟨x,d,a⟩:=vr.1 h;rw[ot a];exact d
theorem Qb0{α:Type}{l:List (Nat×α)}{rs:List Nat}(h:wrAny l rs=false):∀ r∈rs,wr l r=false:=by intro r a;unfold wrAny at h;cases d:wr l r;rfl;have:(rs.any λr=>wr l r)=true:=vr.2 ⟨r,a,d⟩;rw[this] at h;cases h
theorem Q02{α:Type}:∀ {l:List (Nat×α)}{r x},lk l r=some x->(r,x)∈l:=by
        intro l
        induction l with
        | nil=>intro r x h;cases h
        | cons e l d=>
          obtain⟨i,y⟩:=e;intro r x h;simp only[lk] at h;cases a:Nat.beq i r;rw[a] at h;exact yj _ (d h);rw[a] at h;simp at h;subst h;rw[ot a];exact yp
theorem Qyq{α:Type}{l:List (Nat×α)}{r:Nat}(h:wr l r=true):r∈l.map (·.1):=by
 unfold wr at h;cases a:lk l r with
 | none=>rw[a] at h;cases h
 | some x=>exact xy.2 ⟨(r,x),Q02 a,rfl⟩
structure Qsy(ops:List Oper)(ds:List D):Prop where
 len:ops.length=ds.length
 back:∀ i o,ops[i]?=some o->∀ p∈prs o,p<i
 pair:∀(i j:Nat) o di dj,ops[i]?=some o->ds[i]?=some di->ds[j]?=some dj->j<i->Anc ops j i\/cf dj di=false
theorem Qsz{k i}:∀ {g:List D}{e:Nat},rowOk k i e g=true->∀ j a,g[j]?=some a->e+j∈k\/cf a i=false
 | [],_,_,j,a,h=>by simp at h
 | d::g,e,f,0,a,h=>by simp only[rowOk,ye,Bool.or_eq_true,vw] at f;simp at h;subst h;exact orM f.1.symm (λh=>Qz4 h) (λh=>h)
 | d::g,e,f,j+1,a,h=>by simp only[rowOk,ye] at f;have:=Qsz f.2 j a (by simpa using h);rw[show e+(j+1)=e+1+j by omega];exact this
theorem Q03{ls:List Oper}{d:List (List Nat)}(e:∀ k l,d[k]?=some l->∀ j∈l,Anc ls j k){i o}(g:ls[i]?=some o):∀ j∈far d o,Anc ls j i:=by
 intro j n;rcases yw.1 n with h | h;exact .one g h;obtain⟨p,q,a⟩:=List.mem_flatMap.1 h;rw[ui] at a;cases f:d[p]? with
 | none=>rw[f] at a;simp at a
 | some l=>rw[f] at a;exact .far g q (e p l f j a)
theorem Qnm{ls:List Oper}:∀(ops:List Oper) (q:List D) (i:Nat) (before:List D) (a:List (List Nat)),before.length=i->a.length=i->(∀ k o,ops[k]?=some o->ls[i+k]?=some o)->(∀ k l,a[k]?=some l->∀ j∈l,Anc ls j k)->drawOk ops q i before a=true ->
 ops.length=q.length/\(∀ k o,ops[k]?=some o->∀ p∈prs o,p<i+k)/\(∀(k j:Nat) o r n,ops[k]?=some o->q[k]?=some r->(before++q)[j]?=some n->j<i+k->Anc ls j (i+k)\/cf n r=false)
 | [],[],i,before,a,_,_,_,_,_=>⟨rfl,λk o h=>by simp at h,λk j o r n h=>by simp at h⟩
 | o::os,d::q,i,before,a,C,v,t,s,h=>by
   simp only[drawOk,ye] at h;obtain⟨⟨y,A⟩,B⟩:=h;have F:ls[i]?=some o:=by have:=t 0 o rfl;simpa using this
   have e:=Q03 s F
   obtain⟨g1,x,g3⟩:=Qnm os q (i+1) (before++[d]) (a++[far a o]) (by simp[C]) (by simp[v])
    (λk u hk=>by rw[show i+1+k=i+(k+1) by omega];exact t (k+1) u (by simpa using hk))
    (λk l hk=>by
     rcases xd k a.length with h | h;rw[yi h] at hk;exact s k l hk;rw[yd h] at hk;have:k=i:=by rcases Nat.eq_or_lt_of_le h with h | h;omega;rw[ou oh] at hk;cases hk
     subst this;rw[v,Nat.sub_self] at hk
     simp at hk;subst hk;exact e) B
   refine⟨by simp[g1],λk u hk p w=>?_,λk j u r n hk f g E=>?_⟩;cases k with
   | zero=>simp at hk;subst hk;have:=List.all_eq_true.1 y p w;simpa using this
   | succ k=>have:=x k u (by simpa using hk) p w;omega
   cases k with
   | zero=>
     simp at hk f;subst hk;subst f;have:=Qsz A j n (by rw[yi om] at g;exact g);rw[xr] at this;exact orM this (λh=>e j h) (λh=>h)
   | succ k=>
     have:=g3 k j u r n (by simpa using hk) (by simpa using f) (by simpa using g) om;rw[show i+1+k=i+(k+1) by omega] at this;exact this
 | [],_::_,_,_,_,_,_,_,_,h=>by simp[drawOk] at h
 | _::_,[],_,_,_,_,_,_,_,h=>by simp[drawOk] at h
theorem Qs0{X:Cx}{ops:Array Oper}:∀ {os:List Oper}{a:List D}{l m},Qhq X ops l m os a->∀ j o d,os[j]?=some o->a[j]?=some d ->
 ∀ st mm,Ag st (cur (lk l) ((a.map (·.el)).take j) 0 (λ_=>true)) d.rs->Ag mm (cur (lk m) ((a.map (·.em)).take j) 0 (λ_=>true)) d.ri->OpG X ops st mm o d.el d.em
 | [],[],_,_,_,j,o,d,h,_=>by simp at h
 | o::os,d::a,l,m,p,0,s,r,f,g=>by simp at f g;subst f;subst g;intro st mm k n;exact p.1 st mm (by simpa [cur] using k) (by simpa [cur] using n)
 | o::os,d::a,l,m,p,j+1,s,r,f,g=>by
   intro st mm k n;have shift:∀ {α:Type}(es:List (List (Nat×α))) (b:Nat->Option α) (i q:Nat),cur b es i (λ_=>true)=cur b es q (λ_=>true):=by
    intro α es
    induction es with
    | nil=>intro b i q;rfl
    | cons e es t=>intro b i q;simp only[cur,vb];exact t _ _ _
   refine Qs0 p.2 j s r (by simpa using f) (by simpa using g) st mm ?_ ?_;simp only[xu,vi,cur,vb,up_lk] at k;rw[shift _ _ 0 (0+1)];exact k;simp only[xu,vi,cur,vb,up_lk] at n;rw[shift _ _ 0 (0+1)];exact n
 | [],_::_,_,_,h,_,_,_,_,_=>h.elim
 | _::_,[],_,_,h,_,_,_,_,_=>h.elim
def fin{α:Type}:List (List (Nat×α))->List (Nat×α)->List (Nat×α)
 | [],l=>l
 | e::es,l=>fin es (e++l)
theorem Qrk{α:Type}:∀(es:List (List (Nat×α))) (l:List (Nat×α)) (i:Nat) (L:Nat->Bool),(∀ k,k<es.length->L (i+k)=true)->cur (lk l) es i L=lk (fin es l)
 | [],l,_,_,_=>rfl
 | e::es,l,i,L,h=>by simp only[cur,fin];have h0:=h 0 oc;rw[xf] at h0;simp only[h0,vb];rw[up_lk,Qrk es _ (i+1) L (λk hk=>by rw[show i+1+k=i+(k+1) by omega];exact h (k+1) (by simpa using hk))]
def OpQ(X:Cx)(Q:Exit->Act->World->Prop)(ops:Array Oper)(st:Nat->Option Ly)(mm:Nat->Option Ct)(o:Oper)(el:List (Nat×Ly))(em:List (Nat×Ct)):Prop:=
 ∀ a w γ K,Inv X st mm a w γ->(∀ d w' γ',Inv X (up st el) (up mm em) d w' γ'->K d w')->if Region.wanted o (yielded ops a.tmps) then o.wp X.P a w K Q else K (a.put o.dst undef) w
theorem Qxp{X:Cx}{ls:List Oper}{q:List D}{l m}(S:Qsy ls q){Q:Exit->Act->World->Prop}
 (hS:∀ j o d,ls[j]?=some o->q[j]?=some d->∀ st mm,Ag st (cur (lk l) ((q.map (·.el)).take j) 0 (λ_=>true)) d.rs->Ag mm (cur (lk m) ((q.map (·.em)).take j) 0 (λ_=>true)) d.ri->OpQ X Q ⟨ls⟩ st mm o d.el d.em)
 (hQ:∀ a w γ,Inv X (lk (fin (q.map (·.el)) l)) (lk (fin (q.map (·.em)) m)) a w γ->Q .normal a w) :
 ∀(fuel:Nat) (listed:Array Bool) (a:Act) (w:World) (γ:Nm),listed.size=ls.length->(listed.toList.filter (!·)).length<=fuel->(∀ i o,ls[i]?=some o->listed.getD i true=true->∀ p∈prs o,listed.getD p false=true) ->
  Inv X (cur (lk l) (q.map (·.el)) 0 (λi=>listed.getD i false)) (cur (lk m) (q.map (·.em)) 0 (λi=>listed.getD i false)) a w γ ->
  wpAny X.P .any ⟨ls⟩ Q fuel listed a w:=by
 have all_listed:∀(listed:Array Bool),listed.size=ls.length->Region.ready .any ⟨ls⟩ listed=[]->∀ i,i<ls.length->listed.getD i false=true:=by
  intro listed A B i
  induction i using Nat.strongRecOn with
  | _ i ih=>
    intro hi;cases E:listed.getD i false with
    | true=>rfl
    | false=>
      exfalso;have x:i∈Region.ready .any ⟨ls⟩ listed:=by
       rw[mem_ready];refine⟨?_,ls[i],by simp[hi],λe he hb=>?_⟩
       . have t:i<listed.size:=om
         simp only[uv,yh t,wd] at E |-;exact E
       . have T:e.on∈prs ls[i]:=xy.2 ⟨e,vt.2 ⟨by simpa using he,hb⟩,rfl⟩
         have n:=S.back i ls[i] (by simp[hi]) e.on T;exact ih e.on n om
      rw[B] at x;cases x
 have done:∀(listed:Array Bool) (a:Act) (w:World) (γ:Nm),listed.size=ls.length->Region.ready .any ⟨ls⟩ listed=[]->Inv X (cur (lk l) (q.map (·.el)) 0 (λi=>listed.getD i false)) (cur (lk m) (q.map (·.em)) 0 (λi=>listed.getD i false)) a w γ->Q .normal a w:=by intro listed a w γ A B hi;have h:=all_listed listed A B;have hlen:=S.len;rw[Qrk _ l 0 _ (λk hk=>by rw[xr];exact h k (by simp at hk;omega)),Qrk _ m 0 _ (λk hk=>by rw[xr];exact h k (by simp at hk;omega))] at hi;exact hQ a w γ hi
 intro fuel
 induction fuel with
 | zero=>
   intro listed a w γ A hc H hi;have B:Region.ready .any ⟨ls⟩ listed=[]:=by
    cases hrd:Region.ready .any ⟨ls⟩ listed with
    | nil=>rfl
    | cons i r=>
      exfalso;have x:i∈Region.ready .any ⟨ls⟩ listed:=by rw[hrd];exact yp
      rw[mem_ready] at x;obtain⟨h1,_⟩:=x;have t:i<listed.size:=by
       rcases xd i listed.size with h | h
       . exact h
       . simp[ya h] at h1
      have:false∈listed.toList.filter (!·):=vt.2 ⟨by
       have:=Array.getElem_mem t;simp only[uv,yh t,wd] at h1
       rw[h1] at this;simpa using this,rfl⟩
      have hnil:listed.toList.filter (!·)=[]:=xc om;rw[hnil] at this;cases this
   exact⟨B,done listed a w γ A B hi⟩
 | succ fuel ih=>
   intro listed a w γ A hc H hi;refine⟨λB=>done listed a w γ A B hi,λj hj=>?_⟩;rw[mem_ready] at hj;obtain⟨Z,o,ho,hpre⟩:=hj;have C:ls[j]?=some o:=by simpa using ho
   have hjl:j<ls.length:=by
    rcases xd j ls.length with h | h
    . exact h
    . simp[ou h] at C
   have I:j<listed.size:=om
   have v:listed.getD j false=false:=by simp only[uv,yh I,wd] at Z |-;exact Z
   obtain⟨d,hd⟩:∃ d,q[j]?=some d:=⟨_,oq (by rw[<-S.len];exact hjl)⟩
   have F:∀ p∈prs o,listed.getD p false=true:=by intro p T;obtain⟨e,he,rfl⟩:=xy.1 T;obtain⟨he1,he2⟩:=vt.1 he;exact hpre e (by simpa using he1) he2
   have J:∀ i o,ls[i]?=some o->listed.getD i false=true->∀ p∈prs o,listed.getD p false=true:=by
    intro k K hk E;refine H k K hk ?_;have:k<listed.size:=by
     rcases xd k listed.size with h | h
     . exact h
     . simp[ya h] at E
    simp only[uv,yh this,wd] at E |-;exact E
   have later:∀ k K,ls[k]?=some K->j∈prs K->listed.getD k false=false:=by
    intro k K hk hjp;cases E:listed.getD k false with
    | false=>rfl
    | true=>
      have hk':listed.getD k true=true:=by
       have:k<listed.size:=by
        rcases xd k listed.size with h | h
        . exact h
        . simp[ya h] at E
       simp only[uv,yh this,wd] at E |-;exact E
      have:=H k K hk hk' j hjp;rw[v] at this;cases this
   have prOk:∀ k f,q[k]?=some f->k<j->listed.getD k false=true\/(wrAny f.el d.rs || wrAny d.el f.rs || wrAny f.el (d.el.map (·.1)) || wrAny f.em d.ri || wrAny d.em f.ri || wrAny f.em (d.em.map (·.1)))=false:=by
    intro k f hk n;rcases S.pair j k o d f C hd hk n with h | h
    . refine .inl ?_
      cases h with
      | one U e2=>rw[C] at U;cases U;exact F k e2
      | far U e2 e3=>rw[C] at U;cases U;exact e3.listed J (F _ e2)
    . exact .inr h
   have poOk:∀ k f,q[k]?=some f->j<k->listed.getD k false=false\/(wrAny d.el f.rs || wrAny f.el d.rs || wrAny d.el (f.el.map (·.1)) || wrAny d.em f.ri || wrAny f.em d.ri || wrAny d.em (f.em.map (·.1)))=false:=by
    intro k f hk n;have hkl:k<ls.length:=by
     rw[S.len];rcases xd k q.length with h | h
     . exact h
     . simp[ou h] at hk
    rcases S.pair k j ls[k] f d (by simp[hkl]) hk hd n with h | h
    . refine .inl ?_
      cases E:listed.getD k false with
      | false=>rfl
      | true=>have:=h.listed J E;rw[v] at this;cases this
    . exact .inr h
   have mapget:∀ {β:Type}(g:D->β) (k:Nat) (b:β),(q.map g)[k]?=some b->∃ f,q[k]?=some f/\g f=b:=by intro β g k b h;simp only[ug,Option.map_eq_some_iff] at h;exact h
   have hrs:Ag (cur (lk l) (q.map (·.el)) 0 (λi=>listed.getD i false)) (cur (lk l) ((q.map (·.el)).take j) 0 (λ_=>true)) d.rs:=Ag.of λr B=>by
    refine Qpo _ _ _ 0 j (λk e hk u n=>?_) (λk e hk u O=>?_)
    . obtain⟨f,s,rfl⟩:=mapget _ k e hk
      rw[xr];rcases prOk k f s n with h | h
      . exact h
      . simp only[vh] at h
        have:=Qb0 h.1.1.1.1.1 r B;rw[this] at u;cases u
    . obtain⟨f,s,rfl⟩:=mapget _ k e hk
      rw[xr];rcases Nat.eq_or_lt_of_le O with rfl | n
      . exact v
      . rcases poOk k f s n with h | h
        . exact h
        . simp only[vh] at h
          have:=Qb0 h.1.1.1.1.2 r B;rw[this] at u;cases u
   have hri:Ag (cur (lk m) (q.map (·.em)) 0 (λi=>listed.getD i false)) (cur (lk m) ((q.map (·.em)).take j) 0 (λ_=>true)) d.ri:=Ag.of λr B=>by
    refine Qpo _ _ _ 0 j (λk e hk u n=>?_) (λk e hk u O=>?_)
    . obtain⟨f,s,rfl⟩:=mapget _ k e hk
      rw[xr];rcases prOk k f s n with h | h
      . exact h
      . simp only[vh] at h
        have:=Qb0 h.1.1.2 r B;rw[this] at u;cases u
    . obtain⟨f,s,rfl⟩:=mapget _ k e hk
      rw[xr];rcases Nat.eq_or_lt_of_le O with rfl | n
      . exact v
      . rcases poOk k f s n with h | h
        . exact h
        . simp only[vh] at h
          have:=Qb0 h.1.2 r B;rw[this] at u;cases u
   have hop:=hS j o d C hd _ _ hrs hri;have y:∀ k,(listed.setIfInBounds j true).getD k false=if k=j then true else listed.getD k false:=by
    intro k;by_cases N:k=j
    . subst N;simp[I]
    . simp[N,uh (Ne.symm N)]
   have V:∀ i o,ls[i]?=some o->(listed.setIfInBounds j true).getD i true=true->∀ p∈prs o,(listed.setIfInBounds j true).getD p false=true:=by
    intro i K t hli p T;rw[y];split
    . rfl
    . by_cases Y:i=j
      . subst Y;rw[C] at t;cases t;exact F p T
      . refine H i K t ?_ p T
        simpa [uh (Ne.symm Y)] using hli
   have W:((listed.setIfInBounds j true).toList.filter (!·)).length<=fuel:=by
    rw[Array.toList_setIfInBounds];have key:∀(L:List Bool) (j:Nat),L[j]?=some false->((L.set j true).filter (!·)).length+1=(L.filter (!·)).length:=by
     intro L
     induction L with
     | nil=>intro j h;simp at h
     | cons b L ih=>
       intro j h;cases j with
       | zero=>simp at h;subst h;simp
       | succ j=>
         have:=ih j (by simpa using h);cases b<;>simp at this |-<;>omega
    have:=key listed.toList j (by
     rw[xi,yh I];simp only[uv,yh I,wd] at v
     rw[v])
    omega
   have hst:cur (lk l) (q.map (·.el)) 0 (λi=>(listed.setIfInBounds j true).getD i false)=up (cur (lk l) (q.map (·.el)) 0 (λi=>listed.getD i false)) d.el:=by
    funext r;refine Qrj _ _ 0 j _ _ d.el (by simp[hd]) (by rw[xr];simp[y]) (λk hk=>by rw[xr] at hk;simp[y,hk]) (by rw[xr];exact v) (λk e hk M u P=>?_);obtain⟨f,s,rfl⟩:=mapget _ k e hk;rw[xr];rcases poOk k f s M with h | h
    . exact h
    . simp only[vh] at h
      have:=Qb0 h.1.1.1.2 r (Qyq P);rw[this] at u;cases u
   have hmt:cur (lk m) (q.map (·.em)) 0 (λi=>(listed.setIfInBounds j true).getD i false)=up (cur (lk m) (q.map (·.em)) 0 (λi=>listed.getD i false)) d.em:=by
    funext r;refine Qrj _ _ 0 j _ _ d.em (by simp[hd]) (by rw[xr];simp[y]) (λk hk=>by rw[xr] at hk;simp[y,hk]) (by rw[xr];exact v) (λk e hk M u P=>?_);obtain⟨f,s,rfl⟩:=mapget _ k e hk;rw[xr];rcases poOk k f s M with h | h
    . exact h
    . simp only[vh] at h
      have:=Qb0 h.2 r (Qyq P);rw[this] at u;cases u
   have goon:∀ a' w' γ',Inv X (up (cur (lk l) (q.map (·.el)) 0 (λi=>listed.getD i false)) d.el) (up (cur (lk m) (q.map (·.em)) 0 (λi=>listed.getD i false)) d.em) a' w' γ'->wpAny X.P .any ⟨ls⟩ Q fuel (listed.setIfInBounds j true) a' w':=by intro a' w' γ' t;exact ih _ a' w' γ' (by simpa using A) W V (by rw[hst,hmt];exact t)
   have:=hop a w γ (wpAny X.P .any ⟨ls⟩ Q fuel (listed.setIfInBounds j true)) hi goon;unfold wpOp;rw[ho];split at this
   . rename_i u;simp only[u,vb];exact .inl this
   . rename_i u;simp only[u];exact this
theorem sdrawA{R:Type}{X:Cx}{l m}{md:Option R}{Q:R->Exit->Act->World->Prop}{ls:List Oper}(f:List D)(H:drawOk ls f 0 [] []=true)(J:Qhq X ⟨ls⟩ l m ls f)
 (k:Sq X (fin (f.map (·.el)) l) (fin (f.map (·.em)) m) md (λr=>Q r .normal)):Sq X l m md (λr a w=>wpAny X.P .any ⟨ls⟩ (Q r) ls.length (Array.replicate ls.length false) a { w with drawn:=w.drawn+1 }):=by
 intro r a w γ N hi;obtain⟨q,s,t⟩:=Qnm (ls:=ls) ls f 0 [] [] rfl rfl (λk o h=>by rw[xr];exact h) (λk l h=>by simp at h) H;have u:Qsy ls f:=⟨q,λi o n p M=>by have:=s i o n p M;omega,λi j o B C n v x g=>by have:=t i j o B C n v (by simpa using x) om;rw[xr] at this;exact this⟩
 have y:Inv X (lk l) (lk m) a { w with drawn:=w.drawn+1 } γ:=hi.ext (w':={ w with drawn:=w.drawn+1 }) rfl rfl rfl ⟨xn _,λ_ _ _=>rfl⟩;refine Qxp u (λj o d q s st mm t F a w γ K hi I=>Qs0 J j o d q s st mm t F a w γ K _ hi I) (λa w γ h=>k r a w γ N h) _ _ a _ γ oc oc (λi o n L=>?_) ?_;have g:i<ls.length:=by rcases xd i ls.length with h | h;exact h;simp[ou h] at n
 simp[g] at L;have E:(λi=>(Array.replicate ls.length false).getD i false)=λ_=>false:=by funext i;by_cases h:i<ls.length<;>simp[h]
 have A:∀ {α:Type}(es:List (List (Nat×α))) (b:Nat->Option α) (i:Nat),cur b es i (λ_=>false)=b:=by
  intro α es
  induction es with
  | nil=>intro b i;rfl
  | cons e es O=>intro b i;simp[cur,O]
 show Inv X (cur _ _ 0 (λi=>(Array.replicate ls.length false).getD i false)) (cur _ _ 0 (λi=>(Array.replicate ls.length false).getD i false)) _ _ _;rw[E,A,A];exact y
section
variable {X:Cx}{st:Nat->Option Ly}{mm:Nat->Option Ct}{ops:Array Oper}
theorem og{d op ty pos after el em}(h:OpOk X st mm ⟨d,op,ty,pos,after,none⟩ el em):OpG X ops st mm ⟨d,op,ty,pos,after,none⟩ el em:=by intro a w γ K Q hi e;rw[oo (by simp[Region.wanted])];exact h a w γ K Q hi e
theorem ogG{d op ty pos after j b el em}(e:Nat)(g:((ops[j]?).bind (·.dst))=some e)(i:st e=some (bl b))(h:OpOk X st mm ⟨d,op,ty,pos,after,none⟩ el em):OpG X ops st mm ⟨d,op,ty,pos,after,some (j,b)⟩ el em:=by intro a w γ K Q hi f;rw[oo (by simp[Region.wanted,Qfs hi g i])];exact h a w γ K Q hi f
theorem okb{o d b c em}(a:b=c)(h:OpOk X st mm o [(d,bl b)] em):OpOk X st mm o [(d,bl c)] em:=a ▸ h
end
section
variable {R:Type}{X:Cx}{l:List (Nat×Ly)}{m:List (Nat×Ct)}{md:Option R}{G:R->Act->World->Prop}
theorem sbn{α:Type}{F:α->Ly}{x:α}{k:α->Option R}(d:Nat)(hd:lk l d=some (F x))(h:∀ y,Sq X ((d,F y)::l) m (k y) G):Sq X l m ((some x).bind k) G:=by
 refine sent (λa w γ hi=>⟨γ,{ hi with sts:=λi ly h=>hi.sts i ly (by
  simp only[lk] at h;cases e:Nat.beq d i;rw[e] at h;exact h
  rw[e] at h;rw[<-ot e,hd];exact h) }⟩) (h x)
end
section ops
variable {X:Cx}{st:Nat->Option Ly}{mm:Nat->Option Ct}
theorem kLm{α:Type}(f:α->Ly){k}:OpdF st (.const (.slice none 0 0)) (sli k (List.map f [])):=λ_ _ _=>.inl ⟨rfl,rfl⟩
theorem stB2{x y T ty pos af i k f id E ly g ln ly2 off}(p:List Nat)(e:Ly.pu ln p ly=ly2)(q:mm id=some (.bx E ly))(n:Ly.go p ly=some (g,off))(j:Shp X.P T i k)(u:g.sz=k)(d:ln.sz=k)(a:ln.lies=true)
 (s:OpdF st x f) (r:OwnP mm f id off) (t:OpdF st y ln) :
 OpOk X st mm ⟨none,.store T x y,ty,pos,af,none⟩ [] [(id,.bx E ly2)]:=e ▸ stB p q n j u d a s r t
theorem Qwv{d o x y T f ty pos af p q b}(h:∀ w,(binOp o T (.bool p) (.bool q)).run X.P w=.ok (.bool b) w)(hd:Nat.blt d X.N=true)(g:OpdF st x (bl p))(i:OpdF st y (bl q)):
 OpOk X st mm ⟨some d,.binOp o T x y f,ty,pos,af,none⟩ [(d,bl b)] []:=
 Qed hd g i λw S γ j k a e=>by simp only[bl,Ly.val,cpB] at a e;subst a;subst e;exact⟨_,λw=>by cases o<;>simp[eqGuard],h,by simp[bl,Ly.val,cpB]⟩
theorem eqB{d x y T a ty pos af p q}(e:X.P.underlying T=some .bool)(hd:Nat.blt d X.N=true)(f:OpdF st x (bl p))(g:OpdF st y (bl q)):
 OpOk X st mm ⟨some d,.binOp .eql T x y a,ty,pos,af,none⟩ [(d,bl (p == q))] []:=Qwv (λw=>by simp[binOp,run_equal_bool w T p q e]) hd f g
theorem neB{d x y T a ty pos af p q}(e:X.P.underlying T=some .bool)(hd:Nat.blt d X.N=true)(f:OpdF st x (bl p))(g:OpdF st y (bl q)):
 OpOk X st mm ⟨some d,.binOp .neq T x y a,ty,pos,af,none⟩ [(d,bl (p != q))] []:=Qwv (λw=>by simp[binOp,run_equal_bool w T p q e];cases p<;>cases q<;>rfl) hd f g
theorem nzI{q:Int}{u:Unit}(h:grd (q != 0)=some u):(q == 0)=false:=by have:=Yp h;simpa [bne] using this
theorem nzU{q:Nat}{u:Unit}(h:grd (q != 0)=some u):Nat.beq q 0=false:=by
 have:=Yp h;cases q with
 | zero=>exact absurd this oz
 | succ n=>rfl
theorem ge0{q:Int}{u:Unit}(h:grd (decide (0<=q))=some u):(decide (0<=q))=true:=Yp h
theorem shrI{d x y T j ty pos af p u}{q:Int}(r:(decide (0<=q))=true)(hd:Nat.blt d X.N=true)(s:OpdF st x (i64 p))(t:OpdF st y (.cell (cpI u q))):
 OpOk X st mm ⟨some d,.binOp .shr T x y j,ty,pos,af,none⟩ [(d,i64 (p.fdiv (2 ^ (min q.toNat 64))))] []:=
 Qed hd s t λw S γ v A g i=>by
  obtain⟨rfl,a1,a2⟩:=g;obtain⟨rfl,_⟩:=i;have:¬ q<0:=by have:=wm r;omega
  refine⟨_,λw=>by simp[eqGuard],λw=>by simp only[binOp,Op.shift,ol this];rfl,rfl,?_⟩;have f:(0:Int)<2 ^ (min q.toNat 64):=Int.pow_pos oz;rw[Int.fdiv_eq_ediv_of_nonneg _ (Int.le_of_lt f)];have g:IntKind.i64.min=-9223372036854775808:=oz
  have i:IntKind.i64.max=9223372036854775807:=oz
  rw[g] at a1 |-;rw[i] at a2 |-;have e:(1:Int)<=2 ^ (min q.toNat 64):=om
  rcases Int.le_total 0 p with h | h;have k:=Int.ediv_nonneg h (Int.le_of_lt f);have n:=Int.ediv_le_self (a:=p) (2 ^ (min q.toNat 64)) h;omega;have k:p<=p / 2 ^ (min q.toNat 64):=by
   rw[Int.le_ediv_iff_mul_le f];have:=Int.mul_le_mul_of_nonpos_left h e
   simpa using this
  have n:p / 2 ^ (min q.toNat 64)<=0:=by
   have:=Int.ediv_le_ediv (c:=2 ^ (min q.toNat 64)) f h
   simpa using this
  omega
end ops
section
variable {R:Type}{X:Cx}{l:List (Nat×Ly)}{m:List (Nat×Ct)}{md:Option R}{Q:R->Exit->Act->World->Prop}{G:R->Act->World->Prop}
theorem scT{c:Operand}{x y:Code}(e:OpdF (lk l) c (bl true))(h:Sq X l m md (λr=>x.wp X.P (Q r))):Sq X l m md (λr=>(Code.cond c x y).wp X.P (Q r)):=by intro r a w γ f hi;have:=e.val hi;simp only[bl,Ly.val,cpB] at this;refine wp_cond_split this (λ_=>h r a w γ f hi) (λd=>by cases d)
theorem scF{c:Operand}{x y:Code}(e:OpdF (lk l) c (bl false))(h:Sq X l m md (λr=>y.wp X.P (Q r))):Sq X l m md (λr=>(Code.cond c x y).wp X.P (Q r)):=by intro r a w γ f hi;have:=e.val hi;simp only[bl,Ly.val,cpB] at this;refine wp_cond_split this (λd=>by cases d) (λ_=>h r a w γ f hi)
theorem sbm{α:Type}{C:α->Ct}{x:α}{k:α->Option R}(d:Nat)(hd:lk m d=some (C x))(h:∀ y,Sq X l ((d,C y)::m) (k y) G):Sq X l m ((some x).bind k) G:=by
 refine sent (λa w γ hi=>⟨γ,?_⟩) (h x);have:lk ((d,C x)::m)=lk m:=by funext i;simp only[lk];cases e:Nat.beq d i;rfl;rw[<-ot e,hd];rfl
 rw[this];exact hi
def lpK{τ ρ:Type}(k:τ->Option ρ):Lp τ ρ->Option ρ
 | .go t=>k t
 | .out r=>some r
theorem Q2i{σ:Type}{body:Code}{f:σ->Option (Lp σ R)}{n:Nat}{s0:σ}
 (L:σ->List (Nat×Ly)) (M:σ->List (Nat×Ct)) (h0:Ent X l m (L s0) (M s0))
 (a:∀ s,Sq X (L s) (M s) (f s) (λo=>body.wp X.P (LpQ X L M some Q o))) :
 Sq X l m (loopM f n s0) (λr=>(Code.loop body).wp X.P (Q r)):=by
 have:=sloop (k:=some) (G':=λ_ _ _=>True) (Q:=Q) (X:=X) (l:=l) (m:=m) (n:=n) (τ0:=Empty) (λe=>e.elim) L M (λ_=>[]) (λ_=>[]) h0 (λ_=>a) (λt=>t.elim);rw[show(loopM f n s0).bind some=loopM f n s0 by cases loopM f n s0<;>rfl] at this;exact this
theorem srangeN{α σ:Type}{f:Nat->α->σ->Option (Lp σ R)}{xs:List α}{s0:σ}{k:σ->Option R}
 {n id2 e j a d g v w y A p q u:Nat}{I J K:String}{C E f3:Array Edge}{B:Code}
 (L:σ->List (Nat×Ly)) (M:σ->List (Nat×Ct))
 (hd:(Nat.blt j X.N && Nat.blt a X.N && Nat.blt g X.N && !(Nat.beq j a) && !(Nat.beq j d) && !(Nat.beq a d) && !(Nat.beq g d) && !(Nat.beq g a))=true)
 (hk:∀ s,(nkey j (L s) && nkey a (L s) && nkey g (L s) && nkey d (L s))=true)
 (h0:Ent X l m ((a,i64 (0:Nat))::(d,i64 xs.length)::L s0) (M s0))
 (H:∀(i:Nat) x s,xs[i]?=some x->Sq X ((a,i64 i)::(d,i64 xs.length)::L s) (M s) (f i x s)
  (λo=>B.wp X.P (LpQ X (λs=>(a,i64 i)::(d,i64 xs.length)::L s) M (λt=>lpK k (.out t)) Q o)))
 (F:∀ s,Sq X (L s) (M s) (k s) (λr=>Q r (.exit e))) :
 Sq X l m ((rangeL f xs 0 s0).bind (lpK k)) (λr=>(Code.loop (.seq (.region n ⟨[⟨some j,.binOp .lss v (.tmp a) (.tmp d) w,p,I,C,none⟩]⟩ false)
  (.seq (.cond (.tmp j) .skip (.exit e)) (.seq B (.region id2 ⟨[⟨some g,.binOp .add y (.tmp a) (.const (.int .i64 1)) A,q,J,E,none⟩,⟨some a,.move (.tmp g),u,K,f3,none⟩]⟩ false))))).wp X.P (Q r)):=
 srange (k:=lpK k) L M hd hk h0 H F
end
section ops
variable {X:Cx}{st:Nat->Option Ly}{mm:Nat->Option Ct}
theorem cvI{d x S T ty pos af g p}(i:X.P.underlying S=some g)(j:X.P.underlying T=some (.int .i64))(hd:Nat.blt d X.N=true)(n:OpdF st x (i64 p)):
 OpOk X st mm ⟨some d,.convert S T x,ty,pos,af,none⟩ [(d,i64 p)] []:=
 cv_ok i j hd n λw S γ v k=>by
  obtain⟨rfl,a,f⟩:=k;have a1:IntKind.i64.min=-9223372036854775808:=oz
  have a2:IntKind.i64.max=9223372036854775807:=oz
  have e:wrap64 p=p:=by rw[a1] at a;rw[a2] at f;unfold wrap64;omega
  exact⟨_,_,rfl,by rw[Qft,e];exact⟨rfl,a,f⟩⟩
theorem Zq{α:Type}{xs:List α}{p:Int}{y:α}(h:getI xs p=some y):xs[p.toNat]?=some y:=(Qco h).2
end ops
theorem eqm0:EqM [] []:=⟨trivial,trivial⟩
theorem sj{R:Type}{X:Cx}{l l' m m'}{md:Option R}{G:R->Act->World->Prop}(k:Sq X l' m' md G)(h:Ent X l m l' m'):Sq X l m md G:=sent h k
def MiF(ρ:List (Nat×Nat))(mm:Nat->Option Ct):List (Nat×Ct)->Prop
 | []=>True
 | (x,a)::r=>(∃ y c,lk ρ x=some y/\mm y=some c/\RnC ρ c a)/\MiF ρ mm r
theorem MiF.get{ρ mm}:∀ {mi:List (Nat×Ct)},MiF ρ mm mi->∀ x a,lk mi x=some a->∃ y c,lk ρ x=some y/\mm y=some c/\RnC ρ c a
 | [],_,_,_,h=>by cases h
 | (i,c0)::r,e,x,a,h=>by simp only[lk] at h;cases d:Nat.beq i x;rw[d] at h;exact MiF.get e.2 x a h;rw[d] at h;have:i=x:=ot d;subst this;simp at h;subst h;exact e.1
section
variable {R:Type}{X:Cx}{l:List (Nat×Ly)}{m:List (Nat×Ct)}{md:Option R}{Q:R->Exit->Act->World->Prop}{G:R->Act->World->Prop}
theorem sjq{σ:Type}{x y:Code}{A:(σ->Option R)->Option R}{k:σ->Option R}(L:σ->List (Nat×Ly))(M:σ->List (Nat×Ct))
 (h:∀ j:σ->Option R,(∀ s,Sq X (L s) (M s) (j s) (λr=>y.wp X.P (Q r)))->Sq X l m (A j) (λr=>x.wp X.P (Exit.then (y.wp X.P (Q r)) (Q r))))
 (J:∀ s,Sq X (L s) (M s) (k s) (λr=>y.wp X.P (Q r))):Sq X l m (jn A k) (λr=>(Code.seq x y).wp X.P (Q r)):=sseq (h k J)
theorem sloopE{σ τ τ0:Type}{body:Code}{f:σ->Option (Lp σ τ)}{n:Nat}{s0:σ}{k:τ->Option R}(e:Nat)(inj:τ0->τ)
 (L:σ->List (Nat×Ly)) (M:σ->List (Nat×Ct)) (Lo:τ0->List (Nat×Ly)) (Mo:τ0->List (Nat×Ct)) (h0:Ent X l m (L s0) (M s0))
 (d:(∀ t,Sq X (Lo t) (Mo t) (k (inj t)) (λr=>Q r (.exit e)))->∀ s,Sq X (L s) (M s) (f s) (λo=>body.wp X.P (LpQ X L M k Q o)))
 (a:∀ t,Sq X (Lo t) (Mo t) (k (inj t)) (λr=>Q r (.exit e))) :
 Sq X l m ((loopM f n s0).bind k) (λr=>(Code.loop body).wp X.P (Q r)):=sloop inj L M Lo Mo h0 d a
end
section
variable {R:Type}{X:Cx}{l:List (Nat×Ly)}{m:List (Nat×Ct)}{md:Option R}{Q:R->Exit->Act->World->Prop}
theorem Qp9{ops:Array Oper}{j d:Nat}{st mm a w γ}(hi:Inv X st mm a w γ)(g:((ops[j]?).bind (·.dst))=some d)(i:st d=some (.tup [])):yielded ops a.tmps j=none:=by obtain⟨v,e,f⟩:=hi.sts d _ i;simp only[Ly.val,Ly.vals] at f;obtain⟨cs,rfl,_⟩:=f;unfold yielded;simp[g,e]
theorem Qor{w S γ}:Ly.val w S γ (.tup []) undef:=by simp only[Ly.val,Ly.vals];exact⟨#[],rfl,rfl⟩
theorem spB{d op ty pos after j b}{ops:Array Oper}{rest:List Oper}(e:Nat)(g:((ops[j]?).bind (·.dst))=some e)(n:lk l e=some (bl (!b)))(hd:Nat.blt d X.N=true)
 (k:Sq X ((d,.tup [])::l) m md (λr=>wpList X.P ops (Q r) rest)):Sq X l m md (λr=>wpList X.P ops (Q r) (⟨some d,op,ty,pos,after,some (j,b)⟩::rest)):=by
 intro r a w γ i hi;refine wpList_step λK f=>?_;rw[ol (by cases b<;>simp[Region.wanted,Qfs hi g n])];refine f _ w (k r _ w γ i ?_);have:=hi.put (d:=d) (v:=undef) (ly:=.tup []) (by simpa using hd) Qor;rw[up_lk] at this;exact this
theorem spU{d op ty pos after j b}{ops:Array Oper}{rest:List Oper}(e:Nat)(g:((ops[j]?).bind (·.dst))=some e)(n:lk l e=some (.tup []))(hd:Nat.blt d X.N=true)
 (k:Sq X ((d,.tup [])::l) m md (λr=>wpList X.P ops (Q r) rest)):Sq X l m md (λr=>wpList X.P ops (Q r) (⟨some d,op,ty,pos,after,some (j,b)⟩::rest)):=by
 intro r a w γ i hi;refine wpList_step λK f=>?_;rw[ol (by simp[Region.wanted,Qp9 hi g n])];refine f _ w (k r _ w γ i ?_);have:=hi.put (d:=d) (v:=undef) (ly:=.tup []) (by simpa using hd) Qor;rw[up_lk] at this;exact this
end
section
variable {X:Cx}{st:Nat->Option Ly}{mm:Nat->Option Ct}{ops:Array Oper}
theorem ogB{d op ty pos after j b}(e:Nat)(g:((ops[j]?).bind (·.dst))=some e)(i:st e=some (bl (!b)))(hd:Nat.blt d X.N=true):OpG X ops st mm ⟨some d,op,ty,pos,after,some (j,b)⟩ [(d,.tup [])] []:=by intro a w γ K Q hi f;rw[ol (by cases b<;>simp[Region.wanted,Qfs hi g i])];exact f _ _ _ (hi.put (d:=d) (v:=undef) (ly:=.tup []) (by simpa using hd) Qor)
theorem ogU{d op ty pos after j b}(e:Nat)(g:((ops[j]?).bind (·.dst))=some e)(i:st e=some (.tup []))(hd:Nat.blt d X.N=true):OpG X ops st mm ⟨some d,op,ty,pos,after,some (j,b)⟩ [(d,.tup [])] []:=by intro a w γ K Q hi f;rw[ol (by simp[Region.wanted,Qp9 hi g i])];exact f _ _ _ (hi.put (d:=d) (v:=undef) (ly:=.tup []) (by simpa using hd) Qor)
theorem frzI{a w γ d id E k ls}(hi:Inv X st mm a w γ)(C:mm id=some (.sl E k ls))(B:IFs ls)(hd:st d=some (.own id)):Inv X (up st [(d,sli k ls)]) (up mm [(id,.gone)]) a w γ:=by
 obtain⟨v,cs,t,⟨T,H⟩,I,J⟩:=slI hi C;have n:=hi.drop id;have L:∀ b,X.S γ (up mm [(id,.gone)]) b->X.S γ mm b:=by rintro b (h | ⟨i,s,u,f,q,y,A⟩);exact .inl h;rw[Jz] at f;by_cases e:id=i;simp[e] at f;subst f;simp[Ct.alive] at q;simp[e] at f;exact .inr ⟨i,s,u,f,q,y,A⟩
 have O:(cpL k ls).p w (X.S γ (up mm [(id,.gone)])) v:=by rcases H with ⟨rfl,N⟩ | ⟨g,cap,cur,rfl,_,q,y,A,U,K⟩;exact .inl ⟨rfl,xc N⟩;have hmine:=hi.mine g ⟨id,_,_,C,rfl,t,rfl⟩;refine .inr (.inl ⟨g,0,cap,cs,rfl,y,A,hmine.2.1,?_,λj u r=>?_,Ly.holds_mono (Kp.refl _ _) (λb M=>.inl (L b M)) (Ng.refl _) _ _ ((B w _ γ (λ_=>none)).1 _ I),J⟩);rintro(h | ⟨i,s,u,p,F,P,S⟩);exact hmine.2.2 h;rw[Jz] at p;by_cases e:id=i;simp[e] at p;subst p;simp[Ct.alive] at F;simp[e] at p;exact e (hi.apart id i _ s _ u g C rfl p F t P rfl S);rw[Kh q,<-xi,xr];rw[<-K,yq] at r;split at r;exact r;cases r
 refine { n with sts:=?_ };intro i ly h;rw[Jz] at h;by_cases e:d=i;subst e;simp at h;subst h;obtain⟨u,g1,x,_⟩:=hi.sts d _ hd;rw[t] at x;simp at x;subst x;exact⟨v,g1,O⟩;simp[e] at h;exact n.sts i ly h
theorem toV{o d y E k ls em}(h:OpOk X st mm o [(d,.own y)] ((y,.sl E k ls)::em))(j:IFs ls):OpOk X st mm o [(d,sli k ls)] ((y,.gone)::em):=by
 intro a w γ K Q hi r;refine h a w γ K Q hi λn w' γ' g=>r n w' γ' ?_;have:=frzI (d:=d) (id:=y) (E:=E) (k:=k) (ls:=ls) g (by simp[up,lk]) j (by simp[up,lk]);have p:up (up st [(d,.own y)]) [(d,sli k ls)]=up st [(d,sli k ls)]:=by funext i;simp only[Jz];by_cases e:d=i<;>simp[e]
 have q:up (up mm ((y,.sl E k ls)::em)) [(y,.gone)]=up mm ((y,.gone)::em):=by
  funext i;rw[Jz];by_cases e:y=i;subst e;simp[up,lk];have f:Nat.beq y i=false:=by cases f:Nat.beq y i;rfl;exact absurd (ot f) e
  simp[e,up,lk,f]
 rw[p,q] at this;exact this
end
section
variable {X:Cx}{st:Nat->Option Ly}{mm:Nat->Option Ct}
theorem bnd{a x p q}(h:OpdF st x (.cell (cpI a q))):BndF st p (some x) q:=⟨a,h⟩
theorem bnd0{p}:BndF st p none p:=rfl
end
theorem Qnn{P:Program}{T:Nat}{f:Bool}{k off:Nat}{w w':World}{S γ}{ly:Ly}{cs:Array Value}{a u b:List Value}(h:Shp P T f k)(g:ly.isN=f)(p:ly.sz=k)
 (i:cs.toList=a++u++b) (j:a.length=off) (e:ly.hold w S γ u):∃ v,(part T cs off).run P w'=.ok v w'/\ly.val w S γ v:=by
 have d:=Ly.hold_sz _ _ e;cases f with
 | true=>
   refine⟨.agg u.toArray,?_,?_⟩;have:cs.extract off (off+k)=u.toArray:=by apply vk;rw[Array.toList_extract,i];simp only[List.extract_eq_take_drop];rw[<-j,xe,List.drop_left,<-p,<-d,show a.length+u.length - a.length=u.length by omega,List.take_left]
   simp[part,Qj4 h,Qib h,this];cases ly<;>simp[Ly.isN] at g;simp only[Ly.val,Ly.hold] at e |-;exact⟨_,rfl,e⟩
 | false=>
   have n:u.length=1:=by cases ly<;>simp[Ly.isN] at g<;>simpa [Ly.sz] using d
   obtain⟨v,rfl⟩:∃ v,u=[v]:=by
    match u,n with
    | [v],_=>exact⟨v,rfl⟩
   refine⟨v,?_,Ly.val_of_hold1 g e⟩;have:cs[off]?=some v:=by rw[<-xi,i,<-j,xe,yd (xn _)];simp
   simp[part,Qj4 h,this]
def EqF(P:Program)(n T:Nat){α:Type}(f:α->Ly)(e:α->α->Bool):Prop:=
 ∀ d w w' S γ x y a g,(f x).val w S γ a->(f y).val w S γ g->(Op.equalIn (d+n) T a g).run P w'=.ok (e x y) w'
theorem Qgt{P n T}(h:P.underlying T=some (.int .i64)):EqF P (n+1) T i64 (λx y=>x == y):=by intro d w w' S γ x y f g a e;obtain⟨rfl,_⟩:=a;obtain⟨rfl,_⟩:=e;exact run_equalIn_int w' (d+n) T _ _ x y h
theorem Qe3{P n T}{α β:Type}{f:α->Ly}{e:α->α->Bool}(g:β->α)(h:EqF P n T f e):EqF P n T (λx=>f (g x)) (λx y=>e (g x) (g y)):=λd w w' S γ x y=>h d w w' S γ (g x) (g y)
def EqFs(P:Program)(n:Nat)(fs:List Field)(off:Nat){α:Type}(f:α->List Ly)(e:α->α->Bool):Prop:=
 ∀ d w w' S γ x y (xs a:Array Value) a1 u1 a2 u2,xs.toList=a1++u1->a1.length=off->Ly.holds w S γ (f x) u1->a.toList=a2++u2->a2.length=off->Ly.holds w S γ (f y) u2 ->
   (Op.eqFields (d+n) xs a fs).run P w'=.ok (e x y) w'
theorem Quh{P n off}{α:Type}:EqFs P n [] off (λ_:α=>[]) (λ_ _=>true):=by intro d w w' S γ x y xs f a1 a a2 e _ _ _ _ _ _;simp[Op.eqFields]
theorem Qcr{P n off k ag}{α:Type}{F:Field}{fs:List Field}{g:α->Ly}{f:α->List Ly}{e1 e2:α->α->Bool}(hname:(F.name == "_")=false)(hoff:F.offset=off)(hT:Shp P F.type ag k)(hn:∀ x,(g x).isN=ag)(hz:∀ x,(g x).sz=k)
 (h1:EqF P n F.type g e1) (h2:EqFs P n fs (off+k) f e2):EqFs P n (F::fs) off (λx=>g x::f x) (λx y=>e1 x y && e2 x y):=by
 intro d w w' S γ x y xs ys a1 u1 a2 u2 hx hxl hxh hy hyl hyh;obtain⟨c1,c2,rfl,p1,p2⟩:=hxh;obtain⟨d1,d2,rfl,q1,q2⟩:=hyh;have hne:F.name≠ "_":=by simpa using hname
 obtain⟨v,r1,r2⟩:=Qnn (w:=w) (w':=w') (S:=S) (γ:=γ) (off:=off) hT (hn x) (hz x) (cs:=xs) (b:=c2) (by rw[hx,xe]) hxl p1;obtain⟨v',s1,s2⟩:=Qnn (w:=w) (w':=w') (S:=S) (γ:=γ) (off:=off) hT (hn y) (hz y) (cs:=ys) (b:=d2) (by rw[hy,xe]) hyl q1;have he:=h1 d w w' S γ x y v v' r2 s2;have hrest:=h2 d w w' S γ x y xs ys (a1++c1) c2 (a2++d1) d2 (by rw[hx,xe]) (by rw[yn,hxl,Ly.hold_sz _ _ p1,hz]) p2 (by rw[hy,xe]) (by rw[yn,hyl,Ly.hold_sz _ _ q1,hz]) q2;simp only[Op.eqFields,hoff];rw[oo hne];simp only[Sem.run_bind,r1,s1,Result.andThen_ok,he];cases h:e1 x y;simp;simp[hrest]
theorem Qqa{P n T}{α:Type}{fs:Array Field}{f:α->List Ly}{e:α->α->Bool}(i:P.underlying T=some (.struct fs))(r:P.stoodInHeld T=false)(h:EqFs P n fs.toList 0 f e):EqF P (n+1) T (λx=>.agg (f x)) e:=by
 intro d w w' S γ x y s t k p;obtain⟨cs,rfl,q⟩:=k;obtain⟨g,rfl,a⟩:=p;have j:P.fieldsOf T=fs:=by simp[Program.fieldsOf,i]
 rw[show d+(n+1)=(d+n)+1 by omega,run_equalIn_struct w' (d+n) T cs g (by rw[j];exact i) r,j];exact h d w w' S γ x y cs g [] _ [] _ rfl rfl q rfl rfl a
section ops
variable {X:Cx}{st:Nat->Option Ly}{mm:Nat->Option Ct}
theorem Qww{d o x y T r ty pos af n}{α:Type}{f:α->List Ly}{e:α->α->Bool}{p q:α}{b:Bool}(s:EqF X.P n T (λx=>.agg (f x)) e)(v:Nat.ble n 10000=true)(t:X.P.eqGuardType X.P.depth T=false)
 (a:∀ cs g w,(Op.equal T (.agg cs) (.agg g)).run X.P w=.ok (e p q) w->(binOp o T (.agg cs) (.agg g)).run X.P w=.ok (.bool b) w)
 (hd:Nat.blt d X.N=true) (A:OpdF st x (.agg (f p))) (B:OpdF st y (.agg (f q))) :
 OpOk X st mm ⟨some d,.binOp o T x y r,ty,pos,af,none⟩ [(d,bl b)] []:=
 Qed hd A B λw S γ C E i j=>by have u:=yu v;have k:=λw':World=>s (10000 - n) w w' S γ p q C E i j;rw[show 10000 - n+n=10000 by omega] at k;simp only[Ly.val] at i j;obtain⟨cs,rfl,_⟩:=i;obtain⟨g,rfl,_⟩:=j;refine⟨.bool b,λw'=>?_,λw'=>a cs g w' (k w'),by simp[bl,Ly.val,cpB]⟩;cases o<;>simp[eqGuard,t]
theorem eqA{d x y T a ty pos af n}{α:Type}{f:α->List Ly}{e:α->α->Bool}{p q:α}(g:EqF X.P n T (λx=>.agg (f x)) e)(j:Nat.ble n 10000=true)(i:X.P.eqGuardType X.P.depth T=false)
 (hd:Nat.blt d X.N=true) (k:OpdF st x (.agg (f p))) (r:OpdF st y (.agg (f q))) :
 OpOk X st mm ⟨some d,.binOp .eql T x y a,ty,pos,af,none⟩ [(d,bl (e p q))] []:=
 Qww g j i (λcs s w h=>by simp[binOp,h]) hd k r
theorem neA{d x y T a ty pos af n}{α:Type}{f:α->List Ly}{e:α->α->Bool}{p q:α}(g:EqF X.P n T (λx=>.agg (f x)) e)(j:Nat.ble n 10000=true)(i:X.P.eqGuardType X.P.depth T=false)
 (hd:Nat.blt d X.N=true) (k:OpdF st x (.agg (f p))) (r:OpdF st y (.agg (f q))) :
 OpOk X st mm ⟨some d,.binOp .neq T x y a,ty,pos,af,none⟩ [(d,bl (!(e p q)))] []:=
 Qww g j i (λcs s w h=>by simp[binOp,h]) hd k r
end ops
theorem goA{α:Type}{f:α->Ly}{k:Nat}(j:∀ x,(f x).sz=k){xs:List α}{i:Nat}{y:α}(h:xs[i]?=some y):Ly.go [i] (.agg (xs.map f))=some (f y,i*k):=by
 have e:(xs.map f)[i]?=some (f y):=by simp[h]
 have hi:i<xs.length:=by rcases xd i xs.length with a | a;exact a;simp[ou a] at h
 have g:Ly.szs ((xs.map f).take i)=i*k:=Ql9 (λly d=>by obtain⟨x,_,rfl⟩:=xy.1 d;exact j x) oh;simp[Ly.go,e,g]
theorem puA{α:Type}{f:α->Ly}{xs:List α}{i:Nat}{y a:α}(h:xs[i]?=some y):Ly.pu (f a) [i] (.agg (xs.map f))=.agg ((xs.set i a).map f):=by
 have d:(xs.map f)[i]?=some (f y):=by simp[h]
 simp[Ly.pu,d,List.map_set]
section ops
variable {X:Cx}{st:Nat->Option Ly}{mm:Nat->Option Ct}
theorem ixAO{A:IntKind}{d x i T ty pos af n E k b z id off j}{p:Int}(u:X.P.underlying T=some (.array n E))(t:TyI X.P E k b z)(e:(decide (0<=p) && decide (p<(n:Int)))=true)(v:OwnP mm j id off)
 (hd:Nat.blt d X.N=true) (y:OpdF st x j) (hi:OpdF st i (.cell (cpI A p))) :
 OpOk X st mm ⟨some d,.indexAddr T x i,ty,pos,af,none⟩ [(d,.ptr id (off+p.toNat*k))] []:=
 Kl hd λa w γ f=>by simp only[ye,ur] at e;obtain⟨v0,g,q,r,s⟩:=Qnk f v y;obtain⟨g1,_⟩:=hi.val f;refine⟨.pointer (some ⟨g,off+p.toNat*k,none⟩),?_,v0,g,q,r,rfl⟩;simp only[execOp,s,g1];simp[Instr.indexAt,asIntOf,underlying,u,e.1,e.2,K1 t,add0,Instr.sureAddr]
def APart(st:Nat->Option Ly)(k:Nat):List (Nat×Operand)->Ly->Ly->Prop
 | [],z,r=>z=r
 | (i,x)::d,z,r=>∃ ly a off,OpdF st x ly/\ly.lies=true/\Ly.go [i] z=some (a,off)/\off=i*k/\a.sz=k/\ly.sz=k/\APart st k d (Ly.pu ly [i] z) r
theorem Qwx{st k}:∀ {a:List (Nat×Operand)}{z r:Ly}(pl:List (Nat×Nat)),(∀ i x,(i,x)∈a->pl[i]?=some (i*k,k))->APart st k a z r->BPart st pl a z r
 | [],z,r,pl,_,h=>h
 | (i,x)::a,z,r,pl,e,h=>by obtain⟨ly,u,off,f,g,n,p,d,q,s⟩:=h;subst p;exact⟨ly,u,_,f,g,n,by rw[d];exact e i x yp,by rw[d];exact q,Qwx pl (λj y t=>e j y (yj _ t)) s⟩
theorem Qqb{g d:Nat->Option (Nat×Nat)}:∀(a:List (Nat×Value)) (cells:Array Value),(∀ i x,(i,x)∈a->g i=d i)->Instr.fill g cells a=Instr.fill d cells a
 | [],_,_=>rfl
 | (i,x)::a,cells,h=>by simp only[Instr.fill,h i x yp];split;rfl;split;rfl;exact Qqb a _ (λj y e=>h j y (yj _ e))
theorem bldA{d T n E parts ty pos af kT bT zT k b z s l}(B:X.P.underlying T=some (.array n E))(g:TyI X.P T kT bT zT)(v:TyI X.P E k b z)(F:Zr s zT.cells.toList)(r:(parts.all λp=>Nat.blt p.1 n)=true)(C:APart st k parts s (.agg l))(hd:Nat.blt d X.N=true):
 OpOk X st mm ⟨some d,.build T ⟨parts⟩,ty,pos,af,none⟩ [(d,.agg l)] []:=
 Kl hd λa w γ A=>by
  have f:∀ i x,(i,x)∈parts->((List.range n).map (λi=>(i*k,k)))[i]?=some (i*k,k):=by intro i x e;have:=List.all_eq_true.1 r _ e;simp at this;simp[this]
  obtain⟨cells',g1,u⟩:=Qhg A parts s (.agg l) zT.cells (Qwx _ f C) (F _ _ _);refine⟨.agg cells',?_,⟨_,rfl,by simpa [Ly.hold] using u⟩⟩;have hfill:Instr.fill (λi=>some (i*k,k)) zT.cells (parts.map λ(i,x)=>(i,a.eval x))=some cells':=by rw[<-g1];refine Qqb _ _ λi x e=>?_;obtain⟨⟨j,y⟩,q,t⟩:=xy.1 e;simp at t;rw[<-t.1];exact(f j y q).symm
  simp only[execOp,Instr.build];simp only[Sem.run_bind,Yn g,Result.andThen_ok,underlying,run_program,B,Sem.run_pure,K1 v];simp only[List.map_toArray,hfill];rfl
end ops
section ops
variable {X:Cx}{st:Nat->Option Ly}{mm:Nat->Option Ct}
theorem slA{d x T ty pos af n E k b z id Z}{α:Type}{f:α->Ly}{xs:List α}(V:X.P.underlying T=some (.array n E))(U:TyI X.P E k b z)(N:mm id=some (.bx Z (.agg (xs.map f))))(hn:xs.length=n)(L:Nat.ble n 1000000=true)
 (J:∀ x,IF (f x)) (hz:∀ x,(f x).sz=k) (hd:Nat.blt d X.N=true) (hx:OpdF st x (.own id)) :
 OpOk X st mm ⟨some d,.slice T x none none none,ty,pos,af,none⟩ [(d,sli k (xs.map f))] [(id,.gone)]:=by
 intro a w γ K Q s hK;have Y:=yu L;obtain⟨g,cur,F,h2,h3⟩:=bxI s N;obtain⟨B,_⟩:=hx.val s;rw[F] at B;have B:a.eval x=.pointer (some ⟨g,0,none⟩):=by simpa using B.symm
 have I:=s.drop id;have hmine:=s.mine g ⟨id,_,_,N,rfl,F,rfl⟩;have hS:∀ b,X.S γ (up mm [(id,.gone)]) b->X.S γ mm b:=by rintro b (h | ⟨i,C,u,r,A,O,S⟩);exact .inl h;rw[Jz] at r;by_cases e:id=i;simp[e] at r;subst r;simp[Ct.alive] at A;simp[e] at r;exact .inr ⟨i,C,u,r,A,O,S⟩
 have y:(execOp a.eval ⟨some d,.slice T x none none none,ty,pos,af,none⟩).run X.P w=.ok (.value (.slice (some ⟨g,0,none⟩) n n)) w:=by have t:=Yd (P:=X.P) (w:=w) (isS:=false) (len:=n) (cap:=n) (lo:=none) (hi:=none) (p:=0) (q:=n) (.inl ⟨rfl,rfl⟩) (.inl ⟨rfl,rfl⟩) om om om;simp only[execOp,B];by_cases v:n=0;subst v;simp at t;simp[Instr.sliceAt,underlying,V,t,K1 U,Instr.sureAddr];simp[Instr.sliceAt,underlying,V,t,K1 U,Instr.sureAddr,v,add0]
 have hp:(cpL k (xs.map f)).p w (X.S γ (up mm [(id,.gone)])) (.slice (some ⟨g,0,none⟩) n n):=by
  have W:(xs.map f).length=n:=by simp[hn]
  refine .inr (.inl ⟨g,0,n,cur.toList,by rw[W],by rw[W];exact xn _,by unfold maxLen;omega,hmine.2.1,?_,λj u hj=>?_,?_,λly M=>?_⟩);rintro(h | ⟨i,C,u,r,A,O,S⟩);exact hmine.2.2 h;rw[Jz] at r;by_cases e:id=i;simp[e] at r;subst r;simp[Ct.alive] at A;simp[e] at r;exact e (s.apart id i _ C _ u g N rfl r A F O rfl S);rw[Kh h2,<-xi,xr];exact hj;have H:Ly.holds w (X.S γ mm) γ (xs.map f) cur.toList:=by simpa [Ly.hold] using h3
  exact Ly.holds_mono (Kp.refl _ _) (λb t=>.inl (hS b t)) (Ng.refl _) _ _ ((Jb J xs w _ γ (λ_=>none)).1 _ H);obtain⟨x,_,rfl⟩:=xy.1 M;exact hz x
 unfold Oper.wp;rw[y];exact hK _ _ _ (I.put (d:=d) (ly:=sli k (xs.map f)) (by simpa using hd) hp)
end ops
def bS(xs:List Nat):List UInt8:=xs.map UInt8.ofNat
theorem Qui{w S γ}:∀ {xs:List Nat}{cs:List Value},Ly.holds w S γ (xs.map u8) cs->cs=(xs.map (λx:Nat=>(x:Int))).map (Value.int .u8)
 | [],cs,h=>by simp only[List.map_nil,Ly.holds] at h;simp[h]
 | x::xs,cs,h=>by obtain⟨c1,e,rfl,a,d⟩:=h;obtain⟨v,rfl,rfl,_⟩:=a;rw[Qui d];simp
section ops
variable {X:Cx}{st:Nat->Option Ly}{mm:Nat->Option Ct}
theorem cvBS{d x S T E ty pos af}{xs:List Nat}(n:X.P.underlying S=some (.slice E))(k:X.P.underlying E=some (.int .u8))(p:X.P.underlying T=some .string)(hd:Nat.blt d X.N=true)(F:OpdF st x (sli 1 (xs.map u8))):
 OpOk X st mm ⟨some d,.convert S T x,ty,pos,af,none⟩ [(d,str (bS xs))] []:=
 Kl hd λa w γ A=>by
  rcases F.val A with ⟨e,r⟩ | ⟨i,o,cap,cs,e,t,H,I,J,v,y,K⟩ | ⟨r,s,e⟩
  rotate_left 2
  . have:xs=[]:=by simpa using r
    subst this;refine⟨.string ByteArray.empty,?_,rfl,by simp[bS]⟩;have q:(loadCells s 0).run X.P w=.ok #[] w:=by simp[loadCells,loadCellsFrom]
    simp only[execOp,e];rw[Sem.run_bind,run_convert_bytes_string w S T E _ _ _ n k p,run_bytesToString w _ _ 0 [] (by simpa using q)];simp
  . have:xs=[]:=by simpa using r
    subst this;refine⟨.string ByteArray.empty,?_,rfl,by simp[bS]⟩;simp only[execOp,e,run_convert_bytes_nil (P:=X.P) w S E n k 0 0 T p,Sem.run_bind,Result.andThen_ok,Sem.run_pure]
  . rw[ov] at e t
    have f:=Qui y;have q:(loadCells ⟨i,o,none⟩ xs.length).run X.P w=.ok ((xs.map (λx:Nat=>(x:Int))).map (Value.int .u8)).toArray w:=by
     have:=Qax (P:=X.P) (b:=i) (o:=o) (w:=w) cs 0 #[] (λj u B=>by simpa using v j u B);have g:cs.length=xs.length:=by rw[f];simp
     rw[g] at this;rw[<-f]
     simpa [loadCells] using this
    have C:(convert S T (.slice (some ⟨i,o,none⟩) xs.length cap)).run X.P w=.ok (.string ⟨(bS xs).toArray⟩) w:=by rw[run_convert_bytes_string w S T E _ _ _ n k p,run_bytesToString w _ _ cap _ q,foldl_push_bytes];congr 2;apply ByteArray.ext;simp[bS,ByteArray.empty,ByteArray.emptyWithCapacity,Function.comp_def];rfl
    refine⟨.string ⟨(bS xs).toArray⟩,?_,rfl,by simp[bS];omega⟩;simp only[execOp,e];simp[C]
end ops
def sIt(s:List UInt8)(p:Nat):Obj:=.stringIter ⟨s.toArray⟩ p
def decR(s:List UInt8)(p:Nat):Nat:=(Utf8.decode ⟨s.toArray⟩ p).1
def decW(s:List UInt8)(p:Nat):Nat:=(Utf8.decode ⟨s.toArray⟩ p).2
theorem Q04(s:List UInt8)(p:Nat):decR s p<=1114111:=by unfold decR Utf8.decode;simp only[];split;rename_i h;simp at h |-;omega;split;split;rename_i h a;simp at h |-;omega;simp[Utf8.runeError];split;split;rename_i h;simp[Utf8.valid] at h |-;omega;simp[Utf8.runeError];split;split;rename_i h;simp[Utf8.valid] at h |-;omega;simp[Utf8.runeError];simp[Utf8.runeError]
section ops
variable {X:Cx}{st:Nat->Option Ly}{mm:Nat->Option Ct}
theorem rngS{d T x ty pos af s y}(g:X.P.underlying T=some .string)(j:OpdF st x (str s))(k:mm y=none)(hd:Nat.blt d X.N=true):
 OpOk X st mm ⟨some d,.range T x,ty,pos,af,none⟩ [(d,.own y)] [(y,.ob (sIt s 0))]:=
 Qhp hd k rfl λa w γ hi=>by
  obtain⟨i,_⟩:=j.val hi
  refine⟨.pointer (some ⟨w.heap.size,0,none⟩),w.alloc (sIt s 0),?_,rfl,rfl,rfl,Qam _ _ _,rfl,
   λS γ' n p e=>⟨w.heap.size,e,Qcp _ _⟩,λb f=>by simp[blkOf] at f;subst f;simp⟩
  simp only[execOp,i];simp[run_range_string w T _ g,World.iter,sIt]
theorem obI{id o}{a w γ}(d:Inv X st mm a w γ)(e:mm id=some (.ob o)):∃ g,γ id=some (.pointer (some ⟨g,0,none⟩))/\w.heap[g]?=some o:=d.cts id _ e
theorem nxtF{d x ty pos af id s p}(h:decide (p<s.length)=false)(n:mm id=some (.ob (sIt s p)))(hd:Nat.blt d X.N=true)(q:OpdF st x (.own id)):
 OpOk X st mm ⟨some d,.next x true,ty,pos,af,none⟩ [(d,.tup [bl false])] []:=by
 refine Kl hd λa w γ i=>?_;obtain⟨g,k,f⟩:=obI i n;obtain⟨e,_⟩:=q.val i;rw[k] at e;have e:a.eval x=.pointer (some ⟨g,0,none⟩):=by simpa using e.symm
 have j:¬ p<(ByteArray.mk s.toArray).size:=by simpa [ByteArray.size] using h
 refine⟨.tuple #[.bool false],?_,#[.bool false],rfl,_,[],rfl,rfl,rfl⟩;simp only[execOp,e];simp only[sIt] at f;simp[Instr.next,getObj,Sem.run,f,j]
theorem nxtT{d x ty pos af id s p}(h:decide (p<s.length)=true)(t:Nat.ble s.length 1000000=true)(v:mm id=some (.ob (sIt s p)))(hd:Nat.blt d X.N=true)(F:OpdF st x (.own id)):
 OpOk X st mm ⟨some d,.next x true,ty,pos,af,none⟩ [(d,.tup [bl true,i64 (p:Int),i32 (decR s p:Nat)])] [(id,.ob (sIt s (p+decW s p)))]:=by
 intro a w γ K Q n A;have u:=yu t;obtain⟨g,j,k⟩:=obI n v;obtain⟨i,_⟩:=F.val n;rw[j] at i;have i:a.eval x=.pointer (some ⟨g,0,none⟩):=by simpa using i.symm
 have E:p<s.length:=wm h;have y:p<(ByteArray.mk s.toArray).size:=by simpa [ByteArray.size] using E
 have B:g<w.heap.size:=by
  rcases xd g w.heap.size with h | h
  . exact h
  . simp[ya h] at k
 let w':World:={ w with heap:=w.heap.setIfInBounds g (sIt s (p+decW s p)) }
 have f:(execOp a.eval ⟨some d,.next x true,ty,pos,af,none⟩).run X.P w=.ok (.value (.tuple #[.bool true,.int .i64 p,.int .i32 (decR s p:Nat)])) w':=by simp only[execOp,i];simp only[sIt] at k;simp[Instr.next,getObj,setObj,Sem.run,k,y,goInt,w',decR,decW,sIt]
 have r:Kp (λb=>b=g) w w':=⟨by simp[w'],λb H C=>by simp[w',uh (Ne.symm C)]⟩
 have e:w'.heap[g]?=some (sIt s (p+decW s p)):=by simp[w',B]
 have q:=n.setc (w':=w') (ct:=.ob (sIt s (p+decW s p))) rfl rfl rfl v rfl j rfl r rfl ⟨g,j,e⟩;unfold Oper.wp;rw[f];have I:=Q04 s p;refine A _ _ _ (q.put (d:=d) (ly:=.tup [bl true,i64 (p:Int),i32 (decR s p:Nat)]) (by simpa using hd) ⟨#[.bool true,.int .i64 p,.int .i32 (decR s p:Nat)],rfl,_,_,rfl,rfl,_,_,rfl,⟨rfl,?_,?_⟩,_,_,rfl,⟨rfl,?_,?_⟩,rfl⟩)
 all_goals simp[IntKind.min,IntKind.max,IntKind.bits,IntKind.signed]<;>omega
theorem goA0{α:Type}{f:α->Ly}{k:Nat}(a:∀ x,(f x).sz=k){xs:List α}{i:Int}{y:α}(h:getI xs i=some y):Ly.go [i.toNat] (.agg (xs.map f))=some (f y,0+i.toNat*k):=by rw[xr];exact goA a (Qco h).2
theorem puA0{α:Type}{f:α->Ly}{xs:List α}{i:Int}{y a:α}{ly:Ly}(h:getI xs i=some y)(d:.agg ((xs.set i.toNat a).map f)=ly):Ly.pu (f a) [i.toNat] (.agg (xs.map f))=ly:=by rw[<-d];exact puA (Qco h).2
theorem Quj{α:Type}{xs:List α}{i:Int}{y:α}{n:Nat}(d:xs.length=n)(h:getI xs i=some y):(decide (0<=i) && decide (i<(n:Int)))=true:=by
 obtain⟨h0,a⟩:=Qco h;have:i.toNat<xs.length:=by rcases xd i.toNat xs.length with h | h;exact h;simp[ou h] at a
 simp;omega
theorem ixV{M:IntKind}{d T x i ty pos af n E q k}{p:Int}{α:Type}{f:α->Ly}{xs:List α}{y:α}(C:X.P.underlying T=some (.array n E))(s:Shp X.P E q k)(J:Nat.beq xs.length n=true)(e:getI xs p=some y)
 (t:∀ x,(f x).sz=k) (F:∀ x,(f x).isN=q) (hd:Nat.blt d X.N=true) (L:OpdF st x (.agg (xs.map f))) (hi:OpdF st i (.cell (cpI M p))) :
 OpOk X st mm ⟨some d,.index T x i,ty,pos,af,none⟩ [(d,f y)] []:=
 Kl hd λa w γ r=>by have j:xs.length=n:=ot J;have g:=Quj j e;simp only[ye,ur] at g;obtain⟨h0,e⟩:=Qco e;obtain⟨g1,_⟩:=hi.val r;obtain⟨cs,K,I⟩:=L.val r;obtain⟨a1,u,U,H,A,B,_⟩:=Qe8 (w:=w) (S:=X.S γ mm) (γ:=γ) [p.toNat] (goA t e) (cs:=cs.toList) (by simpa [Ly.hold] using I);obtain⟨v,N,O⟩:=Qnn (P:=X.P) (w':=w) s (F y) (t y) H A B;refine⟨v,?_,O⟩;simp only[execOp,K,g1];simp[Instr.index,asIntOf,underlying,C,g.1,g.2,Qib s,N]
end ops
def Pl(ly:Ly):Prop:=∀ w S S' γ,(∀ cs,ly.hold w S γ cs->ly.hold w S' γ cs)/\(∀ v,ly.val w S γ v->ly.val w S' γ v)
def Pls(l:List Ly):Prop:=∀ w S S' γ,(∀ cs,Ly.holds w S γ l cs->Ly.holds w S' γ l cs)/\(∀ v,Ly.vals w S γ l v->Ly.vals w S' γ l v)
theorem Qos(p:CP)(h:∀ w S S' v,p.p w S v->p.p w S' v):Pl (.cell p):=λw S S' γ=>⟨λcs ⟨v,a,h2⟩=>⟨v,a,h _ _ _ _ h2⟩,λv a=>by simp only[Ly.val] at a |-;exact h _ _ _ _ a⟩
theorem Quk{x}:Pl (i64 x):=Qos _ λ_ _ _ _ h=>h
theorem Z9{x}:Pl (u32 x):=Qos _ λ_ _ _ _ h=>h
theorem pl_bl{x}:Pl (bl x):=Qos _ λ_ _ _ _ h=>h
theorem Q2j{x}:Pl (str x):=Qos _ λ_ _ _ _ h=>h
theorem Qaz{x}:Pl (.own x):=λ_ _ _ _=>⟨λ_ h=>h,λv h=>by simp only[Ly.val] at h |-;exact h⟩
theorem Qwy:Pls []:=λ_ _ _ _=>⟨λ_ h=>h,λv h=>by simpa [Ly.vals] using h⟩
theorem Qz5{ly l}(d:Pl ly)(e:Pls l):Pls (ly::l):=λw S S' γ=>
 ⟨λcs h=>by obtain⟨c1,f,rfl,g1,a⟩:=h;exact⟨c1,f,rfl,(d w S S' γ).1 _ g1,(e w S S' γ).1 _ a⟩,
  λv h=>by
   simp only[Ly.vals] at h |-
   obtain⟨u,r,rfl,g1,a⟩:=h;exact⟨u,r,rfl,(d w S S' γ).2 _ g1,(e w S S' γ).2 _ a⟩⟩
theorem Yq{α:Type}{f:α->Ly}(h:∀ x,Pl (f x)):∀ xs:List α,Pls (xs.map f)
 | []=>Qwy
 | x::xs=>Qz5 (h x) (Yq h xs)
theorem Q2k{l}(h:Pls l):Pl (.tup l):=λw S S' γ=>
 ⟨λcs g=>by simp[Ly.hold] at g,
  λv g=>by simp only[Ly.val] at g |-;obtain⟨cs,rfl,g⟩:=g;exact⟨cs,rfl,(h w S S' γ).2 _ g⟩⟩
def PlC:Ct->Prop
 | .sl _ _ ls=>Pls ls
 | .bx _ ly=>Pl ly
 | .mp _ ls=>Pls ls
 | _=>True
def PlM:List (Nat×Ct)->Prop
 | []=>True
 | (_,c)::r=>PlC c/\PlM r
theorem PlM.get:∀ {m:List (Nat×Ct)},PlM m->∀ {x c},lk m x=some c->PlC c
 | [],_,_,_,h=>by cases h
 | (i,c0)::r,d,x,c,h=>by simp only[lk] at h;cases a:Nat.beq i x;rw[a] at h;exact PlM.get d.2 h;rw[a] at h;simp at h;subst h;exact d.1
theorem Vh.pl{w S S' γ id c}(h:Vh w S γ id c)(j:PlC c):Vh w S' γ id c:=by
 cases c with
 | gone=>trivial
 | sl E k ls=>obtain⟨v,cs,a,d,e,i⟩:=h;exact⟨v,cs,a,d,(j _ _ _ _).1 _ e,i⟩
 | bx E ly=>obtain⟨g,cur,a,d,e⟩:=h;exact⟨g,cur,a,d,(j _ _ _ _).1 _ e⟩
 | ob o=>exact h
 | mp ks ls=>obtain⟨g,es,f,a,d,e,i,n⟩:=h;exact⟨g,es,f,a,d,e,(j _ _ _ _).2 _ i,n⟩
def lentB(lt:List Nat)(id:Nat):Bool:=lt.any (Nat.beq id)
def LArg(st:Nat->Option Ly)(mm:Nat->Option Ct)(lt:List Nat)(x:Operand)(a:Ly):Prop:=
 ∃ id,lentB lt id=true/\((OpdF st x (.own id)/\((∃ E k ls,mm id=some (.sl E k ls)/\IFs ls/\a=sli k ls)\/(∃ E ly,mm id=some (.bx E ly)/\IF ly/\a=.ref ly))) \/
   ∃ off len E ls,OpdF st x (.win id off len)/\mm id=some (.sl E 1 ls)/\IFs ls/\off+len<=ls.length/\a=sli 1 ((ls.drop off).take len))
def ArgL(st:Nat->Option Ly)(mm:Nat->Option Ct)(ρ:List (Nat×Nat))(lt:List Nat):List Operand->List Ly->Prop
 | [],[]=>True
 | x::xs,a::d=>((∃ ly,OpdF st x ly/\Rn ρ ly a)\/LArg st mm lt x a)/\ArgL st mm ρ lt xs d
 | _,_=>False
section
variable {X:Cx}{st:Nat->Option Ly}{mm:Nat->Option Ct}
theorem Qz6{a w γ γc S lt x t}(hi:Inv X st mm a w γ)(J:∀ b,S b->X.S γ mm b)
 (I:∀ id c v b,lentB lt id=true->mm id=some c->c.alive=true->γ id=some v->blkOf v=some b->¬ S b) (h:LArg st mm lt x t):t.val w S γc (a.eval x):=by
 obtain⟨id,h0,h⟩:=h;rcases h with ⟨M,h⟩ | ⟨off,len,E,ls,M,i,f,hle,rfl⟩
 rotate_left
 . obtain⟨v,cs,e,⟨y,n⟩,A,r⟩:=slI hi i
   obtain⟨v0,O,V⟩:=M.val hi;rw[e] at O;cases O;have K:Ly.holds w S (λ_=>none) ls cs:=Ly.holds_mono (Kp.refl _ _) (λb s=>.inl (J b s)) (Ng.refl _) _ _ ((f w _ γ (λ_=>none)).1 _ A);obtain⟨_,s2⟩:=Z8 off K r;obtain⟨s3,_⟩:=Z8 len s2 (λly L=>r ly (vg L));rcases V with ⟨f3,P,B⟩ | ⟨g,cap,o,f3,P,Y,B,W⟩
   . rw[f3]
     subst B;exact .inl ⟨rfl,oc⟩
   . rcases n with ⟨n,_⟩ | ⟨C,N,cur,n,_,F,T,U,Z,H⟩
     . rw[n] at f3;simp[blkOf] at f3
     . subst n
       simp[blkOf] at f3;subst f3;have hmine:=hi.mine C ⟨id,_,_,i,rfl,e,rfl⟩;have p:((ls.drop off).take len).length=len:=oh
       rw[P];refine .inr (.inl ⟨C,o,cap,(cs.drop (off*1)).take (len*1),?_,?_,W,hmine.2.1,I id _ _ C h0 i rfl e rfl,λj u d=>?_,s3,λly L=>r ly (vg (vf L))⟩)
       . rw[p]
       . rw[p];exact B
       . rw[Kh F,<-xi]
         rw[yq] at d;split at d
         . rw[Y om]
           rw[List.getElem?_drop,<-H,yq] at d;split at d
           . rw[wk] at d;exact d
           . cases d
         . cases d
 obtain⟨q,_⟩:=M.val hi;rcases h with ⟨E,k,ls,i,f,rfl⟩ | ⟨E,ly,i,f,rfl⟩
 . obtain⟨v,cs,e,⟨y,n⟩,A,r⟩:=slI hi i
   rw[q] at e;simp at e;rw[e];rw[e] at q;rcases n with ⟨rfl,hn⟩ | ⟨g,cap,cur,rfl,_,F,T,U,Z,H⟩
   . exact .inl ⟨rfl,xc hn⟩
   . have hmine:=hi.mine g ⟨id,_,_,i,rfl,q,rfl⟩
     refine .inr (.inl ⟨g,0,cap,cs,rfl,T,U,hmine.2.1,I id _ _ g h0 i rfl q rfl,λj u d=>?_,?_,r⟩)
     . rw[Kh F,<-xi,xr]
       rw[<-H,yq] at d;split at d
       . exact d
       . cases d
     . exact Ly.holds_mono (Kp.refl _ _) (λb s=>.inl (J b s)) (Ng.refl _) _ _ ((f w _ γ (λ_=>none)).1 _ A)
 . obtain⟨g,cur,e,y,n⟩:=bxI hi i
   rw[q] at e;simp at e;rw[e];rw[e] at q;have hmine:=hi.mine g ⟨id,_,_,i,rfl,q,rfl⟩;refine⟨g,0,cur.toList,rfl,hmine.2.1,I id _ _ g h0 i rfl q rfl,λj u d=>?_,?_⟩
   . rw[Kh y,<-xi,xr];exact d
   . exact Ly.hold_mono (Kp.refl _ _) (λb s=>.inl (J b s)) (Ng.refl _) _ _ ((f w _ γ γc).1 _ n)
theorem Qs1{a w γ γc ρ S lt}(hi:Inv X st mm a w γ)(i:∀ y x,lk ρ y=some x->γc y=γ x)(f:∀ b,S b->X.S γ mm b)
 (g:∀ id c v b,lentB lt id=true->mm id=some c->c.alive=true->γ id=some v->blkOf v=some b->¬ S b) :
 ∀ {xs:List Operand}{d:List Ly},ArgL st mm ρ lt xs d->Ly.vals w S γc d (xs.map a.eval)
 | [],[],_=>by simp[Ly.vals]
 | x::xs,ly::d,h=>by obtain⟨e,k⟩:=h;simp only[xu,Ly.vals];refine⟨_,_,rfl,?_,Qs1 hi i f g k⟩;rcases e with ⟨p,e,j⟩ | e;exact Ly.val_mono (Kp.refl _ _) (λb n=>.inl (f b n)) (Ng.refl _) _ _ ((j w _ γ γc i).2 _ (e.val hi));exact Qz6 hi f g e
 | [],_::_,h=>h.elim
 | _::_,[],h=>h.elim
theorem callL{d f args argTypes ty pos af largs mi res mo res' em}(lt:List Nat)(ρ τ σ:List (Nat×Nat))(hlr:(lt.any λid=>ρ.any λe=>Nat.beq e.2 id)=false)(hf:FnOk X.P f largs mi res mo)(hpm:PlM mo)(hpr:Pl res')
 (ha:ArgL st mm ρ lt args largs) (hmi:∀ x c',lk mi x=some c'->∃ y c,lk ρ x=some y/\mm y=some c/\RnC ρ c c') (hρm:NmM mi ρ) (hρn:nodupB (ρ.map (·.2))=true)
 (hτ:Fresh mm τ) (hσ:SigT τ ρ σ) (hσn:nodupB (σ.map (·.2))=true) (hem:BackM σ ρ mo em) (hall:AllIn em (ρ.map (·.2))) (hall2:AllIn em (τ.map (·.1)))
 (hres:Rn σ res res') (hd:Nat.blt d X.N=true) :
 OpOk X st mm ⟨some d,.call { callee:=.value (.func f),args:=⟨args⟩,argTypes:=argTypes },ty,pos,af,none⟩ [(d,res')] em:=by
 obtain⟨⟨fn,hfn,hname,hbody⟩,hc⟩:=hf;intro a w γ K Q hi hK;let γc:Nm:=λx=>match lk ρ x with | some y=>γ y | none=>none
 have hgc:∀ x y,lk ρ x=some y->γc x=γ y:=λx y h=>by simp only[γc,h]
 let img:Nat->Prop:=λy=>∃ x,(x,y)∈ρ;let S0c:Nat->Prop:=λb=>X.S0 b\/∃ id c v,mm id=some c/\c.alive=true/\¬ img id/\lentB lt id=false/\γ id=some v/\blkOf v=some b;let LB:Nat->Prop:=λb=>∃ id c v,lentB lt id=true/\mm id=some c/\c.alive=true/\γ id=some v/\blkOf v=some b;have hli:∀ id,lentB lt id=true->¬ img id:=by
  rintro id h ⟨x,hx⟩;have:(lt.any λid=>ρ.any λe=>Nat.beq e.2 id)=true:=by obtain⟨z,hz,he⟩:=vr.1 h;have:id=z:=ot he;subst this;exact vr.2 ⟨id,hz,vr.2 ⟨(x,id),hx,oc⟩⟩
  rw[hlr] at this;cases this
 have hS0c:∀ b,S0c b->X.S γ mm b:=by rintro b (h | ⟨id,c,v,h1,h2,h3,h3',h4,h5⟩);exact .inl h;exact .inr ⟨id,c,v,h1,h2,h4,h5⟩
 have hOwc:∀ b,Ow γc (lk mi) b->∃ y c v,img y/\mm y=some c/\c.alive=true/\γ y=some v/\blkOf v=some b:=by rintro b ⟨x,c',v,h1,h2,h3,h4⟩;obtain⟨y,c,g1,g2,g3⟩:=hmi x c' h1;exact⟨y,c,v,⟨x,Xn g1⟩,g2,g3.alive.1,by rw[<-hgc x y g1];exact h3,h4⟩
 have hOwS:∀ b,Ow γc (lk mi) b->X.S γ mm b:=λb h=>by obtain⟨y,c,v,h1,h2,h3,h4,h5⟩:=hOwc b h;exact .inr ⟨y,c,v,h2,h3,h4,h5⟩
 have hSc:∀ b,Sx S0c γc mi b->X.S γ mm b:=λb h=>h.elim (hS0c b) (hOwS b);have hS0lt:∀ b,S0c b->b<w.heap.size:=by rintro b (h | ⟨id,c,v,h1,h2,h3,h3',h4,h5⟩);exact xx (hi.s0 b h) hi.grow;exact(hi.mine b ⟨id,c,v,h1,h2,h4,h5⟩).2.1
 have hdis:∀ b,Ow γc (lk mi) b->¬ S0c b:=by intro b h hs;obtain⟨y,c,v,h1,h2,h3,h4,h5⟩:=hOwc b h;rcases hs with hs | ⟨id,c2,v2,g1,g2,g3,g3',g4,g5⟩;exact(hi.mine b ⟨y,c,v,h2,h3,h4,h5⟩).2.2 hs;have:=hi.apart y id c c2 v v2 b h2 h3 g1 g2 h4 g4 h5 g5;subst this;exact g3 h1
 have hLn:∀ id c v b,lentB lt id=true->mm id=some c->c.alive=true->γ id=some v->blkOf v=some b->¬ Sx S0c γc mi b:=by rintro id c v b h1 h2 h3 h4 h5 (h | h);rcases h with h | ⟨id2,c2,v2,g1,g2,g3,g3',g4,g5⟩;exact(hi.mine b ⟨id,c,v,h2,h3,h4,h5⟩).2.2 h;have:=hi.apart id id2 c c2 v v2 b h2 h3 g1 g2 h4 g4 h5 g5;subst this;rw[h1] at g3';cases g3';obtain⟨y,c2,v2,g1,g2,g3,g4,g5⟩:=hOwc b h;have:=hi.apart id y c c2 v v2 b h2 h3 g2 g3 h4 g4 h5 g5;subst this;exact hli id h1 g1
 have hcall:=hc w S0c γc (args.map a.eval).toArray hS0lt
  (λx hx=>by
   cases h:lk ρ x with
   | none=>simp only[γc,h]
   | some y=>obtain⟨c,hc⟩:=hρm.get x y h;rw[hx] at hc;cases hc)
  (λx c' hx=>by
   obtain⟨y,c,g1,g2,g3⟩:=hmi x c' hx;have h0:=hi.cts y c g2;have h1:Vh w (Sx S0c γc mi) γ y c:=h0.mono (Kp.refl _ _) (λb hb=>.inl (hSc b hb)) (Ng.refl _) (λ_ _ _ _=>rfl)
   exact h1.rn hgc g1 g3)
  (λx x' c c' v v' b h1 h2 h3 h4 h5 h6 h7 h8=>by
   obtain⟨y,d,g1,g2,g3⟩:=hmi x c h1;obtain⟨y',d',g1',g2',g3'⟩:=hmi x' c' h3;rw[hgc x y g1] at h5;rw[hgc x' y' g1'] at h6;have:=hi.apart y y' d d' v v' b g2 g3.alive.1 g2' g3'.alive.1 h5 h6 h7 h8;subst this
   exact Qho hρn (Xn g1) (Xn g1') g1 g1')
  (λb hb=>by
   obtain⟨y,c,v,h1,h2,h3,h4,h5⟩:=hOwc b hb
   exact⟨(hi.mine b ⟨y,c,v,h2,h3,h4,h5⟩).2.1,hdis b hb⟩)
  (by simpa using Qs1 hi hgc hSc hLn ha) (hi.gw hSc)
 have hrun:(execOp a.eval ⟨some d,.call { callee:=.value (.func f),args:=⟨args⟩,argTypes:=argTypes },ty,pos,af,none⟩).run X.P w=.ok (.enter f (args.map a.eval).toArray) w:=by
  have e1:fn.body.isNone=false:=by cases h:fn.body<;>simp[h] at hbody |-
  have e2:¬ fn.name= "runtime.NumGoroutine":=by simpa using hname
  simp only[execOp,resolve,Act.eval];simp[Deferred.ofValue,invoke,callFunc,hfn,e2];intro e3;rw[e3] at e1;cases e1
 unfold Oper.wp;rw[hrun,Oper.upon_enter];refine hcall.mono ?_;rintro e w' ⟨v,γ',rfl,hb⟩;show K (a.put (some d) v) w';let γ'':Nm:=λy=>match lk τ y with | some x=>γ' x | none=>γ y
 have hnτ:∀ y c,mm y=some c->lk τ y=none:=λy c hy=>by
  cases h:lk τ y with
  | none=>rfl
  | some x=>rw[hτ.get y x h] at hy;cases hy
 have hng:Ng γ γ'':=by
  intro y u hu;cases h:lk τ y with
  | none=>simp only[γ'',h];exact hu
  | some x=>have:=hi.fresh y (hτ.get y x h);rw[this] at hu;cases hu
 have hg2:∀ y x,lk σ y=some x->γ'' y=γ' x:=by
  intro y x h;rcases hσ.get y x h with h1 | h1;simp only[γ'',h1];obtain⟨c',hc'⟩:=hρm.get x y h1;obtain⟨y2,c,g1,g2,g3⟩:=hmi x c' hc';rw[h1] at g1;simp at g1;subst g1;have hal:=g3.alive.1;have h0:=hi.cts y c g2;obtain⟨u,hu⟩:∃ u,γ y=some u:=by
   cases c with
   | gone=>simp[Ct.alive] at hal
   | sl E k ls=>obtain⟨u,_,hu,_⟩:=h0;exact⟨u,hu⟩
   | bx E ly=>obtain⟨g,_,hu,_⟩:=h0;exact⟨_,hu⟩
   | ob o=>obtain⟨g,hu,_⟩:=h0;exact⟨_,hu⟩
   | mp ks ls=>obtain⟨g,_,_,hu,_⟩:=h0;exact⟨_,hu⟩
  have e1:γ'' y=γ y:=by simp only[γ'',hnτ y c g2]
  rw[e1,hu];exact(hb.keep x u (by rw[hgc x y h1];exact hu)).symm
 let mm2:=up mm em;have hmm2:∀ y c,mm2 y=some c->lk em y=some c\/(lk em y=none/\mm y=some c):=by
  intro y c h;simp only[mm2,up] at h;cases he:lk em y with
  | none=>rw[he] at h;exact .inr ⟨rfl,h⟩
  | some c'=>rw[he] at h;exact .inl h
 have hnimg:∀ y,lk em y=none->¬ img y:=by rintro y h ⟨x,hx⟩;obtain⟨c,hc⟩:=hall.get y (xy.2 ⟨_,hx,rfl⟩);rw[h] at hc;cases hc
 have how:∀ b,Ow γ'' mm2 b->Ow γ' (lk mo) b\/S0c b\/LB b:=by
  rintro b ⟨y,c,u,h1,h2,h3,h4⟩;rcases hmm2 y c h1 with h | ⟨h,h'⟩;rcases hem.get y c h with ⟨x,c0,g1,g2,g3⟩ | ⟨rfl,_⟩;exact .inl ⟨x,c0,u,g2,g3.alive.1,by rw[<-hg2 y x g1];exact h3,h4⟩;simp[Ct.alive] at h2;have e1:γ'' y=γ y:=by simp only[γ'',hnτ y c h']
  rw[e1] at h3;cases hl:lentB lt y;exact .inr (.inl (.inr ⟨y,c,u,h',h2,hnimg y h,hl,h3,h4⟩));exact .inr (.inr ⟨y,c,u,hl,h',h2,h3,h4⟩)
 have hS2':∀ b,X.S γ'' mm2 b->X.S γ mm b\/w.heap.size<=b:=by rintro b (h | h);exact .inl (.inl h);rcases how b h with h | h | ⟨id,c,v,h0,h1,h2,h3,h4⟩;rcases(hb.mine b h).1 with h | h;exact .inr h;exact .inl (hOwS b h);exact .inl (hS0c b h);exact .inl (.inr ⟨id,c,v,h1,h2,h3,h4⟩)
 have hk:Kp (X.S γ mm) w w':=⟨hb.grow,λb hb' hn=>hb.old b hb' (λh=>hn (hOwS b h))⟩
 have hinv:Inv X st mm2 a w' γ'':={
  size:=hi.size,defs:=hi.defs,s0:=hi.s0,gx:=hi.gx,keep:=λid u hu=>hng id u (hi.keep id u hu)
  os:=hb.os.trans hi.os,tape:=hb.tape.trans hi.tape,output:=hb.output.trans hi.output,grow:=xm hi.grow hb.grow
  old:=by
   intro b hb' hM
   rw[hb.old b (xx hb' hi.grow) (λh=>by
    obtain⟨y,c,u,h1,h2,h3,h4,h5⟩:=hOwc b h;rcases(hi.mine b ⟨y,c,u,h2,h3,h4,h5⟩).1 with h | h;omega
    exact hM h)]
   exact hi.old b hb' hM
  fresh:=by
   intro y hy;have h1:lk em y=none:=by
    cases he:lk em y with
    | none=>rfl
    | some c=>simp only[mm2,up,he] at hy;cases hy
   have h2:mm y=none:=by simpa only[mm2,up,h1] using hy
   have h3:lk τ y=none:=by
    cases h:lk τ y with
    | none=>rfl
    | some x=>
      obtain⟨c,hc⟩:=hall2.get y (xy.2 ⟨_,Xn h,rfl⟩);rw[h1] at hc;cases hc
   simp only[γ'',h3];exact hi.fresh y h2
  cts:=by intro y c hy;rcases hmm2 y c hy with h | ⟨h,h'⟩;rcases hem.get y c h with ⟨x,c0,g1,g2,g3⟩ | ⟨rfl,_⟩;have h0:=hb.cts x c0 g2;have h1:Vh w' (X.S γ'' mm2) γ' x c0:=h0.pl (hpm.get g2);exact h1.rn hg2 g1 g3;trivial;by_cases hal:c.alive=true;refine(hi.cts y c h').mono hk hS2' hng ?_;intro u b hu hb';refine hb.old b (hi.mine b ⟨y,c,u,h',hal,hu,hb'⟩).2.1 (λho=>?_);obtain⟨y2,c2,u2,k1,k2,k3,k4,k5⟩:=hOwc b ho;have:=hi.apart y y2 c c2 u u2 b h' hal k2 k3 hu k4 hb' k5;subst this;exact hnimg y h k1;cases c<;>simp[Ct.alive] at hal;trivial
  apart:=by
   have cross:∀ y y' c c' u u' b,lk em y=some c->c.alive=true->lk em y'=none->mm y'=some c'->c'.alive=true->γ'' y=some u->γ'' y'=some u'->blkOf u=some b->blkOf u'=some b->False:=by
    intro y y' c c' u u' b h1 h2 h3 h4 h5 h6 h7 h8 h9;rcases hem.get y c h1 with ⟨x,c0,g1,g2,g3⟩ | ⟨rfl,_⟩;have e1:γ'' y'=γ y':=by simp only[γ'',hnτ y' c' h4]
    rw[e1] at h7;obtain⟨k1,_,k3⟩:=hb.mine b ⟨x,c0,u,g2,g3.alive.1,by rw[<-hg2 y x g1];exact h6,h8⟩;cases hl:lentB lt y';exact k3 (.inr ⟨y',c',u',h4,h5,hnimg y' h3,hl,h7,h9⟩);rcases k1 with k1 | k1;have:=(hi.mine b ⟨y',c',u',h4,h5,h7,h9⟩).2.1;omega;exact hLn y' c' u' b hl h4 h5 h7 h9 (.inr k1);simp[Ct.alive] at h2
   intro y y' c c' u u' b h1 h2 h3 h4 h5 h6 h7 h8;rcases hmm2 y c h1 with e1 | ⟨e1,e1'⟩<;>rcases hmm2 y' c' h3 with e2 | ⟨e2,e2'⟩;rcases hem.get y c e1 with ⟨x,c0,g1,g2,g3⟩ | ⟨rfl,_⟩;rcases hem.get y' c' e2 with ⟨x',c0',g1',g2',g3'⟩ | ⟨rfl,_⟩;rw[hg2 y x g1] at h5;rw[hg2 y' x' g1'] at h6;have:=hb.apart x x' c0 c0' u u' b g2 g3.alive.1 g2' g3'.alive.1 h5 h6 h7 h8;subst this;exact Qho hσn (Xn g1) (Xn g1') g1 g1';simp[Ct.alive] at h4;simp[Ct.alive] at h2;exact(cross y y' c c' u u' b e1 h2 e2 e2' h4 h5 h6 h7 h8).elim;exact(cross y' y c' c u' u b e2 h4 e1 e1' h2 h6 h5 h8 h7).elim;have k1:γ'' y=γ y:=by simp only[γ'',hnτ y c e1']
   have k2:γ'' y'=γ y':=by simp only[γ'',hnτ y' c' e2']
   rw[k1] at h5;rw[k2] at h6;exact hi.apart y y' c c' u u' b e1' h2 e2' h4 h5 h6 h7 h8
  mine:=by
   intro b h;rcases how b h with h | h | ⟨id,c2,u2,k0,k1,k2,k4,k5⟩;obtain⟨g1,g2,g3⟩:=hb.mine b h;refine⟨?_,g2,λh'=>g3 (.inl h')⟩;rcases g1 with g1 | g1;exact .inl (xm hi.grow g1);obtain⟨y,c,u,k1,k2,k3,k4,k5⟩:=hOwc b g1;exact(hi.mine b ⟨y,c,u,k2,k3,k4,k5⟩).1;obtain⟨y,c,u,h1,h2,h3,h4⟩:=‹Ow γ'' mm2 b›;rcases h with h | ⟨id,c2,u2,k1,k2,k3,k3',k4,k5⟩;rcases hmm2 y c h1 with e1 | ⟨e1,e1'⟩;rcases hem.get y c e1 with ⟨x,c0,g1,g2,g3⟩ | ⟨rfl,_⟩;exact((hb.mine b ⟨x,c0,u,g2,g3.alive.1,by rw[<-hg2 y x g1];exact h3,h4⟩).2.2 (.inl h)).elim;simp[Ct.alive] at h2;have k1:γ'' y=γ y:=by simp only[γ'',hnτ y c e1']
   rw[k1] at h3;obtain⟨g1,g2,g3⟩:=hi.mine b ⟨y,c,u,e1',h2,h3,h4⟩;exact(g3 h).elim;obtain⟨g1,g2,g3⟩:=hi.mine b ⟨id,c2,u2,k1,k2,k4,k5⟩;exact⟨g1,xx g2 hb.grow,g3⟩;obtain⟨g1,g2,g3⟩:=hi.mine b ⟨id,c2,u2,k1,k2,k4,k5⟩;exact⟨g1,xx g2 hb.grow,g3⟩
  sts:=by
   intro i ly hly;obtain⟨u,hu,hl⟩:=hi.sts i ly hly
   exact⟨u,hu,Ly.val_mono hk hS2' hng ly u hl⟩ }
 have hv:res'.val w' (X.S γ'' mm2) γ'' v:=(hpr w' _ _ γ'').2 v ((hres w' _ γ' γ'' hg2).2 v hb.res);exact hK _ _ _ (hinv.put (by simpa using hd) hv)
end
def nilM(a:List (Nat×Nat×Nat)):List (Nat×Ct):=a.map λe=>(e.1,.sl e.2.1 e.2.2 [])
def NilIn(a:List (Nat×Nat×Nat))(γ:Nm):Prop:=∀ e∈a,γ e.1=some (.slice none 0 0)
def Qqc(mm:Nat->Option Ct):List (Nat×Nat×Nat)->Prop
 | []=>True
 | e::r=>mm e.1=none/\Qqc mm r
theorem Qrl(mm:Nat->Option Ct)(i:Nat)(c:Ct)(l:List (Nat×Ct)):up mm ((i,c)::l)=up (up mm l) [(i,c)]:=by funext d;simp only[up,lk];cases Nat.beq i d<;>rfl
theorem Qwz{a:List (Nat×Nat×Nat)}{y:Nat}(h:∀ e∈a,e.1≠y):lk (nilM a) y=none:=by
 induction a with
 | nil=>rfl
 | cons e a i=>
   have f:=h e yp;have d:Nat.beq e.1 y=false:=by cases d:Nat.beq e.1 y;rfl;exact absurd (ot d) f
   simp only[nilM,xu,lk,d,cond];exact i λe g=>h e (yj _ g)
theorem Inv.nils{X:Cx}{st a w}:∀(f:List (Nat×Nat×Nat)) {γ mm},Inv X st mm a w γ->Qqc mm f->nodupB (f.map (·.1))=true->∃ γ',Inv X st (up mm (nilM f)) a w γ'/\Ng γ γ'/\NilIn f γ'/\∀ z,mm z=none->(∀ e∈f,e.1≠z)->γ' z=none
 | [],γ,mm,i,_,_=>⟨γ,i,Ng.refl _,(λ_ h=>by cases h),λz u _=>i.fresh z u⟩
 | e::f,γ,mm,i,p,n=>by
   simp only[xu,nodupB,ye,vw] at n;obtain⟨γ1,A,B,C,E⟩:=Inv.nils f i p.2 n.2;have j:∀ g∈f,g.1≠e.1:=by intro g d h;have:(f.map (·.1)).any (Nat.beq e.1)=true:=vr.2 ⟨g.1,xy.2 ⟨g,d,rfl⟩,by rw[h];simp⟩;rw[this] at n;simp at n
   have q:up mm (nilM f) e.1=none:=by simp only[up,Qwz j];exact p.1
   have:=A.new (w':=w) (y:=e.1) (ct:=.sl e.2.1 e.2.2 []) (v:=.slice none 0 0) rfl rfl rfl (Kp.refl _ _) q rfl
    (λS γ' _ _ _ t=>⟨_,[],t,⟨oc,.inl ⟨rfl,rfl⟩⟩,rfl,λ_ h=>by cases h⟩) (λb F=>by simp[blkOf] at F)
   rw[<-Qrl] at this;refine⟨_,this,?_,?_,?_⟩;intro id v r;have s:=B id v r;by_cases x:e.1=id;subst x;rw[i.fresh e.1 p.1] at r;cases r;simp[Inv.gset,x,s];intro g d;rcases xl.1 d with rfl | d;simp[Inv.gset];have:=j g d;simp only[Inv.gset];rw[ol (λh=>this h.symm)];exact C g d;intro z u k;have:=k e yp;simp only[Inv.gset];rw[ol this];exact E z u λg d=>k g (yj _ d)
def inN(a:List (Nat×Nat×Nat))(y:Nat):Bool:=a.any λe=>Nat.beq e.1 y
def ZrO(a:List (Nat×Nat×Nat))(ly:Ly)(cs:List Value):Prop:=∀ w S γ,NilIn a γ->ly.hold w S γ cs
def ZrOs(a:List (Nat×Nat×Nat))(l:List Ly)(cs:List Value):Prop:=∀ w S γ,NilIn a γ->Ly.holds w S γ l cs
theorem zo_of{a ly cs}(h:Zr ly cs):ZrO a ly cs:=λw S γ _=>h w S γ
theorem Qi0{a y}(h:inN a y=true):ZrO a (.own y) [.slice none 0 0]:=λw S γ f=>by obtain⟨e,d,g⟩:=vr.1 h;have:=ot g;subst this;exact⟨_,rfl,f e d,rfl⟩
theorem Q2l{a y}:ZrO a (.por y) [.pointer none]:=λ_ _ _ _=>⟨_,rfl,.inl rfl⟩
theorem Qlc{a l cs}(h:ZrOs a l cs):ZrO a (.agg l) cs:=λw S γ d=>by simp only[Ly.hold];exact h w S γ d
theorem Qis{a}:ZrOs a [] []:=λ_ _ _ _=>rfl
theorem K9{d ly l c1 a}(f:ZrO d ly c1)(g:ZrOs d l a):ZrOs d (ly::l) (c1++a):=λw S γ e=>⟨c1,a,rfl,f w S γ e,g w S γ e⟩
section ops
variable {X:Cx}{st:Nat->Option Ly}{mm:Nat->Option Ct}
theorem alOw{d T ty pos af y k b z ly}(g:List (Nat×Nat×Nat))(C:TyI X.P T k b z)(J:ZrO g ly z.cells.toList)(F:Qqc mm g)(n:nodupB (y::g.map (·.1))=true)(I:mm y=none)(hd:Nat.blt d X.N=true):
 OpOk X st mm ⟨some d,.alloc T,ty,pos,af,none⟩ [(d,.own y)] ((y,.bx T ly)::nilM g):=by
 intro a w γ K Q A B;simp only[nodupB,ye,vw] at n;obtain⟨γ1,u,L,x,M⟩:=A.nils g F n.2;have r:∀ j∈g,j.1≠y:=by intro j p h;have:(g.map (·.1)).any (Nat.beq y)=true:=vr.2 ⟨j.1,xy.2 ⟨j,p,rfl⟩,by rw[h];simp⟩;rw[this] at n;simp at n
 have q:up mm (nilM g) y=none:=by simp only[up,Qwz r];exact I
 have f:=u.new (w':=w.alloc (.cells z.cells T)) (y:=y) (ct:=.bx T ly) (v:=.pointer (some ⟨w.heap.size,0,none⟩)) rfl rfl rfl (Qam _ _ _) q rfl
  (λS γ' _ _ H s=>⟨w.heap.size,z.cells,s,Qcp _ _,J _ _ _ (λe E=>H _ _ (x e E))⟩) (λb t=>by simp[blkOf] at t;subst t;simp)
 rw[<-Qrl] at f;have i:(execOp a.eval ⟨some d,.alloc T,ty,pos,af,none⟩).run X.P w=.ok (.value (.pointer (some ⟨w.heap.size,0,none⟩))) (w.alloc (.cells z.cells T)):=by simp only[execOp];simp[Instr.alloc,Yn C,newVar,newRow]
 unfold Oper.wp;rw[i];exact B _ _ _ (f.put (d:=d) (ly:=.own y) (by simpa using hd) ⟨by simp[Inv.gset],rfl⟩)
theorem bldO{d T parts ty pos af pl k b z q l}(j:List (Nat×Nat×Nat))(B:Plc X.P T pl)(y:TyI X.P T k b z)(H:ZrO j q z.cells.toList)(C:Qqc mm j)(E:nodupB (j.map (·.1))=true)(F:BPart st pl parts q (.agg l))(hd:Nat.blt d X.N=true):
 OpOk X st mm ⟨some d,.build T ⟨parts⟩,ty,pos,af,none⟩ [(d,.agg l)] (nilM j):=by
 intro a w γ K Q n A;obtain⟨γ1,s,r,v,I⟩:=n.nils j C E;obtain⟨fs,u,r⟩:=B;obtain⟨cells',g1,t⟩:=Qhg s parts q (.agg l) z.cells F (H _ _ _ v);have p:(fs.mapM (λf=>(do pure (f.offset,<-sizeOf f.type):Sem (Nat×Nat)))).run X.P w=.ok pl.toArray w:=by
  have e:fs.mapM (λf=>(do pure (f.offset,<-sizeOf f.type):Sem (Nat×Nat)))=List.toArray <$> (fs.toList.mapM (λf=>(do pure (f.offset,<-sizeOf f.type):Sem (Nat×Nat)))):=by
   conv=>lhs;rw[<-Array.toArray_toList (xs:=fs)]
   rw[List.mapM_toArray]
  rw[e];simp only[Sem.run_map,Qma _ _ r,Result.andThen_ok]
 have g:(execOp a.eval ⟨some d,.build T ⟨parts⟩,ty,pos,af,none⟩).run X.P w=.ok (.value (.agg cells')) w:=by
  simp only[execOp,Instr.build];have hfill:Instr.fill (λi=>pl.toArray[i]?) z.cells (parts.map λ(i,x)=>(i,a.eval x))=some cells':=by simpa using g1
  simp only[Sem.run_bind,Yn y,Result.andThen_ok,underlying,run_program,u,Sem.run_pure,p];simp only[List.map_toArray,hfill];rfl
 unfold Oper.wp;rw[g];exact A _ _ _ (s.put (d:=d) (ly:=.agg l) (by simpa using hd) ⟨_,rfl,by simpa [Ly.hold] using t⟩)
def ub(b:UInt8):Ly:=u8 b.toNat
theorem if_ub{x}:IF (ub x):=Z6 _
def nilI:Ly:=.cell (cpX .nilIface rfl)
theorem Qrm:IF nilI:=Z6 _
theorem kNI:OpdF st (.const .nilIface) nilI:=λ_ _ _=>by simp[nilI,Ly.val,cpX]
theorem Qul{w S γ}:∀(s:List UInt8),Ly.holds w S γ (s.map ub) (s.map λb=>Value.int .u8 b.toNat)
 | []=>rfl
 | b::s=>⟨[_],_,rfl,⟨_,rfl,rfl,by have:=b.toNat_lt;simp[IntKind.min,IntKind.signed],by have:=b.toNat_lt;simp[IntKind.max,IntKind.bits,IntKind.signed];omega⟩,Qul s⟩
theorem appS{d s x T U ty pos af y id E b z}{xs e zs:List UInt8}(Y:appM b xs e=some zs)(hm:mm id=some (.sl E 1 (xs.map ub)))(W:X.P.underlying T=some (.slice E))(hU:X.P.underlying U=some .string)(hE:TyI X.P E 1 b z)(r:z=.int .u8 0)(hb1:b=1)
 (hs:OpdF st s (.own id)) (hx:OpdF st x (str e)) (hy:mm y=none) (hd:Nat.blt d X.N=true) :
 OpOk X st mm ⟨some d,.call { callee:=.builtin .append,args:=#[s,x],argTypes:=#[T,U] },ty,pos,af,none⟩ [(d,.own y)] [(y,.sl E 1 (zs.map ub)),(id,.gone)]:=by
 subst r hb1;intro a w γ K Q V hK;unfold appM at Y;split at Y
 case isFalse=>cases Y
 rename_i hle;obtain⟨hbytes,h63⟩:=hle;cases Y;obtain⟨i,hi,r,q,B⟩:=hE;obtain⟨v,cs,N,O,e3,e4⟩:=slI V hm;obtain⟨hv,hv1⟩:=hs.val V;have hvs:a.eval s=v:=by rw[hv] at N;simpa using N
 rw[ov] at O;obtain⟨hxv,hxl⟩:=hx.val V;have f:(ByteArray.mk e.toArray).size=e.length:=by simp[ByteArray.size]
 have hsc:Lib.strCells ⟨e.toArray⟩=e.map λb=>Value.int .u8 b.toNat:=by simp[Lib.strCells]
 obtain⟨v',w',Z,r2,F,r4⟩:=Lib.run_append_own_string (P:=X.P) w 0 T U ty E i W hU hi r q B v xs.length cs O ⟨e.toArray⟩ (by rw[f];unfold maxLen;omega) (by rw[f];omega) (xo _);rw[f,hsc] at r2;have hob:v.ownBlock=blkOf v:=by rcases O.2 with ⟨rfl,_⟩ | ⟨g,cap,cur,rfl,_⟩<;>rfl
 have M:(execOp a.eval ⟨some d,.call { callee:=.builtin .append,args:=#[s,x],argTypes:=#[T,U] },ty,pos,af,none⟩).run X.P w=.ok (.value v') w':=by simp only[execOp,resolve];simp[invoke,builtin,hvs,hxv,Z]
 have hk:Kp (λb=>blkOf v=some b) w w':=⟨F.size,λb n hn=>F.block b n (by rw[hob];exact λh=>hn h.symm)⟩
 have hkS:Kp (X.S γ mm) w w':=⟨F.size,λb n hn=>hk.2 b n (λh=>hn (.inr ⟨id,_,v,hm,rfl,N,h⟩))⟩
 have L:v'.oneCell'=true:=by rcases r2.2 with ⟨rfl,_⟩ | ⟨g,cap,cur,rfl,_⟩<;>rfl
 have H:∀ b,blkOf v'=some b->(blkOf v=some b\/w.heap.size<=b):=by
  intro b t;rcases O with ⟨I,⟨rfl,hn0⟩ | ⟨g,k,cur,rfl,_,g2,g3,g4,g5,g6⟩⟩
  . obtain⟨v2,w2,q1,q2,_,_⟩:=Lib.run_append_own_string (P:=X.P) w w.heap.size T U ty E i W hU hi r q B (.slice none 0 0) xs.length cs ⟨I,.inl ⟨rfl,hn0⟩⟩ ⟨e.toArray⟩ (by rw[f];unfold maxLen;omega) (by rw[f];omega) (xn _)
    rw[Z] at q1;obtain⟨rfl,rfl⟩:v'=v2/\w'=w2:=by simpa using q1
    rcases q2.2 with ⟨rfl,_⟩ | ⟨g,cap1,cur1,rfl,hge,_⟩
    . simp[blkOf] at t
    . simp[blkOf] at t;subst t;exact .inr hge
  . have A:Src X.P i.size U (.string ⟨e.toArray⟩) (ByteArray.mk e.toArray).size (byteCells ⟨e.toArray⟩) w:=by rw[q];exact Src.ofString w hU _
    by_cases hroom:xs.length+e.length<=k
    . have p:=run_append_room_src (P:=X.P) w T U ty E i W hi g 0 xs.length k _ _ _ A (by rw[f];exact hroom)
       (λj C=>by
        rw[byteCells_length,f] at C;rw[Kh g2,q];have:0+xs.length*1+j<cur.size:=om
        rw[yh this];rfl)
       (λj C=>by simp[World.frozen?,g2])
      rw[Z] at p;simp at p;rw[p.1] at t;exact .inl t
    . have hold:(Builtin.firstCells i.size xs.length (.slice (some ⟨g,0,none⟩) xs.length k)).run X.P w.drew=.ok cs.toArray w.drew:=
       run_firstCells_some w.drew i.size xs.length ⟨g,0,none⟩ xs.length k cs (by rw[q];exact I) (λj u C=>by
        rw[add0,xr];have:w.drew.cell? ⟨g,j,none⟩=w.cell? ⟨g,j,none⟩:=rfl;rw[this,Kh g2,<-xi];rw[<-g6,yq] at C;split at C
        . exact C
        . cases C)
      have p:=run_append_grow_src (P:=X.P) w T U ty E i _ W hi r (some ⟨g,0,none⟩) xs.length k cs hold _ _ _ A (by rw[f];omega) (by rw[f];omega) (growslice_fits (by rw[f];omega) (by rw[B,f];omega));rw[Z] at p;simp at p;rw[p.1] at t;simp[blkOf] at t;subst t;exact .inr (xn _)
 unfold Oper.wp;rw[M]
 have J:=V.replace F.os F.tape F.output hm rfl N hk (y:=y) (ct:=.sl E 1 ((xs++e).map ub)) (v':=v') hy rfl
  (λS γ' hS hng hy'=>by
   refine⟨v',cs++e.map (λb=>Value.int .u8 b.toNat),hy',by simpa using r2,?_,?_⟩
   . rw[xw]
     exact Qcq (Ly.holds_mono hkS hS hng _ _ e3) (Qul _)
   . intro ly hly
     obtain⟨x,_,rfl⟩:=xy.1 hly;rfl)
  (λb n=>⟨H b n,by
   rcases r2.2 with ⟨rfl,_⟩ | ⟨g,cap,cur,rfl,_,h2,_⟩
   . simp[blkOf] at n
   . simp[blkOf] at n;subst n
     rcases xd g w'.heap.size with h | h
     . exact h
     . simp[ya h] at h2⟩)
 exact hK _ _ _ (J.put (d:=d) (v:=v') (ly:=.own y) (by simpa using hd) ⟨by simp[Inv.gset],L⟩)
end ops
theorem Inv.dropc{X:Cx}{st mm a w γ}(h:Inv X st mm a w γ){w':World}(H:w'.os=w.os)(S:w'.tape=w.tape)(y:w'.output=w.output){id:Nat}{c:Ct}{v:Value}(s:mm id=some c)(F:c.alive=true)(I:γ id=some v)
 (hk:Kp (λb=>blkOf v=some b) w w'):Inv X st (up mm [(id,.gone)]) a w' γ:=by
 have A:∀ b,Ow γ (up mm [(id,.gone)]) b->∃ i j u,i≠id/\mm i=some j/\j.alive=true/\γ i=some u/\blkOf u=some b:=by rintro b ⟨i,j,u,f,q,n,r⟩;rw[Jz] at f;by_cases e:id=i;simp[e] at f;subst f;simp[Ct.alive] at q;simp[e] at f;exact⟨i,j,u,λB=>e B.symm,f,q,n,r⟩
 have K:∀ b,X.S γ (up mm [(id,.gone)]) b->X.S γ mm b:=λb h=>orM h (λx=>x) (λh=>by obtain⟨i,j,u,_,f,q,n,r⟩:=A b h;exact⟨i,j,u,f,q,n,r⟩)
 have t:Kp (X.S γ mm) w w':=⟨hk.1,λb k P=>hk.2 b k (λe=>P (.inr ⟨id,c,v,s,F,I,e⟩))⟩
 refine { h with os:=H.trans h.os,tape:=S.trans h.tape,output:=y.trans h.output,grow:=xm h.grow hk.1,old:=?_,fresh:=?_,cts:=?_,apart:=?_,mine:=?_,sts:=?_ };intro b k J
 rw[hk.2 b (xx k h.grow) (λe=>by
  rcases(h.mine b ⟨id,c,v,s,F,I,e⟩).1 with f | f;omega
  exact J f)]
 exact h.old b k J;intro i hi;rw[Jz] at hi;by_cases e:id=i;simp[e] at hi;simp[e] at hi;exact h.fresh i hi;intro i j g;rw[Jz] at g;by_cases e:id=i;simp[e] at g;subst g;trivial;simp[e] at g;by_cases p:j.alive=true;refine(h.cts i j g).mono t (λb k=>.inl (K b k)) (Ng.refl _) ?_;intro u b C k;exact hk.2 b (h.mine b ⟨i,j,u,g,p,C,k⟩).2.1 (λE=>e (h.apart id i c j v u b s F g p I C E k));cases j<;>simp[Ct.alive] at p;trivial;intro i L c1 M u T b f q n r;rw[Jz] at f n;by_cases e:id=i;simp[e] at f;subst f;simp[Ct.alive] at q;by_cases B:id=L;simp[B] at n;subst n;simp[Ct.alive] at r;simp[e] at f;simp[B] at n;exact h.apart i L c1 M u T b f q n r;intro b k;obtain⟨i,j,u,_,f,q,n,r⟩:=A b k;obtain⟨g1,N,g3⟩:=h.mine b ⟨i,j,u,f,q,n,r⟩;exact⟨g1,xx N hk.1,g3⟩;intro d ly hd;obtain⟨u,C,O⟩:=h.sts d ly hd;exact⟨u,C,Ly.val_mono t (λb k=>.inl (K b k)) (Ng.refl _) ly u O⟩
theorem Qb1{P:Program}{d f:Nat}{args:List Operand}{argTypes ty pos af}{a:Act}{w:World}{K:Act->World->Prop}{Q:Exit->Act->World->Prop}{R:Ending->World->Prop}
 (hf:∃ fn,P.funcs[f]?=some fn∧(fn.name == "runtime.NumGoroutine")=false∧fn.body.isSome=true) (hc:Calls P f (args.map a.eval).toArray w R)
 (hK:∀ e w',R e w'->∃ v,e=.returned v/\K (a.put (some d) v) w') :
 Oper.wp P ⟨some d,.call { callee:=.value (.func f),args:=⟨args⟩,argTypes:=argTypes },ty,pos,af,none⟩ a w K Q:=by
 obtain⟨fn,hfn,hname,hbody⟩:=hf;have hrun:(execOp a.eval ⟨some d,.call { callee:=.value (.func f),args:=⟨args⟩,argTypes:=argTypes },ty,pos,af,none⟩).run P w=.ok (.enter f (args.map a.eval).toArray) w:=by
  have e1:fn.body.isNone=false:=by cases h:fn.body<;>simp[h] at hbody |-
  have e2:¬ fn.name= "runtime.NumGoroutine":=by simpa using hname
  simp only[execOp,resolve,Act.eval];simp[Deferred.ofValue,invoke,callFunc,hfn,e2];intro e3;rw[e3] at e1;cases e1
 unfold Oper.wp;rw[hrun,Oper.upon_enter];refine hc.mono ?_;intro e w' hR;obtain⟨v,rfl,hk⟩:=hK e w' hR;exact hk
def Turns(g:Option Nat)(w w':World):Prop:=w'.os=w.os/\w'.tape=w.tape/\w'.output=w.output/\Kp (λb=>g=some b) w w'
theorem Qw0{P:Program}{f:Nat}{args:List Ly}{res:Ly}(hf:∃ fn,P.funcs[f]?=some fn∧(fn.name == "runtime.NumGoroutine")=false∧fn.body.isSome=true)
 (h:∀ w S γ (vs:Array Value),Ly.vals w S γ args vs.toList->Calls P f vs w λe w'=>∃ v,e=.returned v/\w'=w/\res.val w S γ v):FnOk P f args [] res []:=by
 refine⟨hf,λw S0 γ vs h1 h2 h3 h4 h5 h6 _=>(h w _ γ vs h6).mono ?_⟩;rintro e w' ⟨v,rfl,rfl,hv⟩;exact⟨v,γ,rfl,⟨rfl,rfl,rfl,xn _,λ_ _ _=>rfl,Ng.refl _,h2,(λ_ _ h=>by cases h),(λ_ _ _ _ _ _ _ h=>by cases h),(λb ⟨_,_,_,h,_⟩=>by cases h),hv⟩⟩
section
variable {R:Type}{X:Cx}{l:List (Nat×Ly)}{m:List (Nat×Ct)}{md:Option R}{Q:R->Exit->Act->World->Prop}
theorem sscp{c:Code}(h:Sq X l m md (λr=>c.wp X.P (Exit.noGoto (Q r)))):Sq X l m md (λr=>(Code.scope c).wp X.P (Q r)):=λr a w γ d hi=>wp_scope_straight (h r a w γ d hi)
theorem slab{i:Nat}(h:Sq X l m md (λr=>Q r .normal)):Sq X l m md (λr=>(Code.label i).wp X.P (Q r)):=λr a w γ d hi=>wp_label (h r a w γ d hi)
theorem pgr(h:Sq X l m md (λr=>Q r .ret)):Sq X l m md (λr=>Exit.noGoto (Q r) .ret):=h
end
section ops
variable {X:Cx}{st:Nat->Option Ly}{mm:Nat->Option Ct}
theorem negU{d x T ty pos af p k N}(e:UK k N)(hd:Nat.blt d X.N=true)(i:OpdF st x (uk k p)):
 OpOk X st mm ⟨some d,.unOp .neg T x,ty,pos,af,none⟩ [(d,uk k ((N - p)%N))] []:=
 Kl hd λa w γ hi=>by
  obtain⟨f,_,g⟩:=i.val hi;rw[e.max] at g;have:(0 - (p:Int))%(N:Int)=(((N - p)%N:Nat):Int):=by rw[Int.natCast_emod,Int.ofNat_sub om,show(0:Int) - p=(N:Int) - p+(-1)*N by omega,Int.add_mul_emod_self_right]
  refine⟨.int k (((N - p)%N:Nat):Int),by simp only[execOp,f];simp only[Op.unary,Op.intArith,e.wrap,this];rfl,rfl,uk_b e _ (yg _ e.pos)⟩
def andZ(p q:Int):Int:=((BitVec.ofInt 64 p &&& BitVec.ofInt 64 q).toNat:Int)
theorem andI{d x y T a ty pos af p q}(hd:Nat.blt d X.N=true)(e:OpdF st x (i64 p))(f:OpdF st y (i64 q)):
 OpOk X st mm ⟨some d,.binOp .and T x y a,ty,pos,af,none⟩ [(d,i64 (wrap64 (andZ p q)))] []:=arI (λw=>by simp only[binOp,Op.intBits,Qft,andZ];rfl) rfl hd e f
end ops
theorem Qi1{σ y x off len}(h:lk σ y=some x):Rn σ (.win x off len) (.win y off len):=λw S γ γ' d=>by have:=d y x h;exact⟨λcs g=>by obtain⟨v,rfl,v0,g1,a⟩:=g;exact⟨v,rfl,v0,by rw[this];exact g1,a⟩,λv g=>by simp only[Ly.val] at g |-;obtain⟨v0,g1,a⟩:=g;exact⟨v0,by rw[this];exact g1,a⟩⟩
theorem owW{R:Type}{X:Cx}{l:List (Nat×Ly)}{m:List (Nat×Ct)}{md:Option R}{G:R->Act->World->Prop}(d:Nat){id E ls n}(hd:lk l d=some (.own id))(x:lk m id=some (.sl E 1 ls))(f:n=ls.length)
 (K:Sq X ((d,.win id 0 n)::l) m md G):Sq X l m md G:=by
 subst f;intro r a w γ y hi;refine K r a w γ y { hi with sts:=λi ly h=>?_ };simp only[lk] at h;cases e:Nat.beq d i;rw[e] at h;exact hi.sts i ly h;rw[e] at h;have:d=i:=ot e;subst this;simp only[cond,Option.some.injEq] at h;subst h;obtain⟨v,q,k,_⟩:=hi.sts d _ hd;refine⟨v,q,?_⟩;obtain⟨u,cs,j,⟨A,p⟩,_⟩:=slI hi x;rw[k] at j;cases j;refine⟨v,k,?_⟩;rcases p with ⟨rfl,f⟩ | ⟨g,cap,cur,rfl,_,_,s,t,_⟩;exact .inl ⟨rfl,rfl,f⟩;exact .inr ⟨g,cap,0,rfl,rfl,λ_=>rfl,s,t⟩
def winS(i:Int)(len:Nat):Bool:=decide (0<=i) && decide (i<len)
def winC(lo hi:Int)(len:Nat):Bool:=decide (0<=lo) && (decide (lo<=hi) && decide (hi<=len))
def subW{α:Type}(xs:List α)(off len:Nat):Option (List α):=if off+len<=xs.length then some ((xs.drop off).take len) else none
theorem Q05{α:Type}{xs:List α}{off len y}(h:subW xs off len=some y):off+len<=xs.length:=by unfold subW at h;split at h;assumption;cases h
theorem Qmb{α:Type}{f:α->Ly}{xs:List α}{off len y}(h:subW xs off len=some y):off+len<=(xs.map f).length:=by rw[ov];exact Q05 h
theorem Qmc{α:Type}{f:α->Ly}{xs:List α}{off len y}(h:subW xs off len=some y):sli 1 (y.map f)=sli 1 (((xs.map f).drop off).take len):=by unfold subW at h;split at h;cases h;rw[<-List.map_drop,<-List.map_take];cases h
theorem frzW{R:Type}{X:Cx}{l:List (Nat×Ly)}{m:List (Nat×Ct)}{md:Option R}{G:R->Act->World->Prop}(d:Nat){id off len E}{α:Type}{f:α->Ly}{xs y:List α}(W:subW xs off len=some y)
 (hd:lk l d=some (.win id off len)) (O:lk m id=some (.sl E 1 (xs.map f))) (M:IFs (xs.map f)) (K:Sq X ((d,sli 1 (y.map f))::l) ((id,.gone)::m) md G):Sq X l m md G:=by
 intro r a w γ hr hi;rw[Qmc W] at K;refine K r a w γ hr ?_;have hle:=Qmb (f:=f) W;generalize xs.map f=ls at *;obtain⟨v,cs,C,⟨e2,q⟩,e4,F⟩:=slI hi O;obtain⟨Z,t1,v0,S,f2⟩:=hi.sts d _ hd;rw[C] at S;cases S;have J:=hi.drop id;have hS:∀ b,X.S γ (up (lk m) [(id,.gone)]) b->X.S γ (lk m) b:=by rintro b (h | ⟨i,B,u,s,A,U,V⟩);exact .inl h;rw[Jz] at s;by_cases e:id=i;simp[e] at s;subst s;simp[Ct.alive] at A;simp[e] at s;exact .inr ⟨i,B,u,s,A,U,V⟩
 have L:Ly.holds w (X.S γ (up (lk m) [(id,.gone)])) (λ_=>none) ls cs:=Ly.holds_mono (Kp.refl _ _) (λb t=>.inl (hS b t)) (Ng.refl _) _ _ ((M w _ γ (λ_=>none)).1 _ e4);obtain⟨_,s2⟩:=Z8 off L F;obtain⟨s3,_⟩:=Z8 len s2 (λly N=>F ly (vg N));have hp:(sli 1 ((ls.drop off).take len)).val w (X.S γ (up (lk m) [(id,.gone)])) γ Z:=by
  rcases f2 with ⟨f3,T,H⟩ | ⟨g,cap,o,f3,T,fo,H,f6⟩;rw[f3];subst H;exact .inl ⟨rfl,oc⟩;rcases q with ⟨q,_⟩ | ⟨I,P,cur,q,_,A,U,V,h5,h6⟩;rw[q] at f3;simp[blkOf] at f3;subst q;simp[blkOf] at f3;subst f3;have hmine:=hi.mine I ⟨id,_,_,O,rfl,C,rfl⟩;have p:((ls.drop off).take len).length=len:=oh
  rw[T];refine .inr (.inl ⟨I,o,cap,(cs.drop (off*1)).take (len*1),?_,?_,f6,hmine.2.1,?_,λj u n=>?_,s3,λly N=>F ly (vg (vf N))⟩);rw[p];rw[p];exact H;rintro(h | ⟨i,B,u,x,Y,k3,k4⟩);exact hmine.2.2 h;rw[Jz] at x;by_cases e:id=i;simp[e] at x;subst x;simp[Ct.alive] at Y;simp[e] at x;exact e (hi.apart id i _ B _ u I O rfl x Y C k3 rfl k4);rw[Kh A,<-xi];rw[yq] at n;split at n;rw[fo om];rw[List.getElem?_drop,<-h6,yq] at n;split at n;rw[wk] at n;exact n;cases n;cases n
 have k:Inv X (lk l) (lk ((id,.gone)::m)) a w γ:=by have:=J;rwa [up_lk] at this
 refine { k with sts:=λi ly h=>?_ };simp only[lk] at h;cases t:Nat.beq d i;rw[t] at h;exact k.sts i ly h;rw[t] at h;have:d=i:=ot t;subst this;simp only[cond,Option.some.injEq] at h;subst h;refine⟨Z,t1,?_⟩;have e:X.S γ (lk ((id,.gone)::m))=X.S γ (up (lk m) [(id,.gone)]):=by rw[up_lk];rfl
 rw[e];exact hp
section ops
variable {X:Cx}{st:Nat->Option Ly}{mm:Nat->Option Ct}
theorem lenW{d x T ty pos af E id off len}(e:X.P.underlying T=some (.slice E))(hd:Nat.blt d X.N=true)(i:OpdF st x (.win id off len)):
 OpOk X st mm ⟨some d,.call { callee:=.builtin .len,args:=#[x],argTypes:=#[T] },ty,pos,af,none⟩ [(d,i64 (len:Nat))] []:=
 Qp5 hd i λa w γ hi v f=>by obtain⟨v0,_,⟨rfl,_,rfl⟩ | ⟨g,cap,o,_,rfl,_,j,k⟩⟩:=f;exact⟨by unfold Builtin.len_;simp[underlying,e,goInt],len_b (xo _)⟩;exact⟨by unfold Builtin.len_;simp[underlying,e,goInt],len_b om⟩
theorem ixW{A:IntKind}{d x i T ty pos af E E' b z p id}{off len:Nat}{α:Type}{f:α->Ly}{xs:List α}{y:α}(k:winS p len=true)(_:mm id=some (.sl E' 1 (xs.map f)))(t:X.P.underlying T=some (.slice E))(s:TyI X.P E 1 b z)(_:getI xs ((off:Int)+p)=some y)
 (hd:Nat.blt d X.N=true) (v:OpdF st x (.win id off len)) (hi:OpdF st i (.cell (cpI A p))) :
 OpOk X st mm ⟨some d,.indexAddr T x i,ty,pos,af,none⟩ [(d,.ptr id (Int.toNat ((off:Int)+p)*1))] []:=
 Kl hd λa w γ j=>by simp only[winS,ye,ur] at k;obtain⟨h0,u⟩:=k;obtain⟨g1,_⟩:=hi.val j;obtain⟨v0,n,⟨_,_,h⟩ | ⟨g,cap,o,q,e,r,B,C⟩⟩:=v.val j;omega;rw[r om] at e;refine⟨.pointer (some ⟨g,Int.toNat ((off:Int)+p)*1,none⟩),?_,v0,g,n,q,rfl⟩;simp only[execOp,e,g1];rw[show Int.toNat ((off:Int)+p)*1=off+p.toNat*1 by omega];simp[Instr.indexAt,asIntOf,underlying,t,h0,u,K1 s,add0]
theorem slW{d x lo hi T ty pos af E E' b z p q id off len}{ls:List Ly}(B:winC p q len=true)(_:mm id=some (.sl E' 1 ls))(t:X.P.underlying T=some (.slice E))(r:TyI X.P E 1 b z)
 (hd:Nat.blt d X.N=true) (H:OpdF st x (.win id off len)) (v:BndF st 0 lo p) (u:BndF st len hi q) :
 OpOk X st mm ⟨some d,.slice T x lo hi none,ty,pos,af,none⟩ [(d,.win id (off+p.toNat) (q.toNat - p.toNat))] []:=
 Kl hd λa w γ s=>by
  simp only[winC,ye,ur] at B;obtain⟨h0,F,K⟩:=B;have f:(lo.map a.eval=none/\p=0)\/∃ i,lo.map a.eval=some (.int i p):=by rcases Qir s v with ⟨rfl,h⟩ | ⟨x,i,rfl,h⟩;exact .inl ⟨rfl,h⟩;exact .inr ⟨i,by simp[h]⟩
  have e:(hi.map a.eval=none/\q=(len:Nat))\/∃ i,hi.map a.eval=some (.int i q):=by rcases Qir s u with ⟨rfl,h⟩ | ⟨x,i,rfl,h⟩;exact .inl ⟨rfl,h⟩;exact .inr ⟨i,by simp[h]⟩
  obtain⟨v0,n,⟨j,k,rfl⟩ | ⟨g,cap,o,j,k,C,I,J⟩⟩:=H.val s;obtain rfl:q=0:=om
  obtain rfl:p=0:=om
  refine⟨.slice none 0 0,?_,v0,n,.inl ⟨rfl,k,rfl⟩⟩;have:=Yd (P:=X.P) (w:=w) (isS:=true) (len:=0) (cap:=0) f e om om om;simp only[execOp,j];simp[Instr.sliceAt,Instr.slice,underlying,t,this,K1 r];have y:=Yd (P:=X.P) (w:=w) (isS:=true) (len:=len) (cap:=cap) f e h0 F om;by_cases A:cap=p.toNat;subst A;refine⟨.slice (some ⟨g,o,none⟩) (q.toNat - p.toNat) (p.toNat - p.toNat),?_,v0,n,.inr ⟨g,p.toNat - p.toNat,o,j,rfl,λh=>om,om,om⟩⟩;simp only[execOp,k];simp[Instr.sliceAt,Instr.slice,underlying,t,y,K1 r];refine⟨.slice (some ⟨g,o+p.toNat*1,none⟩) (q.toNat - p.toNat) (cap - p.toNat),?_,v0,n,.inr ⟨g,cap - p.toNat,o+p.toNat*1,j,rfl,λh=>by rw[C om];omega,om,om⟩⟩;simp only[execOp,k];simp[Instr.sliceAt,Instr.slice,underlying,t,y,K1 r,A,add0]
end ops
def methRow(P:Program)(T:Nat)(a:String):Option (Bool×Option (Nat×Bool)):=(P.info? T).bind λi=>(i.methods.find? (·.name == a)).map λm=>(m.path.isEmpty,m.func)
def MethF(P:Program)(T:Nat)(a:String)(f:Nat):Prop:=methRow P T a=some (true,some (f,false))/\∃ fs,P.underlying T=some (.struct fs)
section call
variable {X:Cx}{st:Nat->Option Ly}{mm:Nat->Option Ct}
theorem Qxq{P:Program}{w:World}{T:Nat}{g:String}{f k:Nat}{u:Value}(s:MethF P T g f):(method (k+1) T u g).run P w=.ok (f,u) w:=by
 obtain⟨a,fs,r⟩:=s;obtain⟨i,m,e,d,p,q⟩:∃ i m,P.info? T=some i/\i.methods.find? (·.name == g)=some m/\m.path=#[]/\m.func=some (f,false):=by
  unfold methRow at a;cases e:P.info? T with
  | none=>rw[e] at a;cases a
  | some i=>
    rw[e] at a;simp only[xq] at a;cases d:i.methods.find? (·.name == g) with
    | none=>rw[d] at a;cases a
    | some m=>
      rw[d] at a;simp only[Option.map_some,Option.some.injEq,Prod.mk.injEq] at a;exact⟨i,m,rfl,d,by simpa using a.1,a.2⟩
 unfold method;have j:(typeInfo T).run P w=.ok i w:=by simp[typeInfo,e]
 have n:(underlying T).run P w=.ok (.struct fs) w:=by simp[underlying,r]
 simp only[Sem.run_bind,j,Result.andThen_ok,d,p,q];simp[follow,receiverAt,n,Place.get]
theorem mkIf{d T x ty pos af ly fs}(e:X.P.underlying T=some (.struct fs))(hd:Nat.blt d X.N=true)(f:OpdF st x ly):
 OpOk X st mm ⟨some d,.makeInterface T x,ty,pos,af,none⟩ [(d,.ifc T ly)] []:=
 Kl hd λa w γ hi=>by refine⟨.iface T (a.eval x),?_,⟨_,rfl,f.val hi⟩⟩;simp only[execOp];simp[Instr.makeInterface,underlying,e]
theorem callI{d r nm T f args argTypes ty pos af ly0 ly1 largs mi res mo res' em}(ρ τ σ:List (Nat×Nat))(hr:OpdF st r (.ifc T ly0))(hm:MethF X.P T nm f)(hf:FnOk X.P f (ly1::largs) mi res mo)(hr1:Rn ρ ly0 ly1)
 (ha:ArgF st ρ args largs) (hmi:∀ x c',lk mi x=some c'->∃ y c,lk ρ x=some y/\mm y=some c/\RnC ρ c c') (hρm:NmM mi ρ) (hρn:nodupB (ρ.map (·.2))=true)
 (hτ:Fresh mm τ) (hσ:SigT τ ρ σ) (hσn:nodupB (σ.map (·.2))=true) (hem:BackM σ ρ mo em) (hall:AllIn em (ρ.map (·.2))) (hall2:AllIn em (τ.map (·.1)))
 (hres:Rn σ res res') (hd:Nat.blt d X.N=true) :
 OpOk X st mm ⟨some d,.call { callee:=.invoke r nm,args:=⟨args⟩,argTypes:=argTypes },ty,pos,af,none⟩ [(d,res')] em:=by
 refine callR ρ τ σ hf rfl (λfn hfn hname hbody a w γ hi=>?_) hmi hρm hρn hτ hσ hσn hem hall hall2 hres hd;obtain⟨u,hu,hu2⟩:=hr.val hi;refine⟨#[u]++(args.map a.eval).toArray,?_,fun γc S hgc hSc=>?_⟩;have e1:fn.body.isNone=false:=by cases h:fn.body<;>simp[h] at hbody |-
 have e2:¬ fn.name= "runtime.NumGoroutine":=by simpa using hname
 have hm':(method (X.P.types.size+Made.depth) T u nm).run X.P w=.ok (f,u) w:=Qxq (k:=X.P.types.size+(Made.depth - 1)) hm;simp only[execOp,resolve];simp[invoke,callMethod,hu,hm',callFunc,hfn,e2];have e3:¬ fn.body=none:=by intro h;rw[h] at e1;cases e1
 rw[ol e3,ow oc];simp only[Array.toList_append,yr,yo,Ly.vals];refine⟨u,_,rfl,Ly.val_mono (Kp.refl _ _) (λb hb=>.inl (hSc b hb)) (Ng.refl _) _ _ ((hr1 w _ γ γc hgc).2 _ hu2),by simpa using Qnl hi hgc hSc ha⟩
end call
theorem Qno:Zr (.por 0) [.pointer none]:=λ_ _ _=>⟨_,rfl,.inl rfl⟩
theorem kAny{st:Nat->Option Ly}{v:Value}:OpdF st (.const v) .any:=λ_ _ _=>trivial
theorem szk{a b k:Nat}(d:a=k)(e:b=k):a=b:=d.trans e.symm
theorem slpk{R τ:Type}{X:Cx}{l m}{k:τ->Option R}{t:τ}{G:R->Act->World->Prop}(h:Sq X l m (k t) G):Sq X l m (lpK k (.go t)) G:=h
def cpE(b:Bool):CP where
 p:=λ_ _ v=>(b=false/\v=.nilIface)\/(b=true/\∃ t u,v=.iface t u)
 one:=by rintro _ _ v (⟨_,rfl⟩ | ⟨_,t,u,rfl⟩)<;>rfl
 mono:=λh _ _=>h
def erl(b:Bool):Ly:=.cell (cpE b)
theorem Q2m{b}:IF (erl b):=Z6 _
section ops
variable {X:Cx}{st:Nat->Option Ly}{mm:Nat->Option Ct}
end ops
theorem Qqd{P:Program}{f:Nat}{args:List Ly}{res:Ly}(hf:∃ fn,P.funcs[f]?=some fn∧(fn.name == "runtime.NumGoroutine")=false∧fn.body.isSome=true)
 (h:∀ w S γ (vs:Array Value),(∀ b,S b->b<w.heap.size)->GF w->Ly.vals w S γ args vs.toList->Calls P f vs w λe w'=>∃ v,e=.returned v/\Below w.heap.size w w'/\res.val w' S γ v):FnOk P f args [] res []:=by
 refine⟨hf,λw S0 γ vs h1 h2 h3 h4 h5 h6 h7=>(h w (Sx S0 γ []) γ vs (λb hb=>hb.elim (h1 b) (λ⟨_,_,_,h,_⟩=>by cases h)) h7.2 h6).mono ?_⟩;rintro e w' ⟨v,rfl,hb,hv⟩;exact⟨v,γ,rfl,⟨hb.os,hb.tape,hb.output,hb.size,λb hb' _=>hb.block b hb',Ng.refl _,h2,(λ_ _ h=>by cases h),(λ_ _ _ _ _ _ _ h=>by cases h),(λb ⟨_,_,_,h,_⟩=>by cases h),hv⟩⟩
theorem Q06{w:World}{S:Nat->Prop}{γ:Nm}{E:TypeId}{a:List (List UInt8)}(e:∀ b,S b->b<w.heap.size)(k:∀ x∈a,x.length<=maxLen)(n:a.length<=maxLen):
 (sli 1 (a.map str)).val (w.alloc (.cells ((a.map λl=>Value.string ⟨l.toArray⟩).toArray) E)) S γ (.slice (some ⟨w.heap.size,0,none⟩) a.length a.length):=by
 have g:∀(l:List (List UInt8)) (w:World) (S:Nat->Prop),(∀ x∈l,x.length<=maxLen)->Ly.holds w S (λ_=>none) (l.map str) (l.map λl=>Value.string ⟨l.toArray⟩):=by
  intro l
  induction l with
  | nil=>intro w S _;rfl
  | cons x l q=>intro w S h;exact⟨[_],_,rfl,⟨_,rfl,rfl,h x (.head _)⟩,q w S λy p=>h y (.tail _ p)⟩
 refine .inr (.inl ⟨w.heap.size,0,a.length,a.map λl=>Value.string ⟨l.toArray⟩,oc,oc,n,(by show w.heap.size<(w.heap.push _).size;simp),λh=>absurd (e _ h) (Nat.lt_irrefl _),?_,g _ _ _ k,?_⟩);intro j u i;have f:(w.alloc (.cells ((a.map λl=>Value.string ⟨l.toArray⟩).toArray) E)).heap[w.heap.size]?=some (.cells ((a.map λl=>Value.string ⟨l.toArray⟩).toArray) E (0,0)):=by show(w.heap.push _)[w.heap.size]?=_;rw[Array.getElem?_push,oo rfl]
 simp only[World.cell?,f,xr]
 simpa using i
 intro ly d;obtain⟨x,_,rfl⟩:=xy.1 d;rfl
theorem Qum{σ:List (Nat×Nat)}{γ γ':Nm}(a:∀ y x,lk σ y=some x->γ' y=γ x):∀ {l l':List Nat}{us:List Value},l.map some=l'.map (lk σ)->CapV γ l us->CapV γ' l' us
 | [],[],[],_,_=>trivial
 | [],[],_::_,_,h=>h.elim
 | x::l,y::l',[],_,h=>h.elim
 | x::l,y::l',v::us,e,h=>by simp only[xu,List.cons.injEq] at e;exact⟨by rw[a y x e.1.symm];exact h.1,h.2.1,Qum a e.2 h.2.2⟩
 | [],_::_,_,e,_=>by simp at e
 | _::_,[],_,e,_=>by simp at e
theorem Qnp{σ f l l'}(h:l.map some=l'.map (lk σ)):Rn σ (.clo f l) (.clo f l'):=λw S γ γ' d=>
 ⟨λcs g=>by
  simp only[Ly.hold] at g |-;obtain⟨v,rfl,us,g1,a⟩:=g;exact⟨v,rfl,us,g1,Qum d h a⟩,λv g=>by
  simp only[Ly.val] at g |-;obtain⟨us,g1,a⟩:=g
  exact⟨us,g1,Qum d h a⟩⟩
theorem Qnq{σ f l l'}(h:Rns σ l l'):Rn σ (.bnd f l) (.bnd f l'):=λw S γ γ' d=>
 ⟨λcs g=>by simp[Ly.hold] at g,λv g=>by
  simp only[Ly.val] at g |-;obtain⟨us,g1,a⟩:=g
  exact⟨us,g1,(h w S γ γ' d).2 _ a⟩⟩
section ops
variable {X:Cx}{st:Nat->Option Ly}{mm:Nat->Option Ct}
end ops
def sortI(l:List Int):List Int:=l.mergeSort λx y=>decide (x<=y)
def Qj5{α:Type}(kv:List (Int×α)):Option (List Int):=if kv.length<=1000000 then some (sortI (kv.map (·.1))) else none
def mget{α:Type}:List (Int×α)->Int->Option α
 | [],_=>none
 | (k,v)::r,i=>cond (decide (k=i)) (some v) (mget r i)
def mset{α:Type}:List (Int×α)->Int->α->List (Int×α)
 | [],i,x=>[(i,x)]
 | (k,v)::r,i,x=>cond (decide (k=i)) ((k,x)::r) ((k,v)::mset r i x)
end Go.Proofs.YtgmknbfonlbjfaaGreatDoor
