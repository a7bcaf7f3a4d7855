import Derived.Test.YtgmknbfonlbjfaaGreatDoorMod
namespace Go.Proofs.YtgmknbfonlbjfaaGreatDoor
open Go Go.RowKit
def big:Nat:=18446744073709551616
theorem w64{x:Int}(a:-9223372036854775808<=x)(d:x<=9223372036854775807):wrap64 x=x:=by unfold wrap64;omega
theorem bifd{α:Type}(p:Prop)[Decidable p](a b:α):(bif decide p then a else b)=if p then a else b:=by by_cases h:p<;>simp[h]
theorem bifnd{α:Type}(p:Prop)[Decidable p](a b:α):(bif !decide p then a else b)=if p then b else a:=by by_cases h:p<;>simp[h]
theorem bifT{α:Type}(a b:α):(bif true then a else b)=a:=Eq.symm (Eq.symm rfl)
theorem bifF{α:Type}(a b:α):(bif false then a else b)=b:=Eq.symm (Eq.symm rfl)
theorem jn_eq{σ ρ:Type}(A:(σ->Option ρ)->Option ρ)(k:σ->Option ρ):jn A k=A k:=Eq.symm (Eq.symm rfl)
theorem Wj{τ ρ:Type}(k:τ->Option ρ)(t:τ):lpK k (.go t)=k t:=Eq.symm (Eq.symm rfl)
theorem Qfl{τ ρ:Type}(k:τ->Option ρ)(r:ρ):lpK k (.out r)=some r:=Eq.symm (Eq.symm rfl)
theorem sbind{α β:Type}(a:α)(f:α->Option β):(some a).bind f=f a:=Eq.symm (Eq.symm rfl)
theorem Qfm{α:Type}(l:List α)(i:Nat):getI l (i:Int)=l[i]?:=by simp[getI]
theorem Xx{α:Type}{l:List α}{i:Nat}(h:i<l.length):getI l (i:Int)=some l[i]:=by rw[Qfm];simp[h]
theorem grd_t{b:Bool}(h:b=true):grd b=some ():=by rw[h];rfl
theorem Q0f{α:Type}{l:List α}{k:Nat}(h:k<=l.length):sub l 0 (k:Int)=some (l.take k):=by unfold sub;rw[oo om];simp
theorem Vm{α:Type}{b:Nat}{l r:List α}(h:(l.length+r.length)*b<=140737488355328)(a:l.length+r.length<=9223372036854775807):appM b l r=some (l++r):=by unfold appM;rw[oo ⟨h,a⟩]
theorem Qbg{α:Type}{b:Nat}{z:α}{n:Nat}(h:n*b<=140737488355328)(a:n<=9223372036854775807):mkM b z (n:Int)=some (List.replicate n z):=by unfold mkM;rw[oo om];simp
theorem Qmy{σ τ:Type}{f:σ->Option (Lp σ τ)}(μ:σ->Nat)(I:σ->Prop)(Q:τ->Prop)
 (i:∀ s,I s->(∃ a,f s=some (.go a)/\I a/\μ a<μ s)\/(∃ t,f s=some (.out t)/\Q t)):∀(n:Nat) (s:σ),I s->μ s<n->∃ t,loopM f n s=some t/\Q t
 | 0,_,_,h=>absurd h (Nat.not_lt_zero _)
 | n+1,s,m,r=>by rcases i s m with ⟨a,d,e,q⟩ | ⟨t,d,e⟩;obtain⟨t,j,l⟩:=Qmy μ I Q i n a e om;exact⟨t,by simp only[loopM,d,xq];exact j,l⟩;exact⟨t,by simp only[loopM,d,xq],e⟩
theorem Vr{σ τ R:Type}{f:σ->Option (Lp σ τ)}{n:Nat}{s:σ}{k:τ->Option R}{r:R}(μ:σ->Nat)(I:σ->Prop)(Q:τ->Prop)(h0:I s)(j:μ s<n)
 (i:∀ s,I s->(∃ a,f s=some (.go a)/\I a/\μ a<μ s)\/(∃ t,f s=some (.out t)/\Q t)) (hk:∀ t,Q t->k t=some r):(loopM f n s).bind k=some r:=by
 obtain⟨t,d,e⟩:=Qmy μ I Q i n s h0 j;rw[d,xq];exact hk t e
theorem Qag{σ τ R:Type}{f:σ->Option (Lp σ τ)}{n:Nat}{s:σ}{k:τ->Option R}{P:R->Prop}(μ:σ->Nat)(I:σ->Prop)(Q:τ->Prop)(h0:I s)(j:μ s<n)
 (i:∀ s,I s->(∃ a,f s=some (.go a)/\I a/\μ a<μ s)\/(∃ t,f s=some (.out t)/\Q t)) (hk:∀ t,Q t->∃ r,k t=some r/\P r):∃ r,(loopM f n s).bind k=some r/\P r:=by
 obtain⟨t,d,e⟩:=Qmy μ I Q i n s h0 j;rw[d,xq];exact hk t e
theorem Qyh{σ τ R β:Type}{f:σ->Option (Lp σ τ)}{n:Nat}{s:σ}{k:τ->Option R}{g:β->R}{P:β->Prop}(μ:σ->Nat)(I:σ->Prop)(Q:τ->Prop)(h0:I s)(j:μ s<n)
 (i:∀ s,I s->(∃ a,f s=some (.go a)/\I a/\μ a<μ s)\/(∃ t,f s=some (.out t)/\Q t)) (hk:∀ t,Q t->∃ b,k t=some (g b)/\P b):∃ b,(loopM f n s).bind k=some (g b)/\P b:=by
 obtain⟨t,d,e⟩:=Qmy μ I Q i n s h0 j;rw[d,xq];exact hk t e
theorem Qr1{σ τ:Type}{f:σ->Option (Lp σ τ)}{s a:σ}{n:Nat}(h:f s=some (.go a)):loopM f (n+1) s=loopM f n a:=by simp only[loopM,h,xq]
theorem Qjl{σ τ:Type}{f:σ->Option (Lp σ τ)}{s:σ}{t:τ}{n:Nat}(h:f s=some (.out t))(a:0<n):loopM f n s=some t:=by
 obtain⟨m,rfl⟩:∃ m,n=m+1:=⟨n - 1,om⟩
 simp only[loopM,h,xq]
theorem Qod{α σ τ:Type}{f:Nat->α->σ->Option (Lp σ τ)}(I:Nat->σ->Prop):∀(xs:List α) (i:Nat) (s:σ),I i s->(∀ j x s,xs[j]?=some x->I (i+j) s->∃ a,f (i+j) x s=some (.go a)/\I (i+j+1) a) ->
 ∃ a,rangeL f xs i s=some (.go a)/\I (i+xs.length) a
 | [],i,s,h,_=>⟨s,rfl,h⟩
 | x::xs,i,s,h,l=>by
   obtain⟨s1,d,e⟩:=l 0 x s rfl h;simp only[xf] at d e
   obtain⟨v,m,q⟩:=Qod I xs (i+1) s1 e (λj y t r u=>by
    have:=l (j+1) y t (by simpa using r) (by rw[show i+(j+1)=i+1+j by omega];exact u);rw[show i+(j+1)=i+1+j by omega] at this
    exact this)
   refine⟨v,by simp only[rangeL,d,xq];exact m,?_⟩;rw[xp,show i+(xs.length+1)=i+1+xs.length by omega];exact q
theorem Qgi{α σ τ R:Type}{f:Nat->α->σ->Option (Lp σ τ)}{xs:List α}{s:σ}{k:Lp σ τ->Option R}{r:R}(I:Nat->σ->Prop)(h0:I 0 s)
 (l:∀ j x s,xs[j]?=some x->I j s->∃ a,f j x s=some (.go a)/\I (j+1) a) (hk:∀ t,I xs.length t->k (.go t)=some r):(rangeL f xs 0 s).bind k=some r:=by
 obtain⟨a,e,i⟩:=Qod I xs 0 s h0 (λj x s m d=>by rw[xr] at d |-;exact l j x s m d);rw[e,xq];exact hk a (by simpa using i)
theorem Qk8{α σ τ R:Type}{f:Nat->α->σ->Option (Lp σ τ)}{xs:List α}{s:σ}{k:Lp σ τ->Option R}{P:R->Prop}(I:Nat->σ->Prop)(h0:I 0 s)
 (l:∀ j x s,xs[j]?=some x->I j s->∃ a,f j x s=some (.go a)/\I (j+1) a) (hk:∀ t,I xs.length t->∃ r,k (.go t)=some r/\P r):∃ r,(rangeL f xs 0 s).bind k=some r/\P r:=by
 obtain⟨a,e,i⟩:=Qod I xs 0 s h0 (λj x s m d=>by rw[xr] at d |-;exact l j x s m d);rw[e,xq];exact hk a (by simpa using i)
theorem J6{α:Type}{l:List α}{i:Nat}{x:α}(h:l[i]?=some x):getI l (i:Int)=some x:=by rw[Qfm,h]
theorem Vs{α:Type}{l:List α}{i:Nat}{x:α}(h:l[i]?=some x):i<l.length:=by rcases xd i l.length with a | a;exact a;rw[ou a] at h;cases h
theorem Kg{α:Type}{l:List α}{i:Nat}{x:α}(h:l[i]?=some x):x∈l:=wj h
theorem w1{i:Nat}(h:i<9223372036854775807):wrap64 ((i:Int)+1)=((i+1:Nat):Int):=by rw[w64 om om];omega
theorem Qta{σ τ:Type}{f:σ->Option (Lp σ τ)}(F:Nat->σ){t:τ}:∀(N k n:Nat),(∀ i,i<N->f (F (k+i))=some (.go (F (k+i+1))))->f (F (k+N))=some (.out t)->N<n->loopM f n (F k)=some t
 | 0,k,n,_,a,e=>Qjl a om
 | N+1,k,n,d,a,e=>by
   obtain⟨m,rfl⟩:∃ m,n=m+1:=⟨n - 1,om⟩
   have h0:=d 0 om;simp only[xf] at h0;rw[Qr1 h0];exact Qta F N (k+1) m (λi hi=>by have:=d (i+1) om;rw[show k+(i+1)=k+1+i by omega] at this;exact this) (by rw[show k+1+N=k+(N+1) by omega];exact a) om
theorem Yu{σ τ R:Type}{f:σ->Option (Lp σ τ)}{s:σ}{K:τ->Option R}{n:Nat}(F:Nat->σ)(N:Nat)(t:τ)(a:∀ i,i<N->f (F i)=some (.go (F (i+1))))(d:f (F N)=some (.out t))(e:N<n)(j:s=F 0):(loopM f n s).bind K=K t:=by rw[j,Qta F (t:=t) N 0 n (λi hi=>by rw[xr];exact a i hi) (by rw[xr];exact d) e,xq]
theorem Qqu{α σ τ:Type}{f:Nat->α->σ->Option (Lp σ τ)}(F:Nat->σ):∀(xs:List α) (k:Nat),(∀ i x,xs[i]?=some x->f (k+i) x (F (k+i))=some (.go (F (k+i+1))))->rangeL f xs k (F k)=some (.go (F (k+xs.length)))
 | [],_,_=>rfl
 | x::xs,k,a=>by have h0:=a 0 x rfl;simp only[xf] at h0;simp only[rangeL,h0,xq];rw[Qqu F xs (k+1) (λi y d=>by have:=a (i+1) y (by simpa using d);rw[show k+(i+1)=k+1+i by omega] at this;exact this),xp,show k+1+xs.length=k+(xs.length+1) by omega]
theorem Qfn{α σ τ R:Type}{f:Nat->α->σ->Option (Lp σ τ)}{s:σ}{K:Lp σ τ->Option R}(F:Nat->σ)(xs:List α)(a:∀ i x,xs[i]?=some x->f i x (F i)=some (.go (F (i+1))))(d:s=F 0):(rangeL f xs 0 s).bind K=K (.go (F xs.length)):=by rw[d,Qqu F xs 0 (λi x e=>by rw[xr];exact a i x e),xq,xr]
theorem Qqv{α R:Type}{f:Nat->α->Unit->Option (Lp Unit R)}{r:R}(P:Nat->α->Prop):∀(xs:List α) (k:Nat),(∀ i x,xs[i]?=some x->(P (k+i) x->f (k+i) x ()=some (.go ()))/\(¬ P (k+i) x->f (k+i) x ()=some (.out r))) ->
 ((∀ i x,xs[i]?=some x->P (k+i) x)->rangeL f xs k ()=some (.go ()))/\(¬(∀ i x,xs[i]?=some x->P (k+i) x)->rangeL f xs k ()=some (.out r))
 | [],k,_=>⟨λ_=>rfl,λh=>absurd (λi x s=>by simp at s) h⟩
 | x::xs,k,m=>by
   obtain⟨j,l⟩:=m 0 x rfl;simp only[xf] at j l;obtain⟨g1,q⟩:=Qqv P xs (k+1) (λi y a=>by have:=m (i+1) y (by simpa using a);rw[show k+(i+1)=k+1+i by omega] at this;exact this);by_cases d:P k x;have e:(∀ i y,(x::xs)[i]?=some y->P (k+i) y)↔(∀ i y,xs[i]?=some y->P (k+1+i) y):=by
    constructor;intro h i y a;have:=h (i+1) y (by simpa using a);rw[show k+(i+1)=k+1+i by omega] at this;exact this;intro h i y a;cases i with
    | zero=>simp at a;subst a;exact d
    | succ i=>rw[show k+(i+1)=k+1+i by omega];exact h i y (by simpa using a)
   rw[e];simp only[rangeL,j d,xq];exact⟨g1,q⟩;refine⟨λh=>absurd (h 0 x rfl) d,λ_=>?_⟩;simp only[rangeL,l d,xq]
open Classical in
theorem Zp{α R:Type}{f:Nat->α->Unit->Option (Lp Unit R)}{K:Unit->Option R}{r:R}(P:Nat->α->Prop)(xs:List α)
 (d:∀ i x,xs[i]?=some x->(P i x->f i x ()=some (.go ()))/\(¬ P i x->f i x ()=some (.out r))) :
 (rangeL f xs 0 ()).bind (lpK K)=if (∀ i x,xs[i]?=some x->P i x) then K () else some r:=by
 obtain⟨g1,a⟩:=Qqv P xs 0 (λi x e=>by rw[xr];exact d i x e);simp only[xr] at g1 a;by_cases h:∀ i x,xs[i]?=some x->P i x;rw[oo h,g1 h,xq,Wj];rw[ol h,a h,xq,Qfl]
theorem Qtb{R:Type}{f:Int->Option (Lp Int (Lp Unit R))}{r:R}(P:Nat->Prop):∀(N k n:Nat),(∀ i,i<k+N->k<=i->(P i->f (i:Int)=some (.go ((i+1:Nat):Int)))/\(¬ P i->f (i:Int)=some (.out (.out r))))->f ((k+N:Nat):Int)=some (.out (.go ()))->N<n ->
 ((∀ i,k<=i->i<k+N->P i)->loopM f n (k:Int)=some (.go ()))/\(¬(∀ i,k<=i->i<k+N->P i)->loopM f n (k:Int)=some (.out r))
 | 0,k,n,_,j,v=>⟨λ_=>Qjl j om,λh=>absurd (λi l q=>by omega) h⟩
 | N+1,k,n,s,j,v=>by
   obtain⟨m,rfl⟩:∃ m,n=m+1:=⟨n - 1,om⟩
   obtain⟨l,q⟩:=s k om (xn _);obtain⟨g1,u⟩:=Qtb P N (k+1) m (λi hi hk=>s i om om) (by rw[show k+1+N=k+(N+1) by omega];exact j) om;by_cases d:P k;have e:(∀ i,k<=i->i<k+(N+1)->P i)↔(∀ i,k+1<=i->i<k+1+N->P i):=by constructor;intro h i a b;exact h i om om;intro h i a b;rcases Nat.eq_or_lt_of_le a with c | c;exact c ▸ d;exact h i c om
   rw[e,Qr1 (l d)];exact⟨g1,u⟩;exact⟨λh=>absurd (h k (xn _) om) d,λ_=>Qjl (q d) om⟩
open Classical in
theorem Qg3{R:Type}{f:Int->Option (Lp Int (Lp Unit R))}{K:Unit->Option R}{r:R}{n:Nat}(P:Nat->Prop)(N:Nat)
 (d:∀ i,i<N->(P i->f (i:Int)=some (.go ((i+1:Nat):Int)))/\(¬ P i->f (i:Int)=some (.out (.out r)))) (e:f (N:Int)=some (.out (.go ()))) (j:N<n) :
 (loopM f n 0).bind (lpK K)=if (∀ i,i<N->P i) then K () else some r:=by
 obtain⟨g1,a⟩:=Qtb (n:=n) (r:=r) P N 0 (λi hi _=>d i om) (by rw[xr];exact e) j;simp only[xr,xo,true_implies] at g1 a;by_cases h:∀ i,i<N->P i;rw[oo h];have:=g1 h;rw[show((0:Nat):Int)=0 from rfl] at this;rw[this,xq,Wj];rw[ol h];have:=a h;rw[show((0:Nat):Int)=0 from rfl] at this;rw[this,xq,Qfl]
theorem Xv{α β:Type}(h:α->β){l:List α}{i:Nat}{x:α}(a:l[i]?=some x):(l.take (i+1)).map h=(l.take i).map h++[h x]:=by
 rw[wq (Vs a),xw];have:l[i]'(Vs a)=x:=by have:=oq (Vs a);rw[this] at a;exact Option.some.inj a
 simp[this]
def val:List Nat->Nat
 | []=>0
 | x::a=>x+4294967296*val a
def bp(k:Nat):Nat:=4294967296 ^ k
theorem Xf:bp 0=1:=by unfold bp;rw[Nat.pow_zero]
theorem Kc(k:Nat):bp (k+1)=bp k*4294967296:=by unfold bp;rw[Nat.pow_succ]
theorem bp_le{j k:Nat}(h:j<=k):bp j<=bp k:=by unfold bp;exact vu oz h
theorem Q3i(k:Nat):0<bp k:=by unfold bp;exact Nat.pow_pos oz
theorem Qzb(j k:Nat):bp (j+k)=bp j*bp k:=by unfold bp;rw[uo]
def Wd(a:List Nat):Prop:=∀ x∈a,x<4294967296
def trimZ:List Nat->List Nat
 | []=>[]
 | x::a=>if trimZ a=[]/\x=0 then [] else x::trimZ a
def toL(n:Nat):List Nat:=if n=0 then [] else n%4294967296::toL (n / 4294967296)
termination_by n
decreasing_by omega
theorem J4:Wd []:=λ_ h=>by cases h
theorem Jg{x a}:Wd (x::a)↔x<4294967296/\Wd a:=by simp[Wd]
theorem Je{a b}:Wd (a++b)↔Wd a/\Wd b:=by constructor;intro h;exact⟨λx d=>h x (List.mem_append_left _ d),λx d=>h x (List.mem_append_right _ d)⟩;rintro⟨e,f⟩ x d;rcases yw.1 d with h | h;exact e x h;exact f x h
theorem Qiu{a k}(h:Wd a):Wd (a.take k):=λx d=>h x (vf d)
theorem Qfo{a k}(h:Wd a):Wd (a.drop k):=λx d=>h x (vg d)
theorem Qgj{k x}(h:x<4294967296):Wd (List.replicate k x):=λy a=>by rw[(List.mem_replicate.1 a).2];exact h
theorem W5{a:List Nat}(h:Wd a){i:Nat}(hi:i<a.length):a[i]<4294967296:=h _ (um hi)
theorem K0:toL 0=[]:=by rw[toL];rfl
theorem Yb{n:Nat}(h:n≠0):toL n=n%4294967296::toL (n / 4294967296):=by rw[toL];rw[ol h]
theorem Qu(n:Nat):val (toL n)=n:=by
 induction n using Nat.strongRecOn with
 | _ n a=>
   by_cases h:n=0;subst h;rw[K0];rfl;rw[Yb h];simp only[val];rw[a (n / 4294967296) om];omega
theorem Q3(n:Nat):Wd (toL n):=by
 induction n using Nat.strongRecOn with
 | _ n a=>
   by_cases h:n=0;subst h;rw[K0];exact J4;rw[Yb h];exact Jg.2 ⟨om,a (n / 4294967296) om⟩
theorem Ji{a:List Nat}(h:Wd a):toL (val a)=trimZ a:=by
 induction a with
 | nil=>simp[val,K0,trimZ]
 | cons x a d=>
   obtain⟨l,j⟩:=Jg.1 h;have d:=d j;simp only[val,trimZ];by_cases i:val a=0;rw[i,K0] at d;rw[<-d,i];by_cases e:x=0;subst e;simp[K0];rw[ol (λh=>e h.2),Yb om];rw[show(x+4294967296*0)%4294967296=x by omega,show(x+4294967296*0) / 4294967296=0 by omega,K0];have f:trimZ a≠[]:=by rw[<-d,Yb i];simp
   rw[ol (λh=>f h.1),Yb om,show(x+4294967296*val a)%4294967296=x by omega,show(x+4294967296*val a) / 4294967296=val a by omega,d]
theorem Qj9(a:List Nat):val (trimZ a)=val a:=by
 induction a with
 | nil=>rfl
 | cons x a d=>
   simp only[trimZ];split;rename_i h;rw[h.1] at d;simp[val] at d |-;omega;simp[val,d]
theorem Qvl{a:List Nat}(h:Wd a):Wd (trimZ a):=by rw[<-Ji h];exact Q3 _
theorem Wk(a:List Nat):(trimZ a).length<=a.length:=by
 induction a with
 | nil=>simp[trimZ]
 | cons x a d=>simp only[trimZ];split<;>simp;omega
theorem Qzc{a:List Nat}(h:trimZ a=[]):val a=0:=by rw[<-Qj9,h];rfl
theorem Qoe{a:List Nat}(h:Wd a):trimZ a=[]↔val a=0:=by constructor;exact Qzc;intro d;rw[<-Ji h,d,K0]
theorem Qzd(n:Nat):trimZ (toL n)=toL n:=by rw[<-Ji (Q3 n),Qu]
theorem Qk9(a:List Nat):trimZ (a++[0])=trimZ a:=by
 induction a with
 | nil=>simp[trimZ]
 | cons x a d=>simp only[yr,trimZ,d]
theorem Qqw(a:List Nat){x:Nat}(h:x≠0):trimZ (a++[x])=a++[x]:=by
 induction a with
 | nil=>simp[trimZ,h]
 | cons y a d=>simp only[yr,trimZ,d];rw[ol oc]
theorem Vc(a b:List Nat):val (a++b)=val a+bp a.length*val b:=by
 induction a with
 | nil=>simp[val,Xf]
 | cons x a d=>simp only[yr,val,d,xp,Kc];rw[vj,<-yz,uz 4294967296 (bp a.length)];omega
theorem Vi{a:List Nat}(h:Wd a):val a<bp a.length:=by
 induction a with
 | nil=>simp[val,Xf]
 | cons x a e=>
   obtain⟨f,d⟩:=Jg.1 h;have:=e d;simp only[val,xp,Kc];omega
theorem Qaw(k:Nat):val (List.replicate k 0)=0:=by
 induction k with
 | zero=>rfl
 | succ k a=>simp[ue,val,a]
theorem Qah{n k:Nat}(h:n<bp k):(toL n).length<=k:=by
 induction k generalizing n with
 | zero=>rw[Xf] at h;obtain rfl:n=0:=om
         simp[K0]
 | succ k a=>
   by_cases h0:n=0;subst h0;simp[K0];rw[Yb h0,xp];have:=@a (n / 4294967296) (by rw[Kc] at h;exact vv (by rw[uz];exact h));omega
theorem Jy{α:Type}{a:List α}{k:Nat}(h:k<a.length):a.take (k+1)=a.take k++[a[k]]:=by simp[]
theorem Vn{n:Nat}{a:List Nat}(f:big<=n)(i:a.length<=4611686018427387904):Vt n a=some (trimZ a):=by
 unfold Vt;unfold big at f;refine Vr (λs=>s.toNat) (λs=>∃ k:Nat,s=k/\k<=a.length/\trimZ a=trimZ (a.take k)) (λt=>∃ k:Nat,t=k/\k<=a.length/\trimZ a=a.take k) ⟨a.length,rfl,xn _,oc⟩ oh ?_ ?_;rintro s ⟨k,rfl,hk,d⟩;simp only[jn_eq,bifd];by_cases h0:0<k;obtain⟨j,rfl⟩:∃ j,k=j+1:=⟨k - 1,om⟩
 rw[oo om,w64 om om,show((j+1:Nat):Int) - 1=(j:Nat) by omega,Xx (show j<a.length by omega),sbind];rw[Jy (show j<a.length by omega)] at d;by_cases e:a[j]=0;left;refine⟨(j:Nat),by simp[e],⟨j,rfl,om,?_⟩,om⟩;rw[d,e,Qk9];right;refine⟨((j+1:Nat):Int),by simp[e],j+1,rfl,hk,?_⟩;rw[d,Jy (show j<a.length by omega),Qqw _ e];right;obtain rfl:k=0:=om
 exact⟨0,oc,0,rfl,xo _,by rw[d];simp[trimZ]⟩;rintro t ⟨k,rfl,hk,d⟩;rw[Q0f hk,sbind,d]
theorem Q0g{a:List Nat}{k:Nat}:cpyL (List.replicate (a.length+k) 0) a=a++List.replicate k 0:=by unfold cpyL;rw[vc,ow om,List.drop_replicate,vn]
theorem Qg4{a:List Nat}{k:Nat}(h:a.length+k<=35184372088832):Qao a (k:Int)=some (a++List.replicate k 0):=by unfold Qao;rw[w64 om om,show((a.length:Int)+(k:Int))=((a.length+k:Nat):Int) by omega,Qbg om om,sbind,Q0g]
theorem Vo{n:Nat}{a:List Nat}(d:big<=n)(e:a.length<=35184372088832):Kt n a=some (trimZ a):=by unfold Kt;have f:=Wk a;rw[Vn d om,sbind,show(0:Int)=((0:Nat):Int) by rfl,Qg4 om,sbind];simp
theorem Qm9{n:Nat}{a:List Nat}(e:big<=n)(d:a.length<=4611686018427387904)(f:Wd a):Zg n a=some (decide (val a=0)):=by unfold Zg;rw[Vn e d,sbind];congr 1;rw[Bool.eq_iff_iff];simp only[ur];rw[<-Qoe f];constructor;intro h;exact xc om;intro h;rw[h];rfl
theorem Qmz{x y c d:Nat}(e:x<4294967296)(f:y<4294967296)(a:c<4294967296)(hd:d<4294967296):x*y+c+d<18446744073709551616:=by have:x*y<=4294967295*4294967295:=Nat.mul_le_mul om om;omega
theorem Qh7{x y c d:Nat}(e:x<4294967296)(f:y<4294967296)(a:c<4294967296)(hd:d<4294967296):
 Zf x y c d=some ((x*y+c+d) / 4294967296,(x*y+c+d)%4294967296):=by
 have h:=Qmz e f a hd;unfold Zf;rw[xa (show x*y<18446744073709551616 by omega),xa (show x*y+c<18446744073709551616 by omega),xa h,sbind];rw[show(2:Nat) ^ 32=4294967296 by rfl,xa (show(x*y+c+d) / 4294967296<4294967296 by omega)]
theorem Qr2{x y:Nat}(a:y<4294967296):x*4294967296 ||| y=x*4294967296+y:=by have:=Nat.two_pow_add_eq_or_of_lt (i:=32) (b:=y) (by simpa using a) x;rw[show(2:Nat) ^ 32=4294967296 by rfl,uz] at this;exact this.symm
theorem Qna{h l y:Nat}(f:h<y)(d:l<4294967296)(i:y<4294967296):
 Qab h l y=some ((h*4294967296+l) / y,(h*4294967296+l)%y,true):=by
 unfold Qab;rw[bifd,ol om,grd_t oh,sbind,sbind];rw[show(2:Nat) ^ 32=4294967296 by rfl,xa (show h*4294967296<18446744073709551616 by omega),Qr2 d]
 have a:(h*4294967296+l) / y<4294967296:=vv (by
  have:h*4294967296+4294967296<=y*4294967296:=om
  omega)
 have e:(h*4294967296+l)%y<y:=yg _ om;rw[xa a,xa (show(h*4294967296+l)%y<4294967296 by omega)]
theorem Q1m{α:Type}(p:List α)(y:α)(r:List α):(p++y::r)[p.length]?=some y:=oc
theorem Q1n{α:Type}(p:List α)(y z:α)(r:List α):(p++y::r).set p.length z=p++z::r:=oc
theorem J2{α:Type}{k:Nat}{p:List α}{y:α}{r:List α}(h:p.length=k):getI (p++y::r) (k:Int)=some y:=by rw[Qfm,<-h,Q1m]
theorem Vk{α:Type}{k:Nat}{p:List α}{y z:α}{r:List α}(h:p.length=k):(p++y::r).set (k:Int).toNat z=p++z::r:=by rw[ut,<-h,Q1n]
theorem Jq(a:List Nat)(x:Nat):val (a++[x])=val a+bp a.length*x:=by rw[Vc];simp[val]
theorem Qze{α:Type}{l:List α}{k:Nat}(h:k<l.length):l=l.take k++l[k]::l.drop (k+1):=oc
theorem Q0h(P x y m a u v V M A c:Nat)(e:4294967296*u+v=x*y+m+a)(d:V+P*a=M+x*A+c):V+P*v+P*4294967296*u=M+P*m+x*(A+P*y)+c:=by grind
theorem Qtw{p m q a:List Nat}{z x c:Nat}(M:m.length=a.length)(N:p.length+m.length+1+q.length<=4611686018427387904)(H:Wd m)(G:Wd a)(J:x<4294967296)(L:c<4294967296):
 ∃ r,Qaa (p++m++z::q) (p.length:Int) a x c=some (p++r++q)/\r.length=a.length+1/\Wd r/\val r=val m+x*val a+c:=by
 have key:∃ r,Qaa (p++m++z::q) (p.length:Int) a x c=some r/\∃ v,r=p++v++q/\v.length=a.length+1/\Wd v/\val v=val m+x*val a+c:=by
  unfold Qaa;refine Qk8 (λj (s:List Nat×Nat)=>∃ e,s.1=p++e++(m.drop j++z::q)/\e.length=j/\j<=a.length/\Wd e/\s.2<4294967296/\val e+bp j*s.2=val (m.take j)+x*val (a.take j)+c) ⟨[],oc,rfl,xo _,J4,L,by simp[val,Xf]⟩ ?_ ?_;rintro j y ⟨o,E⟩ I ⟨e,f,i,F,w,d,A⟩;simp only at f d A;subst f;have l:j<a.length:=by rcases xd j a.length with h | h;exact h;simp[ou h] at I
  have K:a[j]=y:=by simpa [l] using I
  have C:y<4294967296:=by rw[<-K];exact W5 G l
  have u:j<m.length:=om
  have B:m[j]<4294967296:=W5 H u;rw[w64 om om,show((p.length:Int)+(j:Int))=((p.length+j:Nat):Int) by omega,xz u,yr];rw[J2 oh,sbind,Qh7 J C B d,sbind,sbind,Vk oh];refine⟨_,rfl,e++[(x*y+m[j]+E)%4294967296],oc,by simp[i],om,Je.2 ⟨w,Jg.2 ⟨om,J4⟩⟩,by have:=Qmz J C B d;simp only[];omega,?_⟩;rw[Jy u,Jy l,Jq,Jq,Jq,K,i,xh,xh,xj om,xj om,Kc];exact Q0h _ _ _ _ _ _ _ _ _ _ _ (uc (x*y+m[j]+E) 4294967296) A;rintro⟨o,E⟩ ⟨e,f,i,F,w,d,A⟩;simp only at f d A;subst f;simp only[Wj];rw[w64 om om,show((p.length:Int)+(a.length:Int))=((p.length+a.length:Nat):Int) by omega,xb om,yo];rw[J2 oh,sbind,Vk oh];refine⟨_,rfl,e++[E],oc,by simp[i],Je.2 ⟨w,Jg.2 ⟨d,J4⟩⟩,?_⟩;rw[Jq,i,A,ow om,ow (xn _)]
 obtain⟨r,f,v,i,F,w,d⟩:=key;exact⟨v,by rw[f,i],F,w,d⟩
theorem Qcb{n x:Nat}(d:big<=n)(e:x<18446744073709551616):Xl n x=some (toL x):=by
 unfold Xl
 rw[show(2:Nat) ^ 32=4294967296 by rfl,Vn d oc,sbind,<-Ji (by
  intro y a;simp only[xl,List.not_mem_nil,or_false] at a
  rcases a with rfl | rfl<;>omega)]
 congr 2;simp only[val];omega
theorem Q0i(P q a r x s y d:Nat)(e:x*q+a=r*P+y)(h:d=x*s+r):y+P*d=x*(q+P*s)+a:=by grind
theorem Qr3{n:Nat}{a:List Nat}{x:Nat}(C:big<=n)(G:a.length<35184372088832)(E:Wd a)(A:x≠0)(F:x<4294967296):Qb3 n a x=some (toL (val a / x),val a%x,true):=by
 unfold Qb3;unfold big at C;rw[bifd,ol A,Qbg om om,sbind]
 refine Vr (λs=>(s.2.2+1).toNat) (λs=>∃(k:Nat) (e:List Nat),s.2.2=(k:Int) - 1/\k<=a.length/\s.1=List.replicate k 0++e/\e.length=a.length - k/\Wd e/\s.2.1<x/\val (a.drop k)=x*val e+s.2.1)
  (λt=>t.1.length=a.length/\Wd t.1/\t.2<x/\val a=x*val t.1+t.2) ⟨a.length,[],by simp only[];rw[w64 om om],xn _,oc,oc,J4,by simp only[];omega,by simp[val]⟩ (by simp only[];rw[w64 om om];omega) ?_ ?_
 rintro⟨q,r,i⟩ ⟨k,e,f,u,d,l,B,v,w⟩;simp only at f d v w;subst f d;simp only[bifd];by_cases h0:0<k;obtain⟨j,rfl⟩:∃ j,k=j+1:=⟨k - 1,om⟩
 have m:j<a.length:=om
 left;rw[oo om,show((j+1:Nat):Int) - 1=(j:Nat) by omega,Xx m,sbind,Qna v (W5 E m) F,sbind];simp only[];rw[List.replicate_succ',xe,List.singleton_append,J2 oc,sbind,Vk oc,w64 om om];refine⟨_,rfl,⟨j,((r*4294967296+a[j]) / x)::e,rfl,om,rfl,oh,Jg.2 ⟨?_,B⟩,yg _ om,?_⟩,by simp only[];omega⟩;have:=W5 E m
 exact vv (by
  have:r*4294967296+4294967296<=x*4294967296:=om
  omega)
 rw[xz m];simp only[val];exact Q0i 4294967296 _ _ _ _ _ _ _ (uc (r*4294967296+a[j]) x) w;right;obtain rfl:k=0:=om
 rw[ol om];exact⟨_,rfl,by simp at l |-;omega,by simpa using B,v,by simpa using w⟩;rintro⟨q,r⟩ ⟨f,u,d,l⟩;simp only at f u d l;simp only[];rw[Vo (by unfold big;exact C) om,sbind,<-Ji u,l,Nat.mul_add_div om,Nat.mul_add_mod,ve d,xa d,xf]
theorem K6{n:Nat}{a:List Nat}(l:big<=n)(m:a.length<=35184372088832):Jd n a=some (trimZ a):=by
 have h:=Vn l (show a.length<=4611686018427387904 by omega);have q:=Wk a;unfold Jd;unfold Vt at h
 cases hk:loopM (λ(d:Int)=>
  jn (λ(e:(Bool)->Option _)=>
   bif decide ((0:Int)<d) then (
    (getI a (wrap64 (d - (1:Int)))).bind λi=>
    e (decide (i=0)))
   else (
    e false)) (λ(f:Bool)=>
   bif f then (
    some (Lp.go (wrap64 (d - (1:Int)))))
   else (
    some (Lp.out d)))) n (a.length:Int) with
 | none=>rw[hk] at h;cases h
 | some t=>
   rw[hk] at h;rw[sbind] at h |-;cases j:sub a (0:Int) t with
   | none=>rw[j] at h;cases h
   | some b=>
     rw[j,sbind] at h;rw[sbind];obtain rfl:b=trimZ a:=by simpa using h
     rw[Vm oh oh,sbind,yo]
theorem Qka{n:Nat}{a b:List Nat}(i:big<=n)(j:a.length<=4611686018427387904):Wq n a b=some (decide (a=b)):=by unfold Wq;unfold big at i;rw[bifnd];by_cases f:a.length=b.length;rw[oo om];refine Vr (λs=>a.length - s.toNat) (λs=>∃ k:Nat,s=k/\k<=a.length/\a.take k=b.take k) (λt=>(t=.go ()/\a=b)\/(t=.out false/\a≠b)) ⟨0,rfl,xo _,oc⟩ om ?_ ?_;rintro s ⟨k,rfl,hk,d⟩;simp only[bifd,bifnd];by_cases h:k<a.length;rw[oo om,Xx h,sbind,Xx (show k<b.length by omega),sbind];by_cases e:a[k]=b[k];left;rw[oo e,w64 om om];refine⟨_,rfl,⟨k+1,om,om,?_⟩,om⟩;rw[Jy h,Jy (show k<b.length by omega),d,e];right;rw[ol e];exact⟨_,rfl,.inr ⟨rfl,λh=>e (by simp[h])⟩⟩;right;rw[ol om];refine⟨_,rfl,.inl ⟨rfl,?_⟩⟩;rw[ow om,ow om] at d;exact d;rintro t (⟨rfl,h⟩ | ⟨rfl,h⟩);rw[Wj];simp[h];rw[Qfl];simp[h];rw[ol om];have:a≠b:=λh=>f (by rw[h]);simp[this]
theorem Qdv{a:List Nat}(h:Wd a)(i:Nat):a.getD i 0<4294967296:=by rw[ui];by_cases hi:i<a.length;simp[hi];exact W5 h hi;simp[ou (show a.length<=i by omega)]
theorem K7(a:List Nat)(k:Nat):val (a.take (k+1))=val (a.take k)+bp k*a.getD k 0:=by by_cases h:k<a.length;rw[Jy h,Jq,xh,xj om];simp[h];rw[ow om,ow om];simp[ou (show a.length<=k by omega)]
theorem Ze{a:List Nat}{k:Nat}:Kb a (k:Int)=some (a.getD k 0):=by unfold Kb;rw[bifd];by_cases h:k<a.length;rw[oo om,Xx h,sbind];simp[h];rw[ol om];simp[ou (show a.length<=k by omega)]
theorem Q0j(P s x y u v V A C:Nat)(e:4294967296*u+v=s+(x+y))(h:V+P*s=A+C):V+P*v+P*4294967296*u=A+P*x+(C+P*y):=by grind
theorem Qyi(P Q s o a d:Nat)(_:Nat)(i:o+P*s=a+d)(j:a<Q)(l:d<Q)(f:P=Q*4294967296):s=0:=by rcases wc s with h | h;exact h;exfalso;have e:P*1<=P*s:=yv _ h;omega
theorem Qls{n:Nat}{a b:List Nat}(C:big<=n)(K:a.length<17592186044416)(L:b.length<17592186044416)(m:Wd a)(r:Wd b):Wy n a b=some (toL (val a+val b)):=by
 unfold Wy;unfold big at C;obtain⟨l,M⟩:∃ l:Nat,l=max a.length b.length:=⟨_,rfl⟩
 have f:max (a.length:Int) (b.length:Int)=(l:Int):=om
 have w:a.length<=l:=om
 have x:b.length<=l:=om
 have J:l<17592186044416:=om
 rw[f,w64 om om,show((l:Int)+1)=((l+1:Nat):Int) by omega,Qbg om om,sbind]
 refine Vr (λs=>(l+1) - s.2.2.toNat) (λs=>∃(k:Nat) (o:List Nat),s.2.2=k/\k<=l+1/\s.1=o++List.replicate (l+1 - k) 0/\o.length=k/\Wd o/\s.2.1<4294967296/\val o+bp k*s.2.1=val (a.take k)+val (b.take k))
  (λt=>t.length=l+1/\Wd t/\val t=val a+val b) ⟨0,[],rfl,om,oc,rfl,J4,oc,by simp[val,Xf]⟩ (by simp only[];omega) ?_ ?_
 rintro⟨q,s,i⟩ ⟨k,o,v,A,u,e,B,G,d⟩;simp only at v u G d;subst v u;simp only[sbind,bifd];by_cases hk:k<l+1;left;have N:=Qdv m k;have O:=Qdv r k;rw[oo om,Ze,sbind,Ze,sbind];obtain⟨j,I⟩:∃ j,l+1 - k=j+1:=⟨l - k,om⟩
 rw[I,ue,J2 e,sbind,Vk e,w64 om om];rw[xa (show a.getD k 0+b.getD k 0<18446744073709551616 by omega),xa (show s+(a.getD k 0+b.getD k 0)<18446744073709551616 by omega),Nat.mod_mod];refine⟨_,rfl,⟨k+1,o++[(s+(a.getD k 0+b.getD k 0))%4294967296],by simp only[];omega,om,?_,by simp[e],Je.2 ⟨B,Jg.2 ⟨om,J4⟩⟩,by simp only[];omega,?_⟩,by simp only[];omega⟩;simp only[];rw[show l+1 - (k+1)=j by omega];simp;simp only[];rw[K7,K7,Jq,e,Kc];exact Q0j _ _ _ _ _ _ _ _ _ (uc (s+(a.getD k 0+b.getD k 0)) 4294967296) d;right;obtain rfl:k=l+1:=om
 rw[ol om];refine⟨_,rfl,by simp[e],by simpa using B,?_⟩;rw[ow om,ow om] at d;have H:s=0:=by have g1:=Vi m;have E:=Vi r;have g3:bp a.length<=bp l:=bp_le w;have g4:bp b.length<=bp l:=bp_le x;have F:bp (l+1)=bp l*4294967296:=Kc _;exact Qyi _ _ _ _ _ _ 0 d (xx g1 g3) (xx E g4) F
 rw[H,ua,xf] at d
 simpa using d
 rintro t ⟨v,A,u⟩;rw[K6 (by unfold big;exact C) om,sbind,<-Ji A,u]
theorem Q0k(P x y m a u v V M A:Nat)(e:4294967296*u+v=a+(x*y+m))(d:V+P*a=M+x*A):V+P*v+P*4294967296*u=M+P*m+x*(A+P*y):=by grind
theorem Q1o(P Q A x b O R c p _ M z:Nat)(a:O=p+P*M)(d:R+Q*c=M+x*b)(e:O=A*b)(f:z=p+P*(R+Q*c)):z=(A+P*x)*b:=by grind
theorem Qkb{n:Nat}{a b:List Nat}(R:big<=n)(U:a.length+b.length<=35184372088832)(I:Wd a)(J:Wd b):J1 n a b=some (toL (val a*val b)):=by
 unfold J1;unfold big at R;rw[w64 om om,show((a.length:Int)+(b.length:Int))=((a.length+b.length:Nat):Int) by omega,Qbg om om,sbind]
 refine Vr (λs=>a.length - s.2.toNat) (λs=>∃(i:Nat) (o:List Nat),s.2=i/\i<=a.length/\s.1=o++List.replicate (a.length - i) 0/\o.length=i+b.length/\Wd o/\val o=val (a.take i)*val b)
  (λt=>t.length=a.length+b.length/\Wd t/\val t=val a*val b) ⟨0,List.replicate b.length 0,rfl,xo _,by simp only[Nat.sub_zero,List.replicate_append_replicate];rw[Nat.add_comm],oc,Qgj om,by rw[Qaw];simp[val]⟩ (by simp only[];omega) ?_ ?_
 rintro⟨q,X⟩ ⟨i,o,B,O,u,T,C,P⟩;simp only at B u;subst B u;simp only[bifd];by_cases hi:i<a.length;left;have M:=W5 I hi;obtain⟨j,V⟩:∃ j,a.length - i=j+1:=⟨a.length - i - 1,om⟩
 rw[oo om,V,ue];obtain⟨p,H⟩:∃ p,p=o.take i:=⟨_,rfl⟩
 obtain⟨m,E⟩:∃ m,m=o.drop i:=⟨_,rfl⟩
 have S:o=p++m:=by rw[H,E,uy]
 have f:p.length=i:=by rw[H,xh];omega
 have W:m.length=b.length:=by rw[E,vz];omega
 have L:Wd p:=by rw[H];exact Qiu C
 have K:Wd m:=by rw[E];exact Qfo C
 have G:val o=val p+bp i*val m:=by rw[S,Vc,f]
 rw[S]
 refine Qyh (λs=>b.length - s.2.2.toNat) (λs=>∃(k:Nat) (d:List Nat),s.2.2=k/\k<=b.length/\s.1=p++d++(m.drop k++0::List.replicate j 0)/\d.length=k/\Wd d/\s.2.1<4294967296/\val d+bp k*s.2.1=val (m.take k)+a[i]*val (b.take k))
  (λt=>∃ d:List Nat,t.1=p++d++0::List.replicate j 0/\d.length=b.length/\Wd d/\t.2<4294967296/\val d+bp b.length*t.2=val m+a[i]*val b) ⟨0,[],rfl,xo _,oc,rfl,J4,oc,by simp[val]⟩ (by simp only[];omega) ?_ ?_
 rintro⟨q,v,Y⟩ ⟨k,d,g1,w,g3,g4,l,A,r⟩;simp only at g1 g3 A r;subst g1 g3;simp only[];by_cases hk:k<b.length;left;have N:=W5 J hk;have e:k<m.length:=om
 have F:=W5 K e;have Q:=Qmz M N F A;rw[oo om,Xx hi,sbind,Xx hk,sbind,w64 (x:=(i:Int)+(k:Int)) om om,show((i:Int)+(k:Int))=((i+k:Nat):Int) by omega];rw[xz e,yr,J2 oh,sbind,sbind,sbind,sbind,Vk oh,sbind,w64 om om];rw[xa (show a[i]*b[k]<18446744073709551616 by omega),xa (show a[i]*b[k]+m[k]<18446744073709551616 by omega),xa (show v+(a[i]*b[k]+m[k])<18446744073709551616 by omega),Nat.mod_mod];refine⟨_,rfl,⟨k+1,d++[(v+(a[i]*b[k]+m[k]))%4294967296],by simp only[];omega,om,oc,by simp[g4],Je.2 ⟨l,Jg.2 ⟨om,J4⟩⟩,by simp only[];omega,?_⟩,by simp only[];omega⟩;simp only[];rw[Jy e,Jy hk,Jq,Jq,Jq,g4,xh,xh,xj om,xj om,Kc];exact Q0k _ _ _ _ _ _ _ _ _ _ (uc (v+(a[i]*b[k]+m[k])) 4294967296) r;right;obtain rfl:k=b.length:=om
 rw[ol om];refine⟨_,rfl,d,by simp only[];rw[xb om];simp,g4,l,A,?_⟩;rw[ow om,ow om] at r;exact r;rintro⟨q,c⟩ ⟨d,g1,w,g3,g4,l⟩;simp only at g1 g4 l;subst g1;rw[w64 (x:=(i:Int)+(b.length:Int)) om om,show((i:Int)+(b.length:Int))=((i+b.length:Nat):Int) by omega];simp only[];rw[J2 oh,sbind,Vk oh,sbind,w64 om om,xa g4];refine⟨_,rfl,⟨i+1,p++d++[c],by simp only[];omega,om,by simp only[];rw[show a.length - (i+1)=j by omega];simp,by simp[f,w];omega,Je.2 ⟨Je.2 ⟨L,g3⟩,Jg.2 ⟨g4,J4⟩⟩,?_⟩,by simp only[];omega⟩;rw[xe,Vc,Jq,f,w,Jy hi,Jq,xh,xj om];exact Q1o _ _ _ _ _ _ _ _ _ 0 _ _ G l P rfl;right;obtain rfl:i=a.length:=om
 rw[ol om];exact⟨_,rfl,by simp[T],by simpa using C,by simpa using P⟩;rintro t ⟨B,O,u⟩;rw[K6 (by unfold big;exact R) om,sbind,<-Ji O,u]
theorem Qbh{n:Nat}{a b:List Nat}(f:big<=n)(i:a.length<17592186044416)(j:b.length<17592186044416)(d:Wd a)(e:Wd b):J1 n a b=some (toL (val a*val b)):=Qkb f om d e
def cmpI(x y:Nat):Int:=if x<y then -1 else if y<x then 1 else 0
theorem Qw3{n:Nat}(h:n≠0):bp ((toL n).length - 1)<=n:=by
 induction n using Nat.strongRecOn with
 | _ n i=>
   rw[Yb h,xp,Nat.add_sub_cancel];by_cases a:n / 4294967296=0;rw[a,K0,List.length_nil,Xf];omega;have:=i (n / 4294967296) om a;have j:(toL (n / 4294967296)).length≠0:=by rw[Yb a];simp
   obtain⟨m,d⟩:∃ m,(toL (n / 4294967296)).length=m+1:=⟨(toL (n / 4294967296)).length - 1,om⟩
   rw[d,Nat.add_sub_cancel] at this;rw[d,Kc];have e:bp m*4294967296<=n / 4294967296*4294967296:=yb _ this;have f:n / 4294967296*4294967296<=n:=Nat.div_mul_le_self _ _;exact xm e f
theorem Qqx{m n:Nat}(h:(toL m).length<(toL n).length):m<n:=by
 have a:=Vi (Q3 m);rw[Qu] at a;have f:n≠0:=by rintro rfl;rw[K0] at h;simp at h
 have d:=Qw3 f;have e:bp (toL m).length<=bp ((toL n).length - 1):=bp_le om;exact xx a (xm e d)
theorem Qvm(a:List Nat)(k:Nat):val a=val (a.take k)+bp (a.take k).length*val (a.drop k):=by
 conv=>lhs;rw[<-uy k a]
 rw[Vc]
theorem Q0l{P x y u v A:Nat}(f:A<P)(a:x<y)(d:u=A+P*x)(e:P*y<=v):u<v:=by have:P*(x+1)<=P*y:=yv _ a;rw[vj] at this;omega
theorem Qot{a b:List Nat}{j:Nat}(l:Wd a)(m:j<a.length)(d:j<b.length)(q:a.drop (j+1)=b.drop (j+1))(h:a[j]<b[j]):val a<val b:=by have e:=Qvm a (j+1);have f:=Qvm b (j+1);rw[xh,xj om] at e f;rw[e,f,q];refine Nat.add_lt_add_right ?_ _;rw[Jy m,Jy d,Jq,Jq,xh,xh,xj om,xj om];have i:=Vi (Qiu (k:=j) l);rw[xh,xj om] at i;exact Q0l i h rfl (Nat.le_add_left _ _)
theorem Qdg{n:Nat}{a b:List Nat}(v:big<=n)(B:a.length<=4611686018427387904)(F:b.length<=4611686018427387904)(i:Wd a)(w:Wd b):Zj n a b=some (cmpI (val a) (val b)):=by
 unfold Zj;rw[Vn v B,sbind,Vn v F,sbind,<-Ji i,<-Ji w];have G:(toL (val a)).length<=4611686018427387904:=by rw[Ji i];exact xm (Wk a) B
 have e:=Qu (val a);have f:=Qu (val b);have l:=Q3 (val a);have m:=Q3 (val b);have H:=@Qqx (val a) (val b);have C:=@Qqx (val b) (val a);generalize val a=x at *;generalize val b=y at *;generalize toL x=a' at *;generalize toL y=b' at *;unfold big at v;rw[bifd,bifd];by_cases E:a'.length<b'.length;rw[oo om,cmpI,oo (H E)];rw[ol om];by_cases A:b'.length<a'.length;rw[oo om,cmpI,ol (by have:=C A;omega),oo (C A)];rw[ol om,w64 om om];refine Vr (λs=>(s+1).toNat) (λs=>∃ k:Nat,s=(k:Int) - 1/\k<=a'.length/\a'.drop k=b'.drop k) (λt=>(t=.go ()/\a'=b')\/(t=.out (-1)/\x<y)\/(t=.out 1/\y<x)) ⟨a'.length,rfl,xn _,by rw[xb (xn _),xb om]⟩ om ?_ ?_;rintro s ⟨k,rfl,hk,r⟩;simp only[bifd];by_cases h0:0<k;obtain⟨j,rfl⟩:∃ j,k=j+1:=⟨k - 1,om⟩
 have q:j<a'.length:=om
 have d:j<b'.length:=om
 rw[oo om,show((j+1:Nat):Int) - 1=(j:Nat) by omega,Xx q,sbind,Xx d,sbind];by_cases g1:a'[j]<b'[j];right;rw[oo g1];refine⟨_,rfl,.inr (.inl ⟨rfl,?_⟩)⟩;rw[<-e,<-f];exact Qot l q d r g1;rw[ol g1,sbind,sbind];by_cases u:b'[j]<a'[j];right;rw[oo u];refine⟨_,rfl,.inr (.inr ⟨rfl,?_⟩)⟩;rw[<-e,<-f];exact Qot m d q r.symm u;left;rw[ol u,w64 om om];refine⟨_,rfl,⟨j,rfl,om,?_⟩,om⟩;rw[xz q,xz d,r,show a'[j]=b'[j] by omega];right;obtain rfl:k=0:=om
 rw[ol om];exact⟨_,rfl,.inl ⟨rfl,by simpa using r⟩⟩;rintro t (⟨rfl,h⟩ | ⟨rfl,h⟩ | ⟨rfl,h⟩);rw[Wj];have:x=y:=by rw[<-e,<-f,h]
 simp[cmpI,this];rw[Qfl,cmpI,oo h];rw[Qfl,cmpI,ol om,oo h]
theorem Qzf{v:Nat}(h:v<18446744073709551616):toL v=[]\/(∃ x,toL v=[x]/\x=v)\/(∃ x y,toL v=[x,y]/\x<4294967296/\y<4294967296/\x+4294967296*y=v):=by
 have f:=Qah (n:=v) (k:=2) (by rw[Kc,Kc,Xf];omega);have a:=Qu v;have d:=Q3 v
 match e:toL v,f with
 | [],_=>exact .inl rfl
 | [x],_=>rw[e] at a;simp[val] at a;exact .inr (.inl ⟨x,rfl,a⟩)
 | [x,y],_=>
   rw[e] at a d;simp[val] at a;exact .inr (.inr ⟨x,y,rfl,(Jg.1 d).1,(Jg.1 (Jg.1 d).2).1,om⟩)
 | _::_::_::_,h=>simp at h
theorem Qw4{v:Nat}(h:18446744073709551616<=v):2<(toL v).length:=by rcases xd 2 (toL v).length with a | a;exact a;have d:=Vi (Q3 v);rw[Qu] at d;have e:=bp_le a;rw[Kc,Kc,Xf] at e;omega
theorem Qlt{n:Nat}{a:List Nat}(e:big<=n)(d:a.length<=4611686018427387904)(f:Wd a):Qb4 n a=some (if val a<18446744073709551616 then (val a,true) else (0,false)):=by unfold Qb4;rw[Vn e d,sbind,<-Ji f,bifd];by_cases h:val a<18446744073709551616;rw[oo h];rcases Qzf h with h1 | ⟨x,h1,h2⟩ | ⟨x,y,h1,h2,h3,h4⟩;have:=Qu (val a);rw[h1] at this |-;rw[ol oz];simp only[val] at this;simp only[rangeL,sbind,Wj,<-this];rw[h1,ol oc];simp only[rangeL];rw[w64 om om,grd_t oz,sbind,sbind,sbind,sbind];simp only[Wj];subst h2;simp;omega;rw[h1,ol oc];simp only[rangeL];rw[w64 (x:=32*((0:Nat):Int)) om om,grd_t oz,sbind,sbind,sbind,w64 om om,grd_t oz];simp only[sbind,Wj];rw[show(2:Nat) ^ min (Int.toNat (32*((0:Nat):Int))) 64=1 by rfl,show(2:Nat) ^ min (Int.toNat (32*((0+1:Nat):Int))) 64=4294967296 by rfl,wk,xa (show x<18446744073709551616 by omega),xa (show y*4294967296<18446744073709551616 by omega),Nat.zero_or,Nat.or_comm,Qr2 h2];congr 2;omega;rw[ol h];have:=Qw4 (v:=val a) om;rw[oo om]
theorem Qex{x y c:Nat}(d:x<4294967296)(e:y<4294967296)(a:c<4294967296):
 W9 x y c=some ((x+y+c)%4294967296,(x+y+c) / 4294967296):=by
 unfold W9;simp only[jn_eq,bifd];split<;>split<;>congr 1<;>refine Prod.ext ?_ ?_<;>simp only[]<;>omega
theorem Qh8{x y c:Nat}(e:x<4294967296)(f:y<4294967296)(a:c<=1):
 ∃ d b,Qbm x y c=some (d,b)/\d<4294967296/\b<=1/\d+y+c=x+4294967296*b:=by
 unfold Qbm;simp only[jn_eq,bifd,sbind];split<;>split<;>refine⟨_,_,rfl,?_,?_,?_⟩<;>omega
theorem Qzg(P s x y u v V A C:Nat)(e:4294967296*u+v=x+y+s)(h:V+P*s=A+C):V+P*v+P*4294967296*u=A+P*x+(C+P*y):=by grind
theorem Qw5{k:Nat}{b:List Nat}{β:Type}(f:Nat->Option β):(if (k:Int)<(b.length:Int) then (getI b (k:Int)).bind f else f 0)=f (b.getD k 0):=by by_cases h:k<b.length;rw[oo om,Xx h,sbind];simp[h];rw[ol om];simp[ou (show b.length<=k by omega)]
theorem Qw6{n:Nat}{a b:List Nat}(E:big<=n)(F:a.length<17592186044416)(C:b.length<=a.length)(v:Wd a)(m:Wd b):Qbn n a b=some (toL (val a+val b)):=by
 unfold Qbn;simp only[jn_eq,bifd];rw[ol om];rw[show(1:Int)=((1:Nat):Int) by rfl,Qg4 om,sbind];refine Qgi (λj (s:List Nat×Nat)=>∃ f,s.1=f++(List.drop j a++[0])/\f.length=j/\j<=a.length/\Wd f/\s.2<=1/\val f+bp j*s.2=val (a.take j)+val (b.take j)) ⟨[],oc,rfl,xo _,J4,oc,by simp[val,Xf]⟩ ?_ ?_;rintro j y ⟨o,q⟩ x ⟨f,i,e,B,r,u,l⟩;simp only at i u l;subst i;have d:j<a.length:=by
  rcases xd j a.length with h | h;exact h;simp[ou h] at x
 have A:a[j]=y:=by simpa [d] using x
 have w:y<4294967296:=by rw[<-A];exact W5 v d
 rw[Qw5,Qex w (Qdv m j) (by simp only[];omega),sbind,xz d,yr,J2 e,sbind,Vk e];refine⟨_,rfl,f++[(y+b.getD j 0+q)%4294967296],oc,by simp[e],om,Je.2 ⟨r,Jg.2 ⟨om,J4⟩⟩,?_,?_⟩;have:=Qdv m j;simp only[];omega;rw[K7,K7,Jq,e,Kc];rw[show a.getD j 0=y by rw[<-A];simp[d]];exact Qzg _ _ _ _ _ _ _ _ _ (uc (y+b.getD j 0+q) 4294967296) l;rintro⟨o,q⟩ ⟨f,i,e,B,r,u,l⟩;simp only at i u l;subst i;simp only[Wj];rw[xb (xn _),yo,J2 e,sbind,Vk e,Vn E oh,sbind,<-Ji (Je.2 ⟨r,Jg.2 ⟨om,J4⟩⟩),Jq,e,l,ow (xn _),ow C]
theorem Qnb{n:Nat}{a b:List Nat}(f:big<=n)(i:a.length<17592186044416)(j:b.length<17592186044416)(d:Wd a)(e:Wd b):Qbn n a b=some (toL (val a+val b)):=by by_cases l:b.length<=a.length;exact Qw6 f i l d e;rw[Nat.add_comm,<-Qw6 f j om e d];unfold Qbn;simp only[jn_eq,bifd];rw[oo om,ol om]
theorem Qvn{n:Nat}{a b:List Nat}(f:big<=n)(l:a.length<17592186044410)(m:b.length<17592186044410)(d:Wd a)(e:Wd b):Qc1 n [a,b]=some (toL (val a+val b)):=by unfold Qc1;have i:=Qnb (a:=[]) (b:=toL (val a)) f oc (by have:=Wk a;rw[Ji d];omega) J4 (Q3 _);have j:=Qnb (a:=toL (val a)) (b:=toL (val b)) f (by have:=Wk a;rw[Ji d];omega) (by have:=Wk b;rw[Ji e];omega) (Q3 _) (Q3 _);rw[Qu] at i j;rw[Qu] at j;simp only[val,xr] at i;simp only[rangeL,Vn f (show a.length<=4611686018427387904 by omega),Vn f (show b.length<=4611686018427387904 by omega),sbind,<-Ji d,<-Ji e,i,j,Wj]
theorem Qdw{α:Type}{l:List α}{i:Nat}{x:α}(h:l[i]?=some x):i<l.length:=by rcases xd i l.length with a | a;exact a;rw[ou a] at h;cases h
theorem Vv{x y:Nat}(h:x<=y):(toL x).length<=(toL y).length:=by refine Qah ?_;have:=Vi (Q3 y);rw[Qu] at this;omega
theorem Qps(P c a x y d V A B:Nat)(e:d+y+c=x+4294967296*a)(h:V+B=A+P*c):V+P*d+(B+P*y)=A+P*x+P*4294967296*a:=by grind
theorem Qof{n:Nat}{a b:List Nat}(F:big<=n)(P:a.length<17592186044416)(Q:b.length<17592186044416)(r:Wd a)(v:Wd b):
 Qhr n a b=some (if val a<val b then ([],false) else (toL (val a - val b),true)):=by
 unfold Qhr;have R:(toL (val a)).length<17592186044416:=by rw[Ji r];exact ym (Wk a) P
 have S:(toL (val b)).length<17592186044416:=by rw[Ji v];exact ym (Wk b) Q
 rw[Vn F om,sbind,Vn F om,sbind,<-Ji r,<-Ji v,Qdg F om om (Q3 _) (Q3 _),sbind,Qu,Qu];have H:=Qu (val a);have I:=Qu (val b);have u:=Q3 (val a);have A:=Q3 (val b);have G:=λh=>Vv (x:=val b) (y:=val a) h;generalize val a=x at *;generalize val b=y at *;generalize toL x=a' at *;generalize toL y=b' at *;rw[bifd];by_cases f:x<y;rw[oo (by rw[cmpI,oo f];decide),oo f];rw[ol (by rw[cmpI,ol f];split<;>decide),ol f];have G:=G om;simp only[jn_eq,bifd];rw[show(0:Int)=((0:Nat):Int) by rfl,Qg4 om,sbind];refine Qgi (λj (s:List Nat×Nat)=>∃ i,s.1=i++List.drop j a'/\i.length=j/\j<=a'.length/\Wd i/\s.2<=1/\val i+val (b'.take j)=val (a'.take j)+bp j*s.2) ⟨[],oc,rfl,xo _,J4,oc,by simp[val]⟩ ?_ ?_;rintro j w ⟨o,B⟩ K ⟨i,q,l,N,C,E,m⟩;simp only at q E m;subst q;have e:j<a'.length:=Qdw K;have L:a'[j]=w:=by simpa [e] using K
 have J:w<4294967296:=by rw[<-L];exact W5 u e
 obtain⟨d,T,g1,M,g3,g4⟩:=Qh8 J (Qdv A j) E;rw[Qw5,g1,sbind,xz e,J2 l,sbind,Vk l];refine⟨_,rfl,i++[d],oc,by simp[l],om,Je.2 ⟨C,Jg.2 ⟨M,J4⟩⟩,g3,?_⟩;rw[K7,K7,Jq,l,Kc];rw[show a'.getD j 0=w by rw[<-L];simp[e]];exact Qps _ _ _ _ _ _ _ _ _ g4 m;rintro⟨o,B⟩ ⟨i,q,l,N,C,E,m⟩;simp only at q E m;subst q;simp only[Wj];rw[ow (xn _),ow G,H,I] at m;rw[xb (xn _),uj,Vn F om,sbind,<-Ji C];have O:B=0:=by
  have g1:=Vi C;rw[l] at g1;rcases wc B with h | h;exact h;have U:bp a'.length*1<=bp a'.length*B:=yv _ h;omega
 subst O;rw[ua] at m;congr 3;omega
theorem Qvo{n:Nat}{a b:List Nat}(f:big<=n)(i:a.length<17592186044416)(j:b.length<17592186044416)(d:Wd a)(e:Wd b):
 Qhs n a b=some (toL (val a - val b+(val b - val a)),cmpI (val a) (val b)):=by
 unfold Qhs;rw[Qdg f om om d e,sbind];simp only[jn_eq,bifd];by_cases h:val a<val b;rw[oo (by rw[cmpI,oo h];decide),Qof f j i e d,ol om,sbind];rw[show val a - val b+(val b - val a)=val b - val a by omega];rw[ol (by rw[cmpI,ol h];split<;>decide),Qof f i j d e,ol h,sbind];rw[show val a - val b+(val b - val a)=val a - val b by omega]
def blen(x:Nat):Nat:=if x=0 then 0 else Nat.log2 x+1
theorem Qdh:blen 0=0:=by unfold blen;rw[oo rfl]
theorem Qr4{x k:Nat}(a:2 ^ k<=x)(d:x<2 ^ (k+1)):blen x=k+1:=by
 have h0:x≠0:=by have:=yf k;omega
 unfold blen;rw[ol h0,(Nat.log2_eq_iff h0).2 ⟨a,d⟩]
theorem Qlu{x:Nat}:x<2 ^ blen x:=by unfold blen;by_cases h0:x=0;rw[oo h0,h0];decide;rw[ol h0];exact Nat.lt_log2_self
theorem Qiv{x:Nat}(h0:x≠0):2 ^ (blen x - 1)<=x:=by unfold blen;rw[ol h0];exact Nat.log2_self_le h0
theorem Qm0{x:Nat}(h0:x≠0):1<=blen x:=by unfold blen;rw[ol h0];omega
theorem Q0m{x w:Nat}(h:x / 2 ^ w≠0):blen x=blen (x / 2 ^ w)+w:=by
 have a:=Qiv h;have d:=Qlu (x:=x / 2 ^ w);have e:=Qm0 h;obtain⟨k,hk⟩:∃ k,blen (x / 2 ^ w)=k+1:=⟨_,(Nat.sub_add_cancel e).symm⟩
 rw[hk,Nat.add_sub_cancel] at a;rw[hk] at d |-;rw[show k+1+w=(k+w)+1 by omega];refine Qr4 ?_ ?_;rw[uo];exact(Nat.le_div_iff_mul_le (yf w)).1 a;rw[show k+w+1=(k+1)+w by omega,uo];exact(wh (yf w)).1 d
theorem Qtx{n x:Nat}(q:big<=n)(r:x<4294967296):Qdm n x=some (blen x:Int):=by
 unfold Qdm;unfold big at q
 refine Vr (λs=>s.2.2.toNat) (λs=>∃(w k B:Nat),s.2.2=w/\s.2.1=k/\(w,B)∈[(16,4294967296),(8,65536),(4,256),(2,16),(1,4),(0,2)]/\s.1<B/\k+2*w<=32/\blen x=k+blen s.1)
  (λt=>∃ k:Nat,t.2=k/\k<=32/\t.1<2/\blen x=k+blen t.1) ⟨16,0,4294967296,rfl,rfl,oz,r,oz,oc⟩ (by simp only[];omega) ?_ ?_
 rintro⟨y,c,w'⟩ ⟨w,k,B,d,j,e,a,u,f⟩;simp only at d j a f;subst d j;simp only[jn_eq,bifd,bifnd];by_cases h0:0<w;left;rw[oo om,grd_t oc,sbind,sbind,ut];have v:w<=16:=om
 have hd:Int.tdiv (w:Int) 2=((w / 2:Nat):Int):=oa
 rw[hd,xj om,w64 (x:=((w / 2:Nat):Int)) om om,w64 om om];have m:∃ B',(w / 2,B')∈[(16,4294967296),(8,65536),(4,256),(2,16),(1,4),(0,2)]/\B'*2 ^ w=B/\(2 ^ w<=B'):=by simp only[xl,List.not_mem_nil,or_false,Prod.mk.injEq] at e;rcases e with ⟨rfl,rfl⟩ | ⟨rfl,rfl⟩ | ⟨rfl,rfl⟩ | ⟨rfl,rfl⟩ | ⟨rfl,rfl⟩ | ⟨rfl,rfl⟩;exact⟨65536,oz,oz,oz⟩;exact⟨256,oz,oz,oz⟩;exact⟨16,oz,oz,oz⟩;exact⟨4,oz,oz,oz⟩;exact⟨2,oz,oz,oz⟩;omega
 obtain⟨B',g1,l,g3⟩:=m;by_cases i:y / 2 ^ w=0;rw[oo i];refine⟨_,rfl,⟨w / 2,k,B',rfl,rfl,g1,?_,om,f⟩,by simp only[];omega⟩;have:=(Nat.div_eq_zero_iff_lt (yf w)).1 i;exact xx this g3;rw[ol i];refine⟨_,rfl,⟨w / 2,k+w,B',rfl,by simp only[];omega,g1,?_,om,?_⟩,by simp only[];omega⟩;rw[<-l] at a;exact(wh (yf w)).2 a;rw[f,Q0m i];simp only[];omega;right;obtain rfl:w=0:=om
 rw[ol om];simp only[xl,List.not_mem_nil,or_false,Prod.mk.injEq] at e;refine⟨_,rfl,k,rfl,om,by simp only[];omega,f⟩;rintro⟨y,c⟩ ⟨k,d,j,e,a⟩;simp only at d e a;subst d;rw[a,w64 (by simp only[];omega) (by simp only[];omega)];have:blen y=y:=by
  have:y=0\/y=1:=om
  rcases this with rfl | rfl;rw[Qdh];exact Qr4 (k:=0) oz oz
 rw[this];simp
theorem Qgk(k:Nat):bp k=2 ^ (32*k):=by unfold bp;rw[Nat.pow_mul]
theorem Qvp{v:Nat}(h:toL v≠[]):∃ p x,toL v=p++[x]/\x≠0/\x<4294967296/\Wd p:=by have a:=Q3 v;rcases List.eq_nil_or_concat (toL v) with h0 | ⟨p,x,h1⟩;exact absurd h0 h;rw[List.concat_eq_append] at h1;refine⟨p,x,h1,?_,?_,?_⟩;rintro rfl;have d:=Qzd v;rw[h1,Qk9] at d;have:=Wk p;rw[d] at this;simp at this;omega;rw[h1] at a;exact(Jg.1 (Je.1 a).2).1;rw[h1] at a;exact(Je.1 a).1
theorem Qzh(P M R x A B m V:Nat)(a:V=M+P*m)(d:R=m+x*A+0)(e:V=A*B):M+P*R=A*(B+P*x):=by grind
theorem Qey{n:Nat}{a b:List Nat}(G:big<=n)(J:a.length<8796093022208)(K:b.length<8796093022208)(v:Wd a)(w:Wd b):Xt n a b=some (toL (val a*val b)):=by
 unfold Xt;rw[w64 (x:=(a.length:Int)+(b.length:Int)) om om,w64 om om,show((a.length:Int)+(b.length:Int))+1=((a.length+b.length+1:Nat):Int) by omega,Qbg om om,sbind];refine Qgi (λj (s:List Nat)=>∃ d,s=d++List.replicate (b.length+1 - j) 0/\d.length=j+a.length/\j<=b.length/\Wd d/\val d=val a*val (b.take j)) ⟨List.replicate a.length 0,by rw[List.replicate_append_replicate];congr 1,oc,xo _,Qgj om,by simp[val,Qaw]⟩ ?_ ?_
 . rintro j x o B ⟨d,l,E,F,i,u⟩
   subst l;have e:j<b.length:=Qdw B;have C:b[j]=x:=by simpa [e] using B
   have A:x<4294967296:=by rw[<-C];exact W5 w e
   obtain⟨r,g1,I,g3,g4⟩:=Qtw (p:=d.take j) (m:=d.drop j) (q:=List.replicate (b.length - j) 0) (a:=a) (z:=0) (x:=x) (c:=0) oh oh (Qfo i) v A om;have f:(d.take j).length=j:=oh
   rw[f,uy] at g1;rw[show b.length+1 - j=(b.length - j)+1 by omega,ue,g1,sbind];refine⟨_,rfl,d.take j++r,by rw[show b.length+1 - (j+1)=b.length - j by omega],oh,om,Je.2 ⟨Qiu i,g3⟩,?_⟩;have H:val d=val (d.take j)+bp j*val (d.drop j):=by
    conv=>lhs;rw[<-uy j d]
    rw[Vc,f]
   rw[Vc,f,K7,show b.getD j 0=x by rw[<-C];simp[e]];exact Qzh _ _ _ _ _ _ _ _ H g4 u
 . rintro o ⟨d,l,E,F,i,u⟩
   subst l;simp only[Wj];rw[Vo G oh,sbind,<-Ji (Je.2 ⟨i,Qgj om⟩),Vc,Qaw,ua,xf,u,ow (xn _)]
theorem lo_eq{x r:Nat}(a:r<=32):(x*2 ^ r)%4294967296=(x%2 ^ (32 - r))*2 ^ r:=by rw[show(4294967296:Nat)=2 ^ (32 - r)*2 ^ r by rw[<-uo,show 32 - r+r=32 by omega],Nat.mul_mod_mul_right]
theorem or_lo{c x r:Nat}(d:r<=32)(a:c<2 ^ r):c ||| (x*2 ^ r)%4294967296=c+(x*2 ^ r)%4294967296:=by rw[lo_eq d,Nat.or_comm,uz,<-Nat.two_pow_add_eq_or_of_lt a,Nat.add_comm]
theorem hi_lt{x r:Nat}(a:x<4294967296):(x*2 ^ r) / 4294967296<2 ^ r:=
 vv (Nat.mul_lt_mul_of_pos_right a (yf r))
theorem Qm1{r:Nat}(a:r<=32):2 ^ r<=4294967296:=by have h:2 ^ r<=2 ^ 32:=vu oz a;rwa [show(2:Nat) ^ 32=4294967296 by rfl] at h
theorem sh_lt{x r:Nat}(a:r<=32)(d:x<4294967296):x*2 ^ r<18446744073709551616:=by have h:=Qm1 a;have:x*2 ^ r<=4294967295*4294967296:=Nat.mul_le_mul om h;omega
theorem Q1p(P c V A R x lo hi:Nat)(e:4294967296*hi+lo=x*R)(h:V+P*c=A*R):V+P*(c+lo)+P*4294967296*hi=(A+P*x)*R:=by grind
theorem Qog{n k:Nat}{a:List Nat}(J:big<=n)(N:a.length<8796093022208)(L:Wd a)(hk:k<=4096):Qcy n a (k:Int)=some (toL (val a*2 ^ k)):=by
 unfold Qcy;rw[show min (max (k:Int) 0) 4096=(k:Int) by omega];rw[show Int.tdiv (k:Int) 32=((k / 32:Nat):Int) by rfl,show Int.tmod (k:Int) 32=((k%32:Nat):Int) by rfl];have K:2 ^ k=bp (k / 32)*2 ^ (k%32):=by rw[Qgk,<-uo,uc]
 have M:k / 32<=128:=om
 have O:k%32<=31:=om
 rw[K];generalize k / 32=w at *;generalize k%32=r at *;rw[w64 (x:=(w:Int)) om om,sbind,w64 (x:=(w:Int)+(a.length:Int)) om om,w64 om om,show(w:Int)+(a.length:Int)+1=((w+a.length+1:Nat):Int) by omega,Qbg om om,sbind];refine Qgi (λj (s:List Nat)=>∃ e c,s=(List.replicate w 0++e)++c::List.replicate (a.length - j) 0/\e.length=j/\j<=a.length/\Wd e/\c<2 ^ r/\val e+bp j*c=val (a.take j)*2 ^ r) ⟨[],0,by rw[uj,<-ue,List.replicate_append_replicate];congr 1,rfl,xo _,J4,yf r,by simp[val]⟩ ?_ ?_;rintro j x s C ⟨e,c,u,q,I,v,B,A⟩;subst u;have i:j<a.length:=Qdw C;have E:a[j]=x:=by simpa [i] using C
 have m:x<4294967296:=by rw[<-E];exact W5 L i
 have f:(List.replicate w 0++e).length=w+j:=oh
 have g1:=sh_lt (r:=r) om m;have H:=hi_lt (r:=r) m;have g3:=Qm1 (r:=r) om;have g4:=or_lo (x:=x) (show r<=32 by omega) B;rw[grd_t oc,sbind,ut,xj om,xa g1,sbind,w64 (x:=(w:Int)+(j:Int)) om om,sbind,show(w:Int)+(j:Int)=((w+j:Nat):Int) by omega];rw[J2 f,sbind,sbind,sbind,Vk f,g4,show(2:Nat) ^ 32=4294967296 by rfl,xa (show x*2 ^ r / 4294967296<4294967296 by omega)];obtain⟨d,hd⟩:∃ d,a.length - j=d+1:=⟨a.length - j - 1,om⟩
 rw[w64 om om,show((w+j:Nat):Int)+1=((w+j+1:Nat):Int) by omega,hd,ue];rw[show ∀(y:Nat) (l:List Nat),List.replicate w 0++e++y::l=(List.replicate w 0++(e++[y]))++l by intro y l;simp];have hlen2:(List.replicate w 0++(e++[c+x*2 ^ r%4294967296])).length=w+j+1:=oh
 rw[J2 hlen2,sbind,Vk hlen2,sbind];refine⟨_,rfl,e++[c+x*2 ^ r%4294967296],x*2 ^ r / 4294967296,by rw[show a.length - (j+1)=d by omega],by simp[q],om,Je.2 ⟨v,Jg.2 ⟨?_,J4⟩⟩,H,?_⟩;rw[lo_eq om];have F:x%2 ^ (32 - r)+1<=2 ^ (32 - r):=yg _ (yf _);have G:=yb (2 ^ r) F;rw[<-uo,show 32 - r+r=32 by omega,show(2:Nat) ^ 32=4294967296 by rfl,Nat.add_mul,Nat.one_mul] at G;omega;rw[K7,Jq,q,Kc,show a.getD j 0=x by rw[<-E];simp[i]];exact Q1p _ _ _ _ _ _ _ _ (uc (x*2 ^ r) 4294967296) A;rintro s ⟨e,c,u,q,I,v,B,A⟩;subst u;simp only[Wj];have g3:=Qm1 (r:=r) om;rw[Vo J oh,sbind,<-Ji (Je.2 ⟨Je.2 ⟨Qgj om,v⟩,Jg.2 ⟨om,Qgj om⟩⟩)];rw[xe,Vc,Qaw,vc,xr,Vc];simp only[val];rw[Qaw,q,ua,xf,A,ow (xn _),Nat.mul_left_comm]
theorem Qkc{a:List Nat}(e:Wd a)(k:Nat):val a / bp k=val (a.drop k):=by
 rcases xd k a.length with h | h
 . have f:val a=val (a.take k)+bp k*val (a.drop k):=by
    conv=>lhs;rw[<-uy k a]
    rw[Vc,xh,xj om]
   have d:=Vi (Qiu (k:=k) e);rw[xh,xj om] at d;rw[f,Nat.add_mul_div_left _ _ (Q3i k),ve d,xr]
 . rw[xb h]
   exact ve (xx (Vi e) (bp_le h))
theorem Qzi{a:List Nat}{k:Nat}(h:k<a.length):val (a.drop k)=a[k]+4294967296*(a.getD (k+1) 0+4294967296*val (a.drop (k+2))):=by rw[xz h];simp only[val];by_cases d:k+1<a.length;rw[xz d];simp[val,d];rw[xb om,xb om];simp[ou (show a.length<=k+1 by omega),val]
theorem Q0n{v z r:Nat}(a:r<=32):((v+4294967296*4294967296*z) / 2 ^ r)%4294967296=(v / 2 ^ r)%4294967296:=by
 rw[show 4294967296*4294967296*z=2 ^ r*(4294967296*(2 ^ (32 - r)*z)) by
  have:2 ^ r*2 ^ (32 - r)=4294967296:=by rw[<-uo,show r+(32 - r)=32 by omega]
  calc 4294967296*4294967296*z=(2 ^ r*2 ^ (32 - r))*4294967296*z:=by rw[this]
   _=_:=by grind]
 rw[Nat.add_mul_div_left _ _ (yf r),Nat.add_mul_mod_self_left]
theorem Q0o{k:Nat}{b:List Nat}{x:Nat}{β:Type}(f:Nat->Option β)(a:Wd b)(d:x<4294967296):(if ((k:Nat):Int)<(b.length:Int) then (getI b (k:Int)).bind (λy=>f (x ||| (y*2 ^ 32)%18446744073709551616)) else f x)=f (x+4294967296*b.getD k 0):=by by_cases h:k<b.length;rw[oo om,Xx h,sbind];have e:=W5 a h;rw[show(2:Nat) ^ 32=4294967296 by rfl,xa om,Nat.or_comm,Qr2 d,uz,Nat.add_comm];simp[h];rw[ol om];simp[ou (show b.length<=k by omega)]
theorem Q0p(X P:Nat):X%P+P*(X / P%4294967296)=X%(P*4294967296):=by rw[Nat.mod_mul]
theorem Qr5{n k:Nat}{a:List Nat}(E:big<=n)(H:a.length<8796093022208)(l:Wd a)(hk:k<=4611686018427387904):Qei n a (k:Int)=some (toL (val a / 2 ^ k)):=by
 unfold Qei;rw[show max (k:Int) 0=(k:Int) by omega];rw[show Int.tdiv (k:Int) 32=((k / 32:Nat):Int) by rfl,show Int.tmod (k:Int) 32=((k%32:Nat):Int) by rfl];have F:2 ^ k=bp (k / 32)*2 ^ (k%32):=by rw[Qgk,<-uo,uc]
 have I:k%32<=31:=om
 have G:k / 32<=4611686018427387904:=om
 rw[F];generalize k / 32=w at *;generalize k%32=r at *;rw[<-uq,Qkc l];rw[w64 (x:=(w:Int)) om om,sbind,bifd];by_cases A:a.length<=w;rw[oo om,xb A];simp[val,K0];rw[ol om,w64 (x:=(a.length:Int) - (w:Int)) om om,sbind,show(a.length:Int) - (w:Int)=((a.length - w:Nat):Int) by omega,Qbg om om,sbind];refine Qgi (λj (s:List Nat)=>∃ e,s=e++List.replicate (a.length - w - j) 0/\e.length=j/\Wd e/\val e=(val (a.drop w) / 2 ^ r)%bp j) ⟨[],oc,rfl,J4,by simp[val,Xf,Nat.mod_one]⟩ ?_ ?_;rintro j x s B ⟨e,q,i,u,m⟩;subst q;have C:j<a.length - w:=by have:=Qdw B;simpa using this
 have f:w+j<a.length:=om
 simp only[jn_eq,bifd];rw[w64 (x:=(w:Int)+(j:Int)) om om,show(w:Int)+(j:Int)=((w+j:Nat):Int) by omega,sbind,Xx f,sbind,sbind,w64 (x:=((w+j:Nat):Int)+1) om om,show((w+j:Nat):Int)+1=((w+j+1:Nat):Int) by omega];simp only[sbind];rw[w64 (x:=((w+j:Nat):Int)+1) om om,show((w+j:Nat):Int)+1=((w+j+1:Nat):Int) by omega];rw[Q0o (β:=Lp (List Nat) (List Nat)) (λ(v:Nat)=>(grd (decide (0<=(r:Int)))).bind λ_=>(getI (e++List.replicate (a.length - w - j) 0) (j:Int)).bind λ_=>some (Lp.go (List.set (e++List.replicate (a.length - w - j) 0) (Int.toNat (j:Int)) (v / 2 ^ (min (Int.toNat (r:Int)) 64)%4294967296)))) l (W5 l f)];rw[grd_t oc,sbind,ut (n:=r),xj om];obtain⟨d,hd⟩:∃ d,a.length - w - j=d+1:=⟨a.length - w - j - 1,om⟩
 rw[hd,ue,J2 i,sbind,Vk i];refine⟨_,rfl,e++[(a[w+j]+4294967296*a.getD (w+j+1) 0) / 2 ^ r%4294967296],by rw[show a.length - w - (j+1)=d by omega];simp,by simp[i],Je.2 ⟨u,Jg.2 ⟨om,J4⟩⟩,?_⟩;rw[Jq,i,Kc,<-Q0p,m,uq (val (a.drop w)),uz (2 ^ r) (bp j),<-uq (val (a.drop w)),Qkc (Qfo l),List.drop_drop,Qzi f,vj,<-Nat.add_assoc,<-yz,Q0n om];rintro s ⟨e,q,i,u,m⟩;subst q;simp only[Wj];rw[vc] at i m;rw[vc,Nat.sub_self,List.replicate_zero,uj,Vo E om,sbind,<-Ji u,m,xa];have:=Vi (Qfo (k:=w) l);rw[vz] at this;exact ym (we _ _) this
theorem Qw7{q r a d x2 e x4:Nat}(f:q*e+r=a*4294967296+d)(i:q*x4<=r*4294967296+x2):q*(e*4294967296+x4)<=(a*4294967296+d)*4294967296+x2:=by rw[<-f];grind
theorem Q1q{q r a d x2 e x4:Nat}(f:(q+1)*e+r=a*4294967296+d)(i:r*4294967296+x2<(q+1)*x4):(a*4294967296+d)*4294967296+x2<(q+1)*(e*4294967296+x4):=by rw[<-f];grind
theorem Q1r{q r a:Nat}{U:Nat}(d:(q+1)*a+r=U):q*a+(r+a)=U:=by rw[<-d];grind
theorem Qw8{q r a d x2 e x4:Nat}(f:q*e+r=a*4294967296+d)(m:4294967296<=r)(l:q<4294967296)(j:x4<4294967296):q*(e*4294967296+x4)<=(a*4294967296+d)*4294967296+x2:=by have i:q*x4<=4294967295*4294967295:=Nat.mul_le_mul om om;exact Qw7 f om
theorem Q3j{X u w x2:Nat}(h:X<u)(a:x2<4294967296):X*4294967296+x2<u*4294967296+w:=om
theorem Q3k{q d e x2 a x4:Nat}(h:d*4294967296+e<(q+1)*a)(i:x2<4294967296):(d*4294967296+e)*4294967296+x2<(q+1)*(a*4294967296+x4):=by
 have f:(q+1)*(a*4294967296+x4)=((q+1)*a)*4294967296+(q+1)*x4:=by rw[vj,yz]
 rw[f];exact Q3j h i
theorem Qqy{n v A f i x2 e x4:Nat}(L:big<=n)(P:x2<4294967296)(J:e<4294967296)(G:x4<4294967296)(M:v<4294967296)(N:A<4294967296)
 (K:v*e+A=f*4294967296+i) (H:v+1=4294967296\/(f*4294967296+i)*4294967296+x2<(v+1)*(e*4294967296+x4)) :
 ∃ q,(loopM (λ(d:Nat×Nat)=>
   (Zf d.1 x4 0 0).bind λl=>
   jn (λ(j:(Bool)->Option _)=>
    bif decide (l.1<d.2) then (
     j true)
    else (
     bif decide (l.1=d.2) then (
      j (decide (l.2<=x2)))
     else (
      j false))) (λ(B:Bool)=>
    bif B then (
     some (Lp.out d.1))
    else (
     (W9 d.2 e 0).bind λa=>
     bif decide (0<a.2) then (
      some (Lp.out ((d.1+4294967296 - 1)%4294967296)))
     else (
      some (Lp.go (((d.1+4294967296 - 1)%4294967296),a.1)))))) n (v,A)).bind (λ(C:Nat)=>some C)=some q /\
   (q<4294967296/\q*(e*4294967296+x4)<=(f*4294967296+i)*4294967296+x2/\(q+1=4294967296\/(f*4294967296+i)*4294967296+x2<(q+1)*(e*4294967296+x4))):=by
 unfold big at L
 refine Qag (λs=>s.1) (λs=>s.1<4294967296/\s.2<4294967296/\s.1*e+s.2=f*4294967296+i/\(s.1+1=4294967296\/(f*4294967296+i)*4294967296+x2<(s.1+1)*(e*4294967296+x4)))
  (λq=>q<4294967296/\q*(e*4294967296+x4)<=(f*4294967296+i)*4294967296+x2/\(q+1=4294967296\/(f*4294967296+i)*4294967296+x2<(q+1)*(e*4294967296+x4))) ⟨M,N,K,H⟩ (by simp only[];omega) ?_ (λt O=>⟨t,rfl,O⟩)
 rintro⟨q,r⟩ ⟨g1,F,g3,g4⟩;simp only at g1 F g3 g4;simp only[jn_eq,bifd];rw[Qh7 g1 G om om,sbind];simp only[xf]
 have key:(bif decide (q*x4<=r*4294967296+x2) then some (Lp.out q) else
  (W9 r e 0).bind λa=>if 0<a.2 then some (Lp.out ((q+4294967296 - 1)%4294967296)) else some (Lp.go ((q+4294967296 - 1)%4294967296,a.1)):Option (Lp (Nat×Nat) Nat)) =
  (if q*x4 / 4294967296<r then bif true then some (Lp.out q) else
   (W9 r e 0).bind λa=>if 0<a.2 then some (Lp.out ((q+4294967296 - 1)%4294967296)) else some (Lp.go ((q+4294967296 - 1)%4294967296,a.1))
   else if q*x4 / 4294967296=r then if q*x4%4294967296<=x2 then some (Lp.out q) else
    (W9 r e 0).bind λa=>if 0<a.2 then some (Lp.out ((q+4294967296 - 1)%4294967296)) else some (Lp.go ((q+4294967296 - 1)%4294967296,a.1))
   else bif false then some (Lp.out q) else
    (W9 r e 0).bind λa=>if 0<a.2 then some (Lp.out ((q+4294967296 - 1)%4294967296)) else some (Lp.go ((q+4294967296 - 1)%4294967296,a.1))):=by
  have hd:=uc (q*x4) 4294967296;have H:=yg (q*x4) (show 4294967296 > 0 by decide);by_cases c1:q*x4 / 4294967296<r;rw[oo c1,oj om];rw[ol c1];by_cases E:q*x4 / 4294967296=r;rw[oo E,<-bifd];congr 1;exact vp.2 om;rw[ol E,oi om]
 rw[<-key,bifd];by_cases w:q*x4<=r*4294967296+x2;right;rw[oo w];exact⟨q,rfl,g1,Qw7 g3 w,g4⟩;rw[ol w,Qex F J om,sbind]
 obtain⟨q',rfl⟩:∃ q',q=q'+1:=⟨q - 1,by
  have:q≠0:=by rintro rfl;simp at w
  omega⟩
 have x:(q'+1+4294967296 - 1)%4294967296=q':=om
 have u:=Q1q (x2:=x2) (x4:=x4) g3 om;have m:=Q1r g3;simp only[xf];rw[x];by_cases I:0<(r+e) / 4294967296;right;rw[oo I];exact⟨q',rfl,om,Qw8 m om om G,.inr u⟩;left;rw[ol I];refine⟨_,rfl,⟨by simp only[];omega,by simp only[];omega,?_,.inr u⟩,by simp only[];omega⟩;simp only[];rw[xa om];exact m
theorem Qqz{n a e x2 d x4:Nat}(s:big<=n)(h0:a<=d)(m:e<4294967296)(i:x2<4294967296)(f:d<4294967296)(j:x4<4294967296)(x:d≠0):
 ∃ q,Qa1 n a e x2 d x4=some q/\(q<4294967296/\q*(d*4294967296+x4)<=(a*4294967296+e)*4294967296+x2/\(q+1=4294967296\/(a*4294967296+e)*4294967296+x2<(q+1)*(d*4294967296+x4))):=by
 unfold Qa1;by_cases l:a<d;rw[Qna l m f,sbind]
 have v:(a*4294967296+e) / d<4294967296:=vv (by
  have:a*4294967296+4294967296<=d*4294967296:=om
  omega)
 have w:(a*4294967296+e)%d<d:=yg _ om;exact Qqy s i f j v (Nat.lt_trans w f) (by rw[uz];exact uc _ _) (.inr (Q3k ((wh om).1 (Nat.lt_succ_self _)) i));obtain rfl:a=d:=om
 rw[show Qab a e a=some (0,0,false) by unfold Qab;rw[bifd,oo om],sbind];rw[jn_eq];simp only[xt,bifT];rw[Qex m f om,sbind,jn_eq,bifd,ol om];simp only[xf];rw[bifd];have r:4294967295*a+(e+a)=a*4294967296+e:=om
 by_cases u:0<(e+a) / 4294967296;rw[oo u];exact⟨_,rfl,om,Qw8 r om om j,.inl rfl⟩;rw[ol u,xa om];exact Qqy s i f j om om r (.inl rfl)
theorem Qtc(P M c b d lo hi a q y u V W:Nat)(e:4294967296*hi+lo=q*y+c)(f:d+lo+b=u+4294967296*a)(h:W+q*V=M+P*(c+b)):W+P*d+q*(V+P*y)=M+P*u+P*4294967296*(hi+a):=by
 have i:P*d+P*lo+P*b=P*u+P*4294967296*a:=by rw[<-vj,<-vj,f];grind
 have j:P*4294967296*hi+P*lo=P*(q*y)+P*c:=by rw[<-vj,<-e];grind
 grind
theorem Qr6{p m q' v:List Nat}{z q:Nat}(P:m.length=v.length)(S:p.length+m.length+1+q'.length<=4611686018427387904)(J:Wd m)(K:Wd v)(Q:z<4294967296)(N:q<4294967296):
 ∃ r b,Zk (p++m++z::q') (p.length:Int) v q=some (decide (0<b),p++r++q')/\r.length=v.length+1/\Wd r/\b<=1/\val r+q*val v=val (m++[z])+bp (v.length+1)*b:=by
 have key:∃ R,Zk (p++m++z::q') (p.length:Int) v q=some R/\∃ r b,R=(decide (0<b),p++r++q')/\r.length=v.length+1/\Wd r/\b<=1/\val r+q*val v=val (m++[z])+bp (v.length+1)*b:=by
  unfold Zk;refine Qk8 (λj (s:List Nat×Nat×Nat)=>∃ e,s.1=p++e++(m.drop j++z::q')/\e.length=j/\j<=v.length/\Wd e/\s.2.1<4294967296/\s.2.2<=1/\val e+q*val (v.take j)=val (m.take j)+bp j*(s.2.1+s.2.2)) ⟨[],oc,rfl,xo _,J4,oc,oc,by simp[val]⟩ ?_ ?_;rintro j y ⟨o,c,b⟩ L ⟨e,f,i,G,H,w,B,A⟩;simp only at f w B A;subst f;have l:j<v.length:=Qdw L;have O:v[j]=y:=by simpa [l] using L
  have C:y<4294967296:=by rw[<-O];exact W5 K l
  have u:j<m.length:=om
  have I:=W5 J u;have a:(p++e).length=p.length+j:=oh
  have M:=Qmz N C w (show 0<4294967296 by omega);obtain⟨d,E,g1,F,g3,g4⟩:=Qh8 (x:=m[j]) (y:=(q*y+c+0)%4294967296) (c:=b) I om B;rw[Qh7 N C w om,sbind,w64 om om,show((p.length:Int)+(j:Int))=((p.length+j:Nat):Int) by omega,xz u,yr];simp only[];rw[J2 a,sbind,g1,sbind,sbind,Vk a];refine⟨_,rfl,e++[d],oc,by simp[i],om,Je.2 ⟨H,Jg.2 ⟨F,J4⟩⟩,by simp only[];omega,g3,?_⟩;simp only[];rw[K7,Jy u,Jq,Jq,i,Kc,show v.getD j 0=y by rw[<-O];simp[l],xh,xj om];exact Qtc _ _ _ _ _ _ _ _ _ _ _ _ _ (uc (q*y+c) 4294967296) g4 A;rintro⟨o,c,b⟩ ⟨e,f,i,G,H,w,B,A⟩;simp only at f w B A;subst f;simp only[Wj];have a:(p++e).length=p.length+v.length:=oh
  obtain⟨d,E,g1,F,g3,g4⟩:=Qh8 (x:=z) (y:=c) (c:=b) Q w B;rw[w64 om om,show((p.length:Int)+(v.length:Int))=((p.length+v.length:Nat):Int) by omega,xb om,yo,J2 a,sbind,g1,sbind,sbind,Vk a];refine⟨_,rfl,e++[d],E,oc,by simp[i],Je.2 ⟨H,Jg.2 ⟨F,J4⟩⟩,g3,?_⟩;rw[ow (xn _),ow om] at A;rw[Jq,Jq,i,P,Kc];have:=Qtc (bp v.length) (val m) c b d c 0 E q 0 z (val v) (val e) om g4 A
  simpa using this
 obtain⟨R,f,r,b,i,G⟩:=key;exact⟨r,b,by rw[f,i],G⟩
theorem Qtd(P M c d a y u V W:Nat)(e:4294967296*a+d=u+y+c)(h:W+P*c=M+V):W+P*d+P*4294967296*a=M+P*u+(V+P*y):=by grind
theorem Qr7{p m q' v:List Nat}{z:Nat}(H:m.length=v.length)(I:p.length+m.length+1+q'.length<=4611686018427387904)(B:Wd m)(C:Wd v)(J:z<4294967296):
 ∃ r b,Qap (p++m++z::q') (p.length:Int) v=some (p++r++q')/\r.length=v.length+1/\Wd r/\b<=1/\val r+bp (v.length+1)*b=val (m++[z])+val v:=by
 have key:∃ R,Qap (p++m++z::q') (p.length:Int) v=some R/\∃ r b,R=p++r++q'/\r.length=v.length+1/\Wd r/\b<=1/\val r+bp (v.length+1)*b=val (m++[z])+val v:=by
  unfold Qap;refine Qk8 (λj (s:List Nat×Nat)=>∃ d,s.1=p++d++(m.drop j++z::q')/\d.length=j/\j<=v.length/\Wd d/\s.2<=1/\val d+bp j*s.2=val (m.take j)+val (v.take j)) ⟨[],oc,rfl,xo _,J4,oc,by simp[val]⟩ ?_ ?_;rintro j y ⟨o,c⟩ F ⟨d,e,f,u,w,x,q⟩;simp only at e x q;subst e;have i:j<v.length:=Qdw F;have G:v[j]=y:=by simpa [i] using F
  have E:y<4294967296:=by rw[<-G];exact W5 C i
  have l:j<m.length:=om
  have A:=W5 B l;have a:(p++d).length=p.length+j:=oh
  rw[w64 om om,show((p.length:Int)+(j:Int))=((p.length+j:Nat):Int) by omega,xz l,yr];rw[J2 a,sbind,Qex A E (by simp only[];omega),sbind,sbind,Vk a];refine⟨_,rfl,d++[(m[j]+y+c)%4294967296],oc,by simp[f],om,Je.2 ⟨w,Jg.2 ⟨om,J4⟩⟩,by simp only[];omega,?_⟩;simp only[];rw[K7,K7,Jq,f,Kc,show v.getD j 0=y by rw[<-G];simp[i],show m.getD j 0=m[j] by simp[l]];exact Qtd _ _ _ _ _ _ _ _ _ (uc (m[j]+y+c) 4294967296) q;rintro⟨o,c⟩ ⟨d,e,f,u,w,x,q⟩;simp only at e x q;subst e;simp only[Wj];have a:(p++d).length=p.length+v.length:=oh
  rw[w64 om om,show((p.length:Int)+(v.length:Int))=((p.length+v.length:Nat):Int) by omega,xb om,yo,J2 a,sbind,sbind,Vk a,sbind];refine⟨_,rfl,d++[(z+c)%4294967296],(z+c) / 4294967296,oc,by simp[f],Je.2 ⟨w,Jg.2 ⟨om,J4⟩⟩,om,?_⟩;rw[ow (xn _),ow om] at q;rw[Jq,Jq,f,H,Kc];have:=Qtd (bp v.length) (val m) c ((z+c)%4294967296) ((z+c) / 4294967296) 0 z (val v) (val d) om q
  simpa using this
 obtain⟨R,e,r,b,f,u⟩:=key;exact⟨r,b,by rw[e,f],u⟩
theorem kn_a{P vl a i d q e:Nat}(s:i<P)(v:q<4294967296)(u:q*(vl+P*a)<=i+P*d)(f:e+1=4294967296\/d<(e+1)*a):q<=e:=by
 rcases f with f | f;omega;have m:P*(q*a)<=q*(vl+P*a):=by rw[vj,Nat.mul_left_comm];exact Nat.le_add_left _ _
 have j:P*(q*a)<P*(d+1):=by rw[vj,wk];omega
 have r:q*a<d+1:=Nat.lt_of_mul_lt_mul_left j;have l:q*a<(e+1)*a:=om
 exact Nat.le_of_lt_succ (Nat.lt_of_mul_lt_mul_right l)
theorem kn_b{P vl a l e d:Nat}(q:vl<P)(s:d<4294967296)(r:4294967296<=a)(j:d*a<=e):d*(vl+P*a)<=(l+P*e)+(vl+P*a):=by
 have f:d*(vl+P*a)=d*vl+P*(d*a):=by rw[vj,Nat.mul_left_comm]
 have m:P*(d*a)<=P*e:=yv _ j;have i:d*vl<=a*P:=Nat.mul_le_mul om om;rw[f];rw[uz a P] at i;omega
theorem kn_z{P vl v3 v4 e z a x2:Nat}(l:vl<P)(m:v4<4294967296)(q:e+P*((z*4294967296+a)*4294967296+x2)<4294967296*(vl+P*(v3*4294967296+v4))):z<=v3:=by
 have f:P*(z*4294967296*4294967296)<=P*((z*4294967296+a)*4294967296+x2):=yv _ om;have i:vl+P*(v3*4294967296+v4)<P*((v3+1)*4294967296):=by have:P*(v3*4294967296+v4+1)<=P*((v3+1)*4294967296):=yv _ om;rw[vj _ _ 1,wk] at this;omega
 have d:P*(z*4294967296*4294967296)<P*((v3+1)*4294967296*4294967296):=by have a1:P*((v3+1)*4294967296*4294967296)=P*((v3+1)*4294967296)*4294967296:=(yz _ _ _).symm;omega
 have j:=Nat.lt_of_mul_lt_mul_left d;omega
theorem dm_of{U V q r:Nat}(h:r+q*V=U)(a:r<V):U / V=q/\U%V=r:=by subst h;rw[Nat.add_mul_div_right _ _ om,ve a,Nat.add_mul_mod_self_right,xa a];omega
theorem last2{l:List Nat}{m:Nat}(h:l.length=m+2):∃ l' a b,l=l'++[a,b]/\l'.length=m:=by refine⟨l.take m,l[m],l[m+1],?_,oh⟩;have e:=Jy (a:=l) (k:=m) om;have d:=Jy (a:=l) (k:=m+1) om;rw[ow om] at d;refine d.trans ?_;rw[e,xe];rfl
theorem Q0q(p y w a V U j:Nat)(q r:Nat)(d:U=y+4294967296*w)(h:r+q*V=U):(p+j*y)+j*4294967296*(w+V*a)=p+j*(r+V*(q+4294967296*a)):=by grind
theorem Qyj{n:Nat}{p w rest v:List Nat}{z:Nat}(hn:big<=n){vl B:List Nat}{v3 v4 C x2:Nat}(M:v=vl++[v4,v3])(N:w=B++[x2,C])(K:B.length=vl.length)
 (a:Wd v) (e:Wd w) (hz:z<4294967296) (h3:v3≠0) (hp:p.length+w.length+1+rest.length<=4611686018427387904) (x:val (w++[z])<4294967296*val v) :
 ∃ r d,Qa1 n z C x2 v3 v4=some d/\r.length=v.length+1/\Wd r/\val r=val (w++[z])%val v/\val (w++[z]) / val v<4294967296 /\
   ((Zk (p++w++z::rest) (p.length:Int) v d=some (false,p++r++rest)/\d=val (w++[z]) / val v) \/
    (∃ r1,Zk (p++w++z::rest) (p.length:Int) v d=some (true,r1)/\Qap r1 (p.length:Int) v=some (p++r++rest)/\(d+4294967296 - 1)%4294967296=val (w++[z]) / val v)):=by
 have O:w.length=v.length:=by rw[M,N];simp[K]
 have w1:Wd vl/\v4<4294967296/\v3<4294967296:=by rw[M] at a;exact⟨(Je.1 a).1,(Jg.1 (Je.1 a).2).1,(Jg.1 (Jg.1 (Je.1 a).2).2).1⟩
 have R:Wd B/\x2<4294967296/\C<4294967296:=by rw[N] at e;exact⟨(Je.1 e).1,(Jg.1 (Je.1 e).2).1,(Jg.1 (Jg.1 (Je.1 e).2).2).1⟩
 obtain⟨w1,w3,w4⟩:=w1;obtain⟨R,w5,w6⟩:=R;have H:val v=val vl+bp vl.length*(v3*4294967296+v4):=by rw[M,Vc];simp only[val];congr 2;omega
 have I:val (w++[z])=val B+bp vl.length*((z*4294967296+C)*4294967296+x2):=by rw[N,xe,Vc,K];simp only[yr,yo,val];congr 2;omega
 have X:=Vi w1;have Y:=Vi R;rw[K] at Y;have P:z<=v3:=by rw[H,I] at x;exact kn_z X w3 x
 obtain⟨d,g1,W,g3,g4⟩:=Qqz hn P w6 w5 w4 w3 h3;have s:0<val v:=by rcases wc (val v) with h | h;rw[h] at x;omega;exact h
 have j:val (w++[z]) / val v<4294967296:=(wh s).2 x;have hqa:val (w++[z]) / val v<=d:=by have:=Nat.div_mul_le_self (val (w++[z])) (val v);exact kn_a (vl:=val vl) Y j (by rw[<-H,<-I];exact this) g4
 have hqb:d*val v<=val (w++[z])+val v:=by rw[H,I];exact kn_b X W om g3
 have G:val (w++[z])<(d+1)*val v:=xx ((wh s).1 (Nat.lt_succ_self _)) (yb _ om);obtain⟨r,b,t1,l,t3,t4,t5⟩:=Qr6 (p:=p) (m:=w) (q':=rest) (v:=v) (z:=z) (q:=d) O hp e a hz W;rw[Nat.add_mul,Nat.one_mul] at G;have hvb:=Vi a;have hbb:bp v.length<=bp (v.length+1):=bp_le om;by_cases hb:b=0;subst hb;rw[ua,xf] at t5;obtain⟨E,F⟩:=dm_of t5 om;exact⟨r,d,g1,l,t3,F.symm,j,.inl ⟨t1,E.symm⟩⟩;obtain rfl:b=1:=om
 rw[wk] at t5;have hr:=Vi t3;rw[l] at hr;obtain⟨f,i,u⟩:∃ f i,r=f++[i]:=by rcases List.eq_nil_or_concat r with h | ⟨f,i,h⟩;rw[h] at l;simp at l;exact⟨f,i,by rw[h,List.concat_eq_append]⟩
 have e2:f.length=v.length:=by rw[u] at l;simpa using l
 have T:Wd f/\i<4294967296:=by rw[u] at t3;exact⟨(Je.1 t3).1,(Jg.1 (Je.1 t3).2).1⟩
 obtain⟨Z,S,u1,u2,u3,u4,Q⟩:=Qr7 (p:=p) (m:=f) (q':=rest) (v:=v) (z:=i) e2 om T.1 a T.2;have L:=Vi u3;rw[u2] at L;rw[<-u] at Q
 obtain⟨A,rfl⟩:∃ A,d=A+1:=⟨d - 1,by
  have:d≠0:=by rintro rfl;omega
  omega⟩
 rw[Nat.add_mul,Nat.one_mul] at *;have J:S=1:=by rcases wc S with h | h;subst h;rw[ua] at Q;omega;omega
 subst J;rw[wk] at Q;obtain⟨E,F⟩:=dm_of (U:=val (w++[z])) (V:=val v) (q:=A) (r:=val Z) om om;refine⟨Z,A+1,g1,u2,u3,F.symm,j,.inr ⟨p++r++rest,t1,?_,by rw[E];omega⟩⟩;rw[u,show p++(f++[i])++rest=p++f++i::rest by simp];exact u1
theorem Qr8{n:Nat}{u v vl:List Nat}{v3 v4:Nat}(hn:big<=n)(G:v=vl++[v4,v3])(h3:v3≠0)(q:Wd u)(A:Wd v)(hu:u.length<35184372088832)(hl:v.length<=u.length)(Q:val (u.drop (u.length - v.length))<val v):
 ∃ r,Qeh n u v=some r/\(r.1.length=u.length - v.length/\Wd r.1/\r.2.length=u.length/\Wd r.2/\val u=val v*val r.1+val r.2/\val r.2<val v):=by
 unfold Qeh;have O:=hn;unfold big at O;have hvl:v.length=vl.length+2:=by rw[G];simp
 rw[w64 (x:=(u.length:Int) - (v.length:Int)) om om,show(u.length:Int) - (v.length:Int)=((u.length - v.length:Nat):Int) by omega,Qbg om om,sbind]
 refine Qag (λs=>(s.2.2+1).toNat) (λs=>∃(k:Nat) (p w e:List Nat),s.2.2=(k:Int) - 1/\k<=u.length - v.length/\s.1=p++w/\p.length=k/\w.length=u.length - k/\Wd p/\Wd w/\val w<val v/\s.2.1=List.replicate k 0++e/\e.length=u.length - v.length - k/\Wd e/\val u=val p+bp k*(val w+val v*val e))
  (λt=>t.2.length=u.length - v.length/\Wd t.2/\t.1.length=u.length/\Wd t.1/\val u=val v*val t.2+val t.1/\val t.1<val v) ⟨u.length - v.length,u.take (u.length - v.length),u.drop (u.length - v.length),[],?_,xn _,by simp only[uy],oc,oc,Qiu q,Qfo q,Q,by simp only[uj],oc,J4,?_⟩ ?_ ?_ (λt Q=>⟨_,rfl,Q⟩)
 . simp only[];rw[vc,w64 om om]
 . simp only[val,ua,xf]
   conv=>lhs;rw[<-uy (u.length - v.length) u]
   rw[Vc,xh,xj om]
 . simp only[];rw[vc,w64 om om];omega
 . rintro⟨uu,qq,i⟩ ⟨k,p,w,e,i1,i2,i3,H,i5,i6,S,i8,i9,i10,B,C⟩
   simp only at i1 i3 i9;subst i1 i3 i9;simp only[jn_eq,bifd];by_cases h0:0<k
   . left
     obtain⟨j,rfl⟩:∃ j,k=j+1:=⟨k - 1,om⟩
     obtain⟨d,y,e1⟩:∃ d y,p=d++[y]:=by
      rcases List.eq_nil_or_concat p with h | ⟨d,y,h⟩
      . rw[h] at H;simp at H
      . exact⟨d,y,by rw[h,List.concat_eq_append]⟩
     subst e1;have J:d.length=j:=by simpa using H
     have X:Wd d/\y<4294967296:=⟨(Je.1 i6).1,(Jg.1 (Je.1 i6).2).1⟩
     have K:Wd (y::w):=Jg.2 ⟨X.2,S⟩;have Y:v.length<(y::w).length:=oh
     have Z:y::w=(y::w).take v.length++(y::w)[v.length]::(y::w).drop (v.length+1):=Qze Y;have L:val ((y::w).drop (v.length+1))=0:=by rw[List.drop_succ_cons,<-Qkc S];exact ve (Nat.lt_trans i8 (Vi A))
     have e8:val ((y::w).take v.length++[(y::w)[v.length]])=y+4294967296*val w:=by have:=ud val Z;rw[show ∀(a b:List Nat) (x:Nat),a++x::b=(a++[x])++b by intro a b x;simp,Vc,L,ua,xf] at this;rw[<-this];rfl
     have w1:Wd ((y::w).take v.length):=Qiu K;have w2:(y::w)[v.length]<4294967296:=W5 K Y;have w3:Wd ((y::w).drop (v.length+1)):=Qfo K;have w4:((y::w).take v.length).length=v.length:=by rw[xh,xj om]
     have w5:((y::w).drop (v.length+1)).length=u.length - j - (v.length+1):=by rw[vz,xp];omega
     rw[show d++[y]++w=d++(y::w) by simp,Z];generalize (y::w).take v.length=W at *;generalize (y::w)[v.length]=z at *;generalize (y::w).drop (v.length+1)=R at *;obtain⟨I,x2,F,M,f2⟩:=last2 (l:=W) (m:=vl.length) om;obtain⟨r,T,g1,g2,g3,g4,g5,g6⟩:=Qyj (p:=d) (w:=W) (rest:=R) (v:=v) (z:=z) hn G M f2 A w1 w2 h3 (by rw[w4,w5];omega) (by rw[e8];omega);rw[oo om,show((j+1:Nat):Int) - 1=(j:Int) by omega];rw[w64 (x:=(j:Int)+(v.length:Int)) om om,show(j:Int)+(v.length:Int)=((j+vl.length+2:Nat):Int) by omega];rw[w64 (x:=((j+vl.length+2:Nat):Int) - 1) om om,w64 (x:=((j+vl.length+2:Nat):Int) - 2) om om,show((j+vl.length+2:Nat):Int) - 1=((j+vl.length+1:Nat):Int) by omega,show((j+vl.length+2:Nat):Int) - 2=((j+vl.length:Nat):Int) by omega];rw[w64 (x:=(v.length:Int) - 1) om om,w64 (x:=(v.length:Int) - 2) om om,show(v.length:Int) - 1=((vl.length+1:Nat):Int) by omega,show(v.length:Int) - 2=((vl.length:Nat):Int) by omega];have a1:getI (d++(W++z::R)) ((j+vl.length+2:Nat):Int)=some z:=by
      rw[<-xe];exact J2 (by rw[yn,w4];omega)
     have a2:getI (d++(W++z::R)) ((j+vl.length+1:Nat):Int)=some F:=by rw[M,show d++(I++[x2,F]++z::R)=(d++I++[x2])++F::(z::R) by simp];exact J2 oh
     have a3:getI (d++(W++z::R)) ((j+vl.length:Nat):Int)=some x2:=by rw[M,show d++(I++[x2,F]++z::R)=(d++I)++x2::(F::z::R) by simp];exact J2 oh
     have a4:getI v ((vl.length+1:Nat):Int)=some v3:=by rw[G,show vl++[v4,v3]=(vl++[v4])++v3::[] by simp];exact J2 oc
     have a5:getI v ((vl.length:Nat):Int)=some v4:=by rw[G];exact J2 rfl
     rw[a1,sbind,a2,sbind,a3,sbind,a4,sbind,a5,sbind,g1,sbind]
     have a6:∀(q':Nat),getI (List.replicate (j+1) 0++e) (j:Int)=some 0/\(List.replicate (j+1) 0++e).set (Int.toNat (j:Int)) q'=List.replicate j 0++q'::e:=λq'=>by rw[List.replicate_succ',xe,List.singleton_append];exact⟨J2 oc,Vk oc⟩
     rw[J,xe] at g6;have f:∀ q',q'=val (W++[z]) / val v->∃ E,(some (Lp.go (d++r++R,List.replicate j 0++q'::e,wrap64 ((j:Int) - 1))):Option (Lp (List Nat×List Nat×Int) (List Nat×List Nat)))=some (Lp.go E)/\(∃(k:Nat) (p w e:List Nat),E.2.2=(k:Int) - 1/\k<=u.length - v.length/\E.1=p++w/\p.length=k/\w.length=u.length - k/\Wd p/\Wd w/\val w<val v/\E.2.1=List.replicate k 0++e/\e.length=u.length - v.length - k/\Wd e/\val u=val p+bp k*(val w+val v*val e))/\(E.2.2+1).toNat<((j:Int)+1).toNat:=by
      intro q' P;have N:0<val v:=om
      rw[w64 om om];refine⟨_,rfl,⟨j,d,r++R,q'::e,rfl,om,by rw[xe],J,by rw[yn,g2,w5];omega,X.1,Je.2 ⟨g3,w3⟩,?_,rfl,by rw[xp];omega,Jg.2 ⟨om,B⟩,?_⟩,by simp only[];omega⟩
      . rw[Vc,L,ua,xf,g4];exact yg _ N
      . rw[C,Jq,J,Kc,Vc,L,ua,xf]
        simp only[val];refine Q0q _ _ _ _ _ _ _ _ _ e8 ?_;rw[g4,P,uz];exact Nat.mod_add_div _ _
     rcases g6 with ⟨U,V⟩ | ⟨r1,U,V,t3⟩
     . rw[U,sbind]
       simp only[bifF];rw[(a6 T).1,sbind,(a6 T).2];exact f _ V
     . rw[U,sbind]
       simp only[bifT];rw[V,sbind,(a6 ((T+4294967296 - 1)%4294967296)).1,sbind,(a6 _).2];exact f _ t3
   . right
     obtain rfl:k=0:=om
     obtain rfl:p=[]:=xc H;rw[ol om];refine⟨_,rfl,by simp only[List.replicate_zero,yo];omega,by simpa using B,by simp only[yo];omega,by simpa using S,?_,by simpa using i8⟩;rw[C,Xf];simp[val];omega
theorem Q3l{x:Nat}(d:x<4294967296):blen x<=32:=by
 rcases xd 32 (blen x) with h | h;have h0:x≠0:=by rintro rfl;rw[Qdh] at h;omega
 have g1:=Qiv h0;have a:2 ^ 32<=2 ^ (blen x - 1):=vu oz om;rw[show(2:Nat) ^ 32=4294967296 by decide] at a;omega;exact h
theorem Jn{a:List Nat}(d:Wd a):(toL (val a)).length<=a.length:=by rw[Ji d];exact Wk a
theorem Qpk{v s:Nat}(d:s<=32):(toL (v*2 ^ s)).length<=(toL v).length+1:=by refine Qah ?_;have a:=Vi (Q3 v);rw[Qu] at a;rw[Kc];exact xx (Nat.mul_lt_mul_of_pos_right a (yf s)) (yv _ (Qm1 d))
theorem len2{v:Nat}(h:4294967296<=v):∃ vl v4 v3,toL v=vl++[v4,v3]/\v3≠0:=by
 have h0:toL v≠[]:=by rw[Yb om];simp
 obtain⟨p,x,a,d,e,f⟩:=Qvp h0;rcases List.eq_nil_or_concat p with h5 | ⟨p',y,h5⟩;exfalso;have:=Qu v;rw[a,h5] at this;simp[val] at this;omega;exact⟨p',y,x,by rw[a,h5,List.concat_eq_append];simp,d⟩
theorem Q3m{v:Nat}(h:v≠0):bp ((toL v).length - 1)<=v:=by
 have h0:toL v≠[]:=by rw[Yb h];simp
 obtain⟨p,x,a,d,e,f⟩:=Qvp h0;have:=Qu v;rw[a,Jq] at this;rw[a,yn,List.length_singleton,Nat.add_sub_cancel,<-this];have:bp p.length*1<=bp p.length*x:=yv _ om;omega
theorem Qez{n:Nat}{a b:List Nat}(d:big<=n)(ha:a.length<4398046511104)(hb:b.length<4398046511104)(e:Wd a)(A:Wd b):
 Qac n a b=some (if val b=0 then ([],[],false) else (toL (val a / val b),toL (val a%val b),true)):=by
 unfold Qac;have hlb:=Jn A;have hla:=Jn e;rw[Vo d om,sbind,<-Ji A,bifd];by_cases h0:val b=0;rw[h0,K0,oo oa,oo rfl];have I:toL (val b)≠[]:=by rw[Yb h0];simp
 have hl0:(toL (val b)).length≠0:=λh=>I (xc h);rw[ol om,ol h0,Qdg d om om e (Q3 _),sbind,Qu,bifd];by_cases j:val a<val b;rw[oo (by rw[cmpI,oo j];decide),Vo d om,sbind,ve j,xa j,K0,Ji e];rw[ol (by rw[cmpI,ol j];split<;>decide),bifd];by_cases X:(toL (val b)).length=1;rw[oo om];obtain⟨y,T⟩:=List.length_eq_one_iff.1 X;have J:=Qu (val b);have S:=Q3 (val b);rw[T] at J S;simp only[val,ua,xf] at J;have L:=(Jg.1 S).1;rw[T,show getI [y] (0:Int)=some y by rfl,sbind,Qr3 d om e om L,sbind];simp only[];have:=yg (val a) (show y > 0 by omega);rw[Qcb d om,sbind,<-J];rw[ol om];have m:4294967296<=val b:=by
  rcases xd (val b) 4294967296 with h | h;have:=Qah (n:=val b) (k:=1) (by rw[Kc,Xf];omega);omega;exact h
 obtain⟨bl,M,i,B,e2⟩:=len2 m;have f:=Q3 (val b);have l:i<4294967296:=by rw[B] at f;exact(Jg.1 (Jg.1 (Je.1 f).2).2).1
 have Y:(toL (val b)).length=bl.length+2:=by rw[B];simp
 rw[w64 (x:=((toL (val b)).length:Int) - 1) om om,show((toL (val b)).length:Int) - 1=((bl.length+1:Nat):Int) by omega];rw[show getI (toL (val b)) ((bl.length+1:Nat):Int)=some i by rw[B,show bl++[M,i]=(bl++[M])++i::[] by simp];exact J2 oc,sbind,Qtx d l,sbind];have hs:=Q3l l;rw[w64 (x:=(32:Int) - (blen i:Int)) om om,show(32:Int) - (blen i:Int)=((32 - blen i:Nat):Int) by omega];have w:32 - blen i<=32:=om
 generalize 32 - blen i=s at *;have F:=yf s;rw[Qog d om e om,sbind];have l1:=Qpk (v:=val a) w;have l2:=Qpk (v:=val b) w;rw[Vm oh oh,sbind,Qog d om f om,sbind,Qu];have Z:val b<=val b*2 ^ s:=Nat.le_mul_of_pos_right _ F;obtain⟨vl,v4,v3,P,W⟩:=len2 (v:=val b*2 ^ s) om;have G:val b*2 ^ s<=val a*2 ^ s:=yb _ om;have hll:=Vv G;have H:=Q3m (v:=val b*2 ^ s) om;have hvl:(toL (val b*2 ^ s)).length=vl.length+2:=by rw[P];simp
 have K:Wd (toL (val a*2 ^ s)++[0]):=Je.2 ⟨Q3 _,Jg.2 ⟨om,J4⟩⟩
 obtain⟨⟨q,r⟩,g1,Q,g3,g4,R,C,E⟩:=Qr8 (u:=toL (val a*2 ^ s)++[0]) (v:=toL (val b*2 ^ s)) d P W K (Q3 _) oh oh (by
  rw[yn,List.length_singleton,List.drop_append_of_le_length om,Jq,ua,xf,Qu];have:=Vi (Qfo (k:=(toL (val a*2 ^ s)).length+1 - (toL (val b*2 ^ s)).length) (Q3 (val a*2 ^ s)));rw[vz] at this
  exact xx this (xm (bp_le om) H))
 simp only at Q g3 g4 R C E;rw[Jq,ua,xf,Qu,Qu] at C;rw[Qu] at E;rw[yn,List.length_singleton] at Q g4;rw[g1,sbind];simp only[];rw[Vo d om,sbind,Qr5 d om R om,sbind,<-Ji g3];obtain⟨N,O⟩:=dm_of (U:=val a*2 ^ s) (V:=val b*2 ^ s) (q:=val q) (r:=val r) (by rw[C,uz (val q)];omega) E;rw[Nat.mul_div_mul_right _ _ F] at N;rw[Nat.mul_mod_mul_right] at O;rw[<-N,<-O,Nat.mul_div_cancel _ F]
theorem Qo4{n x y:Nat}(e:big<=n)(i:y<18446744073709551616):Qa2 n x y=some (Nat.gcd x y):=by unfold Qa2;unfold big at e;refine Vr (λs=>s.2) (λs=>s.2<18446744073709551616/\Nat.gcd s.1 s.2=Nat.gcd x y) (λt=>t=Nat.gcd x y) ⟨i,rfl⟩ (by simp only[];omega) ?_ (λt f=>by rw[f]);rintro⟨u,v⟩ ⟨d,a⟩;simp only at d a;simp only[bifnd];by_cases h0:v=0;right;rw[oo h0];exact⟨_,rfl,by rw[<-a,h0,Nat.gcd_zero_right]⟩;left;rw[ol h0,grd_t (by simp[h0]),sbind];have:=yg u (show v > 0 by omega);exact⟨_,rfl,⟨by simp only[];omega,by rw[<-a,Nat.gcd_comm u v,Nat.gcd_rec v u,Nat.gcd_comm]⟩,this⟩
theorem Qq0{v:Nat}:Qc0 (toL v)=some (decide (v=1)):=by
 unfold Qc0;simp only[jn_eq,bifd];by_cases h:(toL v).length=1;obtain⟨x,a⟩:=List.length_eq_one_iff.1 h;have:=Qu v;rw[a] at this;simp[val] at this;rw[a,oo oc,show getI [x] (0:Int)=some x by rfl,sbind,this];rw[ol om];have:v≠1:=by rintro rfl;apply h;rw[Yb oz,show 1 / 4294967296=0 by decide,K0];rfl
 rw[oi this]
theorem Q1s{v k:Nat}(h:v<2 ^ k):blen v<=k:=by
 rcases xd k (blen v) with a | a;have h0:v≠0:=by rintro rfl;rw[Qdh] at a;omega
 have g1:=Qiv h0;have d:2 ^ k<=2 ^ (blen v - 1):=vu oz om;omega;exact a
theorem Q1t{r u:Nat}(h:2*r<u):blen r<blen u:=by
 have d:=Qlu (x:=u);by_cases h0:r=0;subst h0;rw[Qdh];exact Qm0 om;have g1:=Qiv h0;have a:=Qm0 h0;have g3:2 ^ blen r=2 ^ (blen r - 1)*2:=by rw[<-Nat.pow_succ,show(blen r - 1).succ=blen r by omega]
 have g4:2 ^ blen r<2 ^ blen u:=om
 exact(wt oz).1 g4
theorem Qvq{v:Nat}:blen v<=32*(toL v).length:=by refine Q1s ?_;rw[<-Qgk];have:=Vi (Q3 v);rwa [Qu] at this
theorem Q0r{u v:Nat}(h0:v≠0):blen v+blen (u%v)+(if v<u%v then 1 else 0)<blen u+blen v+(if u<v then 1 else 0):=by
 have i:=yg u (show v > 0 by omega);rw[ol om];by_cases h:u<v;rw[oo h,xa h];omega;rw[ol h];have d:2*(u%v)<u:=by have e:=uc u v;have a:1<=u / v:=(Nat.le_div_iff_mul_le om).2 om;have f:v*1<=v*(u / v):=yv _ a;omega
 have:=Q1t d;omega
theorem Qq1{n:Nat}{a b:List Nat}(d:big<=n)(F:a.length<4398046511104)(G:b.length<4398046511104)(j:Wd a)(l:Wd b):Qcz n a b=some (toL (Nat.gcd (val a) (val b))):=by
 unfold Qcz;have w:=Jn j;have x:=Jn l;rw[Vo d om,sbind,Vo d om,sbind,<-Ji j,<-Ji l];have r:=d;unfold big at r
 refine Vr (λs=>blen (val s.1)+blen (val s.2)+(if val s.1<val s.2 then 1 else 0)) (λs=>∃ u v,s=(toL u,toL v)/\Nat.gcd u v=Nat.gcd (val a) (val b)/\(toL u).length<4398046511104/\(toL v).length<4398046511104)
  (λt=>∃ u v,t=(toL u,toL v)/\Nat.gcd u v=Nat.gcd (val a) (val b)/\(toL u).length<4398046511104/\(toL v).length<=2) ⟨val a,val b,rfl,rfl,om,om⟩ ?_ ?_ ?_
 simp only[Qu];have E:=Qvq (v:=val a);have f:=Qvq (v:=val b);split<;>omega;rintro s ⟨u,v,rfl,f,m,q⟩;simp only[bifd,Qu];by_cases h0:2<(toL v).length;left;have i:v≠0:=by rintro rfl;rw[K0] at h0;simp at h0
 rw[oo om,Qez d m q (Q3 _) (Q3 _),sbind,Qu,Qu,ol i];refine⟨_,rfl,⟨v,u%v,rfl,?_,q,?_⟩,?_⟩;rw[<-f,Nat.gcd_comm u v,Nat.gcd_rec v u,Nat.gcd_comm];exact ym (Vv (Nat.le_of_lt (yg u om))) q;simp only[Qu];exact Q0r i;right;rw[ol om];exact⟨_,rfl,u,v,rfl,f,m,om⟩;rintro t ⟨u,v,rfl,f,m,q⟩;simp only[bifd];by_cases h0:v=0;subst h0;rw[K0,oo oa,<-f,Nat.gcd_zero_right];have C:(toL v).length≠0:=λh=>by rw[Yb h0] at h;simp at h
 have e:v<18446744073709551616:=by rcases xd v 18446744073709551616 with h | h;exact h;have:=Qw4 h;omega
 have B:=yg u (show v > 0 by omega);have A:=Vv (Nat.le_of_lt B);rw[ol om,Qez d m om (Q3 _) (Q3 _),sbind,Qu,Qu,ol h0];simp only[];rw[Qlt d om (Q3 _),sbind,Qlt d om (Q3 _),sbind,Qu,Qu,oo e,oo om];simp only[];rw[Qo4 d om,sbind,Qcb d (ym (Nat.gcd_le_left _ om) e),sbind,<-f,Nat.gcd_comm u v,Nat.gcd_rec v u,Nat.gcd_comm]
theorem Qoh{n:Nat}{a b:List Nat}(i:big<=n)(l:a.length<4398046511104)(m:b.length<4398046511104)(e:Wd a)(f:Wd b):
 Qad n a b=some (toL (val a / Nat.gcd (val a) (val b)),toL (val b / Nat.gcd (val a) (val b))):=by
 unfold Qad;rw[Qq1 i l m e f,sbind,bifd];have q:Nat.gcd (val a) (val b) ∣ val a:=Nat.gcd_dvd_left _ _;have r:Nat.gcd (val a) (val b) ∣ val b:=Nat.gcd_dvd_right _ _;have s:=Jn e;have u:=Jn f;have d:Nat.gcd (val a) (val b)=0\/(toL (Nat.gcd (val a) (val b))).length<4398046511104:=by by_cases h:val a=0;rw[h,Nat.gcd_zero_left];right;omega;right;exact ym (Vv (Nat.gcd_le_left _ om)) om
 by_cases h0:Nat.gcd (val a) (val b)=0;rw[h0,K0,oo oa,Nat.div_zero,Nat.div_zero,K0];have v:(toL (Nat.gcd (val a) (val b))).length≠0:=λh=>by rw[Yb h0] at h;simp at h
 rw[ol om,Qq0,sbind,bifd];by_cases j:Nat.gcd (val a) (val b)=1;rw[oo j,Vo i om,sbind,Vo i om,sbind,j,Nat.div_one,Nat.div_one,Ji e,Ji f];have d:(toL (Nat.gcd (val a) (val b))).length<4398046511104:=by rcases d with h | h;exact absurd h h0;exact h
 rw[ol j,Qez i l d e (Q3 _),sbind,Qez i m d f (Q3 _),sbind,Qu,ol h0,ol h0]
def wv(w:Qg):Int:=if w.Neg then -(val w.G1:Int) else (val w.G1:Int)
def toW(z:Int):Qg:=⟨decide (z<0),toL z.natAbs⟩
theorem Qai(z:Int):wv (toW z)=z:=by unfold wv toW;simp only[ur,Qu];split<;>omega
theorem Qcc{v:Nat}:0<(toL v).length↔v≠0:=by constructor;rintro h rfl;rw[K0] at h;simp at h;intro h;rw[Yb h];simp
theorem Wt{s:Bool}{v:Nat}:K5 s (toL v)=some (toW (if s then -(v:Int) else (v:Int))):=by unfold K5 toW;rw[jn_eq];cases s;rw[bifF];congr 2;rw[bifT];congr 2;exact vp.2 (by simp only[vb];have:=@Qcc v;omega);simp
def Ww(w:Qg):Prop:=Wd w.G1/\w.G1.length<4398046511104
theorem Qq2{n:Nat}{w:Qg}(a:big<=n)(h:Ww w):Zv n w=some (toW (wv w)):=by unfold Zv;rw[Vo a (by have:=h.2;omega),sbind,<-Ji h.1,Wt,sbind];rfl
theorem Qw9(s t:Bool)(x y:Nat):(if (s != t) then -((x*y:Nat):Int) else ((x*y:Nat):Int))=(if s then -(x:Int) else (x:Int))*(if t then -(y:Int) else (y:Int)):=by cases s<;>cases t<;>simp[Int.neg_mul,Int.mul_neg]
theorem Qlv{n:Nat}{w u:Qg}(e:big<=n)(d:Ww w)(a:Ww u):Qb5 n w u=some (toW (wv w*wv u)):=by unfold Qb5;rw[Qey e (by have:=d.2;omega) (by have:=a.2;omega) d.1 a.1,sbind,Wt,sbind,Qw9];rfl
theorem Qvr{x y:Nat}:cmpI x y<0↔x<y:=by by_cases h:x<y;simp[cmpI,h];rw[cmpI,ol h];split<;>omega
theorem Qlw{n:Nat}{w u:Qg}(f:big<=n)(e:Ww w)(d:Ww u):Qb6 n w u=some (toW (wv w+wv u)):=by unfold Qb6;have j:=e.2;have l:=d.2;rw[Qvn f om om e.1 d.1,sbind,Wt,sbind,Qvo f om om e.1 d.1,sbind,bifd,Wt,sbind,Wt,sbind];unfold wv;rcases w with ⟨s,a⟩;rcases u with ⟨t,b⟩;simp only[];generalize val a=x;generalize val b=y;have i:=@Qvr x y;cases s<;>cases t<;>simp only[beq_self_eq_true,bifT,bifF,gm,vb,if_false,show(false == true)=false by rfl,show(true == false)=false by rfl,i];congr 2;split<;>congr 2<;>omega;split<;>congr 2<;>omega;congr 2;omega
theorem Qr9{n:Nat}{w:Qg}(a:big<=n)(h:Ww w):Qb7 n w=some (toW (-wv w)):=by unfold Qb7;rw[Vo a (by have:=h.2;omega),sbind,<-Ji h.1,Wt,sbind];unfold wv;cases w.Neg<;>simp
theorem Q1u(z:Int):(toW (-z)).G1=(toW z).G1:=by unfold toW;simp
theorem Qbz(z:Int):Wd (toW z).G1:=Q3 _
theorem Qkd{n:Nat}{w:Qg}(a:big<=n)(h:Ww w):Y3 n w=some (Int.sign (wv w)):=by unfold Y3 wv;rw[Qm9 a (by have:=h.2;omega) h.1,sbind,bifd];by_cases h0:val w.G1=0;rw[oo h0,h0];cases w.Neg<;>rfl;rw[ol h0];cases w.Neg;rw[bifF,ol oz,Int.sign_eq_one_of_pos om];rw[bifT,oo rfl,Int.sign_eq_neg_one_of_neg om]
theorem Qfp(w:Qg):(wv w).natAbs=val w.G1:=by unfold wv;split<;>omega
theorem Q3n{w:Qg}(h:Ww w):Ww (toW (-wv w)):=by refine⟨Qbz _,?_⟩;rw[Q1u];show(toL (wv w).natAbs).length<_;rw[Qfp];exact ym (Jn h.1) h.2
theorem Qlx{n:Nat}{w u:Qg}(a:big<=n)(e:Ww w)(d:Ww u):Qb8 n w u=some (toW (wv w - wv u)):=by unfold Qb8;rw[Qr9 a d,sbind,Qlw a e (Q3n d),sbind,Qai,Int.sub_eq_add_neg]
theorem Qsa{n:Nat}{w u:Qg}(a:big<=n)(e:Ww w)(d:Ww u)(h:Ww (toW (wv w - wv u))):Qej n w u=some (Int.sign (wv w - wv u)):=by unfold Qej;rw[Qlx a e d,sbind,Qkd a h,sbind,Qai]
def fv(f:Qa):Rat:=mkRat (wv f.Num) (val f.Den)
def toF(q:Rat):Qa:=⟨toW q.num,toL q.den⟩
theorem Qdi(q:Rat):fv (toF q)=q:=by unfold fv toF;rw[Qai,Qu];exact va q
theorem Qe0{z:Int}{d:Nat}(hd:d≠0):(mkRat z d).num=z / (Nat.gcd z.natAbs d:Int)/\(mkRat z d).den=d / Nat.gcd z.natAbs d:=by rw[<-Rat.normalize_eq_mkRat hd,Rat.normalize_eq];exact⟨rfl,rfl⟩
theorem Qxa(s:Bool)(x g:Nat)(h:g ∣ x):(if s then -((x / g:Nat):Int) else ((x / g:Nat):Int))=(if s then -(x:Int) else (x:Int)) / (g:Int):=by cases s;simp;simp only[vb];rw[Int.neg_ediv_of_dvd (Int.natCast_dvd_natCast.2 h)];simp
theorem Qbu{n:Nat}{w:Qg}{d:List Nat}(i:big<=n)(e:Ww w)(hd:Wd d)(q:d.length<4398046511104)(h0:val d≠0):W6 n w d=some (toF (mkRat (wv w) (val d))):=by unfold W6;have f:=e.2;have m:Nat.gcd (val w.G1) (val d) ∣ val w.G1:=Nat.gcd_dvd_left _ _;have a:(toL (val w.G1 / Nat.gcd (val w.G1) (val d))).length<4398046511104:=ym (xm (Vv (we _ _)) (Jn e.1)) f;rw[Qoh i f q e.1 hd,sbind,Qq2 i ⟨Q3 _,a⟩,sbind];obtain⟨j,l⟩:=Qe0 (z:=wv w) h0;unfold toF;rw[j,l,Qfp];congr 2;unfold wv;rw[Qu];congr 1;exact Qxa _ _ _ m
def Fw(f:Qa):Prop:=Ww f.Num/\Wd f.Den/\f.Den.length<4398046511104
theorem Qke{n:Nat}{f:Qa}(d:big<=n)(i:Fw f):∃ p,Kq n f=some p/\Ww p.1/\Wd p.2/\p.2.length<=max 1 f.Den.length/\p.1.G1.length<=f.Num.G1.length/\val p.2≠0/\mkRat (wv p.1) (val p.2)=fv f:=by obtain⟨e,a,j⟩:=i;unfold Kq fv;rw[Qm9 d om a,sbind,bifd];by_cases h0:val f.Den=0;rw[oo h0,Qcb d om,sbind];refine⟨_,rfl,⟨J4,oc⟩,Q3 _,?_,oc,by simp only[Qu];decide,?_⟩;have:=Qah (n:=1) (k:=1) (by rw[Kc,Xf];omega);simp only[];omega;simp only[Qu,h0,Rat.mkRat_zero];rfl;rw[ol h0];exact⟨_,rfl,e,a,by simp only[];omega,xn _,h0,rfl⟩
theorem Qg5{n:Nat}{f:Qa}(d:big<=n)(a:Fw f):J7 n f=some (toF (fv f)):=by obtain⟨p,e,i,j,q,r,l,m⟩:=Qke d a;unfold J7;rw[e,sbind,Qbu d i j (by have:=a.2.2;omega) l,sbind,m]
theorem Yv{x y:Nat}:(toL (x*y)).length<=(toL x).length+(toL y).length:=by refine Qah ?_;have a:=Vi (Q3 x);have d:=Vi (Q3 y);rw[Qu] at a d;rw[Qzb];exact Nat.mul_lt_mul'' a d
theorem Qiw{x y k:Nat}(d:(toL x).length<=k)(e:(toL y).length<=k):(toL (x+y)).length<=k+1:=by refine Qah ?_;have g1:=Vi (Q3 x);have a:=Vi (Q3 y);rw[Qu] at g1 a;have g3:=bp_le d;have g4:=bp_le e;rw[Kc];omega
theorem Y9{n:Nat}{w:Qg}{d:List Nat}(e:big<=n)(f:Ww w)(hd:Wd d)(a:d.length<4398046511104):W2 n w d=some (toW (wv w*(val d:Int))):=by unfold W2;rw[Qlv e f ⟨hd,a⟩,sbind];rfl
def Fk(k:Nat)(f:Qa):Prop:=Wd f.Num.G1/\f.Num.G1.length<=k/\Wd f.Den/\f.Den.length<=k
theorem Fk_Fw{k:Nat}{f:Qa}(h:Fk k f)(hk:k<4398046511104):Fw f:=⟨⟨h.1,by have:=h.2.1;omega⟩,h.2.2.1,by have:=h.2.2.2;omega⟩
theorem Qdx{n k:Nat}{f:Qa}(s:big<=n)(a:Fk k f)(e:1<=k)(hk:k<4398046511104):∃ w d,Kq n f=some (w,d)/\Wd w.G1/\w.G1.length<=k/\Wd d/\d.length<=k/\val d≠0/\mkRat (wv w) (val d)=fv f:=by obtain⟨⟨w,d⟩,e,i,j,l,m,q,r⟩:=Qke s (Fk_Fw a hk);exact⟨w,d,e,i.1,xm m a.2.1,j,by have:=a.2.2.2;simp only at l;omega,q,r⟩
theorem Qg6{w:Qg}{y k j:Nat}(a:Wd w.G1)(d:w.G1.length<=k)(e:(toL y).length<=j):(toW (wv w*(y:Int))).G1.length<=k+j:=by unfold toW;simp only[];rw[wo,Qfp,uw];have:=@Yv (val w.G1) y;have:=Jn a;omega
theorem Qe1{n k:Nat}{f g:Qa}(a:big<=n)(m:1<=k)(hk:k<1099511627776)(B:Fk k f)(C:Fk k g):Kz n f g=some (toF (fv f+fv g)):=by
 obtain⟨w,d,a1,a2,a3,a4,a5,a6,a7⟩:=Qdx a B m om;obtain⟨u,e,s,j,v,i,x,l,A⟩:=Qdx a C m om;have q:=Qg6 a2 a3 (xm (Jn i) x);have r:=Qg6 j v (xm (Jn a4) a5);unfold Kz;rw[a1,sbind,s,sbind,Y9 a ⟨a2,om⟩ i om,sbind,Y9 a ⟨j,om⟩ a4 om,sbind,Qlw a ⟨Qbz _,om⟩ ⟨Qbz _,om⟩,sbind,Qey a om om a4 i,sbind];have F:=@Yv (val d) (val e);have G:=Jn a4;have H:=Jn i;rw[Qai,Qai];have E:(toW (wv w * ↑(val e)+wv u * ↑(val d))).G1.length<=2*k+1:=by
  unfold toW at q r |-;simp only[] at q r |-;have:=Int.natAbs_add_le (wv w * ↑(val e)) (wv u * ↑(val d));exact xm (Vv this) (Qiw om om)
 rw[Qbu a ⟨Qbz _,om⟩ (Q3 _) om (by rw[Qu];exact gn a6 l),sbind,Qu,Qai,<-a7,<-A,wu _ _ a6 l]
theorem Q19{n k:Nat}{f g:Qa}(a:big<=n)(m:1<=k)(hk:k<1099511627776)(B:Fk k f)(C:Fk k g):Qf4 n f g=some (toF (fv f - fv g)):=by
 obtain⟨w,d,a1,a2,a3,a4,a5,a6,a7⟩:=Qdx a B m om;obtain⟨u,e,s,j,v,i,x,l,A⟩:=Qdx a C m om;have q:=Qg6 a2 a3 (xm (Jn i) x);have r:=Qg6 j v (xm (Jn a4) a5);unfold Qf4;rw[a1,sbind,s,sbind,Y9 a ⟨a2,om⟩ i om,sbind,Y9 a ⟨j,om⟩ a4 om,sbind,Qlx a ⟨Qbz _,om⟩ ⟨Qbz _,om⟩,sbind,Qey a om om a4 i,sbind];have F:=@Yv (val d) (val e);have G:=Jn a4;have H:=Jn i;rw[Qai,Qai];have E:(toW (wv w * ↑(val e) - wv u * ↑(val d))).G1.length<=2*k+1:=by
  unfold toW at q r |-;simp only[] at q r |-;have:=Int.natAbs_sub_le (wv w * ↑(val e)) (wv u * ↑(val d));exact xm (Vv this) (Qiw om om)
 rw[Qbu a ⟨Qbz _,om⟩ (Q3 _) om (by rw[Qu];exact gn a6 l),sbind,Qu,Qai,<-a7,<-A,Rat.sub_eq_add_neg,Rat.neg_mkRat,wu _ _ a6 l,Int.neg_mul,<-Int.sub_eq_add_neg]
theorem Qnc{n k:Nat}{f g:Qa}(a:big<=n)(l:1<=k)(hk:k<1099511627776)(s:Fk k f)(v:Fk k g):Wu n f g=some (toF (fv f*fv g)):=by
 obtain⟨w,d,a1,a2,a3,a4,a5,a6,a7⟩:=Qdx a s l om;obtain⟨u,e,m,i,x,j,A,q,r⟩:=Qdx a v l om;unfold Wu;rw[a1,sbind,m,sbind,Qlv a ⟨a2,om⟩ ⟨i,om⟩,sbind,Qey a om om a4 j,sbind];have E:=@Yv (val d) (val e);have F:=Jn a4;have G:=Jn j;have C:(toW (wv w*wv u)).G1.length<=2*k:=by unfold toW;simp only[];rw[wo,Qfp,Qfp];have g1:=@Yv (val w.G1) (val u.G1);have B:=Jn a2;have g3:=Jn i;omega
 rw[Qbu a ⟨Qbz _,om⟩ (Q3 _) om (by rw[Qu];exact gn a6 q),sbind,Qu,Qai,<-a7,<-r,Rat.mkRat_mul_mkRat]
theorem Qly{a b:Int}{d e:Nat}(hd:d≠0)(f:e≠0):Int.sign (a*(e:Int) - b*(d:Int))=Int.sign (mkRat a d - mkRat b e).num:=by rw[Rat.sub_eq_add_neg,Rat.neg_mkRat,wu _ _ hd f,Int.neg_mul,<-Int.sub_eq_add_neg];generalize a*(e:Int) - b*(d:Int)=z;have h0:d*e≠0:=gn hd f;obtain⟨i,_⟩:=Qe0 (z:=z) h0;rw[i];have l:(Nat.gcd z.natAbs (d*e):Int) ∣ z:=Int.dvd_natAbs.1 (Int.natCast_dvd_natCast.2 (Nat.gcd_dvd_left _ _));obtain⟨c,j⟩:=l;have m:0<Nat.gcd z.natAbs (d*e):=Nat.gcd_pos_of_pos_right _ om;generalize Nat.gcd z.natAbs (d*e)=g at *;subst j;rw[Int.mul_ediv_cancel_left _ om,Int.sign_mul,Int.sign_eq_one_of_pos om,Int.one_mul]
theorem Qnd{n k:Nat}{f g:Qa}(a:big<=n)(l:1<=k)(hk:k<1099511627776)(B:Fk k f)(C:Fk k g):Qbp n f g=some (Int.sign (fv f - fv g).num):=by
 obtain⟨w,d,a1,a2,a3,a4,a5,a6,a7⟩:=Qdx a B l om;obtain⟨u,e,r,i,s,j,v,x,A⟩:=Qdx a C l om;have m:=Qg6 a2 a3 (xm (Jn j) v);have q:=Qg6 i s (xm (Jn a4) a5);have E:(toW (wv w * ↑(val e) - wv u * ↑(val d))).G1.length<=2*k+1:=by unfold toW at m q |-;simp only[] at m q |-;have:=Int.natAbs_sub_le (wv w * ↑(val e)) (wv u * ↑(val d));exact xm (Vv this) (Qiw om om)
 unfold Qbp;rw[a1,sbind,r,sbind,Y9 a ⟨a2,om⟩ j om,sbind,Y9 a ⟨i,om⟩ a4 om,sbind,Qsa a ⟨Qbz _,om⟩ ⟨Qbz _,om⟩ (by rw[Qai,Qai];exact⟨Qbz _,om⟩),sbind,Qai,Qai,Qly a6 x,a7,A]
theorem Qsb:∀ {a b:List Nat},Wd a->Wd b->a.length=b.length->val a=val b->a=b
 | [],[],_,_,_,_=>rfl
 | [],_::_,_,_,h,_=>by simp at h
 | _::_,[],_,_,h,_=>by simp at h
 | x::a,y::b,f,i,j,l=>by
   obtain⟨m,d⟩:=Jg.1 f;obtain⟨q,e⟩:=Jg.1 i;simp only[val] at l;have:x=y:=om
   subst this;rw[Qsb d e (by simpa using j) om]
theorem Qkf{x y:Nat}:cmpI x y=0↔x=y:=by unfold cmpI;split;constructor<;>intro h<;>omega;split;constructor<;>intro h<;>omega;constructor<;>intro h<;>omega
open Classical in
theorem Qkg{n:Nat}{f:Qa}(v:big<=n)(x:Fw f):Y2 n f=some (decide (f=toF (fv f))):=by
 unfold Y2;rw[Qg5 v x,sbind,jn_eq];have w1:Wd (toF (fv f)).Num.G1:=Q3 _;have w:Wd (toF (fv f)).Den:=Q3 _;generalize toF (fv f)=g at *;obtain⟨⟨r,A⟩,u,B⟩:=x;obtain⟨⟨s,a⟩,d⟩:=f;obtain⟨⟨t,b⟩,e⟩:=g;simp only at r A u B w1 w |-;have i:∀ {P:Prop},(P->False)->(some false:Option Bool)=some (decide P):=λh=>by rw[oi h]
 by_cases c1:s=t;subst c1;rw[show(s == s)=true by simp,bifT];by_cases m:(a.length:Int)=(b.length:Int)
 rw[oj m,bifT];by_cases q:(d.length:Int)=(e.length:Int)
 rw[oj q,bifT,Qdg v om om r w1,sbind];by_cases j:val a=val b;rw[oj (Qkf.2 j),bifT,Qdg v om om u w,sbind];by_cases l:val d=val e;rw[oj (Qkf.2 l),Qsb r w1 om j,Qsb u w om l,oj rfl];rw[oi λh=>l (Qkf.1 h)];exact i λh=>by cases h;exact l rfl
 rw[oi λh=>j (Qkf.1 h),bifF];exact i λh=>by cases h;exact j rfl
 rw[oi q,bifF];exact i λh=>by cases h;exact q rfl
 rw[oi m,bifF];exact i λh=>by cases h;exact m rfl
 rw[show(s == t)=false by simpa using c1,bifF];exact i λh=>by cases h;exact c1 rfl
def qw(q:Rat):Nat:=max (toL q.num.natAbs).length (toL q.den).length
theorem Qbi{j k:Nat}{f:Qa}(h:Fk j f)(hk:j<=k):Fk k f:=⟨h.1,by have:=h.2.1;omega,h.2.2.1,by have:=h.2.2.2;omega⟩
theorem Qer{q:Rat}{k:Nat}(h:qw q<=k):Fk k (toF q):=by unfold qw at h;exact⟨Qbz _,by show(toL q.num.natAbs).length<=k;omega,Q3 _,by show(toL q.den).length<=k;omega⟩
theorem toL1:(toL 1).length=1:=by rw[Yb oz];simp[K0]
theorem Qpt{z:Int}{d k:Nat}(hd:d≠0)(i:(toL z.natAbs).length<=k)(j:(toL d).length<=k):qw (mkRat z d)<=k:=by obtain⟨a,e⟩:=Qe0 (z:=z) hd;unfold qw;rw[a,e];have g1:=Vv (Int.natAbs_ediv_le_natAbs z (Nat.gcd z.natAbs d:Int));have f:=Vv (we d (Nat.gcd z.natAbs d));omega
theorem Qg7:qw 0=1:=by unfold qw;rw[show(0:Rat).num=0 from rfl,show(0:Rat).den=1 from rfl,toL1];simp[K0]
theorem qw_fv{f:Qa}{k:Nat}(h:Fk k f)(a:1<=k):qw (fv f)<=k:=by unfold fv;by_cases h0:val f.Den=0;rw[h0,Rat.mkRat_zero,Qg7];exact a;refine Qpt h0 ?_ ?_;rw[Qfp];exact xm (Jn h.1) h.2.1;exact xm (Jn h.2.2.1) h.2.2.2
theorem Qdj(q:Rat):(toL q.num.natAbs).length<=qw q:=by unfold qw;omega
theorem Qdk(q:Rat):(toL q.den).length<=qw q:=by unfold qw;omega
theorem Qoi{a b:Rat}{j k:Nat}(f:qw a<=j)(i:qw b<=k):qw (a*b)<=j+k:=by rw[<-va a,<-va b,Rat.mkRat_mul_mkRat];have l:=Qdj a;have m:=Qdj b;have d:=Qdk a;have e:=Qdk b;have:=@Yv a.num.natAbs b.num.natAbs;have:=@Yv a.den b.den;exact Qpt (gn a.den_nz b.den_nz) (by rw[wo];omega) om
theorem Qjm{a b:Rat}{j k:Nat}(f:qw a<=j)(i:qw b<=k):qw (a+b)<=j+k+1:=by rw[<-va a,<-va b,wu _ _ a.den_nz b.den_nz];have r:=Qdj a;have s:=Qdj b;have d:=Qdk a;have e:=Qdk b;have l:=@Yv a.num.natAbs b.den;have m:=@Yv b.num.natAbs a.den;have q:=@Yv a.den b.den;refine Qpt (gn a.den_nz b.den_nz) ?_ om;refine xm (Vv (Int.natAbs_add_le _ _)) ?_;rw[wo,wo,uw,uw];exact Qiw om om
theorem Qsc(a:Rat):(-a).num=-a.num:=rfl
theorem Q1v(a:Rat):(-a).den=a.den:=rfl
theorem Qzj(a:Rat):qw (-a)=qw a:=by unfold qw;rw[Qsc,Q1v,Int.natAbs_neg]
theorem Q1w(x:Int):toF (x:Rat)=⟨toW x,toL 1⟩:=by unfold toF;rw[Rat.num_intCast,Rat.den_intCast]
theorem Qty{n:Nat}{x:Int}(a:big<=n)(d:-9223372036854775808<=x)(f:x<=9223372036854775807):Qfx n x=some (toW x):=by
 unfold Qfx;rw[bifd];split;rename_i h;have e:(18446744073709551616 - Int.toNat (x%18446744073709551616))%18446744073709551616=x.natAbs:=om
 rw[sbind,e,Qcb a om,sbind,Wt,sbind,oo rfl,show -((x.natAbs:Nat):Int)=x by omega];rename_i h;have e:Int.toNat (x%18446744073709551616)=x.natAbs:=om
 rw[e,Qcb a om,sbind,Wt,sbind,ol oz,show((x.natAbs:Nat):Int)=x by omega]
theorem Qdl{n:Nat}{x:Int}(a:big<=n)(d:-9223372036854775808<=x)(e:x<=9223372036854775807):Jo n x=some (toF (x:Rat)):=by unfold Jo;rw[Qty a d e,sbind,Qcb a oz,sbind,Q1w]
theorem Qdy{n:Nat}(a:big<=n):Jo n 0=some (toF 0):=Qdl a oz oz
theorem Qtz{n:Nat}(a:big<=n):Jo n 1=some (toF 1):=Qdl a oz oz
theorem Qyk{z:Int}{d:Nat}(hd:d≠0):(mkRat z d).num.sign=z.sign:=by have:=Qly (a:=z) (b:=0) hd (e:=1) oz;rw[Rat.zero_mkRat,show mkRat z d - 0=mkRat z d by rw[Rat.sub_eq_add_neg,show(-0:Rat)=0 from rfl,Rat.add_zero]] at this;rw[<-this];simp
theorem Qdz{n k:Nat}{f:Qa}(a:big<=n)(e:1<=k)(hk:k<1099511627776)(i:Fk k f):W8 n f=some (fv f).num.sign:=by obtain⟨w,d,a1,a2,a3,a4,a5,a6,a7⟩:=Qdx a i e om;unfold W8;rw[a1,sbind,Qkd a ⟨a2,om⟩,sbind,<-a7,Qyk a6]
theorem Qvs{a b:Rat}:(a - b).num=0↔a=b:=by rw[Rat.num_eq_zero];grind
theorem Qg8{n k:Nat}{f g:Qa}(i:big<=n)(a:1<=k)(hk:k<1099511627776)(d:Fk k f)(e:Fk k g):W7 n f g=some (decide (fv f=fv g)):=by unfold W7;rw[Qnd i a hk d e,sbind];refine ud some (vp.2 ?_);rw[Int.sign_eq_zero_iff_zero,Qvs]
def qz(q:Rat):Nat:=blen q.num.natAbs+blen q.den
def rv(l:List Qa):List Rat:=l.map fv
def toR(l:List Rat):List Qa:=l.map toF
theorem Qq3(l:List Rat):rv (toR l)=l:=by
 unfold rv toR;rw[yy]
 conv=>rhs;rw[<-List.map_id l]
 exact ww λq _=>Qdi q
theorem Qoj(l:List Qa):(rv l).length=l.length:=by unfold rv;simp
theorem Qcd(l:List Rat):(toR l).length=l.length:=by unfold toR;simp
def FR(k:Nat)(l:List Qa):Prop:=∀ x∈l,Fk k x
def QR(k:Nat)(l:List Rat):Prop:=∀ x∈l,qw x<=k
theorem Qlz{k:Nat}{l:List Rat}(h:QR k l):FR k (toR l):=λx a=>by unfold toR at a;obtain⟨q,d,rfl⟩:=xy.1 a;exact Qer (h q d)
theorem QR_rv{k:Nat}{l:List Qa}(h:FR k l)(d:1<=k):QR k (rv l):=λx a=>by unfold rv at a;obtain⟨q,e,rfl⟩:=xy.1 a;exact qw_fv (h q e) d
theorem Qce{j k:Nat}{l:List Qa}(h:FR j l)(hk:j<=k):FR k l:=λx a=>Qbi (h x a) hk
theorem Qix{j k:Nat}{l:List Rat}(h:QR j l)(hk:j<=k):QR k l:=λx a=>xm (h x a) hk
theorem Qxb{α:Type}{n:Nat}{a:List α}{g:α->Rat}{f:Nat->α->List Qa->Option (Lp (List Qa) (List Qa))}(_:big<=n)(j:a.length<=1000000)
 (e:∀ i x s,a[i]?=some x->f i x s=(appM 56 s [toF (g x)]).bind λy=>some (Lp.go y)):(rangeL f a 0 []).bind (lpK λs=>some s)=some (toR (a.map g)):=by
 rw[Qfn (λi=>(a.take i).map λx=>toF (g x)) a,Wj,xv];unfold toR;rw[yy];rfl;intro i x d;have:=Vs d;rw[e i x _ d,Vm oh oh,sbind,Xv _ d];rfl
theorem Qt0{n k:Nat}{a:List Qa}(d:big<=n)(hk:k<1099511627776)(e:FR k a)(f:a.length<=1000000):Qf1 n a=some (toR (rv a)):=by unfold Qf1;refine Qxb (g:=fv) d f λi x s j=>?_;rw[Qg5 d (Fk_Fw (e x (Kg j)) om),sbind]
def scaleQ(c:Rat)(l:List Rat):List Rat:=l.map (c * ·)
theorem Qg9{n k:Nat}{c:Qa}{a:List Qa}(d:big<=n)(e:1<=k)(hk:k<1099511627776)(j:Fk k c)(f:FR k a)(l:a.length<=1000000):Wm n c a=some (toR (scaleQ (fv c) (rv a))):=by unfold Wm;rw[Qxb (g:=λx=>fv c*fv x) d l λi x s m=>?_];unfold scaleQ rv;rw[yy];rfl;rw[Qnc d e hk j (f x (Kg m)),sbind]
theorem Qpu{j k:Nat}{c:Rat}{l:List Rat}(d:qw c<=j)(h:QR k l):QR (j+k) (scaleQ c l):=λx a=>by unfold scaleQ at a;obtain⟨q,e,rfl⟩:=xy.1 a;exact Qoi d (h q e)
theorem Qzk{α β τ R:Type}{f:Nat->α->List β->Option (Lp (List β) τ)}{K:Lp (List β) τ->Option R}(g:α->β->β)(xs:List α)(s:List β)(h:xs.length=s.length)
 (q:∀ i x y j,xs[i]?=some x->s[i]?=some y->j[i]?=some y->f i x j=some (.go (j.set i (g x y)))):(rangeL f xs 0 s).bind K=K (.go (List.zipWith g xs s)):=by
 have a:∀ i,i<=xs.length->(List.zipWith g (xs.take i) (s.take i)).length=i:=λi hi=>oh
 rw[Qfn (λi=>List.zipWith g (xs.take i) (s.take i)++s.drop i) xs];rw[xv,h,xv,List.drop_length,uj];intro i x d;have hi:=Vs d;have e:s[i]?=some s[i]:=oq om;have r:(List.zipWith g (xs.take i) (s.take i)++s.drop i)[i]?=some s[i]:=by rw[yd (by rw[a i om];exact xn _),a i om,Nat.sub_self,List.getElem?_drop,xf,e]
 rw[q i x s[i] _ d e r];refine ud (λz=>some (Lp.go z)) ?_;have hd:s.drop i=s[i]::s.drop (i+1):=xz om;have l:xs.take (i+1)=xs.take i++[x]:=by rw[List.take_add_one,d];rfl
 have m:s.take (i+1)=s.take i++[s[i]]:=by rw[List.take_add_one,e];rfl
 rw[hd,List.set_append_right _ _ (by rw[a i om];exact xn _),a i om,Nat.sub_self,List.set_cons_zero,l,m,List.zipWith_append oh];simp;simp
def addQ(a b:List Rat):List Rat:=List.zipWith (·+·) a b
theorem Qzl{α:Type}{x:α}{l:List α}:getI (x::l) 0=some x:=rfl
theorem Qok{n k:Nat}{a b:List Qa}(l:big<=n)(f:1<=k)(hk:k<1099511627776)(j:FR k a)(m:FR k b)(q:a.length<=1000000):
 Ws n [a,b]=some (if a.length=b.length then (toR (addQ (rv a) (rv b)),true) else ([],false)):=by
 unfold Ws;have r:sub [a,b] (1:Int) (([a,b]:List (List Qa)).length:Int)=some [b]:=rfl;rw[show decide ((([a,b]:List (List Qa)).length:Int)=0)=false from rfl,bifF,Qzl,sbind,Qt0 l hk j q,sbind,r,sbind];simp only[rangeL];rw[Qcd,Qoj];by_cases h:a.length=b.length;rw[oo h,oj (show(b.length:Int)=(a.length:Int) by omega),xg,bifF,Qzk (λ(x:Qa) (y:Qa)=>toF (fv y+fv x)) b (toR (rv a)) (by rw[Qcd,Qoj,h]),Wj,sbind];simp only[];rw[sbind,Wj];refine ud some (Prod.ext ?_ rfl);simp only[];unfold addQ toR rv;rw[List.map_zipWith,yy,List.zipWith_map_right,List.zipWith_map,List.zipWith_comm];congr 1;funext x y;simp only[Function.comp,Qdi];intro i x y v s u d;have e:Fk k y:=Qlz (QR_rv j f) y (Kg u);rw[J6 d,sbind,Qe1 l f hk e (m x (Kg s)),sbind,sbind,ut];rw[ol h,oi (show ¬(b.length:Int)=(a.length:Int) by omega),xt,bifT,sbind];rfl
theorem Qxc{α β γ:Type}{g:α->β->γ}{P:γ->Prop}:∀ {a:List α}{b:List β},(∀ x∈a,∀ y∈b,P (g x y))->∀ z∈List.zipWith g a b,P z
 | [],_,_,z,d=>by simp at d
 | _::_,[],_,z,d=>by simp at d
 | x::a,y::b,h,z,d=>by rcases xl.1 d with rfl | d;exact h x (.head _) y (.head _);exact Qxc (λi e j f=>h i (.tail _ e) j (.tail _ f)) z d
theorem Qzm{j k:Nat}{a b:List Rat}(d:QR j a)(e:QR k b):QR (j+k+1) (addQ a b):=Qxc λx f y i=>Qjm (d x f) (e y i)
theorem Qha{a b:List Rat}:(addQ a b).length=min a.length b.length:=by unfold addQ;simp
theorem Qgl{c:Rat}{a:List Rat}:(scaleQ c a).length=a.length:=by unfold scaleQ;simp
theorem Qt1{n m:Nat}(a:big<=n)(d:m<=300):Wc n (m:Int)=some (toR (List.replicate m 0)):=by
 unfold Wc;have e:min (max (m:Int) 0) 300=(m:Int):=om
 rw[e,Qbg om om,sbind];rw[Yu (λi=>(List.replicate i (toF 0)++List.replicate (m - i) (⟨⟨false,[]⟩,[]⟩:Qa),(i:Int))) m (toR (List.replicate m 0))];intro i hi;simp only[bifd];have hd:List.replicate (m - i) (⟨⟨false,[]⟩,[]⟩:Qa)=⟨⟨false,[]⟩,[]⟩::List.replicate (m - (i+1)) ⟨⟨false,[]⟩,[]⟩:=by rw[show m - i=(m - (i+1))+1 by omega,ue]
 rw[oo om,Qdy a,sbind,hd,J2 oc,sbind,Vk oc,w1 om];refine ud (λz=>some (Lp.go (z,_))) ?_;rw[List.replicate_succ',xe];rfl;simp only[bifd];rw[ol om,Nat.sub_self,List.replicate_zero,uj];unfold toR;rw[List.map_replicate];unfold big at a;omega;simp
theorem Qsd(l:List Qa)(i:Nat):(rv l)[i]?=(l[i]?).map fv:=by unfold rv;simp
theorem Qt2{n k:Nat}{a b:List Qa}(v:big<=n)(q:1<=k)(hk:k<1099511627776)(s:FR k a)(u:FR k b):Qdt n a b=some (decide (rv a=rv b)):=by
 classical
 unfold Qdt;by_cases h:a.length=b.length;rw[oj (show(a.length:Int)=(b.length:Int) by omega),xg,bifF];rw[Zp (λi (x:Qa)=>∀ y,b[i]?=some y->fv x=fv y) (r:=false)];have e:(∀(i:Nat) x,a[i]?=some x->∀ y,b[i]?=some y->fv x=fv y)↔rv a=rv b:=by constructor;intro g;refine List.ext_getElem? λi=>?_;rw[Qsd,Qsd];rcases xd i a.length with hi | hi;have l:a[i]?=some a[i]:=oq hi;have d:b[i]?=some (b[i]' om):=oq om;have:=g i _ l _ d;rw[l,d];exact ud some this;rw[ou hi,ou om];intro g i x f y j;have:=ud (·[i]?) g;simp only[Qsd,f,j,Option.map_some] at this;exact Option.some.inj this
 by_cases hd:rv a=rv b;rw[oo (e.2 hd),oj hd];rw[ol (λg=>hd (e.1 g)),oi hd];intro i x f;have hi:=Vs f;have d:b[i]?=some (b[i]' om):=oq om;rw[J6 d,sbind,Qg8 v q hk (s x (Kg f)) (u _ (Kg d)),sbind];constructor;intro g;rw[oj (g _ d)];rfl;intro g;rw[oi (λm=>g λy j=>by rw[d] at j;cases j;exact m)];rfl;rw[oi (show ¬(a.length:Int)=(b.length:Int) by omega),xt,bifT,oi];intro g;apply h;rw[<-Qoj a,g,Qoj]
theorem Qcm(x m:Int):W3 x m=some (decide (0<=x/\x<m)):=by unfold W3;simp only[jn_eq,bifd];by_cases h:0<=x;rw[oo h];simp[h];rw[ol h];simp[h]
def rdT(i:Jh):List Int:=if i.Op=6\/i.Op=11 then [i.A] else if i.Op=7\/i.Op=8\/i.Op=9\/i.Op=10 then [i.A,i.B] else []
theorem Qq4(i:Jh):Qa4 i=some (rdT i):=by unfold Qa4 rdT;simp only[jn_eq,bifd];by_cases e:i.Op=6;simp[e];by_cases d:i.Op=11;simp[d];by_cases f:i.Op=7;simp[f];by_cases j:i.Op=8;simp[j];by_cases l:i.Op=9;simp[l];by_cases a:i.Op=10;simp[a];simp[e,f,j,l,a,d]
def TW(t:Q5):Prop:=∀ c∈t.Code,Fw c.N
theorem Qe6{α:Type}{l:List α}{P:α->Prop}:(∀(i:Nat) x,l[i]?=some x->P x)↔∀ a∈l,P a:=by constructor;intro h a d;obtain⟨j,e⟩:=wi d;exact h j a e;intro h i x f;exact h x (Kg f)
noncomputable def dP(p:Prop):Bool:=@decide p (Classical.propDecidable p)
theorem decP{p:Prop}[Decidable p]:decide p=dP p:=by unfold dP;congr
theorem dP_t{p:Prop}(h:p):dP p=true:=by unfold dP;exact @decide_eq_true p (Classical.propDecidable p) h
theorem dP_f{p:Prop}(h:¬ p):dP p=false:=by unfold dP;exact @decide_eq_false p (Classical.propDecidable p) h
theorem dP_c{p q:Prop}(h:p↔q):dP p=dP q:=by rw[show p=q from propext h]
theorem Qbv{p q:Prop}[Decidable p](h:p↔q):some (decide p)=some (dP q):=by rw[decP,dP_c h]
theorem Qse{p q:Prop}(h:p↔q):some (dP p)=some (dP q):=by rw[dP_c h]
theorem Qou{p q r:Prop}[Decidable p][Decidable q](h:p/\q↔r):(if p then some (decide q) else some false)=some (dP r):=by by_cases a:p;rw[oo a];exact Qbv ⟨λe=>h.1 ⟨a,e⟩,λd=>(h.2 d).2⟩;rw[ol a,dP_f λd=>a (h.2 d).1]
theorem Q3o{p q r:Prop}[Decidable p](h:p/\q↔r):(if p then some (dP q) else some false)=some (dP r):=by by_cases a:p;rw[oo a];exact Qse ⟨λe=>h.1 ⟨a,e⟩,λd=>(h.2 d).2⟩;rw[ol a,dP_f λd=>a (h.2 d).1]
def blankF(f:Qa):Prop:=f.Num.Neg=false/\f.Num.G1=[]/\f.Den=[]
theorem Qq5(f:Qa):Qc4 f=some (dP (blankF f)):=by unfold Qc4 blankF;obtain⟨⟨s,a⟩,d⟩:=f;simp only[jn_eq];cases s;simp only[xt,bifT,bifd];refine Qou ⟨λh=>⟨trivial,xc om,xc om⟩,λh=>?_⟩;obtain⟨_,rfl,rfl⟩:=h;exact⟨rfl,rfl⟩;simp only[xg,bifF];rw[dP_f λh=>by cases h.1]
theorem bifnP{α:Type}(p:Prop)(a b:α):(bif !dP p then a else b)=@ite _ p (Classical.propDecidable p) b a:=by by_cases h:p;rw[dP_t h,oo h];rfl;rw[dP_f h,ol h];rfl
def mayR(t:Q5)(i:Nat)(x:Jh):Prop:=
 if x.Op=1 then x.A=0/\x.B=0/\x.N=toF (fv x.N) else
 blankF x.N/\(∀ r∈rdT x,0<=r/\r<(i:Int)) /\
 if x.Op=2 then x.A=0/\x.B=0 else if x.Op=3 then (0<=x.A/\x.A<t.Dim)/\x.B=0 else if x.Op=4 then (0<=x.A/\x.A<t.Par)/\x.B=0 else
 if x.Op=6 then x.B=0 else if x.Op=11 then -8<=x.B/\x.B<=8 else (rdT x).length=2
theorem Qt3{n:Nat}{t:Q5}{i:Nat}{x:Jh}(w:big<=n)(A:Fw x.N)(B:t.Code[i]?=some x):Qdq n t (i:Int)=some (dP (mayR t i x)):=by
 unfold Qdq mayR;rw[J6 B,sbind,bifd];by_cases e:x.Op=1
 have m:(if x.Op=1 then x.A=0/\x.B=0/\x.N=toF (fv x.N) else blankF x.N/\(∀ r∈rdT x,0<=r/\r<(i:Int)) /\
  if x.Op=2 then x.A=0/\x.B=0 else if x.Op=3 then (0<=x.A/\x.A<t.Dim)/\x.B=0 else if x.Op=4 then (0<=x.A/\x.A<t.Par)/\x.B=0 else
  if x.Op=6 then x.B=0 else if x.Op=11 then -8<=x.B/\x.B<=8 else (rdT x).length=2)=(x.A=0/\x.B=0/\x.N=toF (fv x.N)):=oo e
 simp only[m];rw[oo e];have v:=Qkg w A;simp only[jn_eq,Qfb,sbind];have u:Yr (⟨x.Op,x.A,x.B⟩:Js) ⟨1,0,0⟩=decide (x.A=0/\x.B=0):=by unfold Yr;simp only[e];by_cases a:x.A=0<;>by_cases b:x.B=0<;>simp[a,b]
 rw[u,v,sbind,bifd];rw[@decP _ (Classical.propDecidable _)];refine Q3o ⟨λh=>⟨h.1.1,h.1.2,h.2⟩,λh=>⟨⟨h.1,h.2.1⟩,h.2.2⟩⟩
 have m:(if x.Op=1 then x.A=0/\x.B=0/\x.N=toF (fv x.N) else blankF x.N/\(∀ r∈rdT x,0<=r/\r<(i:Int)) /\
  if x.Op=2 then x.A=0/\x.B=0 else if x.Op=3 then (0<=x.A/\x.A<t.Dim)/\x.B=0 else if x.Op=4 then (0<=x.A/\x.A<t.Par)/\x.B=0 else
  if x.Op=6 then x.B=0 else if x.Op=11 then -8<=x.B/\x.B<=8 else (rdT x).length=2)=(blankF x.N/\(∀ r∈rdT x,0<=r/\r<(i:Int)) /\
  if x.Op=2 then x.A=0/\x.B=0 else if x.Op=3 then (0<=x.A/\x.A<t.Dim)/\x.B=0 else if x.Op=4 then (0<=x.A/\x.A<t.Par)/\x.B=0 else
  if x.Op=6 then x.B=0 else if x.Op=11 then -8<=x.B/\x.B<=8 else (rdT x).length=2):=ol e
 simp only[m];rw[ol e,Qq5,sbind,bifnP];by_cases f:blankF x.N;rw[oo f,Qq4,sbind,Zp (λ_ (r:Int)=>0<=r/\r<(i:Int)) (r:=false)];rw[Qe6];by_cases l:∀ r∈rdT x,0<=r/\r<(i:Int);rw[oo l];have fin:∀ {o:Option Bool}{p:Prop},o=some (dP p)->o=some (dP (blankF x.N/\(∀ r∈rdT x,0<=r/\r<(i:Int))/\p)):=λh=>h.trans (Qse ⟨λg=>⟨f,l,g⟩,λg=>g.2.2⟩);refine fin ?_;simp only[jn_eq,Qfb,sbind,Qcm,bifd];by_cases q:x.Op=2;simp only[oo q];refine ud some ?_;unfold Yr;simp only[q];rw[<-decP];by_cases a:x.A=0<;>by_cases b:x.B=0<;>simp[a,b];simp only[ol q];by_cases g3:x.Op=3;simp only[oo g3];exact Qou Iff.rfl;simp only[ol g3];by_cases g4:x.Op=4;simp only[oo g4];exact Qou Iff.rfl;simp only[ol g4];by_cases s:x.Op=6;simp only[oo s];exact Qbv Iff.rfl;simp only[ol s];by_cases d:x.Op=11;simp only[oo d];exact Qou Iff.rfl;simp only[ol d];exact Qbv om;rw[ol l,dP_f λh=>l h.2.1];intro j r _;simp only[Qcm,sbind];constructor;intro h;rw[oj h];rfl;intro h;rw[oi h];rfl;rw[ol f,dP_f λh=>f h.1]
def wholeR(t:Q5):Prop:=(1<=t.Dim/\t.Dim<=6)/\(0<=t.Par/\t.Par<=6)/\(t.Outs.length:Int)=t.Dim/\t.Code.length<=300
def tapeR(t:Q5):Prop:=wholeR t/\(∀(i:Nat) x,t.Code[i]?=some x->mayR t i x)/\∀ o∈t.Outs,0<=o/\o<(t.Code.length:Int)
theorem Qq6(t:Q5)(h:-9223372036854775808<=t.Dim/\t.Dim<=9223372036854775807):Qc3 t=some (dP (wholeR t)):=by
 unfold Qc3 wholeR;simp only[jn_eq,Qcm,sbind,bifd];have d:(0<=wrap64 (t.Dim - 1)/\wrap64 (t.Dim - 1)<6)↔(0<=t.Dim - 1/\t.Dim - 1<6):=by unfold wrap64;omega
 by_cases g1:0<=t.Dim - 1/\t.Dim - 1<6;rw[oo (d.2 g1)];by_cases a:0<=t.Par/\t.Par<7;rw[oo a];by_cases g3:(t.Outs.length:Int)=t.Dim;rw[oo g3];exact Qbv om;rw[ol g3,dP_f om];rw[ol a,dP_f om];rw[ol (λh=>g1 (d.1 h)),dP_f om]
theorem Qyl{R:Type}{f:Nat->Jh->Unit->Option (Lp Unit R)}{K:Unit->Option R}{xs:List Jh}(P:Nat->Jh->Prop)(r:Nat->R)
 (d:∀ i x,xs[i]?=some x->(P i x->f i x ()=some (.go ()))/\(¬ P i x->f i x ()=some (.out (r i)))) :
 ((∀(i:Nat) x,xs[i]?=some x->P i x)/\(rangeL f xs 0 ()).bind (lpK K)=K ())\/(¬(∀(i:Nat) x,xs[i]?=some x->P i x)/\∃ j,(rangeL f xs 0 ()).bind (lpK K)=some (r j)):=by
 have key:∀(xs:List Jh) (k:Nat),(∀ i x,xs[i]?=some x->(P (k+i) x->f (k+i) x ()=some (.go ()))/\(¬ P (k+i) x->f (k+i) x ()=some (.out (r (k+i))))) ->
  ((∀(i:Nat) x,xs[i]?=some x->P (k+i) x)/\(rangeL f xs k ()).bind (lpK K)=K ())\/(¬(∀(i:Nat) x,xs[i]?=some x->P (k+i) x)/\∃ j,(rangeL f xs k ()).bind (lpK K)=some (r j)):=by
  intro xs
  induction xs with
  | nil=>intro k _;exact .inl ⟨λi x h=>by simp at h,rfl⟩
  | cons x xs s=>
    intro k d;have h0:=d 0 x rfl;simp only[xf] at h0;by_cases e:P k x;have:=s (k+1) (λi y a=>by have:=d (i+1) y (by simpa using a);rw[show k+(i+1)=k+1+i by omega] at this;exact this);simp only[rangeL,h0.1 e,sbind];rcases this with ⟨l,m⟩ | ⟨l,m⟩;refine .inl ⟨λi y a=>?_,m⟩;cases i with
    | zero=>simp at a;subst a;exact e
    | succ i=>rw[show k+(i+1)=k+1+i by omega];exact l i y (by simpa using a)
    refine .inr ⟨λh=>l λi y a=>?_,m⟩;have:=h (i+1) y (by simpa using a);rwa [show k+(i+1)=k+1+i by omega] at this;refine .inr ⟨λh=>e (h 0 x rfl),k,?_⟩;simp only[rangeL,h0.2 e,sbind];rfl
 have:=key xs 0 (λi x q=>by rw[xr];exact d i x q);simp only[xr] at this;exact this
theorem Qq7{n:Nat}{t:Q5}(w:big<=n)(A:TW t)(hd:-9223372036854775808<=t.Dim/\t.Dim<=9223372036854775807):Y4 n t=some (dP (tapeR t)):=by
 unfold Y4 Qf0;rw[Qq6 t hd,sbind,bifnP];by_cases e:wholeR t;rw[oo e]
 have key:=Qyl (K:=λ(_:Unit)=>(rangeL (λ(_:Nat) (u:Int) (_:Unit)=>
  (W3 u (t.Code.length:Int)).bind λs=>
  bif !s then (
   some (Lp.out ((t.Code.length:Int))))
  else (
   some (Lp.go ()))) t.Outs 0 ()).bind (lpK λ(_:Unit)=>
 some (-1:Int))) (f:=λ(a:Nat) (_:Jh) (_:Unit)=>
  (Qdq n t (a:Int)).bind λq=>
  bif !q then (
   some (Lp.out ((a:Int))))
  else (
   some (Lp.go ()))) (xs:=t.Code) (λi x=>mayR t i x) (λi=>(i:Int)) (λi x v=>by
  rw[Qt3 w (A x (Kg v)) v,sbind];constructor;intro h;rw[dP_t h];rfl
  intro h;rw[dP_f h];rfl)
 rcases key with ⟨l,m⟩ | ⟨l,j,m⟩;rw[m,Zp (λ_ (o:Int)=>0<=o/\o<(t.Code.length:Int)) (r:=(t.Code.length:Int))];rw[Qe6];by_cases d:∀ o∈t.Outs,0<=o/\o<(t.Code.length:Int);rw[oo d,sbind];exact Qbv ⟨λ_=>⟨e,l,d⟩,λ_=>rfl⟩;rw[ol d,sbind];exact Qbv ⟨λh=>om,λh=>absurd h.2.2 d⟩;intro i o _;simp only[Qcm,sbind];constructor;intro h;rw[oj h];rfl;intro h;rw[oi h];rfl;rw[m,sbind];exact Qbv ⟨λh=>om,λh=>absurd h.2.1 l⟩;rw[ol e,sbind];exact Qbv ⟨λh=>om,λh=>absurd h.1 e⟩
theorem Qiy{k:Nat}{l:List Rat}{i:Nat}(h:QR k l)(a:1<=k):qw (l.getD i 0)<=k:=by rw[ui];rcases xd i l.length with hi | hi;rw[oq hi];exact h _ (um hi);rw[ou hi];show qw 0<=k;rw[Qg7];exact a
def cN(x:Qan):Qkp:=⟨x.Op,x.I,x.N⟩
def cL(x:Qfa):Qqj:=⟨x.Name,x.Code.map cN⟩
def cFzz(x:Qju):Qut:=⟨x.Lets.map cL,x.Outs.map (·.map cN)⟩
def digB(c:Nat):Bool:=decide (48<=c/\c<=57)
def letB(c:Nat):Bool:=decide (97<=c/\c<=122\/65<=c/\c<=90\/c=95)
def sgnL:List UInt8:=[43,45,42,47,94,40,41,91,93,44,59,61]
def sgnB(c:Nat):Bool:=sgnL.any (λx=>x.toNat=c)
def kindC(c:Nat):Int:=if digB c then 1 else if letB c then 2 else if sgnB c then 3 else 0
def goC(k:Int)(c:Nat):Bool:=(decide (k=1) && digB c) || (decide (k=2) && (letB c || digB c))
def mostC(k:Int):Nat:=if k=1 then 60 else if k=2 then 12 else 1
def wdB(k:Int):List UInt8->Bool
 | []=>false
 | c::r=>decide (k≠0) && (decide (kindC c.toNat=k) && (r.all (λb=>goC k b.toNat) && decide (r.length+1<=mostC k)))
structure Q3p(n k:Nat)(t:Q5):Prop where
 r:tapeR t
 h:Y4 n t=some true
 w:∀ c∈t.Code,Fk k c.N
def sumQ(l:List Rat):Rat:=l.foldl (λo x=>o+x) 0
def numR(x:Qa):Prop:=x=toF (fv x)/\qz (fv x)<=190
def shapeR(s:Q4):Prop:=(1<=s.B.length/\s.B.length<=8)/\s.C.length=s.B.length/\s.A.length=s.B.length/\(s.E.length=s.B.length\/s.E.length=0)/\∀(i:Nat) r,s.A[i]?=some r->r.length=i
structure SchW(k:Nat)(s:Q4):Prop where
 a:∀ r∈s.A,FR k r
 b:FR k s.B
 c:FR k s.C
 e:FR k s.E
 n:s.Name.length<=4611686018427387904
def rowsR(s:Q4):Prop:=∀(i:Nat) r,s.A[i]?=some r->sumQ (rv r)=fv (s.C.getD i ⟨⟨false,[]⟩,[]⟩)
def schR(s:Q4):Prop:=wdB 2 s.Name=true/\shapeR s/\((∀ r∈s.A,∀ x∈r,numR x)/\∀ r∈[s.B,s.C,s.E],∀ x∈r,numR x)/\rowsR s/\sumQ (rv s.B)=1/\(s.E≠[]->sumQ (rv s.E)=1)
section
variable {n k:Nat}{p:Qx}{t h:Qa}{y:List Qa}{g:Qp}{ys ks:List (List Qa)}{nx er:List Qa}
structure PrbOK(n k:Nat)(p:Qx)(t h:Qa)(y:List Qa):Prop where
 tp:Q3p n k p.Tape
 sw:SchW k p.G0
 sr:schR p.G0
 pk:FR k p.P
 pl:(p.P.length:Int)=p.Tape.Par
 tk:Fk k t
 hk:Fk k h
 yk:FR k y
 yl:(y.length:Int)=p.Tape.Dim
end
theorem Qgm(f:Qc)(k:Nat):Wl f (k:Int)=some (!decide (f.N.length<=k/\f.D.length<=k)):=by unfold Wl;simp only[jn_eq,bifd];by_cases h:(k:Int)<(f.N.length:Int);rw[oo h,oi om];rfl;rw[ol h];by_cases g:(k:Int)<(f.D.length:Int);rw[oj g,oi om];rfl;rw[oi g,oj om];rfl
def tF(x:Qc):Qa:=⟨⟨x.Neg,x.N⟩,x.D⟩
theorem Qh9{n:Nat}{l:List Qc}(d:big<=n)(e:l.length<=1000000):We n l=some (l.map tF):=by unfold We;rw[Yu (λi=>((l.take i).map tF,(i:Int))) l.length (l.map tF)];intro i hi;have a:l[i]?=some l[i]:=oq hi;generalize l[i]=p at a;simp only[bifd,Km,sbind];rw[oo om,J6 a,sbind,Vm oh oh,sbind,w1 om,Xv tF a];rfl;simp only[bifd];rw[ol om,xv];unfold big at d;omega;rfl
def FL(many k:Nat)(l:List Qc):Prop:=l.length<=many/\∀ x∈l,x.N.length<=k/\x.D.length<=k
theorem Qaj{n:Nat}{l:List Qc}{many k:Nat}(j:big<=n)(m:many<=1000000):∃ v,Qv n l (many:Int) (k:Int)=some v/\(v=false->FL many k l):=by unfold Qv;rw[Qg3 (λi=>∀ c,l[i]?=some c->c.N.length<=k/\c.D.length<=k) (min l.length many) (r:=true)];by_cases h:∀ i,i<min l.length many->∀ c,l[i]?=some c->c.N.length<=k/\c.D.length<=k;rw[oo h];refine⟨_,rfl,λe=>⟨by have:=of_decide_eq_false e;omega,λc f=>?_⟩⟩;have:=of_decide_eq_false e;obtain⟨i,hi⟩:=wi f;exact h i (by have:=Vs hi;omega) c hi;rw[ol h];exact⟨true,rfl,λh=>by cases h⟩;intro i hi;have a:l[i]?=some l[i]:=oq om;generalize l[i]=c at a;simp only[jn_eq,bifd];rw[oo om,oo om,J6 a,sbind,Qgm,sbind];by_cases h:c.N.length<=k/\c.D.length<=k;rw[oj h,xg,bifF,w1 om];exact⟨λ_=>rfl,λg=>absurd (λd hd=>by rw[a] at hd;cases hd;exact h) g⟩;rw[oi h,xt,bifT];exact⟨λg=>absurd (g c a) h,λ_=>rfl⟩;simp only[jn_eq,bifd];by_cases h:min l.length many<l.length;rw[oo om,ol om];rw[ol om,bifF];unfold big at j;omega
structure PrbW(k:Nat)(p:Qx):Prop where
 t:∀ c∈p.Tape.Code,Fk k c.N
 d:-9223372036854775808<=p.Tape.Dim/\p.Tape.Dim<=9223372036854775807
 s:SchW k p.G0
 p:FR k p.P
def prbR(p:Qx):Prop:=tapeR p.Tape/\schR p.G0/\(p.P.length:Int)=p.Tape.Par
theorem PrbW.tw{k:Nat}{p:Qx}(h:PrbW k p)(hk:k<1048576):TW p.Tape:=λc a=>Fk_Fw (h.t c a) om
theorem PrbW.ok{n k:Nat}{p:Qx}{t h:Qa}{y:List Qa}(a:PrbW k p)(i:big<=n)(hk:k<8000)(d:prbR p)(j:Fk k t)(e:Fk k h)(l:FR k y)(f:(y.length:Int)=p.Tape.Dim):PrbOK n k p t h y:=
 ⟨⟨d.1,by rw[Qq7 i (a.tw om) a.d,dP_t d.1],a.t⟩,a.s,d.2.1,a.p,d.2.2,j,e,l,f⟩
set_option maxRecDepth 100000
def turnQ(a q:Rat)(e:Int):Rat:=if 0<e then a ^ (e - 1) else if e<0 then q / a else 0
theorem Q1x{l:List Rat}:scaleQ 1 l=l:=by
 unfold scaleQ
 conv=>rhs;rw[<-List.map_id l]
 exact ww λq _=>by show 1*q=q;grind
theorem Qq8:qw 1=1:=by unfold qw;rw[show(1:Rat).num=1 from rfl,show(1:Rat).den=1 from rfl,show(1:Int).natAbs=1 from rfl,toL1];rfl
def padL(l:Nat)(a:List Nat):List Nat:=a++List.replicate (l - a.length) 0
theorem Qvt{l:Nat}{a:List Nat}(h:a.length<=l):(padL l a).length=l:=by unfold padL;simp;omega
theorem Qvu(l:Nat)(a:List Nat):val (padL l a)=val a:=by unfold padL;rw[Vc,Qaw];simp
theorem Qxd{l:Nat}{a:List Nat}(h:Wd a):Wd (padL l a):=Je.2 ⟨h,Qgj om⟩
theorem Qvv{l:Nat}{a:List Nat}{j:Nat}(h:j<(padL l a).length):(padL l a)[j]=a.getD j 0:=by unfold padL at h |-;by_cases d:j<a.length;rw[List.getElem_append_left d];simp[d];rw[List.getElem_append_right om,List.getElem_replicate];simp[ou (show a.length<=j by omega)]
theorem Qhb{n:Nat}{a b:List Nat}(w:big<=n)(B:a.length<=4611686018427387904)(C:b.length<=4611686018427387904)(q:Wd a)(r:Wd b):Vy n a b=some (cmpI (val a) (val b)):=by
 unfold Vy;obtain⟨l,E⟩:∃ l:Nat,l=max a.length b.length:=⟨_,rfl⟩
 have e:max (a.length:Int) (b.length:Int)=(l:Int):=om
 have F:=Qvt (l:=l) (a:=a) om;have lb:=Qvt (l:=l) (a:=b) om;have x:=Qxd (l:=l) q;have A:=Qxd (l:=l) r;have u:∀ j (h:j<(padL l a).length),(padL l a)[j]=a.getD j 0:=λj h=>Qvv h;have v:∀ j (h:j<(padL l b).length),(padL l b)[j]=b.getD j 0:=λj h=>Qvv h;rw[e,<-Qvu l a,<-Qvu l b];generalize padL l a=a' at *;generalize padL l b=b' at *;unfold big at w;rw[w64 om om];refine Vr (λs=>(s+1).toNat) (λs=>∃ k:Nat,s=(k:Int) - 1/\k<=l/\a'.drop k=b'.drop k) (λt=>(t=.go ()/\a'=b')\/(t=.out (-1)/\val a'<val b')\/(t=.out 1/\val b'<val a')) ⟨l,rfl,xn _,by rw[xb om,xb om]⟩ om ?_ ?_;rintro s ⟨k,rfl,hk,i⟩;simp only[bifd];by_cases h0:0<k;obtain⟨j,rfl⟩:∃ j,k=j+1:=⟨k - 1,om⟩
 have f:j<a'.length:=om
 have d:j<b'.length:=om
 rw[oo om,show((j+1:Nat):Int) - 1=(j:Nat) by omega,Ze,sbind,Ze,sbind,<-u j f,<-v j d];by_cases g1:a'[j]<b'[j];right;rw[oo g1];exact⟨_,rfl,.inr (.inl ⟨rfl,Qot x f d i g1⟩)⟩;rw[ol g1];by_cases m:b'[j]<a'[j];right;rw[oo m];exact⟨_,rfl,.inr (.inr ⟨rfl,Qot A d f i.symm m⟩)⟩;left;rw[ol m,w64 om om];refine⟨_,rfl,⟨j,rfl,om,?_⟩,om⟩;rw[xz f,xz d,i,show a'[j]=b'[j] by omega];right;obtain rfl:k=0:=om
 rw[ol om];exact⟨_,rfl,.inl ⟨rfl,by simpa using i⟩⟩;rintro t (⟨rfl,h⟩ | ⟨rfl,h⟩ | ⟨rfl,h⟩);rw[Wj,h];simp[cmpI];rw[Qfl,cmpI,oo h];rw[Qfl,cmpI,ol om,oo h]
theorem Qvw{x y c:Nat}(f:x<4294967296)(i:y<4294967296)(e:c<=1):∃ d a,d<4294967296/\a<=1/\d+y+c=x+4294967296*a /\
 ∀ {R:Type}(k:Nat×Nat->R),(if x<(y+c)%18446744073709551616 then k (1,(x+4294967296)%18446744073709551616) else k (0,x))=k (a,x+4294967296*a)/\(x+4294967296*a+18446744073709551616 - (y+c)%18446744073709551616)%18446744073709551616%4294967296=d:=by
 rw[xa (show y+c<18446744073709551616 by omega)];by_cases h:x<y+c;exact⟨x+4294967296 - (y+c),1,om,om,om,λk=>⟨by rw[oo h,xa om],om⟩⟩;exact⟨x - (y+c),0,om,om,om,λk=>⟨by rw[ol h];rfl,om⟩⟩
theorem Qte{P s o d e:Nat}(h:o+e=d+P*s)(f:e<=d)(i:o<P):s=0:=by rcases wc s with a | a;exact a;exfalso;have:P*1<=P*s:=yv _ a;omega
theorem Ql0{n:Nat}{a b:List Nat}(F:big<=n)(O:a.length<35184372088000)(P:b.length<35184372088000)(A:Wd a)(B:Wd b)(x:val b<=val a):Ve n a b=some (toL (val a - val b)):=by
 unfold Ve;unfold big at F;obtain⟨l,Q⟩:∃ l:Nat,l=max a.length b.length:=⟨_,rfl⟩
 have m:max (a.length:Int) (b.length:Int)=(l:Int):=om
 rw[m,Qbg om om,sbind]
 refine Vr (λs=>l - s.2.2.toNat) (λs=>∃(k:Nat) (o:List Nat),s.2.2=k/\k<=l/\s.1=o++List.replicate (l - k) 0/\o.length=k/\Wd o/\s.2.1<=1/\val o+val (b.take k)=val (a.take k)+bp k*s.2.1)
  (λt=>t.length=l/\Wd t/\val t=val a - val b) ⟨0,[],rfl,om,oc,rfl,J4,oc,by simp[val,Xf]⟩ (by simp only[];omega) ?_ ?_
 rintro⟨q,s,i⟩ ⟨k,o,v,C,u,e,w,E,f⟩;simp only at v u E f;subst v u;simp only[sbind,bifd,jn_eq];by_cases hk:k<l;left;have L:=Qdv A k;have M:=Qdv B k;obtain⟨d,N,g1,G,g3,g4⟩:=Qvw L M E;rw[oo om,Ze,sbind,Ze,sbind];have H:=(g4 (λr:Nat×Nat=>(getI (o++List.replicate (l - k) 0) (k:Int)).bind λ_=>some (Lp.go (σ:=List Nat×Nat×Int) (τ:=List Nat) ((o++List.replicate (l - k) 0).set (Int.toNat (k:Int)) ((r.2+18446744073709551616 - (b.getD k 0+s)%18446744073709551616)%18446744073709551616%4294967296),r.1,wrap64 ((k:Int)+1))))).1;have I:=(g4 (λ_=>())).2;rw[H];simp only[];rw[I];obtain⟨j,K⟩:∃ j,l - k=j+1:=⟨l - k - 1,om⟩
 rw[K,ue,J2 e,sbind,Vk e,w64 om om];refine⟨_,rfl,⟨k+1,o++[d],by simp only[];omega,om,?_,by simp[e],Je.2 ⟨w,Jg.2 ⟨g1,J4⟩⟩,G,?_⟩,by simp only[];omega⟩;simp only[];rw[show l - (k+1)=j by omega];simp;simp only[];rw[K7,K7,Jq,e,Kc];exact Qps _ _ _ _ _ _ _ _ _ g3 f;right;obtain rfl:k=l:=om
 rw[ol om];refine⟨_,rfl,by simp[e],by simpa using w,?_⟩;rw[ow om,ow om] at f;have J:s=0:=Qte f x (by rw[<-e];exact Vi w);rw[J,ua,xf] at f;simp only[Nat.sub_self,List.replicate_zero,uj];omega;rintro t ⟨v,C,u⟩;rw[K6 (by unfold big;exact F) om,sbind,<-Ji C,u]
theorem Qhc{k l:Nat}(h:k<l):grd (winS (k:Int) l)=some ():=grd_t (by unfold winS;simp;omega)
theorem Qkh{n:Nat}{p a q b:List Nat}(J:big<=n)(O:p.length+a.length+q.length<35184372088000)(N:b.length<=a.length)(C:Wd a)(E:Wd b)(B:val b<=val a):
 ∃ r,K4 n (p++a++q) p.length a.length b=some (p++r++q)/\r.length=a.length/\Wd r/\val r=val a - val b:=by
 have key:∃ r,K4 n (p++a++q) p.length a.length b=some r/\∃ l,r=p++l++q/\l.length=a.length/\Wd l/\val l=val a - val b:=by
  unfold K4;unfold big at J
  refine Qag (λs=>a.length - s.2.2.toNat) (λs=>∃(k:Nat) (o:List Nat),s.2.2=k/\k<=a.length/\s.1=p++o++(a.drop k++q)/\o.length=k/\Wd o/\s.2.1<=1/\val o+val (b.take k)=val (a.take k)+bp k*s.2.1)
   (λt=>∃ o,t=p++o++q/\o.length=a.length/\Wd o/\val o=val a - val b) ⟨0,[],rfl,om,oc,rfl,J4,oc,by simp[val,Xf]⟩ (by simp only[];omega) ?_ ?_
  rintro⟨w,s,i⟩ ⟨k,o,e,x,f,j,m,F,u⟩;simp only at e f F u;subst e f;simp only[sbind,bifd,jn_eq];by_cases hk:k<a.length;left;have K:=W5 C hk;have L:=Qdv E k;obtain⟨d,M,g1,G,g3,g4⟩:=Qvw K L F;rw[oo om,Qhc hk,sbind,show((p.length:Int)+(k:Int))=((p.length+k:Nat):Int) by omega,xz hk,yr,J2 oh,sbind,Ze,sbind];have A:=(g4 (λv:Nat×Nat=>(getI (p++o++a[k]::(a.drop (k+1)++q)) ((p.length+k:Nat):Int)).bind λ_=>some (Lp.go (σ:=List Nat×Nat×Int) (τ:=List Nat) ((p++o++a[k]::(a.drop (k+1)++q)).set (Int.toNat ((p.length+k:Nat):Int)) ((v.2+18446744073709551616 - (b.getD k 0+s)%18446744073709551616)%18446744073709551616%4294967296),v.1,wrap64 ((k:Int)+1))))).1;have H:=(g4 (λ_=>())).2;rw[J2 oh] at A;simp only[sbind] at A |-;rw[A,H,Vk oh,w64 om om];refine⟨_,rfl,⟨k+1,o++[d],by simp only[];omega,om,oc,by simp[j],Je.2 ⟨m,Jg.2 ⟨g1,J4⟩⟩,G,?_⟩,by simp only[];omega⟩;simp only[];rw[K7,Jy hk,Jq,Jq,xh,xj om,j,Kc];exact Qps _ _ _ _ _ _ _ _ _ g3 u;right;obtain rfl:k=a.length:=om
  rw[ol om];refine⟨_,rfl,o,oc,j,m,?_⟩;rw[ow om,ow om] at u;have I:s=0:=Qte u B (by rw[<-j];exact Vi m);rw[I,ua,xf] at u;omega;rintro t ⟨o,rfl,e,x,f⟩;exact⟨_,rfl,o,rfl,e,x,f⟩
 obtain⟨r,e,l,x,f,j,m⟩:=key;exact⟨l,by rw[e,x],f,j,m⟩
theorem Q0s(P y c a d V A m:Nat)(e:d+4294967296*a=2*y+c)(h:V+P*c=2*A+m):V+P*d+P*4294967296*a=2*(A+P*y)+m:=by grind
theorem Qia{n:Nat}{a:List Nat}{b:Bool}(B:big<=n)(C:a.length<35184372088000)(u:Wd a):
 ∃ r c,Vb n a b=some r/\r.length=a.length/\Wd r/\val r+bp a.length*c=2*val a+b.toNat:=by
 have key:∃ r,Vb n a b=some r/\∃ c,r.length=a.length/\Wd r/\val r+bp a.length*c=2*val a+b.toNat:=by
  unfold Vb;unfold big at B;have e:∀ k:Nat->Option (List Nat),jn (λ(x:(Nat)->Option _)=>bif b then (x 1) else (x 0)) k=k b.toNat:=by intro k;cases b<;>rfl
  rw[e]
  refine Qag (λs=>a.length - s.2.2.toNat) (λs=>∃(k:Nat) (o:List Nat),s.2.2=k/\k<=a.length/\s.1=o++a.drop k/\o.length=k/\Wd o/\s.2.1<=1/\val o+bp k*s.2.1=2*val (a.take k)+b.toNat)
   (λt=>∃ c,t.length=a.length/\Wd t/\val t+bp a.length*c=2*val a+b.toNat) ⟨0,[],rfl,om,oc,rfl,J4,by simp only[];cases b<;>decide,by simp[val,Xf]⟩ (by simp only[];omega) ?_ ?_
  rintro⟨w,s,i⟩ ⟨k,o,d,j,l,m,v,A,q⟩;simp only at d l A q;subst d l;simp only[sbind,bifd];have f:(o++a.drop k).length=a.length:=oh
  by_cases hk:k<a.length;left;have E:=W5 u hk;rw[oo (by rw[f];omega),xz hk,J2 m,sbind,sbind,sbind,Vk m,w64 om om];refine⟨_,rfl,⟨k+1,o++[(a[k]*2%4294967296+s)%4294967296],by simp only[];omega,om,oc,by simp[m],Je.2 ⟨v,Jg.2 ⟨om,J4⟩⟩,by simp only[];omega,?_⟩,by simp only[];omega⟩;simp only[];rw[Jy hk,Jq,Jq,xh,xj om,m,Kc];exact Q0s _ _ _ _ _ _ _ _ om q;right;obtain rfl:k=a.length:=om
  rw[ol (by rw[f];omega)];rw[ow om] at q;exact⟨_,rfl,s,oh,by simpa using v,by simpa using q⟩;rintro t ⟨c,d,j,l⟩;exact⟨_,rfl,c,d,j,l⟩
 obtain⟨r,d,c,j⟩:=key;exact⟨r,c,d,j⟩
theorem Q0t(w t r:Nat)(a:r<32):(w+4294967296*t) / 2 ^ r%2=w / 2 ^ r%2:=by
 have e:(4294967296:Nat)=2 ^ r*(2*2 ^ (31 - r)):=by rw[<-yz,uz (2 ^ r) 2,yz,<-uo,show r+(31 - r)=31 by omega]
 rw[e,yz,Nat.add_mul_div_left _ _ (yf r),yz 2,Nat.add_mul_mod_self_left]
theorem Qxe{a:List Nat}(e:Wd a)(q r:Nat)(d:r<32):val a / 2 ^ (32*q+r)%2=a.getD q 0 / 2 ^ r%2:=by rw[uo,<-Qgk,<-uq,Qkc e];by_cases h:q<a.length;rw[xz h];simp only[val];rw[Q0t _ _ _ d];simp[h];rw[xb om];simp[val,ou (show a.length<=q by omega)]
theorem Qsf{n i:Nat}{a:List Nat}(f:big<=n)(hi:i<4611686018427387904)(j:Wd a):X0 n a (i:Int)=some (decide (val a / 2 ^ i%2=1)):=by unfold X0;have hd:Int.tdiv (i:Int) 32=((i / 32:Nat):Int):=rfl;have e:Int.tmod (i:Int) 32=((i%32:Nat):Int):=rfl;have d:=Qxe j (i / 32) (i%32) (yg _ oz);rw[show 32*(i / 32)+i%32=i by omega] at d;rw[hd,e,w64 om om,d];simp only[jn_eq,bifd];rw[ol om];by_cases h:i / 32<a.length;rw[ol om,Xx h,sbind];rw[Yu (λk=>(a[i / 32] / 2 ^ k,(k:Int))) (i%32) (a[i / 32] / 2 ^ (i%32))];simp[h];intro k hk;simp only[];rw[oo om,uq,<-Nat.pow_succ,w1 om];simp only[];rw[ol om];unfold big at f;omega;simp;rw[oo om];simp[ou (show a.length<=i / 32 by omega)]
theorem Qsg{n:Nat}{a:List Nat}(f:big<=n)(r:a.length<35184372088000)(i:Wd a):X4 n a=some (blen (val a):Int):=by
 unfold X4;rw[w64 om om];have h0:val a<2 ^ (32*a.length):=by rw[<-Qgk];exact Vi i
 refine Vr (λs=>s.toNat) (λs=>∃ k:Nat,s=k/\k<=32*a.length/\val a<2 ^ k) (λt=>t=(blen (val a):Int)) ⟨32*a.length,om,xn _,h0⟩ (by unfold big at f;omega) ?_ ?_;rintro s ⟨k,rfl,hk,e⟩;simp only[jn_eq,bifd];by_cases h:0<k;obtain⟨j,rfl⟩:∃ j,k=j+1:=⟨k - 1,om⟩
 rw[oo om,w64 om om,show((j+1:Nat):Int) - 1=(j:Nat) by omega,Qsf f om i,sbind];by_cases d:val a / 2 ^ j%2=1;right;rw[oj d,xg,bifF];refine⟨_,rfl,?_⟩;have l:2 ^ j<=val a:=by rcases xd (val a) (2 ^ j) with g | g;rw[ve g] at d;cases d;exact g
 rw[Qr4 l e];left;rw[oi d,xt,bifT];refine⟨_,rfl,⟨j,rfl,om,?_⟩,om⟩;have m:val a / 2 ^ j<2:=vv (by rw[<-Nat.pow_succ];exact e);have q:val a / 2 ^ j=0:=by clear e h0;generalize val a / 2 ^ j=z at *;omega
 rcases xd (val a) (2 ^ j) with g | g;exact g;have:=Nat.div_pos g (yf j);omega;right;obtain rfl:k=0:=om
 rw[ol om,bifF];refine⟨_,rfl,?_⟩;have:val a=0:=by simpa using e
 rw[this,Qdh];rintro t rfl;rfl
theorem Qtf{P c x:Nat}(h:P*c<=x)(d:x<P):c=0:=by rcases wc c with a | a;exact a;exfalso;have:P*1<=P*c:=yv _ a;omega
theorem Q0u(x j:Nat):x / 2 ^ j=2*(x / 2 ^ (j+1))+x / 2 ^ j%2:=by rw[Nat.pow_succ,<-uq];generalize x / 2 ^ j=z;omega
theorem Qzn{a b q r:Nat}(h:a=q*b+r)(d:r<b):q=a / b/\r=a%b:=by
 have h0:0<b:=om
 rw[h,uz q b,Nat.mul_add_div h0,Nat.mul_add_mod,ve d,xa d];exact⟨om,rfl⟩
theorem Qzo{A a q d r f b t:Nat}(e:A=2*a+t)(h:a=q*b+r)(i:d=2*q)(j:f=2*r+t):A=d*b+f:=by subst i j;grind
theorem Qzp{A i q j l r a f b t:Nat}(e:A=2*i+t)(h:i=q*b+r)(m:j=2*q)(u:a=2*r+t)(s:l=j+1)(v:f=a - b)(w:b<=a):A=l*b+f:=by
 obtain⟨d,rfl⟩:∃ d,a=b+d:=⟨a - b,om⟩
 have:f=d:=om
 subst this s m;grind
theorem Qxf{x y:Nat}:0<=cmpI x y↔y<=x:=by unfold cmpI;split;constructor<;>intro h<;>omega;split<;>constructor<;>intro h<;>omega
theorem Qvx{k:Nat}(h:k<32):(1*2 ^ min (Int.toNat (k:Int)) 32)%4294967296=2 ^ k:=by rw[ut,xj om,Nat.one_mul];exact xa (xx (Nat.pow_lt_pow_right oz h) oz)
theorem Qne{a:List Nat}(f:Wd a):blen (val a)<=32*a.length:=by by_cases h:val a=0;rw[h,Qdh];omega;have e:=Qiv h;have d:=Vi f;rw[Qgk] at d;have i:=(wt (show 1<2 by decide)).1 (ym e d);omega
theorem Qsh{n:Nat}{a b:List Nat}(l:big<=n)(ha:a.length<35184372087990)(hb:b.length<35184372087990)(e:Wd a)(u:Wd b)(h0:val b≠0):
 X5 n a b=some (toL (val a / val b),toL (val a%val b)):=by
 unfold X5;have Z:=Qne e;have Y:=Vi u;have hva:=Vi e;rw[w64 (x:=(b.length:Int)+1) om om,show((b.length:Int)+1)=((b.length+1:Nat):Int) by omega,Qbg om om,sbind,Qbg om om,sbind,Qsg l om e,sbind,w64 om om]
 refine Vr (λs=>(s.2.2+1).toNat) (λs=>∃ k:Nat,s.2.2=(k:Int) - 1/\k<=blen (val a)/\s.1.length=a.length/\s.2.1.length=b.length+1/\Wd s.1/\Wd s.2.1/\val s.2.1<val b/\val a / 2 ^ k=val s.1*val b+val s.2.1)
  (λt=>t.1.length=a.length/\t.2.length=b.length+1/\Wd t.1/\Wd t.2/\val t.2<val b/\val a=val t.1*val b+val t.2) ⟨blen (val a),rfl,xn _,oc,oc,Qgj oz,Qgj oz,by simp only[];rw[Qaw];omega,by simp only[];rw[Qaw,Qaw,ve Qlu];simp⟩ (by simp only[];unfold big at l;omega) ?_ ?_
 rintro⟨q,r,i⟩ ⟨k,J,N,m,w,B,C,O,F⟩;simp only at J m w B C O F;subst J;simp only[jn_eq,sbind];by_cases hk:0<k;left;obtain⟨j,rfl⟩:∃ j,k=j+1:=⟨k - 1,om⟩
 have hd:Int.tdiv (j:Int) 32=((j / 32:Nat):Int):=rfl;have hm:Int.tmod (j:Int) 32=((j%32:Nat):Int):=rfl;have S:j / 32<a.length:=om
 have hp:(1*2 ^ min (Int.toNat ((j%32:Nat):Int)) 32)%4294967296=2 ^ (j%32):=Qvx (yg _ oz);have f:=Qxe e (j / 32) (j%32) (yg _ oz);rw[show 32*(j / 32)+j%32=j by omega,show a.getD (j / 32) 0=a[j / 32] by simp[S]] at f;have hp0:0<2 ^ (j%32):=yf _;obtain⟨U,c1,W,d2,K,E⟩:=Qia (b:=decide (a[j / 32] / 2 ^ (j%32)%2=1)) l (show r.length<35184372088000 by omega) C;obtain⟨q2,V,L,I,M,v⟩:=Qia (b:=false) l (show q.length<35184372088000 by omega) B;have G:=Q0u (val a) j;have ht:(decide (a[j / 32] / 2 ^ (j%32)%2=1)).toNat=val a / 2 ^ j%2:=by
  rw[f];generalize a[j / 32] / 2 ^ (j%32)=z;by_cases g:z%2=1;rw[oj g,g];rfl;rw[oi g];simp only[Bool.toNat_false];omega
 rw[ht] at E;have ht2:val a / 2 ^ j%2<2:=yg _ oz;have R:val a / 2 ^ j<=val a:=we _ _;generalize Q:val a / 2 ^ j=A at *;generalize X:val a / 2 ^ (j+1)=A2 at *;generalize A%2=t at *;have hqb:val q<=val q*val b:=Nat.le_mul_of_pos_right _ om;have c1z:c1=0:=by rw[w,Kc] at E;refine Qtf (P:=bp b.length*4294967296) (x:=2*val r+t) om ?_;omega
 have c2z:V=0:=by rw[m] at v;refine Qtf (P:=bp a.length) (x:=2*val q+0) (by simp only[Bool.toNat_false] at v;omega) om
 subst c1z c2z;simp only[ua,xf,Bool.toNat_false] at E v;simp only[show((j+1:Nat):Int) - 1=(j:Nat) by omega,hd,hm,w64 (x:=((j / 32:Nat):Int)) om om,hp];rw[oj (show(0:Int)<=(j:Int) by omega),bifT,Xx S,sbind,grd_t (oj (vq _)),sbind,grd_t (bne_iff_ne.2 om),sbind,W,sbind,L,sbind,Qhb l om om K u,sbind,bifd];by_cases d:val b<=val U;rw[oo (Qxf.2 d)];obtain⟨r3,T,l2,l3,l4⟩:=Qkh (p:=[]) (q:=[]) l oh (show b.length<=U.length by omega) K u d;simp only[yo,uj,List.length_nil] at T;rw[T,sbind];cases q2 with
 | nil=>simp at I;omega
 | cons x H=>
   obtain⟨x1,x2⟩:=Jg.1 M;have hv:val (x::H)=x+4294967296*val H:=rfl;rw[hv] at v;rw[show getI (x::H) 0=some x from rfl,sbind,sbind,show(x::H).set (Int.toNat 0) ((x+1)%4294967296)=(x+1)%4294967296::H from rfl,w64 om om];have hx:(x+1)%4294967296=x+1:=om
   rw[hx];refine⟨_,rfl,⟨j,rfl,om,by simpa [m] using I,by simp only[];omega,Jg.2 ⟨om,x2⟩,l3,by simp only[];omega,?_⟩,by simp only[];omega⟩;simp only[];rw[Q];exact Qzp G F v E (by simp only[val];omega) l4 d
 rw[ol (λh=>d (Qxf.1 h)),w64 om om];refine⟨_,rfl,⟨j,rfl,om,by simp only[];omega,by simp only[];omega,M,K,by simp only[];omega,?_⟩,by simp only[];omega⟩;simp only[];rw[Q];exact Qzo G F v E;right;obtain rfl:k=0:=om
 rw[oi om,bifF];rw[Nat.pow_zero,Nat.div_one] at F;exact⟨_,rfl,m,w,B,C,O,F⟩;rintro⟨q,r⟩ ⟨J,N,m,w,B,C⟩;simp only at J N m w B C;obtain⟨L,I⟩:=Qzn C B;simp only[];rw[K6 l om,sbind,K6 l om,sbind,<-Ji m,<-Ji w,<-L,<-I]
theorem Q0v{x c y:Nat}(h:x=2 ^ c*y)(a:y%2=0):x=2 ^ (c+1)*(y / 2):=by rw[Nat.pow_succ,yz,h];congr 1;omega
theorem Qzq{x c y k:Nat}(h:x=2 ^ c*y)(h0:y≠0)(d:x<2 ^ k):c<k:=by have a:2 ^ c*1<=2 ^ c*y:=yv _ om;exact(wt (show 1<2 by decide)).1 (show 2 ^ c<2 ^ k by omega)
theorem Qpv{n x:Nat}(m:big<=n)(h0:x≠0)(q:x<4294967296):∃ z o:Nat,V7 n x=some (z:Int)/\z<32/\x=2 ^ z*o/\o%2=1:=by
 have f:x<2 ^ 32:=q;have key:∃ r:Int,V7 n x=some r/\∃ z o:Nat,r=z/\z<32/\x=2 ^ z*o/\o%2=1:=by unfold V7;rw[bifd,ol h0];refine Qag (λs=>s.1) (λs=>∃ c:Nat,s.2=c/\x=2 ^ c*s.1/\s.1≠0) (λt=>∃ z o:Nat,t=z/\z<32/\x=2 ^ z*o/\o%2=1) ⟨0,rfl,oc,h0⟩ (by simp only[];unfold big at m;omega) ?_ ?_;rintro⟨y,i⟩ ⟨c,d,a,e⟩;simp only at d a e;subst d;have l:=Qzq a e f;simp only[bifd];by_cases h:y%2=0;left;rw[oo h,w1 om];exact⟨_,rfl,⟨c+1,rfl,Q0v a h,by simp only[];omega⟩,by simp only[];omega⟩;right;rw[ol h];exact⟨_,rfl,c,y,rfl,l,a,om⟩;rintro t ⟨z,o,rfl,d,a,e⟩;exact⟨_,rfl,z,o,rfl,d,a,e⟩
 obtain⟨r,d,z,o,rfl,a,e,j⟩:=key;exact⟨z,o,d,a,e,j⟩
theorem Ql1(a:List Nat):Wx a=some (decide (a=[1])):=by
 unfold Wx;simp only[jn_eq,bifd]
 match a with
 | []=>rfl
 | [x]=>rw[oo (show(([x]:List Nat).length:Int)=1 from rfl)];exact ud some (vp.2 oc)
 | x::y::t=>rw[ol oh];simp
theorem mid2{α:Type}(l:List α)(x y:α)(r:List α):l++x::y::r=(l++[x])++y::r:=oc
theorem Qzr{a d V z:Nat}(q:z<32)(m:a<4294967296)(l:d<4294967296):
 (a+4294967296*(d+4294967296*V)) / 2 ^ z=((d*4294967296)%18446744073709551616+a)%18446744073709551616 / 2 ^ (min z 64)%4294967296+4294967296*((d+4294967296*V) / 2 ^ z):=by
 rw[xa (show d*4294967296<18446744073709551616 by omega),xa (show d*4294967296+a<18446744073709551616 by omega),xj om];have i:(a+4294967296*(d+4294967296*V)) / 2 ^ z / 4294967296=(d+4294967296*V) / 2 ^ z:=by rw[uq,uz (2 ^ z) 4294967296,<-uq];congr 1;omega
 have j:(a+4294967296*(d+4294967296*V)) / 2 ^ z%4294967296=(d*4294967296+a) / 2 ^ z%4294967296:=by
  have e:(4294967296:Nat)=2 ^ z*2 ^ (32 - z):=by rw[<-uo,show z+(32 - z)=32 by omega]
  have f:a+4294967296*(d+4294967296*V)=(d*4294967296+a)+2 ^ z*(4294967296*(2 ^ (32 - z)*V)):=by rw[Nat.mul_left_comm (2 ^ z),<-yz (2 ^ z),<-e];omega
  rw[f,Nat.add_mul_div_left _ _ (yf z),Nat.add_mul_mod_self_left]
 rw[<-i,<-j];omega
theorem Qe2{a:List Nat}{k:Nat}(h:k<a.length):val (a.drop k)=a[k]+4294967296*val (a.drop (k+1)):=by rw[xz h];rfl
theorem Qt4{a:List Nat}{k:Nat}:val (a.drop k)=a.getD k 0+4294967296*val (a.drop (k+1)):=by by_cases h:k<a.length;rw[Qe2 h];simp[h];rw[xb om,xb om];simp[val,ou (show a.length<=k by omega)]
theorem Qzs(P w d V a A:Nat)(e:V=w+4294967296*d)(h:a+P*V=A):a+P*w+P*4294967296*d=A:=by grind
theorem Qq9{n z:Nat}{p a q:List Nat}(L:big<=n)(Q:p.length+a.length+q.length<35184372088000)(x:Wd a)(P:z<32):
 ∃ r k,Wn n (p++a++q) p.length a.length (z:Int)=some (p.length,k,p++r++q)/\r.length=a.length/\Wd r/\k<=r.length/\r.take k=toL (val a / 2 ^ z):=by
 have key:∃ w,Wn n (p++a++q) p.length a.length (z:Int)=some w/\∃ r k,w=(p.length,k,p++r++q)/\r.length=a.length/\Wd r/\k<=r.length/\r.take k=toL (val a / 2 ^ z):=by
  unfold Wn
  refine Qag (λs=>a.length - s.2.toNat) (λs=>∃(k:Nat) (o:List Nat),s.2=k/\k<=a.length/\s.1=p++o++(a.drop k++q)/\o.length=k/\Wd o/\val o+bp k*(val (a.drop k) / 2 ^ z)=val a / 2 ^ z)
   (λt=>∃ o,t=p++o++q/\o.length=a.length/\Wd o/\val o=val a / 2 ^ z) ⟨0,[],rfl,om,oc,rfl,J4,by simp[val,Xf]⟩ (by simp only[];unfold big at L;omega) ?_ ?_
  rintro⟨w,i⟩ ⟨k,o,e,m,B,F,J,C⟩;simp only at e B C;subst e B;simp only[bifd,jn_eq,sbind];by_cases hk:k<a.length;left;have N:=W5 x hk;have O:=Qdv x (k+1);have u:=Qzr (V:=val (a.drop (k+1+1))) P N O;have v:∀(K:Nat->Option (Lp (List Nat×Int) (List Nat))),(if wrap64 ((k:Int)+1)<(a.length:Int) then (grd (winS (wrap64 ((k:Int)+1)) a.length)).bind λ_=>(getI (p++o++(a.drop k++q)) ((p.length:Int)+wrap64 ((k:Int)+1))).bind λH=>K H else K 0)=K (a.getD (k+1) 0):=by
   intro K;rw[w1 om];by_cases f:k+1<a.length;rw[oo om,Qhc f,sbind,show((p.length:Int)+((k+1:Nat):Int))=((p.length+k+1:Nat):Int) by omega,xz hk,xz f,yr,yr,mid2,J2 oh,sbind];simp[f];rw[ol om];simp[ou (show a.length<=k+1 by omega)]
  rw[oo om,v (λG=>(grd (winS (k:Int) a.length)).bind λ_=>(getI (p++o++(a.drop k++q)) ((p.length:Int)+(k:Int))).bind λI=>(grd (decide (0<=(z:Int)))).bind λ_=>(grd (winS (k:Int) a.length)).bind λ_=>(getI (p++o++(a.drop k++q)) ((p.length:Int)+(k:Int))).bind λ_=>some (Lp.go ((p++o++(a.drop k++q)).set (Int.toNat ((p.length:Int)+(k:Int))) (((G*4294967296)%18446744073709551616+I)%18446744073709551616 / 2 ^ (min (Int.toNat (z:Int)) 64)%4294967296),wrap64 ((k:Int)+1))))];rw[Qhc hk,sbind,show((p.length:Int)+(k:Int))=((p.length+k:Nat):Int) by omega,xz hk,yr,J2 oh,sbind,grd_t (oj (vq _)),sbind,sbind,sbind,Vk oh,w1 om,ut];have A:(a.getD (k+1) 0*4294967296%18446744073709551616+a[k])%18446744073709551616 / 2 ^ min z 64%4294967296<4294967296:=yg _ oz;generalize (a.getD (k+1) 0*4294967296%18446744073709551616+a[k])%18446744073709551616 / 2 ^ min z 64%4294967296=w at u A |-;refine⟨_,rfl,⟨k+1,o++[w],rfl,om,oc,by simp[F],Je.2 ⟨J,Jg.2 ⟨A,J4⟩⟩,?_⟩,by simp only[];omega⟩;rw[Jq,F,Kc];refine Qzs _ _ _ _ _ _ ?_ C;rw[Qe2 hk,Qt4 (k:=k+1)];exact u;right;obtain rfl:k=a.length:=om
  rw[ol om];rw[xb (xn _)] at C;exact⟨_,rfl,o,oc,F,J,by simpa [val] using C⟩;rintro t ⟨o,rfl,e,m,B⟩;refine Qag (λs=>s.2) (λs=>s.1=p.length/\s.2<=o.length/\trimZ o=trimZ (o.take s.2)) (λt=>t.1=p.length/\t.2<=o.length/\trimZ o=o.take t.2) ⟨rfl,by simp only[];omega,by simp only[];rw[<-e,xv]⟩ (by simp only[];unfold big at L;omega) ?_ ?_;rintro⟨s1,k⟩ ⟨rfl,l,g3⟩;simp only at l g3;simp only[jn_eq,bifd];by_cases h0:0<k;obtain⟨j,rfl⟩:∃ j,k=j+1:=⟨k - 1,om⟩
  have E:j<o.length:=om
  rw[Jy E] at g3;rw[oo om,w64 om om,show((j+1:Nat):Int) - 1=(j:Nat) by omega,Qhc om,sbind,show((p.length:Int)+(j:Int))=((p.length+j:Nat):Int) by omega];have M:getI (p++o++q) ((p.length+j:Nat):Int)=some o[j]:=by rw[Qfm,xe,yd om,vn,yi E,oq E]
  rw[M,sbind];by_cases d:o[j]=0;left;rw[oo d,grd_t (by unfold winC;simp;omega),sbind];exact⟨_,rfl,⟨oc,by simp only[];omega,by simp only[];rw[g3,d,Qk9];simp⟩,by simp only[];omega⟩;right;rw[ol d];exact⟨_,rfl,rfl,l,by simp only[];rw[g3,Jy E,Qqw _ d]⟩;right;obtain rfl:k=0:=om
  rw[ol om,bifF];exact⟨_,rfl,rfl,by simp only[];omega,by simp only[];rw[g3];simp[trimZ]⟩;rintro⟨s1,k⟩ ⟨rfl,l,g3⟩;simp only at l g3;exact⟨_,rfl,o,k,rfl,e,m,l,by rw[<-g3,<-Ji m,B]⟩
 obtain⟨w,e,r,k,rfl,m⟩:=key;exact⟨r,k,e,m⟩
def Win(X:List Nat)(o l:Nat)(b:List Nat):Prop:=∃ p q,X=p++b++q/\p.length=o/\b.length=l
theorem Qov{X:List Nat}{o l:Nat}{b:List Nat}(h:Win X o l b):subW X o l=some b:=by obtain⟨p,q,rfl,rfl,rfl⟩:=h;unfold subW;rw[oo oc];simp
theorem Qxg(b:List Nat):Win b 0 b.length b:=⟨[],[],oc,rfl,rfl⟩
theorem oddw{w z o R:Nat}(i:z<32)(e:w=2 ^ z*o)(f:o%2=1):(w+4294967296*R) / 2 ^ z%2=1/\w+4294967296*R=2 ^ z*((w+4294967296*R) / 2 ^ z):=by
 have a:(4294967296:Nat)=2 ^ z*(2*2 ^ (31 - z)):=by rw[<-yz,uz (2 ^ z) 2,yz,<-uo,show z+(31 - z)=31 by omega]
 have d:w+4294967296*R=2 ^ z*(o+2*(2 ^ (31 - z)*R)):=by rw[vj,<-e,<-yz 2,<-yz (2 ^ z),<-a]
 rw[d,Nat.mul_div_cancel_left _ (yf z)];exact⟨om,rfl⟩
theorem Qhd{n o l:Nat}{X a:List Nat}(C:big<=n)(N:X.length<35184372088000)(O:Win X o l a)(x:Wd a)(h0:val a≠0):
 ∃ f l' t X',Ku n X o l=some (f,l',((t:Nat):Int),X')/\X'.length=X.length/\∃ u,val a=2 ^ t*u/\u%2=1/\Win X' f l' (toL u)/\t<=32*a.length:=by
 obtain⟨p,q,rfl,rfl,rfl⟩:=O;have key:∃ w,Ku n (p++a++q) p.length a.length=some w/\∃ f l' t X',w=(f,l',((t:Nat):Int),X')/\X'.length=(p++a++q).length/\∃ u,val a=2 ^ t*u/\u%2=1/\Win X' f l' (toL u)/\t<=32*a.length:=by
  unfold Ku;simp only[yn] at N;have v:∀ j,val a=bp j*val (a.drop j)->j<a.length:=by intro j d;rcases xd j a.length with h | h;exact h;rw[xb h] at d;exact absurd d (by simpa [val] using h0)
  refine Qag (λs=>s.2.1) (λs=>∃ j:Nat,s.1=p.length+j/\s.2.1=a.length - j/\s.2.2=((32*j:Nat):Int)/\val a=bp j*val (a.drop j))
   (λs=>∃ j:Nat,s.1=p.length+j/\s.2.1=a.length - j/\s.2.2=((32*j:Nat):Int)/\val a=bp j*val (a.drop j)/\a.getD j 0≠0) ⟨0,rfl,rfl,rfl,by rw[Xf];simp⟩ (by simp only[];unfold big at C;omega) ?_ ?_
  rintro⟨s1,Q,S⟩ ⟨j,rfl,rfl,rfl,i⟩;have d:=v j i;have B:getI (p++a++q) (((p.length+j:Nat):Int)+0)=some a[j]:=by rw[show(((p.length+j:Nat):Int)+0)=((p.length+j:Nat):Int) by omega,Qfm,xe,yd om,vn,yi d,oq d]
  simp only[bifd];rw[show(0:Int)=((0:Nat):Int) from rfl,Qhc om,sbind,show((0:Nat):Int)=0 from rfl,B,sbind];by_cases A:a[j]=0;left;rw[oo A,grd_t (by unfold winC;simp;omega),sbind,w64 om om];refine⟨_,rfl,⟨j+1,by simp only[];omega,by simp only[];omega,by simp only[];omega,?_⟩,by simp only[];omega⟩;rw[i,Qe2 d,A,Kc,xr,yz];right;rw[ol A];exact⟨_,rfl,j,rfl,rfl,rfl,i,by simpa [d] using A⟩;rintro⟨s1,Q,S⟩ ⟨j,rfl,rfl,rfl,i,M⟩;have d:=v j i;have B:getI (p++a++q) (((p.length+j:Nat):Int)+0)=some a[j]:=by
   rw[show(((p.length+j:Nat):Int)+0)=((p.length+j:Nat):Int) by omega,Qfm,xe,yd om,vn,yi d,oq d]
  have P:=W5 x d;have F:a[j]≠0:=by simpa [d] using M
  obtain⟨z,Y,T,J,z3,z4⟩:=Qpv C F P;simp only[];rw[show(0:Int)=((0:Nat):Int) from rfl,Qhc om,sbind,show((0:Nat):Int)=0 from rfl,B,sbind,T,sbind];have E:p++a++q=(p++a.take j)++a.drop j++q:=oc
  have e:(p++a.take j).length=p.length+j:=oh
  have m:(a.drop j).length=a.length - j:=oc
  obtain⟨r,k,G,U,V,W,H⟩:=Qq9 (p:=p++a.take j) (a:=a.drop j) (q:=q) C (by rw[e,m];omega) (Qfo x) J;rw[e,m,<-E] at G;rw[G,sbind,w64 om om];obtain⟨w1,I⟩:=oddw (R:=val (a.drop (j+1))) J z3 z4;rw[<-Qe2 d] at w1 I;refine⟨_,rfl,p.length+j,k,32*j+z,p++a.take j++r++q,oc,oh,val (a.drop j) / 2 ^ z,?_,w1,?_,om⟩;rw[uo,<-Qgk,yz,<-I];exact i;refine⟨p++a.take j,r.drop k++q,?_,e,?_⟩;rw[<-H];simp only[xe];rw[<-xe (r.take k),uy];rw[<-H,xh,xj om]
 obtain⟨w,K,f,l',t,X',rfl,L⟩:=key;exact⟨f,l',t,X',K,L⟩
theorem Qo5{n t:Nat}{a:List Nat}(i:big<=n)(l:t / 32+a.length<35184372088830)(m:t<4611686018427387904)(d:Wd a):W4 n a (t:Int)=some (toL (2 ^ t*val a)):=by unfold W4;have hd:Int.tdiv (t:Int) 32=((t / 32:Nat):Int):=rfl;have f:Int.tmod (t:Int) 32=((t%32:Nat):Int):=rfl;have j:(1*2 ^ min (Int.toNat ((t%32:Nat):Int)) 32)%4294967296=2 ^ (t%32):=Qvx (yg _ oz);have e:2 ^ (t%32)<4294967296:=xx (Nat.pow_lt_pow_right oz (yg t (show 0<32 by decide))) oz;rw[hd,f,w64 om om,Qbg om om,sbind,Vm oh oh,sbind,grd_t (oj (vq _)),sbind,j,sbind,Qkb i oh (Je.2 ⟨Qgj oz,d⟩) (Jg.2 ⟨e,J4⟩),sbind,Vc,Qaw,vc,Qgk,xr];congr 2;simp only[val,ua,xf];rw[yz,uz (val a),<-yz,<-uo,show 32*(t / 32)+t%32=t by omega]
theorem Qsi{u t:Nat}(h:u%2=1):Nat.Coprime (2 ^ t) u:=Nat.Coprime.pow_left t (by
 have:Nat.gcd 2 u=1:=by rw[Nat.gcd_rec,h];rfl
 exact this)
theorem Q1y{m k u v:Nat}(a:u%2=1)(d:v%2=1):Nat.gcd (2 ^ m*u) (2 ^ k*v)=2 ^ (min m k)*Nat.gcd u v:=by by_cases h:m<=k;rw[xj h,show k=m+(k - m) by omega,uo,yz,Nat.gcd_mul_left,Nat.Coprime.gcd_mul_left_cancel_right _ (Qsi a)];rw[Nat.min_eq_right om,show m=k+(m - k) by omega,uo,yz,Nat.gcd_mul_left,Nat.Coprime.gcd_mul_left_cancel _ (Qsi d)]
theorem Qpl{x k:Nat}(h:x<2 ^ k):blen x<=k:=by by_cases h0:x=0;rw[h0,Qdh];omega;have a:=Qiv h0;have:=(wt (show 1<2 by decide)).1 (ym a h);omega
theorem Qzt{x y t:Nat}(h:x=2 ^ t*y)(j:t≠0)(h0:x≠0):blen y<blen x:=by
 have a:=Qlu (x:=x);have e:=Qm0 h0;obtain⟨k,hk⟩:∃ k,blen x=k+1:=⟨_,(Nat.sub_add_cancel e).symm⟩
 rw[hk] at a |-;have d:y<2 ^ k:=by
  obtain⟨s,rfl⟩:∃ s,t=s+1:=⟨t - 1,om⟩
  rw[Nat.pow_succ] at h a;have f:1*y<=2 ^ s*y:=yb _ (yf s);have i:x=2*(2 ^ s*y):=by rw[h,uz (2 ^ s) 2,yz]
  omega
 have:=Qpl d;omega
theorem Qzu{x y:Nat}(h:x<=y):blen x<=blen y:=Qpl (ym h Qlu)
theorem Qtg{v:Nat}:blen v<=32*(toL v).length:=by have:=Qne (Q3 v);rwa [Qu] at this
theorem Ql2{X:List Nat}{o l:Nat}{b:List Nat}(h:Win X o l b):b.length<=X.length/\b.length=l:=by obtain⟨p,q,rfl,rfl,rfl⟩:=h;exact⟨oh,rfl⟩
def wval(X:List Nat)(o l:Nat):Nat:=val ((subW X o l).getD [])
theorem Qiz{X:List Nat}{o l u:Nat}(h:Win X o l (toL u)):wval X o l=u:=by unfold wval;rw[Qov h,wd,Qu]
theorem Q1z{u v:Nat}(a:u%2=1)(d:v%2=1)(h:v<u):(u - v)≠0/\(u - v)%2=0:=om
theorem Qgn{a:List Nat}(d:Wd a):(trimZ a).length=0↔val a=0:=by rw[<-Qoe d];constructor;intro h;exact xc h;intro h;rw[h];rfl
set_option maxHeartbeats 1000000 in
theorem Qsj{n:Nat}{a b:List Nat}(i:big<=n)(ha:a.length<35184372087900)(hb:b.length<35184372087900)(e:Wd a)(j:Wd b):Xz n a b=some (toL (Nat.gcd (val a) (val b))):=by
 unfold Xz;have la:=Wk a;have lb:=Wk b;rw[K6 i om,sbind,K6 i om,sbind];by_cases h0:val a=0;have:=(Qgn e).2 h0;rw[oj om,bifT,h0,Nat.gcd_zero_left,Ji j];rw[oi (λh=>h0 ((Qgn e).1 om)),bifF];by_cases f:val b=0;have:=(Qgn j).2 f;rw[oj om,bifT,f,Nat.gcd_zero_right,Ji e];rw[oi (λh=>f ((Qgn j).1 om)),bifF];obtain⟨o1,l1,m,X1,e1,e2,u,L,T,M,e6⟩:=Qhd i (show(trimZ a).length<_ by omega) (Qxg _) (Qvl e) (by rw[Qj9];exact h0);obtain⟨o2,l2,A,X2,f1,f2,v,f3,U,N,f6⟩:=Qhd i (show(trimZ b).length<_ by omega) (Qxg _) (Qvl j) (by rw[Qj9];exact f);rw[Qj9] at L f3;rw[e1,sbind,f1,sbind,L,f3,Q1y T U];simp only[];have i1:=Ql2 M;have i2:=Ql2 N;have j1:=@Qtg u;have j2:=@Qtg v;have k1:=Qcc (v:=u)
 refine Vr (λs=>blen (wval s.1 s.2.1 s.2.2.1)+blen (wval s.2.2.2.1 s.2.2.2.2.1 s.2.2.2.2.2))
  (λs=>∃ x y:Nat,Win s.1 s.2.1 s.2.2.1 (toL x)/\Win s.2.2.2.1 s.2.2.2.2.1 s.2.2.2.2.2 (toL y)/\x%2=1/\y%2=1/\Nat.gcd x y=Nat.gcd u v/\s.1.length<35184372087900/\s.2.2.2.1.length<35184372087900)
  (λt=>Win t.1 t.2.1 t.2.2 (toL (Nat.gcd u v))/\t.1.length<35184372087900) ⟨u,v,M,N,T,U,rfl,by simp only[];omega,by simp only[];omega⟩ (by simp only[];rw[Qiz M,Qiz N];unfold big at i;omega) ?_ ?_
 have round:∀(X:List Nat) (o l:Nat) (Y:List Nat) (B l' x y:Nat),Win X o l (toL x)->Win Y B l' (toL y)->x%2=1->y%2=1->Nat.gcd x y=Nat.gcd u v->X.length<35184372087900->Y.length<35184372087900->y<x ->
  ∃ d:List Nat×Nat×Nat×List Nat×Nat×Nat,((some (toL y)).bind λS=>(K4 n X o l S).bind λR=>(Ku n R o l).bind λC=>some (Lp.go (σ:=List Nat×Nat×Nat×List Nat×Nat×Nat) (τ:=List Nat×Nat×Nat) (C.2.2.2,C.1,C.2.1,Y,B,l')))=some (.go d) /\
    (∃ x y:Nat,Win d.1 d.2.1 d.2.2.1 (toL x)/\Win d.2.2.2.1 d.2.2.2.2.1 d.2.2.2.2.2 (toL y)/\x%2=1/\y%2=1/\Nat.gcd x y=Nat.gcd u v/\d.1.length<35184372087900/\d.2.2.2.1.length<35184372087900) /\
    blen (wval d.1 d.2.1 d.2.2.1)+blen (wval d.2.2.2.1 d.2.2.2.2.1 d.2.2.2.2.2)<blen x+blen y:=by
  intro X o l Y B l' x y hX W K E G lX lY Q;obtain⟨p,q,rfl,rfl,rfl⟩:=hX;obtain⟨r,g1,O,g3,g4⟩:=Qkh (p:=p) (a:=toL x) (q:=q) (b:=toL y) i (by simp at lX;omega) (Vv om) (Q3 _) (Q3 _) (by rw[Qu,Qu];omega);rw[Qu,Qu] at g4;obtain⟨s1,s2⟩:=Q1z K E Q;obtain⟨o3,l3,t3,X3,h1,h2,w,J,h4,V,h6⟩:=Qhd (X:=p++r++q) (o:=p.length) (l:=(toL x).length) (a:=r) i (by simp[O];simp at lX;omega) ⟨p,q,rfl,rfl,O⟩ g3 (by rw[g4];exact s1);rw[g4] at J;have ht:t3≠0:=by rintro rfl;rw[Nat.pow_zero,Nat.one_mul] at J;omega
  refine⟨(X3,o3,l3,Y,B,l'),by rw[sbind,g1,sbind,h1,sbind],⟨w,y,V,W,h4,E,?_,?_,lY⟩,?_⟩;rw[<-G,<-Nat.Coprime.gcd_mul_left_cancel (k:=2 ^ t3) w (Qsi E),<-J,Nat.gcd_sub_self_left om];rw[h2];simp[O];simp at lX;omega;simp only[];rw[Qiz V,Qiz W];have c1:=Qzt J ht s1;have I:=Qzu (Nat.sub_le x y);omega
 rintro⟨X,o,l,Y,B,l'⟩ ⟨x,y,w1,F,K,E,G,lX,lY⟩;simp only at w1 F lX lY;have i3:=Ql2 w1;have i4:=Ql2 F;simp only[jn_eq];rw[Qov w1,sbind,Qov F,sbind,Qhb i om om (Q3 _) (Q3 _),sbind,Qu,Qu,Qiz w1,Qiz F,bifd,bifd];unfold cmpI;by_cases c1:x<y;left;rw[oo c1,ol oz,oo oz];obtain⟨d,r1,r2,r3⟩:=round Y B l' X o l y x F w1 E K (by rw[Nat.gcd_comm];exact G) lY lX c1;exact⟨d,r1,r2,om⟩;rw[ol c1];by_cases I:y<x;left;rw[oo I,ol oz,ol oz];exact round X o l Y B l' x y w1 F K E G lX lY I;right;rw[ol I,oo rfl];obtain rfl:x=y:=om
 refine⟨_,rfl,?_,lX⟩;rw[<-G,Nat.gcd_self];exact w1;rintro⟨X,o,l⟩ ⟨w1,lX⟩;simp only at w1 lX;have i3:=Ql2 w1;simp only[];have H:min (m:Int) (A:Int)=((min m A:Nat):Int):=om
 have hG:Nat.gcd u v≠0:=by have:=Nat.gcd_pos_of_pos_left v (show 0<u by omega);omega
 have P:2 ^ min m A*Nat.gcd u v<=val a:=by rw[L];exact Nat.mul_le_mul (vu oz (Nat.min_le_left _ _)) (Nat.gcd_le_left _ om)
 have Z:min m A / 32+(toL (Nat.gcd u v)).length<=a.length+1:=by
  have q1:=Qw3 hG;have q2:=Vi e;have q3:bp (min m A / 32)<=2 ^ min m A:=by rw[Qgk];exact vu oz om
  have q4:bp (min m A / 32+((toL (Nat.gcd u v)).length - 1))<=val a:=by rw[Qzb];exact xm (Nat.mul_le_mul q3 q1) P
  rcases xd (min m A / 32+((toL (Nat.gcd u v)).length - 1)) a.length with h | h;omega;have:=bp_le h;omega
 rw[Qov w1,sbind,H,Qo5 i om om (Q3 _),sbind,Qu]
theorem Qki{n:Nat}{a g:List Nat}(f:big<=n)(i:a.length<35184372087900)(j:g.length<35184372087900)(d:Wd a)(e:Wd g)(h0:val g≠0):Wo n a g=some (toL (val a / val g)):=by unfold Wo;rw[Ql1,sbind,bifd];split;rename_i h;rw[h,K6 f om,sbind,<-Ji d];simp[val];rw[Qsh f om om d e h0,sbind]
end Go.Proofs.YtgmknbfonlbjfaaGreatDoor
