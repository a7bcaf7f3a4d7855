import Derived.Test.YtmnalemmhfjacaaGreatDoorMod
namespace Go.Proofs.YtmnalemmhfjacaaGreatDoor
open Go Go.RowKit
def big:Nat:=18446744073709551616
theorem w64{x:Int}(a:-9223372036854775808<=x)(d:x<=9223372036854775807):wrap64 x=x:=by unfold wrap64;omega
theorem bifd{α:Type}(p:Prop)[Decidable p](a b:α):(bif decide p then a else b)=if p then a else b:=by by_cases h:p<;>simp[h]
theorem bifnd{α:Type}(p:Prop)[Decidable p](a b:α):(bif !decide p then a else b)=if p then b else a:=by by_cases h:p<;>simp[h]
theorem bifT{α:Type}(a b:α):(bif true then a else b)=a:=vj (vj rfl)
theorem bifF{α:Type}(a b:α):(bif false then a else b)=b:=vj (vj rfl)
theorem jn_eq{σ ρ:Type}(A:(σ->Option ρ)->Option ρ)(k:σ->Option ρ):jn A k=A k:=vj (vj rfl)
theorem Wi{τ ρ:Type}(k:τ->Option ρ)(t:τ):lpK k (.go t)=k t:=vj (vj rfl)
theorem Qfc{τ ρ:Type}(k:τ->Option ρ)(r:ρ):lpK k (.out r)=some r:=vj (vj rfl)
theorem sbind{α β:Type}(a:α)(f:α->Option β):(some a).bind f=f a:=vj (vj rfl)
theorem Qge{α:Type}(l:List α)(i:Nat):getI l (i:Int)=l[i]?:=by simp[getI]
theorem Qeo{α:Type}{l:List α}{i:Nat}(h:i<l.length):getI l (i:Int)=some l[i]:=by rw[Qge];simp[h]
theorem Q5r(l:List UInt8)(i:Nat):getS l (i:Int)=(l[i]?).map (·.toNat):=by simp[getS]
theorem Q7k{l:List UInt8}{i:Nat}(h:i<l.length):getS l (i:Int)=some l[i].toNat:=by rw[Q5r];simp[h]
theorem grd_t{b:Bool}(h:b=true):grd b=some ():=by rw[h];rfl
theorem Qtj{α:Type}{l:List α}{k:Nat}(h:k<=l.length):sub l 0 (k:Int)=some (l.take k):=by unfold sub;rw[oi om];simp
theorem Qwk{α:Type}{l:List α}{i k:Nat}(a:i<=k)(h:k<=l.length):sub l (i:Int) (k:Int)=some ((l.take k).drop i):=by unfold sub;rw[oi om];simp
theorem K0{α:Type}{b:Nat}{l r:List α}(h:(l.length+r.length)*b<=140737488355328)(a:l.length+r.length<=9223372036854775807):appM b l r=some (l++r):=by unfold appM;rw[oi ⟨h,a⟩]
theorem Qhj{α:Type}{b:Nat}{z:α}{n:Nat}(h:n*b<=140737488355328)(a:n<=9223372036854775807):mkM b z (n:Int)=some (List.replicate n z):=by unfold mkM;rw[oi om];simp
theorem Qtk{σ τ:Type}{f:σ->Option (Lp σ τ)}(μ:σ->Nat)(I:σ->Prop)(Q:τ->Prop)
 (hb:∀ s,I s->(∃ s',f s=some (.go s')/\I s'/\μ s'<μ s)\/(∃ t,f s=some (.out t)/\Q t)):∀(n:Nat) (s:σ),I s->μ s<n->∃ t,loopM f n s=some t/\Q t
 | 0,_,_,h=>absurd h (Nat.not_lt_zero _)
 | n+1,s,hI,j=>by rcases hb s hI with ⟨s',a,d,i⟩ | ⟨t,a,d⟩;obtain⟨t,e,g⟩:=Qtk μ I Q hb n s' d om;exact⟨t,by simp only[loopM,a,yn];exact e,g⟩;exact⟨t,by simp only[loopM,a,yn],d⟩
theorem Qgf{σ τ R:Type}{f:σ->Option (Lp σ τ)}{n:Nat}{s:σ}{k:τ->Option R}{r:R}(μ:σ->Nat)(I:σ->Prop)(Q:τ->Prop)(h0:I s)(e:μ s<n)
 (hb:∀ s,I s->(∃ s',f s=some (.go s')/\I s'/\μ s'<μ s)\/(∃ t,f s=some (.out t)/\Q t)) (hk:∀ t,Q t->k t=some r):(loopM f n s).bind k=some r:=by
 obtain⟨t,a,d⟩:=Qtk μ I Q hb n s h0 e;rw[a,yn];exact hk t d
theorem Qur{σ τ R:Type}{f:σ->Option (Lp σ τ)}{n:Nat}{s:σ}{k:τ->Option R}{P:R->Prop}(μ:σ->Nat)(I:σ->Prop)(Q:τ->Prop)(h0:I s)(e:μ s<n)
 (hb:∀ s,I s->(∃ s',f s=some (.go s')/\I s'/\μ s'<μ s)\/(∃ t,f s=some (.out t)/\Q t)) (hk:∀ t,Q t->∃ r,k t=some r/\P r):∃ r,(loopM f n s).bind k=some r/\P r:=by
 obtain⟨t,a,d⟩:=Qtk μ I Q hb n s h0 e;rw[a,yn];exact hk t d
theorem Qd6{σ τ:Type}{f:σ->Option (Lp σ τ)}{s s':σ}{n:Nat}(h:f s=some (.go s')):loopM f (n+1) s=loopM f n s':=by simp only[loopM,h,yn]
theorem Wz{σ τ:Type}{f:σ->Option (Lp σ τ)}{s:σ}{t:τ}{n:Nat}(h:f s=some (.out t))(a:0<n):loopM f n s=some t:=by
 obtain⟨m,rfl⟩:∃ m,n=m+1:=⟨n - 1,om⟩
 simp only[loopM,h,yn]
theorem Qq8{α σ τ:Type}{f:Nat->α->σ->Option (Lp σ τ)}(I:Nat->σ->Prop):∀(xs:List α) (i:Nat) (s:σ),I i s->(∀ j x s,xs[j]?=some x->I (i+j) s->∃ s',f (i+j) x s=some (.go s')/\I (i+j+1) s') ->
 ∃ s',rangeL f xs i s=some (.go s')/\I (i+xs.length) s'
 | [],i,s,h,_=>⟨s,rfl,h⟩
 | x::xs,i,s,h,hb=>by
   obtain⟨s1,a,d⟩:=hb 0 x s rfl h;simp only[xf] at a d
   obtain⟨m,e,g⟩:=Qq8 I xs (i+1) s1 d (λj y t k l=>by
    have:=hb (j+1) y t (by simpa using k) (by rw[show i+(j+1)=i+1+j by omega];exact l);rw[show i+(j+1)=i+1+j by omega] at this
    exact this)
   refine⟨m,by simp only[rangeL,a,yn];exact e,?_⟩;rw[ow,show i+(xs.length+1)=i+1+xs.length by omega];exact g
theorem Qi6{α σ τ R:Type}{f:Nat->α->σ->Option (Lp σ τ)}{xs:List α}{s:σ}{k:Lp σ τ->Option R}{r:R}(I:Nat->σ->Prop)(h0:I 0 s)
 (hb:∀ j x s,xs[j]?=some x->I j s->∃ s',f j x s=some (.go s')/\I (j+1) s') (hk:∀ t,I xs.length t->k (.go t)=some r):(rangeL f xs 0 s).bind k=some r:=by
 obtain⟨s',a,d⟩:=Qq8 I xs 0 s h0 (λj x s e hs=>by rw[xz] at hs |-;exact hb j x s e hs);rw[a,yn];exact hk s' (by simpa using d)
theorem Qnk{α σ τ R:Type}{f:Nat->α->σ->Option (Lp σ τ)}{xs:List α}{s:σ}{k:Lp σ τ->Option R}{P:R->Prop}(I:Nat->σ->Prop)(h0:I 0 s)
 (hb:∀ j x s,xs[j]?=some x->I j s->∃ s',f j x s=some (.go s')/\I (j+1) s') (hk:∀ t,I xs.length t->∃ r,k (.go t)=some r/\P r):∃ r,(rangeL f xs 0 s).bind k=some r/\P r:=by
 obtain⟨s',a,d⟩:=Qq8 I xs 0 s h0 (λj x s e hs=>by rw[xz] at hs |-;exact hb j x s e hs);rw[a,yn];exact hk s' (by simpa using d)
def runG{α β τ:Type}(g:Nat->α->β->β ⊕ τ)(e:β->τ):List α->Nat->β->τ
 | [],_,b=>e b
 | x::xs,i,b=>match g i x b with
   | .inl a=>runG g e xs (i+1) a
   | .inr t=>t
def toLpp{β σ τ0 τ:Type}(mk:β->Nat->σ)(i:Nat):β ⊕ τ->Lp σ (Lp τ0 τ)
 | .inl b=>.go (mk b (i+1))
 | .inr t=>.out (.out t)
theorem Q7l{α β σ τ0 τ:Type}{f:σ->Option (Lp σ (Lp τ0 τ))}{k:τ0->Option τ}{s0:σ}(mk:β->Nat->σ)(g:Nat->α->β->β ⊕ τ)(r:β->τ0)(e:β->τ)(I:Nat->β->Prop)(xs:List α)(b:β){n:Nat}
 (hb:∀ i x b,xs[i]?=some x->I i b->f (mk b i)=some (toLpp mk i (g i x b))/\∀ d,g i x b=.inl d->I (i+1) d)
 (l:∀ b,I xs.length b->f (mk b xs.length)=some (.out (.go (r b)))) (hk:∀ b,I xs.length b->k (r b)=some (e b)) (h0:I 0 b) (q:xs.length<n) (hs:s0=mk b 0:=by rfl) :
 (loopM f n s0).bind (lpK k)=some (runG g e xs 0 b):=by
 have key:∀(xs:List α) (j:Nat) (b:β) (n:Nat),
  (∀ i x b,xs[i]?=some x->I (j+i) b->f (mk b (j+i))=some (toLpp mk (j+i) (g (j+i) x b))/\∀ d,g (j+i) x b=.inl d->I (j+i+1) d) ->
  (∀ b,I (j+xs.length) b->f (mk b (j+xs.length))=some (.out (.go (r b))))->(∀ b,I (j+xs.length) b->k (r b)=some (e b))->I j b->xs.length<n->(loopM f n (mk b j)).bind (lpK k)=some (runG g e xs j b):=by
  intro xs
  induction xs with
  | nil=>
    intro j b n _ l hk h0 q;simp only[yx,xf] at l hk;rw[Wz (l b h0) om,yn];exact hk b h0
  | cons x xs A=>
    intro j b n hb l hk h0 q;obtain⟨m,rfl⟩:∃ m,n=m+1:=⟨n - 1,by simp at q;omega⟩
    obtain⟨p,u⟩:=hb 0 x b rfl h0;simp only[xf] at p u;simp only[runG];cases s:g j x b with
    | inl d=>
      rw[s] at p;rw[Qd6 p];refine A (j+1) d m (λi y c w a=>?_) (λc a=>?_) (λc a=>?_) (u d s) (by simp at q;omega);have:=hb (i+1) y c (by simpa using w);rw[show j+(i+1)=j+1+i by omega] at this;exact this a;have:=l c;rw[ow,show j+(xs.length+1)=j+1+xs.length by omega] at this;exact this a;have:=hk c;rw[ow,show j+(xs.length+1)=j+1+xs.length by omega] at this;exact this a
    | inr t=>rw[s] at p;rw[Wz p om];rfl
 rw[hs];exact key xs 0 b n (λi x c v a=>by rw[xz] at a |-;exact hb i x c v a) (λc a=>by rw[xz] at a |-;exact l c a) (λc a=>hk c (by rwa [xz] at a)) h0 q
theorem Kj{α:Type}{l:List α}{i:Nat}{x:α}(h:l[i]?=some x):getI l (i:Int)=some x:=by rw[Qge,h]
theorem Ke{α:Type}{l:List α}{i:Nat}{x:α}(h:l[i]?=some x):i<l.length:=by rcases xc i l.length with a | a;exact a;rw[xn a] at h;cases h
theorem Je{α:Type}{l:List α}{i:Nat}{x:α}(h:l[i]?=some x):x∈l:=yb h
theorem w1{i:Nat}(h:i<9223372036854775807):wrap64 ((i:Int)+1)=((i+1:Nat):Int):=by rw[w64 om om];omega
theorem Q34{α:Type}{l:List α}{x:α}(h:l.length<9223372036854775807):getI (l++[x]) (wrap64 (((l++[x]).length:Int) - 1))=some x:=by rw[xk,yt,w64 om om,show(((l.length+1:Nat):Int) - 1)=((l.length:Nat):Int) by omega,Qge];simp
theorem Q5s{α:Type}{l:List α}{x:α}(h:l.length<9223372036854775807):sub (l++[x]) (0:Int) (wrap64 (((l++[x]).length:Int) - 1))=some l:=by rw[xk,yt,w64 om om,show(((l.length+1:Nat):Int) - 1)=((l.length:Nat):Int) by omega,Qtj oa];simp
theorem Qxq{σ τ:Type}{f:σ->Option (Lp σ τ)}(F:Nat->σ){t:τ}:∀(N k n:Nat),(∀ i,i<N->f (F (k+i))=some (.go (F (k+i+1))))->f (F (k+N))=some (.out t)->N<n->loopM f n (F k)=some t
 | 0,k,n,_,a,d=>Wz a om
 | N+1,k,n,hb,a,d=>by
   obtain⟨m,rfl⟩:∃ m,n=m+1:=⟨n - 1,om⟩
   have h0:=hb 0 om;simp only[xf] at h0;rw[Qd6 h0];exact Qxq F N (k+1) m (λi hi=>by have:=hb (i+1) om;rw[show k+(i+1)=k+1+i by omega] at this;exact this) (by rw[show k+1+N=k+(N+1) by omega];exact a) om
theorem Qlz{σ τ R:Type}{f:σ->Option (Lp σ τ)}{s:σ}{K:τ->Option R}{n:Nat}(F:Nat->σ)(N:Nat)(t:τ)(hb:∀ i,i<N->f (F i)=some (.go (F (i+1))))(a:f (F N)=some (.out t))(d:N<n)(hs:s=F 0):(loopM f n s).bind K=K t:=by rw[hs,Qxq F (t:=t) N 0 n (λi hi=>by rw[xz];exact hb i hi) (by rw[xz];exact a) d,yn]
theorem Qus{α σ τ:Type}{f:Nat->α->σ->Option (Lp σ τ)}(F:Nat->σ):∀(xs:List α) (k:Nat),(∀ i x,xs[i]?=some x->f (k+i) x (F (k+i))=some (.go (F (k+i+1))))->rangeL f xs k (F k)=some (.go (F (k+xs.length)))
 | [],_,_=>rfl
 | x::xs,k,hb=>by have h0:=hb 0 x rfl;simp only[xf] at h0;simp only[rangeL,h0,yn];rw[Qus F xs (k+1) (λi y a=>by have:=hb (i+1) y (by simpa using a);rw[show k+(i+1)=k+1+i by omega] at this;exact this),ow,show k+1+xs.length=k+(xs.length+1) by omega]
theorem X8{α σ τ R:Type}{f:Nat->α->σ->Option (Lp σ τ)}{s:σ}{K:Lp σ τ->Option R}(F:Nat->σ)(xs:List α)(hb:∀ i x,xs[i]?=some x->f i x (F i)=some (.go (F (i+1))))(hs:s=F 0):(rangeL f xs 0 s).bind K=K (.go (F xs.length)):=by rw[hs,Qus F xs 0 (λi x a=>by rw[xz];exact hb i x a),yn,xz]
theorem Qut{α R:Type}{f:Nat->α->Unit->Option (Lp Unit R)}{r:R}(P:Nat->α->Prop):∀(xs:List α) (k:Nat),(∀ i x,xs[i]?=some x->(P (k+i) x->f (k+i) x ()=some (.go ()))/\(¬ P (k+i) x->f (k+i) x ()=some (.out r))) ->
 ((∀ i x,xs[i]?=some x->P (k+i) x)->rangeL f xs k ()=some (.go ()))/\(¬(∀ i x,xs[i]?=some x->P (k+i) x)->rangeL f xs k ()=some (.out r))
 | [],k,_=>⟨λ_=>rfl,λh=>absurd (λi x m=>by simp at m) h⟩
 | x::xs,k,hb=>by
   obtain⟨g,j⟩:=hb 0 x rfl;simp only[xf] at g j;obtain⟨g1,l⟩:=Qut P xs (k+1) (λi y a=>by have:=hb (i+1) y (by simpa using a);rw[show k+(i+1)=k+1+i by omega] at this;exact this);by_cases d:P k x;have e:(∀ i y,(x::xs)[i]?=some y->P (k+i) y)↔(∀ i y,xs[i]?=some y->P (k+1+i) y):=by
    constructor;intro h i y a;have:=h (i+1) y (by simpa using a);rw[show k+(i+1)=k+1+i by omega] at this;exact this;intro h i y a;cases i with
    | zero=>simp at a;subst a;exact d
    | succ i=>rw[show k+(i+1)=k+1+i by omega];exact h i y (by simpa using a)
   rw[e];simp only[rangeL,g d,yn];exact⟨g1,l⟩;refine⟨λh=>absurd (h 0 x rfl) d,λ_=>?_⟩;simp only[rangeL,j d,yn]
open Classical in
theorem Xy{α R:Type}{f:Nat->α->Unit->Option (Lp Unit R)}{K:Unit->Option R}{r:R}(P:Nat->α->Prop)(xs:List α)
 (hb:∀ i x,xs[i]?=some x->(P i x->f i x ()=some (.go ()))/\(¬ P i x->f i x ()=some (.out r))) :
 (rangeL f xs 0 ()).bind (lpK K)=if (∀ i x,xs[i]?=some x->P i x) then K () else some r:=by
 obtain⟨g1,a⟩:=Qut P xs 0 (λi x d=>by rw[xz];exact hb i x d);simp only[xz] at g1 a;by_cases h:∀ i x,xs[i]?=some x->P i x;rw[oi h,g1 h,yn,Wi];rw[oh h,a h,yn,Qfc]
theorem Qxr{R:Type}{f:Int->Option (Lp Int (Lp Unit R))}{r:R}(P:Nat->Prop):∀(N k n:Nat),(∀ i,i<k+N->k<=i->(P i->f (i:Int)=some (.go ((i+1:Nat):Int)))/\(¬ P i->f (i:Int)=some (.out (.out r))))->f ((k+N:Nat):Int)=some (.out (.go ()))->N<n ->
 ((∀ i,k<=i->i<k+N->P i)->loopM f n (k:Int)=some (.go ()))/\(¬(∀ i,k<=i->i<k+N->P i)->loopM f n (k:Int)=some (.out r))
 | 0,k,n,_,g,q=>⟨λ_=>Wz g om,λh=>absurd (λi j l=>by omega) h⟩
 | N+1,k,n,hb,g,q=>by
   obtain⟨m,rfl⟩:∃ m,n=m+1:=⟨n - 1,om⟩
   obtain⟨j,l⟩:=hb k om (xd _);obtain⟨g1,p⟩:=Qxr P N (k+1) m (λi hi hk=>hb i om om) (by rw[show k+1+N=k+(N+1) by omega];exact g) om;by_cases d:P k;have e:(∀ i,k<=i->i<k+(N+1)->P i)↔(∀ i,k+1<=i->i<k+1+N->P i):=by constructor;intro h i a b;exact h i om om;intro h i a b;rcases Nat.eq_or_lt_of_le a with c | c;exact c ▸ d;exact h i c om
   rw[e,Qd6 (j d)];exact⟨g1,p⟩;exact⟨λh=>absurd (h k (xd _) om) d,λ_=>Wz (l d) om⟩
open Classical in
theorem Qtl{R:Type}{f:Int->Option (Lp Int (Lp Unit R))}{K:Unit->Option R}{r:R}{n:Nat}(P:Nat->Prop)(N:Nat)
 (hb:∀ i,i<N->(P i->f (i:Int)=some (.go ((i+1:Nat):Int)))/\(¬ P i->f (i:Int)=some (.out (.out r)))) (d:f (N:Int)=some (.out (.go ()))) (e:N<n) :
 (loopM f n 0).bind (lpK K)=if (∀ i,i<N->P i) then K () else some r:=by
 obtain⟨g1,a⟩:=Qxr (n:=n) (r:=r) P N 0 (λi hi _=>hb i om) (by rw[xz];exact d) e;simp only[xz,xo,true_implies] at g1 a;by_cases h:∀ i,i<N->P i;rw[oi h];have:=g1 h;rw[show((0:Nat):Int)=0 from rfl] at this;rw[this,yn,Wi];rw[oh h];have:=a h;rw[show((0:Nat):Int)=0 from rfl] at this;rw[this,yn,Qfc]
theorem Qau{α β:Type}(h:α->β){l:List α}{i:Nat}{x:α}(a:l[i]?=some x):(l.take (i+1)).map h=(l.take i).map h++[h x]:=by
 rw[gb (Ke a),xu];have:l[i]'(Ke a)=x:=by have:=ol (Ke a);rw[this] at a;exact Option.some.inj a
 simp[this]
def cutI(x:Int):Nat:=(min (max x 1) 200).toNat
theorem Q7m(x:Int):min (max x (1:Int)) (200:Int)=((cutI x:Nat):Int):=by unfold cutI;omega
theorem cut_b(x:Int):1<=cutI x/\cutI x<=200:=by unfold cutI;omega
theorem Q5t(x:Int):cutI ((cutI x:Nat):Int)=cutI x:=by unfold cutI;omega
theorem Qo5(x:Int):Qa5 x=some ((cutI x:Nat):Int):=by unfold Qa5;rw[Q7m]
def cnt(n c:Nat):Nat:=(n+c - 1) / c
def mrk(n c:Nat):List Nat:=(List.range (cnt n c)).map λj=>j*c
theorem Qlc(n c:Nat):(mrk n c).length=cnt n c:=by simp[mrk]
theorem Qhk{n c j:Nat}(a:1<=c):j<cnt n c↔j*c<n:=by unfold cnt;rw[Nat.lt_iff_add_one_le,Nat.le_div_iff_mul_le om,ua];omega
theorem cnt_0{c:Nat}(a:1<=c):cnt 0 c=0:=by have:=(Qhk (n:=0) (j:=0) a).1;rcases gn (cnt 0 c) with h | h;exact h;have:=this h;omega
theorem Quu{n c:Nat}(a:1<=c):cnt n c<=n:=by rcases gn (cnt n c) with h | h;omega;have:=(Qhk (n:=n) (j:=cnt n c - 1) a).1 om;have d:(cnt n c - 1)*1<=(cnt n c - 1)*c:=ui _ a;omega
theorem Qrx{n c j:Nat}(a:j<cnt n c):(mrk n c)[j]?=some (j*c):=by simp[mrk,List.getElem?_range a]
theorem Qwl{n c m:Nat}(a:1<=c)(h:m∈mrk n c):∃ j,j<cnt n c/\m=j*c/\m<n:=by obtain⟨j,d,rfl⟩:=xa.1 h;have:=vv.1 d;exact⟨j,this,rfl,(Qhk a).1 this⟩
def mk0(c j:Nat):List Int:=(List.range j).map λi=>((i*c:Nat):Int)
theorem Q7n(c j:Nat):mk0 c (j+1)=mk0 c j++[((j*c:Nat):Int)]:=by unfold mk0;rw[List.range_succ,xu];rfl
theorem Qwm(c j:Nat):(mk0 c j).length=j:=by simp[mk0]
def iL(l:List Nat):List Int:=l.map λi:Nat=>(i:Int)
theorem Q5u(n c:Nat):iL (mrk n c)=mk0 c (cnt n c):=by simp[iL,mrk,mk0]
theorem Qo6{n N:Nat}{x:Int}(s:big<=n)(v:N<=200):Qbp n (N:Int) x=some (iL (mrk N (cutI x))):=by
 obtain⟨c1,l⟩:=cut_b x;unfold Qbp;simp only[jn_eq];rw[Q5u];generalize e:cutI x=c at c1 l;by_cases h0:(N:Int)<1;rw[oj h0,bifT,bifT];obtain rfl:N=0:=om
 rw[cnt_0 c1];rfl;rw[oo h0,bifF,oo (show ¬(200:Int)<N by omega),bifF]
 have key:∀(m j d:Nat),j+m=cnt N c->m<d->(loopM (λ(a:(List Int)×Int)=>
  bif decide (a.2<(N:Int)) then (
   (appM 8 a.1 ([a.2]:List Int)).bind λi=>
   (Qa5 x).bind λg=>
   some (Lp.go (i,wrap64 (a.2+g))))
  else (
   some (Lp.out a.1))) d (mk0 c j,((j*c:Nat):Int)))=some (mk0 c (cnt N c)):=by
  intro m
  induction m with
  | zero=>
    intro j d p f;have:¬ j*c<N:=λh=>by have:=(Qhk c1).2 h;omega
    rw[Wz (t:=mk0 c j) (by simp only[];rw[oo (show ¬((j*c:Nat):Int)<(N:Int) by omega),bifF]) om];rw[show j=cnt N c by omega]
  | succ m u=>
    intro j d p f;obtain⟨n'',rfl⟩:∃ n'',d=n''+1:=⟨d - 1,om⟩
    have r:=(Qhk (n:=N) (j:=j) c1).1 om;have q:=Quu (n:=N) c1
    rw[Qd6 (s':=(mk0 c (j+1),(((j+1)*c:Nat):Int))) (by
     simp only[]
     rw[oj (show((j*c:Nat):Int)<(N:Int) by omega),bifT,K0 (by rw[Qwm];simp;omega) (by rw[Qwm];simp;omega),sbind,Qo5,sbind,e,Q7n,w64 om om,ua,Int.natCast_add])]
    exact u (j+1) n'' om om
 have k:=key (cnt N c) 0 n om (by have:=Quu (n:=N) c1;unfold big at s;omega);rw[Nat.zero_mul] at k;rw[show(([]:List Int),(0:Int))=(mk0 c 0,((0:Nat):Int)) from rfl,k];rfl
def sgm(N c m:Nat):Qr:=⟨(m:Int),((min (m+c) N:Nat):Int)⟩
theorem Q5v{l:List Qr}{x:Qr}(h:l.length<=1000000):Wb l [x]=some (l++[x]):=by unfold Wb;rw[K0 oe oe,sbind]
theorem Q5w:J1 []=some (⟨0,0⟩,false,[]):=rfl
theorem Q35{l:List Qr}{x:Qr}(h:l.length<=1000000):J1 (l++[x])=some (x,true,l):=by
 unfold J1 Xq;simp only[jn_eq];have a:=Q34 (l:=l) (x:=x) om;have e:wrap64 (((l++[x]).length:Int) - 1)=((l.length:Nat):Int):=by simp only[xk,ow,yx];rw[w64 om om];omega
 rw[oo (show ¬((l++[x]).length:Int)=0 by simp;omega),bifF,a,sbind,sbind,bifT,sbind,e];have d:List.set (l++[x]) (Int.toNat ((l.length:Nat):Int)) (⟨0,0⟩:Qr)=l++[⟨0,0⟩]:=by rw[yz,List.set_append_right _ _ (xd _),wx,List.set_cons_zero]
 rw[d,Q5s om,sbind,sbind,sbind]
theorem Qpv{n N:Nat}{x:Int}(A:big<=n)(B:N<=200):Qaj n (N:Int) x=some ((mrk N (cutI x)).reverse.map (sgm N (cutI x))):=by
 obtain⟨c1,E⟩:=cut_b x;unfold Qaj;rw[Qo6 A B,sbind];have v:(mrk N (cutI x)).length<=200:=by rw[Qlc];have:=Quu (n:=N) c1;omega
 have q:∀ m∈mrk N (cutI x),m<N:=λm d=>by obtain⟨_,_,_,h⟩:=Qwl c1 d;exact h
 generalize p:cutI x=c at *;generalize mrk N c=ms at *;rw[X8 (s:=([]:List Qr)) (F:=λi=>(ms.take i).map (sgm N c)) (iL ms) (λi y f=>?_) rfl,Wi]
 rotate_left
 . unfold iL at f
   rw[xy] at f;cases d:ms[i]? with
   | none=>rw[d] at f;cases f
   | some m=>
     rw[d] at f;cases f;have w:=q m (yb d);have hi:=(gz.1 d).1;simp only[];rw[Qo5,sbind,p,sbind,w64 om om,Q5v oe,sbind,uo,d,xu];simp only[Option.toList_some,xp,List.map_nil,sgm];rw[show min ((m:Int)+(c:Int)) (N:Int)=((min (m+c) N:Nat):Int) by omega]
 have eT:(ms.take (iL ms).length).map (sgm N c)=(ms.map (sgm N c)):=by rw[show(iL ms).length=ms.length by simp[iL],yr]
 rw[eT]
 have key:∀(ys out:List Qr) (g:Nat),ys.length<g->ys.length+out.length<=200->∃ r,J1 ys.reverse=some r/\(loopM (λ(a:(List Qr)×(List Qr)×Qr×Bool)=>
  bif a.2.2.2 then (
   (appM 16 a.2.1 ([a.2.2.1]:List Qr)).bind λu=>
   (J1 a.1).bind λe=>
   some (Lp.go (e.2.2,u,e.1,e.2.1)))
  else (
   some (Lp.out a.2.1))) g (r.2.2,out,r.1,r.2.1))=some (out++ys):=by
  intro ys
  induction ys with
  | nil=>
    intro out g j _;exact⟨_,Q5w,by rw[Wz (t:=out) rfl om,yj]⟩
  | cons y ys C=>
    intro out g j v;simp only[ow] at j v;obtain⟨n'',rfl⟩:∃ n'',g=n''+1:=⟨g - 1,om⟩
    rw[List.reverse_cons];refine⟨_,Q35 oe,?_⟩;obtain⟨r,k,l⟩:=C (out++[y]) n'' om oe;rw[Qd6 (s':=(r.2.2,out++[y],r.1,r.2.1)) (by simp only[];rw[bifT,K0 oe oe,sbind,k,sbind]),l,xb];rfl
 obtain⟨r,k,l⟩:=key (ms.map (sgm N c)).reverse [] n (by simp;unfold big at A;omega) oe;rw[List.reverse_reverse] at k;rw[k,sbind,l,sbind,yp,List.map_reverse]
def val:List Nat->Nat
 | []=>0
 | x::a=>x+4294967296*val a
def bp(k:Nat):Nat:=4294967296 ^ k
theorem Zg:bp 0=1:=by unfold bp;rw[Nat.pow_zero]
theorem We(k:Nat):bp (k+1)=bp k*4294967296:=by unfold bp;rw[Nat.pow_succ]
theorem bp_le{j k:Nat}(h:j<=k):bp j<=bp k:=by unfold bp;exact wk oy h
theorem Q5x(k:Nat):0<bp k:=by unfold bp;exact Nat.pow_pos oy
theorem Jbp(j k:Nat):bp (j+k)=bp j*bp k:=by unfold bp;rw[Nat.pow_add]
def Wd(a:List Nat):Prop:=∀ x∈a,x<4294967296
def trimZ:List Nat->List Nat
 | []=>[]
 | x::a=>if trimZ a=[]/\x=0 then [] else x::trimZ a
def toL(n:Nat):List Nat:=if n=0 then [] else n%4294967296::toL (n / 4294967296)
termination_by n
decreasing_by omega
theorem X0:Wd []:=λ_ h=>by cases h
theorem Kv{x a}:Wd (x::a)↔x<4294967296/\Wd a:=by simp[Wd]
theorem Kk{a b}:Wd (a++b)↔Wd a/\Wd b:=by constructor;intro h;exact⟨λx d=>h x (List.mem_append_left _ d),λx d=>h x (List.mem_append_right _ d)⟩;rintro⟨e,f⟩ x d;rcases xw.1 d with h | h;exact e x h;exact f x h
theorem Qn3{a k}(h:Wd a):Wd (a.take k):=λx d=>h x (yd d)
theorem Qld{a k}(h:Wd a):Wd (a.drop k):=λx d=>h x (ve d)
theorem Quv{k x}(h:x<4294967296):Wd (List.replicate k x):=λy a=>by rw[(gj.1 a).2];exact h
theorem Qaz{a:List Nat}(h:Wd a){i:Nat}(hi:i<a.length):a[i]<4294967296:=h _ (wb hi)
theorem Wj:toL 0=[]:=by rw[toL];rfl
theorem Zu{n:Nat}(h:n≠0):toL n=n%4294967296::toL (n / 4294967296):=by rw[toL];rw[oh h]
theorem Jh(n:Nat):val (toL n)=n:=by
 induction n using Nat.strongRecOn with
 | _ n a=>
   by_cases h:n=0;subst h;rw[Wj];rfl;rw[Zu h];simp only[val];rw[a (n / 4294967296) om];omega
theorem Kc(n:Nat):Wd (toL n):=by
 induction n using Nat.strongRecOn with
 | _ n a=>
   by_cases h:n=0;subst h;rw[Wj];exact X0;rw[Zu h];exact Kv.2 ⟨om,a (n / 4294967296) om⟩
theorem K3{a:List Nat}(h:Wd a):toL (val a)=trimZ a:=by
 induction a with
 | nil=>simp[val,Wj,trimZ]
 | cons x a d=>
   obtain⟨j,i⟩:=Kv.1 h;have d:=d i;simp only[val,trimZ];by_cases g:val a=0;rw[g,Wj] at d;rw[<-d,g];by_cases e:x=0;subst e;simp[Wj];rw[oh (λh=>e h.2),Zu om];rw[show(x+4294967296*0)%4294967296=x by omega,show(x+4294967296*0) / 4294967296=0 by omega,Wj];have f:trimZ a≠[]:=by rw[<-d,Zu g];simp
   rw[oh (λh=>f h.1),Zu om,show(x+4294967296*val a)%4294967296=x by omega,show(x+4294967296*val a) / 4294967296=val a by omega,d]
theorem Q5y(a:List Nat):val (trimZ a)=val a:=by
 induction a with
 | nil=>rfl
 | cons x a d=>
   simp only[trimZ];split;rename_i h;rw[h.1] at d;simp[val] at d |-;omega;simp[val,d]
theorem Y3(a:List Nat):(trimZ a).length<=a.length:=by
 induction a with
 | nil=>simp[trimZ]
 | cons x a d=>simp only[trimZ];split<;>simp;omega
theorem Qxs{a:List Nat}(h:trimZ a=[]):val a=0:=by rw[<-Q5y,h];rfl
theorem Q0k{a:List Nat}(h:Wd a):trimZ a=[]↔val a=0:=by constructor;exact Qxs;intro d;rw[<-K3 h,d,Wj]
theorem Q5z(n:Nat):trimZ (toL n)=toL n:=by rw[<-K3 (Kc n),Jh]
theorem Qsw(a:List Nat):trimZ (a++[0])=trimZ a:=by
 induction a with
 | nil=>simp[trimZ]
 | cons x a d=>simp only[yv,trimZ,d]
theorem Q36(a:List Nat){x:Nat}(h:x≠0):trimZ (a++[x])=a++[x]:=by
 induction a with
 | nil=>simp[trimZ,h]
 | cons y a d=>simp only[yv,trimZ,d];rw[oh oa]
theorem X1(a b:List Nat):val (a++b)=val a+bp a.length*val b:=by
 induction a with
 | nil=>simp[val,Zg]
 | cons x a d=>simp only[yv,val,d,ow,We];rw[wg,<-Nat.mul_assoc,wd 4294967296 (bp a.length)];omega
theorem Yk{a:List Nat}(h:Wd a):val a<bp a.length:=by
 induction a with
 | nil=>simp[val,Zg]
 | cons x a e=>
   obtain⟨f,d⟩:=Kv.1 h;have:=e d;simp only[val,ow,We];omega
theorem Qo7(k:Nat):val (List.replicate k 0)=0:=by
 induction k with
 | zero=>rfl
 | succ k a=>simp[ug,val,a]
theorem Ye{n k:Nat}(h:n<bp k):(toL n).length<=k:=by
 induction k generalizing n with
 | zero=>rw[Zg] at h;obtain rfl:n=0:=om
         simp[Wj]
 | succ k a=>
   by_cases h0:n=0;subst h0;simp[Wj];rw[Zu h0,ow];have:=@a (n / 4294967296) (by rw[We] at h;exact ga (by rw[wd];exact h));omega
theorem Ya{α:Type}{a:List α}{k:Nat}(h:k<a.length):a.take (k+1)=a.take k++[a[k]]:=by simp[]
theorem W9{n:Nat}{a:List Nat}(f:big<=n)(g:a.length<=4611686018427387904):Xo n a=some (trimZ a):=by
 unfold Xo;unfold big at f;refine Qgf (λs=>s.toNat) (λs=>∃ k:Nat,s=k/\k<=a.length/\trimZ a=trimZ (a.take k)) (λt=>∃ k:Nat,t=k/\k<=a.length/\trimZ a=a.take k) ⟨a.length,rfl,xd _,oa⟩ oe ?_ ?_;rintro s ⟨k,rfl,hk,d⟩;simp only[jn_eq,bifd];by_cases h0:0<k;obtain⟨j,rfl⟩:∃ j,k=j+1:=⟨k - 1,om⟩
 rw[oi om,w64 om om,show((j+1:Nat):Int) - 1=(j:Nat) by omega,Qeo (show j<a.length by omega),sbind];rw[Ya (show j<a.length by omega)] at d;by_cases e:a[j]=0;left;refine⟨(j:Nat),by simp[e],⟨j,rfl,om,?_⟩,om⟩;rw[d,e,Qsw];right;refine⟨((j+1:Nat):Int),by simp[e],j+1,rfl,hk,?_⟩;rw[d,Ya (show j<a.length by omega),Q36 _ e];right;obtain rfl:k=0:=om
 exact⟨0,oa,0,rfl,xo _,by rw[d];simp[trimZ]⟩;rintro t ⟨k,rfl,hk,d⟩;rw[Qtj hk,sbind,d]
theorem Q7o{a:List Nat}{k:Nat}:cpyL (List.replicate (a.length+k) 0) a=a++List.replicate k 0:=by unfold cpyL;rw[yf,xe om,List.drop_replicate,ge]
theorem Qjp{a:List Nat}{k:Nat}(h:a.length+k<=35184372088832):Qc4 a (k:Int)=some (a++List.replicate k 0):=by unfold Qc4;rw[w64 om om,show((a.length:Int)+(k:Int))=((a.length+k:Nat):Int) by omega,Qhj om om,sbind,Q7o]
theorem Wf{n:Nat}{a:List Nat}(d:big<=n)(e:a.length<=35184372088832):Vu n a=some (trimZ a):=by unfold Vu;have f:=Y3 a;rw[W9 d om,sbind,show(0:Int)=((0:Nat):Int) by rfl,Qjp om,sbind];simp
theorem Qkt{n:Nat}{a:List Nat}(e:big<=n)(d:a.length<=4611686018427387904)(f:Wd a):Qed n a=some (decide (val a=0)):=by unfold Qed;rw[W9 e d,sbind];congr 1;rw[Bool.eq_iff_iff];simp only[decide_eq_true_eq];rw[<-Q0k f];constructor;intro h;exact xm om;intro h;rw[h];rfl
theorem Qtm{x y c d:Nat}(e:x<4294967296)(f:y<4294967296)(a:c<4294967296)(hd:d<4294967296):x*y+c+d<18446744073709551616:=by have:x*y<=4294967295*4294967295:=ww om om;omega
theorem Qku{x y c d:Nat}(e:x<4294967296)(f:y<4294967296)(a:c<4294967296)(hd:d<4294967296):
 Qa2 x y c d=some ((x*y+c+d) / 4294967296,(x*y+c+d)%4294967296):=by
 have h:=Qtm e f a hd;unfold Qa2;rw[ym (show x*y<18446744073709551616 by omega),ym (show x*y+c<18446744073709551616 by omega),ym h,sbind];rw[show(2:Nat) ^ 32=4294967296 by rfl,ym (show(x*y+c+d) / 4294967296<4294967296 by omega)]
theorem Qwn{x y:Nat}(a:y<4294967296):x*4294967296 ||| y=x*4294967296+y:=by have:=Nat.two_pow_add_eq_or_of_lt (i:=32) (b:=y) (by simpa using a) x;rw[show(2:Nat) ^ 32=4294967296 by rfl,wd] at this;exact this.symm
theorem Qpw{h l y:Nat}(f:h<y)(d:l<4294967296)(g:y<4294967296):
 Qci h l y=some ((h*4294967296+l) / y,(h*4294967296+l)%y,true):=by
 unfold Qci;rw[bifd,oh om,grd_t oe,sbind,sbind];rw[show(2:Nat) ^ 32=4294967296 by rfl,ym (show h*4294967296<18446744073709551616 by omega),Qwn d]
 have a:(h*4294967296+l) / y<4294967296:=ga (by
  have:h*4294967296+4294967296<=y*4294967296:=om
  omega)
 have e:(h*4294967296+l)%y<y:=uq _ om;rw[ym a,ym (show(h*4294967296+l)%y<4294967296 by omega)]
theorem Q9e{α:Type}(p:List α)(y:α)(r:List α):(p++y::r)[p.length]?=some y:=oa
theorem Q9f{α:Type}(p:List α)(y z:α)(r:List α):(p++y::r).set p.length z=p++z::r:=oa
theorem Wq{α:Type}{k:Nat}{p:List α}{y:α}{r:List α}(h:p.length=k):getI (p++y::r) (k:Int)=some y:=by rw[Qge,<-h,Q9e]
theorem Zd{α:Type}{k:Nat}{p:List α}{y z:α}{r:List α}(h:p.length=k):(p++y::r).set (k:Int).toNat z=p++z::r:=by rw[yz,<-h,Q9f]
theorem V5(a:List Nat)(x:Nat):val (a++[x])=val a+bp a.length*x:=by rw[X1];simp[val]
theorem Q50{α:Type}{l:List α}{k:Nat}(h:k<l.length):l=l.take k++l[k]::l.drop (k+1):=oa
theorem Q7p(P x y m a u v V M A c:Nat)(e:4294967296*u+v=x*y+m+a)(d:V+P*a=M+x*A+c):V+P*v+P*4294967296*u=M+P*m+x*(A+P*y)+c:=by grind
theorem Qyt{p m q a:List Nat}{z x c:Nat}(I:m.length=a.length)(J:p.length+m.length+1+q.length<=4611686018427387904)(C:Wd m)(B:Wd a)(F:x<4294967296)(H:c<4294967296):
 ∃ r,Qcg (p++m++z::q) (p.length:Int) a x c=some (p++r++q)/\r.length=a.length+1/\Wd r/\val r=val m+x*val a+c:=by
 have key:∃ r,Qcg (p++m++z::q) (p.length:Int) a x c=some r/\∃ l,r=p++l++q/\l.length=a.length+1/\Wd l/\val l=val m+x*val a+c:=by
  unfold Qcg;refine Qnk (λj (s:List Nat×Nat)=>∃ e,s.1=p++e++(m.drop j++z::q)/\e.length=j/\j<=a.length/\Wd e/\s.2<4294967296/\val e+bp j*s.2=val (m.take j)+x*val (a.take j)+c) ⟨[],oa,rfl,xo _,X0,H,by simp[val,Zg]⟩ ?_ ?_;rintro j y ⟨o,w⟩ E ⟨e,f,g,A,n,d,t⟩;simp only at f d t;subst f;have i:j<a.length:=by rcases xc j a.length with h | h;exact h;simp[xn h] at E
  have G:a[j]=y:=by simpa [i] using E
  have v:y<4294967296:=by rw[<-G];exact Qaz B i
  have k:j<m.length:=om
  have u:m[j]<4294967296:=Qaz C k;rw[w64 om om,show((p.length:Int)+(j:Int))=((p.length+j:Nat):Int) by omega,xh k,yv];rw[Wq oe,sbind,Qku F v u d,sbind,sbind,Zd oe];refine⟨_,rfl,e++[(x*y+m[j]+w)%4294967296],oa,by simp[g],om,Kk.2 ⟨n,Kv.2 ⟨om,X0⟩⟩,by have:=Qtm F v u d;simp only[];omega,?_⟩;rw[Ya k,Ya i,V5,V5,V5,G,g,xg,xg,ya om,ya om,We];exact Q7p _ _ _ _ _ _ _ _ _ _ _ (vm (x*y+m[j]+w) 4294967296) t;rintro⟨o,w⟩ ⟨e,f,g,A,n,d,t⟩;simp only at f d t;subst f;simp only[Wi];rw[w64 om om,show((p.length:Int)+(a.length:Int))=((p.length+a.length:Nat):Int) by omega,xv om,yp];rw[Wq oe,sbind,Zd oe];refine⟨_,rfl,e++[w],oa,by simp[g],Kk.2 ⟨n,Kv.2 ⟨d,X0⟩⟩,?_⟩;rw[V5,g,t,xe om,xe (xd _)]
 obtain⟨r,f,l,g,A,n,d⟩:=key;exact⟨l,by rw[f,g],A,n,d⟩
theorem Qdb{n x:Nat}(d:big<=n)(e:x<18446744073709551616):Za n x=some (toL x):=by
 unfold Za
 rw[show(2:Nat) ^ 32=4294967296 by rfl,W9 d oa,sbind,<-K3 (by
  intro y a;simp only[xj,List.not_mem_nil,or_false] at a
  rcases a with rfl | rfl<;>omega)]
 congr 2;simp only[val];omega
theorem Q7q(P q a r x s y d:Nat)(e:x*q+a=r*P+y)(h:d=x*s+r):y+P*d=x*(q+P*s)+a:=by grind
theorem Qwo{n:Nat}{a:List Nat}{x:Nat}(y:big<=n)(C:a.length<35184372088832)(A:Wd a)(v:x≠0)(B:x<4294967296):Qg7 n a x=some (toL (val a / x),val a%x,true):=by
 unfold Qg7;unfold big at y;rw[bifd,oh v,Qhj om om,sbind]
 refine Qgf (λs=>(s.2.2+1).toNat) (λs=>∃(k:Nat) (e:List Nat),s.2.2=(k:Int) - 1/\k<=a.length/\s.1=List.replicate k 0++e/\e.length=a.length - k/\Wd e/\s.2.1<x/\val (a.drop k)=x*val e+s.2.1)
  (λt=>t.1.length=a.length/\Wd t.1/\t.2<x/\val a=x*val t.1+t.2) ⟨a.length,[],by simp only[];rw[w64 om om],xd _,oa,oa,X0,by simp only[];omega,by simp[val]⟩ (by simp only[];rw[w64 om om];omega) ?_ ?_
 rintro⟨q,r,i⟩ ⟨k,e,f,m,d,g,w,p,u⟩;simp only at f d p u;subst f d;simp only[bifd];by_cases h0:0<k;obtain⟨j,rfl⟩:∃ j,k=j+1:=⟨k - 1,om⟩
 have l:j<a.length:=om
 left;rw[oi om,show((j+1:Nat):Int) - 1=(j:Nat) by omega,Qeo l,sbind,Qpw p (Qaz A l) B,sbind];simp only[];rw[List.replicate_succ',xb,List.singleton_append,Wq oa,sbind,Zd oa,w64 om om];refine⟨_,rfl,⟨j,((r*4294967296+a[j]) / x)::e,rfl,om,rfl,oe,Kv.2 ⟨?_,w⟩,uq _ om,?_⟩,by simp only[];omega⟩;have:=Qaz A l
 exact ga (by
  have:r*4294967296+4294967296<=x*4294967296:=om
  omega)
 rw[xh l];simp only[val];exact Q7q 4294967296 _ _ _ _ _ _ _ (vm (r*4294967296+a[j]) x) u;right;obtain rfl:k=0:=om
 rw[oh om];exact⟨_,rfl,by simp at g |-;omega,by simpa using w,p,by simpa using u⟩;rintro⟨q,r⟩ ⟨f,m,d,g⟩;simp only at f m d g;simp only[];rw[Wf (by unfold big;exact y) om,sbind,<-K3 m,g,Nat.mul_add_div om,Nat.mul_add_mod,gm d,ym d,xf]
theorem Qwp{a:List Nat}(h:Wd a)(i:Nat):a.getD i 0<4294967296:=by rw[oq];by_cases hi:i<a.length;simp[hi];exact Qaz h hi;simp[xn (show a.length<=i by omega)]
theorem Y9(a:List Nat)(k:Nat):val (a.take (k+1))=val (a.take k)+bp k*a.getD k 0:=by by_cases h:k<a.length;rw[Ya h,V5,xg,ya om];simp[h];rw[xe om,xe om];simp[xn (show a.length<=k by omega)]
def cmpI(x y:Nat):Int:=if x<y then -1 else if y<x then 1 else 0
theorem Q9g{n:Nat}(h:n≠0):bp ((toL n).length - 1)<=n:=by
 induction n using Nat.strongRecOn with
 | _ n g=>
   rw[Zu h,ow,Nat.add_sub_cancel];by_cases a:n / 4294967296=0;rw[a,Wj,yx,Zg];omega;have:=g (n / 4294967296) om a;have i:(toL (n / 4294967296)).length≠0:=by rw[Zu a];simp
   obtain⟨m,d⟩:∃ m,(toL (n / 4294967296)).length=m+1:=⟨(toL (n / 4294967296)).length - 1,om⟩
   rw[d,Nat.add_sub_cancel] at this;rw[d,We];have e:bp m*4294967296<=n / 4294967296*4294967296:=xq _ this;have f:n / 4294967296*4294967296<=n:=Nat.div_mul_le_self _ _;exact xx e f
theorem Quw{m n:Nat}(h:(toL m).length<(toL n).length):m<n:=by
 have a:=Yk (Kc m);rw[Jh] at a;have f:n≠0:=by rintro rfl;rw[Wj] at h;simp at h
 have d:=Q9g f;have e:bp (toL m).length<=bp ((toL n).length - 1):=bp_le om;exact xi a (xx e d)
theorem Q0l(a:List Nat)(k:Nat):val a=val (a.take k)+bp (a.take k).length*val (a.drop k):=by
 conv=>lhs;rw[<-ud k a]
 rw[X1]
theorem Q7r{P x y u v A:Nat}(f:A<P)(a:x<y)(d:u=A+P*x)(e:P*y<=v):u<v:=by have:P*(x+1)<=P*y:=ui _ a;rw[wg] at this;omega
theorem Q2l{a b:List Nat}{j:Nat}(i:Wd a)(l:j<a.length)(d:j<b.length)(m:a.drop (j+1)=b.drop (j+1))(h:a[j]<b[j]):val a<val b:=by have e:=Q0l a (j+1);have f:=Q0l b (j+1);rw[xg,ya om] at e f;rw[e,f,m];refine Nat.add_lt_add_right ?_ _;rw[Ya l,Ya d,V5,V5,xg,xg,ya om,ya om];have g:=Yk (Qn3 (k:=j) i);rw[xg,ya om] at g;exact Q7r g h rfl (Nat.le_add_left _ _)
theorem Qgg{n:Nat}{a b:List Nat}(r:big<=n)(w:a.length<=4611686018427387904)(hb:b.length<=4611686018427387904)(g:Wd a)(u:Wd b):Qch n a b=some (cmpI (val a) (val b)):=by
 unfold Qch;rw[W9 r w,sbind,W9 r hb,sbind,<-K3 g,<-K3 u];have C:(toL (val a)).length<=4611686018427387904:=by rw[K3 g];exact xx (Y3 a) w
 have e:=Jh (val a);have f:=Jh (val b);have i:=Kc (val a);have l:=Kc (val b);have l1:=@Quw (val a) (val b);have A:=@Quw (val b) (val a);generalize val a=x at *;generalize val b=y at *;generalize toL x=a' at *;generalize toL y=b' at *;unfold big at r;rw[bifd,bifd];by_cases B:a'.length<b'.length;rw[oi om,cmpI,oi (l1 B)];rw[oh om];by_cases v:b'.length<a'.length;rw[oi om,cmpI,oh (by have:=A v;omega),oi (A v)];rw[oh om,w64 om om];refine Qgf (λs=>(s+1).toNat) (λs=>∃ k:Nat,s=(k:Int) - 1/\k<=a'.length/\a'.drop k=b'.drop k) (λt=>(t=.go ()/\a'=b')\/(t=.out (-1)/\x<y)\/(t=.out 1/\y<x)) ⟨a'.length,rfl,xd _,by rw[xv (xd _),xv om]⟩ om ?_ ?_;rintro s ⟨k,rfl,hk,p⟩;simp only[bifd];by_cases h0:0<k;obtain⟨j,rfl⟩:∃ j,k=j+1:=⟨k - 1,om⟩
 have m:j<a'.length:=om
 have d:j<b'.length:=om
 rw[oi om,show((j+1:Nat):Int) - 1=(j:Nat) by omega,Qeo m,sbind,Qeo d,sbind];by_cases g1:a'[j]<b'[j];right;rw[oi g1];refine⟨_,rfl,.inr (.inl ⟨rfl,?_⟩)⟩;rw[<-e,<-f];exact Q2l i m d p g1;rw[oh g1,sbind,sbind];by_cases q:b'[j]<a'[j];right;rw[oi q];refine⟨_,rfl,.inr (.inr ⟨rfl,?_⟩)⟩;rw[<-e,<-f];exact Q2l l d m p.symm q;left;rw[oh q,w64 om om];refine⟨_,rfl,⟨j,rfl,om,?_⟩,om⟩;rw[xh m,xh d,p,show a'[j]=b'[j] by omega];right;obtain rfl:k=0:=om
 rw[oh om];exact⟨_,rfl,.inl ⟨rfl,by simpa using p⟩⟩;rintro t (⟨rfl,h⟩ | ⟨rfl,h⟩ | ⟨rfl,h⟩);rw[Wi];have:x=y:=by rw[<-e,<-f,h]
 simp[cmpI,this];rw[Qfc,cmpI,oi h];rw[Qfc,cmpI,oh om,oi h]
theorem Q51{v:Nat}(h:v<18446744073709551616):toL v=[]\/(∃ x,toL v=[x]/\x=v)\/(∃ x y,toL v=[x,y]/\x<4294967296/\y<4294967296/\x+4294967296*y=v):=by
 have f:=Ye (n:=v) (k:=2) (by rw[We,We,Zg];omega);have a:=Jh v;have d:=Kc v
 match e:toL v,f with
 | [],_=>exact .inl rfl
 | [x],_=>rw[e] at a;simp[val] at a;exact .inr (.inl ⟨x,rfl,a⟩)
 | [x,y],_=>
   rw[e] at a d;simp[val] at a;exact .inr (.inr ⟨x,y,rfl,(Kv.1 d).1,(Kv.1 (Kv.1 d).2).1,om⟩)
 | _::_::_::_,h=>simp at h
theorem Q2m{v:Nat}(h:18446744073709551616<=v):2<(toL v).length:=by rcases xc 2 (toL v).length with a | a;exact a;have d:=Yk (Kc v);rw[Jh] at d;have e:=bp_le a;rw[We,We,Zg] at e;omega
theorem Qn4{n:Nat}{a:List Nat}(e:big<=n)(d:a.length<=4611686018427387904)(f:Wd a):Qe6 n a=some (if val a<18446744073709551616 then (val a,true) else (0,false)):=by unfold Qe6;rw[W9 e d,sbind,<-K3 f,bifd];by_cases h:val a<18446744073709551616;rw[oi h];rcases Q51 h with h1 | ⟨x,h1,h2⟩ | ⟨x,y,h1,h2,h3,h4⟩;have:=Jh (val a);rw[h1] at this |-;rw[oh oy];simp only[val] at this;simp only[rangeL,sbind,Wi,<-this];rw[h1,oh oa];simp only[rangeL];rw[w64 om om,grd_t oy,sbind,sbind,sbind,sbind];simp only[Wi];subst h2;simp;omega;rw[h1,oh oa];simp only[rangeL];rw[w64 (x:=32*((0:Nat):Int)) om om,grd_t oy,sbind,sbind,sbind,w64 om om,grd_t oy];simp only[sbind,Wi];rw[show(2:Nat) ^ min (Int.toNat (32*((0:Nat):Int))) 64=1 by rfl,show(2:Nat) ^ min (Int.toNat (32*((0+1:Nat):Int))) 64=4294967296 by rfl,Nat.mul_one,ym (show x<18446744073709551616 by omega),ym (show y*4294967296<18446744073709551616 by omega),Nat.zero_or,Nat.or_comm,Qwn h2];congr 2;omega;rw[oh h];have:=Q2m (v:=val a) om;rw[oi om]
theorem Qhr{x y c:Nat}(d:x<4294967296)(e:y<4294967296)(a:c<4294967296):
 Yb x y c=some ((x+y+c)%4294967296,(x+y+c) / 4294967296):=by
 unfold Yb;simp only[jn_eq,bifd];split<;>split<;>congr 1<;>refine Prod.ext ?_ ?_<;>simp only[]<;>omega
theorem Qkv{x y c:Nat}(e:x<4294967296)(f:y<4294967296)(a:c<=1):
 ∃ d b,Qef x y c=some (d,b)/\d<4294967296/\b<=1/\d+y+c=x+4294967296*b:=by
 unfold Qef;simp only[jn_eq,bifd,sbind];split<;>split<;>refine⟨_,_,rfl,?_,?_,?_⟩<;>omega
theorem Q52(P s x y u v V A C:Nat)(e:4294967296*u+v=x+y+s)(h:V+P*s=A+C):V+P*v+P*4294967296*u=A+P*x+(C+P*y):=by grind
theorem Q2n{k:Nat}{b:List Nat}{β:Type}(f:Nat->Option β):(if (k:Int)<(b.length:Int) then (getI b (k:Int)).bind f else f 0)=f (b.getD k 0):=by by_cases h:k<b.length;rw[oi om,Qeo h,sbind];simp[h];rw[oh om];simp[xn (show b.length<=k by omega)]
theorem Q2o{n:Nat}{a b:List Nat}(x:big<=n)(A:a.length<17592186044416)(w:b.length<=a.length)(q:Wd a)(k:Wd b):Qee n a b=some (toL (val a+val b)):=by
 unfold Qee;simp only[jn_eq,bifd];rw[oh om];rw[show(1:Int)=((1:Nat):Int) by rfl,Qjp om,sbind];refine Qi6 (λj (s:List Nat×Nat)=>∃ f,s.1=f++(List.drop j a++[0])/\f.length=j/\j<=a.length/\Wd f/\s.2<=1/\val f+bp j*s.2=val (a.take j)+val (b.take j)) ⟨[],oa,rfl,xo _,X0,oa,by simp[val,Zg]⟩ ?_ ?_;rintro j y ⟨o,l⟩ t ⟨f,g,e,v,m,p,i⟩;simp only at g p i;subst g;have d:j<a.length:=by
  rcases xc j a.length with h | h;exact h;simp[xn h] at t
 have u:a[j]=y:=by simpa [d] using t
 have r:y<4294967296:=by rw[<-u];exact Qaz q d
 rw[Q2n,Qhr r (Qwp k j) (by simp only[];omega),sbind,xh d,yv,Wq e,sbind,Zd e];refine⟨_,rfl,f++[(y+b.getD j 0+l)%4294967296],oa,by simp[e],om,Kk.2 ⟨m,Kv.2 ⟨om,X0⟩⟩,?_,?_⟩;have:=Qwp k j;simp only[];omega;rw[Y9,Y9,V5,e,We];rw[show a.getD j 0=y by rw[<-u];simp[d]];exact Q52 _ _ _ _ _ _ _ _ _ (vm (y+b.getD j 0+l) 4294967296) i;rintro⟨o,l⟩ ⟨f,g,e,v,m,p,i⟩;simp only at g p i;subst g;simp only[Wi];rw[xv (xd _),yp,Wq e,sbind,Zd e,W9 x oe,sbind,<-K3 (Kk.2 ⟨m,Kv.2 ⟨om,X0⟩⟩),V5,e,i,xe (xd _),xe w]
theorem Qpx{n:Nat}{a b:List Nat}(f:big<=n)(g:a.length<17592186044416)(hb:b.length<17592186044416)(d:Wd a)(e:Wd b):Qee n a b=some (toL (val a+val b)):=by by_cases i:b.length<=a.length;exact Q2o f g i d e;rw[Nat.add_comm,<-Q2o f hb om e d];unfold Qee;simp only[jn_eq,bifd];rw[oi om,oh om]
theorem Q0m{n:Nat}{a b:List Nat}(f:big<=n)(j:a.length<17592186044410)(hb:b.length<17592186044410)(d:Wd a)(e:Wd b):Qfp n [a,b]=some (toL (val a+val b)):=by unfold Qfp;have g:=Qpx (a:=[]) (b:=toL (val a)) f oa (by have:=Y3 a;rw[K3 d];omega) X0 (Kc _);have i:=Qpx (a:=toL (val a)) (b:=toL (val b)) f (by have:=Y3 a;rw[K3 d];omega) (by have:=Y3 b;rw[K3 e];omega) (Kc _) (Kc _);rw[Jh] at g i;rw[Jh] at i;simp only[val,xz] at g;simp only[rangeL,W9 f (show a.length<=4611686018427387904 by omega),W9 f (show b.length<=4611686018427387904 by omega),sbind,<-K3 d,<-K3 e,g,i,Wi]
theorem Qgs{α:Type}{l:List α}{i:Nat}{x:α}(h:l[i]?=some x):i<l.length:=by rcases xc i l.length with a | a;exact a;rw[xn a] at h;cases h
theorem Wl{x y:Nat}(h:x<=y):(toL x).length<=(toL y).length:=by refine Ye ?_;have:=Yk (Kc y);rw[Jh] at this;omega
theorem Q7s(P c a x y d V A B:Nat)(e:d+y+c=x+4294967296*a)(h:V+B=A+P*c):V+P*d+(B+P*y)=A+P*x+P*4294967296*a:=by grind
theorem Qq9{n:Nat}{a b:List Nat}(A:big<=n)(L:a.length<17592186044416)(hb:b.length<17592186044416)(m:Wd a)(q:Wd b):
 Qj6 n a b=some (if val a<val b then ([],false) else (toL (val a - val b),true)):=by
 unfold Qj6;have M:(toL (val a)).length<17592186044416:=by rw[K3 m];exact ye (Y3 a) L
 have N:(toL (val b)).length<17592186044416:=by rw[K3 q];exact ye (Y3 b) hb
 rw[W9 A om,sbind,W9 A om,sbind,<-K3 m,<-K3 q,Qgg A om om (Kc _) (Kc _),sbind,Jh,Jh];have C:=Jh (val a);have E:=Jh (val b);have p:=Kc (val a);have r:=Kc (val b);have B:=λh=>Wl (x:=val b) (y:=val a) h;generalize val a=x at *;generalize val b=y at *;generalize toL x=a' at *;generalize toL y=b' at *;rw[bifd];by_cases f:x<y;rw[oi (by rw[cmpI,oi f];decide),oi f];rw[oh (by rw[cmpI,oh f];split<;>decide),oh f];have B:=B om;simp only[jn_eq,bifd];rw[show(0:Int)=((0:Nat):Int) by rfl,Qjp om,sbind];refine Qi6 (λj (s:List Nat×Nat)=>∃ g,s.1=g++List.drop j a'/\g.length=j/\j<=a'.length/\Wd g/\s.2<=1/\val g+val (b'.take j)=val (a'.take j)+bp j*s.2) ⟨[],oa,rfl,xo _,X0,oa,by simp[val]⟩ ?_ ?_;rintro j w ⟨o,t⟩ G ⟨g,l,i,J,u,v,k⟩;simp only at l v k;subst l;have e:j<a'.length:=Qgs G;have H:a'[j]=w:=by simpa [e] using G
 have F:w<4294967296:=by rw[<-H];exact Qaz p e
 obtain⟨d,O,g1,I,g3,g4⟩:=Qkv F (Qwp r j) v;rw[Q2n,g1,sbind,xh e,Wq i,sbind,Zd i];refine⟨_,rfl,g++[d],oa,by simp[i],om,Kk.2 ⟨u,Kv.2 ⟨I,X0⟩⟩,g3,?_⟩;rw[Y9,Y9,V5,i,We];rw[show a'.getD j 0=w by rw[<-H];simp[e]];exact Q7s _ _ _ _ _ _ _ _ _ g4 k;rintro⟨o,t⟩ ⟨g,l,i,J,u,v,k⟩;simp only at l v k;subst l;simp only[Wi];rw[xe (xd _),xe B,C,E] at k;rw[xv (xd _),yj,W9 A om,sbind,<-K3 u];have K:t=0:=by
  have g1:=Yk u;rw[i] at g1;rcases gn t with h | h;exact h;have P:bp a'.length*1<=bp a'.length*t:=ui _ h;omega
 subst K;rw[vt] at k;congr 3;omega
theorem Q0n{n:Nat}{a b:List Nat}(f:big<=n)(g:a.length<17592186044416)(hb:b.length<17592186044416)(d:Wd a)(e:Wd b):
 Qj7 n a b=some (toL (val a - val b+(val b - val a)),cmpI (val a) (val b)):=by
 unfold Qj7;rw[Qgg f om om d e,sbind];simp only[jn_eq,bifd];by_cases h:val a<val b;rw[oi (by rw[cmpI,oi h];decide),Qq9 f hb g e d,oh om,sbind];rw[show val a - val b+(val b - val a)=val b - val a by omega];rw[oh (by rw[cmpI,oh h];split<;>decide),Qq9 f g hb d e,oh h,sbind];rw[show val a - val b+(val b - val a)=val a - val b by omega]
def blen(x:Nat):Nat:=if x=0 then 0 else Nat.log2 x+1
theorem Qke:blen 0=0:=by unfold blen;rw[oi rfl]
theorem Q2p{x k:Nat}(a:2 ^ k<=x)(d:x<2 ^ (k+1)):blen x=k+1:=by
 have h0:x≠0:=by have:=vn k;omega
 unfold blen;rw[oh h0,(Nat.log2_eq_iff h0).2 ⟨a,d⟩]
theorem Qwq{x:Nat}:x<2 ^ blen x:=by unfold blen;by_cases h0:x=0;rw[oi h0,h0];decide;rw[oh h0];exact Nat.lt_log2_self
theorem Qn5{x:Nat}(h0:x≠0):2 ^ (blen x - 1)<=x:=by unfold blen;rw[oh h0];exact Nat.log2_self_le h0
theorem Qtn{x:Nat}(h0:x≠0):1<=blen x:=by unfold blen;rw[oh h0];omega
theorem Q0o{x w:Nat}(h:x / 2 ^ w≠0):blen x=blen (x / 2 ^ w)+w:=by
 have a:=Qn5 h;have d:=Qwq (x:=x / 2 ^ w);have e:=Qtn h;obtain⟨k,hk⟩:∃ k,blen (x / 2 ^ w)=k+1:=⟨_,(Nat.sub_add_cancel e).symm⟩
 rw[hk,Nat.add_sub_cancel] at a;rw[hk] at d |-;rw[show k+1+w=(k+w)+1 by omega];refine Q2p ?_ ?_;rw[Nat.pow_add];exact(Nat.le_div_iff_mul_le (vn w)).1 a;rw[show k+w+1=(k+1)+w by omega,Nat.pow_add];exact(gr (vn w)).1 d
theorem Qpy{n x:Nat}(m:big<=n)(p:x<4294967296):Qgn n x=some (blen x:Int):=by
 unfold Qgn;unfold big at m
 refine Qgf (λs=>s.2.2.toNat) (λs=>∃(w k B:Nat),s.2.2=w/\s.2.1=k/\(w,B)∈[(16,4294967296),(8,65536),(4,256),(2,16),(1,4),(0,2)]/\s.1<B/\k+2*w<=32/\blen x=k+blen s.1)
  (λt=>∃ k:Nat,t.2=k/\k<=32/\t.1<2/\blen x=k+blen t.1) ⟨16,0,4294967296,rfl,rfl,oy,p,oy,oa⟩ (by simp only[];omega) ?_ ?_
 rintro⟨y,c,w'⟩ ⟨w,k,B,d,i,e,a,q,f⟩;simp only at d i a f;subst d i;simp only[jn_eq,bifd,bifnd];by_cases h0:0<w;left;rw[oi om,grd_t oa,sbind,sbind,yz];have r:w<=16:=om
 have hd:Int.tdiv (w:Int) 2=((w / 2:Nat):Int):=oz
 rw[hd,ya om,w64 (x:=((w / 2:Nat):Int)) om om,w64 om om];have l:∃ B',(w / 2,B')∈[(16,4294967296),(8,65536),(4,256),(2,16),(1,4),(0,2)]/\B'*2 ^ w=B/\(2 ^ w<=B'):=by simp only[xj,List.not_mem_nil,or_false,Prod.mk.injEq] at e;rcases e with ⟨rfl,rfl⟩ | ⟨rfl,rfl⟩ | ⟨rfl,rfl⟩ | ⟨rfl,rfl⟩ | ⟨rfl,rfl⟩ | ⟨rfl,rfl⟩;exact⟨65536,oy,oy,oy⟩;exact⟨256,oy,oy,oy⟩;exact⟨16,oy,oy,oy⟩;exact⟨4,oy,oy,oy⟩;exact⟨2,oy,oy,oy⟩;omega
 obtain⟨B',g1,j,g3⟩:=l;by_cases g:y / 2 ^ w=0;rw[oi g];refine⟨_,rfl,⟨w / 2,k,B',rfl,rfl,g1,?_,om,f⟩,by simp only[];omega⟩;have:=(Nat.div_eq_zero_iff_lt (vn w)).1 g;exact xi this g3;rw[oh g];refine⟨_,rfl,⟨w / 2,k+w,B',rfl,by simp only[];omega,g1,?_,om,?_⟩,by simp only[];omega⟩;rw[<-j] at a;exact(gr (vn w)).2 a;rw[f,Q0o g];simp only[];omega;right;obtain rfl:w=0:=om
 rw[oh om];simp only[xj,List.not_mem_nil,or_false,Prod.mk.injEq] at e;refine⟨_,rfl,k,rfl,om,by simp only[];omega,f⟩;rintro⟨y,c⟩ ⟨k,d,i,e,a⟩;simp only at d e a;subst d;rw[a,w64 (by simp only[];omega) (by simp only[];omega)];have:blen y=y:=by
  have:y=0\/y=1:=om
  rcases this with rfl | rfl;rw[Qke];exact Q2p (k:=0) oy oy
 rw[this];simp
theorem Qra(k:Nat):bp k=2 ^ (32*k):=by unfold bp;rw[Nat.pow_mul]
theorem Qto{v:Nat}(h:toL v≠[]):∃ p x,toL v=p++[x]/\x≠0/\x<4294967296/\Wd p:=by have a:=Kc v;rcases List.eq_nil_or_concat (toL v) with h0 | ⟨p,x,h1⟩;exact absurd h0 h;rw[List.concat_eq_append] at h1;refine⟨p,x,h1,?_,?_,?_⟩;rintro rfl;have d:=Q5z v;rw[h1,Qsw] at d;have:=Y3 p;rw[d] at this;simp at this;omega;rw[h1] at a;exact(Kv.1 (Kk.1 a).2).1;rw[h1] at a;exact(Kk.1 a).1
theorem Q53{p:List Nat}{x:Nat}(d:Wd p)(e:x≠0):blen (val (p++[x]))=32*p.length+blen x:=by
 have a:=Yk d;have hd:val (p++[x]) / 2 ^ (32*p.length)=x:=by rw[<-Qra,V5,Nat.add_mul_div_left _ _ (Q5x _),gm a,xz]
 rw[Q0o (w:=32*p.length) (by rw[hd];exact e),hd,Nat.add_comm]
theorem Qpz{n:Nat}{a:List Nat}(i:big<=n)(q:a.length<17592186044416)(e:Wd a):Qck n a=some (blen (val a):Int):=by
 unfold Qck;rw[Wf i om,sbind,<-K3 e,bifd];have g:(toL (val a)).length<17592186044416:=by rw[K3 e];exact ye (Y3 a) q
 by_cases h:toL (val a)=[]
 rw[oi (by rw[h];rfl)];rw[K3 e] at h;rw[Qxs h,Qke];rfl;rw[oh (by intro r;exact h (xm om))];obtain⟨p,x,d,f,l,m⟩:=Qto h;have j:val a=val (p++[x]):=by rw[<-d,Jh]
 rw[j,Q53 m f];rw[j] at d g;rw[d] at g;rw[d,xk,yt] at *;rw[w64 (x:=((p.length+1:Nat):Int) - 1) om om,show((p.length+1:Nat):Int) - 1=(p.length:Nat) by omega,Wq rfl,sbind,Qpy i l,sbind,sbind];have hb:blen x<=32:=by rcases xc 32 (blen x) with h | h;have g1:=Qn5 f;have k:2 ^ 32<=2 ^ (blen x - 1):=wk oy om;rw[show(2:Nat) ^ 32=4294967296 by decide] at k;omega;exact h
 rw[w64 (x:=32*(p.length:Int)) om om,w64 om om];congr 1
theorem Q54(P M R x A B m V:Nat)(a:V=M+P*m)(d:R=m+x*A+0)(e:V=A*B):M+P*R=A*(B+P*x):=by grind
theorem Qb8{n:Nat}{a b:List Nat}(B:big<=n)(F:a.length<8796093022208)(hb:b.length<8796093022208)(l:Wd a)(t:Wd b):Y5 n a b=some (toL (val a*val b)):=by
 unfold Y5;rw[w64 (x:=(a.length:Int)+(b.length:Int)) om om,w64 om om,show((a.length:Int)+(b.length:Int))+1=((a.length+b.length+1:Nat):Int) by omega,Qhj om om,sbind];refine Qi6 (λj (s:List Nat)=>∃ d,s=d++List.replicate (b.length+1 - j) 0/\d.length=j+a.length/\j<=b.length/\Wd d/\val d=val a*val (b.take j)) ⟨List.replicate a.length 0,by rw[List.replicate_append_replicate];congr 1,oa,xo _,Quv om,by simp[val,Qo7]⟩ ?_ ?_
 . rintro j x o v ⟨d,i,y,A,g,k⟩
   subst i;have e:j<b.length:=Qgs v;have w:b[j]=x:=by simpa [e] using v
   have u:x<4294967296:=by rw[<-w];exact Qaz t e
   obtain⟨r,g1,E,g3,g4⟩:=Qyt (p:=d.take j) (m:=d.drop j) (q:=List.replicate (b.length - j) 0) (a:=a) (z:=0) (x:=x) (c:=0) oe oe (Qld g) l u om;have f:(d.take j).length=j:=oe
   rw[f,ud] at g1;rw[show b.length+1 - j=(b.length - j)+1 by omega,ug,g1,sbind];refine⟨_,rfl,d.take j++r,by rw[show b.length+1 - (j+1)=b.length - j by omega],oe,om,Kk.2 ⟨Qn3 g,g3⟩,?_⟩;have C:val d=val (d.take j)+bp j*val (d.drop j):=by
    conv=>lhs;rw[<-ud j d]
    rw[X1,f]
   rw[X1,f,Y9,show b.getD j 0=x by rw[<-w];simp[e]];exact Q54 _ _ _ _ _ _ _ _ C g4 k
 . rintro o ⟨d,i,y,A,g,k⟩
   subst i;simp only[Wi];rw[Wf B oe,sbind,<-K3 (Kk.2 ⟨g,Quv om⟩),X1,Qo7,vt,xf,k,xe (xd _)]
theorem lo_eq{x r:Nat}(hr:r<=32):(x*2 ^ r)%4294967296=(x%2 ^ (32 - r))*2 ^ r:=by rw[show(4294967296:Nat)=2 ^ (32 - r)*2 ^ r by rw[<-Nat.pow_add,show 32 - r+r=32 by omega],Nat.mul_mod_mul_right]
theorem or_lo{c x r:Nat}(hr:r<=32)(a:c<2 ^ r):c ||| (x*2 ^ r)%4294967296=c+(x*2 ^ r)%4294967296:=by rw[lo_eq hr,Nat.or_comm,wd,<-Nat.two_pow_add_eq_or_of_lt a,Nat.add_comm]
theorem hi_lt{x r:Nat}(a:x<4294967296):(x*2 ^ r) / 4294967296<2 ^ r:=
 ga (Nat.mul_lt_mul_of_pos_right a (vn r))
theorem Qo8{r:Nat}(hr:r<=32):2 ^ r<=4294967296:=by have h:2 ^ r<=2 ^ 32:=wk oy hr;rwa [show(2:Nat) ^ 32=4294967296 by rfl] at h
theorem sh_lt{x r:Nat}(hr:r<=32)(a:x<4294967296):x*2 ^ r<18446744073709551616:=by have h:=Qo8 hr;have:x*2 ^ r<=4294967295*4294967296:=ww om h;omega
theorem Q9h(P c V A R x lo hi:Nat)(e:4294967296*hi+lo=x*R)(h:V+P*c=A*R):V+P*(c+lo)+P*4294967296*hi=(A+P*x)*R:=by grind
theorem Qrb{n k:Nat}{a:List Nat}(G:big<=n)(K:a.length<8796093022208)(I:Wd a)(hk:k<=4096):Qfq n a (k:Int)=some (toL (val a*2 ^ k)):=by
 unfold Qfq;rw[show min (max (k:Int) 0) 4096=(k:Int) by omega];rw[show Int.tdiv (k:Int) 32=((k / 32:Nat):Int) by rfl,show Int.tmod (k:Int) 32=((k%32:Nat):Int) by rfl];have H:2 ^ k=bp (k / 32)*2 ^ (k%32):=by rw[Qra,<-Nat.pow_add,vm]
 have J:k / 32<=128:=om
 have hr:k%32<=31:=om
 rw[H];generalize k / 32=w at *;generalize k%32=r at *;rw[w64 (x:=(w:Int)) om om,sbind,w64 (x:=(w:Int)+(a.length:Int)) om om,w64 om om,show(w:Int)+(a.length:Int)+1=((w+a.length+1:Nat):Int) by omega,Qhj om om,sbind];refine Qi6 (λj (s:List Nat)=>∃ e c,s=(List.replicate w 0++e)++c::List.replicate (a.length - j) 0/\e.length=j/\j<=a.length/\Wd e/\c<2 ^ r/\val e+bp j*c=val (a.take j)*2 ^ r) ⟨[],0,by rw[yj,<-ug,List.replicate_append_replicate];congr 1,rfl,xo _,X0,vn r,by simp[val]⟩ ?_ ?_;rintro j x s v ⟨e,c,p,m,F,q,u,t⟩;subst p;have g:j<a.length:=Qgs v;have A:a[j]=x:=by simpa [g] using v
 have i:x<4294967296:=by rw[<-A];exact Qaz I g
 have f:(List.replicate w 0++e).length=w+j:=oe
 have g1:=sh_lt (r:=r) om i;have E:=hi_lt (r:=r) i;have g3:=Qo8 (r:=r) om;have g4:=or_lo (x:=x) (show r<=32 by omega) u;rw[grd_t oa,sbind,yz,ya om,ym g1,sbind,w64 (x:=(w:Int)+(j:Int)) om om,sbind,show(w:Int)+(j:Int)=((w+j:Nat):Int) by omega];rw[Wq f,sbind,sbind,sbind,Zd f,g4,show(2:Nat) ^ 32=4294967296 by rfl,ym (show x*2 ^ r / 4294967296<4294967296 by omega)];obtain⟨d,hd⟩:∃ d,a.length - j=d+1:=⟨a.length - j - 1,om⟩
 rw[w64 om om,show((w+j:Nat):Int)+1=((w+j+1:Nat):Int) by omega,hd,ug];rw[show ∀(y:Nat) (l:List Nat),List.replicate w 0++e++y::l=(List.replicate w 0++(e++[y]))++l by intro y l;simp];have hlen2:(List.replicate w 0++(e++[c+x*2 ^ r%4294967296])).length=w+j+1:=oe
 rw[Wq hlen2,sbind,Zd hlen2,sbind];refine⟨_,rfl,e++[c+x*2 ^ r%4294967296],x*2 ^ r / 4294967296,by rw[show a.length - (j+1)=d by omega],by simp[m],om,Kk.2 ⟨q,Kv.2 ⟨?_,X0⟩⟩,E,?_⟩;rw[lo_eq om];have B:x%2 ^ (32 - r)+1<=2 ^ (32 - r):=uq _ (vn _);have C:=xq (2 ^ r) B;rw[<-Nat.pow_add,show 32 - r+r=32 by omega,show(2:Nat) ^ 32=4294967296 by rfl,Nat.add_mul,Nat.one_mul] at C;omega;rw[Y9,V5,m,We,show a.getD j 0=x by rw[<-A];simp[g]];exact Q9h _ _ _ _ _ _ _ _ (vm (x*2 ^ r) 4294967296) t;rintro s ⟨e,c,p,m,F,q,u,t⟩;subst p;simp only[Wi];have g3:=Qo8 (r:=r) om;rw[Wf G oe,sbind,<-K3 (Kk.2 ⟨Kk.2 ⟨Quv om,q⟩,Kv.2 ⟨om,Quv om⟩⟩)];rw[xb,X1,Qo7,yf,xz,X1];simp only[val];rw[Qo7,m,vt,xf,t,xe (xd _),Nat.mul_left_comm]
theorem Qrc{a:List Nat}(e:Wd a)(k:Nat):val a / bp k=val (a.drop k):=by
 rcases xc k a.length with h | h
 . have f:val a=val (a.take k)+bp k*val (a.drop k):=by
    conv=>lhs;rw[<-ud k a]
    rw[X1,xg,ya om]
   have d:=Yk (Qn3 (k:=k) e);rw[xg,ya om] at d;rw[f,Nat.add_mul_div_left _ _ (Q5x k),gm d,xz]
 . rw[xv h]
   exact gm (xi (Yk e) (bp_le h))
theorem Q55{a:List Nat}{k:Nat}(h:k<a.length):val (a.drop k)=a[k]+4294967296*(a.getD (k+1) 0+4294967296*val (a.drop (k+2))):=by rw[xh h];simp only[val];by_cases d:k+1<a.length;rw[xh d];simp[val,d];rw[xv om,xv om];simp[xn (show a.length<=k+1 by omega),val]
theorem Q7t{v z r:Nat}(hr:r<=32):((v+4294967296*4294967296*z) / 2 ^ r)%4294967296=(v / 2 ^ r)%4294967296:=by
 rw[show 4294967296*4294967296*z=2 ^ r*(4294967296*(2 ^ (32 - r)*z)) by
  have:2 ^ r*2 ^ (32 - r)=4294967296:=by rw[<-Nat.pow_add,show r+(32 - r)=32 by omega]
  calc 4294967296*4294967296*z=(2 ^ r*2 ^ (32 - r))*4294967296*z:=by rw[this]
   _=_:=by grind]
 rw[Nat.add_mul_div_left _ _ (vn r),Nat.add_mul_mod_self_left]
theorem Q7u{k:Nat}{b:List Nat}{x:Nat}{β:Type}(f:Nat->Option β)(hb:Wd b)(a:x<4294967296):(if ((k:Nat):Int)<(b.length:Int) then (getI b (k:Int)).bind (λy=>f (x ||| (y*2 ^ 32)%18446744073709551616)) else f x)=f (x+4294967296*b.getD k 0):=by by_cases h:k<b.length;rw[oi om,Qeo h,sbind];have d:=Qaz hb h;rw[show(2:Nat) ^ 32=4294967296 by rfl,ym om,Nat.or_comm,Qwn a,wd,Nat.add_comm];simp[h];rw[oh om];simp[xn (show b.length<=k by omega)]
theorem Q7v(X P:Nat):X%P+P*(X / P%4294967296)=X%(P*4294967296):=by rw[Nat.mod_mul]
theorem Qwr{n k:Nat}{a:List Nat}(y:big<=n)(C:a.length<8796093022208)(i:Wd a)(hk:k<=4611686018427387904):Qg9 n a (k:Int)=some (toL (val a / 2 ^ k)):=by
 unfold Qg9;rw[show max (k:Int) 0=(k:Int) by omega];rw[show Int.tdiv (k:Int) 32=((k / 32:Nat):Int) by rfl,show Int.tmod (k:Int) 32=((k%32:Nat):Int) by rfl];have A:2 ^ k=bp (k / 32)*2 ^ (k%32):=by rw[Qra,<-Nat.pow_add,vm]
 have hr:k%32<=31:=om
 have B:k / 32<=4611686018427387904:=om
 rw[A];generalize k / 32=w at *;generalize k%32=r at *;rw[<-Nat.div_div_eq_div_mul,Qrc i];rw[w64 (x:=(w:Int)) om om,sbind,bifd];by_cases q:a.length<=w;rw[oi om,xv q];simp[val,Wj];rw[oh om,w64 (x:=(a.length:Int) - (w:Int)) om om,sbind,show(a.length:Int) - (w:Int)=((a.length - w:Nat):Int) by omega,Qhj om om,sbind];refine Qi6 (λj (s:List Nat)=>∃ e,s=e++List.replicate (a.length - w - j) 0/\e.length=j/\Wd e/\val e=(val (a.drop w) / 2 ^ r)%bp j) ⟨[],oa,rfl,X0,by simp[val,Zg,Nat.mod_one]⟩ ?_ ?_;rintro j x s t ⟨e,m,g,p,l⟩;subst m;have u:j<a.length - w:=by have:=Qgs t;simpa using this
 have f:w+j<a.length:=om
 simp only[jn_eq,bifd];rw[w64 (x:=(w:Int)+(j:Int)) om om,show(w:Int)+(j:Int)=((w+j:Nat):Int) by omega,sbind,Qeo f,sbind,sbind,w64 (x:=((w+j:Nat):Int)+1) om om,show((w+j:Nat):Int)+1=((w+j+1:Nat):Int) by omega];simp only[sbind];rw[w64 (x:=((w+j:Nat):Int)+1) om om,show((w+j:Nat):Int)+1=((w+j+1:Nat):Int) by omega];rw[Q7u (β:=Lp (List Nat) (List Nat)) (λ(v:Nat)=>(grd (decide (0<=(r:Int)))).bind λ_=>(getI (e++List.replicate (a.length - w - j) 0) (j:Int)).bind λ_=>some (Lp.go (List.set (e++List.replicate (a.length - w - j) 0) (Int.toNat (j:Int)) (v / 2 ^ (min (Int.toNat (r:Int)) 64)%4294967296)))) i (Qaz i f)];rw[grd_t oa,sbind,yz (n:=r),ya om];obtain⟨d,hd⟩:∃ d,a.length - w - j=d+1:=⟨a.length - w - j - 1,om⟩
 rw[hd,ug,Wq g,sbind,Zd g];refine⟨_,rfl,e++[(a[w+j]+4294967296*a.getD (w+j+1) 0) / 2 ^ r%4294967296],by rw[show a.length - w - (j+1)=d by omega];simp,by simp[g],Kk.2 ⟨p,Kv.2 ⟨om,X0⟩⟩,?_⟩;rw[V5,g,We,<-Q7v,l,Nat.div_div_eq_div_mul (val (a.drop w)),wd (2 ^ r) (bp j),<-Nat.div_div_eq_div_mul (val (a.drop w)),Qrc (Qld i),List.drop_drop,Q55 f,wg,<-gi,<-Nat.mul_assoc,Q7t om];rintro s ⟨e,m,g,p,l⟩;subst m;simp only[Wi];rw[yf] at g l;rw[yf,wx,List.replicate_zero,yj,Wf y om,sbind,<-K3 p,l,ym];have:=Yk (Qld (k:=w) i);rw[uz] at this;exact ye (wj _ _) this
theorem Q2q{q r x0 a x2 d x4:Nat}(e:q*d+r=x0*4294967296+a)(f:q*x4<=r*4294967296+x2):q*(d*4294967296+x4)<=(x0*4294967296+a)*4294967296+x2:=by rw[<-e];grind
theorem Q9i{q r x0 a x2 d x4:Nat}(e:(q+1)*d+r=x0*4294967296+a)(f:r*4294967296+x2<(q+1)*x4):(x0*4294967296+a)*4294967296+x2<(q+1)*(d*4294967296+x4):=by rw[<-e];grind
theorem Q9j{q r a:Nat}{U:Nat}(d:(q+1)*a+r=U):q*a+(r+a)=U:=by rw[<-d];grind
theorem Q2r{q r x0 a x2 d x4:Nat}(e:q*d+r=x0*4294967296+a)(hr:4294967296<=r)(i:q<4294967296)(g:x4<4294967296):q*(d*4294967296+x4)<=(x0*4294967296+a)*4294967296+x2:=by have f:q*x4<=4294967295*4294967295:=ww om om;exact Q2q e om
theorem Jbq{X u w x2:Nat}(h:X<u)(a:x2<4294967296):X*4294967296+x2<u*4294967296+w:=om
theorem Jbr{q x0 d x2 a x4:Nat}(h:x0*4294967296+d<(q+1)*a)(f:x2<4294967296):(x0*4294967296+d)*4294967296+x2<(q+1)*(a*4294967296+x4):=by
 have e:(q+1)*(a*4294967296+x4)=((q+1)*a)*4294967296+(q+1)*x4:=by rw[wg,Nat.mul_assoc]
 rw[e];exact Jbq h f
theorem Qux{n l p x0 f x2 e x4:Nat}(F:big<=n)(I:x2<4294967296)(C:e<4294967296)(y:x4<4294967296)(G:l<4294967296)(hr:p<4294967296)
 (E:l*e+p=x0*4294967296+f) (A:l+1=4294967296\/(x0*4294967296+f)*4294967296+x2<(l+1)*(e*4294967296+x4)) :
 ∃ q,(loopM (λ(d:Nat×Nat)=>
   (Qa2 d.1 x4 0 0).bind λi=>
   jn (λ(g:(Bool)->Option _)=>
    bif decide (i.1<d.2) then (
     g true)
    else (
     bif decide (i.1=d.2) then (
      g (decide (i.2<=x2)))
     else (
      g false))) (λ(u:Bool)=>
    bif u then (
     some (Lp.out d.1))
    else (
     (Yb d.2 e 0).bind λa=>
     bif decide (0<a.2) then (
      some (Lp.out ((d.1+4294967296 - 1)%4294967296)))
     else (
      some (Lp.go (((d.1+4294967296 - 1)%4294967296),a.1)))))) n (l,p)).bind (λ(v:Nat)=>some v)=some q /\
   (q<4294967296/\q*(e*4294967296+x4)<=(x0*4294967296+f)*4294967296+x2/\(q+1=4294967296\/(x0*4294967296+f)*4294967296+x2<(q+1)*(e*4294967296+x4))):=by
 unfold big at F
 refine Qur (λs=>s.1) (λs=>s.1<4294967296/\s.2<4294967296/\s.1*e+s.2=x0*4294967296+f/\(s.1+1=4294967296\/(x0*4294967296+f)*4294967296+x2<(s.1+1)*(e*4294967296+x4)))
  (λq=>q<4294967296/\q*(e*4294967296+x4)<=(x0*4294967296+f)*4294967296+x2/\(q+1=4294967296\/(x0*4294967296+f)*4294967296+x2<(q+1)*(e*4294967296+x4))) ⟨G,hr,E,A⟩ (by simp only[];omega) ?_ (λt H=>⟨t,rfl,H⟩)
 rintro⟨q,r⟩ ⟨g1,x,g3,g4⟩;simp only at g1 x g3 g4;simp only[jn_eq,bifd];rw[Qku g1 y om om,sbind];simp only[xf]
 have key:(bif decide (q*x4<=r*4294967296+x2) then some (Lp.out q) else
  (Yb r e 0).bind λa=>if 0<a.2 then some (Lp.out ((q+4294967296 - 1)%4294967296)) else some (Lp.go ((q+4294967296 - 1)%4294967296,a.1)):Option (Lp (Nat×Nat) Nat)) =
  (if q*x4 / 4294967296<r then bif true then some (Lp.out q) else
   (Yb r e 0).bind λa=>if 0<a.2 then some (Lp.out ((q+4294967296 - 1)%4294967296)) else some (Lp.go ((q+4294967296 - 1)%4294967296,a.1))
   else if q*x4 / 4294967296=r then if q*x4%4294967296<=x2 then some (Lp.out q) else
    (Yb r e 0).bind λa=>if 0<a.2 then some (Lp.out ((q+4294967296 - 1)%4294967296)) else some (Lp.go ((q+4294967296 - 1)%4294967296,a.1))
   else bif false then some (Lp.out q) else
    (Yb r e 0).bind λa=>if 0<a.2 then some (Lp.out ((q+4294967296 - 1)%4294967296)) else some (Lp.go ((q+4294967296 - 1)%4294967296,a.1))):=by
  have hd:=vm (q*x4) 4294967296;have A:=uq (q*x4) (show 4294967296 > 0 by decide);by_cases c1:q*x4 / 4294967296<r;rw[oi c1,oj om];rw[oh c1];by_cases w:q*x4 / 4294967296=r;rw[oi w,<-bifd];congr 1;exact decide_eq_decide.2 om;rw[oh w,oo om]
 rw[<-key,bifd];by_cases hs:q*x4<=r*4294967296+x2;right;rw[oi hs];exact⟨q,rfl,g1,Q2q g3 hs,g4⟩;rw[oh hs,Qhr x C om,sbind]
 obtain⟨q',rfl⟩:∃ q',q=q'+1:=⟨q - 1,by
  have:q≠0:=by rintro rfl;simp at hs
  omega⟩
 have m:(q'+1+4294967296 - 1)%4294967296=q':=om
 have k:=Q9i (x2:=x2) (x4:=x4) g3 om;have j:=Q9j g3;simp only[xf];rw[m];by_cases B:0<(r+e) / 4294967296;right;rw[oi B];exact⟨q',rfl,om,Q2r j om om y,.inr k⟩;left;rw[oh B];refine⟨_,rfl,⟨by simp only[];omega,by simp only[];omega,?_,.inr k⟩,by simp only[];omega⟩;simp only[];rw[ym om];exact j
theorem Quy{n x0 d x2 a x4:Nat}(l:big<=n)(h0:x0<=a)(j:d<4294967296)(f:x2<4294967296)(e:a<4294967296)(g:x4<4294967296)(r:a≠0):
 ∃ q,Qdp n x0 d x2 a x4=some q/\(q<4294967296/\q*(a*4294967296+x4)<=(x0*4294967296+d)*4294967296+x2/\(q+1=4294967296\/(x0*4294967296+d)*4294967296+x2<(q+1)*(a*4294967296+x4))):=by
 unfold Qdp;by_cases i:x0<a;rw[Qpw i j e,sbind]
 have p:(x0*4294967296+d) / a<4294967296:=ga (by
  have:x0*4294967296+4294967296<=a*4294967296:=om
  omega)
 have hr:(x0*4294967296+d)%a<a:=uq _ om;exact Qux l f e g p (Nat.lt_trans hr e) (by rw[wd];exact vm _ _) (.inr (Jbr ((gr om).1 (Nat.lt_succ_self _)) f));obtain rfl:x0=a:=om
 rw[show Qci x0 d x0=some (0,0,false) by unfold Qci;rw[bifd,oi om],sbind];rw[jn_eq];simp only[ov,bifT];rw[Qhr j e om,sbind,jn_eq,bifd,oh om];simp only[xf];rw[bifd];have k:4294967295*x0+(d+x0)=x0*4294967296+d:=om
 by_cases m:0<(d+x0) / 4294967296;rw[oi m];exact⟨_,rfl,om,Q2r k om om g,.inl rfl⟩;rw[oh m,ym om];exact Qux l f e g om om k (.inl rfl)
theorem Qxt(P M c b d lo hi a q y u V W:Nat)(e:4294967296*hi+lo=q*y+c)(f:d+lo+b=u+4294967296*a)(h:W+q*V=M+P*(c+b)):W+P*d+q*(V+P*y)=M+P*u+P*4294967296*(hi+a):=by
 have g:P*d+P*lo+P*b=P*u+P*4294967296*a:=by rw[<-wg,<-wg,f];grind
 have i:P*4294967296*hi+P*lo=P*(q*y)+P*c:=by rw[<-wg,<-e];grind
 grind
theorem Qws{p m q' v:List Nat}{z q:Nat}(L:m.length=v.length)(N:p.length+m.length+1+q'.length<=4611686018427387904)(F:Wd m)(G:Wd v)(M:z<4294967296)(J:q<4294967296):
 ∃ r b,Qbc (p++m++z::q') (p.length:Int) v q=some (decide (0<b),p++r++q')/\r.length=v.length+1/\Wd r/\b<=1/\val r+q*val v=val (m++[z])+bp (v.length+1)*b:=by
 have key:∃ R,Qbc (p++m++z::q') (p.length:Int) v q=some R/\∃ r b,R=(decide (0<b),p++r++q')/\r.length=v.length+1/\Wd r/\b<=1/\val r+q*val v=val (m++[z])+bp (v.length+1)*b:=by
  unfold Qbc;refine Qnk (λj (s:List Nat×Nat×Nat)=>∃ e,s.1=p++e++(m.drop j++z::q')/\e.length=j/\j<=v.length/\Wd e/\s.2.1<4294967296/\s.2.2<=1/\val e+q*val (v.take j)=val (m.take j)+bp j*(s.2.1+s.2.2)) ⟨[],oa,rfl,xo _,X0,oa,oa,by simp[val]⟩ ?_ ?_;rintro j y ⟨o,c,b⟩ H ⟨e,f,g,B,C,l,t,n⟩;simp only at f l t n;subst f;have i:j<v.length:=Qgs H;have K:v[j]=y:=by simpa [i] using H
  have u:y<4294967296:=by rw[<-K];exact Qaz G i
  have k:j<m.length:=om
  have E:=Qaz F k;have a:(p++e).length=p.length+j:=oe
  have I:=Qtm J u l (show 0<4294967296 by omega);obtain⟨d,w,g1,A,g3,g4⟩:=Qkv (x:=m[j]) (y:=(q*y+c+0)%4294967296) (c:=b) E om t;rw[Qku J u l om,sbind,w64 om om,show((p.length:Int)+(j:Int))=((p.length+j:Nat):Int) by omega,xh k,yv];simp only[];rw[Wq a,sbind,g1,sbind,sbind,Zd a];refine⟨_,rfl,e++[d],oa,by simp[g],om,Kk.2 ⟨C,Kv.2 ⟨A,X0⟩⟩,by simp only[];omega,g3,?_⟩;simp only[];rw[Y9,Ya k,V5,V5,g,We,show v.getD j 0=y by rw[<-K];simp[i],xg,ya om];exact Qxt _ _ _ _ _ _ _ _ _ _ _ _ _ (vm (q*y+c) 4294967296) g4 n;rintro⟨o,c,b⟩ ⟨e,f,g,B,C,l,t,n⟩;simp only at f l t n;subst f;simp only[Wi];have a:(p++e).length=p.length+v.length:=oe
  obtain⟨d,w,g1,A,g3,g4⟩:=Qkv (x:=z) (y:=c) (c:=b) M l t;rw[w64 om om,show((p.length:Int)+(v.length:Int))=((p.length+v.length:Nat):Int) by omega,xv om,yp,Wq a,sbind,g1,sbind,sbind,Zd a];refine⟨_,rfl,e++[d],w,oa,by simp[g],Kk.2 ⟨C,Kv.2 ⟨A,X0⟩⟩,g3,?_⟩;rw[xe (xd _),xe om] at n;rw[V5,V5,g,L,We];have:=Qxt (bp v.length) (val m) c b d c 0 w q 0 z (val v) (val e) om g4 n
  simpa using this
 obtain⟨R,f,r,b,g,B⟩:=key;exact⟨r,b,by rw[f,g],B⟩
theorem Qxu(P M c d a y u V W:Nat)(e:4294967296*a+d=u+y+c)(h:W+P*c=M+V):W+P*d+P*4294967296*a=M+P*u+(V+P*y):=by grind
theorem Qwt{p m q' v:List Nat}{z:Nat}(C:m.length=v.length)(E:p.length+m.length+1+q'.length<=4611686018427387904)(u:Wd m)(w:Wd v)(F:z<4294967296):
 ∃ r b,Qc7 (p++m++z::q') (p.length:Int) v=some (p++r++q')/\r.length=v.length+1/\Wd r/\b<=1/\val r+bp (v.length+1)*b=val (m++[z])+val v:=by
 have key:∃ R,Qc7 (p++m++z::q') (p.length:Int) v=some R/\∃ r b,R=p++r++q'/\r.length=v.length+1/\Wd r/\b<=1/\val r+bp (v.length+1)*b=val (m++[z])+val v:=by
  unfold Qc7;refine Qnk (λj (s:List Nat×Nat)=>∃ d,s.1=p++d++(m.drop j++z::q')/\d.length=j/\j<=v.length/\Wd d/\s.2<=1/\val d+bp j*s.2=val (m.take j)+val (v.take j)) ⟨[],oa,rfl,xo _,X0,oa,by simp[val]⟩ ?_ ?_;rintro j y ⟨o,c⟩ A ⟨d,e,f,l,n,q,k⟩;simp only at e q k;subst e;have g:j<v.length:=Qgs A;have B:v[j]=y:=by simpa [g] using A
  have x:y<4294967296:=by rw[<-B];exact Qaz w g
  have i:j<m.length:=om
  have t:=Qaz u i;have a:(p++d).length=p.length+j:=oe
  rw[w64 om om,show((p.length:Int)+(j:Int))=((p.length+j:Nat):Int) by omega,xh i,yv];rw[Wq a,sbind,Qhr t x (by simp only[];omega),sbind,sbind,Zd a];refine⟨_,rfl,d++[(m[j]+y+c)%4294967296],oa,by simp[f],om,Kk.2 ⟨n,Kv.2 ⟨om,X0⟩⟩,by simp only[];omega,?_⟩;simp only[];rw[Y9,Y9,V5,f,We,show v.getD j 0=y by rw[<-B];simp[g],show m.getD j 0=m[j] by simp[i]];exact Qxu _ _ _ _ _ _ _ _ _ (vm (m[j]+y+c) 4294967296) k;rintro⟨o,c⟩ ⟨d,e,f,l,n,q,k⟩;simp only at e q k;subst e;simp only[Wi];have a:(p++d).length=p.length+v.length:=oe
  rw[w64 om om,show((p.length:Int)+(v.length:Int))=((p.length+v.length:Nat):Int) by omega,xv om,yp,Wq a,sbind,sbind,Zd a,sbind];refine⟨_,rfl,d++[(z+c)%4294967296],(z+c) / 4294967296,oa,by simp[f],Kk.2 ⟨n,Kv.2 ⟨om,X0⟩⟩,om,?_⟩;rw[xe (xd _),xe om] at k;rw[V5,V5,f,C,We];have:=Qxu (bp v.length) (val m) c ((z+c)%4294967296) ((z+c) / 4294967296) 0 z (val v) (val d) om k
  simpa using this
 obtain⟨R,e,r,b,f,l⟩:=key;exact⟨r,b,by rw[e,f],l⟩
theorem kn_a{P vl V2 f a q d:Nat}(l:f<P)(n:q<4294967296)(m:q*(vl+P*V2)<=f+P*a)(e:d+1=4294967296\/a<(d+1)*V2):q<=d:=by
 rcases e with e | e;omega;have j:P*(q*V2)<=q*(vl+P*V2):=by rw[wg,Nat.mul_left_comm];exact Nat.le_add_left _ _
 have g:P*(q*V2)<P*(a+1):=by rw[wg,Nat.mul_one];omega
 have k:q*V2<a+1:=Nat.lt_of_mul_lt_mul_left g;have i:q*V2<(d+1)*V2:=om
 exact Nat.le_of_lt_succ (Nat.lt_of_mul_lt_mul_right i)
theorem kn_b{P vl V2 i d a:Nat}(k:vl<P)(m:a<4294967296)(l:4294967296<=V2)(g:a*V2<=d):a*(vl+P*V2)<=(i+P*d)+(vl+P*V2):=by
 have e:a*(vl+P*V2)=a*vl+P*(a*V2):=by rw[wg,Nat.mul_left_comm]
 have j:P*(a*V2)<=P*d:=ui _ g;have f:a*vl<=V2*P:=ww om om;rw[e];rw[wd V2 P] at f;omega
theorem kn_z{P vl v3 v4 e z a x2:Nat}(j:vl<P)(k:v4<4294967296)(l:e+P*((z*4294967296+a)*4294967296+x2)<4294967296*(vl+P*(v3*4294967296+v4))):z<=v3:=by
 have f:P*(z*4294967296*4294967296)<=P*((z*4294967296+a)*4294967296+x2):=ui _ om;have g:vl+P*(v3*4294967296+v4)<P*((v3+1)*4294967296):=by have:P*(v3*4294967296+v4+1)<=P*((v3+1)*4294967296):=ui _ om;rw[wg _ _ 1,Nat.mul_one] at this;omega
 have d:P*(z*4294967296*4294967296)<P*((v3+1)*4294967296*4294967296):=by have a1:P*((v3+1)*4294967296*4294967296)=P*((v3+1)*4294967296)*4294967296:=(Nat.mul_assoc _ _ _).symm;omega
 have i:=Nat.lt_of_mul_lt_mul_left d;omega
theorem dm_of{U V q r:Nat}(h:r+q*V=U)(hr:r<V):U / V=q/\U%V=r:=by subst h;rw[Nat.add_mul_div_right _ _ om,gm hr,Nat.add_mul_mod_self_right,ym hr];omega
theorem last2{l:List Nat}{m:Nat}(h:l.length=m+2):∃ l' a b,l=l'++[a,b]/\l'.length=m:=by refine⟨l.take m,l[m],l[m+1],?_,oe⟩;have e:=Ya (a:=l) (k:=m) om;have d:=Ya (a:=l) (k:=m+1) om;rw[xe om] at d;refine d.trans ?_;rw[e,xb];rfl
theorem Q7w(p y w a V U j:Nat)(q r:Nat)(d:U=y+4294967296*w)(h:r+q*V=U):(p+j*y)+j*4294967296*(w+V*a)=p+j*(r+V*(q+4294967296*a)):=by grind
theorem Q37{n:Nat}{p w rest v:List Nat}{z:Nat}(hn:big<=n){vl u:List Nat}{v3 v4 x x2:Nat}(I:v=vl++[v4,v3])(J:w=u++[x2,x])(G:u.length=vl.length)
 (a:Wd v) (e:Wd w) (hz:z<4294967296) (h3:v3≠0) (hp:p.length+w.length+1+rest.length<=4611686018427387904) (s:val (w++[z])<4294967296*val v) :
 ∃ r d,Qdp n z x x2 v3 v4=some d/\r.length=v.length+1/\Wd r/\val r=val (w++[z])%val v/\val (w++[z]) / val v<4294967296 /\
   ((Qbc (p++w++z::rest) (p.length:Int) v d=some (false,p++r++rest)/\d=val (w++[z]) / val v) \/
    (∃ T,Qbc (p++w++z::rest) (p.length:Int) v d=some (true,T)/\Qc7 T (p.length:Int) v=some (p++r++rest)/\(d+4294967296 - 1)%4294967296=val (w++[z]) / val v)):=by
 have K:w.length=v.length:=by rw[I,J];simp[G]
 have w1:Wd vl/\v4<4294967296/\v3<4294967296:=by rw[I] at a;exact⟨(Kk.1 a).1,(Kv.1 (Kk.1 a).2).1,(Kv.1 (Kv.1 (Kk.1 a).2).2).1⟩
 have N:Wd u/\x2<4294967296/\x<4294967296:=by rw[J] at e;exact⟨(Kk.1 e).1,(Kv.1 (Kk.1 e).2).1,(Kv.1 (Kv.1 (Kk.1 e).2).2).1⟩
 obtain⟨w1,Z,w4⟩:=w1;obtain⟨N,w5,w6⟩:=N;have C:val v=val vl+bp vl.length*(v3*4294967296+v4):=by rw[I,X1];simp only[val];congr 2;omega
 have E:val (w++[z])=val u+bp vl.length*((z*4294967296+x)*4294967296+x2):=by rw[J,xb,X1,G];simp only[yv,yp,val];congr 2;omega
 have l1:=Yk w1;have R:=Yk N;rw[G] at R;have L:z<=v3:=by rw[C,E] at s;exact kn_z l1 Z s
 obtain⟨d,g1,Q,g3,g4⟩:=Quy hn L w6 w5 w4 Z h3;have k:0<val v:=by rcases gn (val v) with h | h;rw[h] at s;omega;exact h
 have i:val (w++[z]) / val v<4294967296:=(gr k).2 s;have hqa:val (w++[z]) / val v<=d:=by have:=Nat.div_mul_le_self (val (w++[z])) (val v);exact kn_a (vl:=val vl) R i (by rw[<-C,<-E];exact this) g4
 have hqb:d*val v<=val (w++[z])+val v:=by rw[C,E];exact kn_b l1 Q om g3
 have B:val (w++[z])<(d+1)*val v:=xi ((gr k).1 (Nat.lt_succ_self _)) (xq _ om);obtain⟨r,b,W,j,t3,t4,t5⟩:=Qws (p:=p) (m:=w) (q':=rest) (v:=v) (z:=z) (q:=d) K hp e a hz Q;rw[Nat.add_mul,Nat.one_mul] at B;have hvb:=Yk a;have hbb:bp v.length<=bp (v.length+1):=bp_le om;by_cases hb:b=0;subst hb;rw[vt,xf] at t5;obtain⟨y,A⟩:=dm_of t5 om;exact⟨r,d,g1,j,t3,A.symm,i,.inl ⟨W,y.symm⟩⟩;obtain rfl:b=1:=om
 rw[Nat.mul_one] at t5;have hr:=Yk t3;rw[j] at hr;obtain⟨f,g,l⟩:∃ f g,r=f++[g]:=by rcases List.eq_nil_or_concat r with h | ⟨f,g,h⟩;rw[h] at j;simp at j;exact⟨f,g,by rw[h,List.concat_eq_append]⟩
 have e2:f.length=v.length:=by rw[l] at j;simpa using j
 have P:Wd f/\g<4294967296:=by rw[l] at t3;exact⟨(Kk.1 t3).1,(Kv.1 (Kk.1 t3).2).1⟩
 obtain⟨S,O,u1,X,Y,u4,M⟩:=Qwt (p:=p) (m:=f) (q':=rest) (v:=v) (z:=g) e2 om P.1 a P.2;have H:=Yk Y;rw[X] at H;rw[<-l] at M
 obtain⟨t,rfl⟩:∃ t,d=t+1:=⟨d - 1,by
  have:d≠0:=by rintro rfl;omega
  omega⟩
 rw[Nat.add_mul,Nat.one_mul] at *;have F:O=1:=by rcases gn O with h | h;subst h;rw[vt] at M;omega;omega
 subst F;rw[Nat.mul_one] at M;obtain⟨y,A⟩:=dm_of (U:=val (w++[z])) (V:=val v) (q:=t) (r:=val S) om om;refine⟨S,t+1,g1,X,Y,A.symm,i,.inr ⟨p++r++rest,W,?_,by rw[y];omega⟩⟩;rw[l,show p++(f++[g])++rest=p++f++g::rest by simp];exact u1
theorem Qwu{n:Nat}{u v vl:List Nat}{v3 v4:Nat}(hn:big<=n)(F:v=vl++[v4,v3])(h3:v3≠0)(g:Wd u)(q:Wd v)(hu:u.length<35184372088832)(hl:v.length<=u.length)(P:val (u.drop (u.length - v.length))<val v):
 ∃ r,Qg8 n u v=some r/\(r.1.length=u.length - v.length/\Wd r.1/\r.2.length=u.length/\Wd r.2/\val u=val v*val r.1+val r.2/\val r.2<val v):=by
 unfold Qg8;have N:=hn;unfold big at N;have hvl:v.length=vl.length+2:=by rw[F];simp
 rw[w64 (x:=(u.length:Int) - (v.length:Int)) om om,show(u.length:Int) - (v.length:Int)=((u.length - v.length:Nat):Int) by omega,Qhj om om,sbind]
 refine Qur (λs=>(s.2.2+1).toNat) (λs=>∃(k:Nat) (p w e:List Nat),s.2.2=(k:Int) - 1/\k<=u.length - v.length/\s.1=p++w/\p.length=k/\w.length=u.length - k/\Wd p/\Wd w/\val w<val v/\s.2.1=List.replicate k 0++e/\e.length=u.length - v.length - k/\Wd e/\val u=val p+bp k*(val w+val v*val e))
  (λt=>t.2.length=u.length - v.length/\Wd t.2/\t.1.length=u.length/\Wd t.1/\val u=val v*val t.2+val t.1/\val t.1<val v) ⟨u.length - v.length,u.take (u.length - v.length),u.drop (u.length - v.length),[],?_,xd _,by simp only[ud],oa,oa,Qn3 g,Qld g,P,by simp only[yj],oa,X0,?_⟩ ?_ ?_ (λt P=>⟨_,rfl,P⟩)
 . simp only[];rw[yf,w64 om om]
 . simp only[val,vt,xf]
   conv=>lhs;rw[<-ud (u.length - v.length) u]
   rw[X1,xg,ya om]
 . simp only[];rw[yf,w64 om om];omega
 . rintro⟨uu,qq,i⟩ ⟨k,p,w,e,i1,i2,i3,G,i5,i6,Q,i8,i9,i10,A,B⟩
   simp only at i1 i3 i9;subst i1 i3 i9;simp only[jn_eq,bifd];by_cases h0:0<k
   . left
     obtain⟨j,rfl⟩:∃ j,k=j+1:=⟨k - 1,om⟩
     obtain⟨d,y,e1⟩:∃ d y,p=d++[y]:=by
      rcases List.eq_nil_or_concat p with h | ⟨d,y,h⟩
      . rw[h] at G;simp at G
      . exact⟨d,y,by rw[h,List.concat_eq_append]⟩
     subst e1;have I:d.length=j:=by simpa using G
     have V:Wd d/\y<4294967296:=⟨(Kk.1 i6).1,(Kv.1 (Kk.1 i6).2).1⟩
     have J:Wd (y::w):=Kv.2 ⟨V.2,Q⟩;have X:v.length<(y::w).length:=oe
     have Y:y::w=(y::w).take v.length++(y::w)[v.length]::(y::w).drop (v.length+1):=Q50 X;have K:val ((y::w).drop (v.length+1))=0:=by rw[wu,<-Qrc Q];exact gm (Nat.lt_trans i8 (Yk q))
     have Z:val ((y::w).take v.length++[(y::w)[v.length]])=y+4294967296*val w:=by have:=ue val Y;rw[show ∀(a b:List Nat) (x:Nat),a++x::b=(a++[x])++b by intro a b x;simp,X1,K,vt,xf] at this;rw[<-this];rfl
     have w1:Wd ((y::w).take v.length):=Qn3 J;have w2:(y::w)[v.length]<4294967296:=Qaz J X;have w3:Wd ((y::w).drop (v.length+1)):=Qld J;have w4:((y::w).take v.length).length=v.length:=by rw[xg,ya om]
     have w5:((y::w).drop (v.length+1)).length=u.length - j - (v.length+1):=by rw[uz,ow];omega
     rw[show d++[y]++w=d++(y::w) by simp,Y];generalize (y::w).take v.length=W at *;generalize (y::w)[v.length]=z at *;generalize (y::w).drop (v.length+1)=R at *;obtain⟨H,x2,C,L,f2⟩:=last2 (l:=W) (m:=vl.length) om;obtain⟨r,S,g1,g2,g3,g4,g5,g6⟩:=Q37 (p:=d) (w:=W) (rest:=R) (v:=v) (z:=z) hn F L f2 q w1 w2 h3 (by rw[w4,w5];omega) (by rw[Z];omega);rw[oi om,show((j+1:Nat):Int) - 1=(j:Int) by omega];rw[w64 (x:=(j:Int)+(v.length:Int)) om om,show(j:Int)+(v.length:Int)=((j+vl.length+2:Nat):Int) by omega];rw[w64 (x:=((j+vl.length+2:Nat):Int) - 1) om om,w64 (x:=((j+vl.length+2:Nat):Int) - 2) om om,show((j+vl.length+2:Nat):Int) - 1=((j+vl.length+1:Nat):Int) by omega,show((j+vl.length+2:Nat):Int) - 2=((j+vl.length:Nat):Int) by omega];rw[w64 (x:=(v.length:Int) - 1) om om,w64 (x:=(v.length:Int) - 2) om om,show(v.length:Int) - 1=((vl.length+1:Nat):Int) by omega,show(v.length:Int) - 2=((vl.length:Nat):Int) by omega];have a1:getI (d++(W++z::R)) ((j+vl.length+2:Nat):Int)=some z:=by
      rw[<-xb];exact Wq (by rw[xk,w4];omega)
     have a2:getI (d++(W++z::R)) ((j+vl.length+1:Nat):Int)=some C:=by rw[L,show d++(H++[x2,C]++z::R)=(d++H++[x2])++C::(z::R) by simp];exact Wq oe
     have a3:getI (d++(W++z::R)) ((j+vl.length:Nat):Int)=some x2:=by rw[L,show d++(H++[x2,C]++z::R)=(d++H)++x2::(C::z::R) by simp];exact Wq oe
     have a4:getI v ((vl.length+1:Nat):Int)=some v3:=by rw[F,show vl++[v4,v3]=(vl++[v4])++v3::[] by simp];exact Wq oa
     have a5:getI v ((vl.length:Nat):Int)=some v4:=by rw[F];exact Wq rfl
     rw[a1,sbind,a2,sbind,a3,sbind,a4,sbind,a5,sbind,g1,sbind]
     have E:∀(q':Nat),getI (List.replicate (j+1) 0++e) (j:Int)=some 0/\(List.replicate (j+1) 0++e).set (Int.toNat (j:Int)) q'=List.replicate j 0++q'::e:=λq'=>by rw[List.replicate_succ',xb,List.singleton_append];exact⟨Wq oa,Zd oa⟩
     rw[I,xb] at g6;have f:∀ q',q'=val (W++[z]) / val v->∃ s',(some (Lp.go (d++r++R,List.replicate j 0++q'::e,wrap64 ((j:Int) - 1))):Option (Lp (List Nat×List Nat×Int) (List Nat×List Nat)))=some (Lp.go s')/\(∃(k:Nat) (p w e:List Nat),s'.2.2=(k:Int) - 1/\k<=u.length - v.length/\s'.1=p++w/\p.length=k/\w.length=u.length - k/\Wd p/\Wd w/\val w<val v/\s'.2.1=List.replicate k 0++e/\e.length=u.length - v.length - k/\Wd e/\val u=val p+bp k*(val w+val v*val e))/\(s'.2.2+1).toNat<((j:Int)+1).toNat:=by
      intro q' O;have M:0<val v:=om
      rw[w64 om om];refine⟨_,rfl,⟨j,d,r++R,q'::e,rfl,om,by rw[xb],I,by rw[xk,g2,w5];omega,V.1,Kk.2 ⟨g3,w3⟩,?_,rfl,by rw[ow];omega,Kv.2 ⟨om,A⟩,?_⟩,by simp only[];omega⟩
      . rw[X1,K,vt,xf,g4];exact uq _ M
      . rw[B,V5,I,We,X1,K,vt,xf]
        simp only[val];refine Q7w _ _ _ _ _ _ _ _ _ Z ?_;rw[g4,O,wd];exact Nat.mod_add_div _ _
     rcases g6 with ⟨T,U⟩ | ⟨r1,T,U,t3⟩
     . rw[T,sbind]
       simp only[bifF];rw[(E S).1,sbind,(E S).2];exact f _ U
     . rw[T,sbind]
       simp only[bifT];rw[U,sbind,(E ((S+4294967296 - 1)%4294967296)).1,sbind,(E _).2];exact f _ t3
   . right
     obtain rfl:k=0:=om
     obtain rfl:p=[]:=xm G;rw[oh om];refine⟨_,rfl,by simp only[List.replicate_zero,yp];omega,by simpa using A,by simp only[yp];omega,by simpa using Q,?_,by simpa using i8⟩;rw[B,Zg];simp[val];omega
theorem Jbs{x:Nat}(d:x<4294967296):blen x<=32:=by
 rcases xc 32 (blen x) with h | h;have h0:x≠0:=by rintro rfl;rw[Qke] at h;omega
 have g1:=Qn5 h0;have a:2 ^ 32<=2 ^ (blen x - 1):=wk oy om;rw[show(2:Nat) ^ 32=4294967296 by decide] at a;omega;exact h
theorem Jo{a:List Nat}(d:Wd a):(toL (val a)).length<=a.length:=by rw[K3 d];exact Y3 a
theorem Qsx{v s:Nat}(hs:s<=32):(toL (v*2 ^ s)).length<=(toL v).length+1:=by refine Ye ?_;have a:=Yk (Kc v);rw[Jh] at a;rw[We];exact xi (Nat.mul_lt_mul_of_pos_right a (vn s)) (ui _ (Qo8 hs))
theorem len2{v:Nat}(h:4294967296<=v):∃ vl v4 v3,toL v=vl++[v4,v3]/\v3≠0:=by
 have h0:toL v≠[]:=by rw[Zu om];simp
 obtain⟨p,x,a,d,e,f⟩:=Qto h0;rcases List.eq_nil_or_concat p with h5 | ⟨p',y,h5⟩;exfalso;have:=Jh v;rw[a,h5] at this;simp[val] at this;omega;exact⟨p',y,x,by rw[a,h5,List.concat_eq_append];simp,d⟩
theorem Jbt{v:Nat}(h:v≠0):bp ((toL v).length - 1)<=v:=by
 have h0:toL v≠[]:=by rw[Zu h];simp
 obtain⟨p,x,a,d,e,f⟩:=Qto h0;have:=Jh v;rw[a,V5] at this;rw[a,xk,yt,Nat.add_sub_cancel,<-this];have:bp p.length*1<=bp p.length*x:=ui _ om;omega
theorem Qe2{n:Nat}{a b:List Nat}(d:big<=n)(ha:a.length<4398046511104)(hb:b.length<4398046511104)(e:Wd a)(p:Wd b):
 Qa3 n a b=some (if val b=0 then ([],[],false) else (toL (val a / val b),toL (val a%val b),true)):=by
 unfold Qa3;have Z:=Jo p;have Y:=Jo e;rw[Wf d om,sbind,<-K3 p,bifd];by_cases h0:val b=0;rw[h0,Wj,oi oz,oi rfl];have F:toL (val b)≠[]:=by rw[Zu h0];simp
 have X:(toL (val b)).length≠0:=λh=>F (xm h);rw[oh om,oh h0,Qgg d om om e (Kc _),sbind,Jh,bifd];by_cases i:val a<val b;rw[oi (by rw[cmpI,oi i];decide),Wf d om,sbind,gm i,ym i,Wj,K3 e];rw[oh (by rw[cmpI,oh i];split<;>decide),bifd];by_cases S:(toL (val b)).length=1;rw[oi om];obtain⟨y,Q⟩:=List.length_eq_one_iff.1 S;have G:=Jh (val b);have P:=Kc (val b);rw[Q] at G P;simp only[val,vt,xf] at G;have I:=(Kv.1 P).1;rw[Q,show getI [y] (0:Int)=some y by rfl,sbind,Qwo d om e om I,sbind];simp only[];have:=uq (val a) (show y > 0 by omega);rw[Qdb d om,sbind,<-G];rw[oh om];have l:4294967296<=val b:=by
  rcases xc (val b) 4294967296 with h | h;have:=Ye (n:=val b) (k:=1) (by rw[We,Zg];omega);omega;exact h
 obtain⟨bl,J,g,t,e2⟩:=len2 l;have f:=Kc (val b);have j:g<4294967296:=by rw[t] at f;exact(Kv.1 (Kv.1 (Kk.1 f).2).2).1
 have T:(toL (val b)).length=bl.length+2:=by rw[t];simp
 rw[w64 (x:=((toL (val b)).length:Int) - 1) om om,show((toL (val b)).length:Int) - 1=((bl.length+1:Nat):Int) by omega];rw[show getI (toL (val b)) ((bl.length+1:Nat):Int)=some g by rw[t,show bl++[J,g]=(bl++[J])++g::[] by simp];exact Wq oa,sbind,Qpy d j,sbind];have hs:=Jbs j;rw[w64 (x:=(32:Int) - (blen g:Int)) om om,show(32:Int) - (blen g:Int)=((32 - blen g:Nat):Int) by omega];have m:32 - blen g<=32:=om
 generalize 32 - blen g=s at *;have B:=vn s;rw[Qrb d om e om,sbind];have l1:=Qsx (v:=val a) m;have l2:=Qsx (v:=val b) m;rw[K0 oe oe,sbind,Qrb d om f om,sbind,Jh];have W:val b<=val b*2 ^ s:=Nat.le_mul_of_pos_right _ B;obtain⟨vl,v4,v3,M,R⟩:=len2 (v:=val b*2 ^ s) om;have C:val b*2 ^ s<=val a*2 ^ s:=xq _ om;have hll:=Wl C;have E:=Jbt (v:=val b*2 ^ s) om;have hvl:(toL (val b*2 ^ s)).length=vl.length+2:=by rw[M];simp
 have H:Wd (toL (val a*2 ^ s)++[0]):=Kk.2 ⟨Kc _,Kv.2 ⟨om,X0⟩⟩
 obtain⟨⟨q,r⟩,g1,N,g3,g4,O,w,A⟩:=Qwu (u:=toL (val a*2 ^ s)++[0]) (v:=toL (val b*2 ^ s)) d M R H (Kc _) oe oe (by
  rw[xk,yt,List.drop_append_of_le_length om,V5,vt,xf,Jh];have:=Yk (Qld (k:=(toL (val a*2 ^ s)).length+1 - (toL (val b*2 ^ s)).length) (Kc (val a*2 ^ s)));rw[uz] at this
  exact xi this (xx (bp_le om) E))
 simp only at N g3 g4 O w A;rw[V5,vt,xf,Jh,Jh] at w;rw[Jh] at A;rw[xk,yt] at N g4;rw[g1,sbind];simp only[];rw[Wf d om,sbind,Qwr d om O om,sbind,<-K3 g3];obtain⟨K,L⟩:=dm_of (U:=val a*2 ^ s) (V:=val b*2 ^ s) (q:=val q) (r:=val r) (by rw[w,wd (val q)];omega) A;rw[Nat.mul_div_mul_right _ _ B] at K;rw[Nat.mul_mod_mul_right] at L;rw[<-K,<-L,Nat.mul_div_cancel _ B]
theorem Qsg{n x y:Nat}(e:big<=n)(g:y<18446744073709551616):Qdq n x y=some (Nat.gcd x y):=by unfold Qdq;unfold big at e;refine Qgf (λs=>s.2) (λs=>s.2<18446744073709551616/\Nat.gcd s.1 s.2=Nat.gcd x y) (λt=>t=Nat.gcd x y) ⟨g,rfl⟩ (by simp only[];omega) ?_ (λt f=>by rw[f]);rintro⟨u,v⟩ ⟨d,a⟩;simp only at d a;simp only[bifnd];by_cases h0:v=0;right;rw[oi h0];exact⟨_,rfl,by rw[<-a,h0,Nat.gcd_zero_right]⟩;left;rw[oh h0,grd_t (by simp[h0]),sbind];have:=uq u (show v > 0 by omega);exact⟨_,rfl,⟨by simp only[];omega,by rw[<-a,Nat.gcd_comm u v,Nat.gcd_rec v u,Nat.gcd_comm]⟩,this⟩
theorem Quz{v:Nat}:Qfs (toL v)=some (decide (v=1)):=by
 unfold Qfs;simp only[jn_eq,bifd];by_cases h:(toL v).length=1;obtain⟨x,a⟩:=List.length_eq_one_iff.1 h;have:=Jh v;rw[a] at this;simp[val] at this;rw[a,oi oa,show getI [x] (0:Int)=some x by rfl,sbind,this];rw[oh om];have:v≠1:=by rintro rfl;apply h;rw[Zu oy,show 1 / 4294967296=0 by decide,Wj];rfl
 rw[oo this]
theorem Q9k{v k:Nat}(h:v<2 ^ k):blen v<=k:=by
 rcases xc k (blen v) with a | a;have h0:v≠0:=by rintro rfl;rw[Qke] at a;omega
 have g1:=Qn5 h0;have d:2 ^ k<=2 ^ (blen v - 1):=wk oy om;omega;exact a
theorem Q9l{r u:Nat}(h:2*r<u):blen r<blen u:=by
 have d:=Qwq (x:=u);by_cases h0:r=0;subst h0;rw[Qke];exact Qtn om;have g1:=Qn5 h0;have a:=Qtn h0;have g3:2 ^ blen r=2 ^ (blen r - 1)*2:=by rw[<-Nat.pow_succ,show(blen r - 1).succ=blen r by omega]
 have g4:2 ^ blen r<2 ^ blen u:=om
 exact(Nat.pow_lt_pow_iff_right oy).1 g4
theorem Qo9{v:Nat}:blen v<=32*(toL v).length:=by refine Q9k ?_;rw[<-Qra];have:=Yk (Kc v);rwa [Jh] at this
theorem Q7x{u v:Nat}(h0:v≠0):blen v+blen (u%v)+(if v<u%v then 1 else 0)<blen u+blen v+(if u<v then 1 else 0):=by
 have g:=uq u (show v > 0 by omega);rw[oh om];by_cases h:u<v;rw[oi h,ym h];omega;rw[oh h];have d:2*(u%v)<u:=by have e:=vm u v;have a:1<=u / v:=(Nat.le_div_iff_mul_le om).2 om;have f:v*1<=v*(u / v):=ui _ a;omega
 have:=Q9l d;omega
theorem Qu0{n:Nat}{a b:List Nat}(d:big<=n)(A:a.length<4398046511104)(hb:b.length<4398046511104)(i:Wd a)(j:Wd b):Qfr n a b=some (toL (Nat.gcd (val a) (val b))):=by
 unfold Qfr;have p:=Jo i;have q:=Jo j;rw[Wf d om,sbind,Wf d om,sbind,<-K3 i,<-K3 j];have m:=d;unfold big at m
 refine Qgf (λs=>blen (val s.1)+blen (val s.2)+(if val s.1<val s.2 then 1 else 0)) (λs=>∃ u v,s=(toL u,toL v)/\Nat.gcd u v=Nat.gcd (val a) (val b)/\(toL u).length<4398046511104/\(toL v).length<4398046511104)
  (λt=>∃ u v,t=(toL u,toL v)/\Nat.gcd u v=Nat.gcd (val a) (val b)/\(toL u).length<4398046511104/\(toL v).length<=2) ⟨val a,val b,rfl,rfl,om,om⟩ ?_ ?_ ?_
 simp only[Jh];have y:=Qo9 (v:=val a);have f:=Qo9 (v:=val b);split<;>omega;rintro s ⟨u,v,rfl,f,k,l⟩;simp only[bifd,Jh];by_cases h0:2<(toL v).length;left;have g:v≠0:=by rintro rfl;rw[Wj] at h0;simp at h0
 rw[oi om,Qe2 d k l (Kc _) (Kc _),sbind,Jh,Jh,oh g];refine⟨_,rfl,⟨v,u%v,rfl,?_,l,?_⟩,?_⟩;rw[<-f,Nat.gcd_comm u v,Nat.gcd_rec v u,Nat.gcd_comm];exact ye (Wl (Nat.le_of_lt (uq u om))) l;simp only[Jh];exact Q7x g;right;rw[oh om];exact⟨_,rfl,u,v,rfl,f,k,om⟩;rintro t ⟨u,v,rfl,f,k,l⟩;simp only[bifd];by_cases h0:v=0;subst h0;rw[Wj,oi oz,<-f,Nat.gcd_zero_right];have x:(toL v).length≠0:=λh=>by rw[Zu h0] at h;simp at h
 have e:v<18446744073709551616:=by rcases xc v 18446744073709551616 with h | h;exact h;have:=Q2m h;omega
 have w:=uq u (show v > 0 by omega);have r:=Wl (Nat.le_of_lt w);rw[oh om,Qe2 d k om (Kc _) (Kc _),sbind,Jh,Jh,oh h0];simp only[];rw[Qn4 d om (Kc _),sbind,Qn4 d om (Kc _),sbind,Jh,Jh,oi e,oi om];simp only[];rw[Qsg d om,sbind,Qdb d (ye (Nat.gcd_le_left _ om) e),sbind,<-f,Nat.gcd_comm u v,Nat.gcd_rec v u,Nat.gcd_comm]
theorem Qrd{n:Nat}{a b:List Nat}(g:big<=n)(j:a.length<4398046511104)(hb:b.length<4398046511104)(e:Wd a)(f:Wd b):
 Qcj n a b=some (toL (val a / Nat.gcd (val a) (val b)),toL (val b / Nat.gcd (val a) (val b))):=by
 unfold Qcj;rw[Qu0 g j hb e f,sbind,bifd];have k:Nat.gcd (val a) (val b) ∣ val a:=Nat.gcd_dvd_left _ _;have l:Nat.gcd (val a) (val b) ∣ val b:=Nat.gcd_dvd_right _ _;have m:=Jo e;have p:=Jo f;have d:Nat.gcd (val a) (val b)=0\/(toL (Nat.gcd (val a) (val b))).length<4398046511104:=by by_cases h:val a=0;rw[h,Nat.gcd_zero_left];right;omega;right;exact ye (Wl (Nat.gcd_le_left _ om)) om
 by_cases h0:Nat.gcd (val a) (val b)=0;rw[h0,Wj,oi oz,Nat.div_zero,Nat.div_zero,Wj];have q:(toL (Nat.gcd (val a) (val b))).length≠0:=λh=>by rw[Zu h0] at h;simp at h
 rw[oh om,Quz,sbind,bifd];by_cases i:Nat.gcd (val a) (val b)=1;rw[oi i,Wf g om,sbind,Wf g om,sbind,i,Nat.div_one,Nat.div_one,K3 e,K3 f];have d:(toL (Nat.gcd (val a) (val b))).length<4398046511104:=by rcases d with h | h;exact absurd h h0;exact h
 rw[oh i,Qe2 g j d e (Kc _),sbind,Qe2 g hb d f (Kc _),sbind,Jh,oh h0,oh h0]
def wv(w:Qf):Int:=if w.Neg then -(val w.An:Int) else (val w.An:Int)
def toW(z:Int):Qf:=⟨decide (z<0),toL z.natAbs⟩
theorem Yl(z:Int):wv (toW z)=z:=by unfold wv toW;simp only[decide_eq_true_eq,Jh];split<;>omega
theorem Qsy{v:Nat}:0<(toL v).length↔v≠0:=by constructor;rintro h rfl;rw[Wj] at h;simp at h;intro h;rw[Zu h];simp
theorem W8{s:Bool}{v:Nat}:Vv s (toL v)=some (toW (if s then -(v:Int) else (v:Int))):=by unfold Vv toW;rw[jn_eq];cases s;rw[bifF];congr 2;rw[bifT];congr 2;exact decide_eq_decide.2 (by simp only[vh];have:=@Qsy v;omega);simp
def Ww(w:Qf):Prop:=Wd w.An/\w.An.length<4398046511104
theorem Qi7{n:Nat}{w:Qf}(a:big<=n)(h:Ww w):Zi n w=some (toW (wv w)):=by unfold Zi;rw[Wf a (by have:=h.2;omega),sbind,<-K3 h.1,W8,sbind];rfl
theorem Q9m(s t:Bool)(x y:Nat):(if (s != t) then -((x*y:Nat):Int) else ((x*y:Nat):Int))=(if s then -(x:Int) else (x:Int))*(if t then -(y:Int) else (y:Int)):=by cases s<;>cases t<;>simp[Int.neg_mul,Int.mul_neg]
theorem Qjq{n:Nat}{w u:Qf}(e:big<=n)(d:Ww w)(a:Ww u):Qc5 n w u=some (toW (wv w*wv u)):=by unfold Qc5;rw[Qb8 e (by have:=d.2;omega) (by have:=a.2;omega) d.1 a.1,sbind,W8,sbind,Q9m];rfl
theorem Q7y{x y:Nat}:cmpI x y<0↔x<y:=by by_cases h:x<y;simp[cmpI,h];rw[cmpI,oh h];split<;>omega
theorem Qjr{n:Nat}{w u:Qf}(f:big<=n)(e:Ww w)(d:Ww u):Qc6 n w u=some (toW (wv w+wv u)):=by unfold Qc6;have l1:=e.2;have i:=d.2;rw[Q0m f om om e.1 d.1,sbind,W8,sbind,Q0n f om om e.1 d.1,sbind,bifd,W8,sbind,W8,sbind];unfold wv;rcases w with ⟨s,a⟩;rcases u with ⟨t,b⟩;simp only[];generalize val a=x;generalize val b=y;have g:=@Q7y x y;cases s<;>cases t<;>simp only[beq_self_eq_true,bifT,bifF,Bool.false_eq_true,vh,if_false,show(false == true)=false by rfl,show(true == false)=false by rfl,g];congr 2;split<;>congr 2<;>omega;split<;>congr 2<;>omega;congr 2;omega
theorem Qn6{n:Nat}{w:Qf}(a:big<=n)(h:Ww w):Qe5 n w=some (toW (-wv w)):=by unfold Qe5;rw[Wf a (by have:=h.2;omega),sbind,<-K3 h.1,W8,sbind];unfold wv;cases w.Neg<;>simp
theorem Q9n(z:Int):(toW (-z)).An=(toW z).An:=by unfold toW;simp
theorem Z3(z:Int):Wd (toW z).An:=Kc _
theorem Qcz{n:Nat}{w:Qf}(a:big<=n)(h:Ww w):Zj n w=some (Int.sign (wv w)):=by unfold Zj wv;rw[Qkt a (by have:=h.2;omega) h.1,sbind,bifd];by_cases h0:val w.An=0;rw[oi h0,h0];cases w.Neg<;>rfl;rw[oh h0];cases w.Neg;rw[bifF,oh oy,wy om];rw[bifT,oi rfl,gy om]
theorem Qc0(w:Qf):(wv w).natAbs=val w.An:=by unfold wv;split<;>omega
theorem Jbu{w:Qf}(h:Ww w):Ww (toW (-wv w)):=by refine⟨Z3 _,?_⟩;rw[Q9n];show(toL (wv w).natAbs).length<_;rw[Qc0];exact ye (Jo h.1) h.2
theorem Qgt{n:Nat}{w u:Qf}(a:big<=n)(e:Ww w)(d:Ww u):Qbb n w u=some (toW (wv w - wv u)):=by unfold Qbb;rw[Qn6 a d,sbind,Qjr a e (Jbu d),sbind,Yl,Int.sub_eq_add_neg]
theorem Qwv{n:Nat}{w u:Qf}(a:big<=n)(e:Ww w)(d:Ww u)(h:Ww (toW (wv w - wv u))):Qha n w u=some (Int.sign (wv w - wv u)):=by unfold Qha;rw[Qgt a e d,sbind,Qcz a h,sbind,Yl]
def fv(f:Qa):Rat:=mkRat (wv f.Num) (val f.Den)
def toF(q:Rat):Qa:=⟨toW q.num,toL q.den⟩
theorem Qu(q:Rat):fv (toF q)=q:=by unfold fv toF;rw[Yl,Jh];exact Rat.mkRat_self q
theorem Qb9{z:Int}{d:Nat}(hd:d≠0):(mkRat z d).num=z / (Nat.gcd z.natAbs d:Int)/\(mkRat z d).den=d / Nat.gcd z.natAbs d:=by rw[<-Rat.normalize_eq_mkRat hd,Rat.normalize_eq];exact⟨rfl,rfl⟩
theorem Q9o(s:Bool)(x g:Nat)(h:g ∣ x):(if s then -((x / g:Nat):Int) else ((x / g:Nat):Int))=(if s then -(x:Int) else (x:Int)) / (g:Int):=by cases s;simp;simp only[vh];rw[Int.neg_ediv_of_dvd (Int.natCast_dvd_natCast.2 h)];simp
theorem Z9{n:Nat}{w:Qf}{d:List Nat}(g:big<=n)(e:Ww w)(hd:Wd d)(l:d.length<4398046511104)(h0:val d≠0):X9 n w d=some (toF (mkRat (wv w) (val d))):=by unfold X9;have f:=e.2;have k:Nat.gcd (val w.An) (val d) ∣ val w.An:=Nat.gcd_dvd_left _ _;have a:(toL (val w.An / Nat.gcd (val w.An) (val d))).length<4398046511104:=ye (xx (Wl (wj _ _)) (Jo e.1)) f;rw[Qrd g f l e.1 hd,sbind,Qi7 g ⟨Kc _,a⟩,sbind];obtain⟨i,j⟩:=Qb9 (z:=wv w) h0;unfold toF;rw[i,j,Qc0];congr 2;unfold wv;rw[Jh];congr 1;exact Q9o _ _ _ k
def Fw(f:Qa):Prop:=Ww f.Num/\Wd f.Den/\f.Den.length<4398046511104
theorem Qml{n:Nat}{f:Qa}(d:big<=n)(g:Fw f):∃ p,Vd n f=some p/\Ww p.1/\Wd p.2/\p.2.length<=max 1 f.Den.length/\p.1.An.length<=f.Num.An.length/\val p.2≠0/\mkRat (wv p.1) (val p.2)=fv f:=by obtain⟨e,a,i⟩:=g;unfold Vd fv;rw[Qkt d om a,sbind,bifd];by_cases h0:val f.Den=0;rw[oi h0,Qdb d om,sbind];refine⟨_,rfl,⟨X0,oa⟩,Kc _,?_,oa,by simp only[Jh];decide,?_⟩;have:=Ye (n:=1) (k:=1) (by rw[We,Zg];omega);simp only[];omega;simp only[Jh,h0,Rat.mkRat_zero];rfl;rw[oh h0];exact⟨_,rfl,e,a,by simp only[];omega,xd _,h0,rfl⟩
theorem Ju{n:Nat}{f:Qa}(d:big<=n)(a:Fw f):Jy n f=some (toF (fv f)):=by obtain⟨p,e,g,i,l,m,j,k⟩:=Qml d a;unfold Jy;rw[e,sbind,Z9 d g i (by have:=a.2.2;omega) j,sbind,k]
theorem Qbl{x y:Nat}:(toL (x*y)).length<=(toL x).length+(toL y).length:=by refine Ye ?_;have a:=Yk (Kc x);have d:=Yk (Kc y);rw[Jh] at a d;rw[Jbp];exact Nat.mul_lt_mul'' a d
theorem Qry{x y k:Nat}(d:(toL x).length<=k)(e:(toL y).length<=k):(toL (x+y)).length<=k+1:=by refine Ye ?_;have g1:=Yk (Kc x);have a:=Yk (Kc y);rw[Jh] at g1 a;have g3:=bp_le d;have g4:=bp_le e;rw[We];omega
theorem Zs{n:Nat}{w:Qf}{d:List Nat}(e:big<=n)(f:Ww w)(hd:Wd d)(a:d.length<4398046511104):X3 n w d=some (toW (wv w*(val d:Int))):=by unfold X3;rw[Qjq e f ⟨hd,a⟩,sbind];rfl
def Fk(k:Nat)(f:Qa):Prop:=Wd f.Num.An/\f.Num.An.length<=k/\Wd f.Den/\f.Den.length<=k
theorem Fk_Fw{k:Nat}{f:Qa}(h:Fk k f)(hk:k<4398046511104):Fw f:=⟨⟨h.1,by have:=h.2.1;omega⟩,h.2.2.1,by have:=h.2.2.2;omega⟩
theorem Qca{n k:Nat}{f:Qa}(q:big<=n)(a:Fk k f)(e:1<=k)(hk:k<4398046511104):∃ w d,Vd n f=some (w,d)/\Wd w.An/\w.An.length<=k/\Wd d/\d.length<=k/\val d≠0/\mkRat (wv w) (val d)=fv f:=by obtain⟨⟨w,d⟩,e,g,i,j,l,m,p⟩:=Qml q (Fk_Fw a hk);exact⟨w,d,e,g.1,xx l a.2.1,i,by have:=a.2.2.2;simp only at j;omega,m,p⟩
theorem Qhy{w:Qf}{y k j:Nat}(a:Wd w.An)(d:w.An.length<=k)(e:(toL y).length<=j):(toW (wv w*(y:Int))).An.length<=k+j:=by unfold toW;simp only[];rw[Int.natAbs_mul,Qc0,Int.natAbs_natCast];have:=@Qbl (val w.An) y;have:=Jo a;omega
theorem K5{n k:Nat}{f g:Qa}(a:big<=n)(p:1<=k)(hk:k<1099511627776)(y:Fk k f)(A:Fk k g):K4 n f g=some (toF (fv f+fv g)):=by
 obtain⟨w,d,a1,a2,a3,a4,a5,j,r⟩:=Qca a y p om;obtain⟨u,e,s,l,t,i,v,m,x⟩:=Qca a A p om;have l1:=Qhy a2 a3 (xx (Jo i) v);have q:=Qhy l t (xx (Jo a4) a5);unfold K4;rw[a1,sbind,s,sbind,Zs a ⟨a2,om⟩ i om,sbind,Zs a ⟨l,om⟩ a4 om,sbind,Qjr a ⟨Z3 _,om⟩ ⟨Z3 _,om⟩,sbind,Qb8 a om om a4 i,sbind];have B:=@Qbl (val d) (val e);have C:=Jo a4;have E:=Jo i;rw[Yl,Yl];have hs:(toW (wv w * ↑(val e)+wv u * ↑(val d))).An.length<=2*k+1:=by
  unfold toW at l1 q |-;simp only[] at l1 q |-;have:=Int.natAbs_add_le (wv w * ↑(val e)) (wv u * ↑(val d));exact xx (Wl this) (Qry om om)
 rw[Z9 a ⟨Z3 _,om⟩ (Kc _) om (by rw[Jh];exact wo j m),sbind,Jh,Yl,<-r,<-x,Rat.mkRat_add_mkRat _ _ j m]
theorem Qe3{n k:Nat}{f g:Qa}(a:big<=n)(p:1<=k)(hk:k<1099511627776)(y:Fk k f)(A:Fk k g):Qa4 n f g=some (toF (fv f - fv g)):=by
 obtain⟨w,d,a1,a2,a3,a4,a5,j,r⟩:=Qca a y p om;obtain⟨u,e,s,l,t,i,v,m,x⟩:=Qca a A p om;have l1:=Qhy a2 a3 (xx (Jo i) v);have q:=Qhy l t (xx (Jo a4) a5);unfold Qa4;rw[a1,sbind,s,sbind,Zs a ⟨a2,om⟩ i om,sbind,Zs a ⟨l,om⟩ a4 om,sbind,Qgt a ⟨Z3 _,om⟩ ⟨Z3 _,om⟩,sbind,Qb8 a om om a4 i,sbind];have B:=@Qbl (val d) (val e);have C:=Jo a4;have E:=Jo i;rw[Yl,Yl];have hs:(toW (wv w * ↑(val e) - wv u * ↑(val d))).An.length<=2*k+1:=by
  unfold toW at l1 q |-;simp only[] at l1 q |-;have:=Int.natAbs_sub_le (wv w * ↑(val e)) (wv u * ↑(val d));exact xx (Wl this) (Qry om om)
 rw[Z9 a ⟨Z3 _,om⟩ (Kc _) om (by rw[Jh];exact wo j m),sbind,Jh,Yl,<-r,<-x,Rat.sub_eq_add_neg,Rat.neg_mkRat,Rat.mkRat_add_mkRat _ _ j m,Int.neg_mul,<-Int.sub_eq_add_neg]
theorem K6{n k:Nat}{f g:Qa}(a:big<=n)(l:1<=k)(hk:k<1099511627776)(t:Fk k f)(v:Fk k g):Ki n f g=some (toF (fv f*fv g)):=by
 obtain⟨w,d,a1,a2,a3,a4,a5,m,p⟩:=Qca a t l om;obtain⟨u,e,q,i,x,j,y,r,s⟩:=Qca a v l om;unfold Ki;rw[a1,sbind,q,sbind,Qjq a ⟨a2,om⟩ ⟨i,om⟩,sbind,Qb8 a om om a4 j,sbind];have B:=@Qbl (val d) (val e);have C:=Jo a4;have E:=Jo j;have hs:(toW (wv w*wv u)).An.length<=2*k:=by unfold toW;simp only[];rw[Int.natAbs_mul,Qc0,Qc0];have g1:=@Qbl (val w.An) (val u.An);have A:=Jo a2;have g3:=Jo i;omega
 rw[Z9 a ⟨Z3 _,om⟩ (Kc _) om (by rw[Jh];exact wo m r),sbind,Jh,Yl,<-p,<-s,Rat.mkRat_mul_mkRat]
theorem Q9p(q:Rat):toF (-q)=⟨toW (-q.num),toL q.den⟩:=rfl
theorem Jbv{f:Qa}(a:Fw f):Ww (toF (fv f)).Num:=by
 refine⟨Z3 _,?_⟩;show(toL (fv f).num.natAbs).length<_;by_cases h0:val f.Den=0;unfold fv;rw[h0,Rat.mkRat_zero];simp[Wj];obtain⟨d,_⟩:=Qb9 (z:=wv f.Num) h0;unfold fv;rw[d];have e:(wv f.Num / (Nat.gcd (wv f.Num).natAbs (val f.Den):Int)).natAbs<=val f.Num.An:=by rw[<-Qc0];exact Int.natAbs_ediv_le_natAbs _ _
 exact ye (xx (Wl e) (Jo a.1.1)) a.1.2
theorem Qcb{n:Nat}{f:Qa}(d:big<=n)(a:Fw f):Qab n f=some (toF (-fv f)):=by unfold Qab;have h:=Jbv a;rw[Ju d a,sbind,Qn6 d h,sbind,Q9p];unfold toF;simp only[Yl]
theorem Qn7{a b:Int}{d e:Nat}(hd:d≠0)(f:e≠0):Int.sign (a*(e:Int) - b*(d:Int))=Int.sign (mkRat a d - mkRat b e).num:=by rw[Rat.sub_eq_add_neg,Rat.neg_mkRat,Rat.mkRat_add_mkRat _ _ hd f,Int.neg_mul,<-Int.sub_eq_add_neg];generalize a*(e:Int) - b*(d:Int)=z;have h0:d*e≠0:=wo hd f;obtain⟨i,_⟩:=Qb9 (z:=z) h0;rw[i];have k:(Nat.gcd z.natAbs (d*e):Int) ∣ z:=Int.dvd_natAbs.1 (Int.natCast_dvd_natCast.2 (Nat.gcd_dvd_left _ _));obtain⟨c,j⟩:=k;have l:0<Nat.gcd z.natAbs (d*e):=Nat.gcd_pos_of_pos_right _ om;generalize Nat.gcd z.natAbs (d*e)=g at *;subst j;rw[Int.mul_ediv_cancel_left _ om,Int.sign_mul,wy om,Int.one_mul]
theorem Xa{n k:Nat}{f g:Qa}(a:big<=n)(l:1<=k)(hk:k<1099511627776)(y:Fk k f)(A:Fk k g):W3 n f g=some (Int.sign (fv f - fv g).num):=by
 obtain⟨w,d,a1,a2,a3,a4,a5,p,q⟩:=Qca a y l om;obtain⟨u,e,r,i,s,j,t,v,x⟩:=Qca a A l om;have l1:=Qhy a2 a3 (xx (Jo j) t);have m:=Qhy i s (xx (Jo a4) a5);have hs:(toW (wv w * ↑(val e) - wv u * ↑(val d))).An.length<=2*k+1:=by unfold toW at l1 m |-;simp only[] at l1 m |-;have:=Int.natAbs_sub_le (wv w * ↑(val e)) (wv u * ↑(val d));exact xx (Wl this) (Qry om om)
 unfold W3;rw[a1,sbind,r,sbind,Zs a ⟨a2,om⟩ j om,sbind,Zs a ⟨i,om⟩ a4 om,sbind,Qwv a ⟨Z3 _,om⟩ ⟨Z3 _,om⟩ (by rw[Yl,Yl];exact⟨Z3 _,om⟩),sbind,Yl,Yl,Qn7 p v,q,x]
theorem Qww:∀ {a b:List Nat},Wd a->Wd b->a.length=b.length->val a=val b->a=b
 | [],[],_,_,_,_=>rfl
 | [],_::_,_,_,h,_=>by simp at h
 | _::_,[],_,_,h,_=>by simp at h
 | x::a,y::b,f,hb,g,i=>by
   obtain⟨j,d⟩:=Kv.1 f;obtain⟨k,e⟩:=Kv.1 hb;simp only[val] at i;have:x=y:=om
   subst this;rw[Qww d e (by simpa using g) om]
theorem Qmm{x y:Nat}:cmpI x y=0↔x=y:=by unfold cmpI;split;constructor<;>intro h<;>omega;split;constructor<;>intro h<;>omega;constructor<;>intro h<;>omega
open Classical in
theorem Qi8{n:Nat}{f:Qa}(r:big<=n)(v:Fw f):Vq n f=some (decide (f=toF (fv f))):=by
 unfold Vq;rw[Ju r v,sbind,jn_eq];have w1:Wd (toF (fv f)).Num.An:=Kc _;have u:Wd (toF (fv f)).Den:=Kc _;generalize toF (fv f)=g at *;obtain⟨⟨p,w⟩,q,x⟩:=v;obtain⟨⟨s,a⟩,d⟩:=f;obtain⟨⟨t,b⟩,e⟩:=g;simp only at p w q x w1 u |-;have i:∀ {P:Prop},(P->False)->(some false:Option Bool)=some (decide P):=λh=>by rw[oo h]
 by_cases c1:s=t;subst c1;rw[show(s == s)=true by simp,bifT];by_cases l:(a.length:Int)=(b.length:Int)
 rw[oj l,bifT];by_cases m:(d.length:Int)=(e.length:Int)
 rw[oj m,bifT,Qgg r om om p w1,sbind];by_cases j:val a=val b;rw[oj (Qmm.2 j),bifT,Qgg r om om q u,sbind];by_cases k:val d=val e;rw[oj (Qmm.2 k),Qww p w1 om j,Qww q u om k,oj rfl];rw[oo λh=>k (Qmm.1 h)];exact i λh=>by cases h;exact k rfl
 rw[oo λh=>j (Qmm.1 h),bifF];exact i λh=>by cases h;exact j rfl
 rw[oo m,bifF];exact i λh=>by cases h;exact m rfl
 rw[oo l,bifF];exact i λh=>by cases h;exact l rfl
 rw[show(s == t)=false by simpa using c1,bifF];exact i λh=>by cases h;exact c1 rfl
def qw(q:Rat):Nat:=max (toL q.num.natAbs).length (toL q.den).length
theorem Kq{j k:Nat}{f:Qa}(h:Fk j f)(hk:j<=k):Fk k f:=⟨h.1,by have:=h.2.1;omega,h.2.2.1,by have:=h.2.2.2;omega⟩
theorem Qz{q:Rat}{k:Nat}(h:qw q<=k):Fk k (toF q):=by unfold qw at h;exact⟨Z3 _,by show(toL q.num.natAbs).length<=k;omega,Kc _,by show(toL q.den).length<=k;omega⟩
theorem toL1:(toL 1).length=1:=by rw[Zu oy];simp[Wj]
theorem Qpa{z:Int}{d k:Nat}(hd:d≠0)(g:(toL z.natAbs).length<=k)(i:(toL d).length<=k):qw (mkRat z d)<=k:=by obtain⟨a,e⟩:=Qb9 (z:=z) hd;unfold qw;rw[a,e];have g1:=Wl (Int.natAbs_ediv_le_natAbs z (Nat.gcd z.natAbs d:Int));have f:=Wl (wj d (Nat.gcd z.natAbs d));omega
theorem Qaa:qw 0=1:=by unfold qw;rw[show(0:Rat).num=0 from rfl,show(0:Rat).den=1 from rfl,toL1];simp[Wj]
theorem Jbw(q:Rat):1<=qw q:=by have:=(Qsy (v:=q.den)).2 q.den_nz;unfold qw;omega
theorem qw_fv{f:Qa}{k:Nat}(h:Fk k f)(a:1<=k):qw (fv f)<=k:=by unfold fv;by_cases h0:val f.Den=0;rw[h0,Rat.mkRat_zero,Qaa];exact a;refine Qpa h0 ?_ ?_;rw[Qc0];exact xx (Jo h.1) h.2.1;exact xx (Jo h.2.2.1) h.2.2.2
theorem Qkf(q:Rat):(toL q.num.natAbs).length<=qw q:=by unfold qw;omega
theorem Qre(q:Rat):(toL q.den).length<=qw q:=by unfold qw;omega
theorem Xi{a b:Rat}{j k:Nat}(f:qw a<=j)(hb:qw b<=k):qw (a*b)<=j+k:=by rw[<-Rat.mkRat_self a,<-Rat.mkRat_self b,Rat.mkRat_mul_mkRat];have g:=Qkf a;have i:=Qkf b;have d:=Qre a;have e:=Qre b;have:=@Qbl a.num.natAbs b.num.natAbs;have:=@Qbl a.den b.den;exact Qpa (wo a.den_nz b.den_nz) (by rw[Int.natAbs_mul];omega) om
theorem Zt{a b:Rat}{j k:Nat}(f:qw a<=j)(hb:qw b<=k):qw (a+b)<=j+k+1:=by rw[<-Rat.mkRat_self a,<-Rat.mkRat_self b,Rat.mkRat_add_mkRat _ _ a.den_nz b.den_nz];have m:=Qkf a;have n:=Qkf b;have d:=Qre a;have e:=Qre b;have g:=@Qbl a.num.natAbs b.den;have i:=@Qbl b.num.natAbs a.den;have l:=@Qbl a.den b.den;refine Qpa (wo a.den_nz b.den_nz) ?_ om;refine xx (Wl (Int.natAbs_add_le _ _)) ?_;rw[Int.natAbs_mul,Int.natAbs_mul,Int.natAbs_natCast,Int.natAbs_natCast];exact Qry om om
theorem Qrz(a:Rat):(-a).num=-a.num:=rfl
theorem Q2s(a:Rat):(-a).den=a.den:=rfl
theorem Qkg(a:Rat):qw (-a)=qw a:=by unfold qw;rw[Qrz,Q2s,Int.natAbs_neg]
theorem Qn8{a b:Rat}{j k:Nat}(d:qw a<=j)(hb:qw b<=k):qw (a - b)<=j+k+1:=by rw[Rat.sub_eq_add_neg];exact Zt d (by rw[Qkg];exact hb)
theorem Q56{a:Rat}{j:Nat}(g:qw a<=j):qw a⁻¹<=j:=by
 have i:=Qkf a;have d:=Qre a;have p:=Jbw a;unfold qw;rw[Rat.num_inv,Rat.den_inv];have e:(toL (a.num.sign*(a.den:Int)).natAbs).length<=j:=by
  rw[Int.natAbs_mul,Int.natAbs_natCast];refine xx (Wl (y:=a.den) ?_) om;have:a.num.sign.natAbs<=1:=by rw[Int.natAbs_sign];split<;>omega
  calc a.num.sign.natAbs*a.den<=1*a.den:=xq _ this
   _=a.den:=Nat.one_mul _
 have f:(toL (if a.num=0 then 1 else a.num.natAbs)).length<=j:=by
  split
  . rw[toL1];omega
  . omega
 omega
theorem Ql0{a b:Rat}{j k:Nat}(d:qw a<=j)(hb:qw b<=k):qw (a / b)<=j+k:=by rw[Rat.div_def];exact Xi d (Q56 hb)
theorem Q57{a:Rat}{j:Nat}(d:qw a<=j):∀ n:Nat,qw (a ^ n)<=n*j+1
 | 0=>by rw[Rat.pow_zero];unfold qw;rw[show(1:Rat).num=1 from rfl,show(1:Rat).den=1 from rfl,show(1:Int).natAbs=1 from rfl,toL1];omega
 | n+1=>by have:=Xi (Q57 d n) d;rw[Rat.pow_succ,ua];omega
theorem Q9q(x:Int):toF (x:Rat)=⟨toW x,toL 1⟩:=by unfold toF;rw[Rat.num_intCast,Rat.den_intCast]
theorem Qkw{n:Nat}{x:Int}(a:big<=n)(d:-9223372036854775808<=x)(f:x<=9223372036854775807):Qeg n x=some (toW x):=by
 unfold Qeg;rw[bifd];split;rename_i h;have e:(18446744073709551616 - Int.toNat (x%18446744073709551616))%18446744073709551616=x.natAbs:=om
 rw[sbind,e,Qdb a om,sbind,W8,sbind,oi rfl,show -((x.natAbs:Nat):Int)=x by omega];rename_i h;have e:Int.toNat (x%18446744073709551616)=x.natAbs:=om
 rw[e,Qdb a om,sbind,W8,sbind,oh oy,show((x.natAbs:Nat):Int)=x by omega]
theorem Qd7{n:Nat}{x:Int}(a:big<=n)(d:-9223372036854775808<=x)(e:x<=9223372036854775807):Jj n x=some (toF (x:Rat)):=by unfold Jj;rw[Qkw a d e,sbind,Qdb a oy,sbind,Q9q]
theorem Wr{n:Nat}(a:big<=n):Jj n 0=some (toF 0):=Qd7 a oy oy
theorem Zw{n:Nat}(a:big<=n):Jj n 1=some (toF 1):=Qd7 a oy oy
theorem Q38{z:Int}{d:Nat}(hd:d≠0):(mkRat z d).num.sign=z.sign:=by have:=Qn7 (a:=z) (b:=0) hd (e:=1) oy;rw[Rat.zero_mkRat,show mkRat z d - 0=mkRat z d by rw[Rat.sub_eq_add_neg,show(-0:Rat)=0 from rfl,Rat.add_zero]] at this;rw[<-this];simp
theorem Xx{n k:Nat}{f:Qa}(a:big<=n)(i:1<=k)(hk:k<1099511627776)(j:Fk k f):Wo n f=some (fv f).num.sign:=by obtain⟨w,d,a1,a2,a3,a4,a5,e,g⟩:=Qca a j i om;unfold Wo;rw[a1,sbind,Qcz a ⟨a2,om⟩,sbind,<-g,Q38 e]
theorem Q0p{a b:Rat}:(a - b).num=0↔a=b:=by rw[Rat.num_eq_zero];grind
theorem Qbm{n k:Nat}{f g:Qa}(i:big<=n)(a:1<=k)(hk:k<1099511627776)(d:Fk k f)(e:Fk k g):Xh n f g=some (decide (fv f=fv g)):=by unfold Xh;rw[Xa i a hk d e,sbind];refine ue some (decide_eq_decide.2 ?_);rw[wc,Q0p]
def absQ(q:Rat):Rat:=if q.num<0 then -q else q
theorem Q9r(q:Rat):toF (absQ q)=⟨⟨false,(toF q).Num.An⟩,(toF q).Den⟩:=by unfold absQ toF toW;split;rw[Qrz,Q2s,Int.natAbs_neg,oo om];rw[oo om]
theorem Qyu{n k:Nat}{f:Qa}(d:big<=n)(hk:k<1099511627776)(a:Fk k f):Qip n f=some (toF (absQ (fv f))):=by unfold Qip;rw[Ju d (Fk_Fw a om),sbind,Q9r]
def qz(q:Rat):Nat:=blen q.num.natAbs+blen q.den
theorem Qwx{n k:Nat}{f:Qa}(e:big<=n)(hk:k<1099511627776)(g:Fk k f):V9 n f=some ((blen (val f.Num.An)+blen (val f.Den):Nat):Int):=by unfold V9;obtain⟨a,p,d,q⟩:=g;have i:=@Qo9 (val f.Num.An);have j:=@Qo9 (val f.Den);have l:=Jo a;have m:=Jo d;rw[Qpz e om a,sbind,Qpz e om d,sbind,w64 om om];rfl
theorem Qmn{n:Nat}{q:Rat}(a:big<=n)(hk:qw q<1099511627776):V9 n (toF q)=some (qz q:Int):=by rw[Qwx a hk (Qz (xd _))];unfold qz toF toW;simp only[Jh]
theorem Qu1{v b:Nat}(h:blen v<=b):(toL v).length<=b / 32+1:=by refine Ye ?_;have a:=@Qwq v;rw[Qra];exact xi a (wk oy om)
theorem qw_qz{q:Rat}{b:Nat}(h:qz q<=b):qw q<=b / 32+1:=by unfold qz at h;have a:=@Qu1 q.num.natAbs b om;have d:=@Qu1 q.den b om;unfold qw;omega
theorem Q9s:∀ {u:Qf},wv u≠0->(wv u).sign=if u.Neg then -1 else 1
 | ⟨false,a⟩,h=>by have e:wv ⟨false,a⟩=(val a:Int):=rfl;rw[e] at h |-;rw[wy om];rfl
 | ⟨true,a⟩,h=>by have e:wv ⟨true,a⟩=-(val a:Int):=rfl;rw[e] at h |-;rw[gy om];rfl
theorem Q58{z:Int}{d:Nat}(a:z≠0)(hd:d≠0):(mkRat z d)⁻¹=mkRat (z.sign*(d:Int)) z.natAbs:=by
 have h0:mkRat z d≠0:=λh=>a ((Rat.mkRat_eq_zero hd).1 h);have e:mkRat z d*mkRat (z.sign*(d:Int)) z.natAbs=1:=by rw[Rat.mkRat_mul_mkRat,<-Int.mul_assoc,Int.mul_sign_self,show(1:Rat)=mkRat 1 1 from rfl,Rat.mkRat_eq_iff (wo hd om) oy];simp[Int.mul_comm]
 grind
theorem Qav{n k:Nat}{f g:Qa}(a:big<=n)(s:1<=k)(hk:k<1099511627776)(F:Fk k f)(G:Fk k g):Xz n f g=some (if fv g=0 then (toF 0,false) else (toF (fv f / fv g),true)):=by
 obtain⟨w,d,a1,a2,a3,a4,a5,y,A⟩:=Qca a F s om;obtain⟨u,e,B,j,H,p,C,q,l⟩:=Qca a G s om;unfold Xz;rw[a1,sbind,B,sbind,Qcz a ⟨j,om⟩,sbind,bifd];have v:(wv u).sign=0↔fv g=0:=by rw[<-l,Rat.mkRat_eq_zero q,wc]
 by_cases h0:fv g=0;rw[oi (v.2 h0),oi h0,Wr a,sbind];rw[oh (λh=>h0 (v.1 h)),oh h0,Zs a ⟨a2,om⟩ p om,sbind,Qb8 a om om a4 j,sbind];have l1:=Qhy a2 a3 (xx (Jo p) C);have I:=@Qbl (val d) (val u.An);have J:=Jo a4;have K:=Jo j;have i:wv u≠0:=λh=>h0 (by rw[<-l,h,Rat.zero_mkRat]);have m:val u.An≠0:=by rw[<-Qc0];omega
 rw[Z9 (w:=⟨(toW (wv w * ↑(val e))).Neg != u.Neg,(toW (wv w * ↑(val e))).An⟩) a ⟨Z3 (wv w * ↑(val e)),by show(toW (wv w * ↑(val e))).An.length<_;omega⟩ (Kc _) om (by rw[Jh];exact wo y m),sbind,Jh];refine ue some (Prod.ext ?_ rfl);refine ue toF ?_;have E:wv (⟨((toW (wv w * ↑(val e))).Neg != u.Neg),(toW (wv w * ↑(val e))).An⟩:Qf)=(wv w*(val e:Int))*(wv u).sign:=by
  have t:=Yl (wv w * ↑(val e));generalize toW (wv w * ↑(val e))=x at t |-;rw[<-t];have hs:=Q9s i;rw[hs];unfold wv;cases x.Neg<;>cases u.Neg<;>simp
 rw[E,<-A,<-l,Rat.div_def];have r:=Q58 i q;rw[Qc0] at r;rw[r,Rat.mkRat_mul_mkRat];congr 1;rw[Int.mul_assoc,Int.mul_comm (val e:Int)]
theorem Qr0{v j:Nat}(h:(toL v).length<=j):∀ t,(toL (v ^ t)).length<=t*j+1
 | 0=>by rw[Nat.pow_zero,toL1];omega
 | t+1=>by have:=Qr0 h t;have:=@Qbl (v ^ t) v;rw[Nat.pow_succ,ua];omega
theorem Qmo{n j t:Nat}{a:List Nat}(d:big<=n)(e:Wd a)(f:a.length<=j)(l:j<1099511627776)(m:t<=7+1):Qdt n a (t:Int)=some (toL (val a ^ t)):=by unfold Qdt;rw[Qdb d oy,sbind];rw[Qlz (λi=>(toL (val a ^ i),(i:Int))) t (toL (val a ^ t))];intro i hi;have g:=Qr0 (xx (Jo e) f) i;have k:i*j<=8*j:=xq _ om;simp only[bifd];rw[oi om,Qb8 d om om (Kc _) e,sbind,Jh,w1 om,Nat.pow_succ];simp only[bifd];rw[oh om];unfold big at d;omega;rfl
theorem Q2t(z:Int)(t:Nat):(if (decide (z<0) && decide (t%2=1))=true then -((z.natAbs ^ t:Nat):Int) else ((z.natAbs ^ t:Nat):Int))=z ^ t:=by
 rw[Int.natCast_pow];by_cases a:z<0;have e:(z.natAbs:Int)=-z:=om
 rw[e,oj a,Bool.true_and];rcases Nat.mod_two_eq_zero_or_one t with h | h;rw[oh (by rw[h];decide)];obtain⟨m,rfl⟩:∃ m,t=2*m:=⟨t / 2,om⟩
 rw[Int.pow_mul,Int.pow_mul];congr 1;rw[wq,wq,wq,wq];simp[Int.neg_mul_neg];rw[oi (by rw[h];decide)];obtain⟨m,rfl⟩:∃ m,t=2*m+1:=⟨t / 2,om⟩
 rw[wq,wq,Int.pow_mul,Int.pow_mul];have:(-z) ^ 2=z ^ 2:=by rw[wq,wq,wq,wq];simp[Int.neg_mul_neg]
 rw[this,Int.mul_neg,Int.neg_neg];have e:(z.natAbs:Int)=z:=om
 rw[oo a,Bool.false_and,oh oy,e]
theorem Qhs{n k:Nat}{f:Qa}{e:Int}(a:big<=n)(G:1<=k)(hk:k<1099511627)(v:Fk k f):
 Qcl n f e=some (if e < -8\/8<e\/(e<0/\fv f=0) then (toF 0,false) else (toF (fv f ^ e),true)):=by
 unfold Qcl;simp only[jn_eq];by_cases c1:e < -8;rw[oj c1,bifT,bifT,Wr a,sbind,oi (.inl c1)];rw[oo c1,bifF];by_cases g:8<e;rw[oj g,bifT,bifT,Wr a,sbind,oi (.inr (.inl g))];rw[oo g,bifF];have K:=Xx a G om v;have L:=qw_fv v G;have J:Fk k (toF (fv f)):=Qz L;obtain⟨g1,F,g3,g4⟩:=J;have H:=Ju a (Fk_Fw v om);have l:max e (wrap64 (-e))=((e.natAbs:Nat):Int):=by rw[w64 om om];omega
 have A:=Qmo (t:=e.natAbs) a g1 F om om;have B:=Qmo (t:=e.natAbs) a g3 g4 om om;have l1:=Qr0 (xx (Jo g1) F) e.natAbs;have M:=Qr0 (xx (Jo g3) g4) e.natAbs;have R:e.natAbs*k<=8*k:=xq _ om;have i:decide (Int.tmod ((e.natAbs:Nat):Int) 2=1)=decide (e.natAbs%2=1):=by refine decide_eq_decide.2 ?_;rw[Int.tmod_eq_emod_of_nonneg om];omega
 have N:val (toF (fv f)).Num.An=(fv f).num.natAbs:=Jh _;have O:val (toF (fv f)).Den=(fv f).den:=Jh _;have v3:(toF (fv f)).Num.Neg=decide ((fv f).num<0):=rfl;rw[N] at A l1;rw[O] at B M
 have fin:∀(u d:Nat),(toL u).length<=8*k+1->(if (toF (fv f)).Num.Neg=true then (Zi n (⟨decide (Int.tmod (max e (wrap64 (-e))) 2=1),toL u⟩:Qf)).bind λC=>some ((⟨C,toL d⟩:Qa),true) else (Zi n (⟨false,toL u⟩:Qf)).bind λE=>some ((⟨E,toL d⟩:Qa),true)) =
  some (⟨toW (if (decide ((fv f).num<0) && decide (e.natAbs%2=1))=true then -(u:Int) else (u:Int)),toL d⟩,true):=by
  intro u d Q;rw[l,i,v3];by_cases r:(fv f).num<0;rw[oi (oj r),Qi7 a ⟨Kc _,by show(toL u).length<_;omega⟩,sbind,oj r,Bool.true_and];unfold wv;simp only[Jh];rw[oh (by rw[oo r];decide),Qi7 a ⟨Kc _,by show(toL u).length<_;omega⟩,sbind,oo r,Bool.false_and];unfold wv;simp only[Jh]
 have bifi:∀ {α:Type}(b:Bool) (x y:α),(bif b then x else y)=if b=true then x else y:=λb x y=>by cases b<;>rfl
 by_cases m:e<0;rw[oj m,bifT,K,sbind];by_cases p:fv f=0;rw[p,show((0:Rat).num.sign)=0 from rfl,oj rfl,bifT,Wr a,sbind,oi (.inr (.inr ⟨m,p ▸ rfl⟩))];have j:(fv f).num≠0:=λh=>p (Rat.num_eq_zero.1 h);rw[oo (by rw[wc];exact j),bifF,H,sbind,l,A,sbind,B,sbind,bifT];rw[bifi,<-l,fin _ _ om,oh (c:=e < -8\/8<e\/(e<0/\fv f=0)) (by rintro(h | h | h);exact c1 h;exact g h;exact p h.2)];refine ue some (Prod.ext ?_ rfl);have I:e=-((e.natAbs:Nat):Int):=om
 have s:fv f ^ e=(fv f ^ e.natAbs)⁻¹:=by rw[<-Rat.zpow_natCast,<-Rat.zpow_neg,<-I]
 rw[s];unfold toF;rw[Rat.num_inv,Rat.den_inv,Rat.num_pow,Rat.den_pow];have w:(fv f).num ^ e.natAbs≠0:=Int.pow_ne_zero j;rw[oh w,Int.natAbs_pow];have hs:=Q2t (fv f).num e.natAbs;have P:0<(fv f).num.natAbs ^ e.natAbs:=Nat.pow_pos om;congr 2;rw[<-hs];by_cases q:(decide ((fv f).num<0) && decide (e.natAbs%2=1))=true;rw[oi q,oi q,gy om,Int.neg_mul,Int.one_mul];rw[oh q,oh q,wy om,Int.one_mul];rw[oo m,bifF,bifF,H,sbind,l,A,sbind,B,sbind,bifF];rw[bifi,<-l,fin _ _ om,oh (c:=e < -8\/8<e\/(e<0/\fv f=0)) (by rintro(h | h | h);exact c1 h;exact g h;exact m h.1)];refine ue some (Prod.ext ?_ rfl);have s:fv f ^ e=fv f ^ e.natAbs:=by
  rw[<-Rat.zpow_natCast,show((e.natAbs:Nat):Int)=e by omega]
 rw[s];unfold toF;rw[Rat.num_pow,Rat.den_pow,Q2t]
theorem Qr1{a:Rat}{j:Nat}(f:qw a<=j){e:Int}(h:e.natAbs<=8):qw (a ^ e)<=8*j+1:=by
 have i:e.natAbs*j<=8*j:=xq _ om;have g:=Q57 f e.natAbs;rcases Int.lt_or_le e 0 with c | c;have d:a ^ e=(a ^ e.natAbs)⁻¹:=by rw[<-Rat.zpow_natCast,<-Rat.zpow_neg,show -((e.natAbs:Nat):Int)=e by omega]
 rw[d];exact Q56 om;have d:a ^ e=a ^ e.natAbs:=by rw[<-Rat.zpow_natCast,show((e.natAbs:Nat):Int)=e by omega]
 rw[d];omega
def maxQ(a b:Rat):Rat:=if 0<(b - a).num.sign then b else a
theorem Qwy{n k:Nat}{f g:Qa}(a:big<=n)(d:1<=k)(hk:k<1099511627776)(e:Fk k f)(i:Fk k g):Qiq n [f,g]=some (toF (maxQ (fv f) (fv g))):=by unfold Qiq;simp only[jn_eq,rangeL];have j:Fk k (toF (fv f)):=Qz (qw_fv e d);rw[Wr a,sbind,show decide (((0:Nat):Int)=0)=true from rfl,bifT,bifT,Ju a (Fk_Fw e om),sbind,sbind];simp only[];rw[show decide (((0+1:Nat):Int)=0)=false from rfl,bifF,Xa a d hk i j,sbind,Qu,bifd];unfold maxQ;split;rw[Ju a (Fk_Fw i om),sbind];rfl;rfl
def rv(l:List Qa):List Rat:=l.map fv
def toR(l:List Rat):List Qa:=l.map toF
theorem Vf(l:List Rat):rv (toR l)=l:=by
 unfold rv toR;rw[uc]
 conv=>rhs;rw[<-List.map_id l]
 exact wn λq _=>Qu q
theorem Q4(l:List Qa):(rv l).length=l.length:=by unfold rv;simp
theorem Q3(l:List Rat):(toR l).length=l.length:=by unfold toR;simp
def FR(k:Nat)(l:List Qa):Prop:=∀ x∈l,Fk k x
def QR(k:Nat)(l:List Rat):Prop:=∀ x∈l,qw x<=k
theorem Kx{k:Nat}{l:List Rat}(h:QR k l):FR k (toR l):=λx a=>by unfold toR at a;obtain⟨q,d,rfl⟩:=xa.1 a;exact Qz (h q d)
theorem QR_rv{k:Nat}{l:List Qa}(h:FR k l)(d:1<=k):QR k (rv l):=λx a=>by unfold rv at a;obtain⟨q,e,rfl⟩:=xa.1 a;exact qw_fv (h q e) d
theorem K9{j k:Nat}{l:List Qa}(h:FR j l)(hk:j<=k):FR k l:=λx a=>Kq (h x a) hk
theorem Ja{j k:Nat}{l:List Rat}(h:QR j l)(hk:j<=k):QR k l:=λx a=>xx (h x a) hk
theorem Qwz{α:Type}{n:Nat}{a:List α}{g:α->Rat}{f:Nat->α->List Qa->Option (Lp (List Qa) (List Qa))}(_:big<=n)(e:a.length<=1000000)
 (hb:∀ i x s,a[i]?=some x->f i x s=(appM 56 s [toF (g x)]).bind λy=>some (Lp.go y)):(rangeL f a 0 []).bind (lpK λs=>some s)=some (toR (a.map g)):=by
 rw[X8 (λi=>(a.take i).map λx=>toF (g x)) a,Wi,yr];unfold toR;rw[uc];rfl;intro i x d;have:=Ke d;rw[hb i x _ d,K0 oe oe,sbind,Qau _ d];rfl
theorem Qp0{n k:Nat}{a:List Qa}(d:big<=n)(hk:k<1099511627776)(e:FR k a)(f:a.length<=1000000):Qio n a=some (toR (rv a)):=by unfold Qio;refine Qwz (g:=fv) d f λi x s j=>?_;rw[Ju d (Fk_Fw (e x (Je j)) om),sbind]
theorem Yp{n k:Nat}{a:List Qa}(f:big<=n)(hk:k<1099511627776)(d:FR k a)(e:a.length<=1000000):Qfw n a=some (toR (rv a)):=Qp0 f hk d e
def scaleQ(c:Rat)(l:List Rat):List Rat:=l.map (c * ·)
theorem Xf{n k:Nat}{c:Qa}{a:List Qa}(d:big<=n)(e:1<=k)(hk:k<1099511627776)(j:Fk k c)(f:FR k a)(l:a.length<=1000000):Wa n c a=some (toR (scaleQ (fv c) (rv a))):=by unfold Wa;rw[Qwz (g:=λx=>fv c*fv x) d l λi x s m=>?_];unfold scaleQ rv;rw[uc];rfl;rw[K6 d e hk j (f x (Je m)),sbind]
theorem Qjs{j k:Nat}{c:Rat}{l:List Rat}(d:qw c<=j)(h:QR k l):QR (j+k) (scaleQ c l):=λx a=>by unfold scaleQ at a;obtain⟨q,e,rfl⟩:=xa.1 a;exact Xi d (h q e)
theorem Qxv{α β τ R:Type}{f:Nat->α->List β->Option (Lp (List β) τ)}{K:Lp (List β) τ->Option R}(g:α->β->β)(xs:List α)(s:List β)(h:xs.length=s.length)
 (hb:∀ i x y s',xs[i]?=some x->s[i]?=some y->s'[i]?=some y->f i x s'=some (.go (s'.set i (g x y)))):(rangeL f xs 0 s).bind K=K (.go (List.zipWith g xs s)):=by
 have a:∀ i,i<=xs.length->(List.zipWith g (xs.take i) (s.take i)).length=i:=λi hi=>oe
 rw[X8 (λi=>List.zipWith g (xs.take i) (s.take i)++s.drop i) xs];rw[yr,h,yr,List.drop_length,yj];intro i x d;have hi:=Ke d;have e:s[i]?=some s[i]:=ol om;have l:(List.zipWith g (xs.take i) (s.take i)++s.drop i)[i]?=some s[i]:=by rw[yy (by rw[a i om];exact xd _),a i om,wx,vq,xf,e]
 rw[hb i x s[i] _ d e l];refine ue (λz=>some (Lp.go z)) ?_;have hd:s.drop i=s[i]::s.drop (i+1):=xh om;have j:xs.take (i+1)=xs.take i++[x]:=by rw[uo,d];rfl
 have k:s.take (i+1)=s.take i++[s[i]]:=by rw[uo,e];rfl
 rw[hd,List.set_append_right _ _ (by rw[a i om];exact xd _),a i om,wx,List.set_cons_zero,j,k,List.zipWith_append oe];simp;simp
def addQ(a b:List Rat):List Rat:=List.zipWith (·+·) a b
theorem Q59{α:Type}{x:α}{l:List α}:getI (x::l) 0=some x:=rfl
theorem Qbx{n k:Nat}{a b:List Qa}(j:big<=n)(f:1<=k)(hk:k<1099511627776)(g:FR k a)(hb:FR k b)(l:a.length<=1000000):
 Zv n [a,b]=some (if a.length=b.length then (toR (addQ (rv a) (rv b)),true) else ([],false)):=by
 unfold Zv;have hs:sub [a,b] (1:Int) (([a,b]:List (List Qa)).length:Int)=some [b]:=rfl;rw[show decide ((([a,b]:List (List Qa)).length:Int)=0)=false from rfl,bifF,Q59,sbind,Qp0 j hk g l,sbind,hs,sbind];simp only[rangeL];rw[Q3,Q4];by_cases h:a.length=b.length;rw[oi h,oj (show(b.length:Int)=(a.length:Int) by omega),ot,bifF,Qxv (λ(x:Qa) (y:Qa)=>toF (fv y+fv x)) b (toR (rv a)) (by rw[Q3,Q4,h]),Wi,sbind];simp only[];rw[sbind,Wi];refine ue some (Prod.ext ?_ rfl);simp only[];unfold addQ toR rv;rw[List.map_zipWith,uc,List.zipWith_map_right,List.zipWith_map,List.zipWith_comm];congr 1;funext x y;simp only[Function.comp,Qu];intro i x y s' m p d;have e:Fk k y:=Kx (QR_rv g f) y (Je p);rw[Kj d,sbind,K5 j f hk e (hb x (Je m)),sbind,sbind,yz];rw[oh h,oo (show ¬(b.length:Int)=(a.length:Int) by omega),ov,bifT,sbind];rfl
theorem Qw0{α β γ:Type}{g:α->β->γ}{P:γ->Prop}:∀ {a:List α}{b:List β},(∀ x∈a,∀ y∈b,P (g x y))->∀ z∈List.zipWith g a b,P z
 | [],_,_,z,d=>by simp at d
 | _::_,[],_,z,d=>by simp at d
 | x::a,y::b,h,z,d=>by rcases xj.1 d with rfl | d;exact h x (.head _) y (.head _);exact Qw0 (λi e j f=>h i (.tail _ e) j (.tail _ f)) z d
theorem Qn9{j k:Nat}{a b:List Rat}(d:QR j a)(hb:QR k b):QR (j+k+1) (addQ a b):=Qw0 λx e y f=>Zt (d x e) (hb y f)
theorem Qdc{a b:List Rat}:(addQ a b).length=min a.length b.length:=by unfold addQ;simp
theorem Yf{c:Rat}{a:List Rat}:(scaleQ c a).length=a.length:=by unfold scaleQ;simp
theorem Qaw{n m:Nat}(a:big<=n)(d:m<=300):Y6 n (m:Int)=some (toR (List.replicate m 0)):=by
 unfold Y6;have e:min (max (m:Int) 0) 300=(m:Int):=om
 rw[e,Qhj om om,sbind];rw[Qlz (λi=>(List.replicate i (toF 0)++List.replicate (m - i) (⟨⟨false,[]⟩,[]⟩:Qa),(i:Int))) m (toR (List.replicate m 0))];intro i hi;simp only[bifd];have hd:List.replicate (m - i) (⟨⟨false,[]⟩,[]⟩:Qa)=⟨⟨false,[]⟩,[]⟩::List.replicate (m - (i+1)) ⟨⟨false,[]⟩,[]⟩:=by rw[show m - i=(m - (i+1))+1 by omega,ug]
 rw[oi om,Wr a,sbind,hd,Wq oa,sbind,Zd oa,w1 om];refine ue (λz=>some (Lp.go (z,_))) ?_;rw[List.replicate_succ',xb];rfl;simp only[bifd];rw[oh om,wx,List.replicate_zero,yj];unfold toR;rw[List.map_replicate];unfold big at a;omega;simp
def mixQ:List Rat->List (List Rat)->List Rat->List Rat
 | c::cs,a::l,z=>mixQ cs l (List.zipWith (λx o=>o+c*x) a z)
 | _,_,z=>z
theorem Qxw:∀ {cs:List Rat}{l:List (List Rat)}{z:List Rat}{c a},cs.length=l.length->mixQ (cs++[c]) (l++[a]) z=List.zipWith (λx o=>o+c*x) a (mixQ cs l z)
 | [],[],z,c,a,_=>rfl
 | [],_::_,_,_,_,h=>by simp at h
 | _::_,[],_,_,_,h=>by simp at h
 | x::cs,y::l,z,c,a,h=>by simp only[yv,mixQ];exact Qxw (by simpa using h)
theorem Qep{m:Nat}:∀ {cs:List Rat}{l:List (List Rat)}{z:List Rat},(∀ a∈l,a.length=m)->z.length=m->(mixQ cs l z).length=m
 | [],_,z,_,h=>by simpa [mixQ] using h
 | _::_,[],z,_,h=>by simpa [mixQ] using h
 | x::cs,y::l,z,d,h=>by simp only[mixQ];exact Qep (λa e=>d a (.tail _ e)) (by have:=d y (.head _);simp;omega)
theorem Qoa{j k:Nat}:∀ {cs:List Rat}{l:List (List Rat)}{z:List Rat}{b:Nat},QR j cs->(∀ a∈l,QR k a)->QR b z->QR (b+l.length*(j+k+1)) (mixQ cs l z)
 | [],_,z,b,_,_,h=>Ja h om
 | _::_,[],z,b,_,_,h=>Ja h om
 | x::cs,y::l,z,b,d,e,h=>by simp only[mixQ];have f:QR (b+(j+k)+1) (List.zipWith (λp o=>o+x*p) y z):=Qw0 λu n o i=>Zt (h o i) (Xi (d x (.head _)) (e y (.head _) u n));refine Ja (Qoa (λq m=>d q (.tail _ m)) (λa g=>e a (.tail _ g)) f) ?_;rw[ow,ua];omega
theorem Q0q{m:Nat}:∀ {a z:List Rat},a.length=m->z.length=m->List.zipWith (λx o=>o+0*x) a z=z
 | [],[],_,_=>rfl
 | [],_::_,h,d=>by simp at h d;omega
 | _::_,[],h,d=>by simp at h d;omega
 | x::a,y::z,h,d=>by simp only[ow] at h d;rw[List.zipWith_cons_cons,Q0q (m:=m - 1) om om];congr 1;grind
theorem Q0r{α:Type}{l:List (List α)}{m:Nat}:(∀(i:Nat) x,l[i]?=some x->x.length=m)↔∀ a∈l,a.length=m:=by constructor;intro h a d;obtain⟨j,e⟩:=ut d;exact h j a e;intro h i x f;exact h x (Je f)
theorem Ql1{n:Nat}{c:List Qa}{l:List (List Qa)}{m:Int}:Qfv n c l m=Qqk n c l m:=vj (vj rfl)
theorem Q9t(l:List Qa)(i:Nat):rv (l.take i)=(rv l).take i:=by unfold rv;rw[uw]
open Classical in
theorem Qrf{n j k m:Nat}{c:List Qa}{l:List (List Qa)}(w:big<=n)(B:1<=j)(I:1<=k)(V:j<1048576)(hk:k<1048576)(J:FR j c)(K:∀ a∈l,FR k a)(T:m<=300)(S:l.length<=10000):
 Qqk n c l (m:Int)=some (if c.length=l.length/\∀ a∈l,a.length=m then (toR (mixQ (rv c) (l.map rv) (List.replicate m 0)),true) else ([],false)):=by
 unfold Qqk;simp only[jn_eq];by_cases g1:c.length=l.length;rw[oj (show(c.length:Int)=(l.length:Int) by omega),ot,bifF,oo (show ¬(m:Int)<0 by omega),bifF,oo (show ¬(300:Int)<(m:Int) by omega),bifF];rw[Xy (λ_ (a:List Qa)=>a.length=m) (r:=(([]:List Qa),false))];rw[Q0r];by_cases s:∀ a∈l,a.length=m;rw[oi s,oi ⟨g1,s⟩,Qaw w T,sbind];have C:=QR_rv J B;rw[X8 (λi=>toR (mixQ (rv (c.take i)) ((l.take i).map rv) (List.replicate m 0))) l,Wi,<-g1,yr,g1,yr];intro i a u;have hi:=Ke u;have g:c[i]?=some c[i]:=ol om;have e:Fk j c[i]:=J _ (wb om);have Q:=K a (Je u);have t:=s a (Je u);generalize c[i]' om=ck at g e;have L:c.take (i+1)=c.take i++[ck]:=by rw[uo,g];rfl
 have M:l.take (i+1)=l.take i++[a]:=by rw[uo,u];rfl
 have N:rv (c.take (i+1))=rv (c.take i)++[fv ck]:=by unfold rv;rw[L,xu];rfl
 have O:(l.take (i+1)).map rv=(l.take i).map rv++[rv a]:=by rw[M,xu];rfl
 have P:(rv (c.take i)).length=((l.take i).map rv).length:=by rw[Q4];simp;omega
 rw[Kj g,sbind,Xx w B om e,sbind,bifd,N,O,Qxw P]
 have p:(mixQ (rv (c.take i)) ((l.take i).map rv) (List.replicate m 0)).length=m:=Qep (λb hb=>by
  obtain⟨d,hd,rfl⟩:=xa.1 hb
  rw[Q4];exact s d (yd hd)) oa
 have H:QR (1+(l.take i).length*(j+k+1)) (mixQ (rv (c.take i)) ((l.take i).map rv) (List.replicate m 0)):=by
  have:=Qoa (j:=j) (k:=k) (b:=1) (cs:=rv (c.take i)) (l:=(l.take i).map rv) (z:=List.replicate m 0) (λq A=>by rw[Q9t] at A;exact C q (yd A)) (λb hb=>by
   obtain⟨d,hd,rfl⟩:=xa.1 hb
   exact QR_rv (K d (yd hd)) I) (λq A=>by rw[(gj.1 A).2,Qaa];exact xd _)
  rwa [xr] at this
 have R:(l.take i).length*(j+k+1)<=10000*2097152:=ww oe om;have f:=Ja H (show _<=20971520001 by omega);generalize mixQ (rv (c.take i)) ((l.take i).map rv) (List.replicate m 0)=z at p f;by_cases g3:(fv ck).num.sign=0;rw[oi g3];have h0:fv ck=0:=Rat.num_eq_zero.1 (wc.1 g3);rw[h0,Q0q (m:=m) (by rw[Q4,t]) p];rw[oh g3,Qxv (λ(x:Qa) (o:Qa)=>toF (fv o+fv ck*fv x)) a (toR z) (by rw[Q3,t,p]),Wi];refine ue (λz=>some (Lp.go z)) ?_;unfold toR rv;rw[List.map_zipWith,List.zipWith_map_right,List.zipWith_map_left];congr 1;funext x y;rw[Qu];intro X x y s' E U F;have G:Fk 20971520001 y:=Kx f y (Je U);have v:=Q x (Je E);have W:qw (fv ck*fv x)<=j+k:=Xi (qw_fv e B) (qw_fv v I);rw[Kj F,sbind,sbind,K6 (k:=j+k) w om om (Kq e om) (Kq v om),sbind,K5 (k:=20971520001) w om om G (Qz om),sbind,sbind,yz,Qu];rfl;rw[oh s,oh (λh=>s h.2)];intro i x u;constructor;intro h;rw[oj (show(x.length:Int)=(m:Int) by omega)];rfl;intro h;rw[oo (show ¬(x.length:Int)=(m:Int) by omega)];rfl;rw[oo (show ¬(c.length:Int)=(l.length:Int) by omega),oh (λh=>g1 h.1)];rfl
theorem Qw1(l:List Qa)(i:Nat):(rv l)[i]?=(l[i]?).map fv:=by unfold rv;simp
theorem Qp1{n k:Nat}{a b:List Qa}(s:big<=n)(p:1<=k)(hk:k<1099511627776)(q:FR k a)(hb:FR k b):Qej n a b=some (decide (rv a=rv b)):=by
 classical
 unfold Qej;by_cases h:a.length=b.length;rw[oj (show(a.length:Int)=(b.length:Int) by omega),ot,bifF];rw[Xy (λi (x:Qa)=>∀ y,b[i]?=some y->fv x=fv y) (r:=false)];have e:(∀(i:Nat) x,a[i]?=some x->∀ y,b[i]?=some y->fv x=fv y)↔rv a=rv b:=by constructor;intro g;refine List.ext_getElem? λi=>?_;rw[Qw1,Qw1];rcases xc i a.length with hi | hi;have l:a[i]?=some a[i]:=ol hi;have d:b[i]?=some (b[i]' om):=ol om;have:=g i _ l _ d;rw[l,d];exact ue some this;rw[xn hi,xn om];intro g i x f y j;have:=ue (·[i]?) g;simp only[Qw1,f,j,Option.map_some] at this;exact Option.some.inj this
 by_cases hd:rv a=rv b;rw[oi (e.2 hd),oj hd];rw[oh (λg=>hd (e.1 g)),oo hd];intro i x f;have hi:=Ke f;have d:b[i]?=some (b[i]' om):=ol om;rw[Kj d,sbind,Qbm s p hk (q x (Je f)) (hb _ (Je d)),sbind];constructor;intro g;rw[oj (g _ d)];rfl;intro g;rw[oo (λm=>g λy j=>by rw[d] at j;cases j;exact m)];rfl;rw[oo (show ¬(a.length:Int)=(b.length:Int) by omega),ov,bifT,oo];intro g;apply h;rw[<-Q4 a,g,Q4]
def normQ(l:List Rat):Rat:=l.foldl (λb x=>maxQ b (absQ x)) 0
theorem Q0s(q:Rat):qw (absQ q)=qw q:=by unfold absQ;split;exact Qkg q;rfl
theorem Q6a{a b:Rat}{k:Nat}(d:qw a<=k)(hb:qw b<=k):qw (maxQ a b)<=k:=by unfold maxQ;split<;>assumption
theorem Qyv{n k:Nat}{a:List Qa}(f:big<=n)(e:1<=k)(hk:k<1099511627776)(j:FR k a):Qir n a=some (toF (normQ (rv a))):=by
 unfold Qir;have g:∀(l:List Rat) (b:Rat),QR k l->qw b<=k->qw (l.foldl (λb x=>maxQ b (absQ x)) b)<=k:=by
  intro l
  induction l with
  | nil=>intro b _ hb;exact hb
  | cons x l u=>intro b m hb;exact u _ (λq g=>m q (.tail _ g)) (Q6a hb (by rw[Q0s];exact m x (.head _)))
 rw[Wr f,sbind,X8 (λi=>toF ((rv (a.take i)).foldl (λb x=>maxQ b (absQ x)) 0)) a,Wi,yr];rfl;intro i x p;have r:a.take (i+1)=a.take i++[x]:=by rw[uo,p];rfl
 have s:rv (a.take (i+1))=rv (a.take i)++[fv x]:=by unfold rv;rw[r,xu];rfl
 have d:=j x (Je p);have hb:=g (rv (a.take i)) 0 (QR_rv (λy t=>j y (yd t)) e) (by rw[Qaa];exact e);rw[Qyu f hk d,sbind,Qwy f e hk (Qz hb) (Qz (by rw[Q0s];exact qw_fv d e)),sbind,s,List.foldl_append,Qu,Qu];rfl;rfl
theorem Qfh(x m:Int):X4 x m=some (decide (0<=x/\x<m)):=by unfold X4;simp only[jn_eq,bifd];by_cases h:0<=x;rw[oi h];simp[h];rw[oh h];simp[h]
def rdT(i:Qt):List Int:=if i.Op=6\/i.Op=11 then [i.A] else if i.Op=7\/i.Op=8\/i.Op=9\/i.Op=10 then [i.A,i.B] else []
theorem Qu2(i:Qt):Qdr i=some (rdT i):=by unfold Qdr rdT;simp only[jn_eq,bifd];by_cases e:i.Op=6;simp[e];by_cases d:i.Op=11;simp[d];by_cases f:i.Op=7;simp[f];by_cases g:i.Op=8;simp[g];by_cases j:i.Op=9;simp[j];by_cases a:i.Op=10;simp[a];simp[e,f,g,j,a,d]
def TW(t:Qk):Prop:=∀ c∈t.Code,Fw c.N
theorem Qdd{α:Type}{l:List α}{P:α->Prop}:(∀(i:Nat) x,l[i]?=some x->P x)↔∀ a∈l,P a:=by constructor;intro h a d;obtain⟨j,e⟩:=ut d;exact h j a e;intro h i x f;exact h x (Je f)
noncomputable def dP(p:Prop):Bool:=@decide p (Classical.propDecidable p)
theorem decP{p:Prop}[Decidable p]:decide p=dP p:=by unfold dP;congr
theorem dP_t{p:Prop}(h:p):dP p=true:=by unfold dP;exact @decide_eq_true p (Classical.propDecidable p) h
theorem dP_f{p:Prop}(h:¬ p):dP p=false:=by unfold dP;exact @decide_eq_false p (Classical.propDecidable p) h
theorem dP_c{p q:Prop}(h:p↔q):dP p=dP q:=by rw[show p=q from propext h]
theorem Qby{p q:Prop}[Decidable p](h:p↔q):some (decide p)=some (dP q):=by rw[decP,dP_c h]
theorem Qw2{p q:Prop}(h:p↔q):some (dP p)=some (dP q):=by rw[dP_c h]
theorem Qr2{p q r:Prop}[Decidable p][Decidable q](h:p/\q↔r):(if p then some (decide q) else some false)=some (dP r):=by
 by_cases a:p;rw[oi a];exact Qby ⟨λd=>h.1 ⟨a,d⟩,λhr=>(h.2 hr).2⟩
 rw[oh a,dP_f λhr=>a (h.2 hr).1]
theorem Jbx{p q r:Prop}[Decidable p](h:p/\q↔r):(if p then some (dP q) else some false)=some (dP r):=by by_cases a:p;rw[oi a];exact Qw2 ⟨λd=>h.1 ⟨a,d⟩,λhr=>(h.2 hr).2⟩;rw[oh a,dP_f λhr=>a (h.2 hr).1]
def blankF(f:Qa):Prop:=f.Num.Neg=false/\f.Num.An=[]/\f.Den=[]
theorem Qu3(f:Qa):Qfu f=some (dP (blankF f)):=by unfold Qfu blankF;obtain⟨⟨s,a⟩,d⟩:=f;simp only[jn_eq];cases s;simp only[ov,bifT,bifd];refine Qr2 ⟨λh=>⟨trivial,xm om,xm om⟩,λh=>?_⟩;obtain⟨_,rfl,rfl⟩:=h;exact⟨rfl,rfl⟩;simp only[ot,bifF];rw[dP_f λh=>by cases h.1]
theorem bifP{α:Type}(p:Prop)(a b:α):(bif dP p then a else b)=@ite _ p (Classical.propDecidable p) a b:=by by_cases h:p;rw[dP_t h,oi h];rfl;rw[dP_f h,oh h];rfl
theorem bifnP{α:Type}(p:Prop)(a b:α):(bif !dP p then a else b)=@ite _ p (Classical.propDecidable p) b a:=by by_cases h:p;rw[dP_t h,oi h];rfl;rw[dP_f h,oh h];rfl
def mayR(t:Qk)(i:Nat)(x:Qt):Prop:=
 if x.Op=1 then x.A=0/\x.B=0/\x.N=toF (fv x.N) else
 blankF x.N/\(∀ r∈rdT x,0<=r/\r<(i:Int)) /\
 if x.Op=2 then x.A=0/\x.B=0 else if x.Op=3 then (0<=x.A/\x.A<t.Ae)/\x.B=0 else if x.Op=4 then (0<=x.A/\x.A<t.Ao)/\x.B=0 else
 if x.Op=6 then x.B=0 else if x.Op=11 then -8<=x.B/\x.B<=8 else (rdT x).length=2
theorem Qyw{n:Nat}{t:Qk}{i:Nat}{x:Qt}(s:big<=n)(u:Fw x.N)(v:t.Code[i]?=some x):Qgo n t (i:Int)=some (dP (mayR t i x)):=by
 unfold Qgo mayR;rw[Kj v,sbind,bifd];by_cases e:x.Op=1
 have f:(if x.Op=1 then x.A=0/\x.B=0/\x.N=toF (fv x.N) else blankF x.N/\(∀ r∈rdT x,0<=r/\r<(i:Int)) /\
  if x.Op=2 then x.A=0/\x.B=0 else if x.Op=3 then (0<=x.A/\x.A<t.Ae)/\x.B=0 else if x.Op=4 then (0<=x.A/\x.A<t.Ao)/\x.B=0 else
  if x.Op=6 then x.B=0 else if x.Op=11 then -8<=x.B/\x.B<=8 else (rdT x).length=2)=(x.A=0/\x.B=0/\x.N=toF (fv x.N)):=oi e
 simp only[f];rw[oi e];have q:=Qi8 s u;simp only[jn_eq,Qh5,sbind];have m:Z6 (⟨x.Op,x.A,x.B⟩:Kh) ⟨1,0,0⟩=decide (x.A=0/\x.B=0):=by unfold Z6;simp only[e];by_cases a:x.A=0<;>by_cases b:x.B=0<;>simp[a,b]
 rw[m,q,sbind,bifd];rw[@decP _ (Classical.propDecidable _)];refine Jbx ⟨λh=>⟨h.1.1,h.1.2,h.2⟩,λh=>⟨⟨h.1,h.2.1⟩,h.2.2⟩⟩
 have f:(if x.Op=1 then x.A=0/\x.B=0/\x.N=toF (fv x.N) else blankF x.N/\(∀ r∈rdT x,0<=r/\r<(i:Int)) /\
  if x.Op=2 then x.A=0/\x.B=0 else if x.Op=3 then (0<=x.A/\x.A<t.Ae)/\x.B=0 else if x.Op=4 then (0<=x.A/\x.A<t.Ao)/\x.B=0 else
  if x.Op=6 then x.B=0 else if x.Op=11 then -8<=x.B/\x.B<=8 else (rdT x).length=2)=(blankF x.N/\(∀ r∈rdT x,0<=r/\r<(i:Int)) /\
  if x.Op=2 then x.A=0/\x.B=0 else if x.Op=3 then (0<=x.A/\x.A<t.Ae)/\x.B=0 else if x.Op=4 then (0<=x.A/\x.A<t.Ao)/\x.B=0 else
  if x.Op=6 then x.B=0 else if x.Op=11 then -8<=x.B/\x.B<=8 else (rdT x).length=2):=oh e
 simp only[f];rw[oh e,Qu3,sbind,bifnP];by_cases hb:blankF x.N;rw[oi hb,Qu2,sbind,Xy (λ_ (r:Int)=>0<=r/\r<(i:Int)) (r:=false)];rw[Qdd];by_cases hr:∀ r∈rdT x,0<=r/\r<(i:Int);rw[oi hr];have fin:∀ {o:Option Bool}{p:Prop},o=some (dP p)->o=some (dP (blankF x.N/\(∀ r∈rdT x,0<=r/\r<(i:Int))/\p)):=λh=>h.trans (Qw2 ⟨λg=>⟨hb,hr,g⟩,λg=>g.2.2⟩);refine fin ?_;simp only[jn_eq,Qh5,sbind,Qfh,bifd];by_cases k:x.Op=2;simp only[oi k];refine ue some ?_;unfold Z6;simp only[k];rw[<-decP];by_cases a:x.A=0<;>by_cases b:x.B=0<;>simp[a,b];simp only[oh k];by_cases g3:x.Op=3;simp only[oi g3];exact Qr2 Iff.rfl;simp only[oh g3];by_cases g4:x.Op=4;simp only[oi g4];exact Qr2 Iff.rfl;simp only[oh g4];by_cases l:x.Op=6;simp only[oi l];exact Qby Iff.rfl;simp only[oh l];by_cases d:x.Op=11;simp only[oi d];exact Qr2 Iff.rfl;simp only[oh d];exact Qby om
 rw[oh hr,dP_f λh=>hr h.2.1];intro j r _;simp only[Qfh,sbind];constructor;intro h;rw[oj h];rfl;intro h;rw[oo h];rfl;rw[oh hb,dP_f λh=>hb h.1]
def wholeR(t:Qk):Prop:=(1<=t.Ae/\t.Ae<=6)/\(0<=t.Ao/\t.Ao<=6)/\(t.Af.length:Int)=t.Ae/\t.Code.length<=300
def tapeR(t:Qk):Prop:=wholeR t/\(∀(i:Nat) x,t.Code[i]?=some x->mayR t i x)/\∀ o∈t.Af,0<=o/\o<(t.Code.length:Int)
theorem Qu4(t:Qk)(h:-9223372036854775808<=t.Ae/\t.Ae<=9223372036854775807):Qft t=some (dP (wholeR t)):=by
 unfold Qft wholeR;simp only[jn_eq,Qfh,sbind,bifd];have d:(0<=wrap64 (t.Ae - 1)/\wrap64 (t.Ae - 1)<6)↔(0<=t.Ae - 1/\t.Ae - 1<6):=by unfold wrap64;omega
 by_cases g1:0<=t.Ae - 1/\t.Ae - 1<6;rw[oi (d.2 g1)];by_cases a:0<=t.Ao/\t.Ao<7;rw[oi a];by_cases g3:(t.Af.length:Int)=t.Ae;rw[oi g3];exact Qby om
 rw[oh g3,dP_f om];rw[oh a,dP_f om];rw[oh (λh=>g1 (d.1 h)),dP_f om]
theorem Q39{R:Type}{f:Nat->Qt->Unit->Option (Lp Unit R)}{K:Unit->Option R}{xs:List Qt}(P:Nat->Qt->Prop)(r:Nat->R)
 (hb:∀ i x,xs[i]?=some x->(P i x->f i x ()=some (.go ()))/\(¬ P i x->f i x ()=some (.out (r i)))) :
 ((∀(i:Nat) x,xs[i]?=some x->P i x)/\(rangeL f xs 0 ()).bind (lpK K)=K ())\/(¬(∀(i:Nat) x,xs[i]?=some x->P i x)/\∃ j,(rangeL f xs 0 ()).bind (lpK K)=some (r j)):=by
 have key:∀(xs:List Qt) (k:Nat),(∀ i x,xs[i]?=some x->(P (k+i) x->f (k+i) x ()=some (.go ()))/\(¬ P (k+i) x->f (k+i) x ()=some (.out (r (k+i))))) ->
  ((∀(i:Nat) x,xs[i]?=some x->P (k+i) x)/\(rangeL f xs k ()).bind (lpK K)=K ())\/(¬(∀(i:Nat) x,xs[i]?=some x->P (k+i) x)/\∃ j,(rangeL f xs k ()).bind (lpK K)=some (r j)):=by
  intro xs
  induction xs with
  | nil=>intro k _;exact .inl ⟨λi x h=>by simp at h,rfl⟩
  | cons x xs m=>
    intro k hb;have h0:=hb 0 x rfl;simp only[xf] at h0;by_cases d:P k x;have:=m (k+1) (λi y a=>by have:=hb (i+1) y (by simpa using a);rw[show k+(i+1)=k+1+i by omega] at this;exact this);simp only[rangeL,h0.1 d,sbind];rcases this with ⟨e,g⟩ | ⟨e,g⟩;refine .inl ⟨λi y a=>?_,g⟩;cases i with
    | zero=>simp at a;subst a;exact d
    | succ i=>rw[show k+(i+1)=k+1+i by omega];exact e i y (by simpa using a)
    refine .inr ⟨λh=>e λi y a=>?_,g⟩;have:=h (i+1) y (by simpa using a);rwa [show k+(i+1)=k+1+i by omega] at this;refine .inr ⟨λh=>d (h 0 x rfl),k,?_⟩;simp only[rangeL,h0.2 d,sbind];rfl
 have:=key xs 0 (λi x l=>by rw[xz];exact hb i x l);simp only[xz] at this;exact this
theorem Qmp{n:Nat}{t:Qk}(p:big<=n)(q:TW t)(hd:-9223372036854775808<=t.Ae/\t.Ae<=9223372036854775807):X5 n t=some (dP (tapeR t)):=by
 unfold X5 Qij;rw[Qu4 t hd,sbind,bifnP];by_cases e:wholeR t;rw[oi e]
 have key:=Q39 (K:=λ(_:Unit)=>(rangeL (λ(_:Nat) (l:Int) (_:Unit)=>
  (X4 l (t.Code.length:Int)).bind λk=>
  bif !k then (
   some (Lp.out ((t.Code.length:Int))))
  else (
   some (Lp.go ()))) t.Af 0 ()).bind (lpK λ(_:Unit)=>
 some (-1:Int))) (f:=λ(a:Nat) (_:Qt) (_:Unit)=>
  (Qgo n t (a:Int)).bind λg=>
  bif !g then (
   some (Lp.out ((a:Int))))
  else (
   some (Lp.go ()))) (xs:=t.Code) (λi x=>mayR t i x) (λi=>(i:Int)) (λi x m=>by
  rw[Qyw p (q x (Je m)) m,sbind];constructor;intro h;rw[dP_t h];rfl
  intro h;rw[dP_f h];rfl)
 rcases key with ⟨k1,k2⟩ | ⟨k1,j,k2⟩;rw[k2,Xy (λ_ (o:Int)=>0<=o/\o<(t.Code.length:Int)) (r:=(t.Code.length:Int))];rw[Qdd];by_cases d:∀ o∈t.Af,0<=o/\o<(t.Code.length:Int);rw[oi d,sbind];exact Qby ⟨λ_=>⟨e,k1,d⟩,λ_=>rfl⟩
 rw[oh d,sbind];exact Qby ⟨λh=>om,λh=>absurd h.2.2 d⟩
 intro i o _;simp only[Qfh,sbind];constructor;intro h;rw[oj h];rfl;intro h;rw[oo h];rfl;rw[k2,sbind];exact Qby ⟨λh=>om,λh=>absurd h.2.1 k1⟩
 rw[oh e,sbind];exact Qby ⟨λh=>om,λh=>absurd h.1 e⟩
theorem Jv(f:Qc):Qo f f=true:=by simp[Qo]
theorem Jt{k a b c:Int}(h:k≠0):Qo ⟨k,a,b,c⟩ ⟨0,0,0,0⟩=false:=by unfold Qo;rw[show(k == 0)=false by simpa using h];rfl
def noteG(g:Qg)(q:Rat):Qg:=⟨⟨wrap64 (g.Count.Seen+1),max g.Count.Peak (qz q:Int)⟩,g.limit⟩
theorem Qh7{n:Nat}{g:Qg}{q:Rat}(a:big<=n)(d:qw q<1099511627776):Ko n g (toF q)=some (decide ((qz q:Int)<=g.limit),noteG g q):=by unfold Ko Qai;rw[Qmn a d,sbind,sbind];rfl
def fitQ(a:Int):List Rat->Nat->Option Nat
 | [],_=>none
 | q::l,i=>if (qz q:Int)<=a then fitQ a l (i+1) else some i
theorem Ql2{n:Nat}{g:Qg}{l:List Rat}(s:big<=n)(e:QR 1099511627775 l):
 ∃ a,a.limit=g.limit/\Vk n g (toR l)=some (match fitQ g.limit l 0 with | none=>((l.length:Int),true,a) | some i=>((i:Int),false,a)):=by
 unfold Vk
 have key:∀(l:List Rat) (i:Nat) (g:Qg) (K:Qg->Option (Int×Bool×Qg)),QR 1099511627775 l->∃ a,a.limit=g.limit /\
  (rangeL (λ(k:Nat) (r:Qa) (m:Qg)=>
   (Ko n m r).bind λd=>
   bif !d.1 then (some (Lp.out (((k:Int),false,d.2)))) else (some (Lp.go d.2))) (toR l) i g).bind (lpK K)=match fitQ g.limit l i with | none=>K a | some i=>some ((i:Int),false,a):=by
  intro l
  induction l with
  | nil=>intro i g K _;exact⟨g,rfl,rfl⟩
  | cons q l u=>
    intro i g K e;simp only[toR,xp,rangeL,fitQ];rw[Qh7 s (by have:=e q (.head _);omega),sbind];simp only[];by_cases h:(qz q:Int)<=g.limit;rw[oj h,oi h,ot,bifF,sbind];obtain⟨a,f,j⟩:=u (i+1) (noteG g q) K λx t=>e x (.tail _ t);exact⟨a,f,j⟩;rw[oo h,oh h,ov,bifT,sbind];exact⟨noteG g q,rfl,rfl⟩
 obtain⟨a,f,j⟩:=key l 0 g (λp=>some (((toR l).length:Int),true,p)) e;refine⟨a,f,?_⟩;rw[j,Q3];cases fitQ g.limit l 0<;>rfl
def opQ(x:Qt)(T:Rat)(Y P done:List Rat):Option Rat:=
 if x.Op=6 then some (-done.getD x.A.toNat 0) else
 if x.Op=11 then (if x.B < -8\/8<x.B\/(x.B<0/\done.getD x.A.toNat 0=0) then none else some (done.getD x.A.toNat 0 ^ x.B)) else
 if x.Op=7 then some (done.getD x.A.toNat 0+done.getD x.B.toNat 0) else
 if x.Op=8 then some (done.getD x.A.toNat 0 - done.getD x.B.toNat 0) else
 if x.Op=9 then some (done.getD x.A.toNat 0*done.getD x.B.toNat 0) else
 if x.Op=10 then (if done.getD x.B.toNat 0=0 then none else some (done.getD x.A.toNat 0 / done.getD x.B.toNat 0)) else
 if x.Op=1 then some (fv x.N) else
 if x.Op=3 then some (Y.getD x.A.toNat 0) else
 if x.Op=4 then some (P.getD x.A.toNat 0) else some T
def runQ(a:Int)(T:Rat)(Y P:List Rat):List Qt->Nat->List Rat->(Int×Nat) ⊕ List Rat
 | [],_,done=>.inr done
 | x::c,i,done=>match opQ x T Y P done with
   | none=>.inl (3,i)
   | some q=>if (qz q:Int)<=a then runQ a T Y P c (i+1) (done++[q]) else .inl (6,i)
theorem Qde{l:List Rat}{r:Int}(a:0<=r)(d:r<(l.length:Int)):getI (toR l) r=some (toF (l.getD r.toNat 0)):=by
 obtain⟨k,rfl⟩:∃ k:Nat,r=(k:Int):=⟨r.toNat,om⟩
 have hk:k<l.length:=om
 rw[Qge,yz];unfold toR;rw[xy,ol hk,oq,ol hk];rfl
theorem Xg{k:Nat}{l:List Rat}{i:Nat}(h:QR k l)(a:1<=k):qw (l.getD i 0)<=k:=by rw[oq];rcases xc i l.length with hi | hi;rw[ol hi];exact h _ (wb hi);rw[xn hi];show qw 0<=k;rw[Qaa];exact a
theorem rdT_A{x:Qt}(h:x.Op=6\/x.Op=11\/x.Op=7\/x.Op=8\/x.Op=9\/x.Op=10):x.A∈rdT x:=by unfold rdT;by_cases a:x.Op=6\/x.Op=11;rw[oi a];simp;rw[oh a,oi om];simp
theorem rdT_B{x:Qt}(h:x.Op=7\/x.Op=8\/x.Op=9\/x.Op=10):x.B∈rdT x:=by unfold rdT;rw[oh om,oi om];simp
theorem Qob{t:Qk}{i:Nat}{x:Qt}(h:mayR t i x):∀ r∈rdT x,0<=r/\r<(i:Int):=by unfold mayR at h;by_cases a:x.Op=1;intro r hr;unfold rdT at hr;rw[oh om,oh om] at hr;cases hr;rw[oh a] at h;exact h.2.1
theorem Qu5{t:Qk}{i:Nat}{x:Qt}(h:mayR t i x)(a:x.Op=3):0<=x.A/\x.A<t.Ae:=by unfold mayR at h;rw[oh om,oh om,oi a] at h;exact h.2.2.1
theorem Qu6{t:Qk}{i:Nat}{x:Qt}(h:mayR t i x)(a:x.Op=4):0<=x.A/\x.A<t.Ao:=by unfold mayR at h;rw[oh om,oh om,oh om,oi a] at h;exact h.2.2.1
theorem Q4a{n k:Nat}{g:Qg}{t:Qk}{x:Qt}{T:Rat}{Y P done:List Rat}(f:big<=n)(e:1<=k)(hk:k<1048576)(p:mayR t done.length x)(w:Fk k x.N)
 (H:qw T<=k) (G:QR k Y) (F:QR k P) (u:QR k done) (K:(Y.length:Int)=t.Ae) (J:(P.length:Int)=t.Ao) :
 ∃ v,Kb n g x ⟨toF T,toR Y,toR P⟩ (toR done)=some (match opQ x T Y P done with | none=>(v,false) | some q=>(toF q,true))/\∀ q,opQ x T Y P done=some q->qw q<=8*k+1:=by
 unfold Kb opQ;have m:=Qob p;have dA:x.Op=6\/x.Op=11\/x.Op=7\/x.Op=8\/x.Op=9\/x.Op=10->getI (toR done) x.A=some (toF (done.getD x.A.toNat 0)):=λh=>Qde (m _ (rdT_A h)).1 (m _ (rdT_A h)).2;have dB:x.Op=7\/x.Op=8\/x.Op=9\/x.Op=10->getI (toR done) x.B=some (toF (done.getD x.B.toNat 0)):=λh=>Qde (m _ (rdT_B h)).1 (m _ (rdT_B h)).2;have qA:qw (done.getD x.A.toNat 0)<=k:=Xg u e;have qB:qw (done.getD x.B.toNat 0)<=k:=Xg u e;generalize done.getD x.A.toNat 0=a at dA qA |-;generalize done.getD x.B.toNat 0=b at dB qB |-;have fA:Fk k (toF a):=Qz qA;have fB:Fk k (toF b):=Qz qB;simp only[bifd];by_cases A:x.Op=6
 . simp only[oi A]
   unfold Qdh;rw[dA om,sbind,Qcb f (Fk_Fw fA om),sbind,sbind,Qu];exact⟨toF 0,rfl,λq d=>by cases d;rw[Qkg];omega⟩
 simp only[oh A];by_cases l:x.Op=11
 . simp only[oi l]
   unfold Qdi;rw[dA om,sbind,Qhs f e om fA,sbind,Qu];refine⟨toF 0,?_,λq d=>?_⟩
   . split<;>rfl
   . split at d
     . cases d
     . rename_i I
       cases d;exact Qr1 qA om
 simp only[oh l];by_cases B:x.Op=7
 . simp only[oi B]
   unfold Qdj;rw[dA om,sbind,dB om,sbind,K5 f e om fA fB,sbind,sbind,Qu,Qu];exact⟨toF 0,rfl,λq d=>by cases d;have:=Zt qA qB;omega⟩
 simp only[oh B];by_cases C:x.Op=8
 . simp only[oi C]
   unfold Qdk;rw[dA om,sbind,dB om,sbind,Qe3 f e om fA fB,sbind,sbind,Qu,Qu];exact⟨toF 0,rfl,λq d=>by cases d;have:=Qn8 qA qB;omega⟩
 simp only[oh C];by_cases E:x.Op=9
 . simp only[oi E]
   unfold Qdl;rw[dA om,sbind,dB om,sbind,K6 f e om fA fB,sbind,sbind,Qu,Qu];exact⟨toF 0,rfl,λq d=>by cases d;have:=Xi qA qB;omega⟩
 simp only[oh E];by_cases j:x.Op=10
 . simp only[oi j]
   unfold Qdm;rw[dA om,sbind,dB om,sbind,Qav f e om fA fB,sbind,Qu,Qu];refine⟨toF 0,?_,λq d=>?_⟩
   . split<;>rfl
   . split at d
     . cases d
     . cases d
       have:=Ql0 qA qB;omega
 simp only[oh j];unfold Vw;simp only[bifd];by_cases y:x.Op=1
 . simp only[oi y]
   unfold Qeh;rw[Ju f (Fk_Fw w om),sbind,sbind,sbind];exact⟨toF 0,rfl,λq d=>by cases d;have:=qw_fv w e;omega⟩
 simp only[oh y];by_cases r:x.Op=3
 . simp only[oi r]
   obtain⟨a1,a2⟩:=Qu5 p r;rw[Qde a1 om,sbind,sbind];exact⟨toF 0,rfl,λq d=>by cases d;have:=Xg (i:=x.A.toNat) G e;omega⟩
 simp only[oh r];by_cases s:x.Op=4
 . simp only[oi s]
   obtain⟨a1,a2⟩:=Qu6 p s;rw[Qde a1 om,sbind,sbind];exact⟨toF 0,rfl,λq d=>by cases d;have:=Xg (i:=x.A.toNat) F e;omega⟩
 simp only[oh s];exact⟨toF 0,rfl,λq d=>by cases d;omega⟩
theorem Qtp(l:List Rat)(q:Rat):toR l++[toF q]=toR (l++[q]):=by unfold toR;simp
theorem Q0t{n k:Nat}{g:Qg}{t:Qk}{T:Rat}{Y P:List Rat}(J:big<=n)(h1:129<=k)(hk:k<1048576)(X:tapeR t)(R:X5 n t=some true)(w:∀ c∈t.Code,Fk k c.N)
 (S:qw T<=k) (U:QR k Y) (Q:QR k P) (p:(Y.length:Int)=t.Ae) (L:(P.length:Int)=t.Ao) (B:g.limit<=4096) :
 ∃ f,K7 n g t ⟨toF T,toR Y,toR P⟩=some (match runQ g.limit T Y P t.Code 0 [] with | .inl e=>([],⟨e.1,0,0,(e.2:Int)⟩,f) | .inr l=>(toR l,⟨0,0,0,0⟩,f)):=by
 unfold K7;simp only[jn_eq,R,sbind,ot,bifF];rw[Q3,Q3,oj p,oj L,ot,bifF,bifF]
 have key:∀(c:List Qt) (done:List Rat) (g:Qg) (K:Qg×List Qa->Option (List Qa×Qc×Qg)),(∀(j:Nat) x,c[j]?=some x->mayR t (done.length+j) x)->(∀ x∈c,Fk k x.N)->QR k done->g.limit<=4096->done.length+c.length<=300 ->
  ∃ f,(rangeL (λ(s:Nat) (F:Qt) (d:Qg×(List Qa))=>
    (Kb n d.1 F ⟨toF T,toR Y,toR P⟩ d.2).bind λi=>
    bif !i.2 then (
     some (Lp.out ((([]:List Qa),(⟨(3:Int),0,0,(s:Int)⟩:Qc),d.1))))
    else (
     (Qag n d.1 i.1).bind λm=>
     bif !m.1 then (
      some (Lp.out ((([]:List Qa),(⟨(6:Int),0,0,(s:Int)⟩:Qc),m.2))))
     else (
      (appM 56 d.2 ([i.1]:List Qa)).bind λG=>
      some (Lp.go (m.2,G))))) c done.length (g,toR done)).bind (lpK K)=match runQ g.limit T Y P c done.length done with | .inl e=>some ([],⟨e.1,0,0,(e.2:Int)⟩,f) | .inr l=>K (f,toR l):=by
  intro c
  induction c with
  | nil=>intro done g K _ _ _ _ _;exact⟨g,rfl⟩
  | cons x c ih=>
    intro done g K I w H B C;simp only[rangeL,runQ];obtain⟨v,N,O⟩:=Q4a (g:=g) J om hk (by have:=I 0 x rfl;rwa [xf] at this) (w x (.head _)) S U Q H p L;rw[N,sbind];cases V:opQ x T Y P done with
    | none=>exact⟨g,rfl⟩
    | some q=>
      have W:=O q V;simp only[ot,bifF];unfold Qag;rw[Qh7 J om,sbind,sbind];simp only[];by_cases A:(qz q:Int)<=g.limit
      . rw[oj A,oi A,ot,bifF,K0 (by rw[Q3];simp at C |-;omega) (by rw[Q3];simp at C |-;omega),sbind,sbind]
        simp only[];have E:qw q<=k:=by have:=qw_qz (q:=q) (b:=4096) om;omega
        have a:(done++[q]).length=done.length+1:=oa
        obtain⟨f,h⟩:=ih (done++[q]) (noteG g q) K (λj y p=>by
         rw[a,show done.length+1+j=done.length+(j+1) by omega];exact I (j+1) y (by simpa using p)) (λy p=>w y (.tail _ p)) (λz r=>by
         rcases xw.1 r with r | r
         . exact H z r
         . rw[xl.1 r];exact E) B (by rw[a];simp at C;omega)
        refine⟨f,?_⟩;rw[a] at h;rw[Qtp];exact h
      . rw[oo A,oh A,ov,bifT,sbind]
        exact⟨noteG g q,rfl⟩
 obtain⟨⟨d1,d2,d3,M⟩,m1,m2⟩:=X;obtain⟨f,h⟩:=key t.Code [] g (λu=>some (u.2,(⟨0,0,0,0⟩:Qc),u.1)) (λj x Z=>by rw[show([]:List Rat).length+j=j by simp];exact m1 j x Z) w (λ_ h=>by cases h) B (by simpa using M);refine⟨f,?_⟩;rw[show(([]:List Rat).length)=0 from rfl,show toR []=[] from rfl] at h;rw[h];cases runQ g.limit T Y P t.Code 0 []<;>rfl
def digB(c:Nat):Bool:=decide (48<=c/\c<=57)
def letB(c:Nat):Bool:=decide (97<=c/\c<=122\/65<=c/\c<=90\/c=95)
def sgnL:List UInt8:=[43,45,42,47,94,40,41,91,93,44,59,61]
def sgnB(c:Nat):Bool:=sgnL.any (λx=>x.toNat=c)
def kindC(c:Nat):Int:=if digB c then 1 else if letB c then 2 else if sgnB c then 3 else 0
def goC(k:Int)(c:Nat):Bool:=(decide (k=1) && digB c) || (decide (k=2) && (letB c || digB c))
def mostC(k:Int):Nat:=if k=1 then 60 else if k=2 then 12 else 1
def wdB(k:Int):List UInt8->Bool
 | []=>false
 | c::r=>decide (k≠0) && (decide (kindC c.toNat=k) && (r.all (λb=>goC k b.toNat) && decide (r.length+1<=mostC k)))
theorem Qoc(c:Nat):Qbd c=some (digB c):=by unfold Qbd digB;simp only[jn_eq,bifd];grind
theorem Qmq(c:Nat):Qbo c=some (letB c):=by unfold Qbo letB;simp only[jn_eq,bifd];grind
theorem Q4b{s:List UInt8}{p:Nat}{c:UInt8}(h:s[p]?=some c)(d:c.toNat<128):decR s p=c.toNat/\decW s p=1:=by
 have a:((⟨s.toArray⟩:ByteArray).get! (p+0)).toNat=c.toNat:=by
  have e:=Ke h;have:((⟨s.toArray⟩:ByteArray).get! (p+0))=c:=by show s.toArray[p+0]! = c;simp[h]
  rw[this]
 unfold decR decW Utf8.decode;simp only[a];rw[oi d];exact⟨rfl,rfl⟩
theorem Qyx{n c:Nat}(p:big<=n):Qik n c=some (sgnB c):=by
 unfold Qik;unfold big at p;have e:sgnB c=runG (τ:=Bool) (λ_ (x:UInt8) (_:Unit)=>if x.toNat=c then .inr true else .inl ()) (λ_=>false) sgnL 0 ():=by
  unfold sgnB;have:∀(l:List UInt8) (i:Nat),l.any (λx=>decide (x.toNat=c))=runG (τ:=Bool) (λ_ (x:UInt8) (_:Unit)=>if x.toNat=c then .inr true else .inl ()) (λ_=>false) l i ():=by
   intro l
   induction l with
   | nil=>intro i;rfl
   | cons x l q=>
     intro i;simp only[List.any_cons,runG];by_cases h:x.toNat=c;simp[h];simp only[oo h,oh h,Bool.false_or];exact q (i+1)
  exact this _ 0
 rw[e];refine Q7l (λ_ i=>i) (λ_ (x:UInt8) (_:Unit)=>if x.toNat=c then .inr true else .inl ()) (λ_=>()) _ (λ_ _=>True) sgnL () (λi x b j _=>⟨?_,λ_ _=>trivial⟩) (λb _=>by simp[bifd,sgnL]) (λb _=>rfl) trivial (by simp[sgnL];omega);have hi:=Ke j;have g:x.toNat<128:=by
  have:∀ y∈sgnL,y.toNat<128:=oy
  exact this x (Je j)
 obtain⟨k,m⟩:=Q4b j g;have a:decR [43,45,42,47,94,40,41,91,93,44,59,61] i=x.toNat:=k;have d:decW [43,45,42,47,94,40,41,91,93,44,59,61] i=1:=m;have f:i<([43,45,42,47,94,40,41,91,93,44,59,61]:List UInt8).length:=hi;simp only[bifd,oi f,sbind,a,d];rw[show Int.toNat ((x.toNat:Int)%256)=x.toNat by omega];by_cases h:x.toNat=c;rw[oi h,oi h];rfl;rw[oh h,oh h];rfl
theorem Qyy{n c:Nat}(a:big<=n):Qil n c=some (kindC c):=by
 unfold Qil kindC;rw[Qoc,sbind];cases digB c with
 | true=>rfl
 | false=>
   rw[bifF,Qmq,sbind];cases letB c with
   | true=>rfl
   | false=>rw[bifF,Qyx a,sbind];cases sgnB c<;>rfl
theorem Qyz(k:Int)(c:Nat):Qim k c=some (goC k c):=by unfold Qim goC;simp only[jn_eq,Qoc,Qmq,sbind,bifd];by_cases a:k=1;subst a;cases digB c<;>simp;by_cases d:k=2;subst d;cases letB c<;>cases digB c<;>simp;simp[a,d]
theorem Qy0(k:Int):Qin k=some (mostC k:Int):=by unfold Qin mostC;simp only[bifd];grind
def firstL(k:Int)(s:List UInt8):Nat:=1+((s.drop 1).takeWhile (λc=>goC k c.toNat)).length
theorem Qp2{α:Type}{p:α->Bool}:∀ {l:List α}{i:Nat},i<(l.takeWhile p).length->∃ x,l[i]?=some x/\p x=true
 | [],i,h=>by simp at h
 | y::l,0,h=>by
   cases a:p y with
   | true=>exact⟨y,rfl,a⟩
   | false=>rw[uh,a] at h;simp at h
 | y::l,i+1,h=>by
   rw[uh] at h;cases a:p y with
   | true=>rw[a] at h;simp only[vh,ow] at h;exact Qp2 (l:=l) (i:=i) om
   | false=>rw[a] at h;simp at h
theorem Qp3{α:Type}{p:α->Bool}:∀ {l:List α}{x:α},l[(l.takeWhile p).length]?=some x->p x=false
 | [],x,h=>by simp at h
 | y::l,x,h=>by
   rw[uh] at h;cases a:p y with
   | true=>rw[a] at h;simp only[vh,ow,List.getElem?_cons_succ] at h;exact Qp3 h
   | false=>rw[a] at h;simp at h;rw[<-h];exact a
theorem Qrg{α:Type}(p:α->Bool)(l:List α):(l.takeWhile p).length<=l.length:=(List.takeWhile_sublist p).length_le
theorem Qw3{n:Nat}{s:List UInt8}{k:Int}(r:big<=n)(hs:s.length<=4611686018427387904):Qhb n s k=some (firstL k s:Int):=by
 unfold Qhb;unfold big at r;generalize m:(λc:UInt8=>goC k c.toNat)=p;have a:∀ c:UInt8,goC k c.toNat=p c:=λc=>by rw[<-m]
 have l:((s.drop 1).takeWhile p).length<=s.length:=xx (Qrg _ _) oa;have q:firstL k s=1+((s.drop 1).takeWhile p).length:=by unfold firstL;rw[m]
 rw[q];refine Qgf (λs':Int=>s.length+2 - s'.toNat) (λs'=>∃ j:Nat,s'=((1+j:Nat):Int)/\j<=((s.drop 1).takeWhile p).length) (λt=>t=((1+((s.drop 1).takeWhile p).length:Nat):Int)) ⟨0,rfl,xo _⟩ oe (λs' hI=>?_) (λt u=>by rw[u]);obtain⟨j,rfl,v⟩:=hI;simp only[jn_eq,bifd];by_cases i:1+j<s.length;rw[oi om,Q7k i,sbind,Qyz,sbind];have g:(s.drop 1)[j]?=some s[1+j]:=by rw[vq,ol i]
 by_cases e:j<((s.drop 1).takeWhile p).length;obtain⟨x,f,d⟩:=Qp2 e;rw[g] at f;cases f;left;refine⟨((1+(j+1):Nat):Int),?_,⟨j+1,rfl,om⟩,om⟩;have:goC k (s[1+j]).toNat=true:=by rw[a];exact d
 rw[this,bifT,w1 om];rfl;right;obtain rfl:j=((s.drop 1).takeWhile p).length:=om
 have d:=Qp3 g;refine⟨_,?_,rfl⟩;have:goC k (s[1+((s.drop 1).takeWhile p).length]).toNat=false:=by rw[a];exact d
 rw[this,bifF];right;rw[oh om];refine⟨_,rfl,?_⟩;have:((s.drop 1).takeWhile p).length<=(s.drop 1).length:=Qrg _ _;rw[uz] at this;have:j=((s.drop 1).takeWhile p).length:=om
 rw[this]
theorem Qp4{α:Type}{p:α->Bool}:∀ {l:List α},(l.takeWhile p).length=l.length↔l.all p=true
 | []=>oa
 | x::l=>by
   rw[uh];cases a:p x with
   | true=>simp[a,Qp4]
   | false=>simp[a]
theorem Qw4{n:Nat}{w:Qgm}(e:big<=n)(hs:w.Text.length<=4611686018427387904):Qe7 n w=some (wdB w.Ad w.Text):=by
 unfold Qe7;simp only[jn_eq,Qw3 e hs,sbind,Qy0,bifd];cases f:w.Text with
 | nil=>rfl
 | cons c r=>
   rw[oh oa];by_cases h0:w.Ad=0;rw[oi h0,bifT];simp[wdB,h0];rw[oh h0,show getS (c::r) (0:Int)=some c.toNat by rfl,sbind,Qyy e,sbind];by_cases hk:kindC c.toNat=w.Ad;simp only[oj hk,ot,bifF];have d:(firstL w.Ad (c::r):Int)=((c::r).length:Int)↔r.all (λb=>goC w.Ad b.toNat)=true:=by rw[<-Qp4];unfold firstL;simp only[wu,List.drop_zero,ow];omega
   by_cases a:r.all (λb=>goC w.Ad b.toNat)=true;rw[oi (d.2 a)];simp only[wdB,a,hk];simp;congr 1;rw[Bool.eq_iff_iff];simp;omega;rw[oh (λh=>a (d.1 h))];have:r.all (λb=>goC w.Ad b.toNat)=false:=by simpa using a
   simp only[wdB,this,Bool.false_and,Bool.and_false];simp only[oo hk,ov,bifT];simp[wdB,hk]
theorem Qr3{a T Y P}(d:a<=4096):∀ {c:List Qt}{i:Nat}{done l:List Rat},QR 129 done->runQ a T Y P c i done=.inr l->l.length=done.length+c.length/\QR 129 l
 | [],i,done,l,hd,h=>by simp only[runQ] at h;cases h;exact⟨rfl,hd⟩
 | x::c,i,done,l,hd,h=>by
   simp only[runQ] at h;cases g:opQ x T Y P done with
   | none=>rw[g] at h;cases h
   | some q=>
     rw[g] at h;simp only[] at h;by_cases f:(qz q:Int)<=a
     . rw[oi f] at h
       obtain⟨j,k⟩:=Qr3 d (λz e=>by
        rcases xw.1 e with e | e
        . exact hd z e
        . rw[xl.1 e]
          have:=qw_qz (q:=q) (b:=4096) om;omega) h
       exact⟨by rw[j];simp;omega,k⟩
     . rw[oh f] at h;cases h
theorem Qmr{a T Y P}:∀ {c:List Qt}{i:Nat}{done:List Rat}{e},runQ a T Y P c i done=.inl e->e.1=3\/e.1=6
 | [],i,done,e,h=>by simp only[runQ] at h;cases h
 | x::c,i,done,e,h=>by
   simp only[runQ] at h;cases f:opQ x T Y P done with
   | none=>rw[f] at h;cases h;exact .inl rfl
   | some q=>
     rw[f] at h;simp only[] at h;by_cases d:(qz q:Int)<=a
     . rw[oi d] at h;exact Qmr h
     . rw[oh d] at h;cases h;exact .inr rfl
def fieldQ(t:Qk)(a:Int)(T:Rat)(Y P:List Rat):(Int×Nat) ⊕ List Rat:=
 match runQ a T Y P t.Code 0 [] with
 | .inl e=>.inl e
 | .inr l=>.inr (t.Af.map λo=>l.getD o.toNat 0)
structure Qrh(n k:Nat)(t:Qk):Prop where
 r:tapeR t
 h:X5 n t=some true
 w:∀ c∈t.Code,Fk k c.N
theorem Qw5{n k:Nat}{t:Qk}{p:Km}{bits:Int}(a:big<=n)(m:129<=k)(hk:k<1048576)(x:Qrh n k t)(f:Fk k p.T)(j:FR k p.Y)(d:FR k p.P)(y:(p.Y.length:Int)=t.Ae)(v:(p.P.length:Int)=t.Ao):
 Qhc n t p bits=some (match fieldQ t (min (max bits 0) 4096) (fv p.T) (rv p.Y) (rv p.P) with | .inl e=>([],⟨e.1,0,0,(e.2:Int)⟩) | .inr l=>(toR l,⟨0,0,0,0⟩)):=by
 obtain⟨r,h,w⟩:=x;have hd:=r.1;obtain⟨⟨B,C⟩,⟨E,F⟩,G,H⟩:=hd;have eT:=qw_fv f om;have eY:=QR_rv j om;have eP:=QR_rv d om;unfold Qhc Qei Qbe Vx;rw[Ju a (Fk_Fw f om),sbind,Yp a om j om,sbind,Yp a om d om,sbind,sbind,sbind];simp only[];obtain⟨I,e⟩:=Q0t (g:=⟨⟨0,0⟩,min (max bits 0) 4096⟩) a m hk r h w eT eY eP (by rw[Q4];exact y) (by rw[Q4];exact v) (by simp only[];omega);rw[e,sbind];unfold fieldQ;simp only[];cases hr:runQ (min (max bits 0) 4096) (fv p.T) (rv p.Y) (rv p.P) t.Code 0 [] with
 | inl q=>
   have hk:=Qmr hr;simp only[];rw[sbind];simp only[];rw[Jt om,ov,bifT]
 | inr l=>
   obtain⟨l1,A⟩:=Qr3 om (λ_ h=>by cases h) hr;have J:l.length=t.Code.length:=by simpa using l1
   simp only[];rw[sbind];simp only[];rw[Jv,ot,bifF];unfold Qkz;simp only[jn_eq,h,sbind,ot,bifF];rw[Q3,oj (show(l.length:Int)=(t.Code.length:Int) by omega),ot,bifF,Qwz (g:=λo:Int=>l.getD o.toNat 0) a om λi o s u=>?_,sbind];have hb:=r.2.2 o (Je u);rw[Qde hb.1 om,sbind,Ju a (Fk_Fw (Qz (Xg A om)) om),sbind,Qu]
theorem Qxx{t:Qk}{a T Y P l}(d:a<=4096)(h:fieldQ t a T Y P=.inr l):l.length=t.Af.length/\QR 129 l:=by
 unfold fieldQ at h;cases hr:runQ a T Y P t.Code 0 [] with
 | inl q=>rw[hr] at h;cases h
 | inr l'=>
   rw[hr] at h;cases h;obtain⟨l1,f⟩:=Qr3 d (λ_ h=>by cases h) hr;refine⟨oa,λq e=>?_⟩;obtain⟨o,_,rfl⟩:=xa.1 e;exact Xg f om
theorem Qsz{t:Qk}{a T Y P e}(h:fieldQ t a T Y P=.inl e):e.1=3\/e.1=6:=by
 unfold fieldQ at h;cases hr:runQ a T Y P t.Code 0 [] with
 | inl q=>rw[hr] at h;cases h;exact Qmr hr
 | inr l'=>rw[hr] at h;cases h
end Go.Proofs.YtmnalemmhfjacaaGreatDoor
