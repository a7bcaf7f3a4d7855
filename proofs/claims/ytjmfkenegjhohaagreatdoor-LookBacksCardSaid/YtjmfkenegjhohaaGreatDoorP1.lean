import Derived.Test.YtjmfkenegjhohaaGreatDoorMod
namespace Go.Proofs.YtjmfkenegjhohaaGreatDoor
open Go Go.RowKit
def big:Nat:=18446744073709551616
theorem w64{x:Int}(a:-9223372036854775808<=x)(d:x<=9223372036854775807):wrap64 x=x:=by unfold wrap64;omega
theorem bifd{α:Type}(p:Prop)[Decidable p](a b:α):(bif decide p then a else b)=if p then a else b:=by by_cases h:p<;>simp[h]
theorem bifnd{α:Type}(p:Prop)[Decidable p](a b:α):(bif !decide p then a else b)=if p then b else a:=by by_cases h:p<;>simp[h]
theorem bifT{α:Type}(a b:α):(bif true then a else b)=a:=vw (vw rfl)
theorem bifF{α:Type}(a b:α):(bif false then a else b)=b:=vw (vw rfl)
theorem jn_eq{σ ρ:Type}(A:(σ->Option ρ)->Option ρ)(k:σ->Option ρ):jn A k=A k:=vw (vw rfl)
theorem Wv{τ ρ:Type}(k:τ->Option ρ)(t:τ):lpK k (.go t)=k t:=vw (vw rfl)
theorem Qap{τ ρ:Type}(k:τ->Option ρ)(r:ρ):lpK k (.out r)=some r:=vw (vw rfl)
theorem sbind{α β:Type}(a:α)(f:α->Option β):(some a).bind f=f a:=vw (vw rfl)
theorem Qgf{α:Type}(l:List α)(i:Nat):getI l (i:Int)=l[i]?:=by simp[getI]
theorem Qbz{α:Type}{l:List α}{i:Nat}(h:i<l.length):getI l (i:Int)=some l[i]:=by rw[Qgf];simp[h]
theorem Qz5(l:List UInt8)(i:Nat):getS l (i:Int)=(l[i]?).map (·.toNat):=by simp[getS]
theorem Jim{l:List UInt8}{i:Nat}(h:i<l.length):getS l (i:Int)=some l[i].toNat:=by rw[Qz5];simp[h]
theorem grd_t{b:Bool}(h:b=true):grd b=some ():=by rw[h];rfl
theorem Ja5{α:Type}{l:List α}{k:Nat}(h:k<=l.length):sub l 0 (k:Int)=some (l.take k):=by unfold sub;rw[oq om];simp
theorem Q6e{α:Type}{l:List α}{i k:Nat}(a:i<=k)(h:k<=l.length):sub l (i:Int) (k:Int)=some ((l.take k).drop i):=by unfold sub;rw[oq om];simp
theorem J9{α:Type}{b:Nat}{l r:List α}(h:(l.length+r.length)*b<=140737488355328)(a:l.length+r.length<=9223372036854775807):appM b l r=some (l++r):=by unfold appM;rw[oq ⟨h,a⟩]
theorem Qfd{α:Type}{b:Nat}{z:α}{n:Nat}(h:n*b<=140737488355328)(a:n<=9223372036854775807):mkM b z (n:Int)=some (List.replicate n z):=by unfold mkM;rw[oq om];simp
theorem Qxv{σ τ:Type}{f:σ->Option (Lp σ τ)}(μ:σ->Nat)(I:σ->Prop)(Q:τ->Prop)
 (hb:∀ s,I s->(∃ s',f s=some (.go s')/\I s'/\μ s'<μ s)\/(∃ t,f s=some (.out t)/\Q t)):∀(n:Nat) (s:σ),I s->μ s<n->∃ t,loopM f n s=some t/\Q t
 | 0,_,_,h=>absurd h (dg _)
 | n+1,s,hI,hn=>by rcases hb s hI with ⟨s',a,d,i⟩ | ⟨t,a,d⟩;obtain⟨t,e,g⟩:=Qxv μ I Q hb n s' d om;exact⟨t,by simp only[loopM,a,xq];exact e,g⟩;exact⟨t,by simp only[loopM,a,xq],d⟩
theorem Qb0{σ τ R:Type}{f:σ->Option (Lp σ τ)}{n:Nat}{s:σ}{k:τ->Option R}{r:R}(μ:σ->Nat)(I:σ->Prop)(Q:τ->Prop)(h0:I s)(hn:μ s<n)
 (hb:∀ s,I s->(∃ s',f s=some (.go s')/\I s'/\μ s'<μ s)\/(∃ t,f s=some (.out t)/\Q t)) (hk:∀ t,Q t->k t=some r):(loopM f n s).bind k=some r:=by
 obtain⟨t,a,d⟩:=Qxv μ I Q hb n s h0 hn;rw[a,xq];exact hk t d
theorem Qhy{σ τ R:Type}{f:σ->Option (Lp σ τ)}{n:Nat}{s:σ}{k:τ->Option R}{P:R->Prop}(μ:σ->Nat)(I:σ->Prop)(Q:τ->Prop)(h0:I s)(hn:μ s<n)
 (hb:∀ s,I s->(∃ s',f s=some (.go s')/\I s'/\μ s'<μ s)\/(∃ t,f s=some (.out t)/\Q t)) (hk:∀ t,Q t->∃ r,k t=some r/\P r):∃ r,(loopM f n s).bind k=some r/\P r:=by
 obtain⟨t,a,d⟩:=Qxv μ I Q hb n s h0 hn;rw[a,xq];exact hk t d
theorem Qbp{σ τ:Type}{f:σ->Option (Lp σ τ)}{s s':σ}{n:Nat}(h:f s=some (.go s')):loopM f (n+1) s=loopM f n s':=by simp only[loopM,h,xq]
theorem Vv{σ τ:Type}{f:σ->Option (Lp σ τ)}{s:σ}{t:τ}{n:Nat}(h:f s=some (.out t))(hn:0<n):loopM f n s=some t:=by
 obtain⟨m,rfl⟩:∃ m,n=m+1:=⟨n - 1,om⟩
 simp only[loopM,h,xq]
theorem Quc{α σ τ:Type}{f:Nat->α->σ->Option (Lp σ τ)}(I:Nat->σ->Prop):∀(xs:List α) (i:Nat) (s:σ),I i s->(∀ j x s,xs[j]?=some x->I (i+j) s->∃ s',f (i+j) x s=some (.go s')/\I (i+j+1) s') ->
 ∃ s',rangeL f xs i s=some (.go s')/\I (i+xs.length) s'
 | [],i,s,h,_=>⟨s,rfl,h⟩
 | x::xs,i,s,h,hb=>by
   obtain⟨s1,a,d⟩:=hb 0 x s rfl h;simp only[xp] at a d
   obtain⟨m,e,g⟩:=Quc I xs (i+1) s1 d (λj y t k l=>by
    have:=hb (j+1) y t (by simpa using k) (by rw[show i+(j+1)=i+1+j by omega];exact l);rw[show i+(j+1)=i+1+j by omega] at this
    exact this)
   refine⟨m,by simp only[rangeL,a,xq];exact e,?_⟩;rw[xn,show i+(xs.length+1)=i+1+xs.length by omega];exact g
theorem Qpi{α σ τ R:Type}{f:Nat->α->σ->Option (Lp σ τ)}{xs:List α}{s:σ}{k:Lp σ τ->Option R}{r:R}(I:Nat->σ->Prop)(h0:I 0 s)
 (hb:∀ j x s,xs[j]?=some x->I j s->∃ s',f j x s=some (.go s')/\I (j+1) s') (hk:∀ t,I xs.length t->k (.go t)=some r):(rangeL f xs 0 s).bind k=some r:=by
 obtain⟨s',a,d⟩:=Quc I xs 0 s h0 (λj x s e hs=>by rw[xg] at hs |-;exact hb j x s e hs);rw[a,xq];exact hk s' (by simpa using d)
theorem Qvp{α σ τ R:Type}{f:Nat->α->σ->Option (Lp σ τ)}{xs:List α}{s:σ}{k:Lp σ τ->Option R}{P:R->Prop}(I:Nat->σ->Prop)(h0:I 0 s)
 (hb:∀ j x s,xs[j]?=some x->I j s->∃ s',f j x s=some (.go s')/\I (j+1) s') (hk:∀ t,I xs.length t->∃ r,k (.go t)=some r/\P r):∃ r,(rangeL f xs 0 s).bind k=some r/\P r:=by
 obtain⟨s',a,d⟩:=Quc I xs 0 s h0 (λj x s e hs=>by rw[xg] at hs |-;exact hb j x s e hs);rw[a,xq];exact hk s' (by simpa using d)
def runG{α β τ:Type}(g:Nat->α->β->β ⊕ τ)(e:β->τ):List α->Nat->β->τ
 | [],_,b=>e b
 | x::xs,i,b=>match g i x b with
   | .inl a=>runG g e xs (i+1) a
   | .inr t=>t
def toLpp{β σ τ0 τ:Type}(mk:β->Nat->σ)(i:Nat):β ⊕ τ->Lp σ (Lp τ0 τ)
 | .inl b=>.go (mk b (i+1))
 | .inr t=>.out (.out t)
theorem Q2u{α β σ τ0 τ:Type}{f:σ->Option (Lp σ (Lp τ0 τ))}{k:τ0->Option τ}{s0:σ}(mk:β->Nat->σ)(g:Nat->α->β->β ⊕ τ)(q:β->τ0)(e:β->τ)(I:Nat->β->Prop)(xs:List α)(b:β){n:Nat}
 (hb:∀ i x b,xs[i]?=some x->I i b->f (mk b i)=some (toLpp mk i (g i x b))/\∀ d,g i x b=.inl d->I (i+1) d)
 (l:∀ b,I xs.length b->f (mk b xs.length)=some (.out (.go (q b)))) (hk:∀ b,I xs.length b->k (q b)=some (e b)) (h0:I 0 b) (hn:xs.length<n) (hs:s0=mk b 0:=by rfl) :
 (loopM f n s0).bind (lpK k)=some (runG g e xs 0 b):=by
 have key:∀(xs:List α) (j:Nat) (b:β) (n:Nat),
  (∀ i x b,xs[i]?=some x->I (j+i) b->f (mk b (j+i))=some (toLpp mk (j+i) (g (j+i) x b))/\∀ d,g (j+i) x b=.inl d->I (j+i+1) d) ->
  (∀ b,I (j+xs.length) b->f (mk b (j+xs.length))=some (.out (.go (q b))))->(∀ b,I (j+xs.length) b->k (q b)=some (e b))->I j b->xs.length<n->(loopM f n (mk b j)).bind (lpK k)=some (runG g e xs j b):=by
  intro xs
  induction xs with
  | nil=>
    intro j b n _ l hk h0 hn;simp only[ye,xp] at l hk;rw[Vv (l b h0) om,xq];exact hk b h0
  | cons x xs w=>
    intro j b n hb l hk h0 hn;obtain⟨m,rfl⟩:∃ m,n=m+1:=⟨n - 1,by simp at hn;omega⟩
    obtain⟨p,s⟩:=hb 0 x b rfl h0;simp only[xp] at p s;simp only[runG];cases r:g j x b with
    | inl d=>
      rw[r] at p;rw[Qbp p];refine w (j+1) d m (λi y c v a=>?_) (λc a=>?_) (λc a=>?_) (s d r) (by simp at hn;omega);have:=hb (i+1) y c (by simpa using v);rw[show j+(i+1)=j+1+i by omega] at this;exact this a;have:=l c;rw[xn,show j+(xs.length+1)=j+1+xs.length by omega] at this;exact this a;have:=hk c;rw[xn,show j+(xs.length+1)=j+1+xs.length by omega] at this;exact this a
    | inr t=>rw[r] at p;rw[Vv p om];rfl
 rw[hs];exact key xs 0 b n (λi x c u a=>by rw[xg] at a |-;exact hb i x c u a) (λc a=>by rw[xg] at a |-;exact l c a) (λc a=>hk c (by rwa [xg] at a)) h0 hn
theorem Jd{α:Type}{l:List α}{i:Nat}{x:α}(h:l[i]?=some x):getI l (i:Int)=some x:=by rw[Qgf,h]
theorem J8{α:Type}{l:List α}{i:Nat}{x:α}(h:l[i]?=some x):i<l.length:=by rcases xt i l.length with a | a;exact a;rw[xz a] at h;cases h
theorem Jw{α:Type}{l:List α}{i:Nat}{x:α}(h:l[i]?=some x):x∈l:=uj h
theorem w1{i:Nat}(h:i<9223372036854775807):wrap64 ((i:Int)+1)=((i+1:Nat):Int):=by rw[w64 om om];omega
theorem Qr8{α:Type}{l:List α}{x:α}(h:l.length<9223372036854775807):getI (l++[x]) (wrap64 (((l++[x]).length:Int) - 1))=some x:=by rw[yd,vm,w64 om om,show(((l.length+1:Nat):Int) - 1)=((l.length:Nat):Int) by omega,Qgf];simp
theorem Q7x{σ τ:Type}{f:σ->Option (Lp σ τ)}(F:Nat->σ){t:τ}:∀(N k n:Nat),(∀ i,i<N->f (F (k+i))=some (.go (F (k+i+1))))->f (F (k+N))=some (.out t)->N<n->loopM f n (F k)=some t
 | 0,k,n,_,a,hn=>Vv a om
 | N+1,k,n,hb,a,hn=>by
   obtain⟨m,rfl⟩:∃ m,n=m+1:=⟨n - 1,om⟩
   have h0:=hb 0 om;simp only[xp] at h0;rw[Qbp h0];exact Q7x F N (k+1) m (λi hi=>by have:=hb (i+1) om;rw[show k+(i+1)=k+1+i by omega] at this;exact this) (by rw[show k+1+N=k+(N+1) by omega];exact a) om
theorem V3{σ τ R:Type}{f:σ->Option (Lp σ τ)}{s:σ}{K:τ->Option R}{n:Nat}(F:Nat->σ)(N:Nat)(t:τ)(hb:∀ i,i<N->f (F i)=some (.go (F (i+1))))(a:f (F N)=some (.out t))(hn:N<n)(hs:s=F 0):(loopM f n s).bind K=K t:=by rw[hs,Q7x F (t:=t) N 0 n (λi hi=>by rw[xg];exact hb i hi) (by rw[xg];exact a) hn,xq]
theorem Q4k{α σ τ:Type}{f:Nat->α->σ->Option (Lp σ τ)}(F:Nat->σ):∀(xs:List α) (k:Nat),(∀ i x,xs[i]?=some x->f (k+i) x (F (k+i))=some (.go (F (k+i+1))))->rangeL f xs k (F k)=some (.go (F (k+xs.length)))
 | [],_,_=>rfl
 | x::xs,k,hb=>by have h0:=hb 0 x rfl;simp only[xp] at h0;simp only[rangeL,h0,xq];rw[Q4k F xs (k+1) (λi y a=>by have:=hb (i+1) y (by simpa using a);rw[show k+(i+1)=k+1+i by omega] at this;exact this),xn,show k+1+xs.length=k+(xs.length+1) by omega]
theorem Qbe{α σ τ R:Type}{f:Nat->α->σ->Option (Lp σ τ)}{s:σ}{K:Lp σ τ->Option R}(F:Nat->σ)(xs:List α)(hb:∀ i x,xs[i]?=some x->f i x (F i)=some (.go (F (i+1))))(hs:s=F 0):(rangeL f xs 0 s).bind K=K (.go (F xs.length)):=by rw[hs,Q4k F xs 0 (λi x a=>by rw[xg];exact hb i x a),xq,xg]
theorem Q4l{α R:Type}{f:Nat->α->Unit->Option (Lp Unit R)}{r:R}(P:Nat->α->Prop):∀(xs:List α) (k:Nat),(∀ i x,xs[i]?=some x->(P (k+i) x->f (k+i) x ()=some (.go ()))/\(¬ P (k+i) x->f (k+i) x ()=some (.out r))) ->
 ((∀ i x,xs[i]?=some x->P (k+i) x)->rangeL f xs k ()=some (.go ()))/\(¬(∀ i x,xs[i]?=some x->P (k+i) x)->rangeL f xs k ()=some (.out r))
 | [],k,_=>⟨λ_=>rfl,λh=>absurd (λi x l=>by simp at l) h⟩
 | x::xs,k,hb=>by
   obtain⟨d,g⟩:=hb 0 x rfl;simp only[xp] at d g;obtain⟨g1,j⟩:=Q4l P xs (k+1) (λi y a=>by have:=hb (i+1) y (by simpa using a);rw[show k+(i+1)=k+1+i by omega] at this;exact this);by_cases hp:P k x;have e:(∀ i y,(x::xs)[i]?=some y->P (k+i) y)↔(∀ i y,xs[i]?=some y->P (k+1+i) y):=by
    constructor;intro h i y a;have:=h (i+1) y (by simpa using a);rw[show k+(i+1)=k+1+i by omega] at this;exact this;intro h i y a;cases i with
    | zero=>simp at a;subst a;exact hp
    | succ i=>rw[show k+(i+1)=k+1+i by omega];exact h i y (by simpa using a)
   rw[e];simp only[rangeL,d hp,xq];exact⟨g1,j⟩;refine⟨λh=>absurd (h 0 x rfl) hp,λ_=>?_⟩;simp only[rangeL,g hp,xq]
open Classical in
theorem Qag{α R:Type}{f:Nat->α->Unit->Option (Lp Unit R)}{K:Unit->Option R}{r:R}(P:Nat->α->Prop)(xs:List α)
 (hb:∀ i x,xs[i]?=some x->(P i x->f i x ()=some (.go ()))/\(¬ P i x->f i x ()=some (.out r))) :
 (rangeL f xs 0 ()).bind (lpK K)=if (∀ i x,xs[i]?=some x->P i x) then K () else some r:=by
 obtain⟨g1,a⟩:=Q4l P xs 0 (λi x d=>by rw[xg];exact hb i x d);simp only[xg] at g1 a;by_cases h:∀ i x,xs[i]?=some x->P i x;rw[oq h,g1 h,xq,Wv];rw[ol h,a h,xq,Qap]
theorem Q7y{R:Type}{f:Int->Option (Lp Int (Lp Unit R))}{r:R}(P:Nat->Prop):∀(N k n:Nat),(∀ i,i<k+N->k<=i->(P i->f (i:Int)=some (.go ((i+1:Nat):Int)))/\(¬ P i->f (i:Int)=some (.out (.out r))))->f ((k+N:Nat):Int)=some (.out (.go ()))->N<n ->
 ((∀ i,k<=i->i<k+N->P i)->loopM f n (k:Int)=some (.go ()))/\(¬(∀ i,k<=i->i<k+N->P i)->loopM f n (k:Int)=some (.out r))
 | 0,k,n,_,d,hn=>⟨λ_=>Vv d om,λh=>absurd (λi g j=>by omega) h⟩
 | N+1,k,n,hb,d,hn=>by
   obtain⟨m,rfl⟩:∃ m,n=m+1:=⟨n - 1,om⟩
   obtain⟨g,j⟩:=hb k om (xm _);obtain⟨g1,l⟩:=Q7y P N (k+1) m (λi hi hk=>hb i om om) (by rw[show k+1+N=k+(N+1) by omega];exact d) om;by_cases hp:P k;have e:(∀ i,k<=i->i<k+(N+1)->P i)↔(∀ i,k+1<=i->i<k+1+N->P i):=by constructor;intro h i a b;exact h i om om;intro h i a b;rcases jv a with c | c;exact c ▸ hp;exact h i c om
   rw[e,Qbp (g hp)];exact⟨g1,l⟩;exact⟨λh=>absurd (h k (xm _) om) hp,λ_=>Vv (j hp) om⟩
open Classical in
theorem Qj7{R:Type}{f:Int->Option (Lp Int (Lp Unit R))}{K:Unit->Option R}{r:R}{n:Nat}(P:Nat->Prop)(N:Nat)
 (hb:∀ i,i<N->(P i->f (i:Int)=some (.go ((i+1:Nat):Int)))/\(¬ P i->f (i:Int)=some (.out (.out r)))) (d:f (N:Int)=some (.out (.go ()))) (hn:N<n) :
 (loopM f n 0).bind (lpK K)=if (∀ i,i<N->P i) then K () else some r:=by
 obtain⟨g1,a⟩:=Q7y (n:=n) (r:=r) P N 0 (λi hi _=>hb i om) (by rw[xg];exact d) hn;simp only[xg,yb,true_implies] at g1 a;by_cases h:∀ i,i<N->P i;rw[oq h];have:=g1 h;rw[show((0:Nat):Int)=0 from rfl] at this;rw[this,xq,Wv];rw[ol h];have:=a h;rw[show((0:Nat):Int)=0 from rfl] at this;rw[this,xq,Qap]
theorem Xe{α β:Type}(h:α->β){l:List α}{i:Nat}{x:α}(a:l[i]?=some x):(l.take (i+1)).map h=(l.take i).map h++[h x]:=by
 rw[jp (J8 a),yx];have:l[i]'(J8 a)=x:=by have:=oi (J8 a);rw[this] at a;exact Option.some.inj a
 simp[this]
def val:List Nat->Nat
 | []=>0
 | x::a=>x+4294967296*val a
def bp(k:Nat):Nat:=4294967296 ^ k
theorem Qbd:bp 0=1:=by unfold bp;rw[Nat.pow_zero]
theorem Wx(k:Nat):bp (k+1)=bp k*4294967296:=by unfold bp;rw[jd]
theorem bp_le{j k:Nat}(h:j<=k):bp j<=bp k:=by unfold bp;exact dh oz h
theorem Jgr(k:Nat):0<bp k:=by unfold bp;exact Nat.pow_pos oz
theorem Jm5(j k:Nat):bp (j+k)=bp j*bp k:=by unfold bp;rw[wc]
def Wd(a:List Nat):Prop:=∀ x∈a,x<4294967296
def trimZ:List Nat->List Nat
 | []=>[]
 | x::a=>if trimZ a=[]/\x=0 then [] else x::trimZ a
def toL(n:Nat):List Nat:=if n=0 then [] else n%4294967296::toL (n / 4294967296)
termination_by n
decreasing_by omega
theorem W3:Wd []:=λ_ h=>by cases h
theorem K0{x a}:Wd (x::a)↔x<4294967296/\Wd a:=by simp[Wd]
theorem Kt{a b}:Wd (a++b)↔Wd a/\Wd b:=by constructor;intro h;exact⟨λx d=>h x (yn _ d),λx d=>h x (yv _ d)⟩;rintro⟨e,f⟩ x d;rcases yr.1 d with h | h;exact e x h;exact f x h
theorem Qsa{a k}(h:Wd a):Wd (a.take k):=λx d=>h x (ym d)
theorem Qof{a k}(h:Wd a):Wd (a.drop k):=λx d=>h x (vv d)
theorem Qpj{k x}(h:x<4294967296):Wd (List.replicate k x):=λy a=>by rw[(jw.1 a).2];exact h
theorem Qb1{a:List Nat}(h:Wd a){i:Nat}(hi:i<a.length):a[i]<4294967296:=h _ (xa hi)
theorem X7:toL 0=[]:=by rw[toL];rfl
theorem Qdt{n:Nat}(h:n≠0):toL n=n%4294967296::toL (n / 4294967296):=by rw[toL];rw[ol h]
theorem Je(n:Nat):val (toL n)=n:=by
 induction n using Nat.strongRecOn with
 | _ n a=>
   by_cases h:n=0;subst h;rw[X7];rfl;rw[Qdt h];simp only[val];rw[a (n / 4294967296) om];omega
theorem Js(n:Nat):Wd (toL n):=by
 induction n using Nat.strongRecOn with
 | _ n a=>
   by_cases h:n=0;subst h;rw[X7];exact W3;rw[Qdt h];exact K0.2 ⟨om,a (n / 4294967296) om⟩
theorem K1{a:List Nat}(h:Wd a):toL (val a)=trimZ a:=by
 induction a with
 | nil=>simp[val,X7,trimZ]
 | cons x a d=>
   obtain⟨j,i⟩:=K0.1 h;have d:=d i;simp only[val,trimZ];by_cases g:val a=0;rw[g,X7] at d;rw[<-d,g];by_cases e:x=0;subst e;simp[X7];rw[ol (λh=>e h.2),Qdt om];rw[show(x+4294967296*0)%4294967296=x by omega,show(x+4294967296*0) / 4294967296=0 by omega,X7];have f:trimZ a≠[]:=by rw[<-d,Qdt g];simp
   rw[ol (λh=>f h.1),Qdt om,show(x+4294967296*val a)%4294967296=x by omega,show(x+4294967296*val a) / 4294967296=val a by omega,d]
theorem Qud(a:List Nat):val (trimZ a)=val a:=by
 induction a with
 | nil=>rfl
 | cons x a d=>
   simp only[trimZ];split;rename_i h;rw[h.1] at d;simp[val] at d |-;omega;simp[val,d]
theorem Qaa(a:List Nat):(trimZ a).length<=a.length:=by
 induction a with
 | nil=>simp[trimZ]
 | cons x a d=>simp only[trimZ];split<;>simp;omega
theorem Q7z{a:List Nat}(h:trimZ a=[]):val a=0:=by rw[<-Qud,h];rfl
theorem Qz6{a:List Nat}(h:Wd a):trimZ a=[]↔val a=0:=by constructor;exact Q7z;intro d;rw[<-K1 h,d,X7]
theorem Jgs(n:Nat):trimZ (toL n)=toL n:=by rw[<-K1 (Js n),Je]
theorem Qvq(a:List Nat):trimZ (a++[0])=trimZ a:=by
 induction a with
 | nil=>simp[trimZ]
 | cons x a d=>simp only[yj,trimZ,d]
theorem Q4m(a:List Nat){x:Nat}(h:x≠0):trimZ (a++[x])=a++[x]:=by
 induction a with
 | nil=>simp[trimZ,h]
 | cons y a d=>simp only[yj,trimZ,d];rw[ol oc]
theorem Y0(a b:List Nat):val (a++b)=val a+bp a.length*val b:=by
 induction a with
 | nil=>simp[val,Qbd]
 | cons x a d=>simp only[yj,val,d,xn,Wx];rw[gt,<-uo,vu 4294967296 (bp a.length)];omega
theorem Zb{a:List Nat}(h:Wd a):val a<bp a.length:=by
 induction a with
 | nil=>simp[val,Qbd]
 | cons x a e=>
   obtain⟨f,d⟩:=K0.1 h;have:=e d;simp only[val,xn,Wx];omega
theorem Qif(k:Nat):val (List.replicate k 0)=0:=by
 induction k with
 | zero=>rfl
 | succ k a=>simp[vg,val,a]
theorem Qeb{n k:Nat}(h:n<bp k):(toL n).length<=k:=by
 induction k generalizing n with
 | zero=>rw[Qbd] at h;obtain rfl:n=0:=om
         simp[X7]
 | succ k a=>
   by_cases h0:n=0;subst h0;simp[X7];rw[Qdt h0,xn];have:=@a (n / 4294967296) (by rw[Wx] at h;exact dl (by rw[vu];exact h));omega
theorem We{α:Type}{a:List α}{k:Nat}(h:k<a.length):a.take (k+1)=a.take k++[a[k]]:=by simp[]
theorem Zi{n:Nat}{a:List Nat}(hn:big<=n)(f:a.length<=4611686018427387904):Zy n a=some (trimZ a):=by
 unfold Zy;unfold big at hn;refine Qb0 (λs=>s.toNat) (λs=>∃ k:Nat,s=k/\k<=a.length/\trimZ a=trimZ (a.take k)) (λt=>∃ k:Nat,t=k/\k<=a.length/\trimZ a=a.take k) ⟨a.length,rfl,xm _,oc⟩ oh ?_ ?_;rintro s ⟨k,rfl,hk,d⟩;simp only[jn_eq,bifd];by_cases h0:0<k;obtain⟨j,rfl⟩:∃ j,k=j+1:=⟨k - 1,om⟩
 rw[oq om,w64 om om,show((j+1:Nat):Int) - 1=(j:Nat) by omega,Qbz (show j<a.length by omega),sbind];rw[We (show j<a.length by omega)] at d;by_cases e:a[j]=0;left;refine⟨(j:Nat),by simp[e],⟨j,rfl,om,?_⟩,om⟩;rw[d,e,Qvq];right;refine⟨((j+1:Nat):Int),by simp[e],j+1,rfl,hk,?_⟩;rw[d,We (show j<a.length by omega),Q4m _ e];right;obtain rfl:k=0:=om
 exact⟨0,oc,0,rfl,yb _,by rw[d];simp[trimZ]⟩;rintro t ⟨k,rfl,hk,d⟩;rw[Ja5 hk,sbind,d]
theorem Jin{a:List Nat}{k:Nat}:cpyL (List.replicate (a.length+k) 0) a=a++List.replicate k 0:=by unfold cpyL;rw[ue,xb om,List.drop_replicate,wt]
theorem Qqa{a:List Nat}{k:Nat}(h:a.length+k<=35184372088832):Qh4 a (k:Int)=some (a++List.replicate k 0):=by unfold Qh4;rw[w64 om om,show((a.length:Int)+(k:Int))=((a.length+k:Nat):Int) by omega,Qfd om om,sbind,Jin]
theorem Yq{n:Nat}{a:List Nat}(hn:big<=n)(d:a.length<=35184372088832):Xy n a=some (trimZ a):=by unfold Xy;have e:=Qaa a;rw[Zi hn om,sbind,show(0:Int)=((0:Nat):Int) by rfl,Qqa om,sbind];simp
theorem Qyl{n:Nat}{a:List Nat}(hn:big<=n)(d:a.length<=4611686018427387904)(e:Wd a):Qfx n a=some (decide (val a=0)):=by unfold Qfx;rw[Zi hn d,sbind];congr 1;rw[Bool.eq_iff_iff];simp only[gr];rw[<-Qz6 e];constructor;intro h;exact xd om;intro h;rw[h];rfl
theorem Qxw{x y c d:Nat}(e:x<4294967296)(f:y<4294967296)(a:c<4294967296)(hd:d<4294967296):x*y+c+d<18446744073709551616:=by have:x*y<=4294967295*4294967295:=gi om om;omega
theorem Qrl{x y c d:Nat}(e:x<4294967296)(f:y<4294967296)(a:c<4294967296)(hd:d<4294967296):
 Qfy x y c d=some ((x*y+c+d) / 4294967296,(x*y+c+d)%4294967296):=by
 have h:=Qxw e f a hd;unfold Qfy;rw[xw (show x*y<18446744073709551616 by omega),xw (show x*y+c<18446744073709551616 by omega),xw h,sbind];rw[show(2:Nat) ^ 32=4294967296 by rfl,xw (show(x*y+c+d) / 4294967296<4294967296 by omega)]
theorem Q6f{x y:Nat}(a:y<4294967296):x*4294967296 ||| y=x*4294967296+y:=by have:=Nat.two_pow_add_eq_or_of_lt (i:=32) (b:=y) (by simpa using a) x;rw[show(2:Nat) ^ 32=4294967296 by rfl,vu] at this;exact this.symm
theorem Qym{h l y:Nat}(f:h<y)(d:l<4294967296)(g:y<4294967296):
 Qhh h l y=some ((h*4294967296+l) / y,(h*4294967296+l)%y,true):=by
 unfold Qhh;rw[bifd,ol om,grd_t oh,sbind,sbind];rw[show(2:Nat) ^ 32=4294967296 by rfl,xw (show h*4294967296<18446744073709551616 by omega),Q6f d]
 have a:(h*4294967296+l) / y<4294967296:=dl (by
  have:h*4294967296+4294967296<=y*4294967296:=om
  omega)
 have e:(h*4294967296+l)%y<y:=vn _ om;rw[xw a,xw (show(h*4294967296+l)%y<4294967296 by omega)]
theorem Jka{α:Type}(p:List α)(y:α)(r:List α):(p++y::r)[p.length]?=some y:=oc
theorem Jkb{α:Type}(p:List α)(y z:α)(r:List α):(p++y::r).set p.length z=p++z::r:=oc
theorem Wq{α:Type}{k:Nat}{p:List α}{y:α}{r:List α}(h:p.length=k):getI (p++y::r) (k:Int)=some y:=by rw[Qgf,<-h,Jka]
theorem Zf{α:Type}{k:Nat}{p:List α}{y z:α}{r:List α}(h:p.length=k):(p++y::r).set (k:Int).toNat z=p++z::r:=by rw[yh,<-h,Jkb]
theorem Vm(a:List Nat)(x:Nat):val (a++[x])=val a+bp a.length*x:=by rw[Y0];simp[val]
theorem Jgt{α:Type}{l:List α}{k:Nat}(h:k<l.length):l=l.take k++l[k]::l.drop (k+1):=oc
theorem Jio(P x y m a u v V M A c:Nat)(e:4294967296*u+v=x*y+m+a)(d:V+P*a=M+x*A+c):V+P*v+P*4294967296*u=M+P*m+x*(A+P*y)+c:=by grind
theorem Q85{p m q a:List Nat}{z x c:Nat}(I:m.length=a.length)(hp:p.length+m.length+1+q.length<=4611686018427387904)(C:Wd m)(B:Wd a)(F:x<4294967296)(H:c<4294967296):
 ∃ r,Qhg (p++m++z::q) (p.length:Int) a x c=some (p++r++q)/\r.length=a.length+1/\Wd r/\val r=val m+x*val a+c:=by
 have key:∃ r,Qhg (p++m++z::q) (p.length:Int) a x c=some r/\∃ l,r=p++l++q/\l.length=a.length+1/\Wd l/\val l=val m+x*val a+c:=by
  unfold Qhg;refine Qvp (λj (s:List Nat×Nat)=>∃ e,s.1=p++e++(m.drop j++z::q)/\e.length=j/\j<=a.length/\Wd e/\s.2<4294967296/\val e+bp j*s.2=val (m.take j)+x*val (a.take j)+c) ⟨[],oc,rfl,yb _,W3,H,by simp[val,Qbd]⟩ ?_ ?_;rintro j y ⟨o,w⟩ E ⟨e,f,g,A,n,d,t⟩;simp only at f d t;subst f;have i:j<a.length:=by rcases xt j a.length with h | h;exact h;simp[xz h] at E
  have G:a[j]=y:=by simpa [i] using E
  have v:y<4294967296:=by rw[<-G];exact Qb1 B i
  have k:j<m.length:=om
  have u:m[j]<4294967296:=Qb1 C k;rw[w64 om om,show((p.length:Int)+(j:Int))=((p.length+j:Nat):Int) by omega,xe k,yj];rw[Wq oh,sbind,Qrl F v u d,sbind,sbind,Zf oh];refine⟨_,rfl,e++[(x*y+m[j]+w)%4294967296],oc,by simp[g],om,Kt.2 ⟨n,K0.2 ⟨om,W3⟩⟩,by have:=Qxw F v u d;simp only[];omega,?_⟩;rw[We k,We i,Vm,Vm,Vm,G,g,xi,xi,yy om,yy om,Wx];exact Jio _ _ _ _ _ _ _ _ _ _ _ (wm (x*y+m[j]+w) 4294967296) t;rintro⟨o,w⟩ ⟨e,f,g,A,n,d,t⟩;simp only at f d t;subst f;simp only[Wv];rw[w64 om om,show((p.length:Int)+(a.length:Int))=((p.length+a.length:Nat):Int) by omega,xl om,yw];rw[Wq oh,sbind,Zf oh];refine⟨_,rfl,e++[w],oc,by simp[g],Kt.2 ⟨n,K0.2 ⟨d,W3⟩⟩,?_⟩;rw[Vm,g,t,xb om,xb (xm _)]
 obtain⟨r,f,l,g,A,n,d⟩:=key;exact⟨l,by rw[f,g],A,n,d⟩
theorem Qig{n x:Nat}(hn:big<=n)(d:x<18446744073709551616):Qcr n x=some (toL x):=by
 unfold Qcr
 rw[show(2:Nat) ^ 32=4294967296 by rfl,Zi hn oc,sbind,<-K1 (by
  intro y a;simp only[xu,List.not_mem_nil,or_false] at a
  rcases a with rfl | rfl<;>omega)]
 congr 2;simp only[val];omega
theorem Jip(P q a r x s y d:Nat)(e:x*q+a=r*P+y)(h:d=x*s+r):y+P*d=x*(q+P*s)+a:=by grind
theorem Q6g{n:Nat}{a:List Nat}{x:Nat}(hn:big<=n)(B:a.length<35184372088832)(y:Wd a)(v:x≠0)(A:x<4294967296):Qkn n a x=some (toL (val a / x),val a%x,true):=by
 unfold Qkn;unfold big at hn;rw[bifd,ol v,Qfd om om,sbind]
 refine Qb0 (λs=>(s.2.2+1).toNat) (λs=>∃(k:Nat) (e:List Nat),s.2.2=(k:Int) - 1/\k<=a.length/\s.1=List.replicate k 0++e/\e.length=a.length - k/\Wd e/\s.2.1<x/\val (a.drop k)=x*val e+s.2.1)
  (λt=>t.1.length=a.length/\Wd t.1/\t.2<x/\val a=x*val t.1+t.2) ⟨a.length,[],by simp only[];rw[w64 om om],xm _,oc,oc,W3,by simp only[];omega,by simp[val]⟩ (by simp only[];rw[w64 om om];omega) ?_ ?_
 rintro⟨q,r,i⟩ ⟨k,e,f,m,d,g,w,p,u⟩;simp only at f d p u;subst f d;simp only[bifd];by_cases h0:0<k;obtain⟨j,rfl⟩:∃ j,k=j+1:=⟨k - 1,om⟩
 have l:j<a.length:=om
 left;rw[oq om,show((j+1:Nat):Int) - 1=(j:Nat) by omega,Qbz l,sbind,Qym p (Qb1 y l) A,sbind];simp only[];rw[jl,xf,jb,Wq oc,sbind,Zf oc,w64 om om];refine⟨_,rfl,⟨j,((r*4294967296+a[j]) / x)::e,rfl,om,rfl,oh,K0.2 ⟨?_,w⟩,vn _ om,?_⟩,by simp only[];omega⟩;have:=Qb1 y l
 exact dl (by
  have:r*4294967296+4294967296<=x*4294967296:=om
  omega)
 rw[xe l];simp only[val];exact Jip 4294967296 _ _ _ _ _ _ _ (wm (r*4294967296+a[j]) x) u;right;obtain rfl:k=0:=om
 rw[ol om];exact⟨_,rfl,by simp at g |-;omega,by simpa using w,p,by simpa using u⟩;rintro⟨q,r⟩ ⟨f,m,d,g⟩;simp only at f m d g;simp only[];rw[Yq (by unfold big;exact hn) om,sbind,<-K1 m,g,Nat.mul_add_div om,Nat.mul_add_mod,ww d,xw d,xp]
theorem Qmd{a:List Nat}(h:Wd a)(i:Nat):a.getD i 0<4294967296:=by rw[ou];by_cases hi:i<a.length;simp[hi];exact Qb1 h hi;simp[xz (show a.length<=i by omega)]
theorem Yr(a:List Nat)(k:Nat):val (a.take (k+1))=val (a.take k)+bp k*a.getD k 0:=by by_cases h:k<a.length;rw[We h,Vm,xi,yy om];simp[h];rw[xb om,xb om];simp[xz (show a.length<=k by omega)]
def cmpI(x y:Nat):Int:=if x<y then -1 else if y<x then 1 else 0
theorem Jkc{n:Nat}(h:n≠0):bp ((toL n).length - 1)<=n:=by
 induction n using Nat.strongRecOn with
 | _ n g=>
   rw[Qdt h,xn,Nat.add_sub_cancel];by_cases a:n / 4294967296=0;rw[a,X7,ye,Qbd];omega;have:=g (n / 4294967296) om a;have i:(toL (n / 4294967296)).length≠0:=by rw[Qdt a];simp
   obtain⟨m,d⟩:∃ m,(toL (n / 4294967296)).length=m+1:=⟨(toL (n / 4294967296)).length - 1,om⟩
   rw[d,Nat.add_sub_cancel] at this;rw[d,Wx];have e:bp m*4294967296<=n / 4294967296*4294967296:=xc _ this;have f:n / 4294967296*4294967296<=n:=Nat.div_mul_le_self _ _;exact xo e f
theorem Q4n{m n:Nat}(h:(toL m).length<(toL n).length):m<n:=by
 have a:=Zb (Js m);rw[Je] at a;have hn:n≠0:=by rintro rfl;rw[X7] at h;simp at h
 have d:=Jkc hn;have e:bp (toL m).length<=bp ((toL n).length - 1):=bp_le om;exact xv a (xo e d)
theorem Ja6(a:List Nat)(k:Nat):val a=val (a.take k)+bp (a.take k).length*val (a.drop k):=by
 conv=>lhs;rw[<-uc k a]
 rw[Y0]
theorem Jiq{P x y u v A:Nat}(f:A<P)(a:x<y)(d:u=A+P*x)(e:P*y<=v):u<v:=by have:P*(x+1)<=P*y:=uq _ a;rw[gt] at this;omega
theorem Q09{a b:List Nat}{j:Nat}(i:Wd a)(l:j<a.length)(d:j<b.length)(m:a.drop (j+1)=b.drop (j+1))(h:a[j]<b[j]):val a<val b:=by have e:=Ja6 a (j+1);have f:=Ja6 b (j+1);rw[xi,yy om] at e f;rw[e,f,m];refine Nat.add_lt_add_right ?_ _;rw[We l,We d,Vm,Vm,xi,xi,yy om,yy om];have g:=Zb (Qsa (k:=j) i);rw[xi,yy om] at g;exact Jiq g h rfl (Nat.le_add_left _ _)
theorem Qly{n:Nat}{a b:List Nat}(hn:big<=n)(v:a.length<=4611686018427387904)(hb:b.length<=4611686018427387904)(g:Wd a)(r:Wd b):Qf7 n a b=some (cmpI (val a) (val b)):=by
 unfold Qf7;rw[Zi hn v,sbind,Zi hn hb,sbind,<-K1 g,<-K1 r];have B:(toL (val a)).length<=4611686018427387904:=by rw[K1 g];exact xo (Qaa a) v
 have e:=Je (val a);have f:=Je (val b);have i:=Js (val a);have l:=Js (val b);have C:=@Q4n (val a) (val b);have w:=@Q4n (val b) (val a);generalize val a=x at *;generalize val b=y at *;generalize toL x=a' at *;generalize toL y=b' at *;unfold big at hn;rw[bifd,bifd];by_cases A:a'.length<b'.length;rw[oq om,cmpI,oq (C A)];rw[ol om];by_cases u:b'.length<a'.length;rw[oq om,cmpI,ol (by have:=w u;omega),oq (w u)];rw[ol om,w64 om om];refine Qb0 (λs=>(s+1).toNat) (λs=>∃ k:Nat,s=(k:Int) - 1/\k<=a'.length/\a'.drop k=b'.drop k) (λt=>(t=.go ()/\a'=b')\/(t=.out (-1)/\x<y)\/(t=.out 1/\y<x)) ⟨a'.length,rfl,xm _,by rw[xl (xm _),xl om]⟩ om ?_ ?_;rintro s ⟨k,rfl,hk,p⟩;simp only[bifd];by_cases h0:0<k;obtain⟨j,rfl⟩:∃ j,k=j+1:=⟨k - 1,om⟩
 have m:j<a'.length:=om
 have d:j<b'.length:=om
 rw[oq om,show((j+1:Nat):Int) - 1=(j:Nat) by omega,Qbz m,sbind,Qbz d,sbind];by_cases g1:a'[j]<b'[j];right;rw[oq g1];refine⟨_,rfl,.inr (.inl ⟨rfl,?_⟩)⟩;rw[<-e,<-f];exact Q09 i m d p g1;rw[ol g1,sbind,sbind];by_cases q:b'[j]<a'[j];right;rw[oq q];refine⟨_,rfl,.inr (.inr ⟨rfl,?_⟩)⟩;rw[<-e,<-f];exact Q09 l d m p.symm q;left;rw[ol q,w64 om om];refine⟨_,rfl,⟨j,rfl,om,?_⟩,om⟩;rw[xe m,xe d,p,show a'[j]=b'[j] by omega];right;obtain rfl:k=0:=om
 rw[ol om];exact⟨_,rfl,.inl ⟨rfl,by simpa using p⟩⟩;rintro t (⟨rfl,h⟩ | ⟨rfl,h⟩ | ⟨rfl,h⟩);rw[Wv];have:x=y:=by rw[<-e,<-f,h]
 simp[cmpI,this];rw[Qap,cmpI,oq h];rw[Qap,cmpI,ol om,oq h]
theorem Jgu{v:Nat}(h:v<18446744073709551616):toL v=[]\/(∃ x,toL v=[x]/\x=v)\/(∃ x y,toL v=[x,y]/\x<4294967296/\y<4294967296/\x+4294967296*y=v):=by
 have f:=Qeb (n:=v) (k:=2) (by rw[Wx,Wx,Qbd];omega);have a:=Je v;have d:=Js v
 match e:toL v,f with
 | [],_=>exact .inl rfl
 | [x],_=>rw[e] at a;simp[val] at a;exact .inr (.inl ⟨x,rfl,a⟩)
 | [x,y],_=>
   rw[e] at a d;simp[val] at a;exact .inr (.inr ⟨x,y,rfl,(K0.1 d).1,(K0.1 (K0.1 d).2).1,om⟩)
 | _::_::_::_,h=>simp at h
theorem Jdl{v:Nat}(h:18446744073709551616<=v):2<(toL v).length:=by rcases xt 2 (toL v).length with a | a;exact a;have d:=Zb (Js v);rw[Je] at d;have e:=bp_le a;rw[Wx,Wx,Qbd] at e;omega
theorem Qwk{n:Nat}{a:List Nat}(hn:big<=n)(d:a.length<=4611686018427387904)(e:Wd a):Qko n a=some (if val a<18446744073709551616 then (val a,true) else (0,false)):=by unfold Qko;rw[Zi hn d,sbind,<-K1 e,bifd];by_cases h:val a<18446744073709551616;rw[oq h];rcases Jgu h with h1 | ⟨x,h1,h2⟩ | ⟨x,y,h1,h2,h3,h4⟩;have:=Je (val a);rw[h1] at this |-;rw[ol oz];simp only[val] at this;simp only[rangeL,sbind,Wv,<-this];rw[h1,ol oc];simp only[rangeL];rw[w64 om om,grd_t oz,sbind,sbind,sbind,sbind];simp only[Wv];subst h2;simp;omega;rw[h1,ol oc];simp only[rangeL];rw[w64 (x:=32*((0:Nat):Int)) om om,grd_t oz,sbind,sbind,sbind,w64 om om,grd_t oz];simp only[sbind,Wv];rw[show(2:Nat) ^ min (Int.toNat (32*((0:Nat):Int))) 64=1 by rfl,show(2:Nat) ^ min (Int.toNat (32*((0+1:Nat):Int))) 64=4294967296 by rfl,Nat.mul_one,xw (show x<18446744073709551616 by omega),xw (show y*4294967296<18446744073709551616 by omega),Nat.zero_or,Nat.or_comm,Q6f h2];congr 2;omega;rw[ol h];have:=Jdl (v:=val a) om;rw[oq om]
theorem Qns{x y c:Nat}(d:x<4294967296)(e:y<4294967296)(a:c<4294967296):
 Qb7 x y c=some ((x+y+c)%4294967296,(x+y+c) / 4294967296):=by
 unfold Qb7;simp only[jn_eq,bifd];split<;>split<;>congr 1<;>refine Prod.ext ?_ ?_<;>simp only[]<;>omega
theorem Qrm{x y c:Nat}(e:x<4294967296)(f:y<4294967296)(a:c<=1):
 ∃ d b,Qju x y c=some (d,b)/\d<4294967296/\b<=1/\d+y+c=x+4294967296*b:=by
 unfold Qju;simp only[jn_eq,bifd,sbind];split<;>split<;>refine⟨_,_,rfl,?_,?_,?_⟩<;>omega
theorem Jgv(P s x y u v V A C:Nat)(e:4294967296*u+v=x+y+s)(h:V+P*s=A+C):V+P*v+P*4294967296*u=A+P*x+(C+P*y):=by grind
theorem Jdm{k:Nat}{b:List Nat}{β:Type}(f:Nat->Option β):(if (k:Int)<(b.length:Int) then (getI b (k:Int)).bind f else f 0)=f (b.getD k 0):=by by_cases h:k<b.length;rw[oq om,Qbz h,sbind];simp[h];rw[ol om];simp[xz (show b.length<=k by omega)]
theorem Jdn{n:Nat}{a b:List Nat}(hn:big<=n)(x:a.length<17592186044416)(w:b.length<=a.length)(q:Wd a)(k:Wd b):Qjt n a b=some (toL (val a+val b)):=by
 unfold Qjt;simp only[jn_eq,bifd];rw[ol om];rw[show(1:Int)=((1:Nat):Int) by rfl,Qqa om,sbind];refine Qpi (λj (s:List Nat×Nat)=>∃ f,s.1=f++(List.drop j a++[0])/\f.length=j/\j<=a.length/\Wd f/\s.2<=1/\val f+bp j*s.2=val (a.take j)+val (b.take j)) ⟨[],oc,rfl,yb _,W3,oc,by simp[val,Qbd]⟩ ?_ ?_;rintro j y ⟨o,l⟩ t ⟨f,g,e,v,m,p,i⟩;simp only at g p i;subst g;have d:j<a.length:=by
  rcases xt j a.length with h | h;exact h;simp[xz h] at t
 have u:a[j]=y:=by simpa [d] using t
 have r:y<4294967296:=by rw[<-u];exact Qb1 q d
 rw[Jdm,Qns r (Qmd k j) (by simp only[];omega),sbind,xe d,yj,Wq e,sbind,Zf e];refine⟨_,rfl,f++[(y+b.getD j 0+l)%4294967296],oc,by simp[e],om,Kt.2 ⟨m,K0.2 ⟨om,W3⟩⟩,?_,?_⟩;have:=Qmd k j;simp only[];omega;rw[Yr,Yr,Vm,e,Wx];rw[show a.getD j 0=y by rw[<-u];simp[d]];exact Jgv _ _ _ _ _ _ _ _ _ (wm (y+b.getD j 0+l) 4294967296) i;rintro⟨o,l⟩ ⟨f,g,e,v,m,p,i⟩;simp only at g p i;subst g;simp only[Wv];rw[xl (xm _),yw,Wq e,sbind,Zf e,Zi hn oh,sbind,<-K1 (Kt.2 ⟨m,K0.2 ⟨om,W3⟩⟩),Vm,e,i,xb (xm _),xb w]
theorem Qyn{n:Nat}{a b:List Nat}(hn:big<=n)(f:a.length<17592186044416)(hb:b.length<17592186044416)(d:Wd a)(e:Wd b):Qjt n a b=some (toL (val a+val b)):=by by_cases g:b.length<=a.length;exact Jdn hn f g d e;rw[Nat.add_comm,<-Jdn hn hb om e d];unfold Qjt;simp only[jn_eq,bifd];rw[oq om,ol om]
theorem Ja7{n:Nat}{a b:List Nat}(hn:big<=n)(i:a.length<17592186044410)(hb:b.length<17592186044410)(d:Wd a)(e:Wd b):Qlc n [a,b]=some (toL (val a+val b)):=by unfold Qlc;have f:=Qyn (a:=[]) (b:=toL (val a)) hn oc (by have:=Qaa a;rw[K1 d];omega) W3 (Js _);have g:=Qyn (a:=toL (val a)) (b:=toL (val b)) hn (by have:=Qaa a;rw[K1 d];omega) (by have:=Qaa b;rw[K1 e];omega) (Js _) (Js _);rw[Je] at f g;rw[Je] at g;simp only[val,xg] at f;simp only[rangeL,Zi hn (show a.length<=4611686018427387904 by omega),Zi hn (show b.length<=4611686018427387904 by omega),sbind,<-K1 d,<-K1 e,f,g,Wv]
theorem Qme{α:Type}{l:List α}{i:Nat}{x:α}(h:l[i]?=some x):i<l.length:=by rcases xt i l.length with a | a;exact a;rw[xz a] at h;cases h
theorem Y1{x y:Nat}(h:x<=y):(toL x).length<=(toL y).length:=by refine Qeb ?_;have:=Zb (Js y);rw[Je] at this;omega
theorem Q2v(P c a x y d V A B:Nat)(e:d+y+c=x+4294967296*a)(h:V+B=A+P*c):V+P*d+(B+P*y)=A+P*x+P*4294967296*a:=by grind
theorem Qz7{n:Nat}{a b:List Nat}(hn:big<=n)(K:a.length<17592186044416)(hb:b.length<17592186044416)(m:Wd a)(q:Wd b):
 Qqw n a b=some (if val a<val b then ([],false) else (toL (val a - val b),true)):=by
 unfold Qqw;have L:(toL (val a)).length<17592186044416:=by rw[K1 m];exact yu (Qaa a) K
 have M:(toL (val b)).length<17592186044416:=by rw[K1 q];exact yu (Qaa b) hb
 rw[Zi hn om,sbind,Zi hn om,sbind,<-K1 m,<-K1 q,Qly hn om om (Js _) (Js _),sbind,Je,Je];have B:=Je (val a);have C:=Je (val b);have p:=Js (val a);have r:=Js (val b);have A:=λh=>Y1 (x:=val b) (y:=val a) h;generalize val a=x at *;generalize val b=y at *;generalize toL x=a' at *;generalize toL y=b' at *;rw[bifd];by_cases f:x<y;rw[oq (by rw[cmpI,oq f];decide),oq f];rw[ol (by rw[cmpI,ol f];split<;>decide),ol f];have A:=A om;simp only[jn_eq,bifd];rw[show(0:Int)=((0:Nat):Int) by rfl,Qqa om,sbind];refine Qpi (λj (s:List Nat×Nat)=>∃ g,s.1=g++List.drop j a'/\g.length=j/\j<=a'.length/\Wd g/\s.2<=1/\val g+val (b'.take j)=val (a'.take j)+bp j*s.2) ⟨[],oc,rfl,yb _,W3,oc,by simp[val]⟩ ?_ ?_;rintro j w ⟨o,t⟩ F ⟨g,l,i,I,u,v,k⟩;simp only at l v k;subst l;have e:j<a'.length:=Qme F;have G:a'[j]=w:=by simpa [e] using F
 have E:w<4294967296:=by rw[<-G];exact Qb1 p e
 obtain⟨d,N,g1,H,g3,g4⟩:=Qrm E (Qmd r j) v;rw[Jdm,g1,sbind,xe e,Wq i,sbind,Zf i];refine⟨_,rfl,g++[d],oc,by simp[i],om,Kt.2 ⟨u,K0.2 ⟨H,W3⟩⟩,g3,?_⟩;rw[Yr,Yr,Vm,i,Wx];rw[show a'.getD j 0=w by rw[<-G];simp[e]];exact Q2v _ _ _ _ _ _ _ _ _ g4 k;rintro⟨o,t⟩ ⟨g,l,i,I,u,v,k⟩;simp only at l v k;subst l;simp only[Wv];rw[xb (xm _),xb A,B,C] at k;rw[xl (xm _),ua,Zi hn om,sbind,<-K1 u];have J:t=0:=by
  have g1:=Zb u;rw[i] at g1;rcases wo t with h | h;exact h;have O:bp a'.length*1<=bp a'.length*t:=uq _ h;omega
 subst J;rw[vo] at k;congr 3;omega
theorem Ja8{n:Nat}{a b:List Nat}(hn:big<=n)(f:a.length<17592186044416)(hb:b.length<17592186044416)(d:Wd a)(e:Wd b):
 Qqx n a b=some (toL (val a - val b+(val b - val a)),cmpI (val a) (val b)):=by
 unfold Qqx;rw[Qly hn om om d e,sbind];simp only[jn_eq,bifd];by_cases h:val a<val b;rw[oq (by rw[cmpI,oq h];decide),Qz7 hn hb f e d,ol om,sbind];rw[show val a - val b+(val b - val a)=val b - val a by omega];rw[ol (by rw[cmpI,ol h];split<;>decide),Qz7 hn f hb d e,ol h,sbind];rw[show val a - val b+(val b - val a)=val a - val b by omega]
def blen(x:Nat):Nat:=if x=0 then 0 else Nat.log2 x+1
theorem Qjp:blen 0=0:=by unfold blen;rw[oq rfl]
theorem Q6h{x k:Nat}(a:2 ^ k<=x)(d:x<2 ^ (k+1)):blen x=k+1:=by
 have h0:x≠0:=by have:=uv k;omega
 unfold blen;rw[ol h0,(Nat.log2_eq_iff h0).2 ⟨a,d⟩]
theorem Qsb{x:Nat}:x<2 ^ blen x:=by unfold blen;by_cases h0:x=0;rw[oq h0,h0];decide;rw[ol h0];exact Nat.lt_log2_self
theorem Qqb{x:Nat}(h0:x≠0):2 ^ (blen x - 1)<=x:=by unfold blen;rw[ol h0];exact Nat.log2_self_le h0
theorem Qxx{x:Nat}(h0:x≠0):1<=blen x:=by unfold blen;rw[ol h0];omega
theorem Ja9{x w:Nat}(h:x / 2 ^ w≠0):blen x=blen (x / 2 ^ w)+w:=by
 have a:=Qqb h;have d:=Qsb (x:=x / 2 ^ w);have e:=Qxx h;obtain⟨k,hk⟩:∃ k,blen (x / 2 ^ w)=k+1:=⟨_,(Nat.sub_add_cancel e).symm⟩
 rw[hk,Nat.add_sub_cancel] at a;rw[hk] at d |-;rw[show k+1+w=(k+w)+1 by omega];refine Q6h ?_ ?_;rw[wc];exact(Nat.le_div_iff_mul_le (uv w)).1 a;rw[show k+w+1=(k+1)+w by omega,wc];exact(jc (uv w)).1 d
theorem Qyo{n x:Nat}(hn:big<=n)(m:x<4294967296):Ql8 n x=some (blen x:Int):=by
 unfold Ql8;unfold big at hn
 refine Qb0 (λs=>s.2.2.toNat) (λs=>∃(w k B:Nat),s.2.2=w/\s.2.1=k/\(w,B)∈[(16,4294967296),(8,65536),(4,256),(2,16),(1,4),(0,2)]/\s.1<B/\k+2*w<=32/\blen x=k+blen s.1)
  (λt=>∃ k:Nat,t.2=k/\k<=32/\t.1<2/\blen x=k+blen t.1) ⟨16,0,4294967296,rfl,rfl,oz,m,oz,oc⟩ (by simp only[];omega) ?_ ?_
 rintro⟨y,c,w'⟩ ⟨w,k,B,d,i,e,a,p,f⟩;simp only at d i a f;subst d i;simp only[jn_eq,bifd,bifnd];by_cases h0:0<w;left;rw[oq om,grd_t oc,sbind,sbind,yh];have q:w<=16:=om
 have hd:Int.tdiv (w:Int) 2=((w / 2:Nat):Int):=oa
 rw[hd,yy om,w64 (x:=((w / 2:Nat):Int)) om om,w64 om om];have l:∃ B',(w / 2,B')∈[(16,4294967296),(8,65536),(4,256),(2,16),(1,4),(0,2)]/\B'*2 ^ w=B/\(2 ^ w<=B'):=by simp only[xu,List.not_mem_nil,or_false,Prod.mk.injEq] at e;rcases e with ⟨rfl,rfl⟩ | ⟨rfl,rfl⟩ | ⟨rfl,rfl⟩ | ⟨rfl,rfl⟩ | ⟨rfl,rfl⟩ | ⟨rfl,rfl⟩;exact⟨65536,oz,oz,oz⟩;exact⟨256,oz,oz,oz⟩;exact⟨16,oz,oz,oz⟩;exact⟨4,oz,oz,oz⟩;exact⟨2,oz,oz,oz⟩;omega
 obtain⟨B',g1,j,g3⟩:=l;by_cases g:y / 2 ^ w=0;rw[oq g];refine⟨_,rfl,⟨w / 2,k,B',rfl,rfl,g1,?_,om,f⟩,by simp only[];omega⟩;have:=(Nat.div_eq_zero_iff_lt (uv w)).1 g;exact xv this g3;rw[ol g];refine⟨_,rfl,⟨w / 2,k+w,B',rfl,by simp only[];omega,g1,?_,om,?_⟩,by simp only[];omega⟩;rw[<-j] at a;exact(jc (uv w)).2 a;rw[f,Ja9 g];simp only[];omega;right;obtain rfl:w=0:=om
 rw[ol om];simp only[xu,List.not_mem_nil,or_false,Prod.mk.injEq] at e;refine⟨_,rfl,k,rfl,om,by simp only[];omega,f⟩;rintro⟨y,c⟩ ⟨k,d,i,e,a⟩;simp only at d e a;subst d;rw[a,w64 (by simp only[];omega) (by simp only[];omega)];have:blen y=y:=by
  have:y=0\/y=1:=om
  rcases this with rfl | rfl;rw[Qjp];exact Q6h (k:=0) oz oz
 rw[this];simp
theorem Qnk(k:Nat):bp k=2 ^ (32*k):=by unfold bp;rw[Nat.pow_mul]
theorem Q2w{v:Nat}(h:toL v≠[]):∃ p x,toL v=p++[x]/\x≠0/\x<4294967296/\Wd p:=by have a:=Js v;rcases je (toL v) with h0 | ⟨p,x,h1⟩;exact absurd h0 h;rw[jf] at h1;refine⟨p,x,h1,?_,?_,?_⟩;rintro rfl;have d:=Jgs v;rw[h1,Qvq] at d;have:=Qaa p;rw[d] at this;simp at this;omega;rw[h1] at a;exact(K0.1 (Kt.1 a).2).1;rw[h1] at a;exact(Kt.1 a).1
theorem Jgw{p:List Nat}{x:Nat}(hp:Wd p)(d:x≠0):blen (val (p++[x]))=32*p.length+blen x:=by
 have a:=Zb hp;have hd:val (p++[x]) / 2 ^ (32*p.length)=x:=by rw[<-Qnk,Vm,jo _ _ (Jgr _),ww a,xg]
 rw[Ja9 (w:=32*p.length) (by rw[hd];exact d),hd,Nat.add_comm]
theorem Qyp{n:Nat}{a:List Nat}(hn:big<=n)(m:a.length<17592186044416)(e:Wd a):Qhl n a=some (blen (val a):Int):=by
 unfold Qhl;rw[Yq hn om,sbind,<-K1 e,bifd];have g:(toL (val a)).length<17592186044416:=by rw[K1 e];exact yu (Qaa a) m
 by_cases h:toL (val a)=[]
 rw[oq (by rw[h];rfl)];rw[K1 e] at h;rw[Q7z h,Qjp];rfl;rw[ol (by intro q;exact h (xd om))];obtain⟨p,x,d,f,k,l⟩:=Q2w h;have i:val a=val (p++[x]):=by rw[<-d,Je]
 rw[i,Jgw l f];rw[i] at d g;rw[d] at g;rw[d,yd,vm] at *;rw[w64 (x:=((p.length+1:Nat):Int) - 1) om om,show((p.length+1:Nat):Int) - 1=(p.length:Nat) by omega,Wq rfl,sbind,Qyo hn k,sbind,sbind];have hb:blen x<=32:=by rcases xt 32 (blen x) with h | h;have g1:=Qqb f;have j:2 ^ 32<=2 ^ (blen x - 1):=dh oz om;rw[show(2:Nat) ^ 32=4294967296 by decide] at j;omega;exact h
 rw[w64 (x:=32*(p.length:Int)) om om,w64 om om];congr 1
theorem Jgx(P M R x A B m V:Nat)(a:V=M+P*m)(d:R=m+x*A+0)(e:V=A*B):M+P*R=A*(B+P*x):=by grind
theorem Qg6{n:Nat}{a b:List Nat}(hn:big<=n)(E:a.length<8796093022208)(hb:b.length<8796093022208)(l:Wd a)(t:Wd b):Qdb n a b=some (toL (val a*val b)):=by
 unfold Qdb;rw[w64 (x:=(a.length:Int)+(b.length:Int)) om om,w64 om om,show((a.length:Int)+(b.length:Int))+1=((a.length+b.length+1:Nat):Int) by omega,Qfd om om,sbind];refine Qpi (λj (s:List Nat)=>∃ d,s=d++List.replicate (b.length+1 - j) 0/\d.length=j+a.length/\j<=b.length/\Wd d/\val d=val a*val (b.take j)) ⟨List.replicate a.length 0,by rw[List.replicate_append_replicate];congr 1,oc,yb _,Qpj om,by simp[val,Qif]⟩ ?_ ?_
 . rintro j x o v ⟨d,i,y,A,g,k⟩
   subst i;have e:j<b.length:=Qme v;have w:b[j]=x:=by simpa [e] using v
   have u:x<4294967296:=by rw[<-w];exact Qb1 t e
   obtain⟨r,g1,C,g3,g4⟩:=Q85 (p:=d.take j) (m:=d.drop j) (q:=List.replicate (b.length - j) 0) (a:=a) (z:=0) (x:=x) (c:=0) oh oh (Qof g) l u om;have f:(d.take j).length=j:=oh
   rw[f,uc] at g1;rw[show b.length+1 - j=(b.length - j)+1 by omega,vg,g1,sbind];refine⟨_,rfl,d.take j++r,by rw[show b.length+1 - (j+1)=b.length - j by omega],oh,om,Kt.2 ⟨Qsa g,g3⟩,?_⟩;have B:val d=val (d.take j)+bp j*val (d.drop j):=by
    conv=>lhs;rw[<-uc j d]
    rw[Y0,f]
   rw[Y0,f,Yr,show b.getD j 0=x by rw[<-w];simp[e]];exact Jgx _ _ _ _ _ _ _ _ B g4 k
 . rintro o ⟨d,i,y,A,g,k⟩
   subst i;simp only[Wv];rw[Yq hn oh,sbind,<-K1 (Kt.2 ⟨g,Qpj om⟩),Y0,Qif,vo,xp,k,xb (xm _)]
theorem lo_eq{x r:Nat}(hr:r<=32):(x*2 ^ r)%4294967296=(x%2 ^ (32 - r))*2 ^ r:=by rw[show(4294967296:Nat)=2 ^ (32 - r)*2 ^ r by rw[<-wc,show 32 - r+r=32 by omega],Nat.mul_mod_mul_right]
theorem or_lo{c x r:Nat}(hr:r<=32)(a:c<2 ^ r):c ||| (x*2 ^ r)%4294967296=c+(x*2 ^ r)%4294967296:=by rw[lo_eq hr,Nat.or_comm,vu,<-Nat.two_pow_add_eq_or_of_lt a,Nat.add_comm]
theorem hi_lt{x r:Nat}(a:x<4294967296):(x*2 ^ r) / 4294967296<2 ^ r:=
 dl (Nat.mul_lt_mul_of_pos_right a (uv r))
theorem Qxy{r:Nat}(hr:r<=32):2 ^ r<=4294967296:=by have h:2 ^ r<=2 ^ 32:=dh oz hr;rwa [show(2:Nat) ^ 32=4294967296 by rfl] at h
theorem sh_lt{x r:Nat}(hr:r<=32)(a:x<4294967296):x*2 ^ r<18446744073709551616:=by have h:=Qxy hr;have:x*2 ^ r<=4294967295*4294967296:=gi om h;omega
theorem Jkd(P c V A R x lo hi:Nat)(e:4294967296*hi+lo=x*R)(h:V+P*c=A*R):V+P*(c+lo)+P*4294967296*hi=(A+P*x)*R:=by grind
theorem Qz8{n k:Nat}{a:List Nat}(hn:big<=n)(I:a.length<8796093022208)(G:Wd a)(hk:k<=4096):Qld n a (k:Int)=some (toL (val a*2 ^ k)):=by
 unfold Qld;rw[show min (max (k:Int) 0) 4096=(k:Int) by omega];rw[show Int.tdiv (k:Int) 32=((k / 32:Nat):Int) by rfl,show Int.tmod (k:Int) 32=((k%32:Nat):Int) by rfl];have hp:2 ^ k=bp (k / 32)*2 ^ (k%32):=by rw[Qnk,<-wc,wm]
 have H:k / 32<=128:=om
 have hr:k%32<=31:=om
 rw[hp];generalize k / 32=w at *;generalize k%32=r at *;rw[w64 (x:=(w:Int)) om om,sbind,w64 (x:=(w:Int)+(a.length:Int)) om om,w64 om om,show(w:Int)+(a.length:Int)+1=((w+a.length+1:Nat):Int) by omega,Qfd om om,sbind];refine Qpi (λj (s:List Nat)=>∃ e c,s=(List.replicate w 0++e)++c::List.replicate (a.length - j) 0/\e.length=j/\j<=a.length/\Wd e/\c<2 ^ r/\val e+bp j*c=val (a.take j)*2 ^ r) ⟨[],0,by rw[ua,<-vg,List.replicate_append_replicate];congr 1,rfl,yb _,W3,uv r,by simp[val]⟩ ?_ ?_;rintro j x s v ⟨e,c,p,m,F,q,u,t⟩;subst p;have g:j<a.length:=Qme v;have A:a[j]=x:=by simpa [g] using v
 have i:x<4294967296:=by rw[<-A];exact Qb1 G g
 have f:(List.replicate w 0++e).length=w+j:=oh
 have g1:=sh_lt (r:=r) om i;have E:=hi_lt (r:=r) i;have g3:=Qxy (r:=r) om;have g4:=or_lo (x:=x) (show r<=32 by omega) u;rw[grd_t oc,sbind,yh,yy om,xw g1,sbind,w64 (x:=(w:Int)+(j:Int)) om om,sbind,show(w:Int)+(j:Int)=((w+j:Nat):Int) by omega];rw[Wq f,sbind,sbind,sbind,Zf f,g4,show(2:Nat) ^ 32=4294967296 by rfl,xw (show x*2 ^ r / 4294967296<4294967296 by omega)];obtain⟨d,hd⟩:∃ d,a.length - j=d+1:=⟨a.length - j - 1,om⟩
 rw[w64 om om,show((w+j:Nat):Int)+1=((w+j+1:Nat):Int) by omega,hd,vg];rw[show ∀(y:Nat) (l:List Nat),List.replicate w 0++e++y::l=(List.replicate w 0++(e++[y]))++l by intro y l;simp];have hlen2:(List.replicate w 0++(e++[c+x*2 ^ r%4294967296])).length=w+j+1:=oh
 rw[Wq hlen2,sbind,Zf hlen2,sbind];refine⟨_,rfl,e++[c+x*2 ^ r%4294967296],x*2 ^ r / 4294967296,by rw[show a.length - (j+1)=d by omega],by simp[m],om,Kt.2 ⟨q,K0.2 ⟨?_,W3⟩⟩,E,?_⟩;rw[lo_eq om];have B:x%2 ^ (32 - r)+1<=2 ^ (32 - r):=vn _ (uv _);have C:=xc (2 ^ r) B;rw[<-wc,show 32 - r+r=32 by omega,show(2:Nat) ^ 32=4294967296 by rfl,Nat.add_mul,Nat.one_mul] at C;omega;rw[Yr,Vm,m,Wx,show a.getD j 0=x by rw[<-A];simp[g]];exact Jkd _ _ _ _ _ _ _ _ (wm (x*2 ^ r) 4294967296) t;rintro s ⟨e,c,p,m,F,q,u,t⟩;subst p;simp only[Wv];have g3:=Qxy (r:=r) om;rw[Yq hn oh,sbind,<-K1 (Kt.2 ⟨Kt.2 ⟨Qpj om,q⟩,K0.2 ⟨om,Qpj om⟩⟩)];rw[xf,Y0,Qif,ue,xg,Y0];simp only[val];rw[Qif,m,vo,xp,t,xb (xm _),Nat.mul_left_comm]
theorem Que{a:List Nat}(e:Wd a)(k:Nat):val a / bp k=val (a.drop k):=by
 rcases xt k a.length with h | h
 . have f:val a=val (a.take k)+bp k*val (a.drop k):=by
    conv=>lhs;rw[<-uc k a]
    rw[Y0,xi,yy om]
   have d:=Zb (Qsa (k:=k) e);rw[xi,yy om] at d;rw[f,jo _ _ (Jgr k),ww d,xg]
 . rw[xl h]
   exact ww (xv (Zb e) (bp_le h))
theorem Jgy{a:List Nat}{k:Nat}(h:k<a.length):val (a.drop k)=a[k]+4294967296*(a.getD (k+1) 0+4294967296*val (a.drop (k+2))):=by rw[xe h];simp only[val];by_cases d:k+1<a.length;rw[xe d];simp[val,d];rw[xl om,xl om];simp[xz (show a.length<=k+1 by omega),val]
theorem Jir{v z r:Nat}(hr:r<=32):((v+4294967296*4294967296*z) / 2 ^ r)%4294967296=(v / 2 ^ r)%4294967296:=by
 rw[show 4294967296*4294967296*z=2 ^ r*(4294967296*(2 ^ (32 - r)*z)) by
  have:2 ^ r*2 ^ (32 - r)=4294967296:=by rw[<-wc,show r+(32 - r)=32 by omega]
  calc 4294967296*4294967296*z=(2 ^ r*2 ^ (32 - r))*4294967296*z:=by rw[this]
   _=_:=by grind]
 rw[jo _ _ (uv r),Nat.add_mul_mod_self_left]
theorem Jis{k:Nat}{b:List Nat}{x:Nat}{β:Type}(f:Nat->Option β)(hb:Wd b)(a:x<4294967296):(if ((k:Nat):Int)<(b.length:Int) then (getI b (k:Int)).bind (λy=>f (x ||| (y*2 ^ 32)%18446744073709551616)) else f x)=f (x+4294967296*b.getD k 0):=by by_cases h:k<b.length;rw[oq om,Qbz h,sbind];have d:=Qb1 hb h;rw[show(2:Nat) ^ 32=4294967296 by rfl,xw om,Nat.or_comm,Q6f a,vu,Nat.add_comm];simp[h];rw[ol om];simp[xz (show b.length<=k by omega)]
theorem Jit(X P:Nat):X%P+P*(X / P%4294967296)=X%(P*4294967296):=by rw[Nat.mod_mul]
theorem Q6i{n k:Nat}{a:List Nat}(hn:big<=n)(A:a.length<8796093022208)(i:Wd a)(hk:k<=4611686018427387904):Qm1 n a (k:Int)=some (toL (val a / 2 ^ k)):=by
 unfold Qm1;rw[show max (k:Int) 0=(k:Int) by omega];rw[show Int.tdiv (k:Int) 32=((k / 32:Nat):Int) by rfl,show Int.tmod (k:Int) 32=((k%32:Nat):Int) by rfl];have hp:2 ^ k=bp (k / 32)*2 ^ (k%32):=by rw[Qnk,<-wc,wm]
 have hr:k%32<=31:=om
 have y:k / 32<=4611686018427387904:=om
 rw[hp];generalize k / 32=w at *;generalize k%32=r at *;rw[<-we,Que i];rw[w64 (x:=(w:Int)) om om,sbind,bifd];by_cases q:a.length<=w;rw[oq om,xl q];simp[val,X7];rw[ol om,w64 (x:=(a.length:Int) - (w:Int)) om om,sbind,show(a.length:Int) - (w:Int)=((a.length - w:Nat):Int) by omega,Qfd om om,sbind];refine Qpi (λj (s:List Nat)=>∃ e,s=e++List.replicate (a.length - w - j) 0/\e.length=j/\Wd e/\val e=(val (a.drop w) / 2 ^ r)%bp j) ⟨[],oc,rfl,W3,by simp[val,Qbd,Nat.mod_one]⟩ ?_ ?_;rintro j x s t ⟨e,m,g,p,l⟩;subst m;have u:j<a.length - w:=by have:=Qme t;simpa using this
 have f:w+j<a.length:=om
 simp only[jn_eq,bifd];rw[w64 (x:=(w:Int)+(j:Int)) om om,show(w:Int)+(j:Int)=((w+j:Nat):Int) by omega,sbind,Qbz f,sbind,sbind,w64 (x:=((w+j:Nat):Int)+1) om om,show((w+j:Nat):Int)+1=((w+j+1:Nat):Int) by omega];simp only[sbind];rw[w64 (x:=((w+j:Nat):Int)+1) om om,show((w+j:Nat):Int)+1=((w+j+1:Nat):Int) by omega];rw[Jis (β:=Lp (List Nat) (List Nat)) (λ(v:Nat)=>(grd (decide (0<=(r:Int)))).bind λ_=>(getI (e++List.replicate (a.length - w - j) 0) (j:Int)).bind λ_=>some (Lp.go (List.set (e++List.replicate (a.length - w - j) 0) (Int.toNat (j:Int)) (v / 2 ^ (min (Int.toNat (r:Int)) 64)%4294967296)))) i (Qb1 i f)];rw[grd_t oc,sbind,yh (n:=r),yy om];obtain⟨d,hd⟩:∃ d,a.length - w - j=d+1:=⟨a.length - w - j - 1,om⟩
 rw[hd,vg,Wq g,sbind,Zf g];refine⟨_,rfl,e++[(a[w+j]+4294967296*a.getD (w+j+1) 0) / 2 ^ r%4294967296],by rw[show a.length - w - (j+1)=d by omega];simp,by simp[g],Kt.2 ⟨p,K0.2 ⟨om,W3⟩⟩,?_⟩;rw[Vm,g,Wx,<-Jit,l,we (val (a.drop w)),vu (2 ^ r) (bp j),<-we (val (a.drop w)),Que (Qof i),List.drop_drop,Jgy f,gt,<-ju,<-uo,Jir om];rintro s ⟨e,m,g,p,l⟩;subst m;simp only[Wv];rw[ue] at g l;rw[ue,gc,List.replicate_zero,ua,Yq hn om,sbind,<-K1 p,l,xw];have:=Zb (Qof (k:=w) i);rw[uz] at this;exact yu (ja _ _) this
theorem Jdo{q r x0 a x2 d x4:Nat}(e:q*d+r=x0*4294967296+a)(f:q*x4<=r*4294967296+x2):q*(d*4294967296+x4)<=(x0*4294967296+a)*4294967296+x2:=by rw[<-e];grind
theorem Jke{q r x0 a x2 d x4:Nat}(e:(q+1)*d+r=x0*4294967296+a)(f:r*4294967296+x2<(q+1)*x4):(x0*4294967296+a)*4294967296+x2<(q+1)*(d*4294967296+x4):=by rw[<-e];grind
theorem Jkf{q r a:Nat}{U:Nat}(d:(q+1)*a+r=U):q*a+(r+a)=U:=by rw[<-d];grind
theorem Jdp{q r x0 a x2 d x4:Nat}(e:q*d+r=x0*4294967296+a)(hr:4294967296<=r)(i:q<4294967296)(g:x4<4294967296):q*(d*4294967296+x4)<=(x0*4294967296+a)*4294967296+x2:=by have f:q*x4<=4294967295*4294967295:=gi om om;exact Jdo e om
theorem Jm6{X u w x2:Nat}(h:X<u)(a:x2<4294967296):X*4294967296+x2<u*4294967296+w:=om
theorem Jm7{q x0 d x2 a x4:Nat}(h:x0*4294967296+d<(q+1)*a)(f:x2<4294967296):(x0*4294967296+d)*4294967296+x2<(q+1)*(a*4294967296+x4):=by
 have e:(q+1)*(a*4294967296+x4)=((q+1)*a)*4294967296+(q+1)*x4:=by rw[gt,uo]
 rw[e];exact Jm6 h f
theorem Q4o{n l p x0 f x2 e x4:Nat}(hn:big<=n)(H:x2<4294967296)(C:e<4294967296)(y:x4<4294967296)(F:l<4294967296)(hr:p<4294967296)
 (E:l*e+p=x0*4294967296+f) (A:l+1=4294967296\/(x0*4294967296+f)*4294967296+x2<(l+1)*(e*4294967296+x4)) :
 ∃ q,(loopM (λ(d:Nat×Nat)=>
   (Qfy d.1 x4 0 0).bind λi=>
   jn (λ(g:(Bool)->Option _)=>
    bif decide (i.1<d.2) then (
     g true)
    else (
     bif decide (i.1=d.2) then (
      g (decide (i.2<=x2)))
     else (
      g false))) (λ(u:Bool)=>
    bif u then (
     some (Lp.out d.1))
    else (
     (Qb7 d.2 e 0).bind λa=>
     bif decide (0<a.2) then (
      some (Lp.out ((d.1+4294967296 - 1)%4294967296)))
     else (
      some (Lp.go (((d.1+4294967296 - 1)%4294967296),a.1)))))) n (l,p)).bind (λ(v:Nat)=>some v)=some q /\
   (q<4294967296/\q*(e*4294967296+x4)<=(x0*4294967296+f)*4294967296+x2/\(q+1=4294967296\/(x0*4294967296+f)*4294967296+x2<(q+1)*(e*4294967296+x4))):=by
 unfold big at hn
 refine Qhy (λs=>s.1) (λs=>s.1<4294967296/\s.2<4294967296/\s.1*e+s.2=x0*4294967296+f/\(s.1+1=4294967296\/(x0*4294967296+f)*4294967296+x2<(s.1+1)*(e*4294967296+x4)))
  (λq=>q<4294967296/\q*(e*4294967296+x4)<=(x0*4294967296+f)*4294967296+x2/\(q+1=4294967296\/(x0*4294967296+f)*4294967296+x2<(q+1)*(e*4294967296+x4))) ⟨F,hr,E,A⟩ (by simp only[];omega) ?_ (λt G=>⟨t,rfl,G⟩)
 rintro⟨q,r⟩ ⟨g1,x,g3,g4⟩;simp only at g1 x g3 g4;simp only[jn_eq,bifd];rw[Qrl g1 y om om,sbind];simp only[xp]
 have key:(bif decide (q*x4<=r*4294967296+x2) then some (Lp.out q) else
  (Qb7 r e 0).bind λa=>if 0<a.2 then some (Lp.out ((q+4294967296 - 1)%4294967296)) else some (Lp.go ((q+4294967296 - 1)%4294967296,a.1)):Option (Lp (Nat×Nat) Nat)) =
  (if q*x4 / 4294967296<r then bif true then some (Lp.out q) else
   (Qb7 r e 0).bind λa=>if 0<a.2 then some (Lp.out ((q+4294967296 - 1)%4294967296)) else some (Lp.go ((q+4294967296 - 1)%4294967296,a.1))
   else if q*x4 / 4294967296=r then if q*x4%4294967296<=x2 then some (Lp.out q) else
    (Qb7 r e 0).bind λa=>if 0<a.2 then some (Lp.out ((q+4294967296 - 1)%4294967296)) else some (Lp.go ((q+4294967296 - 1)%4294967296,a.1))
   else bif false then some (Lp.out q) else
    (Qb7 r e 0).bind λa=>if 0<a.2 then some (Lp.out ((q+4294967296 - 1)%4294967296)) else some (Lp.go ((q+4294967296 - 1)%4294967296,a.1))):=by
  have hd:=wm (q*x4) 4294967296;have A:=vn (q*x4) (show 4294967296 > 0 by decide);by_cases c1:q*x4 / 4294967296<r;rw[oq c1,oo om];rw[ol c1];by_cases w:q*x4 / 4294967296=r;rw[oq w,<-bifd];congr 1;exact gm.2 om;rw[ol w,oj om]
 rw[<-key,bifd];by_cases hs:q*x4<=r*4294967296+x2;right;rw[oq hs];exact⟨q,rfl,g1,Jdo g3 hs,g4⟩;rw[ol hs,Qns x C om,sbind]
 obtain⟨q',rfl⟩:∃ q',q=q'+1:=⟨q - 1,by
  have:q≠0:=by rintro rfl;simp at hs
  omega⟩
 have m:(q'+1+4294967296 - 1)%4294967296=q':=om
 have k:=Jke (x2:=x2) (x4:=x4) g3 om;have j:=Jkf g3;simp only[xp];rw[m];by_cases B:0<(r+e) / 4294967296;right;rw[oq B];exact⟨q',rfl,om,Jdp j om om y,.inr k⟩;left;rw[ol B];refine⟨_,rfl,⟨by simp only[];omega,by simp only[];omega,?_,.inr k⟩,by simp only[];omega⟩;simp only[];rw[xw om];exact j
theorem Q4p{n x0 d x2 a x4:Nat}(hn:big<=n)(h0:x0<=a)(j:d<4294967296)(f:x2<4294967296)(e:a<4294967296)(g:x4<4294967296)(p:a≠0):
 ∃ q,Qiz n x0 d x2 a x4=some q/\(q<4294967296/\q*(a*4294967296+x4)<=(x0*4294967296+d)*4294967296+x2/\(q+1=4294967296\/(x0*4294967296+d)*4294967296+x2<(q+1)*(a*4294967296+x4))):=by
 unfold Qiz;by_cases i:x0<a;rw[Qym i j e,sbind]
 have m:(x0*4294967296+d) / a<4294967296:=dl (by
  have:x0*4294967296+4294967296<=a*4294967296:=om
  omega)
 have hr:(x0*4294967296+d)%a<a:=vn _ om;exact Q4o hn f e g m (Nat.lt_trans hr e) (by rw[vu];exact wm _ _) (.inr (Jm7 ((jc om).1 (Nat.lt_succ_self _)) f));obtain rfl:x0=a:=om
 rw[show Qhh x0 d x0=some (0,0,false) by unfold Qhh;rw[bifd,oq om],sbind];rw[jn_eq];simp only[ow,bifT];rw[Qns j e om,sbind,jn_eq,bifd,ol om];simp only[xp];rw[bifd];have k:4294967295*x0+(d+x0)=x0*4294967296+d:=om
 by_cases l:0<(d+x0) / 4294967296;rw[oq l];exact⟨_,rfl,om,Jdp k om om g,.inl rfl⟩;rw[ol l,xw om];exact Q4o hn f e g om om k (.inl rfl)
theorem Q70(P M c b d lo hi a q y u V W:Nat)(e:4294967296*hi+lo=q*y+c)(f:d+lo+b=u+4294967296*a)(h:W+q*V=M+P*(c+b)):W+P*d+q*(V+P*y)=M+P*u+P*4294967296*(hi+a):=by
 have g:P*d+P*lo+P*b=P*u+P*4294967296*a:=by rw[<-gt,<-gt,f];grind
 have i:P*4294967296*hi+P*lo=P*(q*y)+P*c:=by rw[<-gt,<-e];grind
 grind
theorem Q6j{p m q' v:List Nat}{z q:Nat}(L:m.length=v.length)(hp:p.length+m.length+1+q'.length<=4611686018427387904)(F:Wd m)(G:Wd v)(M:z<4294967296)(J:q<4294967296):
 ∃ r b,Qf8 (p++m++z::q') (p.length:Int) v q=some (decide (0<b),p++r++q')/\r.length=v.length+1/\Wd r/\b<=1/\val r+q*val v=val (m++[z])+bp (v.length+1)*b:=by
 have key:∃ R,Qf8 (p++m++z::q') (p.length:Int) v q=some R/\∃ r b,R=(decide (0<b),p++r++q')/\r.length=v.length+1/\Wd r/\b<=1/\val r+q*val v=val (m++[z])+bp (v.length+1)*b:=by
  unfold Qf8;refine Qvp (λj (s:List Nat×Nat×Nat)=>∃ e,s.1=p++e++(m.drop j++z::q')/\e.length=j/\j<=v.length/\Wd e/\s.2.1<4294967296/\s.2.2<=1/\val e+q*val (v.take j)=val (m.take j)+bp j*(s.2.1+s.2.2)) ⟨[],oc,rfl,yb _,W3,oc,oc,by simp[val]⟩ ?_ ?_;rintro j y ⟨o,c,b⟩ H ⟨e,f,g,B,C,l,t,n⟩;simp only at f l t n;subst f;have i:j<v.length:=Qme H;have K:v[j]=y:=by simpa [i] using H
  have u:y<4294967296:=by rw[<-K];exact Qb1 G i
  have k:j<m.length:=om
  have E:=Qb1 F k;have a:(p++e).length=p.length+j:=oh
  have I:=Qxw J u l (show 0<4294967296 by omega);obtain⟨d,w,g1,A,g3,g4⟩:=Qrm (x:=m[j]) (y:=(q*y+c+0)%4294967296) (c:=b) E om t;rw[Qrl J u l om,sbind,w64 om om,show((p.length:Int)+(j:Int))=((p.length+j:Nat):Int) by omega,xe k,yj];simp only[];rw[Wq a,sbind,g1,sbind,sbind,Zf a];refine⟨_,rfl,e++[d],oc,by simp[g],om,Kt.2 ⟨C,K0.2 ⟨A,W3⟩⟩,by simp only[];omega,g3,?_⟩;simp only[];rw[Yr,We k,Vm,Vm,g,Wx,show v.getD j 0=y by rw[<-K];simp[i],xi,yy om];exact Q70 _ _ _ _ _ _ _ _ _ _ _ _ _ (wm (q*y+c) 4294967296) g4 n;rintro⟨o,c,b⟩ ⟨e,f,g,B,C,l,t,n⟩;simp only at f l t n;subst f;simp only[Wv];have a:(p++e).length=p.length+v.length:=oh
  obtain⟨d,w,g1,A,g3,g4⟩:=Qrm (x:=z) (y:=c) (c:=b) M l t;rw[w64 om om,show((p.length:Int)+(v.length:Int))=((p.length+v.length:Nat):Int) by omega,xl om,yw,Wq a,sbind,g1,sbind,sbind,Zf a];refine⟨_,rfl,e++[d],w,oc,by simp[g],Kt.2 ⟨C,K0.2 ⟨A,W3⟩⟩,g3,?_⟩;rw[xb (xm _),xb om] at n;rw[Vm,Vm,g,L,Wx];have:=Q70 (bp v.length) (val m) c b d c 0 w q 0 z (val v) (val e) om g4 n
  simpa using this
 obtain⟨R,f,r,b,g,B⟩:=key;exact⟨r,b,by rw[f,g],B⟩
theorem Q71(P M c d a y u V W:Nat)(e:4294967296*a+d=u+y+c)(h:W+P*c=M+V):W+P*d+P*4294967296*a=M+P*u+(V+P*y):=by grind
theorem Q6k{p m q' v:List Nat}{z:Nat}(C:m.length=v.length)(hp:p.length+m.length+1+q'.length<=4611686018427387904)(u:Wd m)(w:Wd v)(E:z<4294967296):
 ∃ r b,Qh5 (p++m++z::q') (p.length:Int) v=some (p++r++q')/\r.length=v.length+1/\Wd r/\b<=1/\val r+bp (v.length+1)*b=val (m++[z])+val v:=by
 have key:∃ R,Qh5 (p++m++z::q') (p.length:Int) v=some R/\∃ r b,R=p++r++q'/\r.length=v.length+1/\Wd r/\b<=1/\val r+bp (v.length+1)*b=val (m++[z])+val v:=by
  unfold Qh5;refine Qvp (λj (s:List Nat×Nat)=>∃ d,s.1=p++d++(m.drop j++z::q')/\d.length=j/\j<=v.length/\Wd d/\s.2<=1/\val d+bp j*s.2=val (m.take j)+val (v.take j)) ⟨[],oc,rfl,yb _,W3,oc,by simp[val]⟩ ?_ ?_;rintro j y ⟨o,c⟩ A ⟨d,e,f,l,n,q,k⟩;simp only at e q k;subst e;have g:j<v.length:=Qme A;have B:v[j]=y:=by simpa [g] using A
  have x:y<4294967296:=by rw[<-B];exact Qb1 w g
  have i:j<m.length:=om
  have t:=Qb1 u i;have a:(p++d).length=p.length+j:=oh
  rw[w64 om om,show((p.length:Int)+(j:Int))=((p.length+j:Nat):Int) by omega,xe i,yj];rw[Wq a,sbind,Qns t x (by simp only[];omega),sbind,sbind,Zf a];refine⟨_,rfl,d++[(m[j]+y+c)%4294967296],oc,by simp[f],om,Kt.2 ⟨n,K0.2 ⟨om,W3⟩⟩,by simp only[];omega,?_⟩;simp only[];rw[Yr,Yr,Vm,f,Wx,show v.getD j 0=y by rw[<-B];simp[g],show m.getD j 0=m[j] by simp[i]];exact Q71 _ _ _ _ _ _ _ _ _ (wm (m[j]+y+c) 4294967296) k;rintro⟨o,c⟩ ⟨d,e,f,l,n,q,k⟩;simp only at e q k;subst e;simp only[Wv];have a:(p++d).length=p.length+v.length:=oh
  rw[w64 om om,show((p.length:Int)+(v.length:Int))=((p.length+v.length:Nat):Int) by omega,xl om,yw,Wq a,sbind,sbind,Zf a,sbind];refine⟨_,rfl,d++[(z+c)%4294967296],(z+c) / 4294967296,oc,by simp[f],Kt.2 ⟨n,K0.2 ⟨om,W3⟩⟩,om,?_⟩;rw[xb (xm _),xb om] at k;rw[Vm,Vm,f,C,Wx];have:=Q71 (bp v.length) (val m) c ((z+c)%4294967296) ((z+c) / 4294967296) 0 z (val v) (val d) om k
  simpa using this
 obtain⟨R,e,r,b,f,l⟩:=key;exact⟨r,b,by rw[e,f],l⟩
theorem kn_a{P vl a g d q e:Nat}(m:g<P)(p:q<4294967296)(n:q*(vl+P*a)<=g+P*d)(f:e+1=4294967296\/d<(e+1)*a):q<=e:=by
 rcases f with f | f;omega;have k:P*(q*a)<=q*(vl+P*a):=by rw[gt,Nat.mul_left_comm];exact Nat.le_add_left _ _
 have i:P*(q*a)<P*(d+1):=by rw[gt,Nat.mul_one];omega
 have l:q*a<d+1:=Nat.lt_of_mul_lt_mul_left i;have j:q*a<(e+1)*a:=om
 exact Nat.le_of_lt_succ (Nat.lt_of_mul_lt_mul_right j)
theorem kn_b{P vl a j e d:Nat}(l:vl<P)(n:d<4294967296)(m:4294967296<=a)(i:d*a<=e):d*(vl+P*a)<=(j+P*e)+(vl+P*a):=by
 have f:d*(vl+P*a)=d*vl+P*(d*a):=by rw[gt,Nat.mul_left_comm]
 have k:P*(d*a)<=P*e:=uq _ i;have g:d*vl<=a*P:=gi om om;rw[f];rw[vu a P] at g;omega
theorem kn_z{P vl v3 v4 e z a x2:Nat}(j:vl<P)(k:v4<4294967296)(l:e+P*((z*4294967296+a)*4294967296+x2)<4294967296*(vl+P*(v3*4294967296+v4))):z<=v3:=by
 have f:P*(z*4294967296*4294967296)<=P*((z*4294967296+a)*4294967296+x2):=uq _ om;have g:vl+P*(v3*4294967296+v4)<P*((v3+1)*4294967296):=by have:P*(v3*4294967296+v4+1)<=P*((v3+1)*4294967296):=uq _ om;rw[gt _ _ 1,Nat.mul_one] at this;omega
 have d:P*(z*4294967296*4294967296)<P*((v3+1)*4294967296*4294967296):=by have a1:P*((v3+1)*4294967296*4294967296)=P*((v3+1)*4294967296)*4294967296:=(uo _ _ _).symm;omega
 have i:=Nat.lt_of_mul_lt_mul_left d;omega
theorem dm_of{U V q r:Nat}(h:r+q*V=U)(hr:r<V):U / V=q/\U%V=r:=by subst h;rw[Nat.add_mul_div_right _ _ om,ww hr,Nat.add_mul_mod_self_right,xw hr];omega
theorem last2{l:List Nat}{m:Nat}(h:l.length=m+2):∃ l' a b,l=l'++[a,b]/\l'.length=m:=by refine⟨l.take m,l[m],l[m+1],?_,oh⟩;have e:=We (a:=l) (k:=m) om;have d:=We (a:=l) (k:=m+1) om;rw[xb om] at d;refine d.trans ?_;rw[e,xf];rfl
theorem Jiu(p y w a V U j:Nat)(q r:Nat)(d:U=y+4294967296*w)(h:r+q*V=U):(p+j*y)+j*4294967296*(w+V*a)=p+j*(r+V*(q+4294967296*a)):=by grind
theorem Je9{n:Nat}{p w rest v:List Nat}{z:Nat}(hn:big<=n){vl wl:List Nat}{v3 v4 u x2:Nat}(H:v=vl++[v4,v3])(I:w=wl++[x2,u])(F:wl.length=vl.length)
 (a:Wd v) (e:Wd w) (hz:z<4294967296) (h3:v3≠0) (hp:p.length+w.length+1+rest.length<=4611686018427387904) (s:val (w++[z])<4294967296*val v) :
 ∃ r d,Qiz n z u x2 v3 v4=some d/\r.length=v.length+1/\Wd r/\val r=val (w++[z])%val v/\val (w++[z]) / val v<4294967296 /\
   ((Qf8 (p++w++z::rest) (p.length:Int) v d=some (false,p++r++rest)/\d=val (w++[z]) / val v) \/
    (∃ T,Qf8 (p++w++z::rest) (p.length:Int) v d=some (true,T)/\Qh5 T (p.length:Int) v=some (p++r++rest)/\(d+4294967296 - 1)%4294967296=val (w++[z]) / val v)):=by
 have J:w.length=v.length:=by rw[H,I];simp[F]
 have w1:Wd vl/\v4<4294967296/\v3<4294967296:=by rw[H] at a;exact⟨(Kt.1 a).1,(K0.1 (Kt.1 a).2).1,(K0.1 (K0.1 (Kt.1 a).2).2).1⟩
 have M:Wd wl/\x2<4294967296/\u<4294967296:=by rw[I] at e;exact⟨(Kt.1 e).1,(K0.1 (Kt.1 e).2).1,(K0.1 (K0.1 (Kt.1 e).2).2).1⟩
 obtain⟨w1,Z,w4⟩:=w1;obtain⟨M,w5,w6⟩:=M;have B:val v=val vl+bp vl.length*(v3*4294967296+v4):=by rw[H,Y0];simp only[val];congr 2;omega
 have C:val (w++[z])=val wl+bp vl.length*((z*4294967296+u)*4294967296+x2):=by rw[I,xf,Y0,F];simp only[yj,yw,val];congr 2;omega
 have Q:=Zb w1;have R:=Zb M;rw[F] at R;have K:z<=v3:=by rw[B,C] at s;exact kn_z Q Z s
 obtain⟨d,g1,P,g3,g4⟩:=Q4p hn K w6 w5 w4 Z h3;have k:0<val v:=by rcases wo (val v) with h | h;rw[h] at s;omega;exact h
 have i:val (w++[z]) / val v<4294967296:=(jc k).2 s;have hqa:val (w++[z]) / val v<=d:=by have:=Nat.div_mul_le_self (val (w++[z])) (val v);exact kn_a (vl:=val vl) R i (by rw[<-B,<-C];exact this) g4
 have hqb:d*val v<=val (w++[z])+val v:=by rw[B,C];exact kn_b Q P om g3
 have A:val (w++[z])<(d+1)*val v:=xv ((jc k).1 (Nat.lt_succ_self _)) (xc _ om);obtain⟨r,b,W,j,t3,t4,t5⟩:=Q6j (p:=p) (m:=w) (q':=rest) (v:=v) (z:=z) (q:=d) J hp e a hz P;rw[Nat.add_mul,Nat.one_mul] at A;have hvb:=Zb a;have hbb:bp v.length<=bp (v.length+1):=bp_le om;by_cases hb:b=0;subst hb;rw[vo,xp] at t5;obtain⟨x,y⟩:=dm_of t5 om;exact⟨r,d,g1,j,t3,y.symm,i,.inl ⟨W,x.symm⟩⟩;obtain rfl:b=1:=om
 rw[Nat.mul_one] at t5;have hr:=Zb t3;rw[j] at hr;obtain⟨f,g,l⟩:∃ f g,r=f++[g]:=by rcases je r with h | ⟨f,g,h⟩;rw[h] at j;simp at j;exact⟨f,g,by rw[h,jf]⟩
 have e2:f.length=v.length:=by rw[l] at j;simpa using j
 have O:Wd f/\g<4294967296:=by rw[l] at t3;exact⟨(Kt.1 t3).1,(K0.1 (Kt.1 t3).2).1⟩
 obtain⟨S,N,u1,X,Y,u4,L⟩:=Q6k (p:=p) (m:=f) (q':=rest) (v:=v) (z:=g) e2 om O.1 a O.2;have G:=Zb Y;rw[X] at G;rw[<-l] at L
 obtain⟨t,rfl⟩:∃ t,d=t+1:=⟨d - 1,by
  have:d≠0:=by rintro rfl;omega
  omega⟩
 rw[Nat.add_mul,Nat.one_mul] at *;have E:N=1:=by rcases wo N with h | h;subst h;rw[vo] at L;omega;omega
 subst E;rw[Nat.mul_one] at L;obtain⟨x,y⟩:=dm_of (U:=val (w++[z])) (V:=val v) (q:=t) (r:=val S) om om;refine⟨S,t+1,g1,X,Y,y.symm,i,.inr ⟨p++r++rest,W,?_,by rw[x];omega⟩⟩;rw[l,show p++(f++[g])++rest=p++f++g::rest by simp];exact u1
theorem Q6l{n:Nat}{u v vl:List Nat}{v3 v4:Nat}(hn:big<=n)(E:v=vl++[v4,v3])(h3:v3≠0)(g:Wd u)(q:Wd v)(hu:u.length<35184372088832)(hl:v.length<=u.length)(N:val (u.drop (u.length - v.length))<val v):
 ∃ r,Qm0 n u v=some r/\(r.1.length=u.length - v.length/\Wd r.1/\r.2.length=u.length/\Wd r.2/\val u=val v*val r.1+val r.2/\val r.2<val v):=by
 unfold Qm0;have L:=hn;unfold big at L;have hvl:v.length=vl.length+2:=by rw[E];simp
 rw[w64 (x:=(u.length:Int) - (v.length:Int)) om om,show(u.length:Int) - (v.length:Int)=((u.length - v.length:Nat):Int) by omega,Qfd om om,sbind]
 refine Qhy (λs=>(s.2.2+1).toNat) (λs=>∃(k:Nat) (p w e:List Nat),s.2.2=(k:Int) - 1/\k<=u.length - v.length/\s.1=p++w/\p.length=k/\w.length=u.length - k/\Wd p/\Wd w/\val w<val v/\s.2.1=List.replicate k 0++e/\e.length=u.length - v.length - k/\Wd e/\val u=val p+bp k*(val w+val v*val e))
  (λt=>t.2.length=u.length - v.length/\Wd t.2/\t.1.length=u.length/\Wd t.1/\val u=val v*val t.2+val t.1/\val t.1<val v) ⟨u.length - v.length,u.take (u.length - v.length),u.drop (u.length - v.length),[],?_,xm _,by simp only[uc],oc,oc,Qsa g,Qof g,N,by simp only[ua],oc,W3,?_⟩ ?_ ?_ (λt N=>⟨_,rfl,N⟩)
 . simp only[];rw[ue,w64 om om]
 . simp only[val,vo,xp]
   conv=>lhs;rw[<-uc (u.length - v.length) u]
   rw[Y0,xi,yy om]
 . simp only[];rw[ue,w64 om om];omega
 . rintro⟨uu,qq,i⟩ ⟨k,p,w,e,Z,i2,i3,F,i5,i6,O,i8,i9,i10,A,B⟩
   simp only at Z i3 i9;subst Z i3 i9;simp only[jn_eq,bifd];by_cases h0:0<k
   . left
     obtain⟨j,rfl⟩:∃ j,k=j+1:=⟨k - 1,om⟩
     obtain⟨d,y,e1⟩:∃ d y,p=d++[y]:=by
      rcases je p with h | ⟨d,y,h⟩
      . rw[h] at F;simp at F
      . exact⟨d,y,by rw[h,jf]⟩
     subst e1;have G:d.length=j:=by simpa using F
     have T:Wd d/\y<4294967296:=⟨(Kt.1 i6).1,(K0.1 (Kt.1 i6).2).1⟩
     have H:Wd (y::w):=K0.2 ⟨T.2,O⟩;have U:v.length<(y::w).length:=oh
     have V:y::w=(y::w).take v.length++(y::w)[v.length]::(y::w).drop (v.length+1):=Jgt U;have I:val ((y::w).drop (v.length+1))=0:=by rw[dv,<-Que O];exact ww (Nat.lt_trans i8 (Zb q))
     have X:val ((y::w).take v.length++[(y::w)[v.length]])=y+4294967296*val w:=by have:=um val V;rw[show ∀(a b:List Nat) (x:Nat),a++x::b=(a++[x])++b by intro a b x;simp,Y0,I,vo,xp] at this;rw[<-this];rfl
     have w1:Wd ((y::w).take v.length):=Qsa H;have w2:(y::w)[v.length]<4294967296:=Qb1 H U;have w3:Wd ((y::w).drop (v.length+1)):=Qof H;have w4:((y::w).take v.length).length=v.length:=by rw[xi,yy om]
     have w5:((y::w).drop (v.length+1)).length=u.length - j - (v.length+1):=by rw[uz,xn];omega
     rw[show d++[y]++w=d++(y::w) by simp,V];generalize (y::w).take v.length=W at *;generalize (y::w)[v.length]=z at *;generalize (y::w).drop (v.length+1)=R at *;obtain⟨wl,x2,C,J,f2⟩:=last2 (l:=W) (m:=vl.length) om;obtain⟨r,P,g1,g2,g3,g4,g5,Y⟩:=Je9 (p:=d) (w:=W) (rest:=R) (v:=v) (z:=z) hn E J f2 q w1 w2 h3 (by rw[w4,w5];omega) (by rw[X];omega);rw[oq om,show((j+1:Nat):Int) - 1=(j:Int) by omega];rw[w64 (x:=(j:Int)+(v.length:Int)) om om,show(j:Int)+(v.length:Int)=((j+vl.length+2:Nat):Int) by omega];rw[w64 (x:=((j+vl.length+2:Nat):Int) - 1) om om,w64 (x:=((j+vl.length+2:Nat):Int) - 2) om om,show((j+vl.length+2:Nat):Int) - 1=((j+vl.length+1:Nat):Int) by omega,show((j+vl.length+2:Nat):Int) - 2=((j+vl.length:Nat):Int) by omega];rw[w64 (x:=(v.length:Int) - 1) om om,w64 (x:=(v.length:Int) - 2) om om,show(v.length:Int) - 1=((vl.length+1:Nat):Int) by omega,show(v.length:Int) - 2=((vl.length:Nat):Int) by omega];have a1:getI (d++(W++z::R)) ((j+vl.length+2:Nat):Int)=some z:=by
      rw[<-xf];exact Wq (by rw[yd,w4];omega)
     have a2:getI (d++(W++z::R)) ((j+vl.length+1:Nat):Int)=some C:=by rw[J,show d++(wl++[x2,C]++z::R)=(d++wl++[x2])++C::(z::R) by simp];exact Wq oh
     have a3:getI (d++(W++z::R)) ((j+vl.length:Nat):Int)=some x2:=by rw[J,show d++(wl++[x2,C]++z::R)=(d++wl)++x2::(C::z::R) by simp];exact Wq oh
     have a4:getI v ((vl.length+1:Nat):Int)=some v3:=by rw[E,show vl++[v4,v3]=(vl++[v4])++v3::[] by simp];exact Wq oc
     have a5:getI v ((vl.length:Nat):Int)=some v4:=by rw[E];exact Wq rfl
     rw[a1,sbind,a2,sbind,a3,sbind,a4,sbind,a5,sbind,g1,sbind]
     have a6:∀(q':Nat),getI (List.replicate (j+1) 0++e) (j:Int)=some 0/\(List.replicate (j+1) 0++e).set (Int.toNat (j:Int)) q'=List.replicate j 0++q'::e:=λq'=>by rw[jl,xf,jb];exact⟨Wq oc,Zf oc⟩
     rw[G,xf] at Y;have f:∀ q',q'=val (W++[z]) / val v->∃ s',(some (Lp.go (d++r++R,List.replicate j 0++q'::e,wrap64 ((j:Int) - 1))):Option (Lp (List Nat×List Nat×Int) (List Nat×List Nat)))=some (Lp.go s')/\(∃(k:Nat) (p w e:List Nat),s'.2.2=(k:Int) - 1/\k<=u.length - v.length/\s'.1=p++w/\p.length=k/\w.length=u.length - k/\Wd p/\Wd w/\val w<val v/\s'.2.1=List.replicate k 0++e/\e.length=u.length - v.length - k/\Wd e/\val u=val p+bp k*(val w+val v*val e))/\(s'.2.2+1).toNat<((j:Int)+1).toNat:=by
      intro q' M;have K:0<val v:=om
      rw[w64 om om];refine⟨_,rfl,⟨j,d,r++R,q'::e,rfl,om,by rw[xf],G,by rw[yd,g2,w5];omega,T.1,Kt.2 ⟨g3,w3⟩,?_,rfl,by rw[xn];omega,K0.2 ⟨om,A⟩,?_⟩,by simp only[];omega⟩
      . rw[Y0,I,vo,xp,g4];exact vn _ K
      . rw[B,Vm,G,Wx,Y0,I,vo,xp]
        simp only[val];refine Jiu _ _ _ _ _ _ _ _ _ X ?_;rw[g4,M,vu];exact Nat.mod_add_div _ _
     rcases Y with ⟨Q,S⟩ | ⟨r1,Q,S,t3⟩
     . rw[Q,sbind]
       simp only[bifF];rw[(a6 P).1,sbind,(a6 P).2];exact f _ S
     . rw[Q,sbind]
       simp only[bifT];rw[S,sbind,(a6 ((P+4294967296 - 1)%4294967296)).1,sbind,(a6 _).2];exact f _ t3
   . right
     obtain rfl:k=0:=om
     obtain rfl:p=[]:=xd F;rw[ol om];refine⟨_,rfl,by simp only[List.replicate_zero,yw];omega,by simpa using A,by simp only[yw];omega,by simpa using O,?_,by simpa using i8⟩;rw[B,Qbd];simp[val];omega
theorem Jm8{x:Nat}(d:x<4294967296):blen x<=32:=by
 rcases xt 32 (blen x) with h | h;have h0:x≠0:=by rintro rfl;rw[Qjp] at h;omega
 have g1:=Qqb h0;have a:2 ^ 32<=2 ^ (blen x - 1):=dh oz om;rw[show(2:Nat) ^ 32=4294967296 by decide] at a;omega;exact h
theorem Kk{a:List Nat}(d:Wd a):(toL (val a)).length<=a.length:=by rw[K1 d];exact Qaa a
theorem Q18{v s:Nat}(hs:s<=32):(toL (v*2 ^ s)).length<=(toL v).length+1:=by refine Qeb ?_;have a:=Zb (Js v);rw[Je] at a;rw[Wx];exact xv (Nat.mul_lt_mul_of_pos_right a (uv s)) (uq _ (Qxy hs))
theorem len2{v:Nat}(h:4294967296<=v):∃ vl v4 v3,toL v=vl++[v4,v3]/\v3≠0:=by
 have h0:toL v≠[]:=by rw[Qdt om];simp
 obtain⟨p,x,a,d,e,f⟩:=Q2w h0;rcases je p with h5 | ⟨p',y,h5⟩;exfalso;have:=Je v;rw[a,h5] at this;simp[val] at this;omega;exact⟨p',y,x,by rw[a,h5,jf];simp,d⟩
theorem Jm9{v:Nat}(h:v≠0):bp ((toL v).length - 1)<=v:=by
 have h0:toL v≠[]:=by rw[Qdt h];simp
 obtain⟨p,x,a,d,e,f⟩:=Q2w h0;have:=Je v;rw[a,Vm] at this;rw[a,yd,vm,Nat.add_sub_cancel,<-this];have:bp p.length*1<=bp p.length*x:=uq _ om;omega
theorem Qnt{n:Nat}{a b:List Nat}(hn:big<=n)(ha:a.length<4398046511104)(hb:b.length<4398046511104)(d:Wd a)(m:Wd b):
 Qhi n a b=some (if val b=0 then ([],[],false) else (toL (val a / val b),toL (val a%val b),true)):=by
 unfold Qhi;have Y:=Kk m;have X:=Kk d;rw[Yq hn om,sbind,<-K1 m,bifd];by_cases h0:val b=0;rw[h0,X7,oq oa,oq rfl];have E:toL (val b)≠[]:=by rw[Qdt h0];simp
 have W:(toL (val b)).length≠0:=λh=>E (xd h);rw[ol om,ol h0,Qly hn om om d (Js _),sbind,Je,bifd];by_cases g:val a<val b;rw[oq (by rw[cmpI,oq g];decide),Yq hn om,sbind,ww g,xw g,X7,K1 d];rw[ol (by rw[cmpI,ol g];split<;>decide),bifd];by_cases R:(toL (val b)).length=1;rw[oq om];obtain⟨y,P⟩:=List.length_eq_one_iff.1 R;have F:=Je (val b);have O:=Js (val b);rw[P] at F O;simp only[val,vo,xp] at F;have H:=(K0.1 O).1;rw[P,show getI [y] (0:Int)=some y by rfl,sbind,Q6g hn om d om H,sbind];simp only[];have:=vn (val a) (show y > 0 by omega);rw[Qig hn om,sbind,<-F];rw[ol om];have j:4294967296<=val b:=by
  rcases xt (val b) 4294967296 with h | h;have:=Qeb (n:=val b) (k:=1) (by rw[Wx,Qbd];omega);omega;exact h
 obtain⟨bl,I,f,p,e2⟩:=len2 j;have e:=Js (val b);have i:f<4294967296:=by rw[p] at e;exact(K0.1 (K0.1 (Kt.1 e).2).2).1
 have S:(toL (val b)).length=bl.length+2:=by rw[p];simp
 rw[w64 (x:=((toL (val b)).length:Int) - 1) om om,show((toL (val b)).length:Int) - 1=((bl.length+1:Nat):Int) by omega];rw[show getI (toL (val b)) ((bl.length+1:Nat):Int)=some f by rw[p,show bl++[I,f]=(bl++[I])++f::[] by simp];exact Wq oc,sbind,Qyo hn i,sbind];have hs:=Jm8 i;rw[w64 (x:=(32:Int) - (blen f:Int)) om om,show(32:Int) - (blen f:Int)=((32 - blen f:Nat):Int) by omega];have l:32 - blen f<=32:=om
 generalize 32 - blen f=s at *;have A:=uv s;rw[Qz8 hn om d om,sbind];have l1:=Q18 (v:=val a) l;have l2:=Q18 (v:=val b) l;rw[J9 oh oh,sbind,Qz8 hn om e om,sbind,Je];have T:val b<=val b*2 ^ s:=Nat.le_mul_of_pos_right _ A;obtain⟨vl,v4,v3,L,Q⟩:=len2 (v:=val b*2 ^ s) om;have B:val b*2 ^ s<=val a*2 ^ s:=xc _ om;have Z:=Y1 B;have C:=Jm9 (v:=val b*2 ^ s) om;have hvl:(toL (val b*2 ^ s)).length=vl.length+2:=by rw[L];simp
 have G:Wd (toL (val a*2 ^ s)++[0]):=Kt.2 ⟨Js _,K0.2 ⟨om,W3⟩⟩
 obtain⟨⟨q,r⟩,g1,M,g3,g4,N,t,w⟩:=Q6l (u:=toL (val a*2 ^ s)++[0]) (v:=toL (val b*2 ^ s)) hn L Q G (Js _) oh oh (by
  rw[yd,vm,List.drop_append_of_le_length om,Vm,vo,xp,Je];have:=Zb (Qof (k:=(toL (val a*2 ^ s)).length+1 - (toL (val b*2 ^ s)).length) (Js (val a*2 ^ s)));rw[uz] at this
  exact xv this (xo (bp_le om) C))
 simp only at M g3 g4 N t w;rw[Vm,vo,xp,Je,Je] at t;rw[Je] at w;rw[yd,vm] at M g4;rw[g1,sbind];simp only[];rw[Yq hn om,sbind,Q6i hn om N om,sbind,<-K1 g3];obtain⟨J,K⟩:=dm_of (U:=val a*2 ^ s) (V:=val b*2 ^ s) (q:=val q) (r:=val r) (by rw[t,vu (val q)];omega) w;rw[Nat.mul_div_mul_right _ _ A] at J;rw[Nat.mul_mod_mul_right] at K;rw[<-J,<-K,Nat.mul_div_cancel _ A]
theorem Q1o{n x y:Nat}(hn:big<=n)(f:y<18446744073709551616):Qi0 n x y=some (Nat.gcd x y):=by unfold Qi0;unfold big at hn;refine Qb0 (λs=>s.2) (λs=>s.2<18446744073709551616/\Nat.gcd s.1 s.2=Nat.gcd x y) (λt=>t=Nat.gcd x y) ⟨f,rfl⟩ (by simp only[];omega) ?_ (λt e=>by rw[e]);rintro⟨u,v⟩ ⟨d,a⟩;simp only at d a;simp only[bifnd];by_cases h0:v=0;right;rw[oq h0];exact⟨_,rfl,by rw[<-a,h0,Nat.gcd_zero_right]⟩;left;rw[ol h0,grd_t (by simp[h0]),sbind];have:=vn u (show v > 0 by omega);exact⟨_,rfl,⟨by simp only[];omega,by rw[<-a,Nat.gcd_comm u v,Nat.gcd_rec v u,Nat.gcd_comm]⟩,this⟩
theorem Q4q{v:Nat}:Qlf (toL v)=some (decide (v=1)):=by
 unfold Qlf;simp only[jn_eq,bifd];by_cases h:(toL v).length=1;obtain⟨x,a⟩:=List.length_eq_one_iff.1 h;have:=Je v;rw[a] at this;simp[val] at this;rw[a,oq oc,show getI [x] (0:Int)=some x by rfl,sbind,this];rw[ol om];have:v≠1:=by rintro rfl;apply h;rw[Qdt oz,show 1 / 4294967296=0 by decide,X7];rfl
 rw[oj this]
theorem Jkg{v k:Nat}(h:v<2 ^ k):blen v<=k:=by
 rcases xt k (blen v) with a | a;have h0:v≠0:=by rintro rfl;rw[Qjp] at a;omega
 have g1:=Qqb h0;have d:2 ^ k<=2 ^ (blen v - 1):=dh oz om;omega;exact a
theorem Jkh{r u:Nat}(h:2*r<u):blen r<blen u:=by
 have d:=Qsb (x:=u);by_cases h0:r=0;subst h0;rw[Qjp];exact Qxx om;have g1:=Qqb h0;have a:=Qxx h0;have g3:2 ^ blen r=2 ^ (blen r - 1)*2:=by rw[<-jd,show(blen r - 1).succ=blen r by omega]
 have g4:2 ^ blen r<2 ^ blen u:=om
 exact(jq oz).1 g4
theorem Qxz{v:Nat}:blen v<=32*(toL v).length:=by refine Jkg ?_;rw[<-Qnk];have:=Zb (Js v);rwa [Je] at this
theorem Jiv{u v:Nat}(h0:v≠0):blen v+blen (u%v)+(if v<u%v then 1 else 0)<blen u+blen v+(if u<v then 1 else 0):=by
 have g:=vn u (show v > 0 by omega);rw[ol om];by_cases h:u<v;rw[oq h,xw h];omega;rw[ol h];have d:2*(u%v)<u:=by have e:=wm u v;have a:1<=u / v:=(Nat.le_div_iff_mul_le om).2 om;have f:v*1<=v*(u / v):=uq _ a;omega
 have:=Jkh d;omega
theorem Q4r{n:Nat}{a b:List Nat}(hn:big<=n)(y:a.length<4398046511104)(hb:b.length<4398046511104)(g:Wd a)(i:Wd b):Qle n a b=some (toL (Nat.gcd (val a) (val b))):=by
 unfold Qle;have m:=Kk g;have p:=Kk i;rw[Yq hn om,sbind,Yq hn om,sbind,<-K1 g,<-K1 i];have l:=hn;unfold big at l
 refine Qb0 (λs=>blen (val s.1)+blen (val s.2)+(if val s.1<val s.2 then 1 else 0)) (λs=>∃ u v,s=(toL u,toL v)/\Nat.gcd u v=Nat.gcd (val a) (val b)/\(toL u).length<4398046511104/\(toL v).length<4398046511104)
  (λt=>∃ u v,t=(toL u,toL v)/\Nat.gcd u v=Nat.gcd (val a) (val b)/\(toL u).length<4398046511104/\(toL v).length<=2) ⟨val a,val b,rfl,rfl,om,om⟩ ?_ ?_ ?_
 simp only[Je];have x:=Qxz (v:=val a);have e:=Qxz (v:=val b);split<;>omega;rintro s ⟨u,v,rfl,e,j,k⟩;simp only[bifd,Je];by_cases h0:2<(toL v).length;left;have f:v≠0:=by rintro rfl;rw[X7] at h0;simp at h0
 rw[oq om,Qnt hn j k (Js _) (Js _),sbind,Je,Je,ol f];refine⟨_,rfl,⟨v,u%v,rfl,?_,k,?_⟩,?_⟩;rw[<-e,Nat.gcd_comm u v,Nat.gcd_rec v u,Nat.gcd_comm];exact yu (Y1 (Nat.le_of_lt (vn u om))) k;simp only[Je];exact Jiv f;right;rw[ol om];exact⟨_,rfl,u,v,rfl,e,j,om⟩;rintro t ⟨u,v,rfl,e,j,k⟩;simp only[bifd];by_cases h0:v=0;subst h0;rw[X7,oq oa,<-e,Nat.gcd_zero_right];have w:(toL v).length≠0:=λh=>by rw[Qdt h0] at h;simp at h
 have d:v<18446744073709551616:=by rcases xt v 18446744073709551616 with h | h;exact h;have:=Jdl h;omega
 have r:=vn u (show v > 0 by omega);have q:=Y1 (Nat.le_of_lt r);rw[ol om,Qnt hn j om (Js _) (Js _),sbind,Je,Je,ol h0];simp only[];rw[Qwk hn om (Js _),sbind,Qwk hn om (Js _),sbind,Je,Je,oq d,oq om];simp only[];rw[Q1o hn om,sbind,Qig hn (yu (Nat.gcd_le_left _ om) d),sbind,<-e,Nat.gcd_comm u v,Nat.gcd_rec v u,Nat.gcd_comm]
theorem Qz9{n:Nat}{a b:List Nat}(hn:big<=n)(i:a.length<4398046511104)(hb:b.length<4398046511104)(e:Wd a)(f:Wd b):
 Qhj n a b=some (toL (val a / Nat.gcd (val a) (val b)),toL (val b / Nat.gcd (val a) (val b))):=by
 unfold Qhj;rw[Q4r hn i hb e f,sbind,bifd];have j:Nat.gcd (val a) (val b) ∣ val a:=Nat.gcd_dvd_left _ _;have k:Nat.gcd (val a) (val b) ∣ val b:=Nat.gcd_dvd_right _ _;have l:=Kk e;have m:=Kk f;have d:Nat.gcd (val a) (val b)=0\/(toL (Nat.gcd (val a) (val b))).length<4398046511104:=by by_cases h:val a=0;rw[h,Nat.gcd_zero_left];right;omega;right;exact yu (Y1 (Nat.gcd_le_left _ om)) om
 by_cases h0:Nat.gcd (val a) (val b)=0;rw[h0,X7,oq oa,Nat.div_zero,Nat.div_zero,X7];have p:(toL (Nat.gcd (val a) (val b))).length≠0:=λh=>by rw[Qdt h0] at h;simp at h
 rw[ol om,Q4q,sbind,bifd];by_cases g:Nat.gcd (val a) (val b)=1;rw[oq g,Yq hn om,sbind,Yq hn om,sbind,g,Nat.div_one,Nat.div_one,K1 e,K1 f];have d:(toL (Nat.gcd (val a) (val b))).length<4398046511104:=by rcases d with h | h;exact absurd h h0;exact h
 rw[ol g,Qnt hn i d e (Js _),sbind,Qnt hn hb d f (Js _),sbind,Je,ol h0,ol h0]
def wv(w:Qk):Int:=if w.Neg then -(val w.A3:Int) else (val w.A3:Int)
def toW(z:Int):Qk:=⟨decide (z<0),toL z.natAbs⟩
theorem Qfv(z:Int):wv (toW z)=z:=by unfold wv toW;simp only[gr,Je];split<;>omega
theorem Qih{v:Nat}:0<(toL v).length↔v≠0:=by constructor;rintro h rfl;rw[X7] at h;simp at h;intro h;rw[Qdt h];simp
theorem Qbf{s:Bool}{v:Nat}:Yp s (toL v)=some (toW (if s then -(v:Int) else (v:Int))):=by unfold Yp toW;rw[jn_eq];cases s;rw[bifF];congr 2;rw[bifT];congr 2;exact gm.2 (by simp only[ya];have:=@Qih v;omega);simp
def Ww(w:Qk):Prop:=Wd w.A3/\w.A3.length<4398046511104
theorem Qpk{n:Nat}{w:Qk}(hn:big<=n)(h:Ww w):Qd2 n w=some (toW (wv w)):=by unfold Qd2;rw[Yq hn (by have:=h.2;omega),sbind,<-K1 h.1,Qbf,sbind];rfl
theorem Jdq(s t:Bool)(x y:Nat):(if (s != t) then -((x*y:Nat):Int) else ((x*y:Nat):Int))=(if s then -(x:Int) else (x:Int))*(if t then -(y:Int) else (y:Int)):=by cases s<;>cases t<;>simp[Int.neg_mul,Int.mul_neg]
theorem Qwl{n:Nat}{w u:Qk}(hn:big<=n)(d:Ww w)(a:Ww u):Qkj n w u=some (toW (wv w*wv u)):=by unfold Qkj;rw[Qg6 hn (by have:=d.2;omega) (by have:=a.2;omega) d.1 a.1,sbind,Qbf,sbind,Jdq];rfl
theorem Jba{x y:Nat}:cmpI x y<0↔x<y:=by by_cases h:x<y;simp[cmpI,h];rw[cmpI,ol h];split<;>omega
theorem Qwm{n:Nat}{w u:Qk}(hn:big<=n)(e:Ww w)(d:Ww u):Qkl n w u=some (toW (wv w+wv u)):=by unfold Qkl;have g:=e.2;have i:=d.2;rw[Ja7 hn om om e.1 d.1,sbind,Qbf,sbind,Ja8 hn om om e.1 d.1,sbind,bifd,Qbf,sbind,Qbf,sbind];unfold wv;rcases w with ⟨s,a⟩;rcases u with ⟨t,b⟩;simp only[];generalize val a=x;generalize val b=y;have f:=@Jba x y;cases s<;>cases t<;>simp only[beq_self_eq_true,bifT,bifF,wx,ya,yo,show(false == true)=false by rfl,show(true == false)=false by rfl,f];congr 2;split<;>congr 2<;>omega;split<;>congr 2<;>omega;congr 2;omega
theorem Qwn{n:Nat}{w:Qk}(hn:big<=n)(h:Ww w):Qkk n w=some (toW (-wv w)):=by unfold Qkk;rw[Yq hn (by have:=h.2;omega),sbind,<-K1 h.1,Qbf,sbind];unfold wv;cases w.Neg<;>simp
theorem Jki(z:Int):(toW (-z)).A3=(toW z).A3:=by unfold toW;simp
theorem Qhz(z:Int):Wd (toW z).A3:=Js _
theorem Qpl{n:Nat}{w:Qk}(hn:big<=n)(h:Ww w):Qe7 n w=some (Int.sign (wv w)):=by unfold Qe7 wv;rw[Qyl hn (by have:=h.2;omega) h.1,sbind,bifd];by_cases h0:val w.A3=0;rw[oq h0,h0];cases w.Neg<;>rfl;rw[ol h0];cases w.Neg;rw[bifF,ol oz,gu om];rw[bifT,oq rfl,gv om]
theorem Qh0(w:Qk):(wv w).natAbs=val w.A3:=by unfold wv;split<;>omega
theorem Jna{w:Qk}(h:Ww w):Ww (toW (-wv w)):=by refine⟨Qhz _,?_⟩;rw[Jki];show(toL (wv w).natAbs).length<_;rw[Qh0];exact yu (Kk h.1) h.2
theorem Qwo{n:Nat}{w u:Qk}(hn:big<=n)(d:Ww w)(a:Ww u):Qkm n w u=some (toW (wv w - wv u)):=by unfold Qkm;rw[Qwn hn a,sbind,Qwm hn d (Jna a),sbind,Qfv,Int.sub_eq_add_neg]
theorem Q6m{n:Nat}{w u:Qk}(hn:big<=n)(d:Ww w)(a:Ww u)(h:Ww (toW (wv w - wv u))):Qm2 n w u=some (Int.sign (wv w - wv u)):=by unfold Qm2;rw[Qwo hn d a,sbind,Qpl hn h,sbind,Qfv]
def fv(f:Qa):Rat:=mkRat (wv f.Num) (val f.Den)
def toF(q:Rat):Qa:=⟨toW q.num,toL q.den⟩
theorem Jc(q:Rat):fv (toF q)=q:=by unfold fv toF;rw[Qfv,Je];exact wd q
theorem Qkf{z:Int}{d:Nat}(hd:d≠0):(mkRat z d).num=z / (Nat.gcd z.natAbs d:Int)/\(mkRat z d).den=d / Nat.gcd z.natAbs d:=by rw[<-Rat.normalize_eq_mkRat hd,Rat.normalize_eq];exact⟨rfl,rfl⟩
theorem Jdr(s:Bool)(x g:Nat)(h:g ∣ x):(if s then -((x / g:Nat):Int) else ((x / g:Nat):Int))=(if s then -(x:Int) else (x:Int)) / (g:Int):=by cases s;simp;simp only[ya];rw[Int.neg_ediv_of_dvd (Int.natCast_dvd_natCast.2 h)];simp
theorem Qgs{n:Nat}{w:Qk}{d:List Nat}(hn:big<=n)(e:Ww w)(hd:Wd d)(k:d.length<4398046511104)(h0:val d≠0):Qb5 n w d=some (toF (mkRat (wv w) (val d))):=by unfold Qb5;have f:=e.2;have j:Nat.gcd (val w.A3) (val d) ∣ val w.A3:=Nat.gcd_dvd_left _ _;have a:(toL (val w.A3 / Nat.gcd (val w.A3) (val d))).length<4398046511104:=yu (xo (Y1 (ja _ _)) (Kk e.1)) f;rw[Qz9 hn f k e.1 hd,sbind,Qpk hn ⟨Js _,a⟩,sbind];obtain⟨g,i⟩:=Qkf (z:=wv w) h0;unfold toF;rw[g,i,Qh0];congr 2;unfold wv;rw[Je];congr 1;exact Jdr _ _ _ j
def Fw(f:Qa):Prop:=Ww f.Num/\Wd f.Den/\f.Den.length<4398046511104
theorem Quf{n:Nat}{f:Qa}(hn:big<=n)(e:Fw f):∃ p,Xu n f=some p/\Ww p.1/\Wd p.2/\p.2.length<=max 1 f.Den.length/\p.1.A3.length<=f.Num.A3.length/\val p.2≠0/\mkRat (wv p.1) (val p.2)=fv f:=by obtain⟨d,a,g⟩:=e;unfold Xu fv;rw[Qyl hn om a,sbind,bifd];by_cases h0:val f.Den=0;rw[oq h0,Qig hn om,sbind];refine⟨_,rfl,⟨W3,oc⟩,Js _,?_,oc,by simp only[Je];decide,?_⟩;have:=Qeb (n:=1) (k:=1) (by rw[Wx,Qbd];omega);simp only[];omega;simp only[Je,h0,Rat.mkRat_zero];rfl;rw[ol h0];exact⟨_,rfl,d,a,by simp only[];omega,xm _,h0,rfl⟩
theorem Vs{n:Nat}{f:Qa}(hn:big<=n)(a:Fw f):Vl n f=some (toF (fv f)):=by obtain⟨p,d,e,g,k,l,i,j⟩:=Quf hn a;unfold Vl;rw[d,sbind,Qgs hn e g (by have:=a.2.2;omega) i,sbind,j]
theorem Qce{x y:Nat}:(toL (x*y)).length<=(toL x).length+(toL y).length:=by refine Qeb ?_;have a:=Zb (Js x);have d:=Zb (Js y);rw[Je] at a d;rw[Jm5];exact Nat.mul_lt_mul'' a d
theorem Qsc{x y k:Nat}(d:(toL x).length<=k)(e:(toL y).length<=k):(toL (x+y)).length<=k+1:=by refine Qeb ?_;have g1:=Zb (Js x);have a:=Zb (Js y);rw[Je] at g1 a;have g3:=bp_le d;have g4:=bp_le e;rw[Wx];omega
theorem Qec{n:Nat}{w:Qk}{d:List Nat}(hn:big<=n)(e:Ww w)(hd:Wd d)(a:d.length<4398046511104):Qbq n w d=some (toW (wv w*(val d:Int))):=by unfold Qbq;rw[Qwl hn e ⟨hd,a⟩,sbind];rfl
def Fk(k:Nat)(f:Qa):Prop:=Wd f.Num.A3/\f.Num.A3.length<=k/\Wd f.Den/\f.Den.length<=k
theorem Fk_Fw{k:Nat}{f:Qa}(h:Fk k f)(hk:k<4398046511104):Fw f:=⟨⟨h.1,by have:=h.2.1;omega⟩,h.2.2.1,by have:=h.2.2.2;omega⟩
theorem Qjj{n k:Nat}{f:Qa}(hn:big<=n)(a:Fk k f)(e:1<=k)(hk:k<4398046511104):∃ w d,Xu n f=some (w,d)/\Wd w.A3/\w.A3.length<=k/\Wd d/\d.length<=k/\val d≠0/\mkRat (wv w) (val d)=fv f:=by obtain⟨⟨w,d⟩,e,g,i,j,l,m,p⟩:=Quf hn (Fk_Fw a hk);exact⟨w,d,e,g.1,xo l a.2.1,i,by have:=a.2.2.2;simp only at j;omega,m,p⟩
theorem Qn3{w:Qk}{y k j:Nat}(a:Wd w.A3)(d:w.A3.length<=k)(e:(toL y).length<=j):(toW (wv w*(y:Int))).A3.length<=k+j:=by unfold toW;simp only[];rw[js,Qh0,wz];have:=@Qce (val w.A3) y;have:=Kk a;omega
theorem Vy{n k:Nat}{f g:Qa}(hn:big<=n)(l:1<=k)(hk:k<1099511627776)(v:Fk k f)(x:Fk k g):Vi n f g=some (toF (fv f+fv g)):=by
 obtain⟨w,d,a1,a2,a3,a4,a5,a6,a7⟩:=Qjj hn v l om;obtain⟨u,e,q,i,r,a,s,j,t⟩:=Qjj hn x l om;have m:=Qn3 a2 a3 (xo (Kk a) s);have p:=Qn3 i r (xo (Kk a4) a5);unfold Vi;rw[a1,sbind,q,sbind,Qec hn ⟨a2,om⟩ a om,sbind,Qec hn ⟨i,om⟩ a4 om,sbind,Qwm hn ⟨Qhz _,om⟩ ⟨Qhz _,om⟩,sbind,Qg6 hn om om a4 a,sbind];have y:=@Qce (val d) (val e);have A:=Kk a4;have B:=Kk a;rw[Qfv,Qfv];have hs:(toW (wv w * ↑(val e)+wv u * ↑(val d))).A3.length<=2*k+1:=by
  unfold toW at m p |-;simp only[] at m p |-;have:=Int.natAbs_add_le (wv w * ↑(val e)) (wv u * ↑(val d));exact xo (Y1 this) (Qsc om om)
 rw[Qgs hn ⟨Qhz _,om⟩ (Js _) om (by rw[Je];exact dp a6 j),sbind,Je,Qfv,<-a7,<-t,jt _ _ a6 j]
theorem Qnu{n k:Nat}{f g:Qa}(hn:big<=n)(l:1<=k)(hk:k<1099511627776)(v:Fk k f)(x:Fk k g):Qhk n f g=some (toF (fv f - fv g)):=by
 obtain⟨w,d,a1,a2,a3,a4,a5,a6,a7⟩:=Qjj hn v l om;obtain⟨u,e,q,i,r,a,s,j,t⟩:=Qjj hn x l om;have m:=Qn3 a2 a3 (xo (Kk a) s);have p:=Qn3 i r (xo (Kk a4) a5);unfold Qhk;rw[a1,sbind,q,sbind,Qec hn ⟨a2,om⟩ a om,sbind,Qec hn ⟨i,om⟩ a4 om,sbind,Qwo hn ⟨Qhz _,om⟩ ⟨Qhz _,om⟩,sbind,Qg6 hn om om a4 a,sbind];have y:=@Qce (val d) (val e);have A:=Kk a4;have B:=Kk a;rw[Qfv,Qfv];have hs:(toW (wv w * ↑(val e) - wv u * ↑(val d))).A3.length<=2*k+1:=by
  unfold toW at m p |-;simp only[] at m p |-;have:=Int.natAbs_sub_le (wv w * ↑(val e)) (wv u * ↑(val d));exact xo (Y1 this) (Qsc om om)
 rw[Qgs hn ⟨Qhz _,om⟩ (Js _) om (by rw[Je];exact dp a6 j),sbind,Je,Qfv,<-a7,<-t,tm,Rat.neg_mkRat,jt _ _ a6 j,Int.neg_mul,<-Int.sub_eq_add_neg]
theorem Xo{n k:Nat}{f g:Qa}(hn:big<=n)(j:1<=k)(hk:k<1099511627776)(q:Fk k f)(r:Fk k g):Wn n f g=some (toF (fv f*fv g)):=by
 obtain⟨w,d,a1,a2,a3,a4,a5,a6,a7⟩:=Qjj hn q j om;obtain⟨u,e,l,a,s,i,t,m,p⟩:=Qjj hn r j om;unfold Wn;rw[a1,sbind,l,sbind,Qwl hn ⟨a2,om⟩ ⟨a,om⟩,sbind,Qg6 hn om om a4 i,sbind];have x:=@Qce (val d) (val e);have y:=Kk a4;have A:=Kk i;have hs:(toW (wv w*wv u)).A3.length<=2*k:=by unfold toW;simp only[];rw[js,Qh0,Qh0];have g1:=@Qce (val w.A3) (val u.A3);have v:=Kk a2;have g3:=Kk a;omega
 rw[Qgs hn ⟨Qhz _,om⟩ (Js _) om (by rw[Je];exact dp a6 m),sbind,Je,Qfv,<-a7,<-p,jm]
theorem Jkj(q:Rat):toF (-q)=⟨toW (-q.num),toL q.den⟩:=rfl
theorem Jnb{f:Qa}(a:Fw f):Ww (toF (fv f)).Num:=by
 refine⟨Qhz _,?_⟩;show(toL (fv f).num.natAbs).length<_;by_cases h0:val f.Den=0;unfold fv;rw[h0,Rat.mkRat_zero];simp[X7];obtain⟨d,_⟩:=Qkf (z:=wv f.Num) h0;unfold fv;rw[d];have e:(wv f.Num / (Nat.gcd (wv f.Num).natAbs (val f.Den):Int)).natAbs<=val f.Num.A3:=by rw[<-Qh0];exact Int.natAbs_ediv_le_natAbs _ _
 exact yu (xo (Y1 e) (Kk a.1.1)) a.1.2
theorem Qg7{n:Nat}{f:Qa}(hn:big<=n)(a:Fw f):Qe1 n f=some (toF (-fv f)):=by unfold Qe1;have h:=Jnb a;rw[Vs hn a,sbind,Qwn hn h,sbind,Jkj];unfold toF;simp only[Qfv]
theorem Qwp{a b:Int}{d e:Nat}(hd:d≠0)(f:e≠0):Int.sign (a*(e:Int) - b*(d:Int))=Int.sign (mkRat a d - mkRat b e).num:=by rw[tm,Rat.neg_mkRat,jt _ _ hd f,Int.neg_mul,<-Int.sub_eq_add_neg];generalize a*(e:Int) - b*(d:Int)=z;have h0:d*e≠0:=dp hd f;obtain⟨i,_⟩:=Qkf (z:=z) h0;rw[i];have k:(Nat.gcd z.natAbs (d*e):Int) ∣ z:=Int.dvd_natAbs.1 (Int.natCast_dvd_natCast.2 (Nat.gcd_dvd_left _ _));obtain⟨c,j⟩:=k;have hp:0<Nat.gcd z.natAbs (d*e):=Nat.gcd_pos_of_pos_right _ om;generalize Nat.gcd z.natAbs (d*e)=g at *;subst j;rw[Int.mul_ediv_cancel_left _ om,Int.sign_mul,gu om,Int.one_mul]
theorem Qrn{n k:Nat}{f g:Qa}(hn:big<=n)(j:1<=k)(hk:k<1099511627776)(v:Fk k f)(x:Fk k g):Qjv n f g=some (Int.sign (fv f - fv g).num):=by
 obtain⟨w,d,a1,a2,a3,a4,a5,a6,a7⟩:=Qjj hn v j om;obtain⟨u,e,p,a,q,i,r,s,t⟩:=Qjj hn x j om;have l:=Qn3 a2 a3 (xo (Kk i) r);have m:=Qn3 a q (xo (Kk a4) a5);have hs:(toW (wv w * ↑(val e) - wv u * ↑(val d))).A3.length<=2*k+1:=by unfold toW at l m |-;simp only[] at l m |-;have:=Int.natAbs_sub_le (wv w * ↑(val e)) (wv u * ↑(val d));exact xo (Y1 this) (Qsc om om)
 unfold Qjv;rw[a1,sbind,p,sbind,Qec hn ⟨a2,om⟩ i om,sbind,Qec hn ⟨a,om⟩ a4 om,sbind,Q6m hn ⟨Qhz _,om⟩ ⟨Qhz _,om⟩ (by rw[Qfv,Qfv];exact⟨Qhz _,om⟩),sbind,Qfv,Qfv,Qwp a6 s,a7,t]
theorem Q6n:∀ {a b:List Nat},Wd a->Wd b->a.length=b.length->val a=val b->a=b
 | [],[],_,_,_,_=>rfl
 | [],_::_,_,_,h,_=>by simp at h
 | _::_,[],_,_,h,_=>by simp at h
 | x::a,y::b,f,hb,g,i=>by
   obtain⟨j,d⟩:=K0.1 f;obtain⟨k,e⟩:=K0.1 hb;simp only[val] at i;have:x=y:=om
   subst this;rw[Q6n d e (by simpa using g) om]
theorem Qug{x y:Nat}:cmpI x y=0↔x=y:=by unfold cmpI;split;constructor<;>intro h<;>omega;split;constructor<;>intro h<;>omega;constructor<;>intro h<;>omega
open Classical in
theorem Qpm{n:Nat}{f:Qa}(hn:big<=n)(u:Fw f):Z3 n f=some (decide (f=toF (fv f))):=by
 unfold Z3;rw[Vs hn u,sbind,jn_eq];have w1:Wd (toF (fv f)).Num.A3:=Js _;have r:Wd (toF (fv f)).Den:=Js _;generalize toF (fv f)=g at *;obtain⟨⟨p,v⟩,q,w⟩:=u;obtain⟨⟨s,a⟩,d⟩:=f;obtain⟨⟨t,b⟩,e⟩:=g;simp only at p v q w w1 r |-;have i:∀ {P:Prop},(P->False)->(some false:Option Bool)=some (decide P):=λh=>by rw[oj h]
 by_cases c1:s=t;subst c1;rw[show(s == s)=true by simp,bifT];by_cases l:(a.length:Int)=(b.length:Int)
 rw[oo l,bifT];by_cases m:(d.length:Int)=(e.length:Int)
 rw[oo m,bifT,Qly hn om om p w1,sbind];by_cases j:val a=val b;rw[oo (Qug.2 j),bifT,Qly hn om om q r,sbind];by_cases k:val d=val e;rw[oo (Qug.2 k),Q6n p w1 om j,Q6n q r om k,oo rfl];rw[oj λh=>k (Qug.1 h)];exact i λh=>by cases h;exact k rfl
 rw[oj λh=>j (Qug.1 h),bifF];exact i λh=>by cases h;exact j rfl
 rw[oj m,bifF];exact i λh=>by cases h;exact m rfl
 rw[oj l,bifF];exact i λh=>by cases h;exact l rfl
 rw[show(s == t)=false by simpa using c1,bifF];exact i λh=>by cases h;exact c1 rfl
def qw(q:Rat):Nat:=max (toL q.num.natAbs).length (toL q.den).length
theorem Wf{j k:Nat}{f:Qa}(h:Fk j f)(hk:j<=k):Fk k f:=⟨h.1,by have:=h.2.1;omega,h.2.2.1,by have:=h.2.2.2;omega⟩
theorem Jq{q:Rat}{k:Nat}(h:qw q<=k):Fk k (toF q):=by unfold qw at h;exact⟨Qhz _,by show(toL q.num.natAbs).length<=k;omega,Js _,by show(toL q.den).length<=k;omega⟩
theorem toL1:(toL 1).length=1:=by rw[Qdt oz];simp[X7]
theorem Q2x{z:Int}{d k:Nat}(hd:d≠0)(g:(toL z.natAbs).length<=k)(i:(toL d).length<=k):qw (mkRat z d)<=k:=by obtain⟨a,e⟩:=Qkf (z:=z) hd;unfold qw;rw[a,e];have g1:=Y1 (Int.natAbs_ediv_le_natAbs z (Nat.gcd z.natAbs d:Int));have f:=Y1 (ja d (Nat.gcd z.natAbs d));omega
theorem Y8:qw 0=1:=by unfold qw;rw[show(0:Rat).num=0 from rfl,show(0:Rat).den=1 from rfl,toL1];simp[X7]
theorem Q4s(q:Rat):1<=qw q:=by have:=(Qih (v:=q.den)).2 q.den_nz;unfold qw;omega
theorem qw_fv{f:Qa}{k:Nat}(h:Fk k f)(a:1<=k):qw (fv f)<=k:=by unfold fv;by_cases h0:val f.Den=0;rw[h0,Rat.mkRat_zero,Y8];exact a;refine Q2x h0 ?_ ?_;rw[Qh0];exact xo (Kk h.1) h.2.1;exact xo (Kk h.2.2.1) h.2.2.2
theorem Qgt(q:Rat):(toL q.num.natAbs).length<=qw q:=by unfold qw;omega
theorem Qgu(q:Rat):(toL q.den).length<=qw q:=by unfold qw;omega
theorem Xl{a b:Rat}{j k:Nat}(f:qw a<=j)(hb:qw b<=k):qw (a*b)<=j+k:=by rw[<-wd a,<-wd b,jm];have g:=Qgt a;have i:=Qgt b;have d:=Qgu a;have e:=Qgu b;have:=@Qce a.num.natAbs b.num.natAbs;have:=@Qce a.den b.den;exact Q2x (dp a.den_nz b.den_nz) (by rw[js];omega) om
theorem Yz{a b:Rat}{j k:Nat}(f:qw a<=j)(hb:qw b<=k):qw (a+b)<=j+k+1:=by rw[<-wd a,<-wd b,jt _ _ a.den_nz b.den_nz];have m:=Qgt a;have n:=Qgt b;have d:=Qgu a;have e:=Qgu b;have g:=@Qce a.num.natAbs b.den;have i:=@Qce b.num.natAbs a.den;have l:=@Qce a.den b.den;refine Q2x (dp a.den_nz b.den_nz) ?_ om;refine xo (Y1 (Int.natAbs_add_le _ _)) ?_;rw[js,js,wz,wz];exact Qsc om om
theorem Q1a(a:Rat):(-a).num=-a.num:=rfl
theorem Jds(a:Rat):(-a).den=a.den:=rfl
theorem Qjk(a:Rat):qw (-a)=qw a:=by unfold qw;rw[Q1a,Jds,Int.natAbs_neg]
theorem Q0a{a b:Rat}{j k:Nat}(d:qw a<=j)(hb:qw b<=k):qw (a - b)<=j+k+1:=by rw[tm];exact Yz d (by rw[Qjk];exact hb)
theorem Q0b{a:Rat}{j:Nat}(g:qw a<=j):qw a⁻¹<=j:=by
 have i:=Qgt a;have d:=Qgu a;have p:=Q4s a;unfold qw;rw[Rat.num_inv,Rat.den_inv];have e:(toL (a.num.sign*(a.den:Int)).natAbs).length<=j:=by
  rw[js,wz];refine xo (Y1 (y:=a.den) ?_) om;have:a.num.sign.natAbs<=1:=by rw[Int.natAbs_sign];split<;>omega
  calc a.num.sign.natAbs*a.den<=1*a.den:=xc _ this
   _=a.den:=Nat.one_mul _
 have f:(toL (if a.num=0 then 1 else a.num.natAbs)).length<=j:=by
  split
  . rw[toL1];omega
  . omega
 omega
theorem Qpn{a b:Rat}{j k:Nat}(d:qw a<=j)(hb:qw b<=k):qw (a / b)<=j+k:=by rw[da];exact Xl d (Q0b hb)
theorem Q4t{a:Rat}{j:Nat}(d:qw a<=j):∀ n:Nat,qw (a ^ n)<=n*j+1
 | 0=>by rw[jx];unfold qw;rw[show(1:Rat).num=1 from rfl,show(1:Rat).den=1 from rfl,show(1:Int).natAbs=1 from rfl,toL1];omega
 | n+1=>by have:=Xl (Q4t d n) d;rw[jy,ud];omega
theorem Jkk(x:Int):toF (x:Rat)=⟨toW x,toL 1⟩:=by unfold toF;rw[Rat.num_intCast,Rat.den_intCast]
theorem Q86{n:Nat}{x:Int}(hn:big<=n)(a:-9223372036854775808<=x)(d:x<=9223372036854775807):Qos n x=some (toW x):=by
 unfold Qos;rw[bifd];split;rename_i h;have e:(18446744073709551616 - Int.toNat (x%18446744073709551616))%18446744073709551616=x.natAbs:=om
 rw[sbind,e,Qig hn om,sbind,Qbf,sbind,oq rfl,show -((x.natAbs:Nat):Int)=x by omega];rename_i h;have e:Int.toNat (x%18446744073709551616)=x.natAbs:=om
 rw[e,Qig hn om,sbind,Qbf,sbind,ol oz,show((x.natAbs:Nat):Int)=x by omega]
theorem Qlz{n:Nat}{x:Int}(hn:big<=n)(a:-9223372036854775808<=x)(d:x<=9223372036854775807):Ky n x=some (toF (x:Rat)):=by unfold Ky;rw[Q86 hn a d,sbind,Qig hn oz,sbind,Jkk]
theorem X4{n:Nat}(hn:big<=n):Ky n 0=some (toF 0):=Qlz hn oz oz
theorem Qg8{n:Nat}(hn:big<=n):Ky n 1=some (toF 1):=Qlz hn oz oz
theorem Jfa{z:Int}{d:Nat}(hd:d≠0):(mkRat z d).num.sign=z.sign:=by have:=Qwp (a:=z) (b:=0) hd (e:=1) oz;rw[Rat.zero_mkRat,show mkRat z d - 0=mkRat z d by rw[tm,show(-0:Rat)=0 from rfl,ve]] at this;rw[<-this];simp
theorem Qdu{n k:Nat}{f:Qa}(hn:big<=n)(a:1<=k)(hk:k<1099511627776)(e:Fk k f):Qa2 n f=some (fv f).num.sign:=by obtain⟨w,d,a1,a2,a3,a4,a5,a6,a7⟩:=Qjj hn e a om;unfold Qa2;rw[a1,sbind,Qpl hn ⟨a2,om⟩,sbind,<-a7,Jfa a6]
theorem Jbb{a b:Rat}:(a - b).num=0↔a=b:=by rw[jg];grind
theorem Qgj{n k:Nat}{f g:Qa}(hn:big<=n)(a:1<=k)(hk:k<1099511627776)(d:Fk k f)(e:Fk k g):Qad n f g=some (decide (fv f=fv g)):=by unfold Qad;rw[Qrn hn a hk d e,sbind];refine um some (gm.2 ?_);rw[dz,Jbb]
def qz(q:Rat):Nat:=blen q.num.natAbs+blen q.den
theorem Q6o{n k:Nat}{f:Qa}(hn:big<=n)(hk:k<1099511627776)(e:Fk k f):Qa1 n f=some ((blen (val f.Num.A3)+blen (val f.Den):Nat):Int):=by unfold Qa1;obtain⟨a,m,d,p⟩:=e;have g:=@Qxz (val f.Num.A3);have i:=@Qxz (val f.Den);have j:=Kk a;have l:=Kk d;rw[Qyp hn om a,sbind,Qyp hn om d,sbind,w64 om om];rfl
theorem Quh{n:Nat}{q:Rat}(hn:big<=n)(hk:qw q<1099511627776):Qa1 n (toF q)=some (qz q:Int):=by rw[Q6o hn hk (Jq (xm _))];unfold qz toF toW;simp only[Je]
theorem Q4u{v b:Nat}(h:blen v<=b):(toL v).length<=b / 32+1:=by refine Qeb ?_;have a:=@Qsb v;rw[Qnk];exact xv a (dh oz om)
theorem qw_qz{q:Rat}{b:Nat}(h:qz q<=b):qw q<=b / 32+1:=by unfold qz at h;have a:=@Q4u q.num.natAbs b om;have d:=@Q4u q.den b om;unfold qw;omega
theorem Jkl:∀ {u:Qk},wv u≠0->(wv u).sign=if u.Neg then -1 else 1
 | ⟨false,a⟩,h=>by have e:wv ⟨false,a⟩=(val a:Int):=rfl;rw[e] at h |-;rw[gu om];rfl
 | ⟨true,a⟩,h=>by have e:wv ⟨true,a⟩=-(val a:Int):=rfl;rw[e] at h |-;rw[gv om];rfl
theorem Q72{z:Int}{d:Nat}(a:z≠0)(hd:d≠0):(mkRat z d)⁻¹=mkRat (z.sign*(d:Int)) z.natAbs:=by
 have h0:mkRat z d≠0:=λh=>a ((Rat.mkRat_eq_zero hd).1 h);have e:mkRat z d*mkRat (z.sign*(d:Int)) z.natAbs=1:=by rw[jm,<-Int.mul_assoc,Int.mul_sign_self,show(1:Rat)=mkRat 1 1 from rfl,Rat.mkRat_eq_iff (dp hd om) oz];simp[Int.mul_comm]
 grind
theorem Qg9{n k:Nat}{f g:Qa}(hn:big<=n)(r:1<=k)(hk:k<1099511627776)(B:Fk k f)(C:Fk k g):Qb8 n f g=some (if fv g=0 then (toF 0,false) else (toF (fv f / fv g),true)):=by
 obtain⟨w,d,a1,a2,a3,a4,a5,a6,a7⟩:=Qjj hn B r om;obtain⟨u,e,v,i,E,m,y,p,j⟩:=Qjj hn C r om;unfold Qb8;rw[a1,sbind,v,sbind,Qpl hn ⟨i,om⟩,sbind,bifd];have s:(wv u).sign=0↔fv g=0:=by rw[<-j,Rat.mkRat_eq_zero p,dz]
 by_cases h0:fv g=0;rw[oq (s.2 h0),oq h0,X4 hn,sbind];rw[ol (λh=>h0 (s.1 h)),ol h0,Qec hn ⟨a2,om⟩ m om,sbind,Qg6 hn om om a4 i,sbind];have F:=Qn3 a2 a3 (xo (Kk m) y);have G:=@Qce (val d) (val u.A3);have H:=Kk a4;have I:=Kk i;have a:wv u≠0:=λh=>h0 (by rw[<-j,h,Rat.zero_mkRat]);have l:val u.A3≠0:=by rw[<-Qh0];omega
 rw[Qgs (w:=⟨(toW (wv w * ↑(val e))).Neg != u.Neg,(toW (wv w * ↑(val e))).A3⟩) hn ⟨Qhz (wv w * ↑(val e)),by show(toW (wv w * ↑(val e))).A3.length<_;omega⟩ (Js _) om (by rw[Je];exact dp a6 l),sbind,Je];refine um some (Prod.ext ?_ rfl);refine um toF ?_;have A:wv (⟨((toW (wv w * ↑(val e))).Neg != u.Neg),(toW (wv w * ↑(val e))).A3⟩:Qk)=(wv w*(val e:Int))*(wv u).sign:=by
  have t:=Qfv (wv w * ↑(val e));generalize toW (wv w * ↑(val e))=x at t |-;rw[<-t];have hs:=Jkl a;rw[hs];unfold wv;cases x.Neg<;>cases u.Neg<;>simp
 rw[A,<-a7,<-j,da];have q:=Q72 a p;rw[Qh0] at q;rw[q,jm];congr 1;rw[Int.mul_assoc,Int.mul_comm (val e:Int)]
theorem Q1b{v j:Nat}(h:(toL v).length<=j):∀ t,(toL (v ^ t)).length<=t*j+1
 | 0=>by rw[Nat.pow_zero,toL1];omega
 | t+1=>by have:=Q1b h t;have:=@Qce (v ^ t) v;rw[jd,ud];omega
theorem Qui{n j t:Nat}{a:List Nat}(hn:big<=n)(d:Wd a)(e:a.length<=j)(k:j<1099511627776)(l:t<=7+1):Qi3 n a (t:Int)=some (toL (val a ^ t)):=by unfold Qi3;rw[Qig hn oz,sbind];rw[V3 (λi=>(toL (val a ^ i),(i:Int))) t (toL (val a ^ t))];intro i hi;have f:=Q1b (xo (Kk d) e) i;have g:i*j<=8*j:=xc _ om;simp only[bifd];rw[oq om,Qg6 hn om om (Js _) d,sbind,Je,w1 om,jd];simp only[bifd];rw[ol om];unfold big at hn;omega;rfl
theorem Jdt(z:Int)(t:Nat):(if (decide (z<0) && decide (t%2=1))=true then -((z.natAbs ^ t:Nat):Int) else ((z.natAbs ^ t:Nat):Int))=z ^ t:=by
 rw[Int.natCast_pow];by_cases a:z<0;have e:(z.natAbs:Int)=-z:=om
 rw[e,oo a,Bool.true_and];rcases Nat.mod_two_eq_zero_or_one t with h | h;rw[ol (by rw[h];decide)];obtain⟨m,rfl⟩:∃ m,t=2*m:=⟨t / 2,om⟩
 rw[Int.pow_mul,Int.pow_mul];congr 1;rw[dq,dq,dq,dq];simp[Int.neg_mul_neg];rw[oq (by rw[h];decide)];obtain⟨m,rfl⟩:∃ m,t=2*m+1:=⟨t / 2,om⟩
 rw[dq,dq,Int.pow_mul,Int.pow_mul];have:(-z) ^ 2=z ^ 2:=by rw[dq,dq,dq,dq];simp[Int.neg_mul_neg]
 rw[this,Int.mul_neg,Int.neg_neg];have e:(z.natAbs:Int)=z:=om
 rw[oj a,Bool.false_and,ol oz,e]
theorem Qnv{n k:Nat}{f:Qa}{e:Int}(hn:big<=n)(F:1<=k)(hk:k<1099511627)(s:Fk k f):
 Qhm n f e=some (if e < -8\/8<e\/(e<0/\fv f=0) then (toF 0,false) else (toF (fv f ^ e),true)):=by
 unfold Qhm;simp only[jn_eq];by_cases c1:e < -8;rw[oo c1,bifT,bifT,X4 hn,sbind,oq (.inl c1)];rw[oj c1,bifF];by_cases a:8<e;rw[oo a,bifT,bifT,X4 hn,sbind,oq (.inr (.inl a))];rw[oj a,bifF];have J:=Qdu hn F om s;have K:=qw_fv s F;have I:Fk k (toF (fv f)):=Jq K;obtain⟨g1,E,g3,g4⟩:=I;have G:=Vs hn (Fk_Fw s om);have j:max e (wrap64 (-e))=((e.natAbs:Nat):Int):=by rw[w64 om om];omega
 have w:=Qui (t:=e.natAbs) hn g1 E om om;have A:=Qui (t:=e.natAbs) hn g3 g4 om om;have L:=Q1b (xo (Kk g1) E) e.natAbs;have M:=Q1b (xo (Kk g3) g4) e.natAbs;have Q:e.natAbs*k<=8*k:=xc _ om;have g:decide (Int.tmod ((e.natAbs:Nat):Int) 2=1)=decide (e.natAbs%2=1):=by refine gm.2 ?_;rw[Int.tmod_eq_emod_of_nonneg om];omega
 have N:val (toF (fv f)).Num.A3=(fv f).num.natAbs:=Je _;have O:val (toF (fv f)).Den=(fv f).den:=Je _;have v3:(toF (fv f)).Num.Neg=decide ((fv f).num<0):=rfl;rw[N] at w L;rw[O] at A M
 have fin:∀(u d:Nat),(toL u).length<=8*k+1->(if (toF (fv f)).Num.Neg=true then (Qd2 n (⟨decide (Int.tmod (max e (wrap64 (-e))) 2=1),toL u⟩:Qk)).bind λB=>some ((⟨B,toL d⟩:Qa),true) else (Qd2 n (⟨false,toL u⟩:Qk)).bind λC=>some ((⟨C,toL d⟩:Qa),true)) =
  some (⟨toW (if (decide ((fv f).num<0) && decide (e.natAbs%2=1))=true then -(u:Int) else (u:Int)),toL d⟩,true):=by
  intro u d P;rw[j,g,v3];by_cases q:(fv f).num<0;rw[oq (oo q),Qpk hn ⟨Js _,by show(toL u).length<_;omega⟩,sbind,oo q,Bool.true_and];unfold wv;simp only[Je];rw[ol (by rw[oj q];decide),Qpk hn ⟨Js _,by show(toL u).length<_;omega⟩,sbind,oj q,Bool.false_and];unfold wv;simp only[Je]
 have bifi:∀ {α:Type}(b:Bool) (x y:α),(bif b then x else y)=if b=true then x else y:=λb x y=>by cases b<;>rfl
 by_cases l:e<0;rw[oo l,bifT,J,sbind];by_cases m:fv f=0;rw[m,show((0:Rat).num.sign)=0 from rfl,oo rfl,bifT,X4 hn,sbind,oq (.inr (.inr ⟨l,m ▸ rfl⟩))];have i:(fv f).num≠0:=λh=>m (jg.1 h);rw[oj (by rw[dz];exact i),bifF,G,sbind,j,w,sbind,A,sbind,bifT];rw[bifi,<-j,fin _ _ om,ol (c:=e < -8\/8<e\/(e<0/\fv f=0)) (by rintro(h | h | h);exact c1 h;exact a h;exact m h.2)];refine um some (Prod.ext ?_ rfl);have H:e=-((e.natAbs:Nat):Int):=om
 have r:fv f ^ e=(fv f ^ e.natAbs)⁻¹:=by rw[<-dm,<-Rat.zpow_neg,<-H]
 rw[r];unfold toF;rw[Rat.num_inv,Rat.den_inv,Rat.num_pow,Rat.den_pow];have v:(fv f).num ^ e.natAbs≠0:=Int.pow_ne_zero i;rw[ol v,Int.natAbs_pow];have hs:=Jdt (fv f).num e.natAbs;have hp:0<(fv f).num.natAbs ^ e.natAbs:=Nat.pow_pos om;congr 2;rw[<-hs];by_cases p:(decide ((fv f).num<0) && decide (e.natAbs%2=1))=true;rw[oq p,oq p,gv om,Int.neg_mul,Int.one_mul];rw[ol p,ol p,gu om,Int.one_mul];rw[oj l,bifF,bifF,G,sbind,j,w,sbind,A,sbind,bifF];rw[bifi,<-j,fin _ _ om,ol (c:=e < -8\/8<e\/(e<0/\fv f=0)) (by rintro(h | h | h);exact c1 h;exact a h;exact l h.1)];refine um some (Prod.ext ?_ rfl);have r:fv f ^ e=fv f ^ e.natAbs:=by
  rw[<-dm,show((e.natAbs:Nat):Int)=e by omega]
 rw[r];unfold toF;rw[Rat.num_pow,Rat.den_pow,Jdt]
theorem Qwq{a:Rat}{j:Nat}(f:qw a<=j){e:Int}(h:e.natAbs<=8):qw (a ^ e)<=8*j+1:=by
 have i:e.natAbs*j<=8*j:=xc _ om;have g:=Q4t f e.natAbs;rcases Int.lt_or_le e 0 with c | c;have d:a ^ e=(a ^ e.natAbs)⁻¹:=by rw[<-dm,<-Rat.zpow_neg,show -((e.natAbs:Nat):Int)=e by omega]
 rw[d];exact Q0b om;have d:a ^ e=a ^ e.natAbs:=by rw[<-dm,show((e.natAbs:Nat):Int)=e by omega]
 rw[d];omega
def rv(l:List Qa):List Rat:=l.map fv
def toR(l:List Rat):List Qa:=l.map toF
theorem Vj(l:List Rat):rv (toR l)=l:=by
 unfold rv toR;rw[yt]
 conv=>rhs;rw[<-List.map_id l]
 exact wg λq _=>Jc q
theorem Jn(l:List Qa):(rv l).length=l.length:=by unfold rv;simp
theorem Jl(l:List Rat):(toR l).length=l.length:=by unfold toR;simp
def FR(k:Nat)(l:List Qa):Prop:=∀ x∈l,Fk k x
def QR(k:Nat)(l:List Rat):Prop:=∀ x∈l,qw x<=k
theorem K2{k:Nat}{l:List Rat}(h:QR k l):FR k (toR l):=λx a=>by unfold toR at a;obtain⟨q,d,rfl⟩:=xy.1 a;exact Jq (h q d)
theorem QR_rv{k:Nat}{l:List Qa}(h:FR k l)(d:1<=k):QR k (rv l):=λx a=>by unfold rv at a;obtain⟨q,e,rfl⟩:=xy.1 a;exact qw_fv (h q e) d
theorem K4{j k:Nat}{l:List Qa}(h:FR j l)(hk:j<=k):FR k l:=λx a=>Wf (h x a) hk
theorem Q8{j k:Nat}{l:List Rat}(h:QR j l)(hk:j<=k):QR k l:=λx a=>xo (h x a) hk
theorem Q6p{α:Type}{n:Nat}{a:List α}{g:α->Rat}{f:Nat->α->List Qa->Option (Lp (List Qa) (List Qa))}(_:big<=n)(e:a.length<=1000000)
 (hb:∀ i x s,a[i]?=some x->f i x s=(appM 56 s [toF (g x)]).bind λy=>some (Lp.go y)):(rangeL f a 0 []).bind (lpK λs=>some s)=some (toR (a.map g)):=by
 rw[Qbe (λi=>(a.take i).map λx=>toF (g x)) a,Wv,xh];unfold toR;rw[yt];rfl;intro i x d;have:=J8 d;rw[hb i x _ d,J9 oh oh,sbind,Xe _ d];rfl
theorem Qyq{n k:Nat}{a:List Qa}(hn:big<=n)(hk:k<1099511627776)(d:FR k a)(e:a.length<=1000000):Qox n a=some (toR (rv a)):=by unfold Qox;refine Q6p (g:=fv) hn e λi x s f=>?_;rw[Vs hn (Fk_Fw (d x (Jw f)) om),sbind]
theorem Qct{n k:Nat}{a:List Qa}(hn:big<=n)(hk:k<1099511627776)(d:FR k a)(e:a.length<=1000000):Qlj n a=some (toR (rv a)):=Qyq hn hk d e
def scaleQ(c:Rat)(l:List Rat):List Rat:=l.map (c * ·)
theorem Qab{n k:Nat}{c:Qa}{a:List Qa}(hn:big<=n)(d:1<=k)(hk:k<1099511627776)(f:Fk k c)(e:FR k a)(j:a.length<=1000000):Y9 n c a=some (toR (scaleQ (fv c) (rv a))):=by unfold Y9;rw[Q6p (g:=λx=>fv c*fv x) hn j λi x s l=>?_];unfold scaleQ rv;rw[yt];rfl;rw[Xo hn d hk f (e x (Jw l)),sbind]
theorem Ql0{j k:Nat}{c:Rat}{l:List Rat}(d:qw c<=j)(h:QR k l):QR (j+k) (scaleQ c l):=λx a=>by unfold scaleQ at a;obtain⟨q,e,rfl⟩:=xy.1 a;exact Xl d (h q e)
theorem Q73{α β τ R:Type}{f:Nat->α->List β->Option (Lp (List β) τ)}{K:Lp (List β) τ->Option R}(g:α->β->β)(xs:List α)(s:List β)(h:xs.length=s.length)
 (hb:∀ i x y s',xs[i]?=some x->s[i]?=some y->s'[i]?=some y->f i x s'=some (.go (s'.set i (g x y)))):(rangeL f xs 0 s).bind K=K (.go (List.zipWith g xs s)):=by
 have a:∀ i,i<=xs.length->(List.zipWith g (xs.take i) (s.take i)).length=i:=λi hi=>oh
 rw[Qbe (λi=>List.zipWith g (xs.take i) (s.take i)++s.drop i) xs];rw[xh,h,xh,List.drop_length,ua];intro i x d;have hi:=J8 d;have e:s[i]?=some s[i]:=oi om;have l:(List.zipWith g (xs.take i) (s.take i)++s.drop i)[i]?=some s[i]:=by rw[yg (by rw[a i om];exact xm _),a i om,gc,vk,xp,e]
 rw[hb i x s[i] _ d e l];refine um (λz=>some (Lp.go z)) ?_;have hd:s.drop i=s[i]::s.drop (i+1):=xe om;have j:xs.take (i+1)=xs.take i++[x]:=by rw[vj,d];rfl
 have k:s.take (i+1)=s.take i++[s[i]]:=by rw[vj,e];rfl
 rw[hd,List.set_append_right _ _ (by rw[a i om];exact xm _),a i om,gc,List.set_cons_zero,j,k,List.zipWith_append oh];simp;simp
def addQ(a b:List Rat):List Rat:=List.zipWith (·+·) a b
theorem Jgz{α:Type}{x:α}{l:List α}:getI (x::l) 0=some x:=rfl
theorem Qb2{n k:Nat}{a b:List Qa}(hn:big<=n)(f:1<=k)(hk:k<1099511627776)(g:FR k a)(hb:FR k b)(j:a.length<=1000000):
 X8 n [a,b]=some (if a.length=b.length then (toR (addQ (rv a) (rv b)),true) else ([],false)):=by
 unfold X8;have hs:sub [a,b] (1:Int) (([a,b]:List (List Qa)).length:Int)=some [b]:=rfl;rw[show decide ((([a,b]:List (List Qa)).length:Int)=0)=false from rfl,bifF,Jgz,sbind,Qyq hn hk g j,sbind,hs,sbind];simp only[rangeL];rw[Jl,Jn];by_cases h:a.length=b.length;rw[oq h,oo (show(b.length:Int)=(a.length:Int) by omega),ov,bifF,Q73 (λ(x:Qa) (y:Qa)=>toF (fv y+fv x)) b (toR (rv a)) (by rw[Jl,Jn,h]),Wv,sbind];simp only[];rw[sbind,Wv];refine um some (Prod.ext ?_ rfl);simp only[];unfold addQ toR rv;rw[List.map_zipWith,yt,tx,List.zipWith_map,List.zipWith_comm];congr 1;funext x y;simp only[Function.comp,Jc];intro i x y s' l m d;have e:Fk k y:=K2 (QR_rv g f) y (Jw m);rw[Jd d,sbind,Vy hn f hk e (hb x (Jw l)),sbind,sbind,yh];rw[ol h,oj (show ¬(b.length:Int)=(a.length:Int) by omega),ow,bifT,sbind];rfl
theorem Q6q{α β γ:Type}{g:α->β->γ}{P:γ->Prop}:∀ {a:List α}{b:List β},(∀ x∈a,∀ y∈b,P (g x y))->∀ z∈List.zipWith g a b,P z
 | [],_,_,z,d=>by simp at d
 | _::_,[],_,z,d=>by simp at d
 | x::a,y::b,h,z,d=>by rcases xu.1 d with rfl | d;exact h x (.head _) y (.head _);exact Q6q (λi e j f=>h i (.tail _ e) j (.tail _ f)) z d
theorem Ql1{j k:Nat}{a b:List Rat}(d:QR j a)(hb:QR k b):QR (j+k+1) (addQ a b):=Q6q λx e y f=>Yz (d x e) (hb y f)
theorem Zu{a b:List Rat}:(addQ a b).length=min a.length b.length:=by unfold addQ;simp
theorem Z1{c:Rat}{a:List Rat}:(scaleQ c a).length=a.length:=by unfold scaleQ;simp
theorem Qb6{n m:Nat}(hn:big<=n)(a:m<=300):Zj n (m:Int)=some (toR (List.replicate m 0)):=by
 unfold Zj;have e:min (max (m:Int) 0) 300=(m:Int):=om
 rw[e,Qfd om om,sbind];rw[V3 (λi=>(List.replicate i (toF 0)++List.replicate (m - i) (⟨⟨false,[]⟩,[]⟩:Qa),(i:Int))) m (toR (List.replicate m 0))];intro i hi;simp only[bifd];have hd:List.replicate (m - i) (⟨⟨false,[]⟩,[]⟩:Qa)=⟨⟨false,[]⟩,[]⟩::List.replicate (m - (i+1)) ⟨⟨false,[]⟩,[]⟩:=by rw[show m - i=(m - (i+1))+1 by omega,vg]
 rw[oq om,X4 hn,sbind,hd,Wq oc,sbind,Zf oc,w1 om];refine um (λz=>some (Lp.go (z,_))) ?_;rw[jl,xf];rfl;simp only[bifd];rw[ol om,gc,List.replicate_zero,ua];unfold toR;rw[List.map_replicate];unfold big at hn;omega;simp
def mixQ:List Rat->List (List Rat)->List Rat->List Rat
 | c::cs,a::l,z=>mixQ cs l (List.zipWith (λx o=>o+c*x) a z)
 | _,_,z=>z
theorem Q74:∀ {cs:List Rat}{l:List (List Rat)}{z:List Rat}{c a},cs.length=l.length->mixQ (cs++[c]) (l++[a]) z=List.zipWith (λx o=>o+c*x) a (mixQ cs l z)
 | [],[],z,c,a,_=>rfl
 | [],_::_,_,_,_,h=>by simp at h
 | _::_,[],_,_,_,h=>by simp at h
 | x::cs,y::l,z,c,a,h=>by simp only[yj,mixQ];exact Q74 (by simpa using h)
theorem Qgv{m:Nat}:∀ {cs:List Rat}{l:List (List Rat)}{z:List Rat},(∀ a∈l,a.length=m)->z.length=m->(mixQ cs l z).length=m
 | [],_,z,_,h=>by simpa [mixQ] using h
 | _::_,[],z,_,h=>by simpa [mixQ] using h
 | x::cs,y::l,z,d,h=>by simp only[mixQ];exact Qgv (λa e=>d a (.tail _ e)) (by have:=d y (.head _);simp;omega)
theorem Qtb{j k:Nat}:∀ {cs:List Rat}{l:List (List Rat)}{z:List Rat}{b:Nat},QR j cs->(∀ a∈l,QR k a)->QR b z->QR (b+l.length*(j+k+1)) (mixQ cs l z)
 | [],_,z,b,_,_,h=>Q8 h om
 | _::_,[],z,b,_,_,h=>Q8 h om
 | x::cs,y::l,z,b,d,e,h=>by simp only[mixQ];have f:QR (b+(j+k)+1) (List.zipWith (λp o=>o+x*p) y z):=Q6q λu n o i=>Yz (h o i) (Xl (d x (.head _)) (e y (.head _) u n));refine Q8 (Qtb (λq m=>d q (.tail _ m)) (λa g=>e a (.tail _ g)) f) ?_;rw[xn,ud];omega
theorem Jbc{m:Nat}:∀ {a z:List Rat},a.length=m->z.length=m->List.zipWith (λx o=>o+0*x) a z=z
 | [],[],_,_=>rfl
 | [],_::_,h,d=>by simp at h d;omega
 | _::_,[],h,d=>by simp at h d;omega
 | x::a,y::z,h,d=>by simp only[xn] at h d;rw[tz,Jbc (m:=m - 1) om om];congr 1;grind
theorem Jbd{α:Type}{l:List (List α)}{m:Nat}:(∀(i:Nat) x,l[i]?=some x->x.length=m)↔∀ a∈l,a.length=m:=by constructor;intro h a d;obtain⟨j,e⟩:=vc d;exact h j a e;intro h i x f;exact h x (Jw f)
theorem Qtc{n:Nat}{c:List Qa}{l:List (List Qa)}{m:Int}:Qli n c l m=Qzf n c l m:=vw (vw rfl)
theorem Jkm(l:List Qa)(i:Nat):rv (l.take i)=(rv l).take i:=by unfold rv;rw[wh]
open Classical in
theorem Q0c{n j k m:Nat}{c:List Qa}{l:List (List Qa)}(hn:big<=n)(A:1<=j)(H:1<=k)(U:j<1048576)(hk:k<1048576)(I:FR j c)(J:∀ a∈l,FR k a)(S:m<=300)(R:l.length<=10000):
 Qzf n c l (m:Int)=some (if c.length=l.length/\∀ a∈l,a.length=m then (toR (mixQ (rv c) (l.map rv) (List.replicate m 0)),true) else ([],false)):=by
 unfold Qzf;simp only[jn_eq];by_cases g1:c.length=l.length;rw[oo (show(c.length:Int)=(l.length:Int) by omega),ov,bifF,oj (show ¬(m:Int)<0 by omega),bifF,oj (show ¬(300:Int)<(m:Int) by omega),bifF];rw[Qag (λ_ (a:List Qa)=>a.length=m) (r:=(([]:List Qa),false))];rw[Jbd];by_cases s:∀ a∈l,a.length=m;rw[oq s,oq ⟨g1,s⟩,Qb6 hn S,sbind];have B:=QR_rv I A;rw[Qbe (λi=>toR (mixQ (rv (c.take i)) ((l.take i).map rv) (List.replicate m 0))) l,Wv,<-g1,xh,g1,xh];intro i a u;have hi:=J8 u;have g:c[i]?=some c[i]:=oi om;have e:Fk j c[i]:=I _ (xa om);have P:=J a (Jw u);have t:=s a (Jw u);generalize c[i]' om=ck at g e;have K:c.take (i+1)=c.take i++[ck]:=by rw[vj,g];rfl
 have L:l.take (i+1)=l.take i++[a]:=by rw[vj,u];rfl
 have M:rv (c.take (i+1))=rv (c.take i)++[fv ck]:=by unfold rv;rw[K,yx];rfl
 have N:(l.take (i+1)).map rv=(l.take i).map rv++[rv a]:=by rw[L,yx];rfl
 have O:(rv (c.take i)).length=((l.take i).map rv).length:=by rw[Jn];simp;omega
 rw[Jd g,sbind,Qdu hn A om e,sbind,bifd,M,N,Q74 O]
 have p:(mixQ (rv (c.take i)) ((l.take i).map rv) (List.replicate m 0)).length=m:=Qgv (λb hb=>by
  obtain⟨d,hd,rfl⟩:=xy.1 hb
  rw[Jn];exact s d (ym hd)) oc
 have G:QR (1+(l.take i).length*(j+k+1)) (mixQ (rv (c.take i)) ((l.take i).map rv) (List.replicate m 0)):=by
  have:=Qtb (j:=j) (k:=k) (b:=1) (cs:=rv (c.take i)) (l:=(l.take i).map rv) (z:=List.replicate m 0) (λq w=>by rw[Jkm] at w;exact B q (ym w)) (λb hb=>by
   obtain⟨d,hd,rfl⟩:=xy.1 hb
   exact QR_rv (J d (ym hd)) H) (λq w=>by rw[(jw.1 w).2,Y8];exact xm _)
  rwa [ot] at this
 have Q:(l.take i).length*(j+k+1)<=10000*2097152:=gi oh om;have f:=Q8 G (show _<=20971520001 by omega);generalize mixQ (rv (c.take i)) ((l.take i).map rv) (List.replicate m 0)=z at p f;by_cases g3:(fv ck).num.sign=0;rw[oq g3];have h0:fv ck=0:=jg.1 (dz.1 g3);rw[h0,Jbc (m:=m) (by rw[Jn,t]) p];rw[ol g3,Q73 (λ(x:Qa) (o:Qa)=>toF (fv o+fv ck*fv x)) a (toR z) (by rw[Jl,t,p]),Wv];refine um (λz=>some (Lp.go z)) ?_;unfold toR rv;rw[List.map_zipWith,tx,List.zipWith_map_left];congr 1;funext x y;rw[Jc];intro V x y s' C T E;have F:Fk 20971520001 y:=K2 f y (Jw T);have v:=P x (Jw C);have hp:qw (fv ck*fv x)<=j+k:=Xl (qw_fv e A) (qw_fv v H);rw[Jd E,sbind,sbind,Xo (k:=j+k) hn om om (Wf e om) (Wf v om),sbind,Vy (k:=20971520001) hn om om F (Jq om),sbind,sbind,yh,Jc];rfl;rw[ol s,ol (λh=>s h.2)];intro i x u;constructor;intro h;rw[oo (show(x.length:Int)=(m:Int) by omega)];rfl;intro h;rw[oj (show ¬(x.length:Int)=(m:Int) by omega)];rfl;rw[oj (show ¬(c.length:Int)=(l.length:Int) by omega),ol (λh=>g1 h.1)];rfl
theorem Q6r(l:List Qa)(i:Nat):(rv l)[i]?=(l[i]?).map fv:=by unfold rv;simp
theorem Qro{n k:Nat}{a b:List Qa}(hn:big<=n)(p:1<=k)(hk:k<1099511627776)(q:FR k a)(hb:FR k b):Qhp n a b=some (decide (rv a=rv b)):=by
 classical
 unfold Qhp;by_cases h:a.length=b.length;rw[oo (show(a.length:Int)=(b.length:Int) by omega),ov,bifF];rw[Qag (λi (x:Qa)=>∀ y,b[i]?=some y->fv x=fv y) (r:=false)];have e:(∀(i:Nat) x,a[i]?=some x->∀ y,b[i]?=some y->fv x=fv y)↔rv a=rv b:=by constructor;intro g;refine List.ext_getElem? λi=>?_;rw[Q6r,Q6r];rcases xt i a.length with hi | hi;have l:a[i]?=some a[i]:=oi hi;have d:b[i]?=some (b[i]' om):=oi om;have:=g i _ l _ d;rw[l,d];exact um some this;rw[xz hi,xz om];intro g i x f y j;have:=um (·[i]?) g;simp only[Q6r,f,j,Option.map_some] at this;exact Option.some.inj this
 by_cases hd:rv a=rv b;rw[oq (e.2 hd),oo hd];rw[ol (λg=>hd (e.1 g)),oj hd];intro i x f;have hi:=J8 f;have d:b[i]?=some (b[i]' om):=oi om;rw[Jd d,sbind,Qgj hn p hk (q x (Jw f)) (hb _ (Jw d)),sbind];constructor;intro g;rw[oo (g _ d)];rfl;intro g;rw[oj (λm=>g λy j=>by rw[d] at j;cases j;exact m)];rfl;rw[oj (show ¬(a.length:Int)=(b.length:Int) by omega),ow,bifT,oj];intro g;apply h;rw[<-Jn a,g,Jn]
theorem Qk0(x m:Int):Qbr x m=some (decide (0<=x/\x<m)):=by unfold Qbr;simp only[jn_eq,bifd];by_cases h:0<=x;rw[oq h];simp[h];rw[ol h];simp[h]
def rdT(i:Q2):List Int:=if i.Op=6\/i.Op=11 then [i.A] else if i.Op=7\/i.Op=8\/i.Op=9\/i.Op=10 then [i.A,i.B] else []
theorem Q4v(i:Q2):Qi1 i=some (rdT i):=by unfold Qi1 rdT;simp only[jn_eq,bifd];by_cases e:i.Op=6;simp[e];by_cases d:i.Op=11;simp[d];by_cases f:i.Op=7;simp[f];by_cases g:i.Op=8;simp[g];by_cases j:i.Op=9;simp[j];by_cases a:i.Op=10;simp[a];simp[e,f,g,j,a,d]
def TW(t:Qp):Prop:=∀ c∈t.Code,Fw c.N
theorem Qii{α:Type}{l:List α}{P:α->Prop}:(∀(i:Nat) x,l[i]?=some x->P x)↔∀ a∈l,P a:=by constructor;intro h a d;obtain⟨j,e⟩:=vc d;exact h j a e;intro h i x f;exact h x (Jw f)
noncomputable def dP(p:Prop):Bool:=@decide p (Classical.propDecidable p)
theorem decP{p:Prop}[Decidable p]:decide p=dP p:=by unfold dP;congr
theorem dP_t{p:Prop}(h:p):dP p=true:=by unfold dP;exact @decide_eq_true p (Classical.propDecidable p) h
theorem dP_f{p:Prop}(h:¬ p):dP p=false:=by unfold dP;exact @decide_eq_false p (Classical.propDecidable p) h
theorem dP_c{p q:Prop}(h:p↔q):dP p=dP q:=by rw[show p=q from propext h]
theorem Qed{p q:Prop}[Decidable p](h:p↔q):some (decide p)=some (dP q):=by rw[decP,dP_c h]
theorem Q1c{p q:Prop}(h:p↔q):some (dP p)=some (dP q):=by rw[dP_c h]
theorem Qks{p q r:Prop}[Decidable p][Decidable q](h:p/\q↔r):(if p then some (decide q) else some false)=some (dP r):=by by_cases hp:p;rw[oq hp];exact Qed ⟨λa=>h.1 ⟨hp,a⟩,λhr=>(h.2 hr).2⟩;rw[ol hp,dP_f λhr=>hp (h.2 hr).1]
theorem Jnc{p q r:Prop}[Decidable p](h:p/\q↔r):(if p then some (dP q) else some false)=some (dP r):=by by_cases hp:p;rw[oq hp];exact Q1c ⟨λa=>h.1 ⟨hp,a⟩,λhr=>(h.2 hr).2⟩;rw[ol hp,dP_f λhr=>hp (h.2 hr).1]
def blankF(f:Qa):Prop:=f.Num.Neg=false/\f.Num.A3=[]/\f.Den=[]
theorem Q4w(f:Qa):Qlh f=some (dP (blankF f)):=by unfold Qlh blankF;obtain⟨⟨s,a⟩,d⟩:=f;simp only[jn_eq];cases s;simp only[ow,bifT,bifd];refine Qks ⟨λh=>⟨trivial,xd om,xd om⟩,λh=>?_⟩;obtain⟨_,rfl,rfl⟩:=h;exact⟨rfl,rfl⟩;simp only[ov,bifF];rw[dP_f λh=>by cases h.1]
theorem bifP{α:Type}(p:Prop)(a b:α):(bif dP p then a else b)=@ite _ p (Classical.propDecidable p) a b:=by by_cases h:p;rw[dP_t h,oq h];rfl;rw[dP_f h,ol h];rfl
theorem bifnP{α:Type}(p:Prop)(a b:α):(bif !dP p then a else b)=@ite _ p (Classical.propDecidable p) b a:=by by_cases h:p;rw[dP_t h,oq h];rfl;rw[dP_f h,ol h];rfl
def mayR(t:Qp)(i:Nat)(x:Q2):Prop:=
 if x.Op=1 then x.A=0/\x.B=0/\x.N=toF (fv x.N) else
 blankF x.N/\(∀ r∈rdT x,0<=r/\r<(i:Int)) /\
 if x.Op=2 then x.A=0/\x.B=0 else if x.Op=3 then (0<=x.A/\x.A<t.Ax)/\x.B=0 else if x.Op=4 then (0<=x.A/\x.A<t.A1)/\x.B=0 else
 if x.Op=6 then x.B=0 else if x.Op=11 then -8<=x.B/\x.B<=8 else (rdT x).length=2
theorem Q87{n:Nat}{t:Qp}{i:Nat}{x:Q2}(hn:big<=n)(s:Fw x.N)(u:t.Code[i]?=some x):Ql9 n t (i:Int)=some (dP (mayR t i x)):=by
 unfold Ql9 mayR;rw[Jd u,sbind,bifd];by_cases e:x.Op=1
 have f:(if x.Op=1 then x.A=0/\x.B=0/\x.N=toF (fv x.N) else blankF x.N/\(∀ r∈rdT x,0<=r/\r<(i:Int)) /\
  if x.Op=2 then x.A=0/\x.B=0 else if x.Op=3 then (0<=x.A/\x.A<t.Ax)/\x.B=0 else if x.Op=4 then (0<=x.A/\x.A<t.A1)/\x.B=0 else
  if x.Op=6 then x.B=0 else if x.Op=11 then -8<=x.B/\x.B<=8 else (rdT x).length=2)=(x.A=0/\x.B=0/\x.N=toF (fv x.N)):=oq e
 simp only[f];rw[oq e];have q:=Qpm hn s;simp only[jn_eq,Qn9,sbind];have m:Qeu (⟨x.Op,x.A,x.B⟩:Vz) ⟨1,0,0⟩=decide (x.A=0/\x.B=0):=by unfold Qeu;simp only[e];by_cases a:x.A=0<;>by_cases b:x.B=0<;>simp[a,b]
 rw[m,q,sbind,bifd];rw[@decP _ (Classical.propDecidable _)];refine Jnc ⟨λh=>⟨h.1.1,h.1.2,h.2⟩,λh=>⟨⟨h.1,h.2.1⟩,h.2.2⟩⟩
 have f:(if x.Op=1 then x.A=0/\x.B=0/\x.N=toF (fv x.N) else blankF x.N/\(∀ r∈rdT x,0<=r/\r<(i:Int)) /\
  if x.Op=2 then x.A=0/\x.B=0 else if x.Op=3 then (0<=x.A/\x.A<t.Ax)/\x.B=0 else if x.Op=4 then (0<=x.A/\x.A<t.A1)/\x.B=0 else
  if x.Op=6 then x.B=0 else if x.Op=11 then -8<=x.B/\x.B<=8 else (rdT x).length=2)=(blankF x.N/\(∀ r∈rdT x,0<=r/\r<(i:Int)) /\
  if x.Op=2 then x.A=0/\x.B=0 else if x.Op=3 then (0<=x.A/\x.A<t.Ax)/\x.B=0 else if x.Op=4 then (0<=x.A/\x.A<t.A1)/\x.B=0 else
  if x.Op=6 then x.B=0 else if x.Op=11 then -8<=x.B/\x.B<=8 else (rdT x).length=2):=ol e
 simp only[f];rw[ol e,Q4w,sbind,bifnP];by_cases hb:blankF x.N;rw[oq hb,Q4v,sbind,Qag (λ_ (r:Int)=>0<=r/\r<(i:Int)) (r:=false)];rw[Qii];by_cases hr:∀ r∈rdT x,0<=r/\r<(i:Int);rw[oq hr];have fin:∀ {o:Option Bool}{p:Prop},o=some (dP p)->o=some (dP (blankF x.N/\(∀ r∈rdT x,0<=r/\r<(i:Int))/\p)):=λh=>h.trans (Q1c ⟨λg=>⟨hb,hr,g⟩,λg=>g.2.2⟩);refine fin ?_;simp only[jn_eq,Qn9,sbind,Qk0,bifd];by_cases k:x.Op=2;simp only[oq k];refine um some ?_;unfold Qeu;simp only[k];rw[<-decP];by_cases a:x.A=0<;>by_cases b:x.B=0<;>simp[a,b];simp only[ol k];by_cases g3:x.Op=3;simp only[oq g3];exact Qks Iff.rfl;simp only[ol g3];by_cases g4:x.Op=4;simp only[oq g4];exact Qks Iff.rfl;simp only[ol g4];by_cases l:x.Op=6;simp only[oq l];exact Qed Iff.rfl;simp only[ol l];by_cases d:x.Op=11;simp only[oq d];exact Qks Iff.rfl;simp only[ol d];exact Qed om;rw[ol hr,dP_f λh=>hr h.2.1];intro j r _;simp only[Qk0,sbind];constructor;intro h;rw[oo h];rfl;intro h;rw[oj h];rfl;rw[ol hb,dP_f λh=>hb h.1]
def wholeR(t:Qp):Prop:=(1<=t.Ax/\t.Ax<=6)/\(0<=t.A1/\t.A1<=6)/\(t.Aw.length:Int)=t.Ax/\t.Code.length<=300
def tapeR(t:Qp):Prop:=wholeR t/\(∀(i:Nat) x,t.Code[i]?=some x->mayR t i x)/\∀ o∈t.Aw,0<=o/\o<(t.Code.length:Int)
theorem Q4x(t:Qp)(h:-9223372036854775808<=t.Ax/\t.Ax<=9223372036854775807):Qlg t=some (dP (wholeR t)):=by
 unfold Qlg wholeR;simp only[jn_eq,Qk0,sbind,bifd];have d:(0<=wrap64 (t.Ax - 1)/\wrap64 (t.Ax - 1)<6)↔(0<=t.Ax - 1/\t.Ax - 1<6):=by unfold wrap64;omega
 by_cases g1:0<=t.Ax - 1/\t.Ax - 1<6;rw[oq (d.2 g1)];by_cases a:0<=t.A1/\t.A1<7;rw[oq a];by_cases g3:(t.Aw.length:Int)=t.Ax;rw[oq g3];exact Qed om;rw[ol g3,dP_f om];rw[ol a,dP_f om];rw[ol (λh=>g1 (d.1 h)),dP_f om]
theorem Jfb{R:Type}{f:Nat->Q2->Unit->Option (Lp Unit R)}{K:Unit->Option R}{xs:List Q2}(P:Nat->Q2->Prop)(r:Nat->R)
 (hb:∀ i x,xs[i]?=some x->(P i x->f i x ()=some (.go ()))/\(¬ P i x->f i x ()=some (.out (r i)))) :
 ((∀(i:Nat) x,xs[i]?=some x->P i x)/\(rangeL f xs 0 ()).bind (lpK K)=K ())\/(¬(∀(i:Nat) x,xs[i]?=some x->P i x)/\∃ j,(rangeL f xs 0 ()).bind (lpK K)=some (r j)):=by
 have key:∀(xs:List Q2) (k:Nat),(∀ i x,xs[i]?=some x->(P (k+i) x->f (k+i) x ()=some (.go ()))/\(¬ P (k+i) x->f (k+i) x ()=some (.out (r (k+i))))) ->
  ((∀(i:Nat) x,xs[i]?=some x->P (k+i) x)/\(rangeL f xs k ()).bind (lpK K)=K ())\/(¬(∀(i:Nat) x,xs[i]?=some x->P (k+i) x)/\∃ j,(rangeL f xs k ()).bind (lpK K)=some (r j)):=by
  intro xs
  induction xs with
  | nil=>intro k _;exact .inl ⟨λi x h=>by simp at h,rfl⟩
  | cons x xs l=>
    intro k hb;have h0:=hb 0 x rfl;simp only[xp] at h0;by_cases hp:P k x;have:=l (k+1) (λi y a=>by have:=hb (i+1) y (by simpa using a);rw[show k+(i+1)=k+1+i by omega] at this;exact this);simp only[rangeL,h0.1 hp,sbind];rcases this with ⟨d,e⟩ | ⟨d,e⟩;refine .inl ⟨λi y a=>?_,e⟩;cases i with
    | zero=>simp at a;subst a;exact hp
    | succ i=>rw[show k+(i+1)=k+1+i by omega];exact d i y (by simpa using a)
    refine .inr ⟨λh=>d λi y a=>?_,e⟩;have:=h (i+1) y (by simpa using a);rwa [show k+(i+1)=k+1+i by omega] at this;refine .inr ⟨λh=>hp (h 0 x rfl),k,?_⟩;simp only[rangeL,h0.2 hp,sbind];rfl
 have:=key xs 0 (λi x g=>by rw[xg];exact hb i x g);simp only[xg] at this;exact this
theorem Quj{n:Nat}{t:Qp}(hn:big<=n)(p:TW t)(hd:-9223372036854775808<=t.Ax/\t.Ax<=9223372036854775807):Qbs n t=some (dP (tapeR t)):=by
 unfold Qbs Qor;rw[Q4x t hd,sbind,bifnP];by_cases e:wholeR t;rw[oq e]
 have key:=Jfb (K:=λ(_:Unit)=>(rangeL (λ(_:Nat) (l:Int) (_:Unit)=>
  (Qbr l (t.Code.length:Int)).bind λk=>
  bif !k then (
   some (Lp.out ((t.Code.length:Int))))
  else (
   some (Lp.go ()))) t.Aw 0 ()).bind (lpK λ(_:Unit)=>
 some (-1:Int))) (f:=λ(a:Nat) (_:Q2) (_:Unit)=>
  (Ql9 n t (a:Int)).bind λg=>
  bif !g then (
   some (Lp.out ((a:Int))))
  else (
   some (Lp.go ()))) (xs:=t.Code) (λi x=>mayR t i x) (λi=>(i:Int)) (λi x m=>by
  rw[Q87 hn (p x (Jw m)) m,sbind];constructor;intro h;rw[dP_t h];rfl
  intro h;rw[dP_f h];rfl)
 rcases key with ⟨k1,k2⟩ | ⟨k1,j,k2⟩;rw[k2,Qag (λ_ (o:Int)=>0<=o/\o<(t.Code.length:Int)) (r:=(t.Code.length:Int))];rw[Qii];by_cases d:∀ o∈t.Aw,0<=o/\o<(t.Code.length:Int);rw[oq d,sbind];exact Qed ⟨λ_=>⟨e,k1,d⟩,λ_=>rfl⟩;rw[ol d,sbind];exact Qed ⟨λh=>om,λh=>absurd h.2.2 d⟩;intro i o _;simp only[Qk0,sbind];constructor;intro h;rw[oo h];rfl;intro h;rw[oj h];rfl;rw[k2,sbind];exact Qed ⟨λh=>om,λh=>absurd h.2.1 k1⟩;rw[ol e,sbind];exact Qed ⟨λh=>om,λh=>absurd h.1 e⟩
theorem Kz(f:Qe):Qx f f=true:=by simp[Qx]
theorem K9{k a b c:Int}(h:k≠0):Qx ⟨k,a,b,c⟩ ⟨0,0,0,0⟩=false:=by unfold Qx;rw[show(k == 0)=false by simpa using h];rfl
def noteG(g:Qj)(q:Rat):Qj:=⟨⟨wrap64 (g.Count.Seen+1),max g.Count.Peak (qz q:Int)⟩,g.limit⟩
theorem Qog{n:Nat}{g:Qj}{q:Rat}(hn:big<=n)(a:qw q<1099511627776):Wb n g (toF q)=some (decide ((qz q:Int)<=g.limit),noteG g q):=by unfold Wb Qff;rw[Quh hn a,sbind,sbind];rfl
def fitQ(lim:Int):List Rat->Nat->Option Nat
 | [],_=>none
 | q::l,i=>if (qz q:Int)<=lim then fitQ lim l (i+1) else some i
theorem Qtd{n:Nat}{g:Qj}{l:List Rat}(hn:big<=n)(e:QR 1099511627775 l):
 ∃ a,a.limit=g.limit/\Xq n g (toR l)=some (match fitQ g.limit l 0 with | none=>((l.length:Int),true,a) | some i=>((i:Int),false,a)):=by
 unfold Xq
 have key:∀(l:List Rat) (i:Nat) (g:Qj) (K:Qj->Option (Int×Bool×Qj)),QR 1099511627775 l->∃ a,a.limit=g.limit /\
  (rangeL (λ(k:Nat) (r:Qa) (m:Qj)=>
   (Wb n m r).bind λd=>
   bif !d.1 then (some (Lp.out (((k:Int),false,d.2)))) else (some (Lp.go d.2))) (toR l) i g).bind (lpK K)=match fitQ g.limit l i with | none=>K a | some i=>some ((i:Int),false,a):=by
  intro l
  induction l with
  | nil=>intro i g K _;exact⟨g,rfl,rfl⟩
  | cons q l t=>
    intro i g K e;simp only[toR,yz,rangeL,fitQ];rw[Qog hn (by have:=e q (.head _);omega),sbind];simp only[];by_cases h:(qz q:Int)<=g.limit;rw[oo h,oq h,ov,bifF,sbind];obtain⟨a,f,j⟩:=t (i+1) (noteG g q) K λx s=>e x (.tail _ s);exact⟨a,f,j⟩;rw[oj h,ol h,ow,bifT,sbind];exact⟨noteG g q,rfl,rfl⟩
 obtain⟨a,f,j⟩:=key l 0 g (λp=>some (((toR l).length:Int),true,p)) e;refine⟨a,f,?_⟩;rw[j,Jl];cases fitQ g.limit l 0<;>rfl
def opQ(x:Q2)(T:Rat)(Y P done:List Rat):Option Rat:=
 if x.Op=6 then some (-done.getD x.A.toNat 0) else
 if x.Op=11 then (if x.B < -8\/8<x.B\/(x.B<0/\done.getD x.A.toNat 0=0) then none else some (done.getD x.A.toNat 0 ^ x.B)) else
 if x.Op=7 then some (done.getD x.A.toNat 0+done.getD x.B.toNat 0) else
 if x.Op=8 then some (done.getD x.A.toNat 0 - done.getD x.B.toNat 0) else
 if x.Op=9 then some (done.getD x.A.toNat 0*done.getD x.B.toNat 0) else
 if x.Op=10 then (if done.getD x.B.toNat 0=0 then none else some (done.getD x.A.toNat 0 / done.getD x.B.toNat 0)) else
 if x.Op=1 then some (fv x.N) else
 if x.Op=3 then some (Y.getD x.A.toNat 0) else
 if x.Op=4 then some (P.getD x.A.toNat 0) else some T
def runQ(lim:Int)(T:Rat)(Y P:List Rat):List Q2->Nat->List Rat->(Int×Nat) ⊕ List Rat
 | [],_,done=>.inr done
 | x::c,i,done=>match opQ x T Y P done with
   | none=>.inl (3,i)
   | some q=>if (qz q:Int)<=lim then runQ lim T Y P c (i+1) (done++[q]) else .inl (6,i)
theorem Qij{l:List Rat}{r:Int}(a:0<=r)(d:r<(l.length:Int)):getI (toR l) r=some (toF (l.getD r.toNat 0)):=by
 obtain⟨k,rfl⟩:∃ k:Nat,r=(k:Int):=⟨r.toNat,om⟩
 have hk:k<l.length:=om
 rw[Qgf,yh];unfold toR;rw[xr,oi hk,ou,oi hk];rfl
theorem Vt{k:Nat}{l:List Rat}{i:Nat}(h:QR k l)(a:1<=k):qw (l.getD i 0)<=k:=by rw[ou];rcases xt i l.length with hi | hi;rw[oi hi];exact h _ (xa hi);rw[xz hi];show qw 0<=k;rw[Y8];exact a
theorem rdT_A{x:Q2}(h:x.Op=6\/x.Op=11\/x.Op=7\/x.Op=8\/x.Op=9\/x.Op=10):x.A∈rdT x:=by unfold rdT;by_cases a:x.Op=6\/x.Op=11;rw[oq a];simp;rw[ol a,oq om];simp
theorem rdT_B{x:Q2}(h:x.Op=7\/x.Op=8\/x.Op=9\/x.Op=10):x.B∈rdT x:=by unfold rdT;rw[ol om,oq om];simp
theorem Qmf{t:Qp}{i:Nat}{x:Q2}(h:mayR t i x):∀ r∈rdT x,0<=r/\r<(i:Int):=by unfold mayR at h;by_cases a:x.Op=1;intro r hr;unfold rdT at hr;rw[ol om,ol om] at hr;cases hr;rw[ol a] at h;exact h.2.1
theorem Qwr{t:Qp}{i:Nat}{x:Q2}(h:mayR t i x)(a:x.Op=3):0<=x.A/\x.A<t.Ax:=by unfold mayR at h;rw[ol om,ol om,oq a] at h;exact h.2.2.1
theorem Qws{t:Qp}{i:Nat}{x:Q2}(h:mayR t i x)(a:x.Op=4):0<=x.A/\x.A<t.A1:=by unfold mayR at h;rw[ol om,ol om,ol om,oq a] at h;exact h.2.2.1
theorem Jfc{n k:Nat}{g:Qj}{t:Qp}{x:Q2}{T:Rat}{Y P done:List Rat}(hn:big<=n)(e:1<=k)(hk:k<1048576)(m:mayR t done.length x)(u:Fk k x.N)
 (G:qw T<=k) (F:QR k Y) (E:QR k P) (s:QR k done) (I:(Y.length:Int)=t.Ax) (hp:(P.length:Int)=t.A1) :
 ∃ v,Vn n g x ⟨toF T,toR Y,toR P⟩ (toR done)=some (match opQ x T Y P done with | none=>(v,false) | some q=>(toF q,true))/\∀ q,opQ x T Y P done=some q->qw q<=8*k+1:=by
 unfold Vn opQ;have l:=Qmf m;have dA:x.Op=6\/x.Op=11\/x.Op=7\/x.Op=8\/x.Op=9\/x.Op=10->getI (toR done) x.A=some (toF (done.getD x.A.toNat 0)):=λh=>Qij (l _ (rdT_A h)).1 (l _ (rdT_A h)).2;have dB:x.Op=7\/x.Op=8\/x.Op=9\/x.Op=10->getI (toR done) x.B=some (toF (done.getD x.B.toNat 0)):=λh=>Qij (l _ (rdT_B h)).1 (l _ (rdT_B h)).2;have qA:qw (done.getD x.A.toNat 0)<=k:=Vt s e;have qB:qw (done.getD x.B.toNat 0)<=k:=Vt s e;generalize done.getD x.A.toNat 0=a at dA qA |-;generalize done.getD x.B.toNat 0=b at dB qB |-;have fA:Fk k (toF a):=Jq qA;have fB:Fk k (toF b):=Jq qB;simp only[bifd];by_cases y:x.Op=6
 . simp only[oq y]
   unfold Qio;rw[dA om,sbind,Qg7 hn (Fk_Fw fA om),sbind,sbind,Jc];exact⟨toF 0,rfl,λq d=>by cases d;rw[Qjk];omega⟩
 simp only[ol y];by_cases j:x.Op=11
 . simp only[oq j]
   unfold Qip;rw[dA om,sbind,Qnv hn e om fA,sbind,Jc];refine⟨toF 0,?_,λq d=>?_⟩
   . split<;>rfl
   . split at d
     . cases d
     . rename_i H
       cases d;exact Qwq qA om
 simp only[ol j];by_cases A:x.Op=7
 . simp only[oq A]
   unfold Qiq;rw[dA om,sbind,dB om,sbind,Vy hn e om fA fB,sbind,sbind,Jc,Jc];exact⟨toF 0,rfl,λq d=>by cases d;have:=Yz qA qB;omega⟩
 simp only[ol A];by_cases B:x.Op=8
 . simp only[oq B]
   unfold Qir;rw[dA om,sbind,dB om,sbind,Qnu hn e om fA fB,sbind,sbind,Jc,Jc];exact⟨toF 0,rfl,λq d=>by cases d;have:=Q0a qA qB;omega⟩
 simp only[ol B];by_cases C:x.Op=9
 . simp only[oq C]
   unfold Qis;rw[dA om,sbind,dB om,sbind,Xo hn e om fA fB,sbind,sbind,Jc,Jc];exact⟨toF 0,rfl,λq d=>by cases d;have:=Xl qA qB;omega⟩
 simp only[ol C];by_cases f:x.Op=10
 . simp only[oq f]
   unfold Qit;rw[dA om,sbind,dB om,sbind,Qg9 hn e om fA fB,sbind,Jc,Jc];refine⟨toF 0,?_,λq d=>?_⟩
   . split<;>rfl
   . split at d
     . cases d
     . cases d
       have:=Qpn qA qB;omega
 simp only[ol f];unfold Xz;simp only[bifd];by_cases w:x.Op=1
 . simp only[oq w]
   unfold Qjw;rw[Vs hn (Fk_Fw u om),sbind,sbind,sbind];exact⟨toF 0,rfl,λq d=>by cases d;have:=qw_fv u e;omega⟩
 simp only[ol w];by_cases p:x.Op=3
 . simp only[oq p]
   obtain⟨a1,a2⟩:=Qwr m p;rw[Qij a1 om,sbind,sbind];exact⟨toF 0,rfl,λq d=>by cases d;have:=Vt (i:=x.A.toNat) F e;omega⟩
 simp only[ol p];by_cases r:x.Op=4
 . simp only[oq r]
   obtain⟨a1,a2⟩:=Qws m r;rw[Qij a1 om,sbind,sbind];exact⟨toF 0,rfl,λq d=>by cases d;have:=Vt (i:=x.A.toNat) E e;omega⟩
 simp only[ol r];exact⟨toF 0,rfl,λq d=>by cases d;omega⟩
theorem Q2y(l:List Rat)(q:Rat):toR l++[toF q]=toR (l++[q]):=by unfold toR;simp
theorem Jbe{n k:Nat}{g:Qj}{t:Qp}{T:Rat}{Y P:List Rat}(hn:big<=n)(h1:129<=k)(hk:k<1048576)(V:tapeR t)(O:Qbs n t=some true)(w:∀ c∈t.Code,Fk k c.N)
 (Q:qw T<=k) (R:QR k Y) (N:QR k P) (p:(Y.length:Int)=t.Ax) (hp:(P.length:Int)=t.A1) (B:g.limit<=4096) :
 ∃ f,Wz n g t ⟨toF T,toR Y,toR P⟩=some (match runQ g.limit T Y P t.Code 0 [] with | .inl e=>([],⟨e.1,0,0,(e.2:Int)⟩,f) | .inr l=>(toR l,⟨0,0,0,0⟩,f)):=by
 unfold Wz;simp only[jn_eq,O,sbind,ov,bifF];rw[Jl,Jl,oo p,oo hp,ov,bifF,bifF]
 have key:∀(c:List Q2) (done:List Rat) (g:Qj) (K:Qj×List Qa->Option (List Qa×Qe×Qj)),(∀(j:Nat) x,c[j]?=some x->mayR t (done.length+j) x)->(∀ x∈c,Fk k x.N)->QR k done->g.limit<=4096->done.length+c.length<=300 ->
  ∃ f,(rangeL (λ(s:Nat) (F:Q2) (d:Qj×(List Qa))=>
    (Vn n d.1 F ⟨toF T,toR Y,toR P⟩ d.2).bind λi=>
    bif !i.2 then (
     some (Lp.out ((([]:List Qa),(⟨(3:Int),0,0,(s:Int)⟩:Qe),d.1))))
    else (
     (Qe9 n d.1 i.1).bind λm=>
     bif !m.1 then (
      some (Lp.out ((([]:List Qa),(⟨(6:Int),0,0,(s:Int)⟩:Qe),m.2))))
     else (
      (appM 56 d.2 ([i.1]:List Qa)).bind λG=>
      some (Lp.go (m.2,G))))) c done.length (g,toR done)).bind (lpK K)=match runQ g.limit T Y P c done.length done with | .inl e=>some ([],⟨e.1,0,0,(e.2:Int)⟩,f) | .inr l=>K (f,toR l):=by
  intro c
  induction c with
  | nil=>intro done g K _ _ _ _ _;exact⟨g,rfl⟩
  | cons x c X=>
    intro done g K I w H B C;simp only[rangeL,runQ];obtain⟨v,L,M⟩:=Jfc (g:=g) hn om hk (by have:=I 0 x rfl;rwa [xp] at this) (w x (.head _)) Q R N H p hp;rw[L,sbind];cases S:opQ x T Y P done with
    | none=>exact⟨g,rfl⟩
    | some q=>
      have U:=M q S;simp only[ov,bifF];unfold Qe9;rw[Qog hn om,sbind,sbind];simp only[];by_cases A:(qz q:Int)<=g.limit
      . rw[oo A,oq A,ov,bifF,J9 (by rw[Jl];simp at C |-;omega) (by rw[Jl];simp at C |-;omega),sbind,sbind]
        simp only[];have E:qw q<=k:=by have:=qw_qz (q:=q) (b:=4096) om;omega
        have a:(done++[q]).length=done.length+1:=oc
        obtain⟨f,h⟩:=X (done++[q]) (noteG g q) K (λj y p=>by
         rw[a,show done.length+1+j=done.length+(j+1) by omega];exact I (j+1) y (by simpa using p)) (λy p=>w y (.tail _ p)) (λz r=>by
         rcases yr.1 r with r | r
         . exact H z r
         . rw[xj.1 r];exact E) B (by rw[a];simp at C;omega)
        refine⟨f,?_⟩;rw[a] at h;rw[Q2y];exact h
      . rw[oj A,ol A,ow,bifT,sbind]
        exact⟨noteG g q,rfl⟩
 obtain⟨⟨d1,d2,d3,J⟩,Z,m2⟩:=V;obtain⟨f,h⟩:=key t.Code [] g (λu=>some (u.2,(⟨0,0,0,0⟩:Qe),u.1)) (λj x W=>by rw[show([]:List Rat).length+j=j by simp];exact Z j x W) w (λ_ h=>by cases h) B (by simpa using J);refine⟨f,?_⟩;rw[show(([]:List Rat).length)=0 from rfl,show toR []=[] from rfl] at h;rw[h];cases runQ g.limit T Y P t.Code 0 []<;>rfl
def digB(c:Nat):Bool:=decide (48<=c/\c<=57)
def letB(c:Nat):Bool:=decide (97<=c/\c<=122\/65<=c/\c<=90\/c=95)
def sgnL:List UInt8:=[43,45,42,47,94,40,41,91,93,44,59,61]
def sgnB(c:Nat):Bool:=sgnL.any (λx=>x.toNat=c)
def kindC(c:Nat):Int:=if digB c then 1 else if letB c then 2 else if sgnB c then 3 else 0
def goC(k:Int)(c:Nat):Bool:=(decide (k=1) && digB c) || (decide (k=2) && (letB c || digB c))
def mostC(k:Int):Nat:=if k=1 then 60 else if k=2 then 12 else 1
def wdB(k:Int):List UInt8->Bool
 | []=>false
 | c::r=>decide (k≠0) && (decide (kindC c.toNat=k) && (r.all (λb=>goC k b.toNat) && decide (r.length+1<=mostC k)))
theorem Qwt(c:Nat):Qf9 c=some (digB c):=by unfold Qf9 digB;simp only[jn_eq,bifd];grind
theorem Quk(c:Nat):Qgl c=some (letB c):=by unfold Qgl letB;simp only[jn_eq,bifd];grind
theorem Jfd{s:List UInt8}{p:Nat}{c:UInt8}(h:s[p]?=some c)(d:c.toNat<128):decR s p=c.toNat/\decW s p=1:=by
 have a:((⟨s.toArray⟩:ByteArray).get! (p+0)).toNat=c.toNat:=by
  have hp:=J8 h;have:((⟨s.toArray⟩:ByteArray).get! (p+0))=c:=by show s.toArray[p+0]! = c;simp[h]
  rw[this]
 unfold decR decW Utf8.decode;simp only[a];rw[oq d];exact⟨rfl,rfl⟩
theorem Q88{n c:Nat}(hn:big<=n):Qot n c=some (sgnB c):=by
 unfold Qot;unfold big at hn;have e:sgnB c=runG (τ:=Bool) (λ_ (x:UInt8) (_:Unit)=>if x.toNat=c then .inr true else .inl ()) (λ_=>false) sgnL 0 ():=by
  unfold sgnB;have:∀(l:List UInt8) (i:Nat),l.any (λx=>decide (x.toNat=c))=runG (τ:=Bool) (λ_ (x:UInt8) (_:Unit)=>if x.toNat=c then .inr true else .inl ()) (λ_=>false) l i ():=by
   intro l
   induction l with
   | nil=>intro i;rfl
   | cons x l p=>
     intro i;simp only[List.any_cons,runG];by_cases h:x.toNat=c;simp[h];simp only[oj h,ol h,Bool.false_or];exact p (i+1)
  exact this _ 0
 rw[e];refine Q2u (λ_ i=>i) (λ_ (x:UInt8) (_:Unit)=>if x.toNat=c then .inr true else .inl ()) (λ_=>()) _ (λ_ _=>True) sgnL () (λi x b j _=>⟨?_,λ_ _=>trivial⟩) (λb _=>by simp[bifd,sgnL]) (λb _=>rfl) trivial (by simp[sgnL];omega);have hi:=J8 j;have g:x.toNat<128:=by
  have:∀ y∈sgnL,y.toNat<128:=oz
  exact this x (Jw j)
 obtain⟨k,m⟩:=Jfd j g;have a:decR [43,45,42,47,94,40,41,91,93,44,59,61] i=x.toNat:=k;have d:decW [43,45,42,47,94,40,41,91,93,44,59,61] i=1:=m;have f:i<([43,45,42,47,94,40,41,91,93,44,59,61]:List UInt8).length:=hi;simp only[bifd,oq f,sbind,a,d];rw[show Int.toNat ((x.toNat:Int)%256)=x.toNat by omega];by_cases h:x.toNat=c;rw[oq h,oq h];rfl;rw[ol h,ol h];rfl
theorem Q89{n c:Nat}(hn:big<=n):Qou n c=some (kindC c):=by
 unfold Qou kindC;rw[Qwt,sbind];cases digB c with
 | true=>rfl
 | false=>
   rw[bifF,Quk,sbind];cases letB c with
   | true=>rfl
   | false=>rw[bifF,Q88 hn,sbind];cases sgnB c<;>rfl
theorem Q9a(k:Int)(c:Nat):Qov k c=some (goC k c):=by unfold Qov goC;simp only[jn_eq,Qwt,Quk,sbind,bifd];by_cases a:k=1;subst a;cases digB c<;>simp;by_cases d:k=2;subst d;cases letB c<;>cases digB c<;>simp;simp[a,d]
theorem Q9b(k:Int):Qow k=some (mostC k:Int):=by unfold Qow mostC;simp only[bifd];grind
def firstL(k:Int)(s:List UInt8):Nat:=1+((s.drop 1).takeWhile (λc=>goC k c.toNat)).length
theorem Qyr{α:Type}{p:α->Bool}:∀ {l:List α}{i:Nat},i<(l.takeWhile p).length->∃ x,l[i]?=some x/\p x=true
 | [],i,h=>by simp at h
 | y::l,0,h=>by
   cases a:p y with
   | true=>exact⟨y,rfl,a⟩
   | false=>rw[vh,a] at h;simp at h
 | y::l,i+1,h=>by
   rw[vh] at h;cases a:p y with
   | true=>rw[a] at h;simp only[ya,xn] at h;exact Qyr (l:=l) (i:=i) om
   | false=>rw[a] at h;simp at h
theorem Qrp{α:Type}{p:α->Bool}:∀ {l:List α}{x:α},l[(l.takeWhile p).length]?=some x->p x=false
 | [],x,h=>by simp at h
 | y::l,x,h=>by
   rw[vh] at h;cases a:p y with
   | true=>rw[a] at h;simp only[ya,xn,du] at h;exact Qrp h
   | false=>rw[a] at h;simp at h;rw[<-h];exact a
theorem Qte{α:Type}(p:α->Bool)(l:List α):(l.takeWhile p).length<=l.length:=(List.takeWhile_sublist p).length_le
theorem Q6s{n:Nat}{s:List UInt8}{k:Int}(hn:big<=n)(hs:s.length<=4611686018427387904):Qm3 n s k=some (firstL k s:Int):=by
 unfold Qm3;unfold big at hn;generalize hp:(λc:UInt8=>goC k c.toNat)=p;have a:∀ c:UInt8,goC k c.toNat=p c:=λc=>by rw[<-hp]
 have l:((s.drop 1).takeWhile p).length<=s.length:=xo (Qte _ _) oc;have m:firstL k s=1+((s.drop 1).takeWhile p).length:=by unfold firstL;rw[hp]
 rw[m];refine Qb0 (λs':Int=>s.length+2 - s'.toNat) (λs'=>∃ j:Nat,s'=((1+j:Nat):Int)/\j<=((s.drop 1).takeWhile p).length) (λt=>t=((1+((s.drop 1).takeWhile p).length:Nat):Int)) ⟨0,rfl,yb _⟩ oh (λs' hI=>?_) (λt q=>by rw[q]);obtain⟨j,rfl,r⟩:=hI;simp only[jn_eq,bifd];by_cases i:1+j<s.length;rw[oq om,Jim i,sbind,Q9a,sbind];have g:(s.drop 1)[j]?=some s[1+j]:=by rw[vk,oi i]
 by_cases e:j<((s.drop 1).takeWhile p).length;obtain⟨x,f,d⟩:=Qyr e;rw[g] at f;cases f;left;refine⟨((1+(j+1):Nat):Int),?_,⟨j+1,rfl,om⟩,om⟩;have:goC k (s[1+j]).toNat=true:=by rw[a];exact d
 rw[this,bifT,w1 om];rfl;right;obtain rfl:j=((s.drop 1).takeWhile p).length:=om
 have d:=Qrp g;refine⟨_,?_,rfl⟩;have:goC k (s[1+((s.drop 1).takeWhile p).length]).toNat=false:=by rw[a];exact d
 rw[this,bifF];right;rw[ol om];refine⟨_,rfl,?_⟩;have:((s.drop 1).takeWhile p).length<=(s.drop 1).length:=Qte _ _;rw[uz] at this;have:j=((s.drop 1).takeWhile p).length:=om
 rw[this]
theorem Qnw{α:Type}{p:α->Bool}:∀ {l:List α},(l.takeWhile p).length=l.length↔l.all p=true
 | []=>oc
 | x::l=>by
   rw[vh];cases a:p x with
   | true=>simp[a,Qnw]
   | false=>simp[a]
theorem Q6t{n:Nat}{w:Ql7}(hn:big<=n)(hs:w.A5.length<=4611686018427387904):Qkp n w=some (wdB w.Au w.A5):=by
 unfold Qkp;simp only[jn_eq,Q6s hn hs,sbind,Q9b,bifd];cases e:w.A5 with
 | nil=>rfl
 | cons c r=>
   rw[ol oc];by_cases h0:w.Au=0;rw[oq h0,bifT];simp[wdB,h0];rw[ol h0,show getS (c::r) (0:Int)=some c.toNat by rfl,sbind,Q89 hn,sbind];by_cases hk:kindC c.toNat=w.Au;simp only[oo hk,ov,bifF];have d:(firstL w.Au (c::r):Int)=((c::r).length:Int)↔r.all (λb=>goC w.Au b.toNat)=true:=by rw[<-Qnw];unfold firstL;simp only[dv,dy,xn];omega
   by_cases a:r.all (λb=>goC w.Au b.toNat)=true;rw[oq (d.2 a)];simp only[wdB,a,hk];simp;congr 1;rw[Bool.eq_iff_iff];simp;omega;rw[ol (λh=>a (d.1 h))];have:r.all (λb=>goC w.Au b.toNat)=false:=by simpa using a
   simp only[wdB,this,Bool.false_and,Bool.and_false];simp only[oj hk,ow,bifT];simp[wdB,hk]
theorem Qsd{lim T Y P}(a:lim<=4096):∀ {c:List Q2}{i:Nat}{done l:List Rat},QR 129 done->runQ lim T Y P c i done=.inr l->l.length=done.length+c.length/\QR 129 l
 | [],i,done,l,hd,h=>by simp only[runQ] at h;cases h;exact⟨rfl,hd⟩
 | x::c,i,done,l,hd,h=>by
   simp only[runQ] at h;cases f:opQ x T Y P done with
   | none=>rw[f] at h;cases h
   | some q=>
     rw[f] at h;simp only[] at h;by_cases e:(qz q:Int)<=lim
     . rw[oq e] at h
       obtain⟨g,j⟩:=Qsd a (λz d=>by
        rcases yr.1 d with d | d
        . exact hd z d
        . rw[xj.1 d]
          have:=qw_qz (q:=q) (b:=4096) om;omega) h
       exact⟨by rw[g];simp;omega,j⟩
     . rw[ol e] at h;cases h
theorem Ql2{lim T Y P}:∀ {c:List Q2}{i:Nat}{done:List Rat}{e},runQ lim T Y P c i done=.inl e->e.1=3\/e.1=6
 | [],i,done,e,h=>by simp only[runQ] at h;cases h
 | x::c,i,done,e,h=>by
   simp only[runQ] at h;cases d:opQ x T Y P done with
   | none=>rw[d] at h;cases h;exact .inl rfl
   | some q=>
     rw[d] at h;simp only[] at h;by_cases a:(qz q:Int)<=lim
     . rw[oq a] at h;exact Ql2 h
     . rw[ol a] at h;cases h;exact .inr rfl
def fieldQ(t:Qp)(lim:Int)(T:Rat)(Y P:List Rat):(Int×Nat) ⊕ List Rat:=
 match runQ lim T Y P t.Code 0 [] with
 | .inl e=>.inl e
 | .inr l=>.inr (t.Aw.map λo=>l.getD o.toNat 0)
structure Q0d(n k:Nat)(t:Qp):Prop where
 r:tapeR t
 h:Qbs n t=some true
 w:∀ c∈t.Code,Fk k c.N
theorem Q6u{n k:Nat}{t:Qp}{p:V5}{bits:Int}(hn:big<=n)(j:129<=k)(hk:k<1048576)(u:Q0d n k t)(d:Fk k p.T)(f:FR k p.Y)(a:FR k p.P)(v:(p.Y.length:Int)=t.Ax)(hp:(p.P.length:Int)=t.A1):
 Qm4 n t p bits=some (match fieldQ t (min (max bits 0) 4096) (fv p.T) (rv p.Y) (rv p.P) with | .inl e=>([],⟨e.1,0,0,(e.2:Int)⟩) | .inr l=>(toR l,⟨0,0,0,0⟩)):=by
 obtain⟨r,h,w⟩:=u;have hd:=r.1;obtain⟨⟨A,B⟩,⟨C,E⟩,F,G⟩:=hd;have eT:=qw_fv d om;have eY:=QR_rv f om;have eP:=QR_rv a om;unfold Qm4 Qjx Qga X5;rw[Vs hn (Fk_Fw d om),sbind,Qct hn om f om,sbind,Qct hn om a om,sbind,sbind,sbind];simp only[];obtain⟨H,e⟩:=Jbe (g:=⟨⟨0,0⟩,min (max bits 0) 4096⟩) hn j hk r h w eT eY eP (by rw[Jn];exact v) (by rw[Jn];exact hp) (by simp only[];omega);rw[e,sbind];unfold fieldQ;simp only[];cases hr:runQ (min (max bits 0) 4096) (fv p.T) (rv p.Y) (rv p.P) t.Code 0 [] with
 | inl q=>
   have hk:=Ql2 hr;simp only[];rw[sbind];simp only[];rw[K9 om,ow,bifT]
 | inr l=>
   obtain⟨x,y⟩:=Qsd om (λ_ h=>by cases h) hr;have I:l.length=t.Code.length:=by simpa using x
   simp only[];rw[sbind];simp only[];rw[Kz,ov,bifF];unfold Qrx;simp only[jn_eq,h,sbind,ov,bifF];rw[Jl,oo (show(l.length:Int)=(t.Code.length:Int) by omega),ov,bifF,Q6p (g:=λo:Int=>l.getD o.toNat 0) hn om λi o s m=>?_,sbind];have hb:=r.2.2 o (Jw m);rw[Qij hb.1 om,sbind,Vs hn (Fk_Fw (Jq (Vt y om)) om),sbind,Jc]
theorem Q0e{t:Qp}{lim T Y P l}(a:lim<=4096)(h:fieldQ t lim T Y P=.inr l):l.length=t.Aw.length/\QR 129 l:=by
 unfold fieldQ at h;cases hr:runQ lim T Y P t.Code 0 [] with
 | inl q=>rw[hr] at h;cases h
 | inr l'=>
   rw[hr] at h;cases h;obtain⟨f,e⟩:=Qsd a (λ_ h=>by cases h) hr;refine⟨oc,λq d=>?_⟩;obtain⟨o,_,rfl⟩:=xy.1 d;exact Vt e om
theorem Qvr{t:Qp}{lim T Y P e}(h:fieldQ t lim T Y P=.inl e):e.1=3\/e.1=6:=by
 unfold fieldQ at h;cases hr:runQ lim T Y P t.Code 0 [] with
 | inl q=>rw[hr] at h;cases h;exact Ql2 hr
 | inr l'=>rw[hr] at h;cases h
def sumQ(l:List Rat):Rat:=l.foldl (λo x=>o+x) 0
theorem Qse{k:Nat}:∀ {l:List Rat}{b:Nat}{z:Rat},QR k l->qw z<=b->qw (l.foldl (λo x=>o+x) z)<=b+l.length*(k+1)
 | [],b,z,_,h=>by simpa using h
 | x::l,b,z,a,h=>by rw[db];have:=Qse (l:=l) (λq d=>a q (.tail _ d)) (Yz h (a x (.head _)));rw[xn,ud];omega
theorem Qul{n k:Nat}{a:List Qa}(hn:big<=n)(j:1<=k)(hk:k<1048576)(e:FR k a)(q:a.length<=1000):Qe8 n a=some (toF (sumQ (rv a))):=by
 unfold Qe8;rw[X4 hn,sbind,Qbe (λi=>toF ((rv (a.take i)).foldl (λo x=>o+x) 0)) a,Wv,xh];rfl;intro i x d;have hi:=J8 d;have f:a.take (i+1)=a.take i++[x]:=by rw[vj,d];rfl
 have g:rv (a.take (i+1))=rv (a.take i)++[fv x]:=by unfold rv;rw[f,yx];rfl
 have hb:=Qse (l:=rv (a.take i)) (b:=1) (z:=0) (QR_rv (λy m=>e y (ym m)) j) (by rw[Y8];exact xm _);have p:(rv (a.take i)).length*(k+1)<=1000*1048576:=gi (by rw[Jn];simp;omega) om;rw[Vy (k:=2000000000) hn om om (Jq om) (Wf (e x (Jw d)) om),sbind,g,jj,Jc];rfl;rfl
def numR(x:Qa):Prop:=x=toF (fv x)/\qz (fv x)<=190
theorem Jkn{n k:Nat}{x:Qa}(hn:big<=n)(hk:k<1048576)(a:Fk k x):
 ((Z3 n x).bind λd=>bif !d then some true else (Qa1 n x).bind λf=>some (decide ((190:Int)<f)))=some (!dP (numR x)):=by
 rw[Qpm hn (Fk_Fw a om),sbind,@decP _ (Classical.propDecidable _),bifnP];unfold numR;by_cases h:x=toF (fv x)
 . have j:qw (fv x)<1099511627776:=by
    rcases wo k with h0 | h0
    . subst h0
      have:=qw_fv (Wf a (show 0<=1 by omega)) (xm 1);omega
    . have:=qw_fv a h0;omega
   have e:Qa1 n x=some (qz (fv x):Int):=by
    conv=>lhs;rw[h]
    exact Quh hn j
   rw[oq h,e,sbind];by_cases i:qz (fv x)<=190
   . rw[dP_t ⟨h,i⟩,oj om];rfl
   . rw[dP_f λg=>i g.2,oo om];rfl
 . rw[ol h,dP_f λg=>h g.1];rfl
theorem Qp1{n k:Nat}{l:List (List Qa)}(hn:big<=n)(hk:k<1048576)(q:∀ r∈l,FR k r):Qev n l=some (dP (∀ r∈l,∀ x∈r,numR x)):=by
 unfold Qev;rw[Qag (λ_ (r:List Qa)=>∀ x∈r,numR x) (r:=false)];rw[Qii];by_cases h:∀ r∈l,∀ x∈r,numR x;rw[oq h,dP_t h];rw[ol h,dP_f h];intro i r hr
 have key:(rangeL (λ(_:Nat) (m:Qa) (_:Unit)=>
  jn (λ(a:(Bool)->Option _)=>
   (Z3 n m).bind λd=>
   bif !d then (
    a true)
   else (
    (Qa1 n m).bind λf=>
    a (decide ((190:Int)<f)))) (λ(g:Bool)=>
   bif g then (
    some (Lp.out (Lp.out (false))))
   else (
    some (Lp.go ())))) r 0 ()).bind (lpK λ(_:Unit)=>some (Lp.go ()))=@ite _ (∀ x∈r,numR x) (Classical.propDecidable _) (some (Lp.go ())) (some (Lp.out (σ:=Unit) (τ:=Bool) false)):=by
  rw[Qag (λ_ (x:Qa)=>numR x) (r:=Lp.out false),Qii];intro j x s;have e:=Jkn hn hk (q r (Jw hr) x (Jw s))
  have p:(jn (λ(a:(Bool)->Option (Lp Unit (Lp Unit Bool)))=>
   (Z3 n x).bind λd=>
   bif !d then (
    a true)
   else (
    (Qa1 n x).bind λf=>
    a (decide ((190:Int)<f)))) (λ(g:Bool)=>
   bif g then (
    some (Lp.out (Lp.out (false))))
   else (
    some (Lp.go ()))))=((Z3 n x).bind λd=>bif !d then some true else (Qa1 n x).bind λf=>some (decide ((190:Int)<f))).bind λg=>bif g then (
    some (Lp.out (Lp.out (false))))
   else (
    some (Lp.go ())):=by
   rw[jn_eq];cases Z3 n x with
   | none=>rfl
   | some b=>
     rw[sbind,sbind];cases b;rfl;rw[ov,bifF,bifF];cases Qa1 n x with
     | none=>rfl
     | some z=>rfl
  rw[p,e,sbind];constructor;intro h;rw[dP_t h];rfl;intro h;rw[dP_f h];rfl
 rw[key];constructor;intro h;rw[oq h];intro h;rw[ol h]
def shapeR(s:Q1):Prop:=(1<=s.B.length/\s.B.length<=8)/\s.C.length=s.B.length/\s.A.length=s.B.length/\(s.E.length=s.B.length\/s.E.length=0)/\∀(i:Nat) r,s.A[i]?=some r->r.length=i
theorem Q1p(s:Q1):Qi2 s=some (dP (shapeR s)):=by
 unfold Qi2 shapeR;simp only[jn_eq,bifd,bifnd];by_cases c1:(s.B.length:Int)<1
 . rw[oq c1,bifT,dP_f om]
 rw[ol c1];by_cases j:(8:Int)<(s.B.length:Int)
 . rw[oq j,bifT,dP_f om]
 rw[ol j];by_cases k:(s.C.length:Int)=(s.B.length:Int)
 case neg=>rw[ol k,bifT,dP_f om]
 rw[oq k];by_cases l:(s.A.length:Int)=(s.B.length:Int)
 case neg=>rw[ol l,bifT,dP_f om]
 rw[oq l]
 have hr:=Qag (f:=λ(a:Nat) (d:List Qa) (_:Unit)=>bif !decide ((d.length:Int)=(a:Int)) then some (Lp.out false) else some (Lp.go ())) (K:=λ_=>some true) (r:=false) (λi (r:List Qa)=>r.length=i) s.A (λi x q=>by
  constructor
  . intro h;rw[oo om];rfl
  . intro h;rw[oj om];rfl)
 have e:(rangeL (λ(a:Nat) (d:List Qa) (_:Unit)=>if (d.length:Int)=(a:Int) then some (Lp.go ()) else some (Lp.out false)) s.A 0 ()).bind (lpK λ_=>some true)=(rangeL (λ(a:Nat) (d:List Qa) (_:Unit)=>bif !decide ((d.length:Int)=(a:Int)) then some (Lp.out false) else some (Lp.go ())) s.A 0 ()).bind (lpK λ_=>some true):=by simp only[bifnd]
 have fin:(s.E.length=s.B.length\/s.E.length=0)->(rangeL (λ(a:Nat) (d:List Qa) (_:Unit)=>if (d.length:Int)=(a:Int) then some (Lp.go ()) else some (Lp.out false)) s.A 0 ()).bind (lpK λ_=>some true)=some (dP ((1<=s.B.length/\s.B.length<=8)/\s.C.length=s.B.length/\s.A.length=s.B.length/\(s.E.length=s.B.length\/s.E.length=0)/\∀(i:Nat) r,s.A[i]?=some r->r.length=i)):=by
  intro p;rw[e,hr];by_cases h:∀(i:Nat) r,s.A[i]?=some r->r.length=i
  . rw[oq h,dP_t ⟨om,om,om,p,h⟩]
  . rw[ol h,dP_f λg=>h g.2.2.2.2]
 by_cases m:(s.E.length:Int)=(s.B.length:Int)
 . rw[oq m,bifF];exact fin (.inl om)
 . rw[ol m]
   by_cases n:(s.E.length:Int)=0
   . rw[oq n];exact fin (.inr om)
   . rw[ol n,dP_f om]
structure SchW(k:Nat)(s:Q1):Prop where
 a:∀ r∈s.A,FR k r
 b:FR k s.B
 c:FR k s.C
 e:FR k s.E
 n:s.A6.length<=4611686018427387904
def rowsR(s:Q1):Prop:=∀(i:Nat) r,s.A[i]?=some r->sumQ (rv r)=fv (s.C.getD i ⟨⟨false,[]⟩,[]⟩)
theorem Q2z{n k:Nat}{s:Q1}(hn:big<=n)(f:1<=k)(hk:k<1048576)(hs:SchW k s)(e:shapeR s):Qkd n s=some (dP (rowsR s)):=by
 unfold Qkd;obtain⟨⟨g1,q⟩,g3,g4,t,j⟩:=e;rw[Qag (λi (r:List Qa)=>sumQ (rv r)=fv (s.C.getD i ⟨⟨false,[]⟩,[]⟩)) (r:=false)];unfold rowsR;by_cases h:∀(i:Nat) r,s.A[i]?=some r->sumQ (rv r)=fv (s.C.getD i ⟨⟨false,[]⟩,[]⟩);rw[oq h,dP_t h];rw[ol h,dP_f h];intro i r hr;have hi:=J8 hr;have g:s.C[i]?=some (s.C.getD i ⟨⟨false,[]⟩,[]⟩):=by rw[ou,oi (show i<s.C.length by omega)];rfl
 have a:=hs.a r (Jw hr);have p:=j i r hr;have d:=hs.c _ (Jw g);have hb:=Qse (l:=rv r) (b:=1) (z:=0) (QR_rv a f) (by rw[Y8];exact xm _);have m:(rv r).length*(k+1)<=8*1048576:=gi (by rw[Jn];omega) om;rw[Qul hn f hk a om,sbind,Jd g,sbind,Qgj (k:=10000000) hn om om (Jq (by unfold sumQ;omega)) (Wf d om),sbind,Jc];constructor;intro h;rw[oo h];rfl;intro h;rw[oj h];rfl
def schR(s:Q1):Prop:=wdB 2 s.A6=true/\shapeR s/\((∀ r∈s.A,∀ x∈r,numR x)/\∀ r∈[s.B,s.C,s.E],∀ x∈r,numR x)/\rowsR s/\sumQ (rv s.B)=1/\(s.E≠[]->sumQ (rv s.E)=1)
theorem Q75{n k:Nat}{a:List Qa}(hn:big<=n)(e:1<=k)(hk:k<1048576)(g:FR k a)(m:a.length<=8){β:Type}(f:Bool->Option β):
 ((Qe8 n a).bind λd=>(Qad n d (toF 1)).bind f)=f (decide (sumQ (rv a)=1)):=by
 have hb:=Qse (l:=rv a) (b:=1) (z:=0) (QR_rv g e) (by rw[Y8];exact xm _);have i:(rv a).length*(k+1)<=8*1048576:=gi (by rw[Jn];omega) om;have j:qw 1<=10000000:=by unfold qw;rw[show(1:Rat).num=1 from rfl,show(1:Rat).den=1 from rfl,show(1:Int).natAbs=1 from rfl,toL1];omega
 rw[Qul hn e hk g om,sbind,Qgj (k:=10000000) hn om om (Jq (by unfold sumQ;omega)) (Jq j),sbind,Jc,Jc]
theorem Q1q{n k:Nat}{s:Q1}(hn:big<=n)(m:1<=k)(hk:k<1048576)(hs:SchW k s):∃ v,Qgg n s=some v/\(v=0↔schR s):=by
 unfold Qgg;rw[Qg8 hn,sbind,Q6t (w:=⟨2,s.A6,0⟩) hn hs.n,sbind];simp only[];unfold schR;cases A:wdB 2 s.A6
 . exact⟨1,rfl,oc⟩
 rw[ov,bifF,Q1p,sbind,bifnP];by_cases a:shapeR s
 case neg=>rw[ol a];exact⟨2,rfl,λh=>om,λh=>absurd h.2.1 a⟩
 rw[oq a];have q:=a;obtain⟨⟨g1,t⟩,g3,g4,u,y⟩:=q;simp only[jn_eq];rw[Qp1 hn hk hs.a,sbind,bifnP]
 have p:∀ r∈[s.B,s.C,s.E],FR k r:=λr hr=>by
  rcases xu.1 hr with rfl | hr
  . exact hs.b
  rcases xu.1 hr with rfl | hr
  . exact hs.c
  rcases xu.1 hr with rfl | hr
  . exact hs.e
  cases hr
 by_cases f:∀ r∈s.A,∀ x∈r,numR x
 case neg=>rw[ol f,bifT];exact⟨3,rfl,λh=>om,λh=>absurd h.2.2.1.1 f⟩
 rw[oq f,Qp1 hn hk p,sbind,bifnP];by_cases g:∀ r∈[s.B,s.C,s.E],∀ x∈r,numR x
 case neg=>rw[ol g];exact⟨3,rfl,λh=>om,λh=>absurd h.2.2.1.2 g⟩
 rw[oq g,Q2z hn m hk hs a,sbind,bifnP];by_cases i:rowsR s
 case neg=>rw[ol i];exact⟨4,rfl,λh=>om,λh=>absurd h.2.2.2.1 i⟩
 rw[oq i,Q75 hn m hk hs.b om,bifnd];by_cases e:sumQ (rv s.B)=1
 case neg=>rw[ol e];exact⟨5,rfl,λh=>om,λh=>absurd h.2.2.2.2.1 e⟩
 rw[oq e,bifd];by_cases l:(0:Int)<(s.E.length:Int)
 . have d:s.E≠[]:=λh=>by rw[h] at l;simp at l
   rw[oq l,Q75 hn m hk hs.e om,bifnd];by_cases j:sumQ (rv s.E)=1
   . rw[oq j];exact⟨0,rfl,λ_=>⟨by trivial,a,⟨f,g⟩,i,e,λ_=>j⟩,λ_=>rfl⟩
   . rw[ol j];exact⟨6,rfl,λh=>om,λh=>absurd (h.2.2.2.2.2 d) j⟩
 . have d:s.E=[]:=xd om
   rw[ol l,bifF];exact⟨0,rfl,λ_=>⟨by trivial,a,⟨f,g⟩,i,e,λh=>absurd d h⟩,λ_=>rfl⟩
theorem Qrs{n k:Nat}{s:Q1}(hn:big<=n)(e:1<=k)(hk:k<1048576)(hs:SchW k s):Qgh n s=some (dP (schR s)):=by obtain⟨v,a,d⟩:=Q1q hn e hk hs;unfold Qgh;rw[a,sbind];exact Qed d
def gapQ(s:Q1):List Rat:=if s.E=[] then [] else addQ (rv s.B) (scaleQ (-1) (rv s.E))
theorem Qum{n k:Nat}{s:Q1}(hn:big<=n)(d:1<=k)(hk:k<1048576)(hs:SchW k s)(hr:schR s):Qfa n s=some (toR (gapQ s)):=by
 unfold Qfa gapQ;simp only[jn_eq];rw[Qrs hn d hk hs,sbind,dP_t hr,ov,bifF];obtain⟨⟨g1,g⟩,g3,g4,i,j⟩:=hr.2.1;by_cases a:s.E=[]
 rw[oq a,a];rfl;have l:s.E.length≠0:=λh=>a (xd h);have f:qw (((-1:Int):Int):Rat)<=1:=by unfold qw;rw[Rat.num_intCast,Rat.den_intCast,show(-1:Int).natAbs=1 from rfl,toL1];omega
 have e:(((-1:Int):Int):Rat)=-1:=rfl;rw[ol a,oj om,bifF];unfold Qt7;rw[Qlz hn oz oz,sbind,Qab (k:=k+1) hn om om (Jq om) (K4 hs.e om) om,sbind,Jc];rw[Qb2 (k:=k+1) hn om om (K4 hs.b om) (K2 (Q8 (Ql0 f (QR_rv hs.e d)) om)) om,sbind,Jl,Z1,Jn,oq om,sbind,Vj,e]
theorem Jbf{k:Nat}{s:Q1}(a:1<=k)(hs:SchW k s):QR (2*k+2) (gapQ s):=by
 unfold gapQ;split;intro x d;cases d;have e:qw (-1:Rat)<=1:=by unfold qw;rw[show(-1:Rat).num=-1 from rfl,show(-1:Rat).den=1 from rfl,show(-1:Int).natAbs=1 from rfl,toL1];omega
 exact Q8 (Ql1 (QR_rv hs.b a) (Ql0 e (QR_rv hs.e a))) om
end Go.Proofs.YtjmfkenegjhohaaGreatDoor
