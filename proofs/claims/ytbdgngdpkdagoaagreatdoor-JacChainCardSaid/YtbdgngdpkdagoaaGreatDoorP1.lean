import Derived.Test.YtbdgngdpkdagoaaGreatDoorMod
namespace Go.Proofs.YtbdgngdpkdagoaaGreatDoor
open Go Go.RowKit
def big:Nat:=18446744073709551616
theorem w64{x:Int}(a:-9223372036854775808<=x)(d:x<=9223372036854775807):wrap64 x=x:=by unfold wrap64;omega
theorem bifd{α:Type}(p:Prop)[Decidable p](a b:α):(bif decide p then a else b)=if p then a else b:=by by_cases h:p<;>simp[h]
theorem bifnd{α:Type}(p:Prop)[Decidable p](a b:α):(bif !decide p then a else b)=if p then b else a:=by by_cases h:p<;>simp[h]
theorem bifT{α:Type}(a b:α):(bif true then a else b)=a:=wm (wm rfl)
theorem bifF{α:Type}(a b:α):(bif false then a else b)=b:=wm (wm rfl)
theorem jn_eq{σ ρ:Type}(A:(σ->Option ρ)->Option ρ)(k:σ->Option ρ):jn A k=A k:=wm (wm rfl)
theorem Vn{τ ρ:Type}(k:τ->Option ρ)(t:τ):lpK k (.go t)=k t:=wm (wm rfl)
theorem Yz{τ ρ:Type}(k:τ->Option ρ)(r:ρ):lpK k (.out r)=some r:=wm (wm rfl)
theorem sbind{α β:Type}(a:α)(f:α->Option β):(some a).bind f=f a:=wm (wm rfl)
theorem Qfh{α:Type}(l:List α)(i:Nat):getI l (i:Int)=l[i]?:=by simp[getI]
theorem Qb8{α:Type}{l:List α}{i:Nat}(h:i<l.length):getI l (i:Int)=some l[i]:=by rw[Qfh];simp[h]
theorem Q08(l:List UInt8)(i:Nat):getS l (i:Int)=(l[i]?).map (·.toNat):=by simp[getS]
theorem Jld{l:List UInt8}{i:Nat}(h:i<l.length):getS l (i:Int)=some l[i].toNat:=by rw[Q08];simp[h]
theorem grd_t{b:Bool}(h:b=true):grd b=some ():=by rw[h];rfl
theorem Qyy{α:Type}{l:List α}{k:Nat}(h:k<=l.length):sub l 0 (k:Int)=some (l.take k):=by unfold sub;rw[oq om];simp
theorem Qs7{α:Type}{l:List α}{i k:Nat}(a:i<=k)(h:k<=l.length):sub l (i:Int) (k:Int)=some ((l.take k).drop i):=by unfold sub;rw[oq om];simp
theorem J5{α:Type}{b:Nat}{l r:List α}(h:(l.length+r.length)*b<=140737488355328)(a:l.length+r.length<=9223372036854775807):appM b l r=some (l++r):=by unfold appM;rw[oq ⟨h,a⟩]
theorem Qev{α:Type}{b:Nat}{z:α}{n:Nat}(h:n*b<=140737488355328)(a:n<=9223372036854775807):mkM b z (n:Int)=some (List.replicate n z):=by unfold mkM;rw[oq om];simp
theorem Qyz{σ τ:Type}{f:σ->Option (Lp σ τ)}(μ:σ->Nat)(I:σ->Prop)(Q:τ->Prop)
 (hb:∀ s,I s->(∃ s',f s=some (.go s')/\I s'/\μ s'<μ s)\/(∃ t,f s=some (.out t)/\Q t)):∀(n:Nat) (s:σ),I s->μ s<n->∃ t,loopM f n s=some t/\Q t
 | 0,_,_,h=>absurd h (ww _)
 | n+1,s,hI,hn=>by rcases hb s hI with ⟨s',a,d,i⟩ | ⟨t,a,d⟩;obtain⟨t,e,g⟩:=Qyz μ I Q hb n s' d om;exact⟨t,by simp only[loopM,a,xq];exact e,g⟩;exact⟨t,by simp only[loopM,a,xq],d⟩
theorem Qb9{σ τ R:Type}{f:σ->Option (Lp σ τ)}{n:Nat}{s:σ}{k:τ->Option R}{r:R}(μ:σ->Nat)(I:σ->Prop)(Q:τ->Prop)(h0:I s)(hn:μ s<n)
 (hb:∀ s,I s->(∃ s',f s=some (.go s')/\I s'/\μ s'<μ s)\/(∃ t,f s=some (.out t)/\Q t)) (hk:∀ t,Q t->k t=some r):(loopM f n s).bind k=some r:=by
 obtain⟨t,a,d⟩:=Qyz μ I Q hb n s h0 hn;rw[a,xq];exact hk t d
theorem Qib{σ τ R:Type}{f:σ->Option (Lp σ τ)}{n:Nat}{s:σ}{k:τ->Option R}{P:R->Prop}(μ:σ->Nat)(I:σ->Prop)(Q:τ->Prop)(h0:I s)(hn:μ s<n)
 (hb:∀ s,I s->(∃ s',f s=some (.go s')/\I s'/\μ s'<μ s)\/(∃ t,f s=some (.out t)/\Q t)) (hk:∀ t,Q t->∃ r,k t=some r/\P r):∃ r,(loopM f n s).bind k=some r/\P r:=by
 obtain⟨t,a,d⟩:=Qyz μ I Q hb n s h0 hn;rw[a,xq];exact hk t d
theorem Qau{σ τ:Type}{f:σ->Option (Lp σ τ)}{s s':σ}{n:Nat}(h:f s=some (.go s')):loopM f (n+1) s=loopM f n s':=by simp only[loopM,h,xq]
theorem Kz{σ τ:Type}{f:σ->Option (Lp σ τ)}{s:σ}{t:τ}{n:Nat}(h:f s=some (.out t))(hn:0<n):loopM f n s=some t:=by
 obtain⟨m,rfl⟩:∃ m,n=m+1:=⟨n - 1,om⟩
 simp only[loopM,h,xq]
theorem Q09{α σ τ:Type}{f:Nat->α->σ->Option (Lp σ τ)}(I:Nat->σ->Prop):∀(xs:List α) (i:Nat) (s:σ),I i s->(∀ j x s,xs[j]?=some x->I (i+j) s->∃ s',f (i+j) x s=some (.go s')/\I (i+j+1) s') ->
 ∃ s',rangeL f xs i s=some (.go s')/\I (i+xs.length) s'
 | [],i,s,h,_=>⟨s,rfl,h⟩
 | x::xs,i,s,h,hb=>by
   obtain⟨s1,a,d⟩:=hb 0 x s rfl h;simp only[xp] at a d
   obtain⟨m,e,g⟩:=Q09 I xs (i+1) s1 d (λj y t k l=>by
    have:=hb (j+1) y t (by simpa using k) (by rw[show i+(j+1)=i+1+j by omega];exact l);rw[show i+(j+1)=i+1+j by omega] at this
    exact this)
   refine⟨m,by simp only[rangeL,a,xq];exact e,?_⟩;rw[xn,show i+(xs.length+1)=i+1+xs.length by omega];exact g
theorem Qp5{α σ τ R:Type}{f:Nat->α->σ->Option (Lp σ τ)}{xs:List α}{s:σ}{k:Lp σ τ->Option R}{r:R}(I:Nat->σ->Prop)(h0:I 0 s)
 (hb:∀ j x s,xs[j]?=some x->I j s->∃ s',f j x s=some (.go s')/\I (j+1) s') (hk:∀ t,I xs.length t->k (.go t)=some r):(rangeL f xs 0 s).bind k=some r:=by
 obtain⟨s',a,d⟩:=Q09 I xs 0 s h0 (λj x s e hs=>by rw[xg] at hs |-;exact hb j x s e hs);rw[a,xq];exact hk s' (by simpa using d)
theorem Qwm{α σ τ R:Type}{f:Nat->α->σ->Option (Lp σ τ)}{xs:List α}{s:σ}{k:Lp σ τ->Option R}{P:R->Prop}(I:Nat->σ->Prop)(h0:I 0 s)
 (hb:∀ j x s,xs[j]?=some x->I j s->∃ s',f j x s=some (.go s')/\I (j+1) s') (hk:∀ t,I xs.length t->∃ r,k (.go t)=some r/\P r):∃ r,(rangeL f xs 0 s).bind k=some r/\P r:=by
 obtain⟨s',a,d⟩:=Q09 I xs 0 s h0 (λj x s e hs=>by rw[xg] at hs |-;exact hb j x s e hs);rw[a,xq];exact hk s' (by simpa using d)
def runG{α β τ:Type}(g:Nat->α->β->β ⊕ τ)(e:β->τ):List α->Nat->β->τ
 | [],_,b=>e b
 | x::xs,i,b=>match g i x b with
   | .inl a=>runG g e xs (i+1) a
   | .inr t=>t
def toLpp{β σ τ0 τ:Type}(mk:β->Nat->σ)(i:Nat):β ⊕ τ->Lp σ (Lp τ0 τ)
 | .inl b=>.go (mk b (i+1))
 | .inr t=>.out (.out t)
theorem Q32{α β σ τ0 τ:Type}{f:σ->Option (Lp σ (Lp τ0 τ))}{k:τ0->Option τ}{s0:σ}(mk:β->Nat->σ)(g:Nat->α->β->β ⊕ τ)(q:β->τ0)(e:β->τ)(I:Nat->β->Prop)(xs:List α)(b:β){n:Nat}
 (hb:∀ i x b,xs[i]?=some x->I i b->f (mk b i)=some (toLpp mk i (g i x b))/\∀ d,g i x b=.inl d->I (i+1) d)
 (l:∀ b,I xs.length b->f (mk b xs.length)=some (.out (.go (q b)))) (hk:∀ b,I xs.length b->k (q b)=some (e b)) (h0:I 0 b) (hn:xs.length<n) (hs:s0=mk b 0:=by rfl) :
 (loopM f n s0).bind (lpK k)=some (runG g e xs 0 b):=by
 have s:∀(xs:List α) (j:Nat) (b:β) (n:Nat),
  (∀ i x b,xs[i]?=some x->I (j+i) b->f (mk b (j+i))=some (toLpp mk (j+i) (g (j+i) x b))/\∀ d,g (j+i) x b=.inl d->I (j+i+1) d) ->
  (∀ b,I (j+xs.length) b->f (mk b (j+xs.length))=some (.out (.go (q b))))->(∀ b,I (j+xs.length) b->k (q b)=some (e b))->I j b->xs.length<n->(loopM f n (mk b j)).bind (lpK k)=some (runG g e xs j b):=by
  intro xs
  induction xs with
  | nil=>
    intro j b n _ l hk h0 hn;simp only[yr,xp] at l hk;rw[Kz (l b h0) om,xq];exact hk b h0
  | cons x xs A=>
    intro j b n hb l hk h0 hn;obtain⟨m,rfl⟩:∃ m,n=m+1:=⟨n - 1,by simp at hn;omega⟩
    obtain⟨p,u⟩:=hb 0 x b rfl h0;simp only[xp] at p u;simp only[runG];cases r:g j x b with
    | inl d=>
      rw[r] at p;rw[Qau p];refine A (j+1) d m (λi y c w a=>?_) (λc a=>?_) (λc a=>?_) (u d r) (by simp at hn;omega);have:=hb (i+1) y c (by simpa using w);rw[show j+(i+1)=j+1+i by omega] at this;exact this a;have:=l c;rw[xn,show j+(xs.length+1)=j+1+xs.length by omega] at this;exact this a;have:=hk c;rw[xn,show j+(xs.length+1)=j+1+xs.length by omega] at this;exact this a
    | inr t=>rw[r] at p;rw[Kz p om];rfl
 rw[hs];exact s xs 0 b n (λi x c v a=>by rw[xg] at a |-;exact hb i x c v a) (λc a=>by rw[xg] at a |-;exact l c a) (λc a=>hk c (by rwa [xg] at a)) h0 hn
theorem Q7{α:Type}{l:List α}{i:Nat}{x:α}(h:l[i]?=some x):getI l (i:Int)=some x:=by rw[Qfh,h]
theorem Kc{α:Type}{l:List α}{i:Nat}{x:α}(h:l[i]?=some x):i<l.length:=by rcases xl i l.length with a | a;exact a;rw[xd a] at h;cases h
theorem Jm{α:Type}{l:List α}{i:Nat}{x:α}(h:l[i]?=some x):x∈l:=ud h
theorem w1{i:Nat}(h:i<9223372036854775807):wrap64 ((i:Int)+1)=((i+1:Nat):Int):=by rw[w64 om om];omega
theorem Qs3{α:Type}{l:List α}{x:α}(h:l.length<9223372036854775807):getI (l++[x]) (wrap64 (((l++[x]).length:Int) - 1))=some x:=by rw[yn,uy,w64 om om,show(((l.length+1:Nat):Int) - 1)=((l.length:Nat):Int) by omega,Qfh];simp
theorem Ji8{α:Type}{l:List α}{x:α}(h:l.length<9223372036854775807):sub (l++[x]) (0:Int) (wrap64 (((l++[x]).length:Int) - 1))=some l:=by rw[yn,uy,w64 om om,show(((l.length+1:Nat):Int) - 1)=((l.length:Nat):Int) by omega,Qyy oc];simp
theorem Q9i{σ τ:Type}{f:σ->Option (Lp σ τ)}(F:Nat->σ){t:τ}:∀(N k n:Nat),(∀ i,i<N->f (F (k+i))=some (.go (F (k+i+1))))->f (F (k+N))=some (.out t)->N<n->loopM f n (F k)=some t
 | 0,k,n,_,a,hn=>Kz a om
 | N+1,k,n,hb,a,hn=>by
   obtain⟨m,rfl⟩:∃ m,n=m+1:=⟨n - 1,om⟩
   have h0:=hb 0 om;simp only[xp] at h0;rw[Qau h0];exact Q9i F N (k+1) m (λi hi=>by have:=hb (i+1) om;rw[show k+(i+1)=k+1+i by omega] at this;exact this) (by rw[show k+1+N=k+(N+1) by omega];exact a) om
theorem Wr{σ τ R:Type}{f:σ->Option (Lp σ τ)}{s:σ}{K:τ->Option R}{n:Nat}(F:Nat->σ)(N:Nat)(t:τ)(hb:∀ i,i<N->f (F i)=some (.go (F (i+1))))(a:f (F N)=some (.out t))(hn:N<n)(hs:s=F 0):(loopM f n s).bind K=K t:=by rw[hs,Q9i F (t:=t) N 0 n (λi hi=>by rw[xg];exact hb i hi) (by rw[xg];exact a) hn,xq]
theorem Q5r{α σ τ:Type}{f:Nat->α->σ->Option (Lp σ τ)}(F:Nat->σ):∀(xs:List α) (k:Nat),(∀ i x,xs[i]?=some x->f (k+i) x (F (k+i))=some (.go (F (k+i+1))))->rangeL f xs k (F k)=some (.go (F (k+xs.length)))
 | [],_,_=>rfl
 | x::xs,k,hb=>by have h0:=hb 0 x rfl;simp only[xp] at h0;simp only[rangeL,h0,xq];rw[Q5r F xs (k+1) (λi y a=>by have:=hb (i+1) y (by simpa using a);rw[show k+(i+1)=k+1+i by omega] at this;exact this),xn,show k+1+xs.length=k+(xs.length+1) by omega]
theorem Zw{α σ τ R:Type}{f:Nat->α->σ->Option (Lp σ τ)}{s:σ}{K:Lp σ τ->Option R}(F:Nat->σ)(xs:List α)(hb:∀ i x,xs[i]?=some x->f i x (F i)=some (.go (F (i+1))))(hs:s=F 0):(rangeL f xs 0 s).bind K=K (.go (F xs.length)):=by rw[hs,Q5r F xs 0 (λi x a=>by rw[xg];exact hb i x a),xq,xg]
theorem Q5s{α R:Type}{f:Nat->α->Unit->Option (Lp Unit R)}{r:R}(P:Nat->α->Prop):∀(xs:List α) (k:Nat),(∀ i x,xs[i]?=some x->(P (k+i) x->f (k+i) x ()=some (.go ()))/\(¬ P (k+i) x->f (k+i) x ()=some (.out r))) ->
 ((∀ i x,xs[i]?=some x->P (k+i) x)->rangeL f xs k ()=some (.go ()))/\(¬(∀ i x,xs[i]?=some x->P (k+i) x)->rangeL f xs k ()=some (.out r))
 | [],k,_=>⟨λ_=>rfl,λh=>absurd (λi x l=>by simp at l) h⟩
 | x::xs,k,hb=>by
   obtain⟨d,g⟩:=hb 0 x rfl;simp only[xp] at d g;obtain⟨g1,j⟩:=Q5s P xs (k+1) (λi y a=>by have:=hb (i+1) y (by simpa using a);rw[show k+(i+1)=k+1+i by omega] at this;exact this);by_cases hp:P k x;have e:(∀ i y,(x::xs)[i]?=some y->P (k+i) y)↔(∀ i y,xs[i]?=some y->P (k+1+i) y):=by
    constructor;intro h i y a;have:=h (i+1) y (by simpa using a);rw[show k+(i+1)=k+1+i by omega] at this;exact this;intro h i y a;cases i with
    | zero=>simp at a;subst a;exact hp
    | succ i=>rw[show k+(i+1)=k+1+i by omega];exact h i y (by simpa using a)
   rw[e];simp only[rangeL,d hp,xq];exact⟨g1,j⟩;refine⟨λh=>absurd (h 0 x rfl) hp,λ_=>?_⟩;simp only[rangeL,g hp,xq]
open Classical in
theorem Z3{α R:Type}{f:Nat->α->Unit->Option (Lp Unit R)}{K:Unit->Option R}{r:R}(P:Nat->α->Prop)(xs:List α)
 (hb:∀ i x,xs[i]?=some x->(P i x->f i x ()=some (.go ()))/\(¬ P i x->f i x ()=some (.out r))) :
 (rangeL f xs 0 ()).bind (lpK K)=if (∀ i x,xs[i]?=some x->P i x) then K () else some r:=by
 obtain⟨g1,a⟩:=Q5s P xs 0 (λi x d=>by rw[xg];exact hb i x d);simp only[xg] at g1 a;by_cases h:∀ i x,xs[i]?=some x->P i x;rw[oq h,g1 h,xq,Vn];rw[oj h,a h,xq,Yz]
theorem Q9j{R:Type}{f:Int->Option (Lp Int (Lp Unit R))}{r:R}(P:Nat->Prop):∀(N k n:Nat),(∀ i,i<k+N->k<=i->(P i->f (i:Int)=some (.go ((i+1:Nat):Int)))/\(¬ P i->f (i:Int)=some (.out (.out r))))->f ((k+N:Nat):Int)=some (.out (.go ()))->N<n ->
 ((∀ i,k<=i->i<k+N->P i)->loopM f n (k:Int)=some (.go ()))/\(¬(∀ i,k<=i->i<k+N->P i)->loopM f n (k:Int)=some (.out r))
 | 0,k,n,_,d,hn=>⟨λ_=>Kz d om,λh=>absurd (λi g j=>by omega) h⟩
 | N+1,k,n,hb,d,hn=>by
   obtain⟨m,rfl⟩:∃ m,n=m+1:=⟨n - 1,om⟩
   obtain⟨g,j⟩:=hb k om (xr _);obtain⟨g1,l⟩:=Q9j P N (k+1) m (λi hi hk=>hb i om om) (by rw[show k+1+N=k+(N+1) by omega];exact d) om;by_cases hp:P k;have e:(∀ i,k<=i->i<k+(N+1)->P i)↔(∀ i,k+1<=i->i<k+1+N->P i):=by constructor;intro h i a b;exact h i om om;intro h i a b;rcases ta a with c | c;exact c ▸ hp;exact h i c om
   rw[e,Qau (g hp)];exact⟨g1,l⟩;exact⟨λh=>absurd (h k (xr _) om) hp,λ_=>Kz (j hp) om⟩
open Classical in
theorem Qoi{R:Type}{f:Int->Option (Lp Int (Lp Unit R))}{K:Unit->Option R}{r:R}{n:Nat}(P:Nat->Prop)(N:Nat)
 (hb:∀ i,i<N->(P i->f (i:Int)=some (.go ((i+1:Nat):Int)))/\(¬ P i->f (i:Int)=some (.out (.out r)))) (d:f (N:Int)=some (.out (.go ()))) (hn:N<n) :
 (loopM f n 0).bind (lpK K)=if (∀ i,i<N->P i) then K () else some r:=by
 obtain⟨g1,a⟩:=Q9j (n:=n) (r:=r) P N 0 (λi hi _=>hb i om) (by rw[xg];exact d) hn;simp only[xg,yx,true_implies] at g1 a;by_cases h:∀ i,i<N->P i;rw[oq h];have:=g1 h;rw[show((0:Nat):Int)=0 from rfl] at this;rw[this,xq,Vn];rw[oj h];have:=a h;rw[show((0:Nat):Int)=0 from rfl] at this;rw[this,xq,Yz]
theorem Qdi{α β:Type}(h:α->β){l:List α}{i:Nat}{x:α}(a:l[i]?=some x):(l.take (i+1)).map h=(l.take i).map h++[h x]:=by
 rw[jw (Kc a),xw];have:l[i]'(Kc a)=x:=by have:=oi (Kc a);rw[this] at a;exact Option.some.inj a
 simp[this]
def cutI(x:Int):Nat:=(min (max x 1) 200).toNat
theorem Jcx(x:Int):min (max x (1:Int)) (200:Int)=((cutI x:Nat):Int):=by unfold cutI;omega
theorem cut_b(x:Int):1<=cutI x/\cutI x<=200:=by unfold cutI;omega
theorem Ji9(x:Int):cutI ((cutI x:Nat):Int)=cutI x:=by unfold cutI;omega
theorem Qy0(x:Int):Qge x=some ((cutI x:Nat):Int):=by unfold Qge;rw[Jcx]
def cnt(n c:Nat):Nat:=(n+c - 1) / c
def mrk(n c:Nat):List Nat:=(List.range (cnt n c)).map λj=>j*c
theorem Qmo(n c:Nat):(mrk n c).length=cnt n c:=by simp[mrk]
theorem Qf7{n c j:Nat}(a:1<=c):j<cnt n c↔j*c<n:=by unfold cnt;rw[Nat.lt_iff_add_one_le,Nat.le_div_iff_mul_le om,uz];omega
theorem cnt_0{c:Nat}(a:1<=c):cnt 0 c=0:=by have:=(Qf7 (n:=0) (j:=0) a).1;rcases gn (cnt 0 c) with h | h;exact h;have:=this h;omega
theorem Qp6{n c:Nat}(a:1<=c):cnt n c<=n:=by rcases gn (cnt n c) with h | h;omega;have:=(Qf7 (n:=n) (j:=cnt n c - 1) a).1 om;have d:(cnt n c - 1)*1<=(cnt n c - 1)*c:=ut _ a;omega
theorem Qqy{n c j:Nat}(a:j<cnt n c):(mrk n c)[j]?=some (j*c):=by simp[mrk,jc a]
theorem Q2g{n c m:Nat}(a:1<=c)(h:m∈mrk n c):∃ j,j<cnt n c/\m=j*c/\m<n:=by obtain⟨j,d,rfl⟩:=xz.1 h;have:=gu.1 d;exact⟨j,this,rfl,(Qf7 a).1 this⟩
def mk0(c j:Nat):List Int:=(List.range j).map λi=>((i*c:Nat):Int)
theorem Jcy(c j:Nat):mk0 c (j+1)=mk0 c j++[((j*c:Nat):Int)]:=by unfold mk0;rw[List.range_succ,xw];rfl
theorem Qxg(c j:Nat):(mk0 c j).length=j:=by simp[mk0]
def iL(l:List Nat):List Int:=l.map λi:Nat=>(i:Int)
theorem Jcz(n c:Nat):iL (mrk n c)=mk0 c (cnt n c):=by simp[iL,mrk,mk0]
theorem Qy1{n N:Nat}{x:Int}(hn:big<=n)(v:N<=200):Qfe n (N:Int) x=some (iL (mrk N (cutI x))):=by
 obtain⟨c1,p⟩:=cut_b x;unfold Qfe;simp only[jn_eq];rw[Jcz];generalize e:cutI x=c at c1 p;by_cases h0:(N:Int)<1;rw[ol h0,bifT,bifT];obtain rfl:N=0:=om
 rw[cnt_0 c1];rfl;rw[oo h0,bifF,oo (show ¬(200:Int)<N by omega),bifF]
 have g:∀(m j d:Nat),j+m=cnt N c->m<d->(loopM (λ(a:(List Int)×Int)=>
  bif decide (a.2<(N:Int)) then (
   (appM 8 a.1 ([a.2]:List Int)).bind λk=>
   (Qge x).bind λi=>
   some (Lp.go (k,wrap64 (a.2+i))))
  else (
   some (Lp.out a.1))) d (mk0 c j,((j*c:Nat):Int)))=some (mk0 c (cnt N c)):=by
  intro m
  induction m with
  | zero=>
    intro j d q f;have:¬ j*c<N:=λh=>by have:=(Qf7 c1).2 h;omega
    rw[Kz (t:=mk0 c j) (by simp only[];rw[oo (show ¬((j*c:Nat):Int)<(N:Int) by omega),bifF]) om];rw[show j=cnt N c by omega]
  | succ m u=>
    intro j d q f;obtain⟨n'',rfl⟩:∃ n'',d=n''+1:=⟨d - 1,om⟩
    have s:=(Qf7 (n:=N) (j:=j) c1).1 om;have r:=Qp6 (n:=N) c1
    rw[Qau (s':=(mk0 c (j+1),(((j+1)*c:Nat):Int))) (by
     simp only[]
     rw[ol (show((j*c:Nat):Int)<(N:Int) by omega),bifT,J5 (by rw[Qxg];simp;omega) (by rw[Qxg];simp;omega),sbind,Qy0,sbind,e,Jcy,w64 om om,uz,Int.natCast_add])]
    exact u (j+1) n'' om om
 have l:=g (cnt N c) 0 n om (by have:=Qp6 (n:=N) c1;unfold big at hn;omega);rw[Nat.zero_mul] at l;rw[show(([]:List Int),(0:Int))=(mk0 c 0,((0:Nat):Int)) from rfl,l];rfl
def sgm(N c m:Nat):Qx:=⟨(m:Int),((min (m+c) N:Nat):Int)⟩
theorem Jja{l:List Qx}{x:Qx}(h:l.length<=1000000):Yp l [x]=some (l++[x]):=by unfold Yp;rw[J5 oh oh,sbind]
theorem Jjb:K7 []=some (⟨0,0⟩,false,[]):=rfl
theorem Jhl{l:List Qx}{x:Qx}(h:l.length<=1000000):K7 (l++[x])=some (x,true,l):=by
 unfold K7 Qax;simp only[jn_eq];have a:=Qs3 (l:=l) (x:=x) om;have e:wrap64 (((l++[x]).length:Int) - 1)=((l.length:Nat):Int):=by simp only[yn,xn,yr];rw[w64 om om];omega
 rw[oo (show ¬((l++[x]).length:Int)=0 by simp;omega),bifF,a,sbind,sbind,bifT,sbind,e];have d:List.set (l++[x]) (Int.toNat ((l.length:Nat):Int)) (⟨0,0⟩:Qx)=l++[⟨0,0⟩]:=by rw[ya,List.set_append_right _ _ (xr _),gh,List.set_cons_zero]
 rw[d,Ji8 om,sbind,sbind,sbind]
theorem Qzr{n N:Nat}{x:Int}(hn:big<=n)(B:N<=200):Qd6 n (N:Int) x=some ((mrk N (cutI x)).reverse.map (sgm N (cutI x))):=by
 obtain⟨c1,E⟩:=cut_b x;unfold Qd6;rw[Qy1 hn B,sbind];have w:(mrk N (cutI x)).length<=200:=by rw[Qmo];have:=Qp6 (n:=N) c1;omega
 have q:∀ m∈mrk N (cutI x),m<N:=λm d=>by obtain⟨_,_,_,h⟩:=Q2g c1 d;exact h
 generalize p:cutI x=c at *;generalize mrk N c=ms at *;rw[Zw (s:=([]:List Qx)) (F:=λi=>(ms.take i).map (sgm N c)) (iL ms) (λi y f=>?_) rfl,Vn]
 rotate_left
 . unfold iL at f
   rw[xm] at f;cases d:ms[i]? with
   | none=>rw[d] at f;cases f
   | some m=>
     rw[d] at f;cases f;have A:=q m (ud d);have hi:=(ug.1 d).1;simp only[];rw[Qy0,sbind,p,sbind,w64 om om,Jja oh,sbind,vn,d,xw];simp only[Option.toList_some,yy,List.map_nil,sgm];rw[show min ((m:Int)+(c:Int)) (N:Int)=((min (m+c) N:Nat):Int) by omega]
 have eT:(ms.take (iL ms).length).map (sgm N c)=(ms.map (sgm N c)):=by rw[show(iL ms).length=ms.length by simp[iL],xc]
 rw[eT]
 have u:∀(ys out:List Qx) (g:Nat),ys.length<g->ys.length+out.length<=200->∃ r,K7 ys.reverse=some r/\(loopM (λ(a:(List Qx)×(List Qx)×Qx×Bool)=>
  bif a.2.2.2 then (
   (appM 16 a.2.1 ([a.2.2.1]:List Qx)).bind λv=>
   (K7 a.1).bind λe=>
   some (Lp.go (e.2.2,v,e.1,e.2.1)))
  else (
   some (Lp.out a.2.1))) g (r.2.2,out,r.1,r.2.1))=some (out++ys):=by
  intro ys
  induction ys with
  | nil=>
    intro out g j _;exact⟨_,Jjb,by rw[Kz (t:=out) rfl om,uh]⟩
  | cons y ys C=>
    intro out g j w;simp only[xn] at j w;obtain⟨n'',rfl⟩:∃ n'',g=n''+1:=⟨g - 1,om⟩
    rw[List.reverse_cons];refine⟨_,Jhl oh,?_⟩;obtain⟨r,k,l⟩:=C (out++[y]) n'' om oh;rw[Qau (s':=(r.2.2,out++[y],r.1,r.2.1)) (by simp only[];rw[bifT,J5 oh oh,sbind,k,sbind]),l,xf];rfl
 obtain⟨r,k,l⟩:=u (ms.map (sgm N c)).reverse [] n (by simp;unfold big at hn;omega) oh;rw[List.reverse_reverse] at k;rw[k,sbind,l,sbind,yw,List.map_reverse]
def val:List Nat->Nat
 | []=>0
 | x::a=>x+4294967296*val a
def bp(k:Nat):Nat:=4294967296 ^ k
theorem Qbn:bp 0=1:=by unfold bp;rw[Nat.pow_zero]
theorem W0(k:Nat):bp (k+1)=bp k*4294967296:=by unfold bp;rw[ji]
theorem bp_le{j k:Nat}(h:j<=k):bp j<=bp k:=by unfold bp;exact jm oz h
theorem Jjc(k:Nat):0<bp k:=by unfold bp;exact Nat.pow_pos oz
theorem Jqg(j k:Nat):bp (j+k)=bp j*bp k:=by unfold bp;rw[wj]
def Wd(a:List Nat):Prop:=∀ x∈a,x<4294967296
def trimZ:List Nat->List Nat
 | []=>[]
 | x::a=>if trimZ a=[]/\x=0 then [] else x::trimZ a
def toL(n:Nat):List Nat:=if n=0 then [] else n%4294967296::toL (n / 4294967296)
termination_by n
decreasing_by omega
theorem W9:Wd []:=λ_ h=>by cases h
theorem K0{x a}:Wd (x::a)↔x<4294967296/\Wd a:=by simp[Wd]
theorem Kv{a b}:Wd (a++b)↔Wd a/\Wd b:=by constructor;intro h;exact⟨λx d=>h x (yp _ d),λx d=>h x (uj _ d)⟩;rintro⟨e,f⟩ x d;rcases yd.1 d with h | h;exact e x h;exact f x h
theorem Qs8{a k}(h:Wd a):Wd (a.take k):=λx d=>h x (ym d)
theorem Qox{a k}(h:Wd a):Wd (a.drop k):=λx d=>h x (vu d)
theorem Qp7{k x}(h:x<4294967296):Wd (List.replicate k x):=λy a=>by rw[(tb.1 a).2];exact h
theorem Qca{a:List Nat}(h:Wd a){i:Nat}(hi:i<a.length):a[i]<4294967296:=h _ (xi hi)
theorem Yb:toL 0=[]:=by rw[toL];rfl
theorem Qdx{n:Nat}(h:n≠0):toL n=n%4294967296::toL (n / 4294967296):=by rw[toL];rw[oj h]
theorem Q8(n:Nat):val (toL n)=n:=by
 induction n using Nat.strongRecOn with
 | _ n a=>
   by_cases h:n=0;subst h;rw[Yb];rfl;rw[Qdx h];simp only[val];rw[a (n / 4294967296) om];omega
theorem Jo(n:Nat):Wd (toL n):=by
 induction n using Nat.strongRecOn with
 | _ n a=>
   by_cases h:n=0;subst h;rw[Yb];exact W9;rw[Qdx h];exact K0.2 ⟨om,a (n / 4294967296) om⟩
theorem K1{a:List Nat}(h:Wd a):toL (val a)=trimZ a:=by
 induction a with
 | nil=>simp[val,Yb,trimZ]
 | cons x a d=>
   obtain⟨j,i⟩:=K0.1 h;have d:=d i;simp only[val,trimZ];by_cases g:val a=0;rw[g,Yb] at d;rw[<-d,g];by_cases e:x=0;subst e;simp[Yb];rw[oj (λh=>e h.2),Qdx om];rw[show(x+4294967296*0)%4294967296=x by omega,show(x+4294967296*0) / 4294967296=0 by omega,Yb];have f:trimZ a≠[]:=by rw[<-d,Qdx g];simp
   rw[oj (λh=>f h.1),Qdx om,show(x+4294967296*val a)%4294967296=x by omega,show(x+4294967296*val a) / 4294967296=val a by omega,d]
theorem Qvd(a:List Nat):val (trimZ a)=val a:=by
 induction a with
 | nil=>rfl
 | cons x a d=>
   simp only[trimZ];split;rename_i h;rw[h.1] at d;simp[val] at d |-;omega;simp[val,d]
theorem Qag(a:List Nat):(trimZ a).length<=a.length:=by
 induction a with
 | nil=>simp[trimZ]
 | cons x a d=>simp only[trimZ];split<;>simp;omega
theorem Q9k{a:List Nat}(h:trimZ a=[]):val a=0:=by rw[<-Qvd,h];rfl
theorem Q1a{a:List Nat}(h:Wd a):trimZ a=[]↔val a=0:=by constructor;exact Q9k;intro d;rw[<-K1 h,d,Yb]
theorem Jjd(n:Nat):trimZ (toL n)=toL n:=by rw[<-K1 (Jo n),Q8]
theorem Qwn(a:List Nat):trimZ (a++[0])=trimZ a:=by
 induction a with
 | nil=>simp[trimZ]
 | cons x a d=>simp only[yu,trimZ,d]
theorem Q5t(a:List Nat){x:Nat}(h:x≠0):trimZ (a++[x])=a++[x]:=by
 induction a with
 | nil=>simp[trimZ,h]
 | cons y a d=>simp only[yu,trimZ,d];rw[oj oc]
theorem Y8(a b:List Nat):val (a++b)=val a+bp a.length*val b:=by
 induction a with
 | nil=>simp[val,Qbn]
 | cons x a d=>simp only[yu,val,d,xn,W0];rw[dz,<-uo,uv 4294967296 (bp a.length)];omega
theorem Zh{a:List Nat}(h:Wd a):val a<bp a.length:=by
 induction a with
 | nil=>simp[val,Qbn]
 | cons x a e=>
   obtain⟨f,d⟩:=K0.1 h;have:=e d;simp only[val,xn,W0];omega
theorem Qiq(k:Nat):val (List.replicate k 0)=0:=by
 induction k with
 | zero=>rfl
 | succ k a=>simp[uq,val,a]
theorem Qeh{n k:Nat}(h:n<bp k):(toL n).length<=k:=by
 induction k generalizing n with
 | zero=>rw[Qbn] at h;obtain rfl:n=0:=om
         simp[Yb]
 | succ k a=>
   by_cases h0:n=0;subst h0;simp[Yb];rw[Qdx h0,xn];have:=@a (n / 4294967296) (by rw[W0] at h;exact jr (by rw[uv];exact h));omega
theorem We{α:Type}{a:List α}{k:Nat}(h:k<a.length):a.take (k+1)=a.take k++[a[k]]:=by simp[]
theorem Zn{n:Nat}{a:List Nat}(hn:big<=n)(f:a.length<=4611686018427387904):Z4 n a=some (trimZ a):=by
 unfold Z4;unfold big at hn;refine Qb9 (λs=>s.toNat) (λs=>∃ k:Nat,s=k/\k<=a.length/\trimZ a=trimZ (a.take k)) (λt=>∃ k:Nat,t=k/\k<=a.length/\trimZ a=a.take k) ⟨a.length,rfl,xr _,oc⟩ oh ?_ ?_;rintro s ⟨k,rfl,hk,d⟩;simp only[jn_eq,bifd];by_cases h0:0<k;obtain⟨j,rfl⟩:∃ j,k=j+1:=⟨k - 1,om⟩
 rw[oq om,w64 om om,show((j+1:Nat):Int) - 1=(j:Nat) by omega,Qb8 (show j<a.length by omega),sbind];rw[We (show j<a.length by omega)] at d;by_cases e:a[j]=0;left;refine⟨(j:Nat),by simp[e],⟨j,rfl,om,?_⟩,om⟩;rw[d,e,Qwn];right;refine⟨((j+1:Nat):Int),by simp[e],j+1,rfl,hk,?_⟩;rw[d,We (show j<a.length by omega),Q5t _ e];right;obtain rfl:k=0:=om
 exact⟨0,oc,0,rfl,yx _,by rw[d];simp[trimZ]⟩;rintro t ⟨k,rfl,hk,d⟩;rw[Qyy hk,sbind,d]
theorem Jle{a:List Nat}{k:Nat}:cpyL (List.replicate (a.length+k) 0) a=a++List.replicate k 0:=by unfold cpyL;rw[yt,xb om,List.drop_replicate,wz]
theorem Qqz{a:List Nat}{k:Nat}(h:a.length+k<=35184372088832):Qij a (k:Int)=some (a++List.replicate k 0):=by unfold Qij;rw[w64 om om,show((a.length:Int)+(k:Int))=((a.length+k:Nat):Int) by omega,Qev om om,sbind,Jle]
theorem Y1{n:Nat}{a:List Nat}(hn:big<=n)(d:a.length<=35184372088832):X6 n a=some (trimZ a):=by unfold X6;have e:=Qag a;rw[Zn hn om,sbind,show(0:Int)=((0:Nat):Int) by rfl,Qqz om,sbind];simp
theorem Qzs{n:Nat}{a:List Nat}(hn:big<=n)(d:a.length<=4611686018427387904)(e:Wd a):Qgc n a=some (decide (val a=0)):=by unfold Qgc;rw[Zn hn d,sbind];congr 1;rw[Bool.eq_iff_iff];simp only[gj];rw[<-Q1a e];constructor;intro h;exact xx om;intro h;rw[h];rfl
theorem Qy2{x y c d:Nat}(e:x<4294967296)(f:y<4294967296)(a:c<4294967296)(hd:d<4294967296):x*y+c+d<18446744073709551616:=by have:x*y<=4294967295*4294967295:=gv om om;omega
theorem Qsd{x y c d:Nat}(e:x<4294967296)(f:y<4294967296)(a:c<4294967296)(hd:d<4294967296):
 Qgd x y c d=some ((x*y+c+d) / 4294967296,(x*y+c+d)%4294967296):=by
 have h:=Qy2 e f a hd;unfold Qgd;rw[xv (show x*y<18446744073709551616 by omega),xv (show x*y+c<18446744073709551616 by omega),xv h,sbind];rw[show(2:Nat) ^ 32=4294967296 by rfl,xv (show(x*y+c+d) / 4294967296<4294967296 by omega)]
theorem Q7u{x y:Nat}(a:y<4294967296):x*4294967296 ||| y=x*4294967296+y:=by have:=Nat.two_pow_add_eq_or_of_lt (i:=32) (b:=y) (by simpa using a) x;rw[show(2:Nat) ^ 32=4294967296 by rfl,uv] at this;exact this.symm
theorem Qzt{h l y:Nat}(f:h<y)(d:l<4294967296)(g:y<4294967296):
 Qhu h l y=some ((h*4294967296+l) / y,(h*4294967296+l)%y,true):=by
 unfold Qhu;rw[bifd,oj om,grd_t oh,sbind,sbind];rw[show(2:Nat) ^ 32=4294967296 by rfl,xv (show h*4294967296<18446744073709551616 by omega),Q7u d]
 have a:(h*4294967296+l) / y<4294967296:=jr (by
  have:h*4294967296+4294967296<=y*4294967296:=om
  omega)
 have e:(h*4294967296+l)%y<y:=uw _ om;rw[xv a,xv (show(h*4294967296+l)%y<4294967296 by omega)]
theorem Jnf{α:Type}(p:List α)(y:α)(r:List α):(p++y::r)[p.length]?=some y:=oc
theorem Jng{α:Type}(p:List α)(y z:α)(r:List α):(p++y::r).set p.length z=p++z::r:=oc
theorem Ws{α:Type}{k:Nat}{p:List α}{y:α}{r:List α}(h:p.length=k):getI (p++y::r) (k:Int)=some y:=by rw[Qfh,<-h,Jnf]
theorem Zk{α:Type}{k:Nat}{p:List α}{y z:α}{r:List α}(h:p.length=k):(p++y::r).set (k:Int).toNat z=p++z::r:=by rw[ya,<-h,Jng]
theorem Vh(a:List Nat)(x:Nat):val (a++[x])=val a+bp a.length*x:=by rw[Y8];simp[val]
theorem Jje{α:Type}{l:List α}{k:Nat}(h:k<l.length):l=l.take k++l[k]::l.drop (k+1):=oc
theorem Jlf(P x y m a u v V M A c:Nat)(e:4294967296*u+v=x*y+m+a)(d:V+P*a=M+x*A+c):V+P*v+P*4294967296*u=M+P*m+x*(A+P*y)+c:=by grind
theorem Jaw{p m q a:List Nat}{z x c:Nat}(J:m.length=a.length)(hp:p.length+m.length+1+q.length<=4611686018427387904)(C:Wd m)(B:Wd a)(G:x<4294967296)(I:c<4294967296):
 ∃ r,Qht (p++m++z::q) (p.length:Int) a x c=some (p++r++q)/\r.length=a.length+1/\Wd r/\val r=val m+x*val a+c:=by
 have E:∃ r,Qht (p++m++z::q) (p.length:Int) a x c=some r/\∃ l,r=p++l++q/\l.length=a.length+1/\Wd l/\val l=val m+x*val a+c:=by
  unfold Qht;refine Qwm (λj (s:List Nat×Nat)=>∃ e,s.1=p++e++(m.drop j++z::q)/\e.length=j/\j<=a.length/\Wd e/\s.2<4294967296/\val e+bp j*s.2=val (m.take j)+x*val (a.take j)+c) ⟨[],oc,rfl,yx _,W9,I,by simp[val,Qbn]⟩ ?_ ?_;rintro j y ⟨o,w⟩ F ⟨e,f,g,A,n,d,t⟩;simp only at f d t;subst f;have i:j<a.length:=by rcases xl j a.length with h | h;exact h;simp[xd h] at F
  have H:a[j]=y:=by simpa [i] using F
  have v:y<4294967296:=by rw[<-H];exact Qca B i
  have k:j<m.length:=om
  have u:m[j]<4294967296:=Qca C k;rw[w64 om om,show((p.length:Int)+(j:Int))=((p.length+j:Nat):Int) by omega,xe k,yu];rw[Ws oh,sbind,Qsd G v u d,sbind,sbind,Zk oh];refine⟨_,rfl,e++[(x*y+m[j]+w)%4294967296],oc,by simp[g],om,Kv.2 ⟨n,K0.2 ⟨om,W9⟩⟩,by have:=Qy2 G v u d;simp only[];omega,?_⟩;rw[We k,We i,Vh,Vh,Vh,H,g,xa,xa,ye om,ye om,W0];exact Jlf _ _ _ _ _ _ _ _ _ _ _ (vj (x*y+m[j]+w) 4294967296) t;rintro⟨o,w⟩ ⟨e,f,g,A,n,d,t⟩;simp only at f d t;subst f;simp only[Vn];rw[w64 om om,show((p.length:Int)+(a.length:Int))=((p.length+a.length:Nat):Int) by omega,xj om,yw];rw[Ws oh,sbind,Zk oh];refine⟨_,rfl,e++[w],oc,by simp[g],Kv.2 ⟨n,K0.2 ⟨d,W9⟩⟩,?_⟩;rw[Vh,g,t,xb om,xb (xr _)]
 obtain⟨r,f,l,g,A,n,d⟩:=E;exact⟨l,by rw[f,g],A,n,d⟩
theorem Qir{n x:Nat}(hn:big<=n)(d:x<18446744073709551616):Qcu n x=some (toL x):=by
 unfold Qcu
 rw[show(2:Nat) ^ 32=4294967296 by rfl,Zn hn oc,sbind,<-K1 (by
  intro y a;simp only[xu,List.not_mem_nil,or_false] at a
  rcases a with rfl | rfl<;>omega)]
 congr 2;simp only[val];omega
theorem Jlg(P q a r x s y d:Nat)(e:x*q+a=r*P+y)(h:d=x*s+r):y+P*d=x*(q+P*s)+a:=by grind
theorem Q7v{n:Nat}{a:List Nat}{x:Nat}(hn:big<=n)(B:a.length<35184372088832)(y:Wd a)(v:x≠0)(A:x<4294967296):Qky n a x=some (toL (val a / x),val a%x,true):=by
 unfold Qky;unfold big at hn;rw[bifd,oj v,Qev om om,sbind]
 refine Qb9 (λs=>(s.2.2+1).toNat) (λs=>∃(k:Nat) (e:List Nat),s.2.2=(k:Int) - 1/\k<=a.length/\s.1=List.replicate k 0++e/\e.length=a.length - k/\Wd e/\s.2.1<x/\val (a.drop k)=x*val e+s.2.1)
  (λt=>t.1.length=a.length/\Wd t.1/\t.2<x/\val a=x*val t.1+t.2) ⟨a.length,[],by simp only[];rw[w64 om om],xr _,oc,oc,W9,by simp only[];omega,by simp[val]⟩ (by simp only[];rw[w64 om om];omega) ?_ ?_
 rintro⟨q,r,i⟩ ⟨k,e,f,m,d,g,w,p,u⟩;simp only at f d p u;subst f d;simp only[bifd];by_cases h0:0<k;obtain⟨j,rfl⟩:∃ j,k=j+1:=⟨k - 1,om⟩
 have l:j<a.length:=om
 left;rw[oq om,show((j+1:Nat):Int) - 1=(j:Nat) by omega,Qb8 l,sbind,Qzt p (Qca y l) A,sbind];simp only[];rw[ju,xf,dq,Ws oc,sbind,Zk oc,w64 om om];refine⟨_,rfl,⟨j,((r*4294967296+a[j]) / x)::e,rfl,om,rfl,oh,K0.2 ⟨?_,w⟩,uw _ om,?_⟩,by simp only[];omega⟩;have:=Qca y l
 exact jr (by
  have:r*4294967296+4294967296<=x*4294967296:=om
  omega)
 rw[xe l];simp only[val];exact Jlg 4294967296 _ _ _ _ _ _ _ (vj (r*4294967296+a[j]) x) u;right;obtain rfl:k=0:=om
 rw[oj om];exact⟨_,rfl,by simp at g |-;omega,by simpa using w,p,by simpa using u⟩;rintro⟨q,r⟩ ⟨f,m,d,g⟩;simp only at f m d g;simp only[];rw[Y1 (by unfold big;exact hn) om,sbind,<-K1 m,g,Nat.mul_add_div om,Nat.mul_add_mod,ge d,xv d,xp]
theorem Qmp{a:List Nat}(h:Wd a)(i:Nat):a.getD i 0<4294967296:=by rw[ot];by_cases hi:i<a.length;simp[hi];exact Qca h hi;simp[xd (show a.length<=i by omega)]
theorem Y2(a:List Nat)(k:Nat):val (a.take (k+1))=val (a.take k)+bp k*a.getD k 0:=by by_cases h:k<a.length;rw[We h,Vh,xa,ye om];simp[h];rw[xb om,xb om];simp[xd (show a.length<=k by omega)]
def cmpI(x y:Nat):Int:=if x<y then -1 else if y<x then 1 else 0
theorem Jnh{n:Nat}(h:n≠0):bp ((toL n).length - 1)<=n:=by
 induction n using Nat.strongRecOn with
 | _ n g=>
   rw[Qdx h,xn,Nat.add_sub_cancel];by_cases a:n / 4294967296=0;rw[a,Yb,yr,Qbn];omega;have:=g (n / 4294967296) om a;have i:(toL (n / 4294967296)).length≠0:=by rw[Qdx a];simp
   obtain⟨m,d⟩:∃ m,(toL (n / 4294967296)).length=m+1:=⟨(toL (n / 4294967296)).length - 1,om⟩
   rw[d,Nat.add_sub_cancel] at this;rw[d,W0];have e:bp m*4294967296<=n / 4294967296*4294967296:=xh _ this;have f:n / 4294967296*4294967296<=n:=Nat.div_mul_le_self _ _;exact xo e f
theorem Q5u{m n:Nat}(h:(toL m).length<(toL n).length):m<n:=by
 have a:=Zh (Jo m);rw[Q8] at a;have hn:n≠0:=by rintro rfl;rw[Yb] at h;simp at h
 have d:=Jnh hn;have e:bp (toL m).length<=bp ((toL n).length - 1):=bp_le om;exact xt a (xo e d)
theorem Jc0(a:List Nat)(k:Nat):val a=val (a.take k)+bp (a.take k).length*val (a.drop k):=by
 conv=>lhs;rw[<-ue k a]
 rw[Y8]
theorem Jlh{P x y u v A:Nat}(f:A<P)(a:x<y)(d:u=A+P*x)(e:P*y<=v):u<v:=by have:P*(x+1)<=P*y:=ut _ a;rw[dz] at this;omega
theorem Q2h{a b:List Nat}{j:Nat}(i:Wd a)(l:j<a.length)(d:j<b.length)(m:a.drop (j+1)=b.drop (j+1))(h:a[j]<b[j]):val a<val b:=by have e:=Jc0 a (j+1);have f:=Jc0 b (j+1);rw[xa,ye om] at e f;rw[e,f,m];refine Nat.add_lt_add_right ?_ _;rw[We l,We d,Vh,Vh,xa,xa,ye om,ye om];have g:=Zh (Qs8 (k:=j) i);rw[xa,ye om] at g;exact Jlh g h rfl (Nat.le_add_left _ _)
theorem Ql9{n:Nat}{a b:List Nat}(hn:big<=n)(v:a.length<=4611686018427387904)(hb:b.length<=4611686018427387904)(g:Wd a)(r:Wd b):Qgm n a b=some (cmpI (val a) (val b)):=by
 unfold Qgm;rw[Zn hn v,sbind,Zn hn hb,sbind,<-K1 g,<-K1 r];have B:(toL (val a)).length<=4611686018427387904:=by rw[K1 g];exact xo (Qag a) v
 have e:=Q8 (val a);have f:=Q8 (val b);have i:=Jo (val a);have l:=Jo (val b);have l1:=@Q5u (val a) (val b);have w:=@Q5u (val b) (val a);generalize val a=x at *;generalize val b=y at *;generalize toL x=a' at *;generalize toL y=b' at *;unfold big at hn;rw[bifd,bifd];by_cases A:a'.length<b'.length;rw[oq om,cmpI,oq (l1 A)];rw[oj om];by_cases u:b'.length<a'.length;rw[oq om,cmpI,oj (by have:=w u;omega),oq (w u)];rw[oj om,w64 om om];refine Qb9 (λs=>(s+1).toNat) (λs=>∃ k:Nat,s=(k:Int) - 1/\k<=a'.length/\a'.drop k=b'.drop k) (λt=>(t=.go ()/\a'=b')\/(t=.out (-1)/\x<y)\/(t=.out 1/\y<x)) ⟨a'.length,rfl,xr _,by rw[xj (xr _),xj om]⟩ om ?_ ?_;rintro s ⟨k,rfl,hk,p⟩;simp only[bifd];by_cases h0:0<k;obtain⟨j,rfl⟩:∃ j,k=j+1:=⟨k - 1,om⟩
 have m:j<a'.length:=om
 have d:j<b'.length:=om
 rw[oq om,show((j+1:Nat):Int) - 1=(j:Nat) by omega,Qb8 m,sbind,Qb8 d,sbind];by_cases g1:a'[j]<b'[j];right;rw[oq g1];refine⟨_,rfl,.inr (.inl ⟨rfl,?_⟩)⟩;rw[<-e,<-f];exact Q2h i m d p g1;rw[oj g1,sbind,sbind];by_cases q:b'[j]<a'[j];right;rw[oq q];refine⟨_,rfl,.inr (.inr ⟨rfl,?_⟩)⟩;rw[<-e,<-f];exact Q2h l d m p.symm q;left;rw[oj q,w64 om om];refine⟨_,rfl,⟨j,rfl,om,?_⟩,om⟩;rw[xe m,xe d,p,show a'[j]=b'[j] by omega];right;obtain rfl:k=0:=om
 rw[oj om];exact⟨_,rfl,.inl ⟨rfl,by simpa using p⟩⟩;rintro t (⟨rfl,h⟩ | ⟨rfl,h⟩ | ⟨rfl,h⟩);rw[Vn];have:x=y:=by rw[<-e,<-f,h]
 simp[cmpI,this];rw[Yz,cmpI,oq h];rw[Yz,cmpI,oj om,oq h]
theorem Jjf{v:Nat}(h:v<18446744073709551616):toL v=[]\/(∃ x,toL v=[x]/\x=v)\/(∃ x y,toL v=[x,y]/\x<4294967296/\y<4294967296/\x+4294967296*y=v):=by
 have f:=Qeh (n:=v) (k:=2) (by rw[W0,W0,Qbn];omega);have a:=Q8 v;have d:=Jo v
 match e:toL v,f with
 | [],_=>exact .inl rfl
 | [x],_=>rw[e] at a;simp[val] at a;exact .inr (.inl ⟨x,rfl,a⟩)
 | [x,y],_=>
   rw[e] at a d;simp[val] at a;exact .inr (.inr ⟨x,y,rfl,(K0.1 d).1,(K0.1 (K0.1 d).2).1,om⟩)
 | _::_::_::_,h=>simp at h
theorem Jfo{v:Nat}(h:18446744073709551616<=v):2<(toL v).length:=by rcases xl 2 (toL v).length with a | a;exact a;have d:=Zh (Jo v);rw[Q8] at d;have e:=bp_le a;rw[W0,W0,Qbn] at e;omega
theorem Qxh{n:Nat}{a:List Nat}(hn:big<=n)(d:a.length<=4611686018427387904)(e:Wd a):Qkz n a=some (if val a<18446744073709551616 then (val a,true) else (0,false)):=by unfold Qkz;rw[Zn hn d,sbind,<-K1 e,bifd];by_cases h:val a<18446744073709551616;rw[oq h];rcases Jjf h with h1 | ⟨x,h1,h2⟩ | ⟨x,y,h1,h2,h3,h4⟩;have:=Q8 (val a);rw[h1] at this |-;rw[oj oz];simp only[val] at this;simp only[rangeL,sbind,Vn,<-this];rw[h1,oj oc];simp only[rangeL];rw[w64 om om,grd_t oz,sbind,sbind,sbind,sbind];simp only[Vn];subst h2;simp;omega;rw[h1,oj oc];simp only[rangeL];rw[w64 (x:=32*((0:Nat):Int)) om om,grd_t oz,sbind,sbind,sbind,w64 om om,grd_t oz];simp only[sbind,Vn];rw[show(2:Nat) ^ min (Int.toNat (32*((0:Nat):Int))) 64=1 by rfl,show(2:Nat) ^ min (Int.toNat (32*((0+1:Nat):Int))) 64=4294967296 by rfl,Nat.mul_one,xv (show x<18446744073709551616 by omega),xv (show y*4294967296<18446744073709551616 by omega),Nat.zero_or,Nat.or_comm,Q7u h2];congr 2;omega;rw[oj h];have:=Jfo (v:=val a) om;rw[oq om]
theorem Qn8{x y c:Nat}(d:x<4294967296)(e:y<4294967296)(a:c<4294967296):
 Qce x y c=some ((x+y+c)%4294967296,(x+y+c) / 4294967296):=by
 unfold Qce;simp only[jn_eq,bifd];split<;>split<;>congr 1<;>refine Prod.ext ?_ ?_<;>simp only[]<;>omega
theorem Qse{x y c:Nat}(e:x<4294967296)(f:y<4294967296)(a:c<=1):
 ∃ d b,Qj7 x y c=some (d,b)/\d<4294967296/\b<=1/\d+y+c=x+4294967296*b:=by
 unfold Qj7;simp only[jn_eq,bifd,sbind];split<;>split<;>refine⟨_,_,rfl,?_,?_,?_⟩<;>omega
theorem Jjg(P s x y u v V A C:Nat)(e:4294967296*u+v=x+y+s)(h:V+P*s=A+C):V+P*v+P*4294967296*u=A+P*x+(C+P*y):=by grind
theorem Jfp{k:Nat}{b:List Nat}{β:Type}(f:Nat->Option β):(if (k:Int)<(b.length:Int) then (getI b (k:Int)).bind f else f 0)=f (b.getD k 0):=by by_cases h:k<b.length;rw[oq om,Qb8 h,sbind];simp[h];rw[oj om];simp[xd (show b.length<=k by omega)]
theorem Jfq{n:Nat}{a b:List Nat}(hn:big<=n)(x:a.length<17592186044416)(w:b.length<=a.length)(q:Wd a)(k:Wd b):Qj6 n a b=some (toL (val a+val b)):=by
 unfold Qj6;simp only[jn_eq,bifd];rw[oj om];rw[show(1:Int)=((1:Nat):Int) by rfl,Qqz om,sbind];refine Qp5 (λj (s:List Nat×Nat)=>∃ f,s.1=f++(List.drop j a++[0])/\f.length=j/\j<=a.length/\Wd f/\s.2<=1/\val f+bp j*s.2=val (a.take j)+val (b.take j)) ⟨[],oc,rfl,yx _,W9,oc,by simp[val,Qbn]⟩ ?_ ?_;rintro j y ⟨o,l⟩ t ⟨f,g,e,v,m,p,i⟩;simp only at g p i;subst g;have d:j<a.length:=by
  rcases xl j a.length with h | h;exact h;simp[xd h] at t
 have u:a[j]=y:=by simpa [d] using t
 have r:y<4294967296:=by rw[<-u];exact Qca q d
 rw[Jfp,Qn8 r (Qmp k j) (by simp only[];omega),sbind,xe d,yu,Ws e,sbind,Zk e];refine⟨_,rfl,f++[(y+b.getD j 0+l)%4294967296],oc,by simp[e],om,Kv.2 ⟨m,K0.2 ⟨om,W9⟩⟩,?_,?_⟩;have:=Qmp k j;simp only[];omega;rw[Y2,Y2,Vh,e,W0];rw[show a.getD j 0=y by rw[<-u];simp[d]];exact Jjg _ _ _ _ _ _ _ _ _ (vj (y+b.getD j 0+l) 4294967296) i;rintro⟨o,l⟩ ⟨f,g,e,v,m,p,i⟩;simp only at g p i;subst g;simp only[Vn];rw[xj (xr _),yw,Ws e,sbind,Zk e,Zn hn oh,sbind,<-K1 (Kv.2 ⟨m,K0.2 ⟨om,W9⟩⟩),Vh,e,i,xb (xr _),xb w]
theorem Qzu{n:Nat}{a b:List Nat}(hn:big<=n)(f:a.length<17592186044416)(hb:b.length<17592186044416)(d:Wd a)(e:Wd b):Qj6 n a b=some (toL (val a+val b)):=by by_cases g:b.length<=a.length;exact Jfq hn f g d e;rw[Nat.add_comm,<-Jfq hn hb om e d];unfold Qj6;simp only[jn_eq,bifd];rw[oq om,oj om]
theorem Jc1{n:Nat}{a b:List Nat}(hn:big<=n)(i:a.length<17592186044410)(hb:b.length<17592186044410)(d:Wd a)(e:Wd b):Qln n [a,b]=some (toL (val a+val b)):=by unfold Qln;have f:=Qzu (a:=[]) (b:=toL (val a)) hn oc (by have:=Qag a;rw[K1 d];omega) W9 (Jo _);have g:=Qzu (a:=toL (val a)) (b:=toL (val b)) hn (by have:=Qag a;rw[K1 d];omega) (by have:=Qag b;rw[K1 e];omega) (Jo _) (Jo _);rw[Q8] at f g;rw[Q8] at g;simp only[val,xg] at f;simp only[rangeL,Zn hn (show a.length<=4611686018427387904 by omega),Zn hn (show b.length<=4611686018427387904 by omega),sbind,<-K1 d,<-K1 e,f,g,Vn]
theorem Qmq{α:Type}{l:List α}{i:Nat}{x:α}(h:l[i]?=some x):i<l.length:=by rcases xl i l.length with a | a;exact a;rw[xd a] at h;cases h
theorem Y9{x y:Nat}(h:x<=y):(toL x).length<=(toL y).length:=by refine Qeh ?_;have:=Zh (Jo y);rw[Q8] at this;omega
theorem Q33(P c a x y d V A B:Nat)(e:d+y+c=x+4294967296*a)(h:V+B=A+P*c):V+P*d+(B+P*y)=A+P*x+P*4294967296*a:=by grind
theorem Q1b{n:Nat}{a b:List Nat}(hn:big<=n)(K:a.length<17592186044416)(hb:b.length<17592186044416)(m:Wd a)(q:Wd b):
 Qrm n a b=some (if val a<val b then ([],false) else (toL (val a - val b),true)):=by
 unfold Qrm;have L:(toL (val a)).length<17592186044416:=by rw[K1 m];exact um (Qag a) K
 have M:(toL (val b)).length<17592186044416:=by rw[K1 q];exact um (Qag b) hb
 rw[Zn hn om,sbind,Zn hn om,sbind,<-K1 m,<-K1 q,Ql9 hn om om (Jo _) (Jo _),sbind,Q8,Q8];have B:=Q8 (val a);have C:=Q8 (val b);have p:=Jo (val a);have r:=Jo (val b);have A:=λh=>Y9 (x:=val b) (y:=val a) h;generalize val a=x at *;generalize val b=y at *;generalize toL x=a' at *;generalize toL y=b' at *;rw[bifd];by_cases f:x<y;rw[oq (by rw[cmpI,oq f];decide),oq f];rw[oj (by rw[cmpI,oj f];split<;>decide),oj f];have A:=A om;simp only[jn_eq,bifd];rw[show(0:Int)=((0:Nat):Int) by rfl,Qqz om,sbind];refine Qp5 (λj (s:List Nat×Nat)=>∃ g,s.1=g++List.drop j a'/\g.length=j/\j<=a'.length/\Wd g/\s.2<=1/\val g+val (b'.take j)=val (a'.take j)+bp j*s.2) ⟨[],oc,rfl,yx _,W9,oc,by simp[val]⟩ ?_ ?_;rintro j w ⟨o,t⟩ F ⟨g,l,i,I,u,v,k⟩;simp only at l v k;subst l;have e:j<a'.length:=Qmq F;have G:a'[j]=w:=by simpa [e] using F
 have E:w<4294967296:=by rw[<-G];exact Qca p e
 obtain⟨d,N,g1,H,g3,g4⟩:=Qse E (Qmp r j) v;rw[Jfp,g1,sbind,xe e,Ws i,sbind,Zk i];refine⟨_,rfl,g++[d],oc,by simp[i],om,Kv.2 ⟨u,K0.2 ⟨H,W9⟩⟩,g3,?_⟩;rw[Y2,Y2,Vh,i,W0];rw[show a'.getD j 0=w by rw[<-G];simp[e]];exact Q33 _ _ _ _ _ _ _ _ _ g4 k;rintro⟨o,t⟩ ⟨g,l,i,I,u,v,k⟩;simp only at l v k;subst l;simp only[Vn];rw[xb (xr _),xb A,B,C] at k;rw[xj (xr _),uh,Zn hn om,sbind,<-K1 u];have J:t=0:=by
  have g1:=Zh u;rw[i] at g1;rcases gn t with h | h;exact h;have O:bp a'.length*1<=bp a'.length*t:=ut _ h;omega
 subst J;rw[vv] at k;congr 3;omega
theorem Jc2{n:Nat}{a b:List Nat}(hn:big<=n)(f:a.length<17592186044416)(hb:b.length<17592186044416)(d:Wd a)(e:Wd b):
 Qrn n a b=some (toL (val a - val b+(val b - val a)),cmpI (val a) (val b)):=by
 unfold Qrn;rw[Ql9 hn om om d e,sbind];simp only[jn_eq,bifd];by_cases h:val a<val b;rw[oq (by rw[cmpI,oq h];decide),Q1b hn hb f e d,oj om,sbind];rw[show val a - val b+(val b - val a)=val b - val a by omega];rw[oj (by rw[cmpI,oj h];split<;>decide),Q1b hn f hb d e,oj h,sbind];rw[show val a - val b+(val b - val a)=val a - val b by omega]
def blen(x:Nat):Nat:=if x=0 then 0 else Nat.log2 x+1
theorem Qj3:blen 0=0:=by unfold blen;rw[oq rfl]
theorem Q7w{x k:Nat}(a:2 ^ k<=x)(d:x<2 ^ (k+1)):blen x=k+1:=by
 have h0:x≠0:=by have:=vr k;omega
 unfold blen;rw[oj h0,(Nat.log2_eq_iff h0).2 ⟨a,d⟩]
theorem Qs9{x:Nat}:x<2 ^ blen x:=by unfold blen;by_cases h0:x=0;rw[oq h0,h0];decide;rw[oj h0];exact Nat.lt_log2_self
theorem Qq0{x:Nat}(h0:x≠0):2 ^ (blen x - 1)<=x:=by unfold blen;rw[oj h0];exact Nat.log2_self_le h0
theorem Qy3{x:Nat}(h0:x≠0):1<=blen x:=by unfold blen;rw[oj h0];omega
theorem Jc3{x w:Nat}(h:x / 2 ^ w≠0):blen x=blen (x / 2 ^ w)+w:=by
 have a:=Qq0 h;have d:=Qs9 (x:=x / 2 ^ w);have e:=Qy3 h;obtain⟨k,hk⟩:∃ k,blen (x / 2 ^ w)=k+1:=⟨_,(Nat.sub_add_cancel e).symm⟩
 rw[hk,Nat.add_sub_cancel] at a;rw[hk] at d |-;rw[show k+1+w=(k+w)+1 by omega];refine Q7w ?_ ?_;rw[wj];exact(Nat.le_div_iff_mul_le (vr w)).1 a;rw[show k+w+1=(k+1)+w by omega,wj];exact(jo (vr w)).1 d
theorem Qzv{n x:Nat}(hn:big<=n)(m:x<4294967296):Qmi n x=some (blen x:Int):=by
 unfold Qmi;unfold big at hn
 refine Qb9 (λs=>s.2.2.toNat) (λs=>∃(w k B:Nat),s.2.2=w/\s.2.1=k/\(w,B)∈[(16,4294967296),(8,65536),(4,256),(2,16),(1,4),(0,2)]/\s.1<B/\k+2*w<=32/\blen x=k+blen s.1)
  (λt=>∃ k:Nat,t.2=k/\k<=32/\t.1<2/\blen x=k+blen t.1) ⟨16,0,4294967296,rfl,rfl,oz,m,oz,oc⟩ (by simp only[];omega) ?_ ?_
 rintro⟨y,c,w'⟩ ⟨w,k,B,d,i,e,a,p,f⟩;simp only at d i a f;subst d i;simp only[jn_eq,bifd,bifnd];by_cases h0:0<w;left;rw[oq om,grd_t oc,sbind,sbind,ya];have q:w<=16:=om
 have hd:Int.tdiv (w:Int) 2=((w / 2:Nat):Int):=oa
 rw[hd,ye om,w64 (x:=((w / 2:Nat):Int)) om om,w64 om om];have l:∃ B',(w / 2,B')∈[(16,4294967296),(8,65536),(4,256),(2,16),(1,4),(0,2)]/\B'*2 ^ w=B/\(2 ^ w<=B'):=by simp only[xu,List.not_mem_nil,or_false,Prod.mk.injEq] at e;rcases e with ⟨rfl,rfl⟩ | ⟨rfl,rfl⟩ | ⟨rfl,rfl⟩ | ⟨rfl,rfl⟩ | ⟨rfl,rfl⟩ | ⟨rfl,rfl⟩;exact⟨65536,oz,oz,oz⟩;exact⟨256,oz,oz,oz⟩;exact⟨16,oz,oz,oz⟩;exact⟨4,oz,oz,oz⟩;exact⟨2,oz,oz,oz⟩;omega
 obtain⟨B',g1,j,g3⟩:=l;by_cases g:y / 2 ^ w=0;rw[oq g];refine⟨_,rfl,⟨w / 2,k,B',rfl,rfl,g1,?_,om,f⟩,by simp only[];omega⟩;have:=(Nat.div_eq_zero_iff_lt (vr w)).1 g;exact xt this g3;rw[oj g];refine⟨_,rfl,⟨w / 2,k+w,B',rfl,by simp only[];omega,g1,?_,om,?_⟩,by simp only[];omega⟩;rw[<-j] at a;exact(jo (vr w)).2 a;rw[f,Jc3 g];simp only[];omega;right;obtain rfl:w=0:=om
 rw[oj om];simp only[xu,List.not_mem_nil,or_false,Prod.mk.injEq] at e;refine⟨_,rfl,k,rfl,om,by simp only[];omega,f⟩;rintro⟨y,c⟩ ⟨k,d,i,e,a⟩;simp only at d e a;subst d;rw[a,w64 (by simp only[];omega) (by simp only[];omega)];have:blen y=y:=by
  have:y=0\/y=1:=om
  rcases this with rfl | rfl;rw[Qj3];exact Q7w (k:=0) oz oz
 rw[this];simp
theorem Qnz(k:Nat):bp k=2 ^ (32*k):=by unfold bp;rw[Nat.pow_mul]
theorem Q34{v:Nat}(h:toL v≠[]):∃ p x,toL v=p++[x]/\x≠0/\x<4294967296/\Wd p:=by have a:=Jo v;rcases jp (toL v) with h0 | ⟨p,x,h1⟩;exact absurd h0 h;rw[jq] at h1;refine⟨p,x,h1,?_,?_,?_⟩;rintro rfl;have d:=Jjd v;rw[h1,Qwn] at d;have:=Qag p;rw[d] at this;simp at this;omega;rw[h1] at a;exact(K0.1 (Kv.1 a).2).1;rw[h1] at a;exact(Kv.1 a).1
theorem Jjh{p:List Nat}{x:Nat}(hp:Wd p)(d:x≠0):blen (val (p++[x]))=32*p.length+blen x:=by
 have a:=Zh hp;have hd:val (p++[x]) / 2 ^ (32*p.length)=x:=by rw[<-Qnz,Vh,jv _ _ (Jjc _),ge a,xg]
 rw[Jc3 (w:=32*p.length) (by rw[hd];exact d),hd,Nat.add_comm]
theorem Qzw{n:Nat}{a:List Nat}(hn:big<=n)(m:a.length<17592186044416)(e:Wd a):Qhy n a=some (blen (val a):Int):=by
 unfold Qhy;rw[Y1 hn om,sbind,<-K1 e,bifd];have g:(toL (val a)).length<17592186044416:=by rw[K1 e];exact um (Qag a) m
 by_cases h:toL (val a)=[]
 rw[oq (by rw[h];rfl)];rw[K1 e] at h;rw[Q9k h,Qj3];rfl;rw[oj (by intro q;exact h (xx om))];obtain⟨p,x,d,f,k,l⟩:=Q34 h;have i:val a=val (p++[x]):=by rw[<-d,Q8]
 rw[i,Jjh l f];rw[i] at d g;rw[d] at g;rw[d,yn,uy] at *;rw[w64 (x:=((p.length+1:Nat):Int) - 1) om om,show((p.length+1:Nat):Int) - 1=(p.length:Nat) by omega,Ws rfl,sbind,Qzv hn k,sbind,sbind];have hb:blen x<=32:=by rcases xl 32 (blen x) with h | h;have g1:=Qq0 f;have j:2 ^ 32<=2 ^ (blen x - 1):=jm oz om;rw[show(2:Nat) ^ 32=4294967296 by decide] at j;omega;exact h
 rw[w64 (x:=32*(p.length:Int)) om om,w64 om om];congr 1
theorem Jji(P M R x A B m V:Nat)(a:V=M+P*m)(d:R=m+x*A+0)(e:V=A*B):M+P*R=A*(B+P*x):=by grind
theorem Qhm{n:Nat}{a b:List Nat}(hn:big<=n)(E:a.length<8796093022208)(hb:b.length<8796093022208)(l:Wd a)(t:Wd b):Qde n a b=some (toL (val a*val b)):=by
 unfold Qde;rw[w64 (x:=(a.length:Int)+(b.length:Int)) om om,w64 om om,show((a.length:Int)+(b.length:Int))+1=((a.length+b.length+1:Nat):Int) by omega,Qev om om,sbind];refine Qp5 (λj (s:List Nat)=>∃ d,s=d++List.replicate (b.length+1 - j) 0/\d.length=j+a.length/\j<=b.length/\Wd d/\val d=val a*val (b.take j)) ⟨List.replicate a.length 0,by rw[List.replicate_append_replicate];congr 1,oc,yx _,Qp7 om,by simp[val,Qiq]⟩ ?_ ?_
 . rintro j x o v ⟨d,i,y,A,g,k⟩
   subst i;have e:j<b.length:=Qmq v;have w:b[j]=x:=by simpa [e] using v
   have u:x<4294967296:=by rw[<-w];exact Qca t e
   obtain⟨r,g1,C,g3,g4⟩:=Jaw (p:=d.take j) (m:=d.drop j) (q:=List.replicate (b.length - j) 0) (a:=a) (z:=0) (x:=x) (c:=0) oh oh (Qox g) l u om;have f:(d.take j).length=j:=oh
   rw[f,ue] at g1;rw[show b.length+1 - j=(b.length - j)+1 by omega,uq,g1,sbind];refine⟨_,rfl,d.take j++r,by rw[show b.length+1 - (j+1)=b.length - j by omega],oh,om,Kv.2 ⟨Qs8 g,g3⟩,?_⟩;have B:val d=val (d.take j)+bp j*val (d.drop j):=by
    conv=>lhs;rw[<-ue j d]
    rw[Y8,f]
   rw[Y8,f,Y2,show b.getD j 0=x by rw[<-w];simp[e]];exact Jji _ _ _ _ _ _ _ _ B g4 k
 . rintro o ⟨d,i,y,A,g,k⟩
   subst i;simp only[Vn];rw[Y1 hn oh,sbind,<-K1 (Kv.2 ⟨g,Qp7 om⟩),Y8,Qiq,vv,xp,k,xb (xr _)]
theorem lo_eq{x r:Nat}(hr:r<=32):(x*2 ^ r)%4294967296=(x%2 ^ (32 - r))*2 ^ r:=by rw[show(4294967296:Nat)=2 ^ (32 - r)*2 ^ r by rw[<-wj,show 32 - r+r=32 by omega],Nat.mul_mod_mul_right]
theorem or_lo{c x r:Nat}(hr:r<=32)(a:c<2 ^ r):c ||| (x*2 ^ r)%4294967296=c+(x*2 ^ r)%4294967296:=by rw[lo_eq hr,Nat.or_comm,uv,<-Nat.two_pow_add_eq_or_of_lt a,Nat.add_comm]
theorem hi_lt{x r:Nat}(a:x<4294967296):(x*2 ^ r) / 4294967296<2 ^ r:=
 jr (Nat.mul_lt_mul_of_pos_right a (vr r))
theorem Qy4{r:Nat}(hr:r<=32):2 ^ r<=4294967296:=by have h:2 ^ r<=2 ^ 32:=jm oz hr;rwa [show(2:Nat) ^ 32=4294967296 by rfl] at h
theorem sh_lt{x r:Nat}(hr:r<=32)(a:x<4294967296):x*2 ^ r<18446744073709551616:=by have h:=Qy4 hr;have:x*2 ^ r<=4294967295*4294967296:=gv om h;omega
theorem Jni(P c V A R x lo hi:Nat)(e:4294967296*hi+lo=x*R)(h:V+P*c=A*R):V+P*(c+lo)+P*4294967296*hi=(A+P*x)*R:=by grind
theorem Q1c{n k:Nat}{a:List Nat}(hn:big<=n)(I:a.length<8796093022208)(G:Wd a)(hk:k<=4096):Qlo n a (k:Int)=some (toL (val a*2 ^ k)):=by
 unfold Qlo;rw[show min (max (k:Int) 0) 4096=(k:Int) by omega];rw[show Int.tdiv (k:Int) 32=((k / 32:Nat):Int) by rfl,show Int.tmod (k:Int) 32=((k%32:Nat):Int) by rfl];have hp:2 ^ k=bp (k / 32)*2 ^ (k%32):=by rw[Qnz,<-wj,vj]
 have H:k / 32<=128:=om
 have hr:k%32<=31:=om
 rw[hp];generalize k / 32=w at *;generalize k%32=r at *;rw[w64 (x:=(w:Int)) om om,sbind,w64 (x:=(w:Int)+(a.length:Int)) om om,w64 om om,show(w:Int)+(a.length:Int)+1=((w+a.length+1:Nat):Int) by omega,Qev om om,sbind];refine Qp5 (λj (s:List Nat)=>∃ e c,s=(List.replicate w 0++e)++c::List.replicate (a.length - j) 0/\e.length=j/\j<=a.length/\Wd e/\c<2 ^ r/\val e+bp j*c=val (a.take j)*2 ^ r) ⟨[],0,by rw[uh,<-uq,List.replicate_append_replicate];congr 1,rfl,yx _,W9,vr r,by simp[val]⟩ ?_ ?_;rintro j x s v ⟨e,c,p,m,F,q,u,t⟩;subst p;have g:j<a.length:=Qmq v;have A:a[j]=x:=by simpa [g] using v
 have i:x<4294967296:=by rw[<-A];exact Qca G g
 have f:(List.replicate w 0++e).length=w+j:=oh
 have g1:=sh_lt (r:=r) om i;have E:=hi_lt (r:=r) i;have g3:=Qy4 (r:=r) om;have g4:=or_lo (x:=x) (show r<=32 by omega) u;rw[grd_t oc,sbind,ya,ye om,xv g1,sbind,w64 (x:=(w:Int)+(j:Int)) om om,sbind,show(w:Int)+(j:Int)=((w+j:Nat):Int) by omega];rw[Ws f,sbind,sbind,sbind,Zk f,g4,show(2:Nat) ^ 32=4294967296 by rfl,xv (show x*2 ^ r / 4294967296<4294967296 by omega)];obtain⟨d,hd⟩:∃ d,a.length - j=d+1:=⟨a.length - j - 1,om⟩
 rw[w64 om om,show((w+j:Nat):Int)+1=((w+j+1:Nat):Int) by omega,hd,uq];rw[show ∀(y:Nat) (l:List Nat),List.replicate w 0++e++y::l=(List.replicate w 0++(e++[y]))++l by intro y l;simp];have hlen2:(List.replicate w 0++(e++[c+x*2 ^ r%4294967296])).length=w+j+1:=oh
 rw[Ws hlen2,sbind,Zk hlen2,sbind];refine⟨_,rfl,e++[c+x*2 ^ r%4294967296],x*2 ^ r / 4294967296,by rw[show a.length - (j+1)=d by omega],by simp[m],om,Kv.2 ⟨q,K0.2 ⟨?_,W9⟩⟩,E,?_⟩;rw[lo_eq om];have B:x%2 ^ (32 - r)+1<=2 ^ (32 - r):=uw _ (vr _);have C:=xh (2 ^ r) B;rw[<-wj,show 32 - r+r=32 by omega,show(2:Nat) ^ 32=4294967296 by rfl,Nat.add_mul,Nat.one_mul] at C;omega;rw[Y2,Vh,m,W0,show a.getD j 0=x by rw[<-A];simp[g]];exact Jni _ _ _ _ _ _ _ _ (vj (x*2 ^ r) 4294967296) t;rintro s ⟨e,c,p,m,F,q,u,t⟩;subst p;simp only[Vn];have g3:=Qy4 (r:=r) om;rw[Y1 hn oh,sbind,<-K1 (Kv.2 ⟨Kv.2 ⟨Qp7 om,q⟩,K0.2 ⟨om,Qp7 om⟩⟩)];rw[xf,Y8,Qiq,yt,xg,Y8];simp only[val];rw[Qiq,m,vv,xp,t,xb (xr _),Nat.mul_left_comm]
theorem Qve{a:List Nat}(e:Wd a)(k:Nat):val a / bp k=val (a.drop k):=by
 rcases xl k a.length with h | h
 . have f:val a=val (a.take k)+bp k*val (a.drop k):=by
    conv=>lhs;rw[<-ue k a]
    rw[Y8,xa,ye om]
   have d:=Zh (Qs8 (k:=k) e);rw[xa,ye om] at d;rw[f,jv _ _ (Jjc k),ge d,xg]
 . rw[xj h]
   exact ge (xt (Zh e) (bp_le h))
theorem Jjj{a:List Nat}{k:Nat}(h:k<a.length):val (a.drop k)=a[k]+4294967296*(a.getD (k+1) 0+4294967296*val (a.drop (k+2))):=by rw[xe h];simp only[val];by_cases d:k+1<a.length;rw[xe d];simp[val,d];rw[xj om,xj om];simp[xd (show a.length<=k+1 by omega),val]
theorem Jli{v z r:Nat}(hr:r<=32):((v+4294967296*4294967296*z) / 2 ^ r)%4294967296=(v / 2 ^ r)%4294967296:=by
 rw[show 4294967296*4294967296*z=2 ^ r*(4294967296*(2 ^ (32 - r)*z)) by
  have:2 ^ r*2 ^ (32 - r)=4294967296:=by rw[<-wj,show r+(32 - r)=32 by omega]
  calc 4294967296*4294967296*z=(2 ^ r*2 ^ (32 - r))*4294967296*z:=by rw[this]
   _=_:=by grind]
 rw[jv _ _ (vr r),Nat.add_mul_mod_self_left]
theorem Jlj{k:Nat}{b:List Nat}{x:Nat}{β:Type}(f:Nat->Option β)(hb:Wd b)(a:x<4294967296):(if ((k:Nat):Int)<(b.length:Int) then (getI b (k:Int)).bind (λy=>f (x ||| (y*2 ^ 32)%18446744073709551616)) else f x)=f (x+4294967296*b.getD k 0):=by by_cases h:k<b.length;rw[oq om,Qb8 h,sbind];have d:=Qca hb h;rw[show(2:Nat) ^ 32=4294967296 by rfl,xv om,Nat.or_comm,Q7u a,uv,Nat.add_comm];simp[h];rw[oj om];simp[xd (show b.length<=k by omega)]
theorem Jlk(X P:Nat):X%P+P*(X / P%4294967296)=X%(P*4294967296):=by rw[Nat.mod_mul]
theorem Q7x{n k:Nat}{a:List Nat}(hn:big<=n)(A:a.length<8796093022208)(i:Wd a)(hk:k<=4611686018427387904):Qnd n a (k:Int)=some (toL (val a / 2 ^ k)):=by
 unfold Qnd;rw[show max (k:Int) 0=(k:Int) by omega];rw[show Int.tdiv (k:Int) 32=((k / 32:Nat):Int) by rfl,show Int.tmod (k:Int) 32=((k%32:Nat):Int) by rfl];have hp:2 ^ k=bp (k / 32)*2 ^ (k%32):=by rw[Qnz,<-wj,vj]
 have hr:k%32<=31:=om
 have y:k / 32<=4611686018427387904:=om
 rw[hp];generalize k / 32=w at *;generalize k%32=r at *;rw[<-wk,Qve i];rw[w64 (x:=(w:Int)) om om,sbind,bifd];by_cases q:a.length<=w;rw[oq om,xj q];simp[val,Yb];rw[oj om,w64 (x:=(a.length:Int) - (w:Int)) om om,sbind,show(a.length:Int) - (w:Int)=((a.length - w:Nat):Int) by omega,Qev om om,sbind];refine Qp5 (λj (s:List Nat)=>∃ e,s=e++List.replicate (a.length - w - j) 0/\e.length=j/\Wd e/\val e=(val (a.drop w) / 2 ^ r)%bp j) ⟨[],oc,rfl,W9,by simp[val,Qbn,Nat.mod_one]⟩ ?_ ?_;rintro j x s t ⟨e,m,g,p,l⟩;subst m;have u:j<a.length - w:=by have:=Qmq t;simpa using this
 have f:w+j<a.length:=om
 simp only[jn_eq,bifd];rw[w64 (x:=(w:Int)+(j:Int)) om om,show(w:Int)+(j:Int)=((w+j:Nat):Int) by omega,sbind,Qb8 f,sbind,sbind,w64 (x:=((w+j:Nat):Int)+1) om om,show((w+j:Nat):Int)+1=((w+j+1:Nat):Int) by omega];simp only[sbind];rw[w64 (x:=((w+j:Nat):Int)+1) om om,show((w+j:Nat):Int)+1=((w+j+1:Nat):Int) by omega];rw[Jlj (β:=Lp (List Nat) (List Nat)) (λ(v:Nat)=>(grd (decide (0<=(r:Int)))).bind λ_=>(getI (e++List.replicate (a.length - w - j) 0) (j:Int)).bind λ_=>some (Lp.go (List.set (e++List.replicate (a.length - w - j) 0) (Int.toNat (j:Int)) (v / 2 ^ (min (Int.toNat (r:Int)) 64)%4294967296)))) i (Qca i f)];rw[grd_t oc,sbind,ya (n:=r),ye om];obtain⟨d,hd⟩:∃ d,a.length - w - j=d+1:=⟨a.length - w - j - 1,om⟩
 rw[hd,uq,Ws g,sbind,Zk g];refine⟨_,rfl,e++[(a[w+j]+4294967296*a.getD (w+j+1) 0) / 2 ^ r%4294967296],by rw[show a.length - w - (j+1)=d by omega];simp,by simp[g],Kv.2 ⟨p,K0.2 ⟨om,W9⟩⟩,?_⟩;rw[Vh,g,W0,<-Jlk,l,wk (val (a.drop w)),uv (2 ^ r) (bp j),<-wk (val (a.drop w)),Qve (Qox i),List.drop_drop,Jjj f,dz,<-tz,<-uo,Jli om];rintro s ⟨e,m,g,p,l⟩;subst m;simp only[Vn];rw[yt] at g l;rw[yt,gh,List.replicate_zero,uh,Y1 hn om,sbind,<-K1 p,l,xv];have:=Zh (Qox (k:=w) i);rw[uc] at this;exact um (jl _ _) this
theorem Jfr{q r x0 a x2 d x4:Nat}(e:q*d+r=x0*4294967296+a)(f:q*x4<=r*4294967296+x2):q*(d*4294967296+x4)<=(x0*4294967296+a)*4294967296+x2:=by rw[<-e];grind
theorem Jnj{q r x0 a x2 d x4:Nat}(e:(q+1)*d+r=x0*4294967296+a)(f:r*4294967296+x2<(q+1)*x4):(x0*4294967296+a)*4294967296+x2<(q+1)*(d*4294967296+x4):=by rw[<-e];grind
theorem Jnk{q r a:Nat}{U:Nat}(d:(q+1)*a+r=U):q*a+(r+a)=U:=by rw[<-d];grind
theorem Jfs{q r x0 a x2 d x4:Nat}(e:q*d+r=x0*4294967296+a)(hr:4294967296<=r)(i:q<4294967296)(g:x4<4294967296):q*(d*4294967296+x4)<=(x0*4294967296+a)*4294967296+x2:=by have f:q*x4<=4294967295*4294967295:=gv om om;exact Jfr e om
theorem Jqh{X u w x2:Nat}(h:X<u)(a:x2<4294967296):X*4294967296+x2<u*4294967296+w:=om
theorem Jqi{q x0 d x2 a x4:Nat}(h:x0*4294967296+d<(q+1)*a)(f:x2<4294967296):(x0*4294967296+d)*4294967296+x2<(q+1)*(a*4294967296+x4):=by
 have e:(q+1)*(a*4294967296+x4)=((q+1)*a)*4294967296+(q+1)*x4:=by rw[dz,uo]
 rw[e];exact Jqh h f
theorem Q5v{n l u x0 f x2 e x4:Nat}(hn:big<=n)(I:x2<4294967296)(E:e<4294967296)(A:x4<4294967296)(G:l<4294967296)(hr:u<4294967296)
 (F:l*e+u=x0*4294967296+f) (B:l+1=4294967296\/(x0*4294967296+f)*4294967296+x2<(l+1)*(e*4294967296+x4)) :
 ∃ q,(loopM (λ(d:Nat×Nat)=>
   (Qgd d.1 x4 0 0).bind λi=>
   jn (λ(g:(Bool)->Option _)=>
    bif decide (i.1<d.2) then (
     g true)
    else (
     bif decide (i.1=d.2) then (
      g (decide (i.2<=x2)))
     else (
      g false))) (λ(v:Bool)=>
    bif v then (
     some (Lp.out d.1))
    else (
     (Qce d.2 e 0).bind λa=>
     bif decide (0<a.2) then (
      some (Lp.out ((d.1+4294967296 - 1)%4294967296)))
     else (
      some (Lp.go (((d.1+4294967296 - 1)%4294967296),a.1)))))) n (l,u)).bind (λ(w:Nat)=>some w)=some q /\
   (q<4294967296/\q*(e*4294967296+x4)<=(x0*4294967296+f)*4294967296+x2/\(q+1=4294967296\/(x0*4294967296+f)*4294967296+x2<(q+1)*(e*4294967296+x4))):=by
 unfold big at hn
 refine Qib (λs=>s.1) (λs=>s.1<4294967296/\s.2<4294967296/\s.1*e+s.2=x0*4294967296+f/\(s.1+1=4294967296\/(x0*4294967296+f)*4294967296+x2<(s.1+1)*(e*4294967296+x4)))
  (λq=>q<4294967296/\q*(e*4294967296+x4)<=(x0*4294967296+f)*4294967296+x2/\(q+1=4294967296\/(x0*4294967296+f)*4294967296+x2<(q+1)*(e*4294967296+x4))) ⟨G,hr,F,B⟩ (by simp only[];omega) ?_ (λt H=>⟨t,rfl,H⟩)
 rintro⟨q,r⟩ ⟨g1,y,g3,g4⟩;simp only at g1 y g3 g4;simp only[jn_eq,bifd];rw[Qsd g1 A om om,sbind];simp only[xp]
 have p:(bif decide (q*x4<=r*4294967296+x2) then some (Lp.out q) else
  (Qce r e 0).bind λa=>if 0<a.2 then some (Lp.out ((q+4294967296 - 1)%4294967296)) else some (Lp.go ((q+4294967296 - 1)%4294967296,a.1)):Option (Lp (Nat×Nat) Nat)) =
  (if q*x4 / 4294967296<r then bif true then some (Lp.out q) else
   (Qce r e 0).bind λa=>if 0<a.2 then some (Lp.out ((q+4294967296 - 1)%4294967296)) else some (Lp.go ((q+4294967296 - 1)%4294967296,a.1))
   else if q*x4 / 4294967296=r then if q*x4%4294967296<=x2 then some (Lp.out q) else
    (Qce r e 0).bind λa=>if 0<a.2 then some (Lp.out ((q+4294967296 - 1)%4294967296)) else some (Lp.go ((q+4294967296 - 1)%4294967296,a.1))
   else bif false then some (Lp.out q) else
    (Qce r e 0).bind λa=>if 0<a.2 then some (Lp.out ((q+4294967296 - 1)%4294967296)) else some (Lp.go ((q+4294967296 - 1)%4294967296,a.1))):=by
  have hd:=vj (q*x4) 4294967296;have B:=uw (q*x4) (show 4294967296 > 0 by decide);by_cases c1:q*x4 / 4294967296<r;rw[oq c1,ol om];rw[oj c1];by_cases x:q*x4 / 4294967296=r;rw[oq x,<-bifd];congr 1;exact gg.2 om;rw[oj x,oo om]
 rw[<-p,bifd];by_cases hs:q*x4<=r*4294967296+x2;right;rw[oq hs];exact⟨q,rfl,g1,Jfr g3 hs,g4⟩;rw[oj hs,Qn8 y E om,sbind]
 obtain⟨q',rfl⟩:∃ q',q=q'+1:=⟨q - 1,by
  have:q≠0:=by rintro rfl;simp at hs
  omega⟩
 have m:(q'+1+4294967296 - 1)%4294967296=q':=om
 have k:=Jnj (x2:=x2) (x4:=x4) g3 om;have j:=Jnk g3;simp only[xp];rw[m];by_cases C:0<(r+e) / 4294967296;right;rw[oq C];exact⟨q',rfl,om,Jfs j om om A,.inr k⟩;left;rw[oj C];refine⟨_,rfl,⟨by simp only[];omega,by simp only[];omega,?_,.inr k⟩,by simp only[];omega⟩;simp only[];rw[xv om];exact j
theorem Q5w{n x0 d x2 a x4:Nat}(hn:big<=n)(h0:x0<=a)(j:d<4294967296)(f:x2<4294967296)(e:a<4294967296)(g:x4<4294967296)(p:a≠0):
 ∃ q,Qja n x0 d x2 a x4=some q/\(q<4294967296/\q*(a*4294967296+x4)<=(x0*4294967296+d)*4294967296+x2/\(q+1=4294967296\/(x0*4294967296+d)*4294967296+x2<(q+1)*(a*4294967296+x4))):=by
 unfold Qja;by_cases i:x0<a;rw[Qzt i j e,sbind]
 have m:(x0*4294967296+d) / a<4294967296:=jr (by
  have:x0*4294967296+4294967296<=a*4294967296:=om
  omega)
 have hr:(x0*4294967296+d)%a<a:=uw _ om;exact Q5v hn f e g m (Nat.lt_trans hr e) (by rw[uv];exact vj _ _) (.inr (Jqi ((jo om).1 (Nat.lt_succ_self _)) f));obtain rfl:x0=a:=om
 rw[show Qhu x0 d x0=some (0,0,false) by unfold Qhu;rw[bifd,oq om],sbind];rw[jn_eq];simp only[ow,bifT];rw[Qn8 j e om,sbind,jn_eq,bifd,oj om];simp only[xp];rw[bifd];have k:4294967295*x0+(d+x0)=x0*4294967296+d:=om
 by_cases l:0<(d+x0) / 4294967296;rw[oq l];exact⟨_,rfl,om,Jfs k om om g,.inl rfl⟩;rw[oj l,xv om];exact Q5v hn f e g om om k (.inl rfl)
theorem Q9l(P M c b d lo hi a q y u V W:Nat)(e:4294967296*hi+lo=q*y+c)(f:d+lo+b=u+4294967296*a)(h:W+q*V=M+P*(c+b)):W+P*d+q*(V+P*y)=M+P*u+P*4294967296*(hi+a):=by
 have g:P*d+P*lo+P*b=P*u+P*4294967296*a:=by rw[<-dz,<-dz,f];grind
 have i:P*4294967296*hi+P*lo=P*(q*y)+P*c:=by rw[<-dz,<-e];grind
 grind
theorem Q7y{p m q' v:List Nat}{z q:Nat}(M:m.length=v.length)(hp:p.length+m.length+1+q'.length<=4611686018427387904)(F:Wd m)(G:Wd v)(N:z<4294967296)(K:q<4294967296):
 ∃ r b,Qgn (p++m++z::q') (p.length:Int) v q=some (decide (0<b),p++r++q')/\r.length=v.length+1/\Wd r/\b<=1/\val r+q*val v=val (m++[z])+bp (v.length+1)*b:=by
 have H:∃ R,Qgn (p++m++z::q') (p.length:Int) v q=some R/\∃ r b,R=(decide (0<b),p++r++q')/\r.length=v.length+1/\Wd r/\b<=1/\val r+q*val v=val (m++[z])+bp (v.length+1)*b:=by
  unfold Qgn;refine Qwm (λj (s:List Nat×Nat×Nat)=>∃ e,s.1=p++e++(m.drop j++z::q')/\e.length=j/\j<=v.length/\Wd e/\s.2.1<4294967296/\s.2.2<=1/\val e+q*val (v.take j)=val (m.take j)+bp j*(s.2.1+s.2.2)) ⟨[],oc,rfl,yx _,W9,oc,oc,by simp[val]⟩ ?_ ?_;rintro j y ⟨o,c,b⟩ I ⟨e,f,g,B,C,l,t,n⟩;simp only at f l t n;subst f;have i:j<v.length:=Qmq I;have L:v[j]=y:=by simpa [i] using I
  have u:y<4294967296:=by rw[<-L];exact Qca G i
  have k:j<m.length:=om
  have E:=Qca F k;have a:(p++e).length=p.length+j:=oh
  have J:=Qy2 K u l (show 0<4294967296 by omega);obtain⟨d,w,g1,A,g3,g4⟩:=Qse (x:=m[j]) (y:=(q*y+c+0)%4294967296) (c:=b) E om t;rw[Qsd K u l om,sbind,w64 om om,show((p.length:Int)+(j:Int))=((p.length+j:Nat):Int) by omega,xe k,yu];simp only[];rw[Ws a,sbind,g1,sbind,sbind,Zk a];refine⟨_,rfl,e++[d],oc,by simp[g],om,Kv.2 ⟨C,K0.2 ⟨A,W9⟩⟩,by simp only[];omega,g3,?_⟩;simp only[];rw[Y2,We k,Vh,Vh,g,W0,show v.getD j 0=y by rw[<-L];simp[i],xa,ye om];exact Q9l _ _ _ _ _ _ _ _ _ _ _ _ _ (vj (q*y+c) 4294967296) g4 n;rintro⟨o,c,b⟩ ⟨e,f,g,B,C,l,t,n⟩;simp only at f l t n;subst f;simp only[Vn];have a:(p++e).length=p.length+v.length:=oh
  obtain⟨d,w,g1,A,g3,g4⟩:=Qse (x:=z) (y:=c) (c:=b) N l t;rw[w64 om om,show((p.length:Int)+(v.length:Int))=((p.length+v.length:Nat):Int) by omega,xj om,yw,Ws a,sbind,g1,sbind,sbind,Zk a];refine⟨_,rfl,e++[d],w,oc,by simp[g],Kv.2 ⟨C,K0.2 ⟨A,W9⟩⟩,g3,?_⟩;rw[xb (xr _),xb om] at n;rw[Vh,Vh,g,M,W0];have:=Q9l (bp v.length) (val m) c b d c 0 w q 0 z (val v) (val e) om g4 n
  simpa using this
 obtain⟨R,f,r,b,g,B⟩:=H;exact⟨r,b,by rw[f,g],B⟩
theorem Q9m(P M c d a y u V W:Nat)(e:4294967296*a+d=u+y+c)(h:W+P*c=M+V):W+P*d+P*4294967296*a=M+P*u+(V+P*y):=by grind
theorem Q7z{p m q' v:List Nat}{z:Nat}(E:m.length=v.length)(hp:p.length+m.length+1+q'.length<=4611686018427387904)(u:Wd m)(w:Wd v)(F:z<4294967296):
 ∃ r b,Qik (p++m++z::q') (p.length:Int) v=some (p++r++q')/\r.length=v.length+1/\Wd r/\b<=1/\val r+bp (v.length+1)*b=val (m++[z])+val v:=by
 have A:∃ R,Qik (p++m++z::q') (p.length:Int) v=some R/\∃ r b,R=p++r++q'/\r.length=v.length+1/\Wd r/\b<=1/\val r+bp (v.length+1)*b=val (m++[z])+val v:=by
  unfold Qik;refine Qwm (λj (s:List Nat×Nat)=>∃ d,s.1=p++d++(m.drop j++z::q')/\d.length=j/\j<=v.length/\Wd d/\s.2<=1/\val d+bp j*s.2=val (m.take j)+val (v.take j)) ⟨[],oc,rfl,yx _,W9,oc,by simp[val]⟩ ?_ ?_;rintro j y ⟨o,c⟩ B ⟨d,e,f,l,n,q,k⟩;simp only at e q k;subst e;have g:j<v.length:=Qmq B;have C:v[j]=y:=by simpa [g] using B
  have x:y<4294967296:=by rw[<-C];exact Qca w g
  have i:j<m.length:=om
  have t:=Qca u i;have a:(p++d).length=p.length+j:=oh
  rw[w64 om om,show((p.length:Int)+(j:Int))=((p.length+j:Nat):Int) by omega,xe i,yu];rw[Ws a,sbind,Qn8 t x (by simp only[];omega),sbind,sbind,Zk a];refine⟨_,rfl,d++[(m[j]+y+c)%4294967296],oc,by simp[f],om,Kv.2 ⟨n,K0.2 ⟨om,W9⟩⟩,by simp only[];omega,?_⟩;simp only[];rw[Y2,Y2,Vh,f,W0,show v.getD j 0=y by rw[<-C];simp[g],show m.getD j 0=m[j] by simp[i]];exact Q9m _ _ _ _ _ _ _ _ _ (vj (m[j]+y+c) 4294967296) k;rintro⟨o,c⟩ ⟨d,e,f,l,n,q,k⟩;simp only at e q k;subst e;simp only[Vn];have a:(p++d).length=p.length+v.length:=oh
  rw[w64 om om,show((p.length:Int)+(v.length:Int))=((p.length+v.length:Nat):Int) by omega,xj om,yw,Ws a,sbind,sbind,Zk a,sbind];refine⟨_,rfl,d++[(z+c)%4294967296],(z+c) / 4294967296,oc,by simp[f],Kv.2 ⟨n,K0.2 ⟨om,W9⟩⟩,om,?_⟩;rw[xb (xr _),xb om] at k;rw[Vh,Vh,f,E,W0];have:=Q9m (bp v.length) (val m) c ((z+c)%4294967296) ((z+c) / 4294967296) 0 z (val v) (val d) om k
  simpa using this
 obtain⟨R,e,r,b,f,l⟩:=A;exact⟨r,b,by rw[e,f],l⟩
theorem kn_a{P vl V2 f a q d:Nat}(l:f<P)(n:q<4294967296)(m:q*(vl+P*V2)<=f+P*a)(e:d+1=4294967296\/a<(d+1)*V2):q<=d:=by
 rcases e with e | e;omega;have j:P*(q*V2)<=q*(vl+P*V2):=by rw[dz,Nat.mul_left_comm];exact Nat.le_add_left _ _
 have g:P*(q*V2)<P*(a+1):=by rw[dz,Nat.mul_one];omega
 have k:q*V2<a+1:=Nat.lt_of_mul_lt_mul_left g;have i:q*V2<(d+1)*V2:=om
 exact Nat.le_of_lt_succ (Nat.lt_of_mul_lt_mul_right i)
theorem kn_b{P vl V2 i d a:Nat}(k:vl<P)(m:a<4294967296)(l:4294967296<=V2)(g:a*V2<=d):a*(vl+P*V2)<=(i+P*d)+(vl+P*V2):=by
 have e:a*(vl+P*V2)=a*vl+P*(a*V2):=by rw[dz,Nat.mul_left_comm]
 have j:P*(a*V2)<=P*d:=ut _ g;have f:a*vl<=V2*P:=gv om om;rw[e];rw[uv V2 P] at f;omega
theorem kn_z{P vl v3 v4 e z a x2:Nat}(j:vl<P)(k:v4<4294967296)(l:e+P*((z*4294967296+a)*4294967296+x2)<4294967296*(vl+P*(v3*4294967296+v4))):z<=v3:=by
 have f:P*(z*4294967296*4294967296)<=P*((z*4294967296+a)*4294967296+x2):=ut _ om;have g:vl+P*(v3*4294967296+v4)<P*((v3+1)*4294967296):=by have:P*(v3*4294967296+v4+1)<=P*((v3+1)*4294967296):=ut _ om;rw[dz _ _ 1,Nat.mul_one] at this;omega
 have d:P*(z*4294967296*4294967296)<P*((v3+1)*4294967296*4294967296):=by have a1:P*((v3+1)*4294967296*4294967296)=P*((v3+1)*4294967296)*4294967296:=(uo _ _ _).symm;omega
 have i:=Nat.lt_of_mul_lt_mul_left d;omega
theorem dm_of{U V q r:Nat}(h:r+q*V=U)(hr:r<V):U / V=q/\U%V=r:=by subst h;rw[Nat.add_mul_div_right _ _ om,ge hr,Nat.add_mul_mod_self_right,xv hr];omega
theorem last2{l:List Nat}{m:Nat}(h:l.length=m+2):∃ l' a b,l=l'++[a,b]/\l'.length=m:=by refine⟨l.take m,l[m],l[m+1],?_,oh⟩;have e:=We (a:=l) (k:=m) om;have d:=We (a:=l) (k:=m+1) om;rw[xb om] at d;refine d.trans ?_;rw[e,xf];rfl
theorem Jll(p y w a V U j:Nat)(q r:Nat)(d:U=y+4294967296*w)(h:r+q*V=U):(p+j*y)+j*4294967296*(w+V*a)=p+j*(r+V*(q+4294967296*a)):=by grind
theorem Jhm{n:Nat}{p w rest v:List Nat}{z:Nat}(hn:big<=n){vl wl:List Nat}{v3 v4 u x2:Nat}(H:v=vl++[v4,v3])(I:w=wl++[x2,u])(F:wl.length=vl.length)
 (a:Wd v) (e:Wd w) (hz:z<4294967296) (h3:v3≠0) (hp:p.length+w.length+1+rest.length<=4611686018427387904) (s:val (w++[z])<4294967296*val v) :
 ∃ r d,Qja n z u x2 v3 v4=some d/\r.length=v.length+1/\Wd r/\val r=val (w++[z])%val v/\val (w++[z]) / val v<4294967296 /\
   ((Qgn (p++w++z::rest) (p.length:Int) v d=some (false,p++r++rest)/\d=val (w++[z]) / val v) \/
    (∃ S,Qgn (p++w++z::rest) (p.length:Int) v d=some (true,S)/\Qik S (p.length:Int) v=some (p++r++rest)/\(d+4294967296 - 1)%4294967296=val (w++[z]) / val v)):=by
 have J:w.length=v.length:=by rw[H,I];simp[F]
 have w1:Wd vl/\v4<4294967296/\v3<4294967296:=by rw[H] at a;exact⟨(Kv.1 a).1,(K0.1 (Kv.1 a).2).1,(K0.1 (K0.1 (Kv.1 a).2).2).1⟩
 have M:Wd wl/\x2<4294967296/\u<4294967296:=by rw[I] at e;exact⟨(Kv.1 e).1,(K0.1 (Kv.1 e).2).1,(K0.1 (K0.1 (Kv.1 e).2).2).1⟩
 obtain⟨w1,Y,w4⟩:=w1;obtain⟨M,w5,w6⟩:=M;have B:val v=val vl+bp vl.length*(v3*4294967296+v4):=by rw[H,Y8];simp only[val];congr 2;omega
 have C:val (w++[z])=val wl+bp vl.length*((z*4294967296+u)*4294967296+x2):=by rw[I,xf,Y8,F];simp only[yu,yw,val];congr 2;omega
 have l1:=Zh w1;have Q:=Zh M;rw[F] at Q;have K:z<=v3:=by rw[B,C] at s;exact kn_z l1 Y s
 obtain⟨d,g1,P,g3,g4⟩:=Q5w hn K w6 w5 w4 Y h3;have k:0<val v:=by rcases gn (val v) with h | h;rw[h] at s;omega;exact h
 have i:val (w++[z]) / val v<4294967296:=(jo k).2 s;have hqa:val (w++[z]) / val v<=d:=by have:=Nat.div_mul_le_self (val (w++[z])) (val v);exact kn_a (vl:=val vl) Q i (by rw[<-B,<-C];exact this) g4
 have hqb:d*val v<=val (w++[z])+val v:=by rw[B,C];exact kn_b l1 P om g3
 have A:val (w++[z])<(d+1)*val v:=xt ((jo k).1 (Nat.lt_succ_self _)) (xh _ om);obtain⟨r,b,T,j,t3,t4,t5⟩:=Q7y (p:=p) (m:=w) (q':=rest) (v:=v) (z:=z) (q:=d) J hp e a hz P;rw[Nat.add_mul,Nat.one_mul] at A;have hvb:=Zh a;have hbb:bp v.length<=bp (v.length+1):=bp_le om;by_cases hb:b=0;subst hb;rw[vv,xp] at t5;obtain⟨x,y⟩:=dm_of t5 om;exact⟨r,d,g1,j,t3,y.symm,i,.inl ⟨T,x.symm⟩⟩;obtain rfl:b=1:=om
 rw[Nat.mul_one] at t5;have hr:=Zh t3;rw[j] at hr;obtain⟨f,g,l⟩:∃ f g,r=f++[g]:=by rcases jp r with h | ⟨f,g,h⟩;rw[h] at j;simp at j;exact⟨f,g,by rw[h,jq]⟩
 have Z:f.length=v.length:=by rw[l] at j;simpa using j
 have O:Wd f/\g<4294967296:=by rw[l] at t3;exact⟨(Kv.1 t3).1,(K0.1 (Kv.1 t3).2).1⟩
 obtain⟨R,N,u1,W,X,u4,L⟩:=Q7z (p:=p) (m:=f) (q':=rest) (v:=v) (z:=g) Z om O.1 a O.2;have G:=Zh X;rw[W] at G;rw[<-l] at L
 obtain⟨t,rfl⟩:∃ t,d=t+1:=⟨d - 1,by
  have:d≠0:=by rintro rfl;omega
  omega⟩
 rw[Nat.add_mul,Nat.one_mul] at *;have E:N=1:=by rcases gn N with h | h;subst h;rw[vv] at L;omega;omega
 subst E;rw[Nat.mul_one] at L;obtain⟨x,y⟩:=dm_of (U:=val (w++[z])) (V:=val v) (q:=t) (r:=val R) om om;refine⟨R,t+1,g1,W,X,y.symm,i,.inr ⟨p++r++rest,T,?_,by rw[x];omega⟩⟩;rw[l,show p++(f++[g])++rest=p++f++g::rest by simp];exact u1
theorem Q70{n:Nat}{u v vl:List Nat}{v3 v4:Nat}(hn:big<=n)(E:v=vl++[v4,v3])(h3:v3≠0)(g:Wd u)(q:Wd v)(hu:u.length<35184372088832)(hl:v.length<=u.length)(N:val (u.drop (u.length - v.length))<val v):
 ∃ r,Qnc n u v=some r/\(r.1.length=u.length - v.length/\Wd r.1/\r.2.length=u.length/\Wd r.2/\val u=val v*val r.1+val r.2/\val r.2<val v):=by
 unfold Qnc;have L:=hn;unfold big at L;have hvl:v.length=vl.length+2:=by rw[E];simp
 rw[w64 (x:=(u.length:Int) - (v.length:Int)) om om,show(u.length:Int) - (v.length:Int)=((u.length - v.length:Nat):Int) by omega,Qev om om,sbind]
 refine Qib (λs=>(s.2.2+1).toNat) (λs=>∃(k:Nat) (p w e:List Nat),s.2.2=(k:Int) - 1/\k<=u.length - v.length/\s.1=p++w/\p.length=k/\w.length=u.length - k/\Wd p/\Wd w/\val w<val v/\s.2.1=List.replicate k 0++e/\e.length=u.length - v.length - k/\Wd e/\val u=val p+bp k*(val w+val v*val e))
  (λt=>t.2.length=u.length - v.length/\Wd t.2/\t.1.length=u.length/\Wd t.1/\val u=val v*val t.2+val t.1/\val t.1<val v) ⟨u.length - v.length,u.take (u.length - v.length),u.drop (u.length - v.length),[],?_,xr _,by simp only[ue],oc,oc,Qs8 g,Qox g,N,by simp only[uh],oc,W9,?_⟩ ?_ ?_ (λt N=>⟨_,rfl,N⟩)
 . simp only[];rw[yt,w64 om om]
 . simp only[val,vv,xp]
   conv=>lhs;rw[<-ue (u.length - v.length) u]
   rw[Y8,xa,ye om]
 . simp only[];rw[yt,w64 om om];omega
 . rintro⟨uu,qq,i⟩ ⟨k,p,w,e,Z,i2,i3,F,i5,i6,O,i8,i9,i10,A,B⟩
   simp only at Z i3 i9;subst Z i3 i9;simp only[jn_eq,bifd];by_cases h0:0<k
   . left
     obtain⟨j,rfl⟩:∃ j,k=j+1:=⟨k - 1,om⟩
     obtain⟨d,y,e1⟩:∃ d y,p=d++[y]:=by
      rcases jp p with h | ⟨d,y,h⟩
      . rw[h] at F;simp at F
      . exact⟨d,y,by rw[h,jq]⟩
     subst e1;have G:d.length=j:=by simpa using F
     have T:Wd d/\y<4294967296:=⟨(Kv.1 i6).1,(K0.1 (Kv.1 i6).2).1⟩
     have H:Wd (y::w):=K0.2 ⟨T.2,O⟩;have U:v.length<(y::w).length:=oh
     have V:y::w=(y::w).take v.length++(y::w)[v.length]::(y::w).drop (v.length+1):=Jje U;have I:val ((y::w).drop (v.length+1))=0:=by rw[jb,<-Qve O];exact ge (Nat.lt_trans i8 (Zh q))
     have X:val ((y::w).take v.length++[(y::w)[v.length]])=y+4294967296*val w:=by have:=yj val V;rw[show ∀(a b:List Nat) (x:Nat),a++x::b=(a++[x])++b by intro a b x;simp,Y8,I,vv,xp] at this;rw[<-this];rfl
     have w1:Wd ((y::w).take v.length):=Qs8 H;have w2:(y::w)[v.length]<4294967296:=Qca H U;have w3:Wd ((y::w).drop (v.length+1)):=Qox H;have w4:((y::w).take v.length).length=v.length:=by rw[xa,ye om]
     have w5:((y::w).drop (v.length+1)).length=u.length - j - (v.length+1):=by rw[uc,xn];omega
     rw[show d++[y]++w=d++(y::w) by simp,V];generalize (y::w).take v.length=W at *;generalize (y::w)[v.length]=z at *;generalize (y::w).drop (v.length+1)=R at *;obtain⟨wl,x2,C,J,f2⟩:=last2 (l:=W) (m:=vl.length) om;obtain⟨r,P,g1,g2,g3,g4,g5,Y⟩:=Jhm (p:=d) (w:=W) (rest:=R) (v:=v) (z:=z) hn E J f2 q w1 w2 h3 (by rw[w4,w5];omega) (by rw[X];omega);rw[oq om,show((j+1:Nat):Int) - 1=(j:Int) by omega];rw[w64 (x:=(j:Int)+(v.length:Int)) om om,show(j:Int)+(v.length:Int)=((j+vl.length+2:Nat):Int) by omega];rw[w64 (x:=((j+vl.length+2:Nat):Int) - 1) om om,w64 (x:=((j+vl.length+2:Nat):Int) - 2) om om,show((j+vl.length+2:Nat):Int) - 1=((j+vl.length+1:Nat):Int) by omega,show((j+vl.length+2:Nat):Int) - 2=((j+vl.length:Nat):Int) by omega];rw[w64 (x:=(v.length:Int) - 1) om om,w64 (x:=(v.length:Int) - 2) om om,show(v.length:Int) - 1=((vl.length+1:Nat):Int) by omega,show(v.length:Int) - 2=((vl.length:Nat):Int) by omega];have a1:getI (d++(W++z::R)) ((j+vl.length+2:Nat):Int)=some z:=by
      rw[<-xf];exact Ws (by rw[yn,w4];omega)
     have a2:getI (d++(W++z::R)) ((j+vl.length+1:Nat):Int)=some C:=by rw[J,show d++(wl++[x2,C]++z::R)=(d++wl++[x2])++C::(z::R) by simp];exact Ws oh
     have a3:getI (d++(W++z::R)) ((j+vl.length:Nat):Int)=some x2:=by rw[J,show d++(wl++[x2,C]++z::R)=(d++wl)++x2::(C::z::R) by simp];exact Ws oh
     have a4:getI v ((vl.length+1:Nat):Int)=some v3:=by rw[E,show vl++[v4,v3]=(vl++[v4])++v3::[] by simp];exact Ws oc
     have a5:getI v ((vl.length:Nat):Int)=some v4:=by rw[E];exact Ws rfl
     rw[a1,sbind,a2,sbind,a3,sbind,a4,sbind,a5,sbind,g1,sbind]
     have a6:∀(q':Nat),getI (List.replicate (j+1) 0++e) (j:Int)=some 0/\(List.replicate (j+1) 0++e).set (Int.toNat (j:Int)) q'=List.replicate j 0++q'::e:=λq'=>by rw[ju,xf,dq];exact⟨Ws oc,Zk oc⟩
     rw[G,xf] at Y;have f:∀ q',q'=val (W++[z]) / val v->∃ s',(some (Lp.go (d++r++R,List.replicate j 0++q'::e,wrap64 ((j:Int) - 1))):Option (Lp (List Nat×List Nat×Int) (List Nat×List Nat)))=some (Lp.go s')/\(∃(k:Nat) (p w e:List Nat),s'.2.2=(k:Int) - 1/\k<=u.length - v.length/\s'.1=p++w/\p.length=k/\w.length=u.length - k/\Wd p/\Wd w/\val w<val v/\s'.2.1=List.replicate k 0++e/\e.length=u.length - v.length - k/\Wd e/\val u=val p+bp k*(val w+val v*val e))/\(s'.2.2+1).toNat<((j:Int)+1).toNat:=by
      intro q' M;have K:0<val v:=om
      rw[w64 om om];refine⟨_,rfl,⟨j,d,r++R,q'::e,rfl,om,by rw[xf],G,by rw[yn,g2,w5];omega,T.1,Kv.2 ⟨g3,w3⟩,?_,rfl,by rw[xn];omega,K0.2 ⟨om,A⟩,?_⟩,by simp only[];omega⟩
      . rw[Y8,I,vv,xp,g4];exact uw _ K
      . rw[B,Vh,G,W0,Y8,I,vv,xp]
        simp only[val];refine Jll _ _ _ _ _ _ _ _ _ X ?_;rw[g4,M,uv];exact Nat.mod_add_div _ _
     rcases Y with ⟨Q,S⟩ | ⟨r1,Q,S,t3⟩
     . rw[Q,sbind]
       simp only[bifF];rw[(a6 P).1,sbind,(a6 P).2];exact f _ S
     . rw[Q,sbind]
       simp only[bifT];rw[S,sbind,(a6 ((P+4294967296 - 1)%4294967296)).1,sbind,(a6 _).2];exact f _ t3
   . right
     obtain rfl:k=0:=om
     obtain rfl:p=[]:=xx F;rw[oj om];refine⟨_,rfl,by simp only[List.replicate_zero,yw];omega,by simpa using A,by simp only[yw];omega,by simpa using O,?_,by simpa using i8⟩;rw[B,Qbn];simp[val];omega
theorem Jqj{x:Nat}(d:x<4294967296):blen x<=32:=by
 rcases xl 32 (blen x) with h | h;have h0:x≠0:=by rintro rfl;rw[Qj3] at h;omega
 have g1:=Qq0 h0;have a:2 ^ 32<=2 ^ (blen x - 1):=jm oz om;rw[show(2:Nat) ^ 32=4294967296 by decide] at a;omega;exact h
theorem Km{a:List Nat}(d:Wd a):(toL (val a)).length<=a.length:=by rw[K1 d];exact Qag a
theorem Q3j{v s:Nat}(hs:s<=32):(toL (v*2 ^ s)).length<=(toL v).length+1:=by refine Qeh ?_;have a:=Zh (Jo v);rw[Q8] at a;rw[W0];exact xt (Nat.mul_lt_mul_of_pos_right a (vr s)) (ut _ (Qy4 hs))
theorem len2{v:Nat}(h:4294967296<=v):∃ vl v4 v3,toL v=vl++[v4,v3]/\v3≠0:=by
 have h0:toL v≠[]:=by rw[Qdx om];simp
 obtain⟨p,x,a,d,e,f⟩:=Q34 h0;rcases jp p with h5 | ⟨p',y,h5⟩;exfalso;have:=Q8 v;rw[a,h5] at this;simp[val] at this;omega;exact⟨p',y,x,by rw[a,h5,jq];simp,d⟩
theorem Jqk{v:Nat}(h:v≠0):bp ((toL v).length - 1)<=v:=by
 have h0:toL v≠[]:=by rw[Qdx h];simp
 obtain⟨p,x,a,d,e,f⟩:=Q34 h0;have:=Q8 v;rw[a,Vh] at this;rw[a,yn,uy,Nat.add_sub_cancel,<-this];have:bp p.length*1<=bp p.length*x:=ut _ om;omega
theorem Qn9{n:Nat}{a b:List Nat}(hn:big<=n)(ha:a.length<4398046511104)(hb:b.length<4398046511104)(d:Wd a)(m:Wd b):
 Qhv n a b=some (if val b=0 then ([],[],false) else (toL (val a / val b),toL (val a%val b),true)):=by
 unfold Qhv;have Y:=Km m;have X:=Km d;rw[Y1 hn om,sbind,<-K1 m,bifd];by_cases h0:val b=0;rw[h0,Yb,oq oa,oq rfl];have E:toL (val b)≠[]:=by rw[Qdx h0];simp
 have W:(toL (val b)).length≠0:=λh=>E (xx h);rw[oj om,oj h0,Ql9 hn om om d (Jo _),sbind,Q8,bifd];by_cases g:val a<val b;rw[oq (by rw[cmpI,oq g];decide),Y1 hn om,sbind,ge g,xv g,Yb,K1 d];rw[oj (by rw[cmpI,oj g];split<;>decide),bifd];by_cases R:(toL (val b)).length=1;rw[oq om];obtain⟨y,P⟩:=List.length_eq_one_iff.1 R;have F:=Q8 (val b);have O:=Jo (val b);rw[P] at F O;simp only[val,vv,xp] at F;have H:=(K0.1 O).1;rw[P,show getI [y] (0:Int)=some y by rfl,sbind,Q7v hn om d om H,sbind];simp only[];have:=uw (val a) (show y > 0 by omega);rw[Qir hn om,sbind,<-F];rw[oj om];have j:4294967296<=val b:=by
  rcases xl (val b) 4294967296 with h | h;have:=Qeh (n:=val b) (k:=1) (by rw[W0,Qbn];omega);omega;exact h
 obtain⟨bl,I,f,p,e2⟩:=len2 j;have e:=Jo (val b);have i:f<4294967296:=by rw[p] at e;exact(K0.1 (K0.1 (Kv.1 e).2).2).1
 have S:(toL (val b)).length=bl.length+2:=by rw[p];simp
 rw[w64 (x:=((toL (val b)).length:Int) - 1) om om,show((toL (val b)).length:Int) - 1=((bl.length+1:Nat):Int) by omega];rw[show getI (toL (val b)) ((bl.length+1:Nat):Int)=some f by rw[p,show bl++[I,f]=(bl++[I])++f::[] by simp];exact Ws oc,sbind,Qzv hn i,sbind];have hs:=Jqj i;rw[w64 (x:=(32:Int) - (blen f:Int)) om om,show(32:Int) - (blen f:Int)=((32 - blen f:Nat):Int) by omega];have l:32 - blen f<=32:=om
 generalize 32 - blen f=s at *;have A:=vr s;rw[Q1c hn om d om,sbind];have l1:=Q3j (v:=val a) l;have l2:=Q3j (v:=val b) l;rw[J5 oh oh,sbind,Q1c hn om e om,sbind,Q8];have T:val b<=val b*2 ^ s:=Nat.le_mul_of_pos_right _ A;obtain⟨vl,v4,v3,L,Q⟩:=len2 (v:=val b*2 ^ s) om;have B:val b*2 ^ s<=val a*2 ^ s:=xh _ om;have Z:=Y9 B;have C:=Jqk (v:=val b*2 ^ s) om;have hvl:(toL (val b*2 ^ s)).length=vl.length+2:=by rw[L];simp
 have G:Wd (toL (val a*2 ^ s)++[0]):=Kv.2 ⟨Jo _,K0.2 ⟨om,W9⟩⟩
 obtain⟨⟨q,r⟩,g1,M,g3,g4,N,t,w⟩:=Q70 (u:=toL (val a*2 ^ s)++[0]) (v:=toL (val b*2 ^ s)) hn L Q G (Jo _) oh oh (by
  rw[yn,uy,List.drop_append_of_le_length om,Vh,vv,xp,Q8];have:=Zh (Qox (k:=(toL (val a*2 ^ s)).length+1 - (toL (val b*2 ^ s)).length) (Jo (val a*2 ^ s)));rw[uc] at this
  exact xt this (xo (bp_le om) C))
 simp only at M g3 g4 N t w;rw[Vh,vv,xp,Q8,Q8] at t;rw[Q8] at w;rw[yn,uy] at M g4;rw[g1,sbind];simp only[];rw[Y1 hn om,sbind,Q7x hn om N om,sbind,<-K1 g3];obtain⟨J,K⟩:=dm_of (U:=val a*2 ^ s) (V:=val b*2 ^ s) (q:=val q) (r:=val r) (by rw[t,uv (val q)];omega) w;rw[Nat.mul_div_mul_right _ _ A] at J;rw[Nat.mul_mod_mul_right] at K;rw[<-J,<-K,Nat.mul_div_cancel _ A]
theorem Q2x{n x y:Nat}(hn:big<=n)(f:y<18446744073709551616):Qjb n x y=some (Nat.gcd x y):=by unfold Qjb;unfold big at hn;refine Qb9 (λs=>s.2) (λs=>s.2<18446744073709551616/\Nat.gcd s.1 s.2=Nat.gcd x y) (λt=>t=Nat.gcd x y) ⟨f,rfl⟩ (by simp only[];omega) ?_ (λt e=>by rw[e]);rintro⟨u,v⟩ ⟨d,a⟩;simp only at d a;simp only[bifnd];by_cases h0:v=0;right;rw[oq h0];exact⟨_,rfl,by rw[<-a,h0,Nat.gcd_zero_right]⟩;left;rw[oj h0,grd_t (by simp[h0]),sbind];have:=uw u (show v > 0 by omega);exact⟨_,rfl,⟨by simp only[];omega,by rw[<-a,Nat.gcd_comm u v,Nat.gcd_rec v u,Nat.gcd_comm]⟩,this⟩
theorem Q5x{v:Nat}:Qlq (toL v)=some (decide (v=1)):=by
 unfold Qlq;simp only[jn_eq,bifd];by_cases h:(toL v).length=1;obtain⟨x,a⟩:=List.length_eq_one_iff.1 h;have:=Q8 v;rw[a] at this;simp[val] at this;rw[a,oq oc,show getI [x] (0:Int)=some x by rfl,sbind,this];rw[oj om];have:v≠1:=by rintro rfl;apply h;rw[Qdx oz,show 1 / 4294967296=0 by decide,Yb];rfl
 rw[oo this]
theorem Jnl{v k:Nat}(h:v<2 ^ k):blen v<=k:=by
 rcases xl k (blen v) with a | a;have h0:v≠0:=by rintro rfl;rw[Qj3] at a;omega
 have g1:=Qq0 h0;have d:2 ^ k<=2 ^ (blen v - 1):=jm oz om;omega;exact a
theorem Jnm{r u:Nat}(h:2*r<u):blen r<blen u:=by
 have d:=Qs9 (x:=u);by_cases h0:r=0;subst h0;rw[Qj3];exact Qy3 om;have g1:=Qq0 h0;have a:=Qy3 h0;have g3:2 ^ blen r=2 ^ (blen r - 1)*2:=by rw[<-ji,show(blen r - 1).succ=blen r by omega]
 have g4:2 ^ blen r<2 ^ blen u:=om
 exact(tm oz).1 g4
theorem Qy5{v:Nat}:blen v<=32*(toL v).length:=by refine Jnl ?_;rw[<-Qnz];have:=Zh (Jo v);rwa [Q8] at this
theorem Jlm{u v:Nat}(h0:v≠0):blen v+blen (u%v)+(if v<u%v then 1 else 0)<blen u+blen v+(if u<v then 1 else 0):=by
 have g:=uw u (show v > 0 by omega);rw[oj om];by_cases h:u<v;rw[oq h,xv h];omega;rw[oj h];have d:2*(u%v)<u:=by have e:=vj u v;have a:1<=u / v:=(Nat.le_div_iff_mul_le om).2 om;have f:v*1<=v*(u / v):=ut _ a;omega
 have:=Jnm d;omega
theorem Q5y{n:Nat}{a b:List Nat}(hn:big<=n)(y:a.length<4398046511104)(hb:b.length<4398046511104)(g:Wd a)(i:Wd b):Qlp n a b=some (toL (Nat.gcd (val a) (val b))):=by
 unfold Qlp;have m:=Km g;have p:=Km i;rw[Y1 hn om,sbind,Y1 hn om,sbind,<-K1 g,<-K1 i];have l:=hn;unfold big at l
 refine Qb9 (λs=>blen (val s.1)+blen (val s.2)+(if val s.1<val s.2 then 1 else 0)) (λs=>∃ u v,s=(toL u,toL v)/\Nat.gcd u v=Nat.gcd (val a) (val b)/\(toL u).length<4398046511104/\(toL v).length<4398046511104)
  (λt=>∃ u v,t=(toL u,toL v)/\Nat.gcd u v=Nat.gcd (val a) (val b)/\(toL u).length<4398046511104/\(toL v).length<=2) ⟨val a,val b,rfl,rfl,om,om⟩ ?_ ?_ ?_
 simp only[Q8];have x:=Qy5 (v:=val a);have e:=Qy5 (v:=val b);split<;>omega;rintro s ⟨u,v,rfl,e,j,k⟩;simp only[bifd,Q8];by_cases h0:2<(toL v).length;left;have f:v≠0:=by rintro rfl;rw[Yb] at h0;simp at h0
 rw[oq om,Qn9 hn j k (Jo _) (Jo _),sbind,Q8,Q8,oj f];refine⟨_,rfl,⟨v,u%v,rfl,?_,k,?_⟩,?_⟩;rw[<-e,Nat.gcd_comm u v,Nat.gcd_rec v u,Nat.gcd_comm];exact um (Y9 (Nat.le_of_lt (uw u om))) k;simp only[Q8];exact Jlm f;right;rw[oj om];exact⟨_,rfl,u,v,rfl,e,j,om⟩;rintro t ⟨u,v,rfl,e,j,k⟩;simp only[bifd];by_cases h0:v=0;subst h0;rw[Yb,oq oa,<-e,Nat.gcd_zero_right];have w:(toL v).length≠0:=λh=>by rw[Qdx h0] at h;simp at h
 have d:v<18446744073709551616:=by rcases xl v 18446744073709551616 with h | h;exact h;have:=Jfo h;omega
 have r:=uw u (show v > 0 by omega);have q:=Y9 (Nat.le_of_lt r);rw[oj om,Qn9 hn j om (Jo _) (Jo _),sbind,Q8,Q8,oj h0];simp only[];rw[Qxh hn om (Jo _),sbind,Qxh hn om (Jo _),sbind,Q8,Q8,oq d,oq om];simp only[];rw[Q2x hn om,sbind,Qir hn (um (Nat.gcd_le_left _ om) d),sbind,<-e,Nat.gcd_comm u v,Nat.gcd_rec v u,Nat.gcd_comm]
theorem Q1d{n:Nat}{a b:List Nat}(hn:big<=n)(i:a.length<4398046511104)(hb:b.length<4398046511104)(e:Wd a)(f:Wd b):
 Qhw n a b=some (toL (val a / Nat.gcd (val a) (val b)),toL (val b / Nat.gcd (val a) (val b))):=by
 unfold Qhw;rw[Q5y hn i hb e f,sbind,bifd];have j:Nat.gcd (val a) (val b) ∣ val a:=Nat.gcd_dvd_left _ _;have k:Nat.gcd (val a) (val b) ∣ val b:=Nat.gcd_dvd_right _ _;have l:=Km e;have m:=Km f;have d:Nat.gcd (val a) (val b)=0\/(toL (Nat.gcd (val a) (val b))).length<4398046511104:=by by_cases h:val a=0;rw[h,Nat.gcd_zero_left];right;omega;right;exact um (Y9 (Nat.gcd_le_left _ om)) om
 by_cases h0:Nat.gcd (val a) (val b)=0;rw[h0,Yb,oq oa,Nat.div_zero,Nat.div_zero,Yb];have p:(toL (Nat.gcd (val a) (val b))).length≠0:=λh=>by rw[Qdx h0] at h;simp at h
 rw[oj om,Q5x,sbind,bifd];by_cases g:Nat.gcd (val a) (val b)=1;rw[oq g,Y1 hn om,sbind,Y1 hn om,sbind,g,Nat.div_one,Nat.div_one,K1 e,K1 f];have d:(toL (Nat.gcd (val a) (val b))).length<4398046511104:=by rcases d with h | h;exact absurd h h0;exact h
 rw[oj g,Qn9 hn i d e (Jo _),sbind,Qn9 hn hb d f (Jo _),sbind,Q8,oj h0,oj h0]
def wv(w:Qi):Int:=if w.Neg then -(val w.A6:Int) else (val w.A6:Int)
def toW(z:Int):Qi:=⟨decide (z<0),toL z.natAbs⟩
theorem Qf8(z:Int):wv (toW z)=z:=by unfold wv toW;simp only[gj,Q8];split<;>omega
theorem Qis{v:Nat}:0<(toL v).length↔v≠0:=by constructor;rintro h rfl;rw[Yb] at h;simp at h;intro h;rw[Qdx h];simp
theorem Qbp{s:Bool}{v:Nat}:Yy s (toL v)=some (toW (if s then -(v:Int) else (v:Int))):=by unfold Yy toW;rw[jn_eq];cases s;rw[bifF];congr 2;rw[bifT];congr 2;exact gg.2 (by simp only[yf];have:=@Qis v;omega);simp
def Ww(w:Qi):Prop:=Wd w.A6/\w.A6.length<4398046511104
theorem Qp8{n:Nat}{w:Qi}(hn:big<=n)(h:Ww w):Qd5 n w=some (toW (wv w)):=by unfold Qd5;rw[Y1 hn (by have:=h.2;omega),sbind,<-K1 h.1,Qbp,sbind];rfl
theorem Jft(s t:Bool)(x y:Nat):(if (s != t) then -((x*y:Nat):Int) else ((x*y:Nat):Int))=(if s then -(x:Int) else (x:Int))*(if t then -(y:Int) else (y:Int)):=by cases s<;>cases t<;>simp[Int.neg_mul,Int.mul_neg]
theorem Qxi{n:Nat}{w u:Qi}(hn:big<=n)(d:Ww w)(a:Ww u):Qku n w u=some (toW (wv w*wv u)):=by unfold Qku;rw[Qhm hn (by have:=d.2;omega) (by have:=a.2;omega) d.1 a.1,sbind,Qbp,sbind,Jft];rfl
theorem Jc4{x y:Nat}:cmpI x y<0↔x<y:=by by_cases h:x<y;simp[cmpI,h];rw[cmpI,oj h];split<;>omega
theorem Qxj{n:Nat}{w u:Qi}(hn:big<=n)(e:Ww w)(d:Ww u):Qkw n w u=some (toW (wv w+wv u)):=by unfold Qkw;have l1:=e.2;have g:=d.2;rw[Jc1 hn om om e.1 d.1,sbind,Qbp,sbind,Jc2 hn om om e.1 d.1,sbind,bifd,Qbp,sbind,Qbp,sbind];unfold wv;rcases w with ⟨s,a⟩;rcases u with ⟨t,b⟩;simp only[];generalize val a=x;generalize val b=y;have f:=@Jc4 x y;cases s<;>cases t<;>simp only[beq_self_eq_true,bifT,bifF,wg,yf,yv,show(false == true)=false by rfl,show(true == false)=false by rfl,f];congr 2;split<;>congr 2<;>omega;split<;>congr 2<;>omega;congr 2;omega
theorem Qxk{n:Nat}{w:Qi}(hn:big<=n)(h:Ww w):Qkv n w=some (toW (-wv w)):=by unfold Qkv;rw[Y1 hn (by have:=h.2;omega),sbind,<-K1 h.1,Qbp,sbind];unfold wv;cases w.Neg<;>simp
theorem Jnn(z:Int):(toW (-z)).A6=(toW z).A6:=by unfold toW;simp
theorem Qic(z:Int):Wd (toW z).A6:=Jo _
theorem Qp9{n:Nat}{w:Qi}(hn:big<=n)(h:Ww w):Qfa n w=some (Int.sign (wv w)):=by unfold Qfa wv;rw[Qzs hn (by have:=h.2;omega) h.1,sbind,bifd];by_cases h0:val w.A6=0;rw[oq h0,h0];cases w.Neg<;>rfl;rw[oj h0];cases w.Neg;rw[bifF,oj oz,da om];rw[bifT,oq rfl,dh om]
theorem Qid(w:Qi):(wv w).natAbs=val w.A6:=by unfold wv;split<;>omega
theorem Jql{w:Qi}(h:Ww w):Ww (toW (-wv w)):=by refine⟨Qic _,?_⟩;rw[Jnn];show(toL (wv w).natAbs).length<_;rw[Qid];exact um (Km h.1) h.2
theorem Qxl{n:Nat}{w u:Qi}(hn:big<=n)(d:Ww w)(a:Ww u):Qkx n w u=some (toW (wv w - wv u)):=by unfold Qkx;rw[Qxk hn a,sbind,Qxj hn d (Jql a),sbind,Qf8,Int.sub_eq_add_neg]
theorem Q71{n:Nat}{w u:Qi}(hn:big<=n)(d:Ww w)(a:Ww u)(h:Ww (toW (wv w - wv u))):Qne n w u=some (Int.sign (wv w - wv u)):=by unfold Qne;rw[Qxl hn d a,sbind,Qp9 hn h,sbind,Qf8]
def fv(f:Qa):Rat:=mkRat (wv f.Num) (val f.Den)
def toF(q:Rat):Qa:=⟨toW q.num,toL q.den⟩
theorem Jf(q:Rat):fv (toF q)=q:=by unfold fv toF;rw[Qf8,Q8];exact we q
theorem Qkq{z:Int}{d:Nat}(hd:d≠0):(mkRat z d).num=z / (Nat.gcd z.natAbs d:Int)/\(mkRat z d).den=d / Nat.gcd z.natAbs d:=by rw[<-Rat.normalize_eq_mkRat hd,Rat.normalize_eq];exact⟨rfl,rfl⟩
theorem Jfu(s:Bool)(x g:Nat)(h:g ∣ x):(if s then -((x / g:Nat):Int) else ((x / g:Nat):Int))=(if s then -(x:Int) else (x:Int)) / (g:Int):=by cases s;simp;simp only[yf];rw[Int.neg_ediv_of_dvd (Int.natCast_dvd_natCast.2 h)];simp
theorem Qg6{n:Nat}{w:Qi}{d:List Nat}(hn:big<=n)(e:Ww w)(hd:Wd d)(k:d.length<4398046511104)(h0:val d≠0):Qcc n w d=some (toF (mkRat (wv w) (val d))):=by unfold Qcc;have f:=e.2;have j:Nat.gcd (val w.A6) (val d) ∣ val w.A6:=Nat.gcd_dvd_left _ _;have a:(toL (val w.A6 / Nat.gcd (val w.A6) (val d))).length<4398046511104:=um (xo (Y9 (jl _ _)) (Km e.1)) f;rw[Q1d hn f k e.1 hd,sbind,Qp8 hn ⟨Jo _,a⟩,sbind];obtain⟨g,i⟩:=Qkq (z:=wv w) h0;unfold toF;rw[g,i,Qid];congr 2;unfold wv;rw[Q8];congr 1;exact Jfu _ _ _ j
def Fw(f:Qa):Prop:=Ww f.Num/\Wd f.Den/\f.Den.length<4398046511104
theorem Qvf{n:Nat}{f:Qa}(hn:big<=n)(e:Fw f):∃ p,Xy n f=some p/\Ww p.1/\Wd p.2/\p.2.length<=max 1 f.Den.length/\p.1.A6.length<=f.Num.A6.length/\val p.2≠0/\mkRat (wv p.1) (val p.2)=fv f:=by obtain⟨d,a,g⟩:=e;unfold Xy fv;rw[Qzs hn om a,sbind,bifd];by_cases h0:val f.Den=0;rw[oq h0,Qir hn om,sbind];refine⟨_,rfl,⟨W9,oc⟩,Jo _,?_,oc,by simp only[Q8];decide,?_⟩;have:=Qeh (n:=1) (k:=1) (by rw[W0,Qbn];omega);simp only[];omega;simp only[Q8,h0,Rat.mkRat_zero];rfl;rw[oj h0];exact⟨_,rfl,d,a,by simp only[];omega,xr _,h0,rfl⟩
theorem V0{n:Nat}{f:Qa}(hn:big<=n)(a:Fw f):Vr n f=some (toF (fv f)):=by obtain⟨p,d,e,g,k,l,i,j⟩:=Qvf hn a;unfold Vr;rw[d,sbind,Qg6 hn e g (by have:=a.2.2;omega) i,sbind,j]
theorem Qck{x y:Nat}:(toL (x*y)).length<=(toL x).length+(toL y).length:=by refine Qeh ?_;have a:=Zh (Jo x);have d:=Zh (Jo y);rw[Q8] at a d;rw[Jqg];exact Nat.mul_lt_mul'' a d
theorem Qta{x y k:Nat}(d:(toL x).length<=k)(e:(toL y).length<=k):(toL (x+y)).length<=k+1:=by refine Qeh ?_;have g1:=Zh (Jo x);have a:=Zh (Jo y);rw[Q8] at g1 a;have g3:=bp_le d;have g4:=bp_le e;rw[W0];omega
theorem Qei{n:Nat}{w:Qi}{d:List Nat}(hn:big<=n)(e:Ww w)(hd:Wd d)(a:d.length<4398046511104):Qb0 n w d=some (toW (wv w*(val d:Int))):=by unfold Qb0;rw[Qxi hn e ⟨hd,a⟩,sbind];rfl
def Fk(k:Nat)(f:Qa):Prop:=Wd f.Num.A6/\f.Num.A6.length<=k/\Wd f.Den/\f.Den.length<=k
theorem Fk_Fw{k:Nat}{f:Qa}(h:Fk k f)(hk:k<4398046511104):Fw f:=⟨⟨h.1,by have:=h.2.1;omega⟩,h.2.2.1,by have:=h.2.2.2;omega⟩
theorem Qjy{n k:Nat}{f:Qa}(hn:big<=n)(a:Fk k f)(e:1<=k)(hk:k<4398046511104):∃ w d,Xy n f=some (w,d)/\Wd w.A6/\w.A6.length<=k/\Wd d/\d.length<=k/\val d≠0/\mkRat (wv w) (val d)=fv f:=by obtain⟨⟨w,d⟩,e,g,i,j,l,m,p⟩:=Qvf hn (Fk_Fw a hk);exact⟨w,d,e,g.1,xo l a.2.1,i,by have:=a.2.2.2;simp only at j;omega,m,p⟩
theorem Qoj{w:Qi}{y k j:Nat}(a:Wd w.A6)(d:w.A6.length<=k)(e:(toL y).length<=j):(toW (wv w*(y:Int))).A6.length<=k+j:=by unfold toW;simp only[];rw[jg,Qid,wh];have:=@Qck (val w.A6) y;have:=Km a;omega
theorem Wo{n k:Nat}{f g:Qa}(hn:big<=n)(l:1<=k)(hk:k<1099511627776)(t:Fk k f)(v:Fk k g):Vy n f g=some (toF (fv f+fv g)):=by
 obtain⟨w,d,a1,a2,a3,a4,a5,a6,a7⟩:=Qjy hn t l om;obtain⟨u,e,p,i,q,a,r,j,s⟩:=Qjy hn v l om;have l1:=Qoj a2 a3 (xo (Km a) r);have m:=Qoj i q (xo (Km a4) a5);unfold Vy;rw[a1,sbind,p,sbind,Qei hn ⟨a2,om⟩ a om,sbind,Qei hn ⟨i,om⟩ a4 om,sbind,Qxj hn ⟨Qic _,om⟩ ⟨Qic _,om⟩,sbind,Qhm hn om om a4 a,sbind];have x:=@Qck (val d) (val e);have y:=Km a4;have A:=Km a;rw[Qf8,Qf8];have hs:(toW (wv w * ↑(val e)+wv u * ↑(val d))).A6.length<=2*k+1:=by
  unfold toW at l1 m |-;simp only[] at l1 m |-;have:=Int.natAbs_add_le (wv w * ↑(val e)) (wv u * ↑(val d));exact xo (Y9 this) (Qta om om)
 rw[Qg6 hn ⟨Qic _,om⟩ (Jo _) om (by rw[Q8];exact jd a6 j),sbind,Q8,Qf8,<-a7,<-s,ts _ _ a6 j]
theorem Qoa{n k:Nat}{f g:Qa}(hn:big<=n)(l:1<=k)(hk:k<1099511627776)(t:Fk k f)(v:Fk k g):Qhx n f g=some (toF (fv f - fv g)):=by
 obtain⟨w,d,a1,a2,a3,a4,a5,a6,a7⟩:=Qjy hn t l om;obtain⟨u,e,p,i,q,a,r,j,s⟩:=Qjy hn v l om;have l1:=Qoj a2 a3 (xo (Km a) r);have m:=Qoj i q (xo (Km a4) a5);unfold Qhx;rw[a1,sbind,p,sbind,Qei hn ⟨a2,om⟩ a om,sbind,Qei hn ⟨i,om⟩ a4 om,sbind,Qxl hn ⟨Qic _,om⟩ ⟨Qic _,om⟩,sbind,Qhm hn om om a4 a,sbind];have x:=@Qck (val d) (val e);have y:=Km a4;have A:=Km a;rw[Qf8,Qf8];have hs:(toW (wv w * ↑(val e) - wv u * ↑(val d))).A6.length<=2*k+1:=by
  unfold toW at l1 m |-;simp only[] at l1 m |-;have:=Int.natAbs_sub_le (wv w * ↑(val e)) (wv u * ↑(val d));exact xo (Y9 this) (Qta om om)
 rw[Qg6 hn ⟨Qic _,om⟩ (Jo _) om (by rw[Q8];exact jd a6 j),sbind,Q8,Qf8,<-a7,<-s,te,Rat.neg_mkRat,ts _ _ a6 j,Int.neg_mul,<-Int.sub_eq_add_neg]
theorem Yc{n k:Nat}{f g:Qa}(hn:big<=n)(j:1<=k)(hk:k<1099511627776)(q:Fk k f)(r:Fk k g):W5 n f g=some (toF (fv f*fv g)):=by
 obtain⟨w,d,a1,a2,a3,a4,a5,a6,a7⟩:=Qjy hn q j om;obtain⟨u,e,l,a,s,i,t,m,p⟩:=Qjy hn r j om;unfold W5;rw[a1,sbind,l,sbind,Qxi hn ⟨a2,om⟩ ⟨a,om⟩,sbind,Qhm hn om om a4 i,sbind];have x:=@Qck (val d) (val e);have y:=Km a4;have A:=Km i;have hs:(toW (wv w*wv u)).A6.length<=2*k:=by unfold toW;simp only[];rw[jg,Qid,Qid];have g1:=@Qck (val w.A6) (val u.A6);have v:=Km a2;have g3:=Km a;omega
 rw[Qg6 hn ⟨Qic _,om⟩ (Jo _) om (by rw[Q8];exact jd a6 m),sbind,Q8,Qf8,<-a7,<-p,je]
theorem Jno(q:Rat):toF (-q)=⟨toW (-q.num),toL q.den⟩:=rfl
theorem Jqm{f:Qa}(a:Fw f):Ww (toF (fv f)).Num:=by
 refine⟨Qic _,?_⟩;show(toL (fv f).num.natAbs).length<_;by_cases h0:val f.Den=0;unfold fv;rw[h0,Rat.mkRat_zero];simp[Yb];obtain⟨d,_⟩:=Qkq (z:=wv f.Num) h0;unfold fv;rw[d];have e:(wv f.Num / (Nat.gcd (wv f.Num).natAbs (val f.Den):Int)).natAbs<=val f.Num.A6:=by rw[<-Qid];exact Int.natAbs_ediv_le_natAbs _ _
 exact um (xo (Y9 e) (Km a.1.1)) a.1.2
theorem Qhn{n:Nat}{f:Qa}(hn:big<=n)(a:Fw f):Qe4 n f=some (toF (-fv f)):=by unfold Qe4;have h:=Jqm a;rw[V0 hn a,sbind,Qxk hn h,sbind,Jno];unfold toF;simp only[Qf8]
theorem Qxm{a b:Int}{d e:Nat}(hd:d≠0)(f:e≠0):Int.sign (a*(e:Int) - b*(d:Int))=Int.sign (mkRat a d - mkRat b e).num:=by rw[te,Rat.neg_mkRat,ts _ _ hd f,Int.neg_mul,<-Int.sub_eq_add_neg];generalize a*(e:Int) - b*(d:Int)=z;have h0:d*e≠0:=jd hd f;obtain⟨i,_⟩:=Qkq (z:=z) h0;rw[i];have k:(Nat.gcd z.natAbs (d*e):Int) ∣ z:=Int.dvd_natAbs.1 (Int.natCast_dvd_natCast.2 (Nat.gcd_dvd_left _ _));obtain⟨c,j⟩:=k;have hp:0<Nat.gcd z.natAbs (d*e):=Nat.gcd_pos_of_pos_right _ om;generalize Nat.gcd z.natAbs (d*e)=g at *;subst j;rw[Int.mul_ediv_cancel_left _ om,Int.sign_mul,da om,Int.one_mul]
theorem Qsf{n k:Nat}{f g:Qa}(hn:big<=n)(j:1<=k)(hk:k<1099511627776)(t:Fk k f)(v:Fk k g):Qj8 n f g=some (Int.sign (fv f - fv g).num):=by
 obtain⟨w,d,a1,a2,a3,a4,a5,a6,a7⟩:=Qjy hn t j om;obtain⟨u,e,m,a,p,i,q,r,s⟩:=Qjy hn v j om;have l1:=Qoj a2 a3 (xo (Km i) q);have l:=Qoj a p (xo (Km a4) a5);have hs:(toW (wv w * ↑(val e) - wv u * ↑(val d))).A6.length<=2*k+1:=by unfold toW at l1 l |-;simp only[] at l1 l |-;have:=Int.natAbs_sub_le (wv w * ↑(val e)) (wv u * ↑(val d));exact xo (Y9 this) (Qta om om)
 unfold Qj8;rw[a1,sbind,m,sbind,Qei hn ⟨a2,om⟩ i om,sbind,Qei hn ⟨a,om⟩ a4 om,sbind,Q71 hn ⟨Qic _,om⟩ ⟨Qic _,om⟩ (by rw[Qf8,Qf8];exact⟨Qic _,om⟩),sbind,Qf8,Qf8,Qxm a6 r,a7,s]
theorem Q72:∀ {a b:List Nat},Wd a->Wd b->a.length=b.length->val a=val b->a=b
 | [],[],_,_,_,_=>rfl
 | [],_::_,_,_,h,_=>by simp at h
 | _::_,[],_,_,h,_=>by simp at h
 | x::a,y::b,f,hb,g,i=>by
   obtain⟨j,d⟩:=K0.1 f;obtain⟨k,e⟩:=K0.1 hb;simp only[val] at i;have:x=y:=om
   subst this;rw[Q72 d e (by simpa using g) om]
theorem Qvg{x y:Nat}:cmpI x y=0↔x=y:=by unfold cmpI;split;constructor<;>intro h<;>omega;split;constructor<;>intro h<;>omega;constructor<;>intro h<;>omega
open Classical in
theorem Qqa{n:Nat}{f:Qa}(hn:big<=n)(u:Fw f):Z9 n f=some (decide (f=toF (fv f))):=by
 unfold Z9;rw[V0 hn u,sbind,jn_eq];have w1:Wd (toF (fv f)).Num.A6:=Jo _;have r:Wd (toF (fv f)).Den:=Jo _;generalize toF (fv f)=g at *;obtain⟨⟨p,v⟩,q,w⟩:=u;obtain⟨⟨s,a⟩,d⟩:=f;obtain⟨⟨t,b⟩,e⟩:=g;simp only at p v q w w1 r |-;have i:∀ {P:Prop},(P->False)->(some false:Option Bool)=some (decide P):=λh=>by rw[oo h]
 by_cases c1:s=t;subst c1;rw[show(s == s)=true by simp,bifT];by_cases l:(a.length:Int)=(b.length:Int)
 rw[ol l,bifT];by_cases m:(d.length:Int)=(e.length:Int)
 rw[ol m,bifT,Ql9 hn om om p w1,sbind];by_cases j:val a=val b;rw[ol (Qvg.2 j),bifT,Ql9 hn om om q r,sbind];by_cases k:val d=val e;rw[ol (Qvg.2 k),Q72 p w1 om j,Q72 q r om k,ol rfl];rw[oo λh=>k (Qvg.1 h)];exact i λh=>by cases h;exact k rfl
 rw[oo λh=>j (Qvg.1 h),bifF];exact i λh=>by cases h;exact j rfl
 rw[oo m,bifF];exact i λh=>by cases h;exact m rfl
 rw[oo l,bifF];exact i λh=>by cases h;exact l rfl
 rw[show(s == t)=false by simpa using c1,bifF];exact i λh=>by cases h;exact c1 rfl
def qw(q:Rat):Nat:=max (toL q.num.natAbs).length (toL q.den).length
theorem Wg{j k:Nat}{f:Qa}(h:Fk j f)(hk:j<=k):Fk k f:=⟨h.1,by have:=h.2.1;omega,h.2.2.1,by have:=h.2.2.2;omega⟩
theorem Jq{q:Rat}{k:Nat}(h:qw q<=k):Fk k (toF q):=by unfold qw at h;exact⟨Qic _,by show(toL q.num.natAbs).length<=k;omega,Jo _,by show(toL q.den).length<=k;omega⟩
theorem toL1:(toL 1).length=1:=by rw[Qdx oz];simp[Yb]
theorem Q35{z:Int}{d k:Nat}(hd:d≠0)(g:(toL z.natAbs).length<=k)(i:(toL d).length<=k):qw (mkRat z d)<=k:=by obtain⟨a,e⟩:=Qkq (z:=z) hd;unfold qw;rw[a,e];have g1:=Y9 (Int.natAbs_ediv_le_natAbs z (Nat.gcd z.natAbs d:Int));have f:=Y9 (jl d (Nat.gcd z.natAbs d));omega
theorem Zo:qw 0=1:=by unfold qw;rw[show(0:Rat).num=0 from rfl,show(0:Rat).den=1 from rfl,toL1];simp[Yb]
theorem Q5z(q:Rat):1<=qw q:=by have:=(Qis (v:=q.den)).2 q.den_nz;unfold qw;omega
theorem qw_fv{f:Qa}{k:Nat}(h:Fk k f)(a:1<=k):qw (fv f)<=k:=by unfold fv;by_cases h0:val f.Den=0;rw[h0,Rat.mkRat_zero,Zo];exact a;refine Q35 h0 ?_ ?_;rw[Qid];exact xo (Km h.1) h.2.1;exact xo (Km h.2.2.1) h.2.2.2
theorem Qf9(q:Rat):(toL q.num.natAbs).length<=qw q:=by unfold qw;omega
theorem Qga(q:Rat):(toL q.den).length<=qw q:=by unfold qw;omega
theorem X0{a b:Rat}{j k:Nat}(f:qw a<=j)(hb:qw b<=k):qw (a*b)<=j+k:=by rw[<-we a,<-we b,je];have g:=Qf9 a;have i:=Qf9 b;have d:=Qga a;have e:=Qga b;have:=@Qck a.num.natAbs b.num.natAbs;have:=@Qck a.den b.den;exact Q35 (jd a.den_nz b.den_nz) (by rw[jg];omega) om
theorem Zx{a b:Rat}{j k:Nat}(f:qw a<=j)(hb:qw b<=k):qw (a+b)<=j+k+1:=by rw[<-we a,<-we b,ts _ _ a.den_nz b.den_nz];have m:=Qf9 a;have n:=Qf9 b;have d:=Qga a;have e:=Qga b;have g:=@Qck a.num.natAbs b.den;have i:=@Qck b.num.natAbs a.den;have l:=@Qck a.den b.den;refine Q35 (jd a.den_nz b.den_nz) ?_ om;refine xo (Y9 (Int.natAbs_add_le _ _)) ?_;rw[jg,jg,wh,wh];exact Qta om om
theorem Q2i(a:Rat):(-a).num=-a.num:=rfl
theorem Jfv(a:Rat):(-a).den=a.den:=rfl
theorem Qjz(a:Rat):qw (-a)=qw a:=by unfold qw;rw[Q2i,Jfv,Int.natAbs_neg]
theorem Q1e{a b:Rat}{j k:Nat}(d:qw a<=j)(hb:qw b<=k):qw (a - b)<=j+k+1:=by rw[te];exact Zx d (by rw[Qjz];exact hb)
theorem Q1f{a:Rat}{j:Nat}(g:qw a<=j):qw a⁻¹<=j:=by
 have i:=Qf9 a;have d:=Qga a;have p:=Q5z a;unfold qw;rw[Rat.num_inv,Rat.den_inv];have e:(toL (a.num.sign*(a.den:Int)).natAbs).length<=j:=by
  rw[jg,wh];refine xo (Y9 (y:=a.den) ?_) om;have:a.num.sign.natAbs<=1:=by rw[Int.natAbs_sign];split<;>omega
  calc a.num.sign.natAbs*a.den<=1*a.den:=xh _ this
   _=a.den:=Nat.one_mul _
 have f:(toL (if a.num=0 then 1 else a.num.natAbs)).length<=j:=by
  split
  . rw[toL1];omega
  . omega
 omega
theorem Qqb{a b:Rat}{j k:Nat}(d:qw a<=j)(hb:qw b<=k):qw (a / b)<=j+k:=by rw[db];exact X0 d (Q1f hb)
theorem Q50{a:Rat}{j:Nat}(d:qw a<=j):∀ n:Nat,qw (a ^ n)<=n*j+1
 | 0=>by rw[jj];unfold qw;rw[show(1:Rat).num=1 from rfl,show(1:Rat).den=1 from rfl,show(1:Int).natAbs=1 from rfl,toL1];omega
 | n+1=>by have:=X0 (Q50 d n) d;rw[jk,uz];omega
theorem Jnp(x:Int):toF (x:Rat)=⟨toW x,toL 1⟩:=by unfold toF;rw[Rat.num_intCast,Rat.den_intCast]
theorem Jax{n:Nat}{x:Int}(hn:big<=n)(a:-9223372036854775808<=x)(d:x<=9223372036854775807):Qo9 n x=some (toW x):=by
 unfold Qo9;rw[bifd];split;rename_i h;have e:(18446744073709551616 - Int.toNat (x%18446744073709551616))%18446744073709551616=x.natAbs:=om
 rw[sbind,e,Qir hn om,sbind,Qbp,sbind,oq rfl,show -((x.natAbs:Nat):Int)=x by omega];rename_i h;have e:Int.toNat (x%18446744073709551616)=x.natAbs:=om
 rw[e,Qir hn om,sbind,Qbp,sbind,oj oz,show((x.natAbs:Nat):Int)=x by omega]
theorem Qma{n:Nat}{x:Int}(hn:big<=n)(a:-9223372036854775808<=x)(d:x<=9223372036854775807):Ko n x=some (toF (x:Rat)):=by unfold Ko;rw[Jax hn a d,sbind,Qir hn oz,sbind,Jnp]
theorem Zp{n:Nat}(hn:big<=n):Ko n 0=some (toF 0):=Qma hn oz oz
theorem Qf0{n:Nat}(hn:big<=n):Ko n 1=some (toF 1):=Qma hn oz oz
theorem Jhn{z:Int}{d:Nat}(hd:d≠0):(mkRat z d).num.sign=z.sign:=by have:=Qxm (a:=z) (b:=0) hd (e:=1) oz;rw[Rat.zero_mkRat,show mkRat z d - 0=mkRat z d by rw[te,show(-0:Rat)=0 from rfl,ui]] at this;rw[<-this];simp
theorem Qdy{n k:Nat}{f:Qa}(hn:big<=n)(a:1<=k)(hk:k<1099511627776)(e:Fk k f):Qba n f=some (fv f).num.sign:=by obtain⟨w,d,a1,a2,a3,a4,a5,a6,a7⟩:=Qjy hn e a om;unfold Qba;rw[a1,sbind,Qp9 hn ⟨a2,om⟩,sbind,<-a7,Jhn a6]
theorem Jc5{a b:Rat}:(a - b).num=0↔a=b:=by rw[jt];grind
theorem Qj0{n k:Nat}{f g:Qa}(hn:big<=n)(a:1<=k)(hk:k<1099511627776)(d:Fk k f)(e:Fk k g):Qa9 n f g=some (decide (fv f=fv g)):=by unfold Qa9;rw[Qsf hn a hk d e,sbind];refine yj some (gg.2 ?_);rw[du,Jc5]
def qz(q:Rat):Nat:=blen q.num.natAbs+blen q.den
theorem Q73{n k:Nat}{f:Qa}(hn:big<=n)(hk:k<1099511627776)(e:Fk k f):Qa8 n f=some ((blen (val f.Num.A6)+blen (val f.Den):Nat):Int):=by unfold Qa8;obtain⟨a,m,d,p⟩:=e;have g:=@Qy5 (val f.Num.A6);have i:=@Qy5 (val f.Den);have j:=Km a;have l:=Km d;rw[Qzw hn om a,sbind,Qzw hn om d,sbind,w64 om om];rfl
theorem Qvh{n:Nat}{q:Rat}(hn:big<=n)(hk:qw q<1099511627776):Qa8 n (toF q)=some (qz q:Int):=by rw[Q73 hn hk (Jq (xr _))];unfold qz toF toW;simp only[Q8]
theorem Q51{v b:Nat}(h:blen v<=b):(toL v).length<=b / 32+1:=by refine Qeh ?_;have a:=@Qs9 v;rw[Qnz];exact xt a (jm oz om)
theorem qw_qz{q:Rat}{b:Nat}(h:qz q<=b):qw q<=b / 32+1:=by unfold qz at h;have a:=@Q51 q.num.natAbs b om;have d:=@Q51 q.den b om;unfold qw;omega
theorem Jnq:∀ {u:Qi},wv u≠0->(wv u).sign=if u.Neg then -1 else 1
 | ⟨false,a⟩,h=>by have e:wv ⟨false,a⟩=(val a:Int):=rfl;rw[e] at h |-;rw[da om];rfl
 | ⟨true,a⟩,h=>by have e:wv ⟨true,a⟩=-(val a:Int):=rfl;rw[e] at h |-;rw[dh om];rfl
theorem Q9n{z:Int}{d:Nat}(a:z≠0)(hd:d≠0):(mkRat z d)⁻¹=mkRat (z.sign*(d:Int)) z.natAbs:=by
 have h0:mkRat z d≠0:=λh=>a ((Rat.mkRat_eq_zero hd).1 h);have e:mkRat z d*mkRat (z.sign*(d:Int)) z.natAbs=1:=by rw[je,<-Int.mul_assoc,Int.mul_sign_self,show(1:Rat)=mkRat 1 1 from rfl,Rat.mkRat_eq_iff (jd hd om) oz];simp[Int.mul_comm]
 grind
theorem Qho{n k:Nat}{f g:Qa}(hn:big<=n)(r:1<=k)(hk:k<1099511627776)(B:Fk k f)(C:Fk k g):Qcf n f g=some (if fv g=0 then (toF 0,false) else (toF (fv f / fv g),true)):=by
 obtain⟨w,d,a1,a2,a3,a4,a5,a6,a7⟩:=Qjy hn B r om;obtain⟨u,e,v,i,E,m,y,p,j⟩:=Qjy hn C r om;unfold Qcf;rw[a1,sbind,v,sbind,Qp9 hn ⟨i,om⟩,sbind,bifd];have s:(wv u).sign=0↔fv g=0:=by rw[<-j,Rat.mkRat_eq_zero p,du]
 by_cases h0:fv g=0;rw[oq (s.2 h0),oq h0,Zp hn,sbind];rw[oj (λh=>h0 (s.1 h)),oj h0,Qei hn ⟨a2,om⟩ m om,sbind,Qhm hn om om a4 i,sbind];have l1:=Qoj a2 a3 (xo (Km m) y);have F:=@Qck (val d) (val u.A6);have G:=Km a4;have H:=Km i;have a:wv u≠0:=λh=>h0 (by rw[<-j,h,Rat.zero_mkRat]);have l:val u.A6≠0:=by rw[<-Qid];omega
 rw[Qg6 (w:=⟨(toW (wv w * ↑(val e))).Neg != u.Neg,(toW (wv w * ↑(val e))).A6⟩) hn ⟨Qic (wv w * ↑(val e)),by show(toW (wv w * ↑(val e))).A6.length<_;omega⟩ (Jo _) om (by rw[Q8];exact jd a6 l),sbind,Q8];refine yj some (Prod.ext ?_ rfl);refine yj toF ?_;have A:wv (⟨((toW (wv w * ↑(val e))).Neg != u.Neg),(toW (wv w * ↑(val e))).A6⟩:Qi)=(wv w*(val e:Int))*(wv u).sign:=by
  have t:=Qf8 (wv w * ↑(val e));generalize toW (wv w * ↑(val e))=x at t |-;rw[<-t];have hs:=Jnq a;rw[hs];unfold wv;cases x.Neg<;>cases u.Neg<;>simp
 rw[A,<-a7,<-j,db];have q:=Q9n a p;rw[Qid] at q;rw[q,je];congr 1;rw[Int.mul_assoc,Int.mul_comm (val e:Int)]
theorem Q2j{v j:Nat}(h:(toL v).length<=j):∀ t,(toL (v ^ t)).length<=t*j+1
 | 0=>by rw[Nat.pow_zero,toL1];omega
 | t+1=>by have:=Q2j h t;have:=@Qck (v ^ t) v;rw[ji,uz];omega
theorem Qvi{n j t:Nat}{a:List Nat}(hn:big<=n)(d:Wd a)(e:a.length<=j)(k:j<1099511627776)(l:t<=7+1):Qje n a (t:Int)=some (toL (val a ^ t)):=by unfold Qje;rw[Qir hn oz,sbind];rw[Wr (λi=>(toL (val a ^ i),(i:Int))) t (toL (val a ^ t))];intro i hi;have f:=Q2j (xo (Km d) e) i;have g:i*j<=8*j:=xh _ om;simp only[bifd];rw[oq om,Qhm hn om om (Jo _) d,sbind,Q8,w1 om,ji];simp only[bifd];rw[oj om];unfold big at hn;omega;rfl
theorem Jfw(z:Int)(t:Nat):(if (decide (z<0) && decide (t%2=1))=true then -((z.natAbs ^ t:Nat):Int) else ((z.natAbs ^ t:Nat):Int))=z ^ t:=by
 rw[Int.natCast_pow];by_cases a:z<0;have e:(z.natAbs:Int)=-z:=om
 rw[e,ol a,Bool.true_and];rcases Nat.mod_two_eq_zero_or_one t with h | h;rw[oj (by rw[h];decide)];obtain⟨m,rfl⟩:∃ m,t=2*m:=⟨t / 2,om⟩
 rw[Int.pow_mul,Int.pow_mul];congr 1;rw[jx,jx,jx,jx];simp[Int.neg_mul_neg];rw[oq (by rw[h];decide)];obtain⟨m,rfl⟩:∃ m,t=2*m+1:=⟨t / 2,om⟩
 rw[jx,jx,Int.pow_mul,Int.pow_mul];have:(-z) ^ 2=z ^ 2:=by rw[jx,jx,jx,jx];simp[Int.neg_mul_neg]
 rw[this,Int.mul_neg,Int.neg_neg];have e:(z.natAbs:Int)=z:=om
 rw[oo a,Bool.false_and,oj oz,e]
theorem Qob{n k:Nat}{f:Qa}{e:Int}(hn:big<=n)(F:1<=k)(hk:k<1099511627)(s:Fk k f):
 Qhz n f e=some (if e < -8\/8<e\/(e<0/\fv f=0) then (toF 0,false) else (toF (fv f ^ e),true)):=by
 unfold Qhz;simp only[jn_eq];by_cases c1:e < -8;rw[ol c1,bifT,bifT,Zp hn,sbind,oq (.inl c1)];rw[oo c1,bifF];by_cases a:8<e;rw[ol a,bifT,bifT,Zp hn,sbind,oq (.inr (.inl a))];rw[oo a,bifF];have J:=Qdy hn F om s;have K:=qw_fv s F;have I:Fk k (toF (fv f)):=Jq K;obtain⟨g1,E,g3,g4⟩:=I;have G:=V0 hn (Fk_Fw s om);have j:max e (wrap64 (-e))=((e.natAbs:Nat):Int):=by rw[w64 om om];omega
 have w:=Qvi (t:=e.natAbs) hn g1 E om om;have A:=Qvi (t:=e.natAbs) hn g3 g4 om om;have l1:=Q2j (xo (Km g1) E) e.natAbs;have L:=Q2j (xo (Km g3) g4) e.natAbs;have P:e.natAbs*k<=8*k:=xh _ om;have g:decide (Int.tmod ((e.natAbs:Nat):Int) 2=1)=decide (e.natAbs%2=1):=by refine gg.2 ?_;rw[Int.tmod_eq_emod_of_nonneg om];omega
 have M:val (toF (fv f)).Num.A6=(fv f).num.natAbs:=Q8 _;have N:val (toF (fv f)).Den=(fv f).den:=Q8 _;have v3:(toF (fv f)).Num.Neg=decide ((fv f).num<0):=rfl;rw[M] at w l1;rw[N] at A L
 have fin:∀(u d:Nat),(toL u).length<=8*k+1->(if (toF (fv f)).Num.Neg=true then (Qd5 n (⟨decide (Int.tmod (max e (wrap64 (-e))) 2=1),toL u⟩:Qi)).bind λB=>some ((⟨B,toL d⟩:Qa),true) else (Qd5 n (⟨false,toL u⟩:Qi)).bind λC=>some ((⟨C,toL d⟩:Qa),true)) =
  some (⟨toW (if (decide ((fv f).num<0) && decide (e.natAbs%2=1))=true then -(u:Int) else (u:Int)),toL d⟩,true):=by
  intro u d O;rw[j,g,v3];by_cases q:(fv f).num<0;rw[oq (ol q),Qp8 hn ⟨Jo _,by show(toL u).length<_;omega⟩,sbind,ol q,Bool.true_and];unfold wv;simp only[Q8];rw[oj (by rw[oo q];decide),Qp8 hn ⟨Jo _,by show(toL u).length<_;omega⟩,sbind,oo q,Bool.false_and];unfold wv;simp only[Q8]
 have bifi:∀ {α:Type}(b:Bool) (x y:α),(bif b then x else y)=if b=true then x else y:=λb x y=>by cases b<;>rfl
 by_cases l:e<0;rw[ol l,bifT,J,sbind];by_cases m:fv f=0;rw[m,show((0:Rat).num.sign)=0 from rfl,ol rfl,bifT,Zp hn,sbind,oq (.inr (.inr ⟨l,m ▸ rfl⟩))];have i:(fv f).num≠0:=λh=>m (jt.1 h);rw[oo (by rw[du];exact i),bifF,G,sbind,j,w,sbind,A,sbind,bifT];rw[bifi,<-j,fin _ _ om,oj (c:=e < -8\/8<e\/(e<0/\fv f=0)) (by rintro(h | h | h);exact c1 h;exact a h;exact m h.2)];refine yj some (Prod.ext ?_ rfl);have H:e=-((e.natAbs:Nat):Int):=om
 have r:fv f ^ e=(fv f ^ e.natAbs)⁻¹:=by rw[<-dl,<-Rat.zpow_neg,<-H]
 rw[r];unfold toF;rw[Rat.num_inv,Rat.den_inv,Rat.num_pow,Rat.den_pow];have v:(fv f).num ^ e.natAbs≠0:=Int.pow_ne_zero i;rw[oj v,Int.natAbs_pow];have hs:=Jfw (fv f).num e.natAbs;have hp:0<(fv f).num.natAbs ^ e.natAbs:=Nat.pow_pos om;congr 2;rw[<-hs];by_cases p:(decide ((fv f).num<0) && decide (e.natAbs%2=1))=true;rw[oq p,oq p,dh om,Int.neg_mul,Int.one_mul];rw[oj p,oj p,da om,Int.one_mul];rw[oo l,bifF,bifF,G,sbind,j,w,sbind,A,sbind,bifF];rw[bifi,<-j,fin _ _ om,oj (c:=e < -8\/8<e\/(e<0/\fv f=0)) (by rintro(h | h | h);exact c1 h;exact a h;exact l h.1)];refine yj some (Prod.ext ?_ rfl);have r:fv f ^ e=fv f ^ e.natAbs:=by
  rw[<-dl,show((e.natAbs:Nat):Int)=e by omega]
 rw[r];unfold toF;rw[Rat.num_pow,Rat.den_pow,Jfw]
theorem Qxn{a:Rat}{j:Nat}(f:qw a<=j){e:Int}(h:e.natAbs<=8):qw (a ^ e)<=8*j+1:=by
 have i:e.natAbs*j<=8*j:=xh _ om;have g:=Q50 f e.natAbs;rcases Int.lt_or_le e 0 with c | c;have d:a ^ e=(a ^ e.natAbs)⁻¹:=by rw[<-dl,<-Rat.zpow_neg,show -((e.natAbs:Nat):Int)=e by omega]
 rw[d];exact Q1f om;have d:a ^ e=a ^ e.natAbs:=by rw[<-dl,show((e.natAbs:Nat):Int)=e by omega]
 rw[d];omega
def rv(l:List Qa):List Rat:=l.map fv
def toR(l:List Rat):List Qa:=l.map toF
theorem Wn(l:List Rat):rv (toR l)=l:=by
 unfold rv toR;rw[yo]
 conv=>rhs;rw[<-List.map_id l]
 exact vt λq _=>Jf q
theorem Ji(l:List Qa):(rv l).length=l.length:=by unfold rv;simp
theorem Jj(l:List Rat):(toR l).length=l.length:=by unfold toR;simp
def FR(k:Nat)(l:List Qa):Prop:=∀ x∈l,Fk k x
def QR(k:Nat)(l:List Rat):Prop:=∀ x∈l,qw x<=k
theorem Vd{k:Nat}{l:List Rat}(h:QR k l):FR k (toR l):=λx a=>by unfold toR at a;obtain⟨q,d,rfl⟩:=xz.1 a;exact Jq (h q d)
theorem QR_rv{k:Nat}{l:List Qa}(h:FR k l)(d:1<=k):QR k (rv l):=λx a=>by unfold rv at a;obtain⟨q,e,rfl⟩:=xz.1 a;exact qw_fv (h q e) d
theorem Vf{j k:Nat}{l:List Qa}(h:FR j l)(hk:j<=k):FR k l:=λx a=>Wg (h x a) hk
theorem Jb{j k:Nat}{l:List Rat}(h:QR j l)(hk:j<=k):QR k l:=λx a=>xo (h x a) hk
theorem Q74{α:Type}{n:Nat}{a:List α}{g:α->Rat}{f:Nat->α->List Qa->Option (Lp (List Qa) (List Qa))}(_:big<=n)(e:a.length<=1000000)
 (hb:∀ i x s,a[i]?=some x->f i x s=(appM 56 s [toF (g x)]).bind λy=>some (Lp.go y)):(rangeL f a 0 []).bind (lpK λs=>some s)=some (toR (a.map g)):=by
 rw[Zw (λi=>(a.take i).map λx=>toF (g x)) a,Vn,xc];unfold toR;rw[yo];rfl;intro i x d;have:=Kc d;rw[hb i x _ d,J5 oh oh,sbind,Qdi _ d];rfl
theorem Qsg{n k:Nat}{a:List Qa}(hn:big<=n)(hk:k<1099511627776)(d:FR k a)(e:a.length<=1000000):Qpe n a=some (toR (rv a)):=by unfold Qpe;refine Q74 (g:=fv) hn e λi x s f=>?_;rw[V0 hn (Fk_Fw (d x (Jm f)) om),sbind]
theorem Qcx{n k:Nat}{a:List Qa}(hn:big<=n)(hk:k<1099511627776)(d:FR k a)(e:a.length<=1000000):Qlu n a=some (toR (rv a)):=Qsg hn hk d e
def scaleQ(c:Rat)(l:List Rat):List Rat:=l.map (c * ·)
theorem Zq{n k:Nat}{c:Qa}{a:List Qa}(hn:big<=n)(d:1<=k)(hk:k<1099511627776)(f:Fk k c)(e:FR k a)(j:a.length<=1000000):Yo n c a=some (toR (scaleQ (fv c) (rv a))):=by unfold Yo;rw[Q74 (g:=λx=>fv c*fv x) hn j λi x s l=>?_];unfold scaleQ rv;rw[yo];rfl;rw[Yc hn d hk f (e x (Jm l)),sbind]
theorem Qkj{j k:Nat}{c:Rat}{l:List Rat}(d:qw c<=j)(h:QR k l):QR (j+k) (scaleQ c l):=λx a=>by unfold scaleQ at a;obtain⟨q,e,rfl⟩:=xz.1 a;exact X0 d (h q e)
theorem Q1g{α β τ R:Type}{f:Nat->α->List β->Option (Lp (List β) τ)}{K:Lp (List β) τ->Option R}(g:α->β->β)(xs:List α)(s:List β)(h:xs.length=s.length)
 (hb:∀ i x y s',xs[i]?=some x->s[i]?=some y->s'[i]?=some y->f i x s'=some (.go (s'.set i (g x y)))):(rangeL f xs 0 s).bind K=K (.go (List.zipWith g xs s)):=by
 have a:∀ i,i<=xs.length->(List.zipWith g (xs.take i) (s.take i)).length=i:=λi hi=>oh
 rw[Zw (λi=>List.zipWith g (xs.take i) (s.take i)++s.drop i) xs];rw[xc,h,xc,List.drop_length,uh];intro i x d;have hi:=Kc d;have e:s[i]?=some s[i]:=oi om;have l:(List.zipWith g (xs.take i) (s.take i)++s.drop i)[i]?=some s[i]:=by rw[yz (by rw[a i om];exact xr _),a i om,gh,vc,xp,e]
 rw[hb i x s[i] _ d e l];refine yj (λz=>some (Lp.go z)) ?_;have hd:s.drop i=s[i]::s.drop (i+1):=xe om;have j:xs.take (i+1)=xs.take i++[x]:=by rw[vn,d];rfl
 have k:s.take (i+1)=s.take i++[s[i]]:=by rw[vn,e];rfl
 rw[hd,List.set_append_right _ _ (by rw[a i om];exact xr _),a i om,gh,List.set_cons_zero,j,k,List.zipWith_append oh];simp;simp
def addQ(a b:List Rat):List Rat:=List.zipWith (·+·) a b
theorem Jjk{α:Type}{x:α}{l:List α}:getI (x::l) 0=some x:=rfl
theorem Qfi{n k:Nat}{a b:List Qa}(hn:big<=n)(f:1<=k)(hk:k<1099511627776)(g:FR k a)(hb:FR k b)(j:a.length<=1000000):
 Qbo n [a,b]=some (if a.length=b.length then (toR (addQ (rv a) (rv b)),true) else ([],false)):=by
 unfold Qbo;have hs:sub [a,b] (1:Int) (([a,b]:List (List Qa)).length:Int)=some [b]:=rfl;rw[show decide ((([a,b]:List (List Qa)).length:Int)=0)=false from rfl,bifF,Jjk,sbind,Qsg hn hk g j,sbind,hs,sbind];simp only[rangeL];rw[Jj,Ji];by_cases h:a.length=b.length;rw[oq h,ol (show(b.length:Int)=(a.length:Int) by omega),ou,bifF,Q1g (λ(x:Qa) (y:Qa)=>toF (fv y+fv x)) b (toR (rv a)) (by rw[Jj,Ji,h]),Vn,sbind];simp only[];rw[sbind,Vn];refine yj some (Prod.ext ?_ rfl);simp only[];unfold addQ toR rv;rw[List.map_zipWith,yo,dc,List.zipWith_map,List.zipWith_comm];congr 1;funext x y;simp only[Function.comp,Jf];intro i x y s' l m d;have e:Fk k y:=Vd (QR_rv g f) y (Jm m);rw[Q7 d,sbind,Wo hn f hk e (hb x (Jm l)),sbind,sbind,ya];rw[oj h,oo (show ¬(b.length:Int)=(a.length:Int) by omega),ow,bifT,sbind];rfl
theorem Qxo{α β γ:Type}{g:α->β->γ}{P:γ->Prop}:∀ {a:List α}{b:List β},(∀ x∈a,∀ y∈b,P (g x y))->∀ z∈List.zipWith g a b,P z
 | [],_,_,z,d=>by simp at d
 | _::_,[],_,z,d=>by simp at d
 | x::a,y::b,h,z,d=>by rcases xu.1 d with rfl | d;exact h x (.head _) y (.head _);exact Qxo (λi e j f=>h i (.tail _ e) j (.tail _ f)) z d
theorem Qn0{j k:Nat}{a b:List Rat}(d:QR j a)(hb:QR k b):QR (j+k+1) (addQ a b):=Qxo λx e y f=>Zx (d x e) (hb y f)
theorem Zl{a b:List Rat}:(addQ a b).length=min a.length b.length:=by unfold addQ;simp
theorem W6{c:Rat}{a:List Rat}:(scaleQ c a).length=a.length:=by unfold scaleQ;simp
theorem Qf1{n m:Nat}(hn:big<=n)(a:m<=300):Qdf n (m:Int)=some (toR (List.replicate m 0)):=by
 unfold Qdf;have e:min (max (m:Int) 0) 300=(m:Int):=om
 rw[e,Qev om om,sbind];rw[Wr (λi=>(List.replicate i (toF 0)++List.replicate (m - i) (⟨⟨false,[]⟩,[]⟩:Qa),(i:Int))) m (toR (List.replicate m 0))];intro i hi;simp only[bifd];have hd:List.replicate (m - i) (⟨⟨false,[]⟩,[]⟩:Qa)=⟨⟨false,[]⟩,[]⟩::List.replicate (m - (i+1)) ⟨⟨false,[]⟩,[]⟩:=by rw[show m - i=(m - (i+1))+1 by omega,uq]
 rw[oq om,Zp hn,sbind,hd,Ws oc,sbind,Zk oc,w1 om];refine yj (λz=>some (Lp.go (z,_))) ?_;rw[ju,xf];rfl;simp only[bifd];rw[oj om,gh,List.replicate_zero,uh];unfold toR;rw[List.map_replicate];unfold big at hn;omega;simp
def mixQ:List Rat->List (List Rat)->List Rat->List Rat
 | c::cs,a::l,z=>mixQ cs l (List.zipWith (λx o=>o+c*x) a z)
 | _,_,z=>z
theorem Q9o:∀ {cs:List Rat}{l:List (List Rat)}{z:List Rat}{c a},cs.length=l.length->mixQ (cs++[c]) (l++[a]) z=List.zipWith (λx o=>o+c*x) a (mixQ cs l z)
 | [],[],z,c,a,_=>rfl
 | [],_::_,_,_,_,h=>by simp at h
 | _::_,[],_,_,_,h=>by simp at h
 | x::cs,y::l,z,c,a,h=>by simp only[yu,mixQ];exact Q9o (by simpa using h)
theorem Qg7{m:Nat}:∀ {cs:List Rat}{l:List (List Rat)}{z:List Rat},(∀ a∈l,a.length=m)->z.length=m->(mixQ cs l z).length=m
 | [],_,z,_,h=>by simpa [mixQ] using h
 | _::_,[],z,_,h=>by simpa [mixQ] using h
 | x::cs,y::l,z,d,h=>by simp only[mixQ];exact Qg7 (λa e=>d a (.tail _ e)) (by have:=d y (.head _);simp;omega)
theorem Qt7{j k:Nat}:∀ {cs:List Rat}{l:List (List Rat)}{z:List Rat}{b:Nat},QR j cs->(∀ a∈l,QR k a)->QR b z->QR (b+l.length*(j+k+1)) (mixQ cs l z)
 | [],_,z,b,_,_,h=>Jb h om
 | _::_,[],z,b,_,_,h=>Jb h om
 | x::cs,y::l,z,b,d,e,h=>by simp only[mixQ];have f:QR (b+(j+k)+1) (List.zipWith (λp o=>o+x*p) y z):=Qxo λu n o i=>Zx (h o i) (X0 (d x (.head _)) (e y (.head _) u n));refine Jb (Qt7 (λq m=>d q (.tail _ m)) (λa g=>e a (.tail _ g)) f) ?_;rw[xn,uz];omega
theorem Jc6{m:Nat}:∀ {a z:List Rat},a.length=m->z.length=m->List.zipWith (λx o=>o+0*x) a z=z
 | [],[],_,_=>rfl
 | [],_::_,h,d=>by simp at h d;omega
 | _::_,[],h,d=>by simp at h d;omega
 | x::a,y::z,h,d=>by simp only[xn] at h d;rw[jh,Jc6 (m:=m - 1) om om];congr 1;grind
theorem Jc7{α:Type}{l:List (List α)}{m:Nat}:(∀(i:Nat) x,l[i]?=some x->x.length=m)↔∀ a∈l,a.length=m:=by constructor;intro h a d;obtain⟨j,e⟩:=yg d;exact h j a e;intro h i x f;exact h x (Jm f)
theorem Qt8{n:Nat}{c:List Qa}{l:List (List Qa)}{m:Int}:Qlt n c l m=Q0k n c l m:=wm (wm rfl)
theorem Jnr(l:List Qa)(i:Nat):rv (l.take i)=(rv l).take i:=by unfold rv;rw[wc]
open Classical in
theorem Q1h{n j k m:Nat}{c:List Qa}{l:List (List Qa)}(hn:big<=n)(A:1<=j)(H:1<=k)(U:j<1048576)(hk:k<1048576)(I:FR j c)(J:∀ a∈l,FR k a)(S:m<=300)(R:l.length<=10000):
 Q0k n c l (m:Int)=some (if c.length=l.length/\∀ a∈l,a.length=m then (toR (mixQ (rv c) (l.map rv) (List.replicate m 0)),true) else ([],false)):=by
 unfold Q0k;simp only[jn_eq];by_cases g1:c.length=l.length;rw[ol (show(c.length:Int)=(l.length:Int) by omega),ou,bifF,oo (show ¬(m:Int)<0 by omega),bifF,oo (show ¬(300:Int)<(m:Int) by omega),bifF];rw[Z3 (λ_ (a:List Qa)=>a.length=m) (r:=(([]:List Qa),false))];rw[Jc7];by_cases s:∀ a∈l,a.length=m;rw[oq s,oq ⟨g1,s⟩,Qf1 hn S,sbind];have B:=QR_rv I A;rw[Zw (λi=>toR (mixQ (rv (c.take i)) ((l.take i).map rv) (List.replicate m 0))) l,Vn,<-g1,xc,g1,xc];intro i a u;have hi:=Kc u;have g:c[i]?=some c[i]:=oi om;have e:Fk j c[i]:=I _ (xi om);have P:=J a (Jm u);have t:=s a (Jm u);generalize c[i]' om=ck at g e;have K:c.take (i+1)=c.take i++[ck]:=by rw[vn,g];rfl
 have L:l.take (i+1)=l.take i++[a]:=by rw[vn,u];rfl
 have M:rv (c.take (i+1))=rv (c.take i)++[fv ck]:=by unfold rv;rw[K,xw];rfl
 have N:(l.take (i+1)).map rv=(l.take i).map rv++[rv a]:=by rw[L,xw];rfl
 have O:(rv (c.take i)).length=((l.take i).map rv).length:=by rw[Ji];simp;omega
 rw[Q7 g,sbind,Qdy hn A om e,sbind,bifd,M,N,Q9o O]
 have p:(mixQ (rv (c.take i)) ((l.take i).map rv) (List.replicate m 0)).length=m:=Qg7 (λb hb=>by
  obtain⟨d,hd,rfl⟩:=xz.1 hb
  rw[Ji];exact s d (ym hd)) oc
 have G:QR (1+(l.take i).length*(j+k+1)) (mixQ (rv (c.take i)) ((l.take i).map rv) (List.replicate m 0)):=by
  have:=Qt7 (j:=j) (k:=k) (b:=1) (cs:=rv (c.take i)) (l:=(l.take i).map rv) (z:=List.replicate m 0) (λq w=>by rw[Jnr] at w;exact B q (ym w)) (λb hb=>by
   obtain⟨d,hd,rfl⟩:=xz.1 hb
   exact QR_rv (J d (ym hd)) H) (λq w=>by rw[(tb.1 w).2,Zo];exact xr _)
  rwa [ov] at this
 have Q:(l.take i).length*(j+k+1)<=10000*2097152:=gv oh om;have f:=Jb G (show _<=20971520001 by omega);generalize mixQ (rv (c.take i)) ((l.take i).map rv) (List.replicate m 0)=z at p f;by_cases g3:(fv ck).num.sign=0;rw[oq g3];have h0:fv ck=0:=jt.1 (du.1 g3);rw[h0,Jc6 (m:=m) (by rw[Ji,t]) p];rw[oj g3,Q1g (λ(x:Qa) (o:Qa)=>toF (fv o+fv ck*fv x)) a (toR z) (by rw[Jj,t,p]),Vn];refine yj (λz=>some (Lp.go z)) ?_;unfold toR rv;rw[List.map_zipWith,dc,List.zipWith_map_left];congr 1;funext x y;rw[Jf];intro V x y s' C T E;have F:Fk 20971520001 y:=Vd f y (Jm T);have v:=P x (Jm C);have hp:qw (fv ck*fv x)<=j+k:=X0 (qw_fv e A) (qw_fv v H);rw[Q7 E,sbind,sbind,Yc (k:=j+k) hn om om (Wg e om) (Wg v om),sbind,Wo (k:=20971520001) hn om om F (Jq om),sbind,sbind,ya,Jf];rfl;rw[oj s,oj (λh=>s h.2)];intro i x u;constructor;intro h;rw[ol (show(x.length:Int)=(m:Int) by omega)];rfl;intro h;rw[oo (show ¬(x.length:Int)=(m:Int) by omega)];rfl;rw[oo (show ¬(c.length:Int)=(l.length:Int) by omega),oj (λh=>g1 h.1)];rfl
theorem Q75(l:List Qa)(i:Nat):(rv l)[i]?=(l[i]?).map fv:=by unfold rv;simp
theorem Qsh{n k:Nat}{a b:List Qa}(hn:big<=n)(p:1<=k)(hk:k<1099511627776)(q:FR k a)(hb:FR k b):Qkc n a b=some (decide (rv a=rv b)):=by
 classical
 unfold Qkc;by_cases h:a.length=b.length;rw[ol (show(a.length:Int)=(b.length:Int) by omega),ou,bifF];rw[Z3 (λi (x:Qa)=>∀ y,b[i]?=some y->fv x=fv y) (r:=false)];have e:(∀(i:Nat) x,a[i]?=some x->∀ y,b[i]?=some y->fv x=fv y)↔rv a=rv b:=by constructor;intro g;refine List.ext_getElem? λi=>?_;rw[Q75,Q75];rcases xl i a.length with hi | hi;have l:a[i]?=some a[i]:=oi hi;have d:b[i]?=some (b[i]' om):=oi om;have:=g i _ l _ d;rw[l,d];exact yj some this;rw[xd hi,xd om];intro g i x f y j;have:=yj (·[i]?) g;simp only[Q75,f,j,Option.map_some] at this;exact Option.some.inj this
 by_cases hd:rv a=rv b;rw[oq (e.2 hd),ol hd];rw[oj (λg=>hd (e.1 g)),oo hd];intro i x f;have hi:=Kc f;have d:b[i]?=some (b[i]' om):=oi om;rw[Q7 d,sbind,Qj0 hn p hk (q x (Jm f)) (hb _ (Jm d)),sbind];constructor;intro g;rw[ol (g _ d)];rfl;intro g;rw[oo (λm=>g λy j=>by rw[d] at j;cases j;exact m)];rfl;rw[oo (show ¬(a.length:Int)=(b.length:Int) by omega),ow,bifT,oo];intro g;apply h;rw[<-Ji a,g,Ji]
theorem Qld(x m:Int):Qb1 x m=some (decide (0<=x/\x<m)):=by unfold Qb1;simp only[jn_eq,bifd];by_cases h:0<=x;rw[oq h];simp[h];rw[oj h];simp[h]
def rdT(i:Qv):List Int:=if i.Op=6\/i.Op=11 then [i.A] else if i.Op=7\/i.Op=8\/i.Op=9\/i.Op=10 then [i.A,i.B] else []
theorem Q52(i:Qv):Qjc i=some (rdT i):=by unfold Qjc rdT;simp only[jn_eq,bifd];by_cases e:i.Op=6;simp[e];by_cases d:i.Op=11;simp[d];by_cases f:i.Op=7;simp[f];by_cases g:i.Op=8;simp[g];by_cases j:i.Op=9;simp[j];by_cases a:i.Op=10;simp[a];simp[e,f,g,j,a,d]
def TW(t:Qm):Prop:=∀ c∈t.Code,Fw c.N
theorem Qit{α:Type}{l:List α}{P:α->Prop}:(∀(i:Nat) x,l[i]?=some x->P x)↔∀ a∈l,P a:=by constructor;intro h a d;obtain⟨j,e⟩:=yg d;exact h j a e;intro h i x f;exact h x (Jm f)
noncomputable def dP(p:Prop):Bool:=@decide p (Classical.propDecidable p)
theorem decP{p:Prop}[Decidable p]:decide p=dP p:=by unfold dP;congr
theorem dP_t{p:Prop}(h:p):dP p=true:=by unfold dP;exact @decide_eq_true p (Classical.propDecidable p) h
theorem dP_f{p:Prop}(h:¬ p):dP p=false:=by unfold dP;exact @decide_eq_false p (Classical.propDecidable p) h
theorem dP_c{p q:Prop}(h:p↔q):dP p=dP q:=by rw[show p=q from propext h]
theorem Qej{p q:Prop}[Decidable p](h:p↔q):some (decide p)=some (dP q):=by rw[decP,dP_c h]
theorem Q2k{p q:Prop}(h:p↔q):some (dP p)=some (dP q):=by rw[dP_c h]
theorem Qk5{p q r:Prop}[Decidable p][Decidable q](h:p/\q↔r):(if p then some (decide q) else some false)=some (dP r):=by by_cases hp:p;rw[oq hp];exact Qej ⟨λa=>h.1 ⟨hp,a⟩,λhr=>(h.2 hr).2⟩;rw[oj hp,dP_f λhr=>hp (h.2 hr).1]
theorem Jqn{p q r:Prop}[Decidable p](h:p/\q↔r):(if p then some (dP q) else some false)=some (dP r):=by by_cases hp:p;rw[oq hp];exact Q2k ⟨λa=>h.1 ⟨hp,a⟩,λhr=>(h.2 hr).2⟩;rw[oj hp,dP_f λhr=>hp (h.2 hr).1]
def blankF(f:Qa):Prop:=f.Num.Neg=false/\f.Num.A6=[]/\f.Den=[]
theorem Q53(f:Qa):Qls f=some (dP (blankF f)):=by unfold Qls blankF;obtain⟨⟨s,a⟩,d⟩:=f;simp only[jn_eq];cases s;simp only[ow,bifT,bifd];refine Qk5 ⟨λh=>⟨trivial,xx om,xx om⟩,λh=>?_⟩;obtain⟨_,rfl,rfl⟩:=h;exact⟨rfl,rfl⟩;simp only[ou,bifF];rw[dP_f λh=>by cases h.1]
theorem bifP{α:Type}(p:Prop)(a b:α):(bif dP p then a else b)=@ite _ p (Classical.propDecidable p) a b:=by by_cases h:p;rw[dP_t h,oq h];rfl;rw[dP_f h,oj h];rfl
theorem bifnP{α:Type}(p:Prop)(a b:α):(bif !dP p then a else b)=@ite _ p (Classical.propDecidable p) b a:=by by_cases h:p;rw[dP_t h,oq h];rfl;rw[dP_f h,oj h];rfl
def mayR(t:Qm)(i:Nat)(x:Qv):Prop:=
 if x.Op=1 then x.A=0/\x.B=0/\x.N=toF (fv x.N) else
 blankF x.N/\(∀ r∈rdT x,0<=r/\r<(i:Int)) /\
 if x.Op=2 then x.A=0/\x.B=0 else if x.Op=3 then (0<=x.A/\x.A<t.A0)/\x.B=0 else if x.Op=4 then (0<=x.A/\x.A<t.A3)/\x.B=0 else
 if x.Op=6 then x.B=0 else if x.Op=11 then -8<=x.B/\x.B<=8 else (rdT x).length=2
theorem Jay{n:Nat}{t:Qm}{i:Nat}{x:Qv}(hn:big<=n)(s:Fw x.N)(u:t.Code[i]?=some x):Qmj n t (i:Int)=some (dP (mayR t i x)):=by
 unfold Qmj mayR;rw[Q7 u,sbind,bifd];by_cases e:x.Op=1
 have f:(if x.Op=1 then x.A=0/\x.B=0/\x.N=toF (fv x.N) else blankF x.N/\(∀ r∈rdT x,0<=r/\r<(i:Int)) /\
  if x.Op=2 then x.A=0/\x.B=0 else if x.Op=3 then (0<=x.A/\x.A<t.A0)/\x.B=0 else if x.Op=4 then (0<=x.A/\x.A<t.A3)/\x.B=0 else
  if x.Op=6 then x.B=0 else if x.Op=11 then -8<=x.B/\x.B<=8 else (rdT x).length=2)=(x.A=0/\x.B=0/\x.N=toF (fv x.N)):=oq e
 simp only[f];rw[oq e];have q:=Qqa hn s;simp only[jn_eq,Qop,sbind];have m:Qez (⟨x.Op,x.A,x.B⟩:Vx) ⟨1,0,0⟩=decide (x.A=0/\x.B=0):=by unfold Qez;simp only[e];by_cases a:x.A=0<;>by_cases b:x.B=0<;>simp[a,b]
 rw[m,q,sbind,bifd];rw[@decP _ (Classical.propDecidable _)];refine Jqn ⟨λh=>⟨h.1.1,h.1.2,h.2⟩,λh=>⟨⟨h.1,h.2.1⟩,h.2.2⟩⟩
 have f:(if x.Op=1 then x.A=0/\x.B=0/\x.N=toF (fv x.N) else blankF x.N/\(∀ r∈rdT x,0<=r/\r<(i:Int)) /\
  if x.Op=2 then x.A=0/\x.B=0 else if x.Op=3 then (0<=x.A/\x.A<t.A0)/\x.B=0 else if x.Op=4 then (0<=x.A/\x.A<t.A3)/\x.B=0 else
  if x.Op=6 then x.B=0 else if x.Op=11 then -8<=x.B/\x.B<=8 else (rdT x).length=2)=(blankF x.N/\(∀ r∈rdT x,0<=r/\r<(i:Int)) /\
  if x.Op=2 then x.A=0/\x.B=0 else if x.Op=3 then (0<=x.A/\x.A<t.A0)/\x.B=0 else if x.Op=4 then (0<=x.A/\x.A<t.A3)/\x.B=0 else
  if x.Op=6 then x.B=0 else if x.Op=11 then -8<=x.B/\x.B<=8 else (rdT x).length=2):=oj e
 simp only[f];rw[oj e,Q53,sbind,bifnP];by_cases hb:blankF x.N;rw[oq hb,Q52,sbind,Z3 (λ_ (r:Int)=>0<=r/\r<(i:Int)) (r:=false)];rw[Qit];by_cases hr:∀ r∈rdT x,0<=r/\r<(i:Int);rw[oq hr];have fin:∀ {o:Option Bool}{p:Prop},o=some (dP p)->o=some (dP (blankF x.N/\(∀ r∈rdT x,0<=r/\r<(i:Int))/\p)):=λh=>h.trans (Q2k ⟨λg=>⟨hb,hr,g⟩,λg=>g.2.2⟩);refine fin ?_;simp only[jn_eq,Qop,sbind,Qld,bifd];by_cases k:x.Op=2;simp only[oq k];refine yj some ?_;unfold Qez;simp only[k];rw[<-decP];by_cases a:x.A=0<;>by_cases b:x.B=0<;>simp[a,b];simp only[oj k];by_cases g3:x.Op=3;simp only[oq g3];exact Qk5 Iff.rfl;simp only[oj g3];by_cases g4:x.Op=4;simp only[oq g4];exact Qk5 Iff.rfl;simp only[oj g4];by_cases l:x.Op=6;simp only[oq l];exact Qej Iff.rfl;simp only[oj l];by_cases d:x.Op=11;simp only[oq d];exact Qk5 Iff.rfl;simp only[oj d];exact Qej om;rw[oj hr,dP_f λh=>hr h.2.1];intro j r _;simp only[Qld,sbind];constructor;intro h;rw[ol h];rfl;intro h;rw[oo h];rfl;rw[oj hb,dP_f λh=>hb h.1]
def wholeR(t:Qm):Prop:=(1<=t.A0/\t.A0<=6)/\(0<=t.A3/\t.A3<=6)/\(t.Az.length:Int)=t.A0/\t.Code.length<=300
def tapeR(t:Qm):Prop:=wholeR t/\(∀(i:Nat) x,t.Code[i]?=some x->mayR t i x)/\∀ o∈t.Az,0<=o/\o<(t.Code.length:Int)
theorem Q54(t:Qm)(h:-9223372036854775808<=t.A0/\t.A0<=9223372036854775807):Qlr t=some (dP (wholeR t)):=by
 unfold Qlr wholeR;simp only[jn_eq,Qld,sbind,bifd];have d:(0<=wrap64 (t.A0 - 1)/\wrap64 (t.A0 - 1)<6)↔(0<=t.A0 - 1/\t.A0 - 1<6):=by unfold wrap64;omega
 by_cases g1:0<=t.A0 - 1/\t.A0 - 1<6;rw[oq (d.2 g1)];by_cases a:0<=t.A3/\t.A3<7;rw[oq a];by_cases g3:(t.Az.length:Int)=t.A0;rw[oq g3];exact Qej om;rw[oj g3,dP_f om];rw[oj a,dP_f om];rw[oj (λh=>g1 (d.1 h)),dP_f om]
theorem Jho{R:Type}{f:Nat->Qv->Unit->Option (Lp Unit R)}{K:Unit->Option R}{xs:List Qv}(P:Nat->Qv->Prop)(r:Nat->R)
 (hb:∀ i x,xs[i]?=some x->(P i x->f i x ()=some (.go ()))/\(¬ P i x->f i x ()=some (.out (r i)))) :
 ((∀(i:Nat) x,xs[i]?=some x->P i x)/\(rangeL f xs 0 ()).bind (lpK K)=K ())\/(¬(∀(i:Nat) x,xs[i]?=some x->P i x)/\∃ j,(rangeL f xs 0 ()).bind (lpK K)=some (r j)):=by
 have g:∀(xs:List Qv) (k:Nat),(∀ i x,xs[i]?=some x->(P (k+i) x->f (k+i) x ()=some (.go ()))/\(¬ P (k+i) x->f (k+i) x ()=some (.out (r (k+i))))) ->
  ((∀(i:Nat) x,xs[i]?=some x->P (k+i) x)/\(rangeL f xs k ()).bind (lpK K)=K ())\/(¬(∀(i:Nat) x,xs[i]?=some x->P (k+i) x)/\∃ j,(rangeL f xs k ()).bind (lpK K)=some (r j)):=by
  intro xs
  induction xs with
  | nil=>intro k _;exact .inl ⟨λi x h=>by simp at h,rfl⟩
  | cons x xs m=>
    intro k hb;have h0:=hb 0 x rfl;simp only[xp] at h0;by_cases hp:P k x;have:=m (k+1) (λi y a=>by have:=hb (i+1) y (by simpa using a);rw[show k+(i+1)=k+1+i by omega] at this;exact this);simp only[rangeL,h0.1 hp,sbind];rcases this with ⟨d,e⟩ | ⟨d,e⟩;refine .inl ⟨λi y a=>?_,e⟩;cases i with
    | zero=>simp at a;subst a;exact hp
    | succ i=>rw[show k+(i+1)=k+1+i by omega];exact d i y (by simpa using a)
    refine .inr ⟨λh=>d λi y a=>?_,e⟩;have:=h (i+1) y (by simpa using a);rwa [show k+(i+1)=k+1+i by omega] at this;refine .inr ⟨λh=>hp (h 0 x rfl),k,?_⟩;simp only[rangeL,h0.2 hp,sbind];rfl
 have:=g xs 0 (λi x l=>by rw[xg];exact hb i x l);simp only[xg] at this;exact this
theorem Qvj{n:Nat}{t:Qm}(hn:big<=n)(q:TW t)(hd:-9223372036854775808<=t.A0/\t.A0<=9223372036854775807):Qb2 n t=some (dP (tapeR t)):=by
 unfold Qb2 Qo8;rw[Q54 t hd,sbind,bifnP];by_cases e:wholeR t;rw[oq e]
 have g:=Jho (K:=λ(_:Unit)=>(rangeL (λ(_:Nat) (m:Int) (_:Unit)=>
  (Qb1 m (t.Code.length:Int)).bind λl=>
  bif !l then (
   some (Lp.out ((t.Code.length:Int))))
  else (
   some (Lp.go ()))) t.Az 0 ()).bind (lpK λ(_:Unit)=>
 some (-1:Int))) (f:=λ(a:Nat) (_:Qv) (_:Unit)=>
  (Qmj n t (a:Int)).bind λk=>
  bif !k then (
   some (Lp.out ((a:Int))))
  else (
   some (Lp.go ()))) (xs:=t.Code) (λi x=>mayR t i x) (λi=>(i:Int)) (λi x p=>by
  rw[Jay hn (q x (Jm p)) p,sbind];constructor;intro h;rw[dP_t h];rfl
  intro h;rw[dP_f h];rfl)
 rcases g with ⟨k1,k2⟩ | ⟨k1,j,k2⟩;rw[k2,Z3 (λ_ (o:Int)=>0<=o/\o<(t.Code.length:Int)) (r:=(t.Code.length:Int))];rw[Qit];by_cases d:∀ o∈t.Az,0<=o/\o<(t.Code.length:Int);rw[oq d,sbind];exact Qej ⟨λ_=>⟨e,k1,d⟩,λ_=>rfl⟩;rw[oj d,sbind];exact Qej ⟨λh=>om,λh=>absurd h.2.2 d⟩;intro i o _;simp only[Qld,sbind];constructor;intro h;rw[ol h];rfl;intro h;rw[oo h];rfl;rw[k2,sbind];exact Qej ⟨λh=>om,λh=>absurd h.2.1 k1⟩;rw[oj e,sbind];exact Qej ⟨λh=>om,λh=>absurd h.1 e⟩
theorem Kk(f:Qe):Qs f f=true:=by simp[Qs]
theorem Ky{k a b c:Int}(h:k≠0):Qs ⟨k,a,b,c⟩ ⟨0,0,0,0⟩=false:=by unfold Qs;rw[show(k == 0)=false by simpa using h];rfl
def noteG(g:Qk)(q:Rat):Qk:=⟨⟨wrap64 (g.Count.Seen+1),max g.Count.Peak (qz q:Int)⟩,g.limit⟩
theorem Qoy{n:Nat}{g:Qk}{q:Rat}(hn:big<=n)(a:qw q<1099511627776):Wa n g (toF q)=some (decide ((qz q:Int)<=g.limit),noteG g q):=by unfold Wa Qfk;rw[Qvh hn a,sbind,sbind];rfl
def fitQ(lim:Int):List Rat->Nat->Option Nat
 | [],_=>none
 | q::l,i=>if (qz q:Int)<=lim then fitQ lim l (i+1) else some i
theorem Qt9{n:Nat}{g:Qk}{l:List Rat}(hn:big<=n)(e:QR 1099511627775 l):
 ∃ a,a.limit=g.limit/\Xr n g (toR l)=some (match fitQ g.limit l 0 with | none=>((l.length:Int),true,a) | some i=>((i:Int),false,a)):=by
 unfold Xr
 have m:∀(l:List Rat) (i:Nat) (g:Qk) (K:Qk->Option (Int×Bool×Qk)),QR 1099511627775 l->∃ a,a.limit=g.limit /\
  (rangeL (λ(k:Nat) (s:Qa) (p:Qk)=>
   (Wa n p s).bind λd=>
   bif !d.1 then (some (Lp.out (((k:Int),false,d.2)))) else (some (Lp.go d.2))) (toR l) i g).bind (lpK K)=match fitQ g.limit l i with | none=>K a | some i=>some ((i:Int),false,a):=by
  intro l
  induction l with
  | nil=>intro i g K _;exact⟨g,rfl,rfl⟩
  | cons q l u=>
    intro i g K e;simp only[toR,yy,rangeL,fitQ];rw[Qoy hn (by have:=e q (.head _);omega),sbind];simp only[];by_cases h:(qz q:Int)<=g.limit;rw[ol h,oq h,ou,bifF,sbind];obtain⟨a,f,j⟩:=u (i+1) (noteG g q) K λx t=>e x (.tail _ t);exact⟨a,f,j⟩;rw[oo h,oj h,ow,bifT,sbind];exact⟨noteG g q,rfl,rfl⟩
 obtain⟨a,f,j⟩:=m l 0 g (λr=>some (((toR l).length:Int),true,r)) e;refine⟨a,f,?_⟩;rw[j,Jj];cases fitQ g.limit l 0<;>rfl
def opQ(x:Qv)(T:Rat)(Y P done:List Rat):Option Rat:=
 if x.Op=6 then some (-done.getD x.A.toNat 0) else
 if x.Op=11 then (if x.B < -8\/8<x.B\/(x.B<0/\done.getD x.A.toNat 0=0) then none else some (done.getD x.A.toNat 0 ^ x.B)) else
 if x.Op=7 then some (done.getD x.A.toNat 0+done.getD x.B.toNat 0) else
 if x.Op=8 then some (done.getD x.A.toNat 0 - done.getD x.B.toNat 0) else
 if x.Op=9 then some (done.getD x.A.toNat 0*done.getD x.B.toNat 0) else
 if x.Op=10 then (if done.getD x.B.toNat 0=0 then none else some (done.getD x.A.toNat 0 / done.getD x.B.toNat 0)) else
 if x.Op=1 then some (fv x.N) else
 if x.Op=3 then some (Y.getD x.A.toNat 0) else
 if x.Op=4 then some (P.getD x.A.toNat 0) else some T
def runQ(lim:Int)(T:Rat)(Y P:List Rat):List Qv->Nat->List Rat->(Int×Nat) ⊕ List Rat
 | [],_,done=>.inr done
 | x::c,i,done=>match opQ x T Y P done with
   | none=>.inl (3,i)
   | some q=>if (qz q:Int)<=lim then runQ lim T Y P c (i+1) (done++[q]) else .inl (6,i)
theorem Qiu{l:List Rat}{r:Int}(a:0<=r)(d:r<(l.length:Int)):getI (toR l) r=some (toF (l.getD r.toNat 0)):=by
 obtain⟨k,rfl⟩:∃ k:Nat,r=(k:Int):=⟨r.toNat,om⟩
 have hk:k<l.length:=om
 rw[Qfh,ya];unfold toR;rw[xm,oi hk,ot,oi hk];rfl
theorem Vp{k:Nat}{l:List Rat}{i:Nat}(h:QR k l)(a:1<=k):qw (l.getD i 0)<=k:=by rw[ot];rcases xl i l.length with hi | hi;rw[oi hi];exact h _ (xi hi);rw[xd hi];show qw 0<=k;rw[Zo];exact a
theorem rdT_A{x:Qv}(h:x.Op=6\/x.Op=11\/x.Op=7\/x.Op=8\/x.Op=9\/x.Op=10):x.A∈rdT x:=by unfold rdT;by_cases a:x.Op=6\/x.Op=11;rw[oq a];simp;rw[oj a,oq om];simp
theorem rdT_B{x:Qv}(h:x.Op=7\/x.Op=8\/x.Op=9\/x.Op=10):x.B∈rdT x:=by unfold rdT;rw[oj om,oq om];simp
theorem Qmr{t:Qm}{i:Nat}{x:Qv}(h:mayR t i x):∀ r∈rdT x,0<=r/\r<(i:Int):=by unfold mayR at h;by_cases a:x.Op=1;intro r hr;unfold rdT at hr;rw[oj om,oj om] at hr;cases hr;rw[oj a] at h;exact h.2.1
theorem Qxp{t:Qm}{i:Nat}{x:Qv}(h:mayR t i x)(a:x.Op=3):0<=x.A/\x.A<t.A0:=by unfold mayR at h;rw[oj om,oj om,oq a] at h;exact h.2.2.1
theorem Qxq{t:Qm}{i:Nat}{x:Qv}(h:mayR t i x)(a:x.Op=4):0<=x.A/\x.A<t.A3:=by unfold mayR at h;rw[oj om,oj om,oj om,oq a] at h;exact h.2.2.1
theorem Jhp{n k:Nat}{g:Qk}{t:Qm}{x:Qv}{T:Rat}{Y P done:List Rat}(hn:big<=n)(e:1<=k)(hk:k<1048576)(m:mayR t done.length x)(u:Fk k x.N)
 (G:qw T<=k) (F:QR k Y) (E:QR k P) (s:QR k done) (I:(Y.length:Int)=t.A0) (hp:(P.length:Int)=t.A3) :
 ∃ v,Vj n g x ⟨toF T,toR Y,toR P⟩ (toR done)=some (match opQ x T Y P done with | none=>(v,false) | some q=>(toF q,true))/\∀ q,opQ x T Y P done=some q->qw q<=8*k+1:=by
 unfold Vj opQ;have l:=Qmr m;have dA:x.Op=6\/x.Op=11\/x.Op=7\/x.Op=8\/x.Op=9\/x.Op=10->getI (toR done) x.A=some (toF (done.getD x.A.toNat 0)):=λh=>Qiu (l _ (rdT_A h)).1 (l _ (rdT_A h)).2;have dB:x.Op=7\/x.Op=8\/x.Op=9\/x.Op=10->getI (toR done) x.B=some (toF (done.getD x.B.toNat 0)):=λh=>Qiu (l _ (rdT_B h)).1 (l _ (rdT_B h)).2;have qA:qw (done.getD x.A.toNat 0)<=k:=Vp s e;have qB:qw (done.getD x.B.toNat 0)<=k:=Vp s e;generalize done.getD x.A.toNat 0=a at dA qA |-;generalize done.getD x.B.toNat 0=b at dB qB |-;have fA:Fk k (toF a):=Jq qA;have fB:Fk k (toF b):=Jq qB;simp only[bifd];by_cases y:x.Op=6
 . simp only[oq y]
   unfold Qiz;rw[dA om,sbind,Qhn hn (Fk_Fw fA om),sbind,sbind,Jf];exact⟨toF 0,rfl,λq d=>by cases d;rw[Qjz];omega⟩
 simp only[oj y];by_cases j:x.Op=11
 . simp only[oq j]
   unfold Qi0;rw[dA om,sbind,Qob hn e om fA,sbind,Jf];refine⟨toF 0,?_,λq d=>?_⟩
   . split<;>rfl
   . split at d
     . cases d
     . rename_i H
       cases d;exact Qxn qA om
 simp only[oj j];by_cases A:x.Op=7
 . simp only[oq A]
   unfold Qi1;rw[dA om,sbind,dB om,sbind,Wo hn e om fA fB,sbind,sbind,Jf,Jf];exact⟨toF 0,rfl,λq d=>by cases d;have:=Zx qA qB;omega⟩
 simp only[oj A];by_cases B:x.Op=8
 . simp only[oq B]
   unfold Qi2;rw[dA om,sbind,dB om,sbind,Qoa hn e om fA fB,sbind,sbind,Jf,Jf];exact⟨toF 0,rfl,λq d=>by cases d;have:=Q1e qA qB;omega⟩
 simp only[oj B];by_cases C:x.Op=9
 . simp only[oq C]
   unfold Qi3;rw[dA om,sbind,dB om,sbind,Yc hn e om fA fB,sbind,sbind,Jf,Jf];exact⟨toF 0,rfl,λq d=>by cases d;have:=X0 qA qB;omega⟩
 simp only[oj C];by_cases f:x.Op=10
 . simp only[oq f]
   unfold Qi4;rw[dA om,sbind,dB om,sbind,Qho hn e om fA fB,sbind,Jf,Jf];refine⟨toF 0,?_,λq d=>?_⟩
   . split<;>rfl
   . split at d
     . cases d
     . cases d
       have:=Qqb qA qB;omega
 simp only[oj f];unfold X7;simp only[bifd];by_cases w:x.Op=1
 . simp only[oq w]
   unfold Qj9;rw[V0 hn (Fk_Fw u om),sbind,sbind,sbind];exact⟨toF 0,rfl,λq d=>by cases d;have:=qw_fv u e;omega⟩
 simp only[oj w];by_cases p:x.Op=3
 . simp only[oq p]
   obtain⟨a1,a2⟩:=Qxp m p;rw[Qiu a1 om,sbind,sbind];exact⟨toF 0,rfl,λq d=>by cases d;have:=Vp (i:=x.A.toNat) F e;omega⟩
 simp only[oj p];by_cases r:x.Op=4
 . simp only[oq r]
   obtain⟨a1,a2⟩:=Qxq m r;rw[Qiu a1 om,sbind,sbind];exact⟨toF 0,rfl,λq d=>by cases d;have:=Vp (i:=x.A.toNat) E e;omega⟩
 simp only[oj r];exact⟨toF 0,rfl,λq d=>by cases d;omega⟩
theorem Q36(l:List Rat)(q:Rat):toR l++[toF q]=toR (l++[q]):=by unfold toR;simp
theorem Jc8{n k:Nat}{g:Qk}{t:Qm}{T:Rat}{Y P:List Rat}(hn:big<=n)(h1:129<=k)(hk:k<1048576)(W:tapeR t)(Q:Qb2 n t=some true)(w:∀ c∈t.Code,Fk k c.N)
 (R:qw T<=k) (S:QR k Y) (O:QR k P) (p:(Y.length:Int)=t.A0) (hp:(P.length:Int)=t.A3) (B:g.limit<=4096) :
 ∃ f,W7 n g t ⟨toF T,toR Y,toR P⟩=some (match runQ g.limit T Y P t.Code 0 [] with | .inl e=>([],⟨e.1,0,0,(e.2:Int)⟩,f) | .inr l=>(toR l,⟨0,0,0,0⟩,f)):=by
 unfold W7;simp only[jn_eq,Q,sbind,ou,bifF];rw[Jj,Jj,ol p,ol hp,ou,bifF,bifF]
 have F:∀(c:List Qv) (done:List Rat) (g:Qk) (K:Qk×List Qa->Option (List Qa×Qe×Qk)),(∀(j:Nat) x,c[j]?=some x->mayR t (done.length+j) x)->(∀ x∈c,Fk k x.N)->QR k done->g.limit<=4096->done.length+c.length<=300 ->
  ∃ f,(rangeL (λ(s:Nat) (G:Qv) (d:Qk×(List Qa))=>
    (Vj n d.1 G ⟨toF T,toR Y,toR P⟩ d.2).bind λi=>
    bif !i.2 then (
     some (Lp.out ((([]:List Qa),(⟨(3:Int),0,0,(s:Int)⟩:Qe),d.1))))
    else (
     (Qfc n d.1 i.1).bind λm=>
     bif !m.1 then (
      some (Lp.out ((([]:List Qa),(⟨(6:Int),0,0,(s:Int)⟩:Qe),m.2))))
     else (
      (appM 56 d.2 ([i.1]:List Qa)).bind λH=>
      some (Lp.go (m.2,H))))) c done.length (g,toR done)).bind (lpK K)=match runQ g.limit T Y P c done.length done with | .inl e=>some ([],⟨e.1,0,0,(e.2:Int)⟩,f) | .inr l=>K (f,toR l):=by
  intro c
  induction c with
  | nil=>intro done g K _ _ _ _ _;exact⟨g,rfl⟩
  | cons x c Z=>
    intro done g K J w I B C;simp only[rangeL,runQ];obtain⟨v,M,N⟩:=Jhp (g:=g) hn om hk (by have:=J 0 x rfl;rwa [xp] at this) (w x (.head _)) R S O I p hp;rw[M,sbind];cases U:opQ x T Y P done with
    | none=>exact⟨g,rfl⟩
    | some q=>
      have V:=N q U;simp only[ou,bifF];unfold Qfc;rw[Qoy hn om,sbind,sbind];simp only[];by_cases A:(qz q:Int)<=g.limit
      . rw[ol A,oq A,ou,bifF,J5 (by rw[Jj];simp at C |-;omega) (by rw[Jj];simp at C |-;omega),sbind,sbind]
        simp only[];have E:qw q<=k:=by have:=qw_qz (q:=q) (b:=4096) om;omega
        have a:(done++[q]).length=done.length+1:=oc
        obtain⟨f,h⟩:=Z (done++[q]) (noteG g q) K (λj y p=>by
         rw[a,show done.length+1+j=done.length+(j+1) by omega];exact J (j+1) y (by simpa using p)) (λy p=>w y (.tail _ p)) (λz r=>by
         rcases yd.1 r with r | r
         . exact I z r
         . rw[xk.1 r];exact E) B (by rw[a];simp at C;omega)
        refine⟨f,?_⟩;rw[a] at h;rw[Q36];exact h
      . rw[oo A,oj A,ow,bifT,sbind]
        exact⟨noteG g q,rfl⟩
 obtain⟨⟨d1,d2,d3,L⟩,m1,m2⟩:=W;obtain⟨f,h⟩:=F t.Code [] g (λu=>some (u.2,(⟨0,0,0,0⟩:Qe),u.1)) (λj x X=>by rw[show([]:List Rat).length+j=j by simp];exact m1 j x X) w (λ_ h=>by cases h) B (by simpa using L);refine⟨f,?_⟩;rw[show(([]:List Rat).length)=0 from rfl,show toR []=[] from rfl] at h;rw[h];cases runQ g.limit T Y P t.Code 0 []<;>rfl
def digB(c:Nat):Bool:=decide (48<=c/\c<=57)
def letB(c:Nat):Bool:=decide (97<=c/\c<=122\/65<=c/\c<=90\/c=95)
def sgnL:List UInt8:=[43,45,42,47,94,40,41,91,93,44,59,61]
def sgnB(c:Nat):Bool:=sgnL.any (λx=>x.toNat=c)
def kindC(c:Nat):Int:=if digB c then 1 else if letB c then 2 else if sgnB c then 3 else 0
def goC(k:Int)(c:Nat):Bool:=(decide (k=1) && digB c) || (decide (k=2) && (letB c || digB c))
def mostC(k:Int):Nat:=if k=1 then 60 else if k=2 then 12 else 1
def wdB(k:Int):List UInt8->Bool
 | []=>false
 | c::r=>decide (k≠0) && (decide (kindC c.toNat=k) && (r.all (λb=>goC k b.toNat) && decide (r.length+1<=mostC k)))
theorem Qxr(c:Nat):Qgo c=some (digB c):=by unfold Qgo digB;simp only[jn_eq,bifd];grind
theorem Qvk(c:Nat):Qgz c=some (letB c):=by unfold Qgz letB;simp only[jn_eq,bifd];grind
theorem Jhq{s:List UInt8}{p:Nat}{c:UInt8}(h:s[p]?=some c)(d:c.toNat<128):decR s p=c.toNat/\decW s p=1:=by
 have a:((⟨s.toArray⟩:ByteArray).get! (p+0)).toNat=c.toNat:=by
  have hp:=Kc h;have:((⟨s.toArray⟩:ByteArray).get! (p+0))=c:=by show s.toArray[p+0]! = c;simp[h]
  rw[this]
 unfold decR decW Utf8.decode;simp only[a];rw[oq d];exact⟨rfl,rfl⟩
theorem Jaz{n c:Nat}(hn:big<=n):Qpa n c=some (sgnB c):=by
 unfold Qpa;unfold big at hn;have e:sgnB c=runG (τ:=Bool) (λ_ (x:UInt8) (_:Unit)=>if x.toNat=c then .inr true else .inl ()) (λ_=>false) sgnL 0 ():=by
  unfold sgnB;have:∀(l:List UInt8) (i:Nat),l.any (λx=>decide (x.toNat=c))=runG (τ:=Bool) (λ_ (x:UInt8) (_:Unit)=>if x.toNat=c then .inr true else .inl ()) (λ_=>false) l i ():=by
   intro l
   induction l with
   | nil=>intro i;rfl
   | cons x l p=>
     intro i;simp only[List.any_cons,runG];by_cases h:x.toNat=c;simp[h];simp only[oo h,oj h,Bool.false_or];exact p (i+1)
  exact this _ 0
 rw[e];refine Q32 (λ_ i=>i) (λ_ (x:UInt8) (_:Unit)=>if x.toNat=c then .inr true else .inl ()) (λ_=>()) _ (λ_ _=>True) sgnL () (λi x b j _=>⟨?_,λ_ _=>trivial⟩) (λb _=>by simp[bifd,sgnL]) (λb _=>rfl) trivial (by simp[sgnL];omega);have hi:=Kc j;have g:x.toNat<128:=by
  have:∀ y∈sgnL,y.toNat<128:=oz
  exact this x (Jm j)
 obtain⟨k,m⟩:=Jhq j g;have a:decR [43,45,42,47,94,40,41,91,93,44,59,61] i=x.toNat:=k;have d:decW [43,45,42,47,94,40,41,91,93,44,59,61] i=1:=m;have f:i<([43,45,42,47,94,40,41,91,93,44,59,61]:List UInt8).length:=hi;simp only[bifd,oq f,sbind,a,d];rw[show Int.toNat ((x.toNat:Int)%256)=x.toNat by omega];by_cases h:x.toNat=c;rw[oq h,oq h];rfl;rw[oj h,oj h];rfl
theorem Ja0{n c:Nat}(hn:big<=n):Qpb n c=some (kindC c):=by
 unfold Qpb kindC;rw[Qxr,sbind];cases digB c with
 | true=>rfl
 | false=>
   rw[bifF,Qvk,sbind];cases letB c with
   | true=>rfl
   | false=>rw[bifF,Jaz hn,sbind];cases sgnB c<;>rfl
theorem Ja1(k:Int)(c:Nat):Qpc k c=some (goC k c):=by unfold Qpc goC;simp only[jn_eq,Qxr,Qvk,sbind,bifd];by_cases a:k=1;subst a;cases digB c<;>simp;by_cases d:k=2;subst d;cases letB c<;>cases digB c<;>simp;simp[a,d]
theorem Ja2(k:Int):Qpd k=some (mostC k:Int):=by unfold Qpd mostC;simp only[bifd];grind
def firstL(k:Int)(s:List UInt8):Nat:=1+((s.drop 1).takeWhile (λc=>goC k c.toNat)).length
theorem Qzx{α:Type}{p:α->Bool}:∀ {l:List α}{i:Nat},i<(l.takeWhile p).length->∃ x,l[i]?=some x/\p x=true
 | [],i,h=>by simp at h
 | y::l,0,h=>by
   cases a:p y with
   | true=>exact⟨y,rfl,a⟩
   | false=>rw[vp,a] at h;simp at h
 | y::l,i+1,h=>by
   rw[vp] at h;cases a:p y with
   | true=>rw[a] at h;simp only[yf,xn] at h;exact Qzx (l:=l) (i:=i) om
   | false=>rw[a] at h;simp at h
theorem Qsi{α:Type}{p:α->Bool}:∀ {l:List α}{x:α},l[(l.takeWhile p).length]?=some x->p x=false
 | [],x,h=>by simp at h
 | y::l,x,h=>by
   rw[vp] at h;cases a:p y with
   | true=>rw[a] at h;simp only[yf,xn,List.getElem?_cons_succ] at h;exact Qsi h
   | false=>rw[a] at h;simp at h;rw[<-h];exact a
theorem Qua{α:Type}(p:α->Bool)(l:List α):(l.takeWhile p).length<=l.length:=(List.takeWhile_sublist p).length_le
theorem Q76{n:Nat}{s:List UInt8}{k:Int}(hn:big<=n)(hs:s.length<=4611686018427387904):Qnf n s k=some (firstL k s:Int):=by
 unfold Qnf;unfold big at hn;generalize hp:(λc:UInt8=>goC k c.toNat)=p;have a:∀ c:UInt8,goC k c.toNat=p c:=λc=>by rw[<-hp]
 have l:((s.drop 1).takeWhile p).length<=s.length:=xo (Qua _ _) oc;have m:firstL k s=1+((s.drop 1).takeWhile p).length:=by unfold firstL;rw[hp]
 rw[m];refine Qb9 (λs':Int=>s.length+2 - s'.toNat) (λs'=>∃ j:Nat,s'=((1+j:Nat):Int)/\j<=((s.drop 1).takeWhile p).length) (λt=>t=((1+((s.drop 1).takeWhile p).length:Nat):Int)) ⟨0,rfl,yx _⟩ oh (λs' hI=>?_) (λt q=>by rw[q]);obtain⟨j,rfl,r⟩:=hI;simp only[jn_eq,bifd];by_cases i:1+j<s.length;rw[oq om,Jld i,sbind,Ja1,sbind];have g:(s.drop 1)[j]?=some s[1+j]:=by rw[vc,oi i]
 by_cases e:j<((s.drop 1).takeWhile p).length;obtain⟨x,f,d⟩:=Qzx e;rw[g] at f;cases f;left;refine⟨((1+(j+1):Nat):Int),?_,⟨j+1,rfl,om⟩,om⟩;have:goC k (s[1+j]).toNat=true:=by rw[a];exact d
 rw[this,bifT,w1 om];rfl;right;obtain rfl:j=((s.drop 1).takeWhile p).length:=om
 have d:=Qsi g;refine⟨_,?_,rfl⟩;have:goC k (s[1+((s.drop 1).takeWhile p).length]).toNat=false:=by rw[a];exact d
 rw[this,bifF];right;rw[oj om];refine⟨_,rfl,?_⟩;have:((s.drop 1).takeWhile p).length<=(s.drop 1).length:=Qua _ _;rw[uc] at this;have:j=((s.drop 1).takeWhile p).length:=om
 rw[this]
theorem Qoc{α:Type}{p:α->Bool}:∀ {l:List α},(l.takeWhile p).length=l.length↔l.all p=true
 | []=>oc
 | x::l=>by
   rw[vp];cases a:p x with
   | true=>simp[a,Qoc]
   | false=>simp[a]
theorem Q77{n:Nat}{w:Qmh}(hn:big<=n)(hs:w.A7.length<=4611686018427387904):Qk0 n w=some (wdB w.Ax w.A7):=by
 unfold Qk0;simp only[jn_eq,Q76 hn hs,sbind,Ja2,bifd];cases e:w.A7 with
 | nil=>rfl
 | cons c r=>
   rw[oj oc];by_cases h0:w.Ax=0;rw[oq h0,bifT];simp[wdB,h0];rw[oj h0,show getS (c::r) (0:Int)=some c.toNat by rfl,sbind,Ja0 hn,sbind];by_cases hk:kindC c.toNat=w.Ax;simp only[ol hk,ou,bifF];have d:(firstL w.Ax (c::r):Int)=((c::r).length:Int)↔r.all (λb=>goC w.Ax b.toNat)=true:=by rw[<-Qoc];unfold firstL;simp only[jb,dt,xn];omega
   by_cases a:r.all (λb=>goC w.Ax b.toNat)=true;rw[oq (d.2 a)];simp only[wdB,a,hk];simp;congr 1;rw[Bool.eq_iff_iff];simp;omega;rw[oj (λh=>a (d.1 h))];have:r.all (λb=>goC w.Ax b.toNat)=false:=by simpa using a
   simp only[wdB,this,Bool.false_and,Bool.and_false];simp only[oo hk,ow,bifT];simp[wdB,hk]
theorem Qtb{lim T Y P}(a:lim<=4096):∀ {c:List Qv}{i:Nat}{done l:List Rat},QR 129 done->runQ lim T Y P c i done=.inr l->l.length=done.length+c.length/\QR 129 l
 | [],i,done,l,hd,h=>by simp only[runQ] at h;cases h;exact⟨rfl,hd⟩
 | x::c,i,done,l,hd,h=>by
   simp only[runQ] at h;cases f:opQ x T Y P done with
   | none=>rw[f] at h;cases h
   | some q=>
     rw[f] at h;simp only[] at h;by_cases e:(qz q:Int)<=lim
     . rw[oq e] at h
       obtain⟨g,j⟩:=Qtb a (λz d=>by
        rcases yd.1 d with d | d
        . exact hd z d
        . rw[xk.1 d]
          have:=qw_qz (q:=q) (b:=4096) om;omega) h
       exact⟨by rw[g];simp;omega,j⟩
     . rw[oj e] at h;cases h
theorem Qoz{lim T Y P}:∀ {c:List Qv}{i:Nat}{done:List Rat}{e},runQ lim T Y P c i done=.inl e->e.1=3\/e.1=6
 | [],i,done,e,h=>by simp only[runQ] at h;cases h
 | x::c,i,done,e,h=>by
   simp only[runQ] at h;cases d:opQ x T Y P done with
   | none=>rw[d] at h;cases h;exact .inl rfl
   | some q=>
     rw[d] at h;simp only[] at h;by_cases a:(qz q:Int)<=lim
     . rw[oq a] at h;exact Qoz h
     . rw[oj a] at h;cases h;exact .inr rfl
def fieldQ(t:Qm)(lim:Int)(T:Rat)(Y P:List Rat):(Int×Nat) ⊕ List Rat:=
 match runQ lim T Y P t.Code 0 [] with
 | .inl e=>.inl e
 | .inr l=>.inr (t.Az.map λo=>l.getD o.toNat 0)
structure Q1i(n k:Nat)(t:Qm):Prop where
 r:tapeR t
 h:Qb2 n t=some true
 w:∀ c∈t.Code,Fk k c.N
theorem Q78{n k:Nat}{t:Qm}{p:V3}{bits:Int}(hn:big<=n)(j:129<=k)(hk:k<1048576)(u:Q1i n k t)(d:Fk k p.T)(f:FR k p.Y)(a:FR k p.P)(v:(p.Y.length:Int)=t.A0)(hp:(p.P.length:Int)=t.A3):
 Qng n t p bits=some (match fieldQ t (min (max bits 0) 4096) (fv p.T) (rv p.Y) (rv p.P) with | .inl e=>([],⟨e.1,0,0,(e.2:Int)⟩) | .inr l=>(toR l,⟨0,0,0,0⟩)):=by
 obtain⟨r,h,w⟩:=u;have hd:=r.1;obtain⟨⟨y,A⟩,⟨B,C⟩,E,F⟩:=hd;have eT:=qw_fv d om;have eY:=QR_rv f om;have eP:=QR_rv a om;unfold Qng Qka Qgp X9;rw[V0 hn (Fk_Fw d om),sbind,Qcx hn om f om,sbind,Qcx hn om a om,sbind,sbind,sbind];simp only[];obtain⟨G,e⟩:=Jc8 (g:=⟨⟨0,0⟩,min (max bits 0) 4096⟩) hn j hk r h w eT eY eP (by rw[Ji];exact v) (by rw[Ji];exact hp) (by simp only[];omega);rw[e,sbind];unfold fieldQ;simp only[];cases hr:runQ (min (max bits 0) 4096) (fv p.T) (rv p.Y) (rv p.P) t.Code 0 [] with
 | inl q=>
   have hk:=Qoz hr;simp only[];rw[sbind];simp only[];rw[Ky om,ow,bifT]
 | inr l=>
   obtain⟨l1,x⟩:=Qtb om (λ_ h=>by cases h) hr;have H:l.length=t.Code.length:=by simpa using l1
   simp only[];rw[sbind];simp only[];rw[Kk,ou,bifF];unfold Qss;simp only[jn_eq,h,sbind,ou,bifF];rw[Jj,ol (show(l.length:Int)=(t.Code.length:Int) by omega),ou,bifF,Q74 (g:=λo:Int=>l.getD o.toNat 0) hn om λi o s m=>?_,sbind];have hb:=r.2.2 o (Jm m);rw[Qiu hb.1 om,sbind,V0 hn (Fk_Fw (Jq (Vp x om)) om),sbind,Jf]
theorem Q1j{t:Qm}{lim T Y P l}(a:lim<=4096)(h:fieldQ t lim T Y P=.inr l):l.length=t.Az.length/\QR 129 l:=by
 unfold fieldQ at h;cases hr:runQ lim T Y P t.Code 0 [] with
 | inl q=>rw[hr] at h;cases h
 | inr l'=>
   rw[hr] at h;cases h;obtain⟨l1,e⟩:=Qtb a (λ_ h=>by cases h) hr;refine⟨oc,λq d=>?_⟩;obtain⟨o,_,rfl⟩:=xz.1 d;exact Vp e om
theorem Qwo{t:Qm}{lim T Y P e}(h:fieldQ t lim T Y P=.inl e):e.1=3\/e.1=6:=by
 unfold fieldQ at h;cases hr:runQ lim T Y P t.Code 0 [] with
 | inl q=>rw[hr] at h;cases h;exact Qoz hr
 | inr l'=>rw[hr] at h;cases h
end Go.Proofs.YtbdgngdpkdagoaaGreatDoor
