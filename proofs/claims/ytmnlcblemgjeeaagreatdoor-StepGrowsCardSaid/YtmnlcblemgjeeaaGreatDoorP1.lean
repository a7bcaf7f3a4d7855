import Derived.Test.YtmnlcblemgjeeaaGreatDoorMod
namespace Go.Proofs.YtmnlcblemgjeeaaGreatDoor
open Go Go.RowKit
def big:Nat:=18446744073709551616
theorem w64{x:Int}(a:-9223372036854775808<=x)(d:x<=9223372036854775807):wrap64 x=x:=by unfold wrap64;omega
theorem bifd{α:Type}(p:Prop)[Decidable p](a b:α):(bif decide p then a else b)=if p then a else b:=by by_cases h:p<;>simp[h]
theorem bifnd{α:Type}(p:Prop)[Decidable p](a b:α):(bif !decide p then a else b)=if p then b else a:=by by_cases h:p<;>simp[h]
theorem bifT{α:Type}(a b:α):(bif true then a else b)=a:=Eq.symm (Eq.symm rfl)
theorem bifF{α:Type}(a b:α):(bif false then a else b)=b:=Eq.symm (Eq.symm rfl)
theorem jn_eq{σ ρ:Type}(A:(σ->Option ρ)->Option ρ)(k:σ->Option ρ):jn A k=A k:=Eq.symm (Eq.symm rfl)
theorem J7{τ ρ:Type}(k:τ->Option ρ)(t:τ):lpK k (.go t)=k t:=Eq.symm (Eq.symm rfl)
theorem Qic{τ ρ:Type}(k:τ->Option ρ)(r:ρ):lpK k (.out r)=some r:=Eq.symm (Eq.symm rfl)
theorem sbind{α β:Type}(a:α)(f:α->Option β):(some a).bind f=f a:=Eq.symm (Eq.symm rfl)
theorem Qbn{α:Type}(l:List α)(i:Nat):getI l (i:Int)=l[i]?:=by simp[getI]
theorem Qba{α:Type}{l:List α}{i:Nat}(h:i<l.length):getI l (i:Int)=some l[i]:=by rw[Qbn];simp[h]
theorem Qr9(l:List UInt8)(i:Nat):getS l (i:Int)=(l[i]?).map (·.toNat):=by simp[getS]
theorem Qs7{l:List UInt8}{i:Nat}(h:i<l.length):getS l (i:Int)=some l[i].toNat:=by rw[Qr9];simp[h]
theorem grd_t{b:Bool}(h:b=true):grd b=some ():=by rw[h];rfl
theorem Qs8{α:Type}{l:List α}{k:Nat}(h:k<=l.length):sub l 0 (k:Int)=some (l.take k):=by unfold sub;rw[oi om];simp
theorem Zp{α:Type}{b:Nat}{l r:List α}(h:(l.length+r.length)*b<=140737488355328)(a:l.length+r.length<=9223372036854775807):appM b l r=some (l++r):=by unfold appM;rw[oi ⟨h,a⟩]
theorem Qdh{α:Type}{b:Nat}{z:α}{n:Nat}(h:n*b<=140737488355328)(a:n<=9223372036854775807):mkM b z (n:Int)=some (List.replicate n z):=by unfold mkM;rw[oi om];simp
theorem Qjn{σ τ:Type}{f:σ->Option (Lp σ τ)}(μ:σ->Nat)(I:σ->Prop)(Q:τ->Prop)
 (g:∀ s,I s->(∃ a,f s=some (.go a)/\I a/\μ a<μ s)\/(∃ t,f s=some (.out t)/\Q t)):∀(n:Nat) (s:σ),I s->μ s<n->∃ t,loopM f n s=some t/\Q t
 | 0,_,_,h=>absurd h (Nat.not_lt_zero _)
 | n+1,s,k,hn=>by rcases g s k with ⟨a,d,e,l⟩ | ⟨t,d,e⟩;obtain⟨t,i,j⟩:=Qjn μ I Q g n a e om;exact⟨t,by simp only[loopM,d,xj];exact i,j⟩;exact⟨t,by simp only[loopM,d,xj],e⟩
theorem Qae{σ τ R:Type}{f:σ->Option (Lp σ τ)}{n:Nat}{s:σ}{k:τ->Option R}{r:R}(μ:σ->Nat)(I:σ->Prop)(Q:τ->Prop)(h0:I s)(hn:μ s<n)
 (g:∀ s,I s->(∃ a,f s=some (.go a)/\I a/\μ a<μ s)\/(∃ t,f s=some (.out t)/\Q t)) (hk:∀ t,Q t->k t=some r):(loopM f n s).bind k=some r:=by
 obtain⟨t,d,e⟩:=Qjn μ I Q g n s h0 hn;rw[d,xj];exact hk t e
theorem Qkl{σ τ R:Type}{f:σ->Option (Lp σ τ)}{n:Nat}{s:σ}{k:τ->Option R}{P:R->Prop}(μ:σ->Nat)(I:σ->Prop)(Q:τ->Prop)(h0:I s)(hn:μ s<n)
 (g:∀ s,I s->(∃ a,f s=some (.go a)/\I a/\μ a<μ s)\/(∃ t,f s=some (.out t)/\Q t)) (hk:∀ t,Q t->∃ r,k t=some r/\P r):∃ r,(loopM f n s).bind k=some r/\P r:=by
 obtain⟨t,d,e⟩:=Qjn μ I Q g n s h0 hn;rw[d,xj];exact hk t e
theorem Qlq{σ τ:Type}{f:σ->Option (Lp σ τ)}{s a:σ}{n:Nat}(h:f s=some (.go a)):loopM f (n+1) s=loopM f n a:=by simp only[loopM,h,xj]
theorem Qc1{σ τ:Type}{f:σ->Option (Lp σ τ)}{s:σ}{t:τ}{n:Nat}(h:f s=some (.out t))(hn:0<n):loopM f n s=some t:=by
 obtain⟨m,rfl⟩:∃ m,n=m+1:=⟨n - 1,om⟩
 simp only[loopM,h,xj]
theorem Qhq{α σ τ:Type}{f:Nat->α->σ->Option (Lp σ τ)}(I:Nat->σ->Prop):∀(xs:List α) (i:Nat) (s:σ),I i s->(∀ j x s,xs[j]?=some x->I (i+j) s->∃ a,f (i+j) x s=some (.go a)/\I (i+j+1) a) ->
 ∃ a,rangeL f xs i s=some (.go a)/\I (i+xs.length) a
 | [],i,s,h,_=>⟨s,rfl,h⟩
 | x::xs,i,s,h,g=>by
   obtain⟨s1,d,e⟩:=g 0 x s rfl h;simp only[xa] at d e
   obtain⟨p,k,l⟩:=Qhq I xs (i+1) s1 e (λj y t m n=>by
    have:=g (j+1) y t (by simpa using m) (by rw[show i+(j+1)=i+1+j by omega];exact n);rw[show i+(j+1)=i+1+j by omega] at this
    exact this)
   refine⟨p,by simp only[rangeL,d,xj];exact k,?_⟩;rw[xy,show i+(xs.length+1)=i+1+xs.length by omega];exact l
theorem Qcm{α σ τ R:Type}{f:Nat->α->σ->Option (Lp σ τ)}{xs:List α}{s:σ}{k:Lp σ τ->Option R}{r:R}(I:Nat->σ->Prop)(h0:I 0 s)
 (g:∀ j x s,xs[j]?=some x->I j s->∃ a,f j x s=some (.go a)/\I (j+1) a) (hk:∀ t,I xs.length t->k (.go t)=some r):(rangeL f xs 0 s).bind k=some r:=by
 obtain⟨a,d,e⟩:=Qhq I xs 0 s h0 (λj x s i hs=>by rw[xm] at hs |-;exact g j x s i hs);rw[d,xj];exact hk a (by simpa using e)
theorem Qfi{α σ τ R:Type}{f:Nat->α->σ->Option (Lp σ τ)}{xs:List α}{s:σ}{k:Lp σ τ->Option R}{P:R->Prop}(I:Nat->σ->Prop)(h0:I 0 s)
 (g:∀ j x s,xs[j]?=some x->I j s->∃ a,f j x s=some (.go a)/\I (j+1) a) (hk:∀ t,I xs.length t->∃ r,k (.go t)=some r/\P r):∃ r,(rangeL f xs 0 s).bind k=some r/\P r:=by
 obtain⟨a,d,e⟩:=Qhq I xs 0 s h0 (λj x s i hs=>by rw[xm] at hs |-;exact g j x s i hs);rw[d,xj];exact hk a (by simpa using e)
def val:List Nat->Nat
 | []=>0
 | x::a=>x+4294967296*val a
def bp(k:Nat):Nat:=4294967296 ^ k
theorem Xr:bp 0=1:=by unfold bp;rw[Nat.pow_zero]
theorem Km(k:Nat):bp (k+1)=bp k*4294967296:=by unfold bp;rw[Nat.pow_succ]
theorem bp_le{j k:Nat}(h:j<=k):bp j<=bp k:=by unfold bp;exact yg oy h
theorem Qsa(k:Nat):0<bp k:=by unfold bp;exact Nat.pow_pos oy
theorem Qv2(j k:Nat):bp (j+k)=bp j*bp k:=by unfold bp;rw[vg]
def Wd(a:List Nat):Prop:=∀ x∈a,x<4294967296
def trimZ:List Nat->List Nat
 | []=>[]
 | x::a=>if trimZ a=[]/\x=0 then [] else x::trimZ a
def toL(n:Nat):List Nat:=if n=0 then [] else n%4294967296::toL (n / 4294967296)
termination_by n
decreasing_by omega
theorem K0:Wd []:=λ_ h=>by cases h
theorem Q8{x a}:Wd (x::a)↔x<4294967296/\Wd a:=by simp[Wd]
theorem Q4{a b}:Wd (a++b)↔Wd a/\Wd b:=by constructor;intro h;exact⟨λx d=>h x (List.mem_append_left _ d),λx d=>h x (List.mem_append_right _ d)⟩;rintro⟨e,f⟩ x d;rcases uy.1 d with h | h;exact e x h;exact f x h
theorem Qfr{a k}(h:Wd a):Wd (a.take k):=λx d=>h x (yf d)
theorem Qeb{a k}(h:Wd a):Wd (a.drop k):=λx d=>h x (wn d)
theorem Qkm{k x}(h:x<4294967296):Wd (List.replicate k x):=λy hy=>by rw[(List.mem_replicate.1 hy).2];exact h
theorem Wz{a:List Nat}(h:Wd a){i:Nat}(hi:i<a.length):a[i]<4294967296:=h _ (List.getElem_mem hi)
theorem Jy:toL 0=[]:=by rw[toL];rfl
theorem V7{n:Nat}(h:n≠0):toL n=n%4294967296::toL (n / 4294967296):=by rw[toL];rw[oh h]
theorem Qr(n:Nat):val (toL n)=n:=by
 induction n using Nat.strongRecOn with
 | _ n a=>
   by_cases h:n=0;subst h;rw[Jy];rfl;rw[V7 h];simp only[val];rw[a (n / 4294967296) om];omega
theorem Q0(n:Nat):Wd (toL n):=by
 induction n using Nat.strongRecOn with
 | _ n a=>
   by_cases h:n=0;subst h;rw[Jy];exact K0;rw[V7 h];exact Q8.2 ⟨om,a (n / 4294967296) om⟩
theorem Q9{a:List Nat}(h:Wd a):toL (val a)=trimZ a:=by
 induction a with
 | nil=>simp[val,Jy,trimZ]
 | cons x a d=>
   obtain⟨j,i⟩:=Q8.1 h;have d:=d i;simp only[val,trimZ];by_cases g:val a=0;rw[g,Jy] at d;rw[<-d,g];by_cases e:x=0;subst e;simp[Jy];rw[oh (λh=>e h.2),V7 om];rw[show(x+4294967296*0)%4294967296=x by omega,show(x+4294967296*0) / 4294967296=0 by omega,Jy];have f:trimZ a≠[]:=by rw[<-d,V7 g];simp
   rw[oh (λh=>f h.1),V7 om,show(x+4294967296*val a)%4294967296=x by omega,show(x+4294967296*val a) / 4294967296=val a by omega,d]
theorem Qsb(a:List Nat):val (trimZ a)=val a:=by
 induction a with
 | nil=>rfl
 | cons x a d=>
   simp only[trimZ];split;rename_i h;rw[h.1] at d;simp[val] at d |-;omega;simp[val,d]
theorem Vn(a:List Nat):(trimZ a).length<=a.length:=by
 induction a with
 | nil=>simp[trimZ]
 | cons x a d=>simp only[trimZ];split<;>simp;omega
theorem Qmp{a:List Nat}(h:trimZ a=[]):val a=0:=by rw[<-Qsb,h];rfl
theorem Qou{a:List Nat}(h:Wd a):trimZ a=[]↔val a=0:=by constructor;exact Qmp;intro d;rw[<-Q9 h,d,Jy]
theorem Qsc(n:Nat):trimZ (toL n)=toL n:=by rw[<-Q9 (Q0 n),Qr]
theorem Qi9(a:List Nat):trimZ (a++[0])=trimZ a:=by
 induction a with
 | nil=>simp[trimZ]
 | cons x a d=>simp only[xp,trimZ,d]
theorem Qq6(a:List Nat){x:Nat}(h:x≠0):trimZ (a++[x])=a++[x]:=by
 induction a with
 | nil=>simp[trimZ,h]
 | cons y a d=>simp only[xp,trimZ,d];rw[oh oa]
theorem K1(a b:List Nat):val (a++b)=val a+bp a.length*val b:=by
 induction a with
 | nil=>simp[val,Xr]
 | cons x a d=>simp only[xp,val,d,xy,Km];rw[vh,<-Nat.mul_assoc,vb 4294967296 (bp a.length)];omega
theorem K9{a:List Nat}(h:Wd a):val a<bp a.length:=by
 induction a with
 | nil=>simp[val,Xr]
 | cons x a e=>
   obtain⟨f,d⟩:=Q8.1 h;have:=e d;simp only[val,xy,Km];omega
theorem Qgf(k:Nat):val (List.replicate k 0)=0:=by
 induction k with
 | zero=>rfl
 | succ k a=>simp[uj,val,a]
theorem X3{n k:Nat}(h:n<bp k):(toL n).length<=k:=by
 induction k generalizing n with
 | zero=>rw[Xr] at h;obtain rfl:n=0:=om
         simp[Jy]
 | succ k a=>
   by_cases h0:n=0;subst h0;simp[Jy];rw[V7 h0,xy];have:=@a (n / 4294967296) (by rw[Km] at h;exact wx (by rw[vb];exact h));omega
theorem Vb{α:Type}{a:List α}{k:Nat}(h:k<a.length):a.take (k+1)=a.take k++[a[k]]:=by simp[]
theorem J9{n:Nat}{a:List Nat}(hn:big<=n)(f:a.length<=4611686018427387904):Ko n a=some (trimZ a):=by
 unfold Ko;unfold big at hn;refine Qae (λs=>s.toNat) (λs=>∃ k:Nat,s=k/\k<=a.length/\trimZ a=trimZ (a.take k)) (λt=>∃ k:Nat,t=k/\k<=a.length/\trimZ a=a.take k) ⟨a.length,rfl,ot _,oa⟩ oe ?_ ?_;rintro s ⟨k,rfl,hk,d⟩;simp only[jn_eq,bifd];by_cases h0:0<k;obtain⟨j,rfl⟩:∃ j,k=j+1:=⟨k - 1,om⟩
 rw[oi om,w64 om om,show((j+1:Nat):Int) - 1=(j:Nat) by omega,Qba (show j<a.length by omega),sbind];rw[Vb (show j<a.length by omega)] at d;by_cases e:a[j]=0;left;refine⟨(j:Nat),by simp[e],⟨j,rfl,om,?_⟩,om⟩;rw[d,e,Qi9];right;refine⟨((j+1:Nat):Int),by simp[e],j+1,rfl,hk,?_⟩;rw[d,Vb (show j<a.length by omega),Qq6 _ e];right;obtain rfl:k=0:=om
 exact⟨0,oa,0,rfl,xk _,by rw[d];simp[trimZ]⟩;rintro t ⟨k,rfl,hk,d⟩;rw[Qs8 hk,sbind,d]
theorem Qs9{a:List Nat}{k:Nat}:cpyL (List.replicate (a.length+k) 0) a=a++List.replicate k 0:=by unfold cpyL;rw[yt,xr om,List.drop_replicate,we]
theorem Qc2{a:List Nat}{k:Nat}(h:a.length+k<=35184372088832):X6 a (k:Int)=some (a++List.replicate k 0):=by unfold X6;rw[w64 om om,show((a.length:Int)+(k:Int))=((a.length+k:Nat):Int) by omega,Qdh om om,sbind,Qs9]
theorem Jv{n:Nat}{a:List Nat}(hn:big<=n)(d:a.length<=35184372088832):Jl n a=some (trimZ a):=by unfold Jl;have e:=Vn a;rw[J9 hn om,sbind,show(0:Int)=((0:Nat):Int) by rfl,Qc2 om,sbind];simp
theorem Qgp{n:Nat}{a:List Nat}(hn:big<=n)(d:a.length<=4611686018427387904)(e:Wd a):W2 n a=some (decide (val a=0)):=by unfold W2;rw[J9 hn d,sbind];congr 1;rw[Bool.eq_iff_iff];simp only[decide_eq_true_eq];rw[<-Qou e];constructor;intro h;exact oq om;intro h;rw[h];rfl
theorem Qjo{x y c d:Nat}(e:x<4294967296)(hy:y<4294967296)(a:c<4294967296)(hd:d<4294967296):x*y+c+d<18446744073709551616:=by have:x*y<=4294967295*4294967295:=yv om om;omega
theorem Qdv{x y c d:Nat}(e:x<4294967296)(hy:y<4294967296)(a:c<4294967296)(hd:d<4294967296):
 W1 x y c d=some ((x*y+c+d) / 4294967296,(x*y+c+d)%4294967296):=by
 have h:=Qjo e hy a hd;unfold W1;rw[xc (show x*y<18446744073709551616 by omega),xc (show x*y+c<18446744073709551616 by omega),xc h,sbind];rw[show(2:Nat) ^ 32=4294967296 by rfl,xc (show(x*y+c+d) / 4294967296<4294967296 by omega)]
theorem Qlr{x y:Nat}(hy:y<4294967296):x*4294967296 ||| y=x*4294967296+y:=by have:=Nat.two_pow_add_eq_or_of_lt (i:=32) (b:=y) (by simpa using hy) x;rw[show(2:Nat) ^ 32=4294967296 by rfl,vb] at this;exact this.symm
theorem Qgq{h l y:Nat}(f:h<y)(d:l<4294967296)(hy:y<4294967296):
 Xx h l y=some ((h*4294967296+l) / y,(h*4294967296+l)%y,true):=by
 unfold Xx;rw[bifd,oh om,grd_t oe,sbind,sbind];rw[show(2:Nat) ^ 32=4294967296 by rfl,xc (show h*4294967296<18446744073709551616 by omega),Qlr d]
 have a:(h*4294967296+l) / y<4294967296:=wx (by
  have:h*4294967296+4294967296<=y*4294967296:=om
  omega)
 have e:(h*4294967296+l)%y<y:=yw _ om;rw[xc a,xc (show(h*4294967296+l)%y<4294967296 by omega)]
theorem Qua{α:Type}(p:List α)(y:α)(r:List α):(p++y::r)[p.length]?=some y:=oa
theorem Qub{α:Type}(p:List α)(y z:α)(r:List α):(p++y::r).set p.length z=p++z::r:=oa
theorem J1{α:Type}{k:Nat}{p:List α}{y:α}{r:List α}(h:p.length=k):getI (p++y::r) (k:Int)=some y:=by rw[Qbn,<-h,Qua]
theorem Vv{α:Type}{k:Nat}{p:List α}{y z:α}{r:List α}(h:p.length=k):(p++y::r).set (k:Int).toNat z=p++z::r:=by rw[ui,<-h,Qub]
theorem Jq(a:List Nat)(x:Nat):val (a++[x])=val a+bp a.length*x:=by rw[K1];simp[val]
theorem Qsd{α:Type}{l:List α}{k:Nat}(h:k<l.length):l=l.take k++l[k]::l.drop (k+1):=oa
theorem Qta(P x y m a u v V M A c:Nat)(e:4294967296*u+v=x*y+m+a)(d:V+P*a=M+x*A+c):V+P*v+P*4294967296*u=M+P*m+x*(A+P*y)+c:=by grind
theorem Qnb{p m q a:List Nat}{z x c:Nat}(hm:m.length=a.length)(H:p.length+m.length+1+q.length<=4611686018427387904)(C:Wd m)(B:Wd a)(F:x<4294967296)(G:c<4294967296):
 ∃ r,Xw (p++m++z::q) (p.length:Int) a x c=some (p++r++q)/\r.length=a.length+1/\Wd r/\val r=val m+x*val a+c:=by
 have key:∃ r,Xw (p++m++z::q) (p.length:Int) a x c=some r/\∃ l,r=p++l++q/\l.length=a.length+1/\Wd l/\val l=val m+x*val a+c:=by
  unfold Xw;refine Qfi (λj (s:List Nat×Nat)=>∃ e,s.1=p++e++(m.drop j++z::q)/\e.length=j/\j<=a.length/\Wd e/\s.2<4294967296/\val e+bp j*s.2=val (m.take j)+x*val (a.take j)+c) ⟨[],oa,rfl,xk _,K0,G,by simp[val,Xr]⟩ ?_ ?_;rintro j y ⟨o,w⟩ E ⟨e,f,g,A,n,d,t⟩;simp only at f d t;subst f;have i:j<a.length:=by rcases xn j a.length with h | h;exact h;simp[ol h] at E
  have hy:a[j]=y:=by simpa [i] using E
  have v:y<4294967296:=by rw[<-hy];exact Wz B i
  have k:j<m.length:=om
  have u:m[j]<4294967296:=Wz C k;rw[w64 om om,show((p.length:Int)+(j:Int))=((p.length+j:Nat):Int) by omega,xi k,xp];rw[J1 oe,sbind,Qdv F v u d,sbind,sbind,Vv oe];refine⟨_,rfl,e++[(x*y+m[j]+w)%4294967296],oa,by simp[g],om,Q4.2 ⟨n,Q8.2 ⟨om,K0⟩⟩,by have:=Qjo F v u d;simp only[];omega,?_⟩;rw[Vb k,Vb i,Jq,Jq,Jq,hy,g,xt,xt,xv om,xv om,Km];exact Qta _ _ _ _ _ _ _ _ _ _ _ (uz (x*y+m[j]+w) 4294967296) t;rintro⟨o,w⟩ ⟨e,f,g,A,n,d,t⟩;simp only at f d t;subst f;simp only[J7];rw[w64 om om,show((p.length:Int)+(a.length:Int))=((p.length+a.length:Nat):Int) by omega,xe om,yr];rw[J1 oe,sbind,Vv oe];refine⟨_,rfl,e++[w],oa,by simp[g],Q4.2 ⟨n,Q8.2 ⟨d,K0⟩⟩,?_⟩;rw[Jq,g,t,xr om,xr (ot _)]
 obtain⟨r,f,l,g,A,n,d⟩:=key;exact⟨l,by rw[f,g],A,n,d⟩
theorem X9{n x:Nat}(hn:big<=n)(a:x<18446744073709551616):Vk n x=some (toL x):=by
 unfold Vk
 rw[show(2:Nat) ^ 32=4294967296 by rfl,J9 hn oa,sbind,<-Q9 (by
  intro y hy;simp only[yh,List.not_mem_nil,or_false] at hy
  rcases hy with rfl | rfl<;>omega)]
 congr 2;simp only[val];omega
theorem Qtb(P q a r x s y d:Nat)(e:x*q+a=r*P+y)(h:d=x*s+r):y+P*d=x*(q+P*s)+a:=by grind
theorem Qls{n:Nat}{a:List Nat}{x:Nat}(hn:big<=n)(B:a.length<35184372088832)(y:Wd a)(v:x≠0)(A:x<4294967296):Zg n a x=some (toL (val a / x),val a%x,true):=by
 unfold Zg;unfold big at hn;rw[bifd,oh v,Qdh om om,sbind]
 refine Qae (λs=>(s.2.2+1).toNat) (λs=>∃(k:Nat) (e:List Nat),s.2.2=(k:Int) - 1/\k<=a.length/\s.1=List.replicate k 0++e/\e.length=a.length - k/\Wd e/\s.2.1<x/\val (a.drop k)=x*val e+s.2.1)
  (λt=>t.1.length=a.length/\Wd t.1/\t.2<x/\val a=x*val t.1+t.2) ⟨a.length,[],by simp only[];rw[w64 om om],ot _,oa,oa,K0,by simp only[];omega,by simp[val]⟩ (by simp only[];rw[w64 om om];omega) ?_ ?_
 rintro⟨q,r,i⟩ ⟨k,e,f,m,d,g,w,p,u⟩;simp only at f d p u;subst f d;simp only[bifd];by_cases h0:0<k;obtain⟨j,rfl⟩:∃ j,k=j+1:=⟨k - 1,om⟩
 have l:j<a.length:=om
 left;rw[oi om,show((j+1:Nat):Int) - 1=(j:Nat) by omega,Qba l,sbind,Qgq p (Wz y l) A,sbind];simp only[];rw[wm,xf,List.singleton_append,J1 oa,sbind,Vv oa,w64 om om];refine⟨_,rfl,⟨j,((r*4294967296+a[j]) / x)::e,rfl,om,rfl,oe,Q8.2 ⟨?_,w⟩,yw _ om,?_⟩,by simp only[];omega⟩;have:=Wz y l
 exact wx (by
  have:r*4294967296+4294967296<=x*4294967296:=om
  omega)
 rw[xi l];simp only[val];exact Qtb 4294967296 _ _ _ _ _ _ _ (uz (r*4294967296+a[j]) x) u;right;obtain rfl:k=0:=om
 rw[oh om];exact⟨_,rfl,by simp at g |-;omega,by simpa using w,p,by simpa using u⟩;rintro⟨q,r⟩ ⟨f,m,d,g⟩;simp only at f m d g;simp only[];rw[Jv (by unfold big;exact hn) om,sbind,<-Q9 m,g,Nat.mul_add_div om,Nat.mul_add_mod,vp d,xc d,xa]
theorem Qlt{a:List Nat}(h:Wd a)(i:Nat):a.getD i 0<4294967296:=by rw[yn];by_cases hi:i<a.length;simp[hi];exact Wz h hi;simp[ol (show a.length<=i by omega)]
theorem Vs(a:List Nat)(k:Nat):val (a.take (k+1))=val (a.take k)+bp k*a.getD k 0:=by by_cases h:k<a.length;rw[Vb h,Jq,xt,xv om];simp[h];rw[xr om,xr om];simp[ol (show a.length<=k by omega)]
def cmpI(x y:Nat):Int:=if x<y then -1 else if y<x then 1 else 0
theorem Quc{n:Nat}(h:n≠0):bp ((toL n).length - 1)<=n:=by
 induction n using Nat.strongRecOn with
 | _ n f=>
   rw[V7 h,xy,Nat.add_sub_cancel];by_cases a:n / 4294967296=0;rw[a,Jy,wh,Xr];omega;have:=f (n / 4294967296) om a;have g:(toL (n / 4294967296)).length≠0:=by rw[V7 a];simp
   obtain⟨m,hm⟩:∃ m,(toL (n / 4294967296)).length=m+1:=⟨(toL (n / 4294967296)).length - 1,om⟩
   rw[hm,Nat.add_sub_cancel] at this;rw[hm,Km];have d:bp m*4294967296<=n / 4294967296*4294967296:=xg _ this;have e:n / 4294967296*4294967296<=n:=Nat.div_mul_le_self _ _;exact ov d e
theorem Qkn{m n:Nat}(h:(toL m).length<(toL n).length):m<n:=by
 have a:=K9 (Q0 m);rw[Qr] at a;have hn:n≠0:=by rintro rfl;rw[Jy] at h;simp at h
 have d:=Quc hn;have e:bp (toL m).length<=bp ((toL n).length - 1):=bp_le om;exact xx a (ov e d)
theorem Qov(a:List Nat)(k:Nat):val a=val (a.take k)+bp (a.take k).length*val (a.drop k):=by
 conv=>lhs;rw[<-ur k a]
 rw[K1]
theorem Qtc{P x y u v A:Nat}(f:A<P)(a:x<y)(d:u=A+P*x)(e:P*y<=v):u<v:=by have:P*(x+1)<=P*y:=yq _ a;rw[vh] at this;omega
theorem Qp1{a b:List Nat}{j:Nat}(i:Wd a)(l:j<a.length)(d:j<b.length)(m:a.drop (j+1)=b.drop (j+1))(h:a[j]<b[j]):val a<val b:=by have e:=Qov a (j+1);have f:=Qov b (j+1);rw[xt,xv om] at e f;rw[e,f,m];refine Nat.add_lt_add_right ?_ _;rw[Vb l,Vb d,Jq,Jq,xt,xt,xv om,xv om];have g:=K9 (Qfr (k:=j) i);rw[xt,xv om] at g;exact Qtc g h rfl (Nat.le_add_left _ _)
theorem Qaf{n:Nat}{a b:List Nat}(hn:big<=n)(v:a.length<=4611686018427387904)(B:b.length<=4611686018427387904)(g:Wd a)(r:Wd b):W7 n a b=some (cmpI (val a) (val b)):=by
 unfold W7;rw[J9 hn v,sbind,J9 hn B,sbind,<-Q9 g,<-Q9 r];have C:(toL (val a)).length<=4611686018427387904:=by rw[Q9 g];exact ov (Vn a) v
 have e:=Qr (val a);have f:=Qr (val b);have i:=Q0 (val a);have l:=Q0 (val b);have l1:=@Qkn (val a) (val b);have w:=@Qkn (val b) (val a);generalize val a=x at *;generalize val b=y at *;generalize toL x=a' at *;generalize toL y=b' at *;unfold big at hn;rw[bifd,bifd];by_cases A:a'.length<b'.length;rw[oi om,cmpI,oi (l1 A)];rw[oh om];by_cases u:b'.length<a'.length;rw[oi om,cmpI,oh (by have:=w u;omega),oi (w u)];rw[oh om,w64 om om];refine Qae (λs=>(s+1).toNat) (λs=>∃ k:Nat,s=(k:Int) - 1/\k<=a'.length/\a'.drop k=b'.drop k) (λt=>(t=.go ()/\a'=b')\/(t=.out (-1)/\x<y)\/(t=.out 1/\y<x)) ⟨a'.length,rfl,ot _,by rw[xe (ot _),xe om]⟩ om ?_ ?_;rintro s ⟨k,rfl,hk,p⟩;simp only[bifd];by_cases h0:0<k;obtain⟨j,rfl⟩:∃ j,k=j+1:=⟨k - 1,om⟩
 have m:j<a'.length:=om
 have d:j<b'.length:=om
 rw[oi om,show((j+1:Nat):Int) - 1=(j:Nat) by omega,Qba m,sbind,Qba d,sbind];by_cases g1:a'[j]<b'[j];right;rw[oi g1];refine⟨_,rfl,.inr (.inl ⟨rfl,?_⟩)⟩;rw[<-e,<-f];exact Qp1 i m d p g1;rw[oh g1,sbind,sbind];by_cases q:b'[j]<a'[j];right;rw[oi q];refine⟨_,rfl,.inr (.inr ⟨rfl,?_⟩)⟩;rw[<-e,<-f];exact Qp1 l d m p.symm q;left;rw[oh q,w64 om om];refine⟨_,rfl,⟨j,rfl,om,?_⟩,om⟩;rw[xi m,xi d,p,show a'[j]=b'[j] by omega];right;obtain rfl:k=0:=om
 rw[oh om];exact⟨_,rfl,.inl ⟨rfl,by simpa using p⟩⟩;rintro t (⟨rfl,h⟩ | ⟨rfl,h⟩ | ⟨rfl,h⟩);rw[J7];have:x=y:=by rw[<-e,<-f,h]
 simp[cmpI,this];rw[Qic,cmpI,oi h];rw[Qic,cmpI,oh om,oi h]
theorem Qse{v:Nat}(h:v<18446744073709551616):toL v=[]\/(∃ x,toL v=[x]/\x=v)\/(∃ x y,toL v=[x,y]/\x<4294967296/\y<4294967296/\x+4294967296*y=v):=by
 have e:=X3 (n:=v) (k:=2) (by rw[Km,Km,Xr];omega);have a:=Qr v;have d:=Q0 v
 match hm:toL v,e with
 | [],_=>exact .inl rfl
 | [x],_=>rw[hm] at a;simp[val] at a;exact .inr (.inl ⟨x,rfl,a⟩)
 | [x,y],_=>
   rw[hm] at a d;simp[val] at a;exact .inr (.inr ⟨x,y,rfl,(Q8.1 d).1,(Q8.1 (Q8.1 d).2).1,om⟩)
 | _::_::_::_,h=>simp at h
theorem Qp2{v:Nat}(h:18446744073709551616<=v):2<(toL v).length:=by rcases xn 2 (toL v).length with a | a;exact a;have d:=K9 (Q0 v);rw[Qr] at d;have e:=bp_le a;rw[Km,Km,Xr] at e;omega
theorem Qfs{n:Nat}{a:List Nat}(hn:big<=n)(d:a.length<=4611686018427387904)(e:Wd a):Zh n a=some (if val a<18446744073709551616 then (val a,true) else (0,false)):=by unfold Zh;rw[J9 hn d,sbind,<-Q9 e,bifd];by_cases h:val a<18446744073709551616;rw[oi h];rcases Qse h with h1 | ⟨x,h1,h2⟩ | ⟨x,y,h1,h2,h3,h4⟩;have:=Qr (val a);rw[h1] at this |-;rw[oh oy];simp only[val] at this;simp only[rangeL,sbind,J7,<-this];rw[h1,oh oa];simp only[rangeL];rw[w64 om om,grd_t oy,sbind,sbind,sbind,sbind];simp only[J7];subst h2;simp;omega;rw[h1,oh oa];simp only[rangeL];rw[w64 (x:=32*((0:Nat):Int)) om om,grd_t oy,sbind,sbind,sbind,w64 om om,grd_t oy];simp only[sbind,J7];rw[show(2:Nat) ^ min (Int.toNat (32*((0:Nat):Int))) 64=1 by rfl,show(2:Nat) ^ min (Int.toNat (32*((0+1:Nat):Int))) 64=4294967296 by rfl,Nat.mul_one,xc (show x<18446744073709551616 by omega),xc (show y*4294967296<18446744073709551616 by omega),Nat.zero_or,Nat.or_comm,Qlr h2];congr 2;omega;rw[oh h];have:=Qp2 (v:=val a) om;rw[oi om]
theorem Qa5{x y c:Nat}(d:x<4294967296)(hy:y<4294967296)(a:c<4294967296):
 Vd x y c=some ((x+y+c)%4294967296,(x+y+c) / 4294967296):=by
 unfold Vd;simp only[jn_eq,bifd];split<;>split<;>congr 1<;>refine Prod.ext ?_ ?_<;>simp only[]<;>omega
theorem Qdw{x y c:Nat}(e:x<4294967296)(hy:y<4294967296)(a:c<=1):
 ∃ d b,Y1 x y c=some (d,b)/\d<4294967296/\b<=1/\d+y+c=x+4294967296*b:=by
 unfold Y1;simp only[jn_eq,bifd,sbind];split<;>split<;>refine⟨_,_,rfl,?_,?_,?_⟩<;>omega
theorem Qsf(P s x y u v V A C:Nat)(e:4294967296*u+v=x+y+s)(h:V+P*s=A+C):V+P*v+P*4294967296*u=A+P*x+(C+P*y):=by grind
theorem Qp3{k:Nat}{b:List Nat}{β:Type}(f:Nat->Option β):(if (k:Int)<(b.length:Int) then (getI b (k:Int)).bind f else f 0)=f (b.getD k 0):=by by_cases h:k<b.length;rw[oi om,Qba h,sbind];simp[h];rw[oh om];simp[ol (show b.length<=k by omega)]
theorem Qp4{n:Nat}{a b:List Nat}(hn:big<=n)(w:a.length<17592186044416)(v:b.length<=a.length)(q:Wd a)(k:Wd b):Y2 n a b=some (toL (val a+val b)):=by
 unfold Y2;simp only[jn_eq,bifd];rw[oh om];rw[show(1:Int)=((1:Nat):Int) by rfl,Qc2 om,sbind];refine Qcm (λj (s:List Nat×Nat)=>∃ f,s.1=f++(List.drop j a++[0])/\f.length=j/\j<=a.length/\Wd f/\s.2<=1/\val f+bp j*s.2=val (a.take j)+val (b.take j)) ⟨[],oa,rfl,xk _,K0,oa,by simp[val,Xr]⟩ ?_ ?_;rintro j y ⟨o,l⟩ t ⟨f,g,e,u,m,p,i⟩;simp only at g p i;subst g;have d:j<a.length:=by
  rcases xn j a.length with h | h;exact h;simp[ol h] at t
 have hy:a[j]=y:=by simpa [d] using t
 have r:y<4294967296:=by rw[<-hy];exact Wz q d
 rw[Qp3,Qa5 r (Qlt k j) (by simp only[];omega),sbind,xi d,xp,J1 e,sbind,Vv e];refine⟨_,rfl,f++[(y+b.getD j 0+l)%4294967296],oa,by simp[e],om,Q4.2 ⟨m,Q8.2 ⟨om,K0⟩⟩,?_,?_⟩;have:=Qlt k j;simp only[];omega;rw[Vs,Vs,Jq,e,Km];rw[show a.getD j 0=y by rw[<-hy];simp[d]];exact Qsf _ _ _ _ _ _ _ _ _ (uz (y+b.getD j 0+l) 4294967296) i;rintro⟨o,l⟩ ⟨f,g,e,u,m,p,i⟩;simp only at g p i;subst g;simp only[J7];rw[xe (ot _),yr,J1 e,sbind,Vv e,J9 hn oe,sbind,<-Q9 (Q4.2 ⟨m,Q8.2 ⟨om,K0⟩⟩),Jq,e,i,xr (ot _),xr v]
theorem Qgr{n:Nat}{a b:List Nat}(hn:big<=n)(f:a.length<17592186044416)(g:b.length<17592186044416)(d:Wd a)(e:Wd b):Y2 n a b=some (toL (val a+val b)):=by by_cases i:b.length<=a.length;exact Qp4 hn f i d e;rw[Nat.add_comm,<-Qp4 hn g om e d];unfold Y2;simp only[jn_eq,bifd];rw[oi om,oh om]
theorem Qow{n:Nat}{a b:List Nat}(hn:big<=n)(i:a.length<17592186044410)(j:b.length<17592186044410)(d:Wd a)(e:Wd b):Z9 n [a,b]=some (toL (val a+val b)):=by unfold Z9;have f:=Qgr (a:=[]) (b:=toL (val a)) hn oa (by have:=Vn a;rw[Q9 d];omega) K0 (Q0 _);have g:=Qgr (a:=toL (val a)) (b:=toL (val b)) hn (by have:=Vn a;rw[Q9 d];omega) (by have:=Vn b;rw[Q9 e];omega) (Q0 _) (Q0 _);rw[Qr] at f g;rw[Qr] at g;simp only[val,xm] at f;simp only[rangeL,J9 hn (show a.length<=4611686018427387904 by omega),J9 hn (show b.length<=4611686018427387904 by omega),sbind,<-Q9 d,<-Q9 e,f,g,J7]
theorem Qan{α:Type}{l:List α}{i:Nat}{x:α}(h:l[i]?=some x):i<l.length:=by rcases xn i l.length with a | a;exact a;rw[ol a] at h;cases h
theorem K2{x y:Nat}(h:x<=y):(toL x).length<=(toL y).length:=by refine X3 ?_;have:=K9 (Q0 y);rw[Qr] at this;omega
theorem Qtd(P c a x y d V A B:Nat)(e:d+y+c=x+4294967296*a)(h:V+B=A+P*c):V+P*d+(B+P*y)=A+P*x+P*4294967296*a:=by grind
theorem Qhr{n:Nat}{a b:List Nat}(hn:big<=n)(J:a.length<17592186044416)(K:b.length<17592186044416)(m:Wd a)(q:Wd b):
 Qdd n a b=some (if val a<val b then ([],false) else (toL (val a - val b),true)):=by
 unfold Qdd;have L:(toL (val a)).length<17592186044416:=by rw[Q9 m];exact xu (Vn a) J
 have M:(toL (val b)).length<17592186044416:=by rw[Q9 q];exact xu (Vn b) K
 rw[J9 hn om,sbind,J9 hn om,sbind,<-Q9 m,<-Q9 q,Qaf hn om om (Q0 _) (Q0 _),sbind,Qr,Qr];have B:=Qr (val a);have C:=Qr (val b);have p:=Q0 (val a);have r:=Q0 (val b);have A:=λh=>K2 (x:=val b) (y:=val a) h;generalize val a=x at *;generalize val b=y at *;generalize toL x=a' at *;generalize toL y=b' at *;rw[bifd];by_cases f:x<y;rw[oi (by rw[cmpI,oi f];decide),oi f];rw[oh (by rw[cmpI,oh f];split<;>decide),oh f];have A:=A om;simp only[jn_eq,bifd];rw[show(0:Int)=((0:Nat):Int) by rfl,Qc2 om,sbind];refine Qcm (λj (s:List Nat×Nat)=>∃ g,s.1=g++List.drop j a'/\g.length=j/\j<=a'.length/\Wd g/\s.2<=1/\val g+val (b'.take j)=val (a'.take j)+bp j*s.2) ⟨[],oa,rfl,xk _,K0,oa,by simp[val]⟩ ?_ ?_;rintro j w ⟨o,t⟩ F ⟨g,l,i,H,u,v,k⟩;simp only at l v k;subst l;have e:j<a'.length:=Qan F;have hy:a'[j]=w:=by simpa [e] using F
 have E:w<4294967296:=by rw[<-hy];exact Wz p e
 obtain⟨d,N,g1,G,g3,g4⟩:=Qdw E (Qlt r j) v;rw[Qp3,g1,sbind,xi e,J1 i,sbind,Vv i];refine⟨_,rfl,g++[d],oa,by simp[i],om,Q4.2 ⟨u,Q8.2 ⟨G,K0⟩⟩,g3,?_⟩;rw[Vs,Vs,Jq,i,Km];rw[show a'.getD j 0=w by rw[<-hy];simp[e]];exact Qtd _ _ _ _ _ _ _ _ _ g4 k;rintro⟨o,t⟩ ⟨g,l,i,H,u,v,k⟩;simp only at l v k;subst l;simp only[J7];rw[xr (ot _),xr A,B,C] at k;rw[xe (ot _),vu,J9 hn om,sbind,<-Q9 u];have I:t=0:=by
  have g1:=K9 u;rw[i] at g1;rcases Nat.eq_zero_or_pos t with h | h;exact h;have O:bp a'.length*1<=bp a'.length*t:=yq _ h;omega
 subst I;rw[uv] at k;congr 3;omega
theorem Qox{n:Nat}{a b:List Nat}(hn:big<=n)(f:a.length<17592186044416)(g:b.length<17592186044416)(d:Wd a)(e:Wd b):
 Qde n a b=some (toL (val a - val b+(val b - val a)),cmpI (val a) (val b)):=by
 unfold Qde;rw[Qaf hn om om d e,sbind];simp only[jn_eq,bifd];by_cases h:val a<val b;rw[oi (by rw[cmpI,oi h];decide),Qhr hn g f e d,oh om,sbind];rw[show val a - val b+(val b - val a)=val b - val a by omega];rw[oh (by rw[cmpI,oh h];split<;>decide),Qhr hn f g d e,oh h,sbind];rw[show val a - val b+(val b - val a)=val a - val b by omega]
def blen(x:Nat):Nat:=if x=0 then 0 else Nat.log2 x+1
theorem Qbo:blen 0=0:=by unfold blen;rw[oi rfl]
theorem Qp5{x k:Nat}(a:2 ^ k<=x)(d:x<2 ^ (k+1)):blen x=k+1:=by
 have h0:x≠0:=by have:=ua k;omega
 unfold blen;rw[oh h0,(Nat.log2_eq_iff h0).2 ⟨a,d⟩]
theorem Qlu{x:Nat}:x<2 ^ blen x:=by unfold blen;by_cases h0:x=0;rw[oi h0,h0];decide;rw[oh h0];exact Nat.lt_log2_self
theorem Qec{x:Nat}(h0:x≠0):2 ^ (blen x - 1)<=x:=by unfold blen;rw[oh h0];exact Nat.log2_self_le h0
theorem Qjp{x:Nat}(h0:x≠0):1<=blen x:=by unfold blen;rw[oh h0];omega
theorem Qoy{x w:Nat}(h:x / 2 ^ w≠0):blen x=blen (x / 2 ^ w)+w:=by
 have a:=Qec h;have d:=Qlu (x:=x / 2 ^ w);have e:=Qjp h;obtain⟨k,hk⟩:∃ k,blen (x / 2 ^ w)=k+1:=⟨_,(Nat.sub_add_cancel e).symm⟩
 rw[hk,Nat.add_sub_cancel] at a;rw[hk] at d |-;rw[show k+1+w=(k+w)+1 by omega];refine Qp5 ?_ ?_;rw[vg];exact(Nat.le_div_iff_mul_le (ua w)).1 a;rw[show k+w+1=(k+1)+w by omega,vg];exact(vv (ua w)).1 d
theorem Qgs{n x:Nat}(hn:big<=n)(m:x<4294967296):Qai n x=some (blen x:Int):=by
 unfold Qai;unfold big at hn
 refine Qae (λs=>s.2.2.toNat) (λs=>∃(w k B:Nat),s.2.2=w/\s.2.1=k/\(w,B)∈[(16,4294967296),(8,65536),(4,256),(2,16),(1,4),(0,2)]/\s.1<B/\k+2*w<=32/\blen x=k+blen s.1)
  (λt=>∃ k:Nat,t.2=k/\k<=32/\t.1<2/\blen x=k+blen t.1) ⟨16,0,4294967296,rfl,rfl,oy,m,oy,oa⟩ (by simp only[];omega) ?_ ?_
 rintro⟨y,c,w'⟩ ⟨w,k,B,d,i,e,a,p,f⟩;simp only at d i a f;subst d i;simp only[jn_eq,bifd,bifnd];by_cases h0:0<w;left;rw[oi om,grd_t oa,sbind,sbind,ui];have q:w<=16:=om
 have hd:Int.tdiv (w:Int) 2=((w / 2:Nat):Int):=oz
 rw[hd,xv om,w64 (x:=((w / 2:Nat):Int)) om om,w64 om om];have l:∃ B',(w / 2,B')∈[(16,4294967296),(8,65536),(4,256),(2,16),(1,4),(0,2)]/\B'*2 ^ w=B/\(2 ^ w<=B'):=by simp only[yh,List.not_mem_nil,or_false,Prod.mk.injEq] at e;rcases e with ⟨rfl,rfl⟩ | ⟨rfl,rfl⟩ | ⟨rfl,rfl⟩ | ⟨rfl,rfl⟩ | ⟨rfl,rfl⟩ | ⟨rfl,rfl⟩;exact⟨65536,oy,oy,oy⟩;exact⟨256,oy,oy,oy⟩;exact⟨16,oy,oy,oy⟩;exact⟨4,oy,oy,oy⟩;exact⟨2,oy,oy,oy⟩;omega
 obtain⟨B',g1,j,g3⟩:=l;by_cases g:y / 2 ^ w=0;rw[oi g];refine⟨_,rfl,⟨w / 2,k,B',rfl,rfl,g1,?_,om,f⟩,by simp only[];omega⟩;have:=(Nat.div_eq_zero_iff_lt (ua w)).1 g;exact xx this g3;rw[oh g];refine⟨_,rfl,⟨w / 2,k+w,B',rfl,by simp only[];omega,g1,?_,om,?_⟩,by simp only[];omega⟩;rw[<-j] at a;exact(vv (ua w)).2 a;rw[f,Qoy g];simp only[];omega;right;obtain rfl:w=0:=om
 rw[oh om];simp only[yh,List.not_mem_nil,or_false,Prod.mk.injEq] at e;refine⟨_,rfl,k,rfl,om,by simp only[];omega,f⟩;rintro⟨y,c⟩ ⟨k,d,i,e,a⟩;simp only at d e a;subst d;rw[a,w64 (by simp only[];omega) (by simp only[];omega)];have:blen y=y:=by
  have:y=0\/y=1:=om
  rcases this with rfl | rfl;rw[Qbo];exact Qp5 (k:=0) oy oy
 rw[this];simp
theorem Qft(k:Nat):bp k=2 ^ (32*k):=by unfold bp;rw[Nat.pow_mul]
theorem Qjq{v:Nat}(h:toL v≠[]):∃ p x,toL v=p++[x]/\x≠0/\x<4294967296/\Wd p:=by have a:=Q0 v;rcases List.eq_nil_or_concat (toL v) with h0 | ⟨p,x,h1⟩;exact absurd h0 h;rw[List.concat_eq_append] at h1;refine⟨p,x,h1,?_,?_,?_⟩;rintro rfl;have d:=Qsc v;rw[h1,Qi9] at d;have:=Vn p;rw[d] at this;simp at this;omega;rw[h1] at a;exact(Q8.1 (Q4.1 a).2).1;rw[h1] at a;exact(Q4.1 a).1
theorem Qsg{p:List Nat}{x:Nat}(d:Wd p)(e:x≠0):blen (val (p++[x]))=32*p.length+blen x:=by
 have a:=K9 d;have hd:val (p++[x]) / 2 ^ (32*p.length)=x:=by rw[<-Qft,Jq,Nat.add_mul_div_left _ _ (Qsa _),vp a,xm]
 rw[Qoy (w:=32*p.length) (by rw[hd];exact e),hd,Nat.add_comm]
theorem Qgt{n:Nat}{a:List Nat}(hn:big<=n)(m:a.length<17592186044416)(e:Wd a):X0 n a=some (blen (val a):Int):=by
 unfold X0;rw[Jv hn om,sbind,<-Q9 e,bifd];have g:(toL (val a)).length<17592186044416:=by rw[Q9 e];exact xu (Vn a) m
 by_cases h:toL (val a)=[]
 rw[oi (by rw[h];rfl)];rw[Q9 e] at h;rw[Qmp h,Qbo];rfl;rw[oh (by intro q;exact h (oq om))];obtain⟨p,x,d,f,k,l⟩:=Qjq h;have i:val a=val (p++[x]):=by rw[<-d,Qr]
 rw[i,Qsg l f];rw[i] at d g;rw[d] at g;rw[d,xl,vw] at *;rw[w64 (x:=((p.length+1:Nat):Int) - 1) om om,show((p.length+1:Nat):Int) - 1=(p.length:Nat) by omega,J1 rfl,sbind,Qgs hn k,sbind,sbind];have r:blen x<=32:=by rcases xn 32 (blen x) with h | h;have g1:=Qec f;have j:2 ^ 32<=2 ^ (blen x - 1):=yg oy om;rw[show(2:Nat) ^ 32=4294967296 by decide] at j;omega;exact h
 rw[w64 (x:=32*(p.length:Int)) om om,w64 om om];congr 1
theorem Qsh(P M R x A B m V:Nat)(a:V=M+P*m)(d:R=m+x*A+0)(e:V=A*B):M+P*R=A*(B+P*x):=by grind
theorem Xs{n:Nat}{a b:List Nat}(hn:big<=n)(E:a.length<8796093022208)(F:b.length<8796093022208)(l:Wd a)(t:Wd b):Vp n a b=some (toL (val a*val b)):=by
 unfold Vp;rw[w64 (x:=(a.length:Int)+(b.length:Int)) om om,w64 om om,show((a.length:Int)+(b.length:Int))+1=((a.length+b.length+1:Nat):Int) by omega,Qdh om om,sbind];refine Qcm (λj (s:List Nat)=>∃ d,s=d++List.replicate (b.length+1 - j) 0/\d.length=j+a.length/\j<=b.length/\Wd d/\val d=val a*val (b.take j)) ⟨List.replicate a.length 0,by rw[List.replicate_append_replicate];congr 1,oa,xk _,Qkm om,by simp[val,Qgf]⟩ ?_ ?_
 . rintro j x o v ⟨d,i,y,A,g,k⟩
   subst i;have e:j<b.length:=Qan v;have w:b[j]=x:=by simpa [e] using v
   have u:x<4294967296:=by rw[<-w];exact Wz t e
   obtain⟨r,g1,C,g3,g4⟩:=Qnb (p:=d.take j) (m:=d.drop j) (q:=List.replicate (b.length - j) 0) (a:=a) (z:=0) (x:=x) (c:=0) oe oe (Qeb g) l u om;have f:(d.take j).length=j:=oe
   rw[f,ur] at g1;rw[show b.length+1 - j=(b.length - j)+1 by omega,uj,g1,sbind];refine⟨_,rfl,d.take j++r,by rw[show b.length+1 - (j+1)=b.length - j by omega],oe,om,Q4.2 ⟨Qfr g,g3⟩,?_⟩;have B:val d=val (d.take j)+bp j*val (d.drop j):=by
    conv=>lhs;rw[<-ur j d]
    rw[K1,f]
   rw[K1,f,Vs,show b.getD j 0=x by rw[<-w];simp[e]];exact Qsh _ _ _ _ _ _ _ _ B g4 k
 . rintro o ⟨d,i,y,A,g,k⟩
   subst i;simp only[J7];rw[Jv hn oe,sbind,<-Q9 (Q4.2 ⟨g,Qkm om⟩),K1,Qgf,uv,xa,k,xr (ot _)]
theorem lo_eq{x r:Nat}(a:r<=32):(x*2 ^ r)%4294967296=(x%2 ^ (32 - r))*2 ^ r:=by rw[show(4294967296:Nat)=2 ^ (32 - r)*2 ^ r by rw[<-vg,show 32 - r+r=32 by omega],Nat.mul_mod_mul_right]
theorem or_lo{c x r:Nat}(d:r<=32)(a:c<2 ^ r):c ||| (x*2 ^ r)%4294967296=c+(x*2 ^ r)%4294967296:=by rw[lo_eq d,Nat.or_comm,vb,<-Nat.two_pow_add_eq_or_of_lt a,Nat.add_comm]
theorem hi_lt{x r:Nat}(a:x<4294967296):(x*2 ^ r) / 4294967296<2 ^ r:=
 wx (Nat.mul_lt_mul_of_pos_right a (ua r))
theorem Qgg{r:Nat}(a:r<=32):2 ^ r<=4294967296:=by have h:2 ^ r<=2 ^ 32:=yg oy a;rwa [show(2:Nat) ^ 32=4294967296 by rfl] at h
theorem sh_lt{x r:Nat}(a:r<=32)(d:x<4294967296):x*2 ^ r<18446744073709551616:=by have h:=Qgg a;have:x*2 ^ r<=4294967295*4294967296:=yv om h;omega
theorem Qud(P c V A R x lo hi:Nat)(e:4294967296*hi+lo=x*R)(h:V+P*c=A*R):V+P*(c+lo)+P*4294967296*hi=(A+P*x)*R:=by grind
theorem Qhs{n k:Nat}{a:List Nat}(hn:big<=n)(J:a.length<8796093022208)(H:Wd a)(hk:k<=4096):Z6 n a (k:Int)=some (toL (val a*2 ^ k)):=by
 unfold Z6;rw[show min (max (k:Int) 0) 4096=(k:Int) by omega];rw[show Int.tdiv (k:Int) 32=((k / 32:Nat):Int) by rfl,show Int.tmod (k:Int) 32=((k%32:Nat):Int) by rfl];have G:2 ^ k=bp (k / 32)*2 ^ (k%32):=by rw[Qft,<-vg,uz]
 have I:k / 32<=128:=om
 have K:k%32<=31:=om
 rw[G];generalize k / 32=w at *;generalize k%32=r at *;rw[w64 (x:=(w:Int)) om om,sbind,w64 (x:=(w:Int)+(a.length:Int)) om om,w64 om om,show(w:Int)+(a.length:Int)+1=((w+a.length+1:Nat):Int) by omega,Qdh om om,sbind];refine Qcm (λj (s:List Nat)=>∃ e c,s=(List.replicate w 0++e)++c::List.replicate (a.length - j) 0/\e.length=j/\j<=a.length/\Wd e/\c<2 ^ r/\val e+bp j*c=val (a.take j)*2 ^ r) ⟨[],0,by rw[vu,<-uj,List.replicate_append_replicate];congr 1,rfl,xk _,K0,ua r,by simp[val]⟩ ?_ ?_;rintro j x s v ⟨e,c,p,m,F,q,u,t⟩;subst p;have g:j<a.length:=Qan v;have A:a[j]=x:=by simpa [g] using v
 have i:x<4294967296:=by rw[<-A];exact Wz H g
 have f:(List.replicate w 0++e).length=w+j:=oe
 have g1:=sh_lt (r:=r) om i;have E:=hi_lt (r:=r) i;have g3:=Qgg (r:=r) om;have g4:=or_lo (x:=x) (show r<=32 by omega) u;rw[grd_t oa,sbind,ui,xv om,xc g1,sbind,w64 (x:=(w:Int)+(j:Int)) om om,sbind,show(w:Int)+(j:Int)=((w+j:Nat):Int) by omega];rw[J1 f,sbind,sbind,sbind,Vv f,g4,show(2:Nat) ^ 32=4294967296 by rfl,xc (show x*2 ^ r / 4294967296<4294967296 by omega)];obtain⟨d,hd⟩:∃ d,a.length - j=d+1:=⟨a.length - j - 1,om⟩
 rw[w64 om om,show((w+j:Nat):Int)+1=((w+j+1:Nat):Int) by omega,hd,uj];rw[show ∀(y:Nat) (l:List Nat),List.replicate w 0++e++y::l=(List.replicate w 0++(e++[y]))++l by intro y l;simp];have hlen2:(List.replicate w 0++(e++[c+x*2 ^ r%4294967296])).length=w+j+1:=oe
 rw[J1 hlen2,sbind,Vv hlen2,sbind];refine⟨_,rfl,e++[c+x*2 ^ r%4294967296],x*2 ^ r / 4294967296,by rw[show a.length - (j+1)=d by omega],by simp[m],om,Q4.2 ⟨q,Q8.2 ⟨?_,K0⟩⟩,E,?_⟩;rw[lo_eq om];have B:x%2 ^ (32 - r)+1<=2 ^ (32 - r):=yw _ (ua _);have C:=xg (2 ^ r) B;rw[<-vg,show 32 - r+r=32 by omega,show(2:Nat) ^ 32=4294967296 by rfl,Nat.add_mul,Nat.one_mul] at C;omega;rw[Vs,Jq,m,Km,show a.getD j 0=x by rw[<-A];simp[g]];exact Qud _ _ _ _ _ _ _ _ (uz (x*2 ^ r) 4294967296) t;rintro s ⟨e,c,p,m,F,q,u,t⟩;subst p;simp only[J7];have g3:=Qgg (r:=r) om;rw[Jv hn oe,sbind,<-Q9 (Q4.2 ⟨Q4.2 ⟨Qkm om,q⟩,Q8.2 ⟨om,Qkm om⟩⟩)];rw[xf,K1,Qgf,yt,xm,K1];simp only[val];rw[Qgf,m,uv,xa,t,xr (ot _),Nat.mul_left_comm]
theorem Qht{a:List Nat}(e:Wd a)(k:Nat):val a / bp k=val (a.drop k):=by
 rcases xn k a.length with h | h
 . have f:val a=val (a.take k)+bp k*val (a.drop k):=by
    conv=>lhs;rw[<-ur k a]
    rw[K1,xt,xv om]
   have d:=K9 (Qfr (k:=k) e);rw[xt,xv om] at d;rw[f,Nat.add_mul_div_left _ _ (Qsa k),vp d,xm]
 . rw[xe h]
   exact vp (xx (K9 e) (bp_le h))
theorem Qsi{a:List Nat}{k:Nat}(h:k<a.length):val (a.drop k)=a[k]+4294967296*(a.getD (k+1) 0+4294967296*val (a.drop (k+2))):=by rw[xi h];simp only[val];by_cases d:k+1<a.length;rw[xi d];simp[val,d];rw[xe om,xe om];simp[ol (show a.length<=k+1 by omega),val]
theorem Qte{v z r:Nat}(a:r<=32):((v+4294967296*4294967296*z) / 2 ^ r)%4294967296=(v / 2 ^ r)%4294967296:=by
 rw[show 4294967296*4294967296*z=2 ^ r*(4294967296*(2 ^ (32 - r)*z)) by
  have:2 ^ r*2 ^ (32 - r)=4294967296:=by rw[<-vg,show r+(32 - r)=32 by omega]
  calc 4294967296*4294967296*z=(2 ^ r*2 ^ (32 - r))*4294967296*z:=by rw[this]
   _=_:=by grind]
 rw[Nat.add_mul_div_left _ _ (ua r),Nat.add_mul_mod_self_left]
theorem Qtf{k:Nat}{b:List Nat}{x:Nat}{β:Type}(f:Nat->Option β)(a:Wd b)(d:x<4294967296):(if ((k:Nat):Int)<(b.length:Int) then (getI b (k:Int)).bind (λy=>f (x ||| (y*2 ^ 32)%18446744073709551616)) else f x)=f (x+4294967296*b.getD k 0):=by by_cases h:k<b.length;rw[oi om,Qba h,sbind];have hy:=Wz a h;rw[show(2:Nat) ^ 32=4294967296 by rfl,xc om,Nat.or_comm,Qlr d,vb,Nat.add_comm];simp[h];rw[oh om];simp[ol (show b.length<=k by omega)]
theorem Qtg(X P:Nat):X%P+P*(X / P%4294967296)=X%(P*4294967296):=by rw[Nat.mod_mul]
theorem Qlv{n k:Nat}{a:List Nat}(hn:big<=n)(B:a.length<8796093022208)(i:Wd a)(hk:k<=4611686018427387904):Qav n a (k:Int)=some (toL (val a / 2 ^ k)):=by
 unfold Qav;rw[show max (k:Int) 0=(k:Int) by omega];rw[show Int.tdiv (k:Int) 32=((k / 32:Nat):Int) by rfl,show Int.tmod (k:Int) 32=((k%32:Nat):Int) by rfl];have y:2 ^ k=bp (k / 32)*2 ^ (k%32):=by rw[Qft,<-vg,uz]
 have C:k%32<=31:=om
 have A:k / 32<=4611686018427387904:=om
 rw[y];generalize k / 32=w at *;generalize k%32=r at *;rw[<-Nat.div_div_eq_div_mul,Qht i];rw[w64 (x:=(w:Int)) om om,sbind,bifd];by_cases q:a.length<=w;rw[oi om,xe q];simp[val,Jy];rw[oh om,w64 (x:=(a.length:Int) - (w:Int)) om om,sbind,show(a.length:Int) - (w:Int)=((a.length - w:Nat):Int) by omega,Qdh om om,sbind];refine Qcm (λj (s:List Nat)=>∃ e,s=e++List.replicate (a.length - w - j) 0/\e.length=j/\Wd e/\val e=(val (a.drop w) / 2 ^ r)%bp j) ⟨[],oa,rfl,K0,by simp[val,Xr,Nat.mod_one]⟩ ?_ ?_;rintro j x s t ⟨e,m,g,p,l⟩;subst m;have u:j<a.length - w:=by have:=Qan t;simpa using this
 have f:w+j<a.length:=om
 simp only[jn_eq,bifd];rw[w64 (x:=(w:Int)+(j:Int)) om om,show(w:Int)+(j:Int)=((w+j:Nat):Int) by omega,sbind,Qba f,sbind,sbind,w64 (x:=((w+j:Nat):Int)+1) om om,show((w+j:Nat):Int)+1=((w+j+1:Nat):Int) by omega];simp only[sbind];rw[w64 (x:=((w+j:Nat):Int)+1) om om,show((w+j:Nat):Int)+1=((w+j+1:Nat):Int) by omega];rw[Qtf (β:=Lp (List Nat) (List Nat)) (λ(v:Nat)=>(grd (decide (0<=(r:Int)))).bind λ_=>(getI (e++List.replicate (a.length - w - j) 0) (j:Int)).bind λ_=>some (Lp.go (List.set (e++List.replicate (a.length - w - j) 0) (Int.toNat (j:Int)) (v / 2 ^ (min (Int.toNat (r:Int)) 64)%4294967296)))) i (Wz i f)];rw[grd_t oa,sbind,ui (n:=r),xv om];obtain⟨d,hd⟩:∃ d,a.length - w - j=d+1:=⟨a.length - w - j - 1,om⟩
 rw[hd,uj,J1 g,sbind,Vv g];refine⟨_,rfl,e++[(a[w+j]+4294967296*a.getD (w+j+1) 0) / 2 ^ r%4294967296],by rw[show a.length - w - (j+1)=d by omega];simp,by simp[g],Q4.2 ⟨p,Q8.2 ⟨om,K0⟩⟩,?_⟩;rw[Jq,g,Km,<-Qtg,l,Nat.div_div_eq_div_mul (val (a.drop w)),vb (2 ^ r) (bp j),<-Nat.div_div_eq_div_mul (val (a.drop w)),Qht (Qeb i),List.drop_drop,Qsi f,vh,<-Nat.add_assoc,<-Nat.mul_assoc,Qte om];rintro s ⟨e,m,g,p,l⟩;subst m;simp only[J7];rw[yt] at g l;rw[yt,Nat.sub_self,List.replicate_zero,vu,Jv hn om,sbind,<-Q9 p,l,xc];have:=K9 (Qeb (k:=w) i);rw[ug] at this;exact xu (vt _ _) this
theorem Qp6{q r a d x2 e x4:Nat}(f:q*e+r=a*4294967296+d)(g:q*x4<=r*4294967296+x2):q*(e*4294967296+x4)<=(a*4294967296+d)*4294967296+x2:=by rw[<-f];grind
theorem Que{q r a d x2 e x4:Nat}(f:(q+1)*e+r=a*4294967296+d)(g:r*4294967296+x2<(q+1)*x4):(a*4294967296+d)*4294967296+x2<(q+1)*(e*4294967296+x4):=by rw[<-f];grind
theorem Quf{q r a:Nat}{U:Nat}(d:(q+1)*a+r=U):q*a+(r+a)=U:=by rw[<-d];grind
theorem Qp7{q r a d x2 e x4:Nat}(f:q*e+r=a*4294967296+d)(k:4294967296<=r)(j:q<4294967296)(i:x4<4294967296):q*(e*4294967296+x4)<=(a*4294967296+d)*4294967296+x2:=by have g:q*x4<=4294967295*4294967295:=yv om om;exact Qp6 f om
theorem Qv3{X u w x2:Nat}(h:X<u)(a:x2<4294967296):X*4294967296+x2<u*4294967296+w:=om
theorem Qv4{q d e x2 a x4:Nat}(h:d*4294967296+e<(q+1)*a)(g:x2<4294967296):(d*4294967296+e)*4294967296+x2<(q+1)*(a*4294967296+x4):=by
 have f:(q+1)*(a*4294967296+x4)=((q+1)*a)*4294967296+(q+1)*x4:=by rw[vh,Nat.mul_assoc]
 rw[f];exact Qv3 h g
theorem Qko{n m r0 f g x2 e x4:Nat}(hn:big<=n)(H:x2<4294967296)(B:e<4294967296)(y:x4<4294967296)(E:m<4294967296)(F:r0<4294967296)
 (C:m*e+r0=f*4294967296+g) (hm:m+1=4294967296\/(f*4294967296+g)*4294967296+x2<(m+1)*(e*4294967296+x4)) :
 ∃ q,(loopM (λ(d:Nat×Nat)=>
   (W1 d.1 x4 0 0).bind λj=>
   jn (λ(i:(Bool)->Option _)=>
    bif decide (j.1<d.2) then (
     i true)
    else (
     bif decide (j.1=d.2) then (
      i (decide (j.2<=x2)))
     else (
      i false))) (λ(u:Bool)=>
    bif u then (
     some (Lp.out d.1))
    else (
     (Vd d.2 e 0).bind λa=>
     bif decide (0<a.2) then (
      some (Lp.out ((d.1+4294967296 - 1)%4294967296)))
     else (
      some (Lp.go (((d.1+4294967296 - 1)%4294967296),a.1)))))) n (m,r0)).bind (λ(v:Nat)=>some v)=some q /\
   (q<4294967296/\q*(e*4294967296+x4)<=(f*4294967296+g)*4294967296+x2/\(q+1=4294967296\/(f*4294967296+g)*4294967296+x2<(q+1)*(e*4294967296+x4))):=by
 unfold big at hn
 refine Qkl (λs=>s.1) (λs=>s.1<4294967296/\s.2<4294967296/\s.1*e+s.2=f*4294967296+g/\(s.1+1=4294967296\/(f*4294967296+g)*4294967296+x2<(s.1+1)*(e*4294967296+x4)))
  (λq=>q<4294967296/\q*(e*4294967296+x4)<=(f*4294967296+g)*4294967296+x2/\(q+1=4294967296\/(f*4294967296+g)*4294967296+x2<(q+1)*(e*4294967296+x4))) ⟨E,F,C,hm⟩ (by simp only[];omega) ?_ (λt G=>⟨t,rfl,G⟩)
 rintro⟨q,r⟩ ⟨g1,x,g3,g4⟩;simp only at g1 x g3 g4;simp only[jn_eq,bifd];rw[Qdv g1 y om om,sbind];simp only[xa]
 have key:(bif decide (q*x4<=r*4294967296+x2) then some (Lp.out q) else
  (Vd r e 0).bind λa=>if 0<a.2 then some (Lp.out ((q+4294967296 - 1)%4294967296)) else some (Lp.go ((q+4294967296 - 1)%4294967296,a.1)):Option (Lp (Nat×Nat) Nat)) =
  (if q*x4 / 4294967296<r then bif true then some (Lp.out q) else
   (Vd r e 0).bind λa=>if 0<a.2 then some (Lp.out ((q+4294967296 - 1)%4294967296)) else some (Lp.go ((q+4294967296 - 1)%4294967296,a.1))
   else if q*x4 / 4294967296=r then if q*x4%4294967296<=x2 then some (Lp.out q) else
    (Vd r e 0).bind λa=>if 0<a.2 then some (Lp.out ((q+4294967296 - 1)%4294967296)) else some (Lp.go ((q+4294967296 - 1)%4294967296,a.1))
   else bif false then some (Lp.out q) else
    (Vd r e 0).bind λa=>if 0<a.2 then some (Lp.out ((q+4294967296 - 1)%4294967296)) else some (Lp.go ((q+4294967296 - 1)%4294967296,a.1))):=by
  have hd:=uz (q*x4) 4294967296;have hm:=yw (q*x4) (show 4294967296 > 0 by decide);by_cases c1:q*x4 / 4294967296<r;rw[oi c1,ou om];rw[oh c1];by_cases w:q*x4 / 4294967296=r;rw[oi w,<-bifd];congr 1;exact decide_eq_decide.2 om;rw[oh w,oo om]
 rw[<-key,bifd];by_cases hs:q*x4<=r*4294967296+x2;right;rw[oi hs];exact⟨q,rfl,g1,Qp6 g3 hs,g4⟩;rw[oh hs,Qa5 x B om,sbind]
 obtain⟨q',rfl⟩:∃ q',q=q'+1:=⟨q - 1,by
  have:q≠0:=by rintro rfl;simp at hs
  omega⟩
 have p:(q'+1+4294967296 - 1)%4294967296=q':=om
 have l:=Que (x2:=x2) (x4:=x4) g3 om;have k:=Quf g3;simp only[xa];rw[p];by_cases A:0<(r+e) / 4294967296;right;rw[oi A];exact⟨q',rfl,om,Qp7 k om om y,.inr l⟩;left;rw[oh A];refine⟨_,rfl,⟨by simp only[];omega,by simp only[];omega,?_,.inr l⟩,by simp only[];omega⟩;simp only[];rw[xc om];exact k
theorem Qkp{n a e x2 d x4:Nat}(hn:big<=n)(h0:a<=d)(k:e<4294967296)(g:x2<4294967296)(f:d<4294967296)(i:x4<4294967296)(s:d≠0):
 ∃ q,Yj n a e x2 d x4=some q/\(q<4294967296/\q*(d*4294967296+x4)<=(a*4294967296+e)*4294967296+x2/\(q+1=4294967296\/(a*4294967296+e)*4294967296+x2<(q+1)*(d*4294967296+x4))):=by
 unfold Yj;by_cases j:a<d;rw[Qgq j k f,sbind]
 have p:(a*4294967296+e) / d<4294967296:=wx (by
  have:a*4294967296+4294967296<=d*4294967296:=om
  omega)
 have r:(a*4294967296+e)%d<d:=yw _ om;exact Qko hn g f i p (Nat.lt_trans r f) (by rw[vb];exact uz _ _) (.inr (Qv4 ((vv om).1 (Nat.lt_succ_self _)) g));obtain rfl:a=d:=om
 rw[show Xx a e a=some (0,0,false) by unfold Xx;rw[bifd,oi om],sbind];rw[jn_eq];simp only[xw,bifT];rw[Qa5 k f om,sbind,jn_eq,bifd,oh om];simp only[xa];rw[bifd];have l:4294967295*a+(e+a)=a*4294967296+e:=om
 by_cases m:0<(e+a) / 4294967296;rw[oi m];exact⟨_,rfl,om,Qp7 l om om i,.inl rfl⟩;rw[oh m,xc om];exact Qko hn g f i om om l (.inl rfl)
theorem Qmq(P M c b d lo hi a q y u V W:Nat)(e:4294967296*hi+lo=q*y+c)(f:d+lo+b=u+4294967296*a)(h:W+q*V=M+P*(c+b)):W+P*d+q*(V+P*y)=M+P*u+P*4294967296*(hi+a):=by
 have g:P*d+P*lo+P*b=P*u+P*4294967296*a:=by rw[<-vh,<-vh,f];grind
 have i:P*4294967296*hi+P*lo=P*(q*y)+P*c:=by rw[<-vh,<-e];grind
 grind
theorem Qlw{p m q' v:List Nat}{z q:Nat}(hm:m.length=v.length)(L:p.length+m.length+1+q'.length<=4611686018427387904)(F:Wd m)(G:Wd v)(K:z<4294967296)(J:q<4294967296):
 ∃ r b,W8 (p++m++z::q') (p.length:Int) v q=some (decide (0<b),p++r++q')/\r.length=v.length+1/\Wd r/\b<=1/\val r+q*val v=val (m++[z])+bp (v.length+1)*b:=by
 have key:∃ R,W8 (p++m++z::q') (p.length:Int) v q=some R/\∃ r b,R=(decide (0<b),p++r++q')/\r.length=v.length+1/\Wd r/\b<=1/\val r+q*val v=val (m++[z])+bp (v.length+1)*b:=by
  unfold W8;refine Qfi (λj (s:List Nat×Nat×Nat)=>∃ e,s.1=p++e++(m.drop j++z::q')/\e.length=j/\j<=v.length/\Wd e/\s.2.1<4294967296/\s.2.2<=1/\val e+q*val (v.take j)=val (m.take j)+bp j*(s.2.1+s.2.2)) ⟨[],oa,rfl,xk _,K0,oa,oa,by simp[val]⟩ ?_ ?_;rintro j y ⟨o,c,b⟩ H ⟨e,f,g,B,C,l,t,n⟩;simp only at f l t n;subst f;have i:j<v.length:=Qan H;have hy:v[j]=y:=by simpa [i] using H
  have u:y<4294967296:=by rw[<-hy];exact Wz G i
  have k:j<m.length:=om
  have E:=Wz F k;have a:(p++e).length=p.length+j:=oe
  have I:=Qjo J u l (show 0<4294967296 by omega);obtain⟨d,w,g1,A,g3,g4⟩:=Qdw (x:=m[j]) (y:=(q*y+c+0)%4294967296) (c:=b) E om t;rw[Qdv J u l om,sbind,w64 om om,show((p.length:Int)+(j:Int))=((p.length+j:Nat):Int) by omega,xi k,xp];simp only[];rw[J1 a,sbind,g1,sbind,sbind,Vv a];refine⟨_,rfl,e++[d],oa,by simp[g],om,Q4.2 ⟨C,Q8.2 ⟨A,K0⟩⟩,by simp only[];omega,g3,?_⟩;simp only[];rw[Vs,Vb k,Jq,Jq,g,Km,show v.getD j 0=y by rw[<-hy];simp[i],xt,xv om];exact Qmq _ _ _ _ _ _ _ _ _ _ _ _ _ (uz (q*y+c) 4294967296) g4 n;rintro⟨o,c,b⟩ ⟨e,f,g,B,C,l,t,n⟩;simp only at f l t n;subst f;simp only[J7];have a:(p++e).length=p.length+v.length:=oe
  obtain⟨d,w,g1,A,g3,g4⟩:=Qdw (x:=z) (y:=c) (c:=b) K l t;rw[w64 om om,show((p.length:Int)+(v.length:Int))=((p.length+v.length:Nat):Int) by omega,xe om,yr,J1 a,sbind,g1,sbind,sbind,Vv a];refine⟨_,rfl,e++[d],w,oa,by simp[g],Q4.2 ⟨C,Q8.2 ⟨A,K0⟩⟩,g3,?_⟩;rw[xr (ot _),xr om] at n;rw[Jq,Jq,g,hm,Km];have:=Qmq (bp v.length) (val m) c b d c 0 w q 0 z (val v) (val e) om g4 n
  simpa using this
 obtain⟨R,f,r,b,g,B⟩:=key;exact⟨r,b,by rw[f,g],B⟩
theorem Qmr(P M c d a y u V W:Nat)(e:4294967296*a+d=u+y+c)(h:W+P*c=M+V):W+P*d+P*4294967296*a=M+P*u+(V+P*y):=by grind
theorem Qlx{p m q' v:List Nat}{z:Nat}(hm:m.length=v.length)(B:p.length+m.length+1+q'.length<=4611686018427387904)(u:Wd m)(w:Wd v)(C:z<4294967296):
 ∃ r b,X7 (p++m++z::q') (p.length:Int) v=some (p++r++q')/\r.length=v.length+1/\Wd r/\b<=1/\val r+bp (v.length+1)*b=val (m++[z])+val v:=by
 have key:∃ R,X7 (p++m++z::q') (p.length:Int) v=some R/\∃ r b,R=p++r++q'/\r.length=v.length+1/\Wd r/\b<=1/\val r+bp (v.length+1)*b=val (m++[z])+val v:=by
  unfold X7;refine Qfi (λj (s:List Nat×Nat)=>∃ d,s.1=p++d++(m.drop j++z::q')/\d.length=j/\j<=v.length/\Wd d/\s.2<=1/\val d+bp j*s.2=val (m.take j)+val (v.take j)) ⟨[],oa,rfl,xk _,K0,oa,by simp[val]⟩ ?_ ?_;rintro j y ⟨o,c⟩ A ⟨d,e,f,l,n,q,k⟩;simp only at e q k;subst e;have g:j<v.length:=Qan A;have hy:v[j]=y:=by simpa [g] using A
  have x:y<4294967296:=by rw[<-hy];exact Wz w g
  have i:j<m.length:=om
  have t:=Wz u i;have a:(p++d).length=p.length+j:=oe
  rw[w64 om om,show((p.length:Int)+(j:Int))=((p.length+j:Nat):Int) by omega,xi i,xp];rw[J1 a,sbind,Qa5 t x (by simp only[];omega),sbind,sbind,Vv a];refine⟨_,rfl,d++[(m[j]+y+c)%4294967296],oa,by simp[f],om,Q4.2 ⟨n,Q8.2 ⟨om,K0⟩⟩,by simp only[];omega,?_⟩;simp only[];rw[Vs,Vs,Jq,f,Km,show v.getD j 0=y by rw[<-hy];simp[g],show m.getD j 0=m[j] by simp[i]];exact Qmr _ _ _ _ _ _ _ _ _ (uz (m[j]+y+c) 4294967296) k;rintro⟨o,c⟩ ⟨d,e,f,l,n,q,k⟩;simp only at e q k;subst e;simp only[J7];have a:(p++d).length=p.length+v.length:=oe
  rw[w64 om om,show((p.length:Int)+(v.length:Int))=((p.length+v.length:Nat):Int) by omega,xe om,yr,J1 a,sbind,sbind,Vv a,sbind];refine⟨_,rfl,d++[(z+c)%4294967296],(z+c) / 4294967296,oa,by simp[f],Q4.2 ⟨n,Q8.2 ⟨om,K0⟩⟩,om,?_⟩;rw[xr (ot _),xr om] at k;rw[Jq,Jq,f,hm,Km];have:=Qmr (bp v.length) (val m) c ((z+c)%4294967296) ((z+c) / 4294967296) 0 z (val v) (val d) om k
  simpa using this
 obtain⟨R,e,r,b,f,l⟩:=key;exact⟨r,b,by rw[e,f],l⟩
theorem kn_a{P vl a f d q e:Nat}(l:f<P)(n:q<4294967296)(m:q*(vl+P*a)<=f+P*d)(hm:e+1=4294967296\/d<(e+1)*a):q<=e:=by
 rcases hm with hm | hm;omega;have j:P*(q*a)<=q*(vl+P*a):=by rw[vh,Nat.mul_left_comm];exact Nat.le_add_left _ _
 have g:P*(q*a)<P*(d+1):=by rw[vh,Nat.mul_one];omega
 have k:q*a<d+1:=Nat.lt_of_mul_lt_mul_left g;have i:q*a<(e+1)*a:=om
 exact Nat.le_of_lt_succ (Nat.lt_of_mul_lt_mul_right i)
theorem kn_b{P vl a i e d:Nat}(k:vl<P)(m:d<4294967296)(l:4294967296<=a)(hm:d*a<=e):d*(vl+P*a)<=(i+P*e)+(vl+P*a):=by
 have f:d*(vl+P*a)=d*vl+P*(d*a):=by rw[vh,Nat.mul_left_comm]
 have j:P*(d*a)<=P*e:=yq _ hm;have g:d*vl<=a*P:=yv om om;rw[f];rw[vb a P] at g;omega
theorem kn_z{P vl v3 v4 e z a x2:Nat}(j:vl<P)(k:v4<4294967296)(l:e+P*((z*4294967296+a)*4294967296+x2)<4294967296*(vl+P*(v3*4294967296+v4))):z<=v3:=by
 have f:P*(z*4294967296*4294967296)<=P*((z*4294967296+a)*4294967296+x2):=yq _ om;have g:vl+P*(v3*4294967296+v4)<P*((v3+1)*4294967296):=by have:P*(v3*4294967296+v4+1)<=P*((v3+1)*4294967296):=yq _ om;rw[vh _ _ 1,Nat.mul_one] at this;omega
 have d:P*(z*4294967296*4294967296)<P*((v3+1)*4294967296*4294967296):=by have a1:P*((v3+1)*4294967296*4294967296)=P*((v3+1)*4294967296)*4294967296:=(Nat.mul_assoc _ _ _).symm;omega
 have i:=Nat.lt_of_mul_lt_mul_left d;omega
theorem dm_of{U V q r:Nat}(h:r+q*V=U)(a:r<V):U / V=q/\U%V=r:=by subst h;rw[Nat.add_mul_div_right _ _ om,vp a,Nat.add_mul_mod_self_right,xc a];omega
theorem last2{l:List Nat}{m:Nat}(h:l.length=m+2):∃ l' a b,l=l'++[a,b]/\l'.length=m:=by refine⟨l.take m,l[m],l[m+1],?_,oe⟩;have e:=Vb (a:=l) (k:=m) om;have d:=Vb (a:=l) (k:=m+1) om;rw[xr om] at d;refine d.trans ?_;rw[e,xf];rfl
theorem Qth(p y w a V U j:Nat)(q r:Nat)(d:U=y+4294967296*w)(h:r+q*V=U):(p+j*y)+j*4294967296*(w+V*a)=p+j*(r+V*(q+4294967296*a)):=by grind
theorem Qq7{n:Nat}{p w rest v:List Nat}{z:Nat}(hn:big<=n){vl t:List Nat}{v3 v4 u x2:Nat}(H:v=vl++[v4,v3])(I:w=t++[x2,u])(F:t.length=vl.length)
 (a:Wd v) (e:Wd w) (hz:z<4294967296) (h3:v3≠0) (hp:p.length+w.length+1+rest.length<=4611686018427387904) (l:val (w++[z])<4294967296*val v) :
 ∃ r d,Yj n z u x2 v3 v4=some d/\r.length=v.length+1/\Wd r/\val r=val (w++[z])%val v/\val (w++[z]) / val v<4294967296 /\
   ((W8 (p++w++z::rest) (p.length:Int) v d=some (false,p++r++rest)/\d=val (w++[z]) / val v) \/
    (∃ S,W8 (p++w++z::rest) (p.length:Int) v d=some (true,S)/\X7 S (p.length:Int) v=some (p++r++rest)/\(d+4294967296 - 1)%4294967296=val (w++[z]) / val v)):=by
 have J:w.length=v.length:=by rw[H,I];simp[F]
 have w1:Wd vl/\v4<4294967296/\v3<4294967296:=by rw[H] at a;exact⟨(Q4.1 a).1,(Q8.1 (Q4.1 a).2).1,(Q8.1 (Q8.1 (Q4.1 a).2).2).1⟩
 have M:Wd t/\x2<4294967296/\u<4294967296:=by rw[I] at e;exact⟨(Q4.1 e).1,(Q8.1 (Q4.1 e).2).1,(Q8.1 (Q8.1 (Q4.1 e).2).2).1⟩
 obtain⟨w1,Y,w4⟩:=w1;obtain⟨M,w5,w6⟩:=M;have B:val v=val vl+bp vl.length*(v3*4294967296+v4):=by rw[H,K1];simp only[val];congr 2;omega
 have C:val (w++[z])=val t+bp vl.length*((z*4294967296+u)*4294967296+x2):=by rw[I,xf,K1,F];simp only[xp,yr,val];congr 2;omega
 have l1:=K9 w1;have Q:=K9 M;rw[F] at Q;have K:z<=v3:=by rw[B,C] at l;exact kn_z l1 Y l
 obtain⟨d,g1,P,g3,g4⟩:=Qkp hn K w6 w5 w4 Y h3;have j:0<val v:=by rcases Nat.eq_zero_or_pos (val v) with h | h;rw[h] at l;omega;exact h
 have g:val (w++[z]) / val v<4294967296:=(vv j).2 l;have hqa:val (w++[z]) / val v<=d:=by have:=Nat.div_mul_le_self (val (w++[z])) (val v);exact kn_a (vl:=val vl) Q g (by rw[<-B,<-C];exact this) g4
 have hqb:d*val v<=val (w++[z])+val v:=by rw[B,C];exact kn_b l1 P om g3
 have A:val (w++[z])<(d+1)*val v:=xx ((vv j).1 (Nat.lt_succ_self _)) (xg _ om);obtain⟨r,b,T,i,t3,t4,t5⟩:=Qlw (p:=p) (m:=w) (q':=rest) (v:=v) (z:=z) (q:=d) J hp e a hz P;rw[Nat.add_mul,Nat.one_mul] at A;have hvb:=K9 a;have hbb:bp v.length<=bp (v.length+1):=bp_le om;by_cases hb:b=0;subst hb;rw[uv,xa] at t5;obtain⟨x,y⟩:=dm_of t5 om;exact⟨r,d,g1,i,t3,y.symm,g,.inl ⟨T,x.symm⟩⟩;obtain rfl:b=1:=om
 rw[Nat.mul_one] at t5;have hr:=K9 t3;rw[i] at hr;obtain⟨r0,f,k⟩:∃ r0 f,r=r0++[f]:=by rcases List.eq_nil_or_concat r with h | ⟨r0,f,h⟩;rw[h] at i;simp at i;exact⟨r0,f,by rw[h,List.concat_eq_append]⟩
 have Z:r0.length=v.length:=by rw[k] at i;simpa using i
 have O:Wd r0/\f<4294967296:=by rw[k] at t3;exact⟨(Q4.1 t3).1,(Q8.1 (Q4.1 t3).2).1⟩
 obtain⟨R,N,u1,W,X,u4,L⟩:=Qlx (p:=p) (m:=r0) (q':=rest) (v:=v) (z:=f) Z om O.1 a O.2;have G:=K9 X;rw[W] at G;rw[<-k] at L
 obtain⟨s,rfl⟩:∃ s,d=s+1:=⟨d - 1,by
  have:d≠0:=by rintro rfl;omega
  omega⟩
 rw[Nat.add_mul,Nat.one_mul] at *;have E:N=1:=by rcases Nat.eq_zero_or_pos N with h | h;subst h;rw[uv] at L;omega;omega
 subst E;rw[Nat.mul_one] at L;obtain⟨x,y⟩:=dm_of (U:=val (w++[z])) (V:=val v) (q:=s) (r:=val R) om om;refine⟨R,s+1,g1,W,X,y.symm,g,.inr ⟨p++r++rest,T,?_,by rw[x];omega⟩⟩;rw[k,show p++(r0++[f])++rest=p++r0++f::rest by simp];exact u1
theorem Qly{n:Nat}{u v vl:List Nat}{v3 v4:Nat}(hn:big<=n)(F:v=vl++[v4,v3])(h3:v3≠0)(g:Wd u)(q:Wd v)(hu:u.length<35184372088832)(hl:v.length<=u.length)(P:val (u.drop (u.length - v.length))<val v):
 ∃ r,Qau n u v=some r/\(r.1.length=u.length - v.length/\Wd r.1/\r.2.length=u.length/\Wd r.2/\val u=val v*val r.1+val r.2/\val r.2<val v):=by
 unfold Qau;have N:=hn;unfold big at N;have hvl:v.length=vl.length+2:=by rw[F];simp
 rw[w64 (x:=(u.length:Int) - (v.length:Int)) om om,show(u.length:Int) - (v.length:Int)=((u.length - v.length:Nat):Int) by omega,Qdh om om,sbind]
 refine Qkl (λs=>(s.2.2+1).toNat) (λs=>∃(k:Nat) (p w e:List Nat),s.2.2=(k:Int) - 1/\k<=u.length - v.length/\s.1=p++w/\p.length=k/\w.length=u.length - k/\Wd p/\Wd w/\val w<val v/\s.2.1=List.replicate k 0++e/\e.length=u.length - v.length - k/\Wd e/\val u=val p+bp k*(val w+val v*val e))
  (λt=>t.2.length=u.length - v.length/\Wd t.2/\t.1.length=u.length/\Wd t.1/\val u=val v*val t.2+val t.1/\val t.1<val v) ⟨u.length - v.length,u.take (u.length - v.length),u.drop (u.length - v.length),[],?_,ot _,by simp only[ur],oa,oa,Qfr g,Qeb g,P,by simp only[vu],oa,K0,?_⟩ ?_ ?_ (λt P=>⟨_,rfl,P⟩)
 . simp only[];rw[yt,w64 om om]
 . simp only[val,uv,xa]
   conv=>lhs;rw[<-ur (u.length - v.length) u]
   rw[K1,xt,xv om]
 . simp only[];rw[yt,w64 om om];omega
 . rintro⟨uu,qq,i⟩ ⟨k,p,w,e,i1,i2,i3,G,i5,i6,Q,i8,i9,i10,A,B⟩
   simp only at i1 i3 i9;subst i1 i3 i9;simp only[jn_eq,bifd];by_cases h0:0<k
   . left
     obtain⟨j,rfl⟩:∃ j,k=j+1:=⟨k - 1,om⟩
     obtain⟨d,y,e1⟩:∃ d y,p=d++[y]:=by
      rcases List.eq_nil_or_concat p with h | ⟨d,y,h⟩
      . rw[h] at G;simp at G
      . exact⟨d,y,by rw[h,List.concat_eq_append]⟩
     subst e1;have I:d.length=j:=by simpa using G
     have V:Wd d/\y<4294967296:=⟨(Q4.1 i6).1,(Q8.1 (Q4.1 i6).2).1⟩
     have J:Wd (y::w):=Q8.2 ⟨V.2,Q⟩;have X:v.length<(y::w).length:=oe
     have Y:y::w=(y::w).take v.length++(y::w)[v.length]::(y::w).drop (v.length+1):=Qsd X;have K:val ((y::w).drop (v.length+1))=0:=by rw[List.drop_succ_cons,<-Qht Q];exact vp (Nat.lt_trans i8 (K9 q))
     have Z:val ((y::w).take v.length++[(y::w)[v.length]])=y+4294967296*val w:=by have:=yo val Y;rw[show ∀(a b:List Nat) (x:Nat),a++x::b=(a++[x])++b by intro a b x;simp,K1,K,uv,xa] at this;rw[<-this];rfl
     have w1:Wd ((y::w).take v.length):=Qfr J;have w2:(y::w)[v.length]<4294967296:=Wz J X;have w3:Wd ((y::w).drop (v.length+1)):=Qeb J;have w4:((y::w).take v.length).length=v.length:=by rw[xt,xv om]
     have w5:((y::w).drop (v.length+1)).length=u.length - j - (v.length+1):=by rw[ug,xy];omega
     rw[show d++[y]++w=d++(y::w) by simp,Y];generalize (y::w).take v.length=W at *;generalize (y::w)[v.length]=z at *;generalize (y::w).drop (v.length+1)=R at *;obtain⟨H,x2,E,L,f2⟩:=last2 (l:=W) (m:=vl.length) om;obtain⟨r,S,g1,g2,g3,g4,g5,g6⟩:=Qq7 (p:=d) (w:=W) (rest:=R) (v:=v) (z:=z) hn F L f2 q w1 w2 h3 (by rw[w4,w5];omega) (by rw[Z];omega);rw[oi om,show((j+1:Nat):Int) - 1=(j:Int) by omega];rw[w64 (x:=(j:Int)+(v.length:Int)) om om,show(j:Int)+(v.length:Int)=((j+vl.length+2:Nat):Int) by omega];rw[w64 (x:=((j+vl.length+2:Nat):Int) - 1) om om,w64 (x:=((j+vl.length+2:Nat):Int) - 2) om om,show((j+vl.length+2:Nat):Int) - 1=((j+vl.length+1:Nat):Int) by omega,show((j+vl.length+2:Nat):Int) - 2=((j+vl.length:Nat):Int) by omega];rw[w64 (x:=(v.length:Int) - 1) om om,w64 (x:=(v.length:Int) - 2) om om,show(v.length:Int) - 1=((vl.length+1:Nat):Int) by omega,show(v.length:Int) - 2=((vl.length:Nat):Int) by omega];have a1:getI (d++(W++z::R)) ((j+vl.length+2:Nat):Int)=some z:=by
      rw[<-xf];exact J1 (by rw[xl,w4];omega)
     have a2:getI (d++(W++z::R)) ((j+vl.length+1:Nat):Int)=some E:=by rw[L,show d++(H++[x2,E]++z::R)=(d++H++[x2])++E::(z::R) by simp];exact J1 oe
     have a3:getI (d++(W++z::R)) ((j+vl.length:Nat):Int)=some x2:=by rw[L,show d++(H++[x2,E]++z::R)=(d++H)++x2::(E::z::R) by simp];exact J1 oe
     have a4:getI v ((vl.length+1:Nat):Int)=some v3:=by rw[F,show vl++[v4,v3]=(vl++[v4])++v3::[] by simp];exact J1 oa
     have a5:getI v ((vl.length:Nat):Int)=some v4:=by rw[F];exact J1 rfl
     rw[a1,sbind,a2,sbind,a3,sbind,a4,sbind,a5,sbind,g1,sbind]
     have a6:∀(q':Nat),getI (List.replicate (j+1) 0++e) (j:Int)=some 0/\(List.replicate (j+1) 0++e).set (Int.toNat (j:Int)) q'=List.replicate j 0++q'::e:=λq'=>by rw[wm,xf,List.singleton_append];exact⟨J1 oa,Vv oa⟩
     rw[I,xf] at g6;have f:∀ q',q'=val (W++[z]) / val v->∃ C,(some (Lp.go (d++r++R,List.replicate j 0++q'::e,wrap64 ((j:Int) - 1))):Option (Lp (List Nat×List Nat×Int) (List Nat×List Nat)))=some (Lp.go C)/\(∃(k:Nat) (p w e:List Nat),C.2.2=(k:Int) - 1/\k<=u.length - v.length/\C.1=p++w/\p.length=k/\w.length=u.length - k/\Wd p/\Wd w/\val w<val v/\C.2.1=List.replicate k 0++e/\e.length=u.length - v.length - k/\Wd e/\val u=val p+bp k*(val w+val v*val e))/\(C.2.2+1).toNat<((j:Int)+1).toNat:=by
      intro q' O;have M:0<val v:=om
      rw[w64 om om];refine⟨_,rfl,⟨j,d,r++R,q'::e,rfl,om,by rw[xf],I,by rw[xl,g2,w5];omega,V.1,Q4.2 ⟨g3,w3⟩,?_,rfl,by rw[xy];omega,Q8.2 ⟨om,A⟩,?_⟩,by simp only[];omega⟩
      . rw[K1,K,uv,xa,g4];exact yw _ M
      . rw[B,Jq,I,Km,K1,K,uv,xa]
        simp only[val];refine Qth _ _ _ _ _ _ _ _ _ Z ?_;rw[g4,O,vb];exact Nat.mod_add_div _ _
     rcases g6 with ⟨T,U⟩ | ⟨r1,T,U,t3⟩
     . rw[T,sbind]
       simp only[bifF];rw[(a6 S).1,sbind,(a6 S).2];exact f _ U
     . rw[T,sbind]
       simp only[bifT];rw[U,sbind,(a6 ((S+4294967296 - 1)%4294967296)).1,sbind,(a6 _).2];exact f _ t3
   . right
     obtain rfl:k=0:=om
     obtain rfl:p=[]:=oq G;rw[oh om];refine⟨_,rfl,by simp only[List.replicate_zero,yr];omega,by simpa using A,by simp only[yr];omega,by simpa using Q,?_,by simpa using i8⟩;rw[B,Xr];simp[val];omega
theorem Qv5{x:Nat}(d:x<4294967296):blen x<=32:=by
 rcases xn 32 (blen x) with h | h;have h0:x≠0:=by rintro rfl;rw[Qbo] at h;omega
 have g1:=Qec h0;have a:2 ^ 32<=2 ^ (blen x - 1):=yg oy om;rw[show(2:Nat) ^ 32=4294967296 by decide] at a;omega;exact h
theorem Qx{a:List Nat}(d:Wd a):(toL (val a)).length<=a.length:=by rw[Q9 d];exact Vn a
theorem Qja{v s:Nat}(hs:s<=32):(toL (v*2 ^ s)).length<=(toL v).length+1:=by refine X3 ?_;have a:=K9 (Q0 v);rw[Qr] at a;rw[Km];exact xx (Nat.mul_lt_mul_of_pos_right a (ua s)) (yq _ (Qgg hs))
theorem len2{v:Nat}(h:4294967296<=v):∃ vl v4 v3,toL v=vl++[v4,v3]/\v3≠0:=by
 have h0:toL v≠[]:=by rw[V7 om];simp
 obtain⟨p,x,a,d,e,f⟩:=Qjq h0;rcases List.eq_nil_or_concat p with h5 | ⟨p',y,h5⟩;exfalso;have:=Qr v;rw[a,h5] at this;simp[val] at this;omega;exact⟨p',y,x,by rw[a,h5,List.concat_eq_append];simp,d⟩
theorem Qv6{v:Nat}(h:v≠0):bp ((toL v).length - 1)<=v:=by
 have h0:toL v≠[]:=by rw[V7 h];simp
 obtain⟨p,x,a,d,e,f⟩:=Qjq h0;have:=Qr v;rw[a,Jq] at this;rw[a,xl,vw,Nat.add_sub_cancel,<-this];have:bp p.length*1<=bp p.length*x:=yq _ om;omega
theorem Qa6{n:Nat}{a b:List Nat}(hn:big<=n)(ha:a.length<4398046511104)(hb:b.length<4398046511104)(d:Wd a)(m:Wd b):
 Xy n a b=some (if val b=0 then ([],[],false) else (toL (val a / val b),toL (val a%val b),true)):=by
 unfold Xy;have X:=Qx m;have W:=Qx d;rw[Jv hn om,sbind,<-Q9 m,bifd];by_cases h0:val b=0;rw[h0,Jy,oi oz,oi rfl];have E:toL (val b)≠[]:=by rw[V7 h0];simp
 have T:(toL (val b)).length≠0:=λh=>E (oq h);rw[oh om,oh h0,Qaf hn om om d (Q0 _),sbind,Qr,bifd];by_cases g:val a<val b;rw[oi (by rw[cmpI,oi g];decide),Jv hn om,sbind,vp g,xc g,Jy,Q9 d];rw[oh (by rw[cmpI,oh g];split<;>decide),bifd];by_cases Q:(toL (val b)).length=1;rw[oi om];obtain⟨y,hy⟩:=List.length_eq_one_iff.1 Q;have F:=Qr (val b);have O:=Q0 (val b);rw[hy] at F O;simp only[val,uv,xa] at F;have H:=(Q8.1 O).1;rw[hy,show getI [y] (0:Int)=some y by rfl,sbind,Qls hn om d om H,sbind];simp only[];have:=yw (val a) (show y > 0 by omega);rw[X9 hn om,sbind,<-F];rw[oh om];have j:4294967296<=val b:=by
  rcases xn (val b) 4294967296 with h | h;have:=X3 (n:=val b) (k:=1) (by rw[Km,Xr];omega);omega;exact h
 obtain⟨bl,I,f,p,e2⟩:=len2 j;have e:=Q0 (val b);have i:f<4294967296:=by rw[p] at e;exact(Q8.1 (Q8.1 (Q4.1 e).2).2).1
 have R:(toL (val b)).length=bl.length+2:=by rw[p];simp
 rw[w64 (x:=((toL (val b)).length:Int) - 1) om om,show((toL (val b)).length:Int) - 1=((bl.length+1:Nat):Int) by omega];rw[show getI (toL (val b)) ((bl.length+1:Nat):Int)=some f by rw[p,show bl++[I,f]=(bl++[I])++f::[] by simp];exact J1 oa,sbind,Qgs hn i,sbind];have hs:=Qv5 i;rw[w64 (x:=(32:Int) - (blen f:Int)) om om,show(32:Int) - (blen f:Int)=((32 - blen f:Nat):Int) by omega];have l:32 - blen f<=32:=om
 generalize 32 - blen f=s at *;have A:=ua s;rw[Qhs hn om d om,sbind];have l1:=Qja (v:=val a) l;have l2:=Qja (v:=val b) l;rw[Zp oe oe,sbind,Qhs hn om e om,sbind,Qr];have S:val b<=val b*2 ^ s:=Nat.le_mul_of_pos_right _ A;obtain⟨vl,v4,v3,L,P⟩:=len2 (v:=val b*2 ^ s) om;have B:val b*2 ^ s<=val a*2 ^ s:=xg _ om;have Y:=K2 B;have C:=Qv6 (v:=val b*2 ^ s) om;have Z:(toL (val b*2 ^ s)).length=vl.length+2:=by rw[L];simp
 have G:Wd (toL (val a*2 ^ s)++[0]):=Q4.2 ⟨Q0 _,Q8.2 ⟨om,K0⟩⟩
 obtain⟨⟨q,r⟩,g1,M,g3,g4,N,t,w⟩:=Qly (u:=toL (val a*2 ^ s)++[0]) (v:=toL (val b*2 ^ s)) hn L P G (Q0 _) oe oe (by
  rw[xl,vw,List.drop_append_of_le_length om,Jq,uv,xa,Qr];have:=K9 (Qeb (k:=(toL (val a*2 ^ s)).length+1 - (toL (val b*2 ^ s)).length) (Q0 (val a*2 ^ s)));rw[ug] at this
  exact xx this (ov (bp_le om) C))
 simp only at M g3 g4 N t w;rw[Jq,uv,xa,Qr,Qr] at t;rw[Qr] at w;rw[xl,vw] at M g4;rw[g1,sbind];simp only[];rw[Jv hn om,sbind,Qlv hn om N om,sbind,<-Q9 g3];obtain⟨J,K⟩:=dm_of (U:=val a*2 ^ s) (V:=val b*2 ^ s) (q:=val q) (r:=val r) (by rw[t,vb (val q)];omega) w;rw[Nat.mul_div_mul_right _ _ A] at J;rw[Nat.mul_mod_mul_right] at K;rw[<-J,<-K,Nat.mul_div_cancel _ A]
theorem Qit{n x y:Nat}(hn:big<=n)(hy:y<18446744073709551616):Yk n x y=some (Nat.gcd x y):=by unfold Yk;unfold big at hn;refine Qae (λs=>s.2) (λs=>s.2<18446744073709551616/\Nat.gcd s.1 s.2=Nat.gcd x y) (λt=>t=Nat.gcd x y) ⟨hy,rfl⟩ (by simp only[];omega) ?_ (λt e=>by rw[e]);rintro⟨u,v⟩ ⟨d,a⟩;simp only at d a;simp only[bifnd];by_cases h0:v=0;right;rw[oi h0];exact⟨_,rfl,by rw[<-a,h0,Nat.gcd_zero_right]⟩;left;rw[oh h0,grd_t (by simp[h0]),sbind];have:=yw u (show v > 0 by omega);exact⟨_,rfl,⟨by simp only[];omega,by rw[<-a,Nat.gcd_comm u v,Nat.gcd_rec v u,Nat.gcd_comm]⟩,this⟩
theorem Qkq{v:Nat}:Z8 (toL v)=some (decide (v=1)):=by
 unfold Z8;simp only[jn_eq,bifd];by_cases h:(toL v).length=1;obtain⟨x,a⟩:=List.length_eq_one_iff.1 h;have:=Qr v;rw[a] at this;simp[val] at this;rw[a,oi oa,show getI [x] (0:Int)=some x by rfl,sbind,this];rw[oh om];have:v≠1:=by rintro rfl;apply h;rw[V7 oy,show 1 / 4294967296=0 by decide,Jy];rfl
 rw[oo this]
theorem Qug{v k:Nat}(h:v<2 ^ k):blen v<=k:=by
 rcases xn k (blen v) with a | a;have h0:v≠0:=by rintro rfl;rw[Qbo] at a;omega
 have g1:=Qec h0;have d:2 ^ k<=2 ^ (blen v - 1):=yg oy om;omega;exact a
theorem Quh{r u:Nat}(h:2*r<u):blen r<blen u:=by
 have d:=Qlu (x:=u);by_cases h0:r=0;subst h0;rw[Qbo];exact Qjp om;have g1:=Qec h0;have a:=Qjp h0;have g3:2 ^ blen r=2 ^ (blen r - 1)*2:=by rw[<-Nat.pow_succ,show(blen r - 1).succ=blen r by omega]
 have g4:2 ^ blen r<2 ^ blen u:=om
 exact(Nat.pow_lt_pow_iff_right oy).1 g4
theorem Qgh{v:Nat}:blen v<=32*(toL v).length:=by refine Qug ?_;rw[<-Qft];have:=K9 (Q0 v);rwa [Qr] at this
theorem Qti{u v:Nat}(h0:v≠0):blen v+blen (u%v)+(if v<u%v then 1 else 0)<blen u+blen v+(if u<v then 1 else 0):=by
 have hm:=yw u (show v > 0 by omega);rw[oh om];by_cases h:u<v;rw[oi h,xc h];omega;rw[oh h];have d:2*(u%v)<u:=by have e:=uz u v;have a:1<=u / v:=(Nat.le_div_iff_mul_le om).2 om;have f:v*1<=v*(u / v):=yq _ a;omega
 have:=Quh d;omega
theorem Qkr{n:Nat}{a b:List Nat}(hn:big<=n)(x:a.length<4398046511104)(y:b.length<4398046511104)(g:Wd a)(i:Wd b):Z7 n a b=some (toL (Nat.gcd (val a) (val b))):=by
 unfold Z7;have m:=Qx g;have p:=Qx i;rw[Jv hn om,sbind,Jv hn om,sbind,<-Q9 g,<-Q9 i];have l:=hn;unfold big at l
 refine Qae (λs=>blen (val s.1)+blen (val s.2)+(if val s.1<val s.2 then 1 else 0)) (λs=>∃ u v,s=(toL u,toL v)/\Nat.gcd u v=Nat.gcd (val a) (val b)/\(toL u).length<4398046511104/\(toL v).length<4398046511104)
  (λt=>∃ u v,t=(toL u,toL v)/\Nat.gcd u v=Nat.gcd (val a) (val b)/\(toL u).length<4398046511104/\(toL v).length<=2) ⟨val a,val b,rfl,rfl,om,om⟩ ?_ ?_ ?_
 simp only[Qr];have w:=Qgh (v:=val a);have e:=Qgh (v:=val b);split<;>omega;rintro s ⟨u,v,rfl,e,j,k⟩;simp only[bifd,Qr];by_cases h0:2<(toL v).length;left;have f:v≠0:=by rintro rfl;rw[Jy] at h0;simp at h0
 rw[oi om,Qa6 hn j k (Q0 _) (Q0 _),sbind,Qr,Qr,oh f];refine⟨_,rfl,⟨v,u%v,rfl,?_,k,?_⟩,?_⟩;rw[<-e,Nat.gcd_comm u v,Nat.gcd_rec v u,Nat.gcd_comm];exact xu (K2 (Nat.le_of_lt (yw u om))) k;simp only[Qr];exact Qti f;right;rw[oh om];exact⟨_,rfl,u,v,rfl,e,j,om⟩;rintro t ⟨u,v,rfl,e,j,k⟩;simp only[bifd];by_cases h0:v=0;subst h0;rw[Jy,oi oz,<-e,Nat.gcd_zero_right];have r:(toL v).length≠0:=λh=>by rw[V7 h0] at h;simp at h
 have d:v<18446744073709551616:=by rcases xn v 18446744073709551616 with h | h;exact h;have:=Qp2 h;omega
 have hm:=yw u (show v > 0 by omega);have q:=K2 (Nat.le_of_lt hm);rw[oh om,Qa6 hn j om (Q0 _) (Q0 _),sbind,Qr,Qr,oh h0];simp only[];rw[Qfs hn om (Q0 _),sbind,Qfs hn om (Q0 _),sbind,Qr,Qr,oi d,oi om];simp only[];rw[Qit hn om,sbind,X9 hn (xu (Nat.gcd_le_left _ om) d),sbind,<-e,Nat.gcd_comm u v,Nat.gcd_rec v u,Nat.gcd_comm]
theorem Qhu{n:Nat}{a b:List Nat}(hn:big<=n)(i:a.length<4398046511104)(j:b.length<4398046511104)(e:Wd a)(f:Wd b):
 Xz n a b=some (toL (val a / Nat.gcd (val a) (val b)),toL (val b / Nat.gcd (val a) (val b))):=by
 unfold Xz;rw[Qkr hn i j e f,sbind,bifd];have k:Nat.gcd (val a) (val b) ∣ val a:=Nat.gcd_dvd_left _ _;have l:Nat.gcd (val a) (val b) ∣ val b:=Nat.gcd_dvd_right _ _;have m:=Qx e;have p:=Qx f;have d:Nat.gcd (val a) (val b)=0\/(toL (Nat.gcd (val a) (val b))).length<4398046511104:=by by_cases h:val a=0;rw[h,Nat.gcd_zero_left];right;omega;right;exact xu (K2 (Nat.gcd_le_left _ om)) om
 by_cases h0:Nat.gcd (val a) (val b)=0;rw[h0,Jy,oi oz,Nat.div_zero,Nat.div_zero,Jy];have q:(toL (Nat.gcd (val a) (val b))).length≠0:=λh=>by rw[V7 h0] at h;simp at h
 rw[oh om,Qkq,sbind,bifd];by_cases g:Nat.gcd (val a) (val b)=1;rw[oi g,Jv hn om,sbind,Jv hn om,sbind,g,Nat.div_one,Nat.div_one,Q9 e,Q9 f];have d:(toL (Nat.gcd (val a) (val b))).length<4398046511104:=by rcases d with h | h;exact absurd h h0;exact h
 rw[oh g,Qa6 hn i d e (Q0 _),sbind,Qa6 hn j d f (Q0 _),sbind,Qr,oh h0,oh h0]
def wv(w:Qd):Int:=if w.Neg then -(val w.Gg:Int) else (val w.Gg:Int)
def toW(z:Int):Qd:=⟨decide (z<0),toL z.natAbs⟩
theorem W0(z:Int):wv (toW z)=z:=by unfold wv toW;simp only[decide_eq_true_eq,Qr];split<;>omega
theorem Qjb{v:Nat}:0<(toL v).length↔v≠0:=by constructor;rintro h rfl;rw[Jy] at h;simp at h;intro h;rw[V7 h];simp
theorem Ky{s:Bool}{v:Nat}:Ju s (toL v)=some (toW (if s then -(v:Int) else (v:Int))):=by unfold Ju toW;rw[jn_eq];cases s;rw[bifF];congr 2;rw[bifT];congr 2;exact decide_eq_decide.2 (by simp only[uq];have:=@Qjb v;omega);simp
def Ww(w:Qd):Prop:=Wd w.Gg/\w.Gg.length<4398046511104
theorem Qcn{n:Nat}{w:Qd}(hn:big<=n)(h:Ww w):Vz n w=some (toW (wv w)):=by unfold Vz;rw[Jv hn (by have:=h.2;omega),sbind,<-Q9 h.1,Ky,sbind];rfl
theorem Qui(s t:Bool)(x y:Nat):(if (s != t) then -((x*y:Nat):Int) else ((x*y:Nat):Int))=(if s then -(x:Int) else (x:Int))*(if t then -(y:Int) else (y:Int)):=by cases s<;>cases t<;>simp[Int.neg_mul,Int.mul_neg]
theorem Qfu{n:Nat}{w u:Qd}(hn:big<=n)(d:Ww w)(a:Ww u):Zi n w u=some (toW (wv w*wv u)):=by unfold Zi;rw[Xs hn (by have:=d.2;omega) (by have:=a.2;omega) d.1 a.1,sbind,Ky,sbind,Qui];rfl
theorem Qtj{x y:Nat}:cmpI x y<0↔x<y:=by by_cases h:x<y;simp[cmpI,h];rw[cmpI,oh h];split<;>omega
theorem Qfv{n:Nat}{w u:Qd}(hn:big<=n)(e:Ww w)(d:Ww u):Zj n w u=some (toW (wv w+wv u)):=by unfold Zj;have l1:=e.2;have g:=d.2;rw[Qow hn om om e.1 d.1,sbind,Ky,sbind,Qox hn om om e.1 d.1,sbind,bifd,Ky,sbind,Ky,sbind];unfold wv;rcases w with ⟨s,a⟩;rcases u with ⟨t,b⟩;simp only[];generalize val a=x;generalize val b=y;have f:=@Qtj x y;cases s<;>cases t<;>simp only[beq_self_eq_true,bifT,bifF,Bool.false_eq_true,uq,if_false,show(false == true)=false by rfl,show(true == false)=false by rfl,f];congr 2;split<;>congr 2<;>omega;split<;>congr 2<;>omega;congr 2;omega
theorem Qfw{n:Nat}{w:Qd}(hn:big<=n)(h:Ww w):Zk n w=some (toW (-wv w)):=by unfold Zk;rw[Jv hn (by have:=h.2;omega),sbind,<-Q9 h.1,Ky,sbind];unfold wv;cases w.Neg<;>simp
theorem Quj(z:Int):(toW (-z)).Gg=(toW z).Gg:=by unfold toW;simp
theorem X4(z:Int):Wd (toW z).Gg:=Q0 _
theorem Qco{n:Nat}{w:Qd}(hn:big<=n)(h:Ww w):Wn n w=some (Int.sign (wv w)):=by unfold Wn wv;rw[Qgp hn (by have:=h.2;omega) h.1,sbind,bifd];by_cases h0:val w.Gg=0;rw[oi h0,h0];cases w.Neg<;>rfl;rw[oh h0];cases w.Neg;rw[bifF,oh oy,wi om];rw[bifT,oi rfl,Int.sign_eq_neg_one_of_neg om]
theorem W9(w:Qd):(wv w).natAbs=val w.Gg:=by unfold wv;split<;>omega
theorem Qv7{w:Qd}(h:Ww w):Ww (toW (-wv w)):=by refine⟨X4 _,?_⟩;rw[Quj];show(toL (wv w).natAbs).length<_;rw[W9];exact xu (Qx h.1) h.2
theorem Qfx{n:Nat}{w u:Qd}(hn:big<=n)(d:Ww w)(a:Ww u):Zl n w u=some (toW (wv w - wv u)):=by unfold Zl;rw[Qfw hn a,sbind,Qfv hn d (Qv7 a),sbind,W0,Int.sub_eq_add_neg]
theorem Qlz{n:Nat}{w u:Qd}(hn:big<=n)(d:Ww w)(a:Ww u)(h:Ww (toW (wv w - wv u))):Qaw n w u=some (Int.sign (wv w - wv u)):=by unfold Qaw;rw[Qfx hn d a,sbind,Qco hn h,sbind,W0]
def fv(f:Qa):Rat:=mkRat (wv f.Num) (val f.Den)
def toF(q:Rat):Qa:=⟨toW q.num,toL q.den⟩
theorem Jn(q:Rat):fv (toF q)=q:=by unfold fv toF;rw[W0,Qr];exact vc q
theorem Zc{z:Int}{d:Nat}(hd:d≠0):(mkRat z d).num=z / (Nat.gcd z.natAbs d:Int)/\(mkRat z d).den=d / Nat.gcd z.natAbs d:=by rw[<-Rat.normalize_eq_mkRat hd,Rat.normalize_eq];exact⟨rfl,rfl⟩
theorem Quk(s:Bool)(x g:Nat)(h:g ∣ x):(if s then -((x / g:Nat):Int) else ((x / g:Nat):Int))=(if s then -(x:Int) else (x:Int)) / (g:Int):=by cases s;simp;simp only[uq];rw[Int.neg_ediv_of_dvd (Int.natCast_dvd_natCast.2 h)];simp
theorem Xi{n:Nat}{w:Qd}{d:List Nat}(hn:big<=n)(e:Ww w)(hd:Wd d)(k:d.length<4398046511104)(h0:val d≠0):Va n w d=some (toF (mkRat (wv w) (val d))):=by unfold Va;have f:=e.2;have j:Nat.gcd (val w.Gg) (val d) ∣ val w.Gg:=Nat.gcd_dvd_left _ _;have a:(toL (val w.Gg / Nat.gcd (val w.Gg) (val d))).length<4398046511104:=xu (ov (K2 (vt _ _)) (Qx e.1)) f;rw[Qhu hn f k e.1 hd,sbind,Qcn hn ⟨Q0 _,a⟩,sbind];obtain⟨g,i⟩:=Zc (z:=wv w) h0;unfold toF;rw[g,i,W9];congr 2;unfold wv;rw[Qr];congr 1;exact Quk _ _ _ j
def Fw(f:Qa):Prop:=Ww f.Num/\Wd f.Den/\f.Den.length<4398046511104
theorem Qe2{n:Nat}{f:Qa}(hn:big<=n)(e:Fw f):∃ p,Jk n f=some p/\Ww p.1/\Wd p.2/\p.2.length<=max 1 f.Den.length/\p.1.Gg.length<=f.Num.Gg.length/\val p.2≠0/\mkRat (wv p.1) (val p.2)=fv f:=by obtain⟨d,a,g⟩:=e;unfold Jk fv;rw[Qgp hn om a,sbind,bifd];by_cases h0:val f.Den=0;rw[oi h0,X9 hn om,sbind];refine⟨_,rfl,⟨K0,oa⟩,Q0 _,?_,oa,by simp only[Qr];decide,?_⟩;have:=X3 (n:=1) (k:=1) (by rw[Km,Xr];omega);simp only[];omega;simp only[Qr,h0,Rat.mkRat_zero];rfl;rw[oh h0];exact⟨_,rfl,d,a,by simp only[];omega,ot _,h0,rfl⟩
theorem Wf{n:Nat}{f:Qa}(hn:big<=n)(a:Fw f):Kg n f=some (toF (fv f)):=by obtain⟨p,d,e,g,k,l,i,j⟩:=Qe2 hn a;unfold Kg;rw[d,sbind,Xi hn e g (by have:=a.2.2;omega) i,sbind,j]
theorem Xt{x y:Nat}:(toL (x*y)).length<=(toL x).length+(toL y).length:=by refine X3 ?_;have a:=K9 (Q0 x);have d:=K9 (Q0 y);rw[Qr] at a d;rw[Qv2];exact Nat.mul_lt_mul'' a d
theorem Qid{x y k:Nat}(d:(toL x).length<=k)(e:(toL y).length<=k):(toL (x+y)).length<=k+1:=by refine X3 ?_;have g1:=K9 (Q0 x);have a:=K9 (Q0 y);rw[Qr] at g1 a;have g3:=bp_le d;have g4:=bp_le e;rw[Km];omega
theorem V6{n:Nat}{w:Qd}{d:List Nat}(hn:big<=n)(e:Ww w)(hd:Wd d)(a:d.length<4398046511104):K7 n w d=some (toW (wv w*(val d:Int))):=by unfold K7;rw[Qfu hn e ⟨hd,a⟩,sbind];rfl
def Fk(k:Nat)(f:Qa):Prop:=Wd f.Num.Gg/\f.Num.Gg.length<=k/\Wd f.Den/\f.Den.length<=k
theorem Fk_Fw{k:Nat}{f:Qa}(h:Fk k f)(hk:k<4398046511104):Fw f:=⟨⟨h.1,by have:=h.2.1;omega⟩,h.2.2.1,by have:=h.2.2.2;omega⟩
theorem Yw{n k:Nat}{f:Qa}(hn:big<=n)(a:Fk k f)(e:1<=k)(hk:k<4398046511104):∃ w d,Jk n f=some (w,d)/\Wd w.Gg/\w.Gg.length<=k/\Wd d/\d.length<=k/\val d≠0/\mkRat (wv w) (val d)=fv f:=by obtain⟨⟨w,d⟩,e,g,i,j,l,m,p⟩:=Qe2 hn (Fk_Fw a hk);exact⟨w,d,e,g.1,ov l a.2.1,i,by have:=a.2.2.2;simp only at j;omega,m,p⟩
theorem Qbb{w:Qd}{y k j:Nat}(a:Wd w.Gg)(d:w.Gg.length<=k)(e:(toL y).length<=j):(toW (wv w*(y:Int))).Gg.length<=k+j:=by unfold toW;simp only[];rw[ve,W9,vq];have:=@Xt (val w.Gg) y;have:=Qx a;omega
theorem Wv{n k:Nat}{f g:Qa}(hn:big<=n)(l:1<=k)(hk:k<1099511627776)(t:Fk k f)(v:Fk k g):Kz n f g=some (toF (fv f+fv g)):=by
 obtain⟨w,d,a1,a2,a3,a4,a5,a6,a7⟩:=Yw hn t l om;obtain⟨u,e,p,i,q,a,r,j,s⟩:=Yw hn v l om;have l1:=Qbb a2 a3 (ov (Qx a) r);have m:=Qbb i q (ov (Qx a4) a5);unfold Kz;rw[a1,sbind,p,sbind,V6 hn ⟨a2,om⟩ a om,sbind,V6 hn ⟨i,om⟩ a4 om,sbind,Qfv hn ⟨X4 _,om⟩ ⟨X4 _,om⟩,sbind,Xs hn om om a4 a,sbind];have x:=@Xt (val d) (val e);have y:=Qx a4;have A:=Qx a;rw[W0,W0];have hs:(toW (wv w * ↑(val e)+wv u * ↑(val d))).Gg.length<=2*k+1:=by
  unfold toW at l1 m |-;simp only[] at l1 m |-;have:=Int.natAbs_add_le (wv w * ↑(val e)) (wv u * ↑(val d));exact ov (K2 this) (Qid om om)
 rw[Xi hn ⟨X4 _,om⟩ (Q0 _) om (by rw[Qr];exact uo a6 j),sbind,Qr,W0,<-a7,<-s,wb _ _ a6 j]
theorem Qnc{n k:Nat}{f g:Qa}(hn:big<=n)(l:1<=k)(hk:k<1099511627776)(t:Fk k f)(v:Fk k g):Qce n f g=some (toF (fv f - fv g)):=by
 obtain⟨w,d,a1,a2,a3,a4,a5,a6,a7⟩:=Yw hn t l om;obtain⟨u,e,p,i,q,a,r,j,s⟩:=Yw hn v l om;have l1:=Qbb a2 a3 (ov (Qx a) r);have m:=Qbb i q (ov (Qx a4) a5);unfold Qce;rw[a1,sbind,p,sbind,V6 hn ⟨a2,om⟩ a om,sbind,V6 hn ⟨i,om⟩ a4 om,sbind,Qfx hn ⟨X4 _,om⟩ ⟨X4 _,om⟩,sbind,Xs hn om om a4 a,sbind];have x:=@Xt (val d) (val e);have y:=Qx a4;have A:=Qx a;rw[W0,W0];have hs:(toW (wv w * ↑(val e) - wv u * ↑(val d))).Gg.length<=2*k+1:=by
  unfold toW at l1 m |-;simp only[] at l1 m |-;have:=Int.natAbs_sub_le (wv w * ↑(val e)) (wv u * ↑(val d));exact ov (K2 this) (Qid om om)
 rw[Xi hn ⟨X4 _,om⟩ (Q0 _) om (by rw[Qr];exact uo a6 j),sbind,Qr,W0,<-a7,<-s,Rat.sub_eq_add_neg,Rat.neg_mkRat,wb _ _ a6 j,Int.neg_mul,<-Int.sub_eq_add_neg]
theorem Vc{n k:Nat}{f g:Qa}(hn:big<=n)(j:1<=k)(hk:k<1099511627776)(q:Fk k f)(r:Fk k g):Jz n f g=some (toF (fv f*fv g)):=by
 obtain⟨w,d,a1,a2,a3,a4,a5,a6,a7⟩:=Yw hn q j om;obtain⟨u,e,l,a,s,i,t,m,p⟩:=Yw hn r j om;unfold Jz;rw[a1,sbind,l,sbind,Qfu hn ⟨a2,om⟩ ⟨a,om⟩,sbind,Xs hn om om a4 i,sbind];have x:=@Xt (val d) (val e);have y:=Qx a4;have A:=Qx i;have hs:(toW (wv w*wv u)).Gg.length<=2*k:=by unfold toW;simp only[];rw[ve,W9,W9];have g1:=@Xt (val w.Gg) (val u.Gg);have v:=Qx a2;have g3:=Qx a;omega
 rw[Xi hn ⟨X4 _,om⟩ (Q0 _) om (by rw[Qr];exact uo a6 m),sbind,Qr,W0,<-a7,<-p,wc]
theorem Qul(q:Rat):toF (-q)=⟨toW (-q.num),toL q.den⟩:=rfl
theorem Qv8{f:Qa}(a:Fw f):Ww (toF (fv f)).Num:=by
 refine⟨X4 _,?_⟩;show(toL (fv f).num.natAbs).length<_;by_cases h0:val f.Den=0;unfold fv;rw[h0,Rat.mkRat_zero];simp[Jy];obtain⟨d,_⟩:=Zc (z:=wv f.Num) h0;unfold fv;rw[d];have e:(wv f.Num / (Nat.gcd (wv f.Num).natAbs (val f.Den):Int)).natAbs<=val f.Num.Gg:=by rw[<-W9];exact Int.natAbs_ediv_le_natAbs _ _
 exact xu (ov (K2 e) (Qx a.1.1)) a.1.2
theorem Qnd{n:Nat}{f:Qa}(hn:big<=n)(a:Fw f):Qcc n f=some (toF (-fv f)):=by unfold Qcc;have h:=Qv8 a;rw[Wf hn a,sbind,Qfw hn h,sbind,Qul];unfold toF;simp only[W0]
theorem Qfy{a b:Int}{d e:Nat}(hd:d≠0)(f:e≠0):Int.sign (a*(e:Int) - b*(d:Int))=Int.sign (mkRat a d - mkRat b e).num:=by rw[Rat.sub_eq_add_neg,Rat.neg_mkRat,wb _ _ hd f,Int.neg_mul,<-Int.sub_eq_add_neg];generalize a*(e:Int) - b*(d:Int)=z;have h0:d*e≠0:=uo hd f;obtain⟨i,_⟩:=Zc (z:=z) h0;rw[i];have k:(Nat.gcd z.natAbs (d*e):Int) ∣ z:=Int.dvd_natAbs.1 (Int.natCast_dvd_natCast.2 (Nat.gcd_dvd_left _ _));obtain⟨c,j⟩:=k;have l:0<Nat.gcd z.natAbs (d*e):=Nat.gcd_pos_of_pos_right _ om;generalize Nat.gcd z.natAbs (d*e)=g at *;subst j;rw[Int.mul_ediv_cancel_left _ om,Int.sign_mul,wi om,Int.one_mul]
theorem Qne{n k:Nat}{f g:Qa}(hn:big<=n)(j:1<=k)(hk:k<1099511627776)(t:Fk k f)(v:Fk k g):Qb8 n f g=some (Int.sign (fv f - fv g).num):=by
 obtain⟨w,d,a1,a2,a3,a4,a5,a6,a7⟩:=Yw hn t j om;obtain⟨u,e,m,a,p,i,q,r,s⟩:=Yw hn v j om;have l1:=Qbb a2 a3 (ov (Qx i) q);have l:=Qbb a p (ov (Qx a4) a5);have hs:(toW (wv w * ↑(val e) - wv u * ↑(val d))).Gg.length<=2*k+1:=by unfold toW at l1 l |-;simp only[] at l1 l |-;have:=Int.natAbs_sub_le (wv w * ↑(val e)) (wv u * ↑(val d));exact ov (K2 this) (Qid om om)
 unfold Qb8;rw[a1,sbind,m,sbind,V6 hn ⟨a2,om⟩ i om,sbind,V6 hn ⟨a,om⟩ a4 om,sbind,Qlz hn ⟨X4 _,om⟩ ⟨X4 _,om⟩ (by rw[W0,W0];exact⟨X4 _,om⟩),sbind,W0,W0,Qfy a6 r,a7,s]
def runG{α β τ:Type}(g:Nat->α->β->β ⊕ τ)(e:β->τ):List α->Nat->β->τ
 | [],_,b=>e b
 | x::xs,i,b=>match g i x b with
   | .inl a=>runG g e xs (i+1) a
   | .inr t=>t
def toLpp{β σ τ0 τ:Type}(mk:β->Nat->σ)(i:Nat):β ⊕ τ->Lp σ (Lp τ0 τ)
 | .inl b=>.go (mk b (i+1))
 | .inr t=>.out (.out t)
theorem Qtk{α β σ τ0 τ:Type}{f:σ->Option (Lp σ (Lp τ0 τ))}{k:τ0->Option τ}{s0:σ}(mk:β->Nat->σ)(g:Nat->α->β->β ⊕ τ)(q:β->τ0)(e:β->τ)(I:Nat->β->Prop)(xs:List α)(b:β){n:Nat}
 (r:∀ i x b,xs[i]?=some x->I i b->f (mk b i)=some (toLpp mk i (g i x b))/\∀ d,g i x b=.inl d->I (i+1) d)
 (l:∀ b,I xs.length b->f (mk b xs.length)=some (.out (.go (q b)))) (hk:∀ b,I xs.length b->k (q b)=some (e b)) (h0:I 0 b) (hn:xs.length<n) (hs:s0=mk b 0:=by rfl) :
 (loopM f n s0).bind (lpK k)=some (runG g e xs 0 b):=by
 have key:∀(xs:List α) (j:Nat) (b:β) (n:Nat),
  (∀ i x b,xs[i]?=some x->I (j+i) b->f (mk b (j+i))=some (toLpp mk (j+i) (g (j+i) x b))/\∀ d,g (j+i) x b=.inl d->I (j+i+1) d) ->
  (∀ b,I (j+xs.length) b->f (mk b (j+xs.length))=some (.out (.go (q b))))->(∀ b,I (j+xs.length) b->k (q b)=some (e b))->I j b->xs.length<n->(loopM f n (mk b j)).bind (lpK k)=some (runG g e xs j b):=by
  intro xs
  induction xs with
  | nil=>
    intro j b n _ l hk h0 hn;simp only[wh,xa] at l hk;rw[Qc1 (l b h0) om,xj];exact hk b h0
  | cons x xs w=>
    intro j b n r l hk h0 hn;obtain⟨m,rfl⟩:∃ m,n=m+1:=⟨n - 1,by simp at hn;omega⟩
    obtain⟨p,u⟩:=r 0 x b rfl h0;simp only[xa] at p u;simp only[runG];cases s:g j x b with
    | inl d=>
      rw[s] at p;rw[Qlq p];refine w (j+1) d m (λi y c hy a=>?_) (λc a=>?_) (λc a=>?_) (u d s) (by simp at hn;omega);have:=r (i+1) y c (by simpa using hy);rw[show j+(i+1)=j+1+i by omega] at this;exact this a;have:=l c;rw[xy,show j+(xs.length+1)=j+1+xs.length by omega] at this;exact this a;have:=hk c;rw[xy,show j+(xs.length+1)=j+1+xs.length by omega] at this;exact this a
    | inr t=>rw[s] at p;rw[Qc1 p om];rfl
 rw[hs];exact key xs 0 b n (λi x c v a=>by rw[xm] at a |-;exact r i x c v a) (λc a=>by rw[xm] at a |-;exact l c a) (λc a=>hk c (by rwa [xm] at a)) h0 hn
theorem Ws{α:Type}{l:List α}{i:Nat}{x:α}(h:l[i]?=some x):getI l (i:Int)=some x:=by rw[Qbn,h]
theorem Jt{α:Type}{l:List α}{i:Nat}{x:α}(h:l[i]?=some x):i<l.length:=by rcases xn i l.length with a | a;exact a;rw[ol a] at h;cases h
theorem Q1{α:Type}{l:List α}{i:Nat}{x:α}(h:l[i]?=some x):x∈l:=List.mem_of_getElem? h
theorem w1{i:Nat}(h:i<9223372036854775807):wrap64 ((i:Int)+1)=((i+1:Nat):Int):=by rw[w64 om om];omega
theorem Qms{σ τ:Type}{f:σ->Option (Lp σ τ)}(F:Nat->σ){t:τ}:∀(N k n:Nat),(∀ i,i<N->f (F (k+i))=some (.go (F (k+i+1))))->f (F (k+N))=some (.out t)->N<n->loopM f n (F k)=some t
 | 0,k,n,_,a,hn=>Qc1 a om
 | N+1,k,n,d,a,hn=>by
   obtain⟨m,rfl⟩:∃ m,n=m+1:=⟨n - 1,om⟩
   have h0:=d 0 om;simp only[xa] at h0;rw[Qlq h0];exact Qms F N (k+1) m (λi hi=>by have:=d (i+1) om;rw[show k+(i+1)=k+1+i by omega] at this;exact this) (by rw[show k+1+N=k+(N+1) by omega];exact a) om
theorem Qbc{σ τ R:Type}{f:σ->Option (Lp σ τ)}{s:σ}{K:τ->Option R}{n:Nat}(F:Nat->σ)(N:Nat)(t:τ)(a:∀ i,i<N->f (F i)=some (.go (F (i+1))))(d:f (F N)=some (.out t))(hn:N<n)(hs:s=F 0):(loopM f n s).bind K=K t:=by rw[hs,Qms F (t:=t) N 0 n (λi hi=>by rw[xm];exact a i hi) (by rw[xm];exact d) hn,xj]
theorem Qks{α σ τ:Type}{f:Nat->α->σ->Option (Lp σ τ)}(F:Nat->σ):∀(xs:List α) (k:Nat),(∀ i x,xs[i]?=some x->f (k+i) x (F (k+i))=some (.go (F (k+i+1))))->rangeL f xs k (F k)=some (.go (F (k+xs.length)))
 | [],_,_=>rfl
 | x::xs,k,a=>by have h0:=a 0 x rfl;simp only[xa] at h0;simp only[rangeL,h0,xj];rw[Qks F xs (k+1) (λi y hy=>by have:=a (i+1) y (by simpa using hy);rw[show k+(i+1)=k+1+i by omega] at this;exact this),xy,show k+1+xs.length=k+(xs.length+1) by omega]
theorem Yz{α σ τ R:Type}{f:Nat->α->σ->Option (Lp σ τ)}{s:σ}{K:Lp σ τ->Option R}(F:Nat->σ)(xs:List α)(a:∀ i x,xs[i]?=some x->f i x (F i)=some (.go (F (i+1))))(hs:s=F 0):(rangeL f xs 0 s).bind K=K (.go (F xs.length)):=by rw[hs,Qks F xs 0 (λi x d=>by rw[xm];exact a i x d),xj,xm]
theorem Qkt{α R:Type}{f:Nat->α->Unit->Option (Lp Unit R)}{r:R}(P:Nat->α->Prop):∀(xs:List α) (k:Nat),(∀ i x,xs[i]?=some x->(P (k+i) x->f (k+i) x ()=some (.go ()))/\(¬ P (k+i) x->f (k+i) x ()=some (.out r))) ->
 ((∀ i x,xs[i]?=some x->P (k+i) x)->rangeL f xs k ()=some (.go ()))/\(¬(∀ i x,xs[i]?=some x->P (k+i) x)->rangeL f xs k ()=some (.out r))
 | [],k,_=>⟨λ_=>rfl,λh=>absurd (λi x m=>by simp at m) h⟩
 | x::xs,k,j=>by
   obtain⟨d,g⟩:=j 0 x rfl;simp only[xa] at d g;obtain⟨g1,l⟩:=Qkt P xs (k+1) (λi y hy=>by have:=j (i+1) y (by simpa using hy);rw[show k+(i+1)=k+1+i by omega] at this;exact this);by_cases a:P k x;have e:(∀ i y,(x::xs)[i]?=some y->P (k+i) y)↔(∀ i y,xs[i]?=some y->P (k+1+i) y):=by
    constructor;intro h i y hy;have:=h (i+1) y (by simpa using hy);rw[show k+(i+1)=k+1+i by omega] at this;exact this;intro h i y hy;cases i with
    | zero=>simp at hy;subst hy;exact a
    | succ i=>rw[show k+(i+1)=k+1+i by omega];exact h i y (by simpa using hy)
   rw[e];simp only[rangeL,d a,xj];exact⟨g1,l⟩;refine⟨λh=>absurd (h 0 x rfl) a,λ_=>?_⟩;simp only[rangeL,g a,xj]
open Classical in
theorem Y0{α R:Type}{f:Nat->α->Unit->Option (Lp Unit R)}{K:Unit->Option R}{r:R}(P:Nat->α->Prop)(xs:List α)
 (d:∀ i x,xs[i]?=some x->(P i x->f i x ()=some (.go ()))/\(¬ P i x->f i x ()=some (.out r))) :
 (rangeL f xs 0 ()).bind (lpK K)=if (∀ i x,xs[i]?=some x->P i x) then K () else some r:=by
 obtain⟨g1,a⟩:=Qkt P xs 0 (λi x e=>by rw[xm];exact d i x e);simp only[xm] at g1 a;by_cases h:∀ i x,xs[i]?=some x->P i x;rw[oi h,g1 h,xj,J7];rw[oh h,a h,xj,Qic]
theorem Qmt{R:Type}{f:Int->Option (Lp Int (Lp Unit R))}{r:R}(P:Nat->Prop):∀(N k n:Nat),(∀ i,i<k+N->k<=i->(P i->f (i:Int)=some (.go ((i+1:Nat):Int)))/\(¬ P i->f (i:Int)=some (.out (.out r))))->f ((k+N:Nat):Int)=some (.out (.go ()))->N<n ->
 ((∀ i,k<=i->i<k+N->P i)->loopM f n (k:Int)=some (.go ()))/\(¬(∀ i,k<=i->i<k+N->P i)->loopM f n (k:Int)=some (.out r))
 | 0,k,n,_,g,hn=>⟨λ_=>Qc1 g om,λh=>absurd (λi j l=>by omega) h⟩
 | N+1,k,n,p,g,hn=>by
   obtain⟨m,rfl⟩:∃ m,n=m+1:=⟨n - 1,om⟩
   obtain⟨j,l⟩:=p k om (ot _);obtain⟨g1,q⟩:=Qmt P N (k+1) m (λi hi hk=>p i om om) (by rw[show k+1+N=k+(N+1) by omega];exact g) om;by_cases d:P k;have e:(∀ i,k<=i->i<k+(N+1)->P i)↔(∀ i,k+1<=i->i<k+1+N->P i):=by constructor;intro h i a b;exact h i om om;intro h i a b;rcases Nat.eq_or_lt_of_le a with c | c;exact c ▸ d;exact h i c om
   rw[e,Qlq (j d)];exact⟨g1,q⟩;exact⟨λh=>absurd (h k (ot _) om) d,λ_=>Qc1 (l d) om⟩
open Classical in
theorem Qoz{R:Type}{f:Int->Option (Lp Int (Lp Unit R))}{K:Unit->Option R}{r:R}{n:Nat}(P:Nat->Prop)(N:Nat)
 (d:∀ i,i<N->(P i->f (i:Int)=some (.go ((i+1:Nat):Int)))/\(¬ P i->f (i:Int)=some (.out (.out r)))) (e:f (N:Int)=some (.out (.go ()))) (hn:N<n) :
 (loopM f n 0).bind (lpK K)=if (∀ i,i<N->P i) then K () else some r:=by
 obtain⟨g1,a⟩:=Qmt (n:=n) (r:=r) P N 0 (λi hi _=>d i om) (by rw[xm];exact e) hn;simp only[xm,xk,true_implies] at g1 a;by_cases h:∀ i,i<N->P i;rw[oi h];have:=g1 h;rw[show((0:Nat):Int)=0 from rfl] at this;rw[this,xj,J7];rw[oh h];have:=a h;rw[show((0:Nat):Int)=0 from rfl] at this;rw[this,xj,Qic]
theorem Qdx{α β:Type}(h:α->β){l:List α}{i:Nat}{x:α}(a:l[i]?=some x):(l.take (i+1)).map h=(l.take i).map h++[h x]:=by
 rw[wz (Jt a),yd];have:l[i]'(Jt a)=x:=by have:=ow (Jt a);rw[this] at a;exact Option.some.inj a
 simp[this]
theorem Ql0:∀ {a b:List Nat},Wd a->Wd b->a.length=b.length->val a=val b->a=b
 | [],[],_,_,_,_=>rfl
 | [],_::_,_,_,h,_=>by simp at h
 | _::_,[],_,_,h,_=>by simp at h
 | x::a,y::b,f,g,i,j=>by
   obtain⟨k,d⟩:=Q8.1 f;obtain⟨l,e⟩:=Q8.1 g;simp only[val] at j;have:x=y:=om
   subst this;rw[Ql0 d e (by simpa using i) om]
theorem Qe3{x y:Nat}:cmpI x y=0↔x=y:=by unfold cmpI;split;constructor<;>intro h<;>omega;split;constructor<;>intro h<;>omega;constructor<;>intro h<;>omega
open Classical in
theorem Qe4{n:Nat}{f:Qa}(hn:big<=n)(u:Fw f):K6 n f=some (decide (f=toF (fv f))):=by
 unfold K6;rw[Wf hn u,sbind,jn_eq];have w1:Wd (toF (fv f)).Num.Gg:=Q0 _;have r:Wd (toF (fv f)).Den:=Q0 _;generalize toF (fv f)=g at *;obtain⟨⟨p,v⟩,q,w⟩:=u;obtain⟨⟨s,a⟩,d⟩:=f;obtain⟨⟨t,b⟩,e⟩:=g;simp only at p v q w w1 r |-;have i:∀ {P:Prop},(P->False)->(some false:Option Bool)=some (decide P):=λh=>by rw[oo h]
 by_cases c1:s=t;subst c1;rw[show(s == s)=true by simp,bifT];by_cases l:(a.length:Int)=(b.length:Int)
 rw[ou l,bifT];by_cases m:(d.length:Int)=(e.length:Int)
 rw[ou m,bifT,Qaf hn om om p w1,sbind];by_cases j:val a=val b;rw[ou (Qe3.2 j),bifT,Qaf hn om om q r,sbind];by_cases k:val d=val e;rw[ou (Qe3.2 k),Ql0 p w1 om j,Ql0 q r om k,ou rfl];rw[oo λh=>k (Qe3.1 h)];exact i λh=>by cases h;exact k rfl
 rw[oo λh=>j (Qe3.1 h),bifF];exact i λh=>by cases h;exact j rfl
 rw[oo m,bifF];exact i λh=>by cases h;exact m rfl
 rw[oo l,bifF];exact i λh=>by cases h;exact l rfl
 rw[show(s == t)=false by simpa using c1,bifF];exact i λh=>by cases h;exact c1 rfl
def qw(q:Rat):Nat:=max (toL q.num.natAbs).length (toL q.den).length
theorem Wg{j k:Nat}{f:Qa}(h:Fk j f)(hk:j<=k):Fk k f:=⟨h.1,by have:=h.2.1;omega,h.2.2.1,by have:=h.2.2.2;omega⟩
theorem Kf{q:Rat}{k:Nat}(h:qw q<=k):Fk k (toF q):=by unfold qw at h;exact⟨X4 _,by show(toL q.num.natAbs).length<=k;omega,Q0 _,by show(toL q.den).length<=k;omega⟩
theorem toL1:(toL 1).length=1:=by rw[V7 oy];simp[Jy]
theorem Qjr{z:Int}{d k:Nat}(hd:d≠0)(g:(toL z.natAbs).length<=k)(i:(toL d).length<=k):qw (mkRat z d)<=k:=by obtain⟨a,e⟩:=Zc (z:=z) hd;unfold qw;rw[a,e];have g1:=K2 (Int.natAbs_ediv_le_natAbs z (Nat.gcd z.natAbs d:Int));have f:=K2 (vt d (Nat.gcd z.natAbs d));omega
theorem Yx:qw 0=1:=by unfold qw;rw[show(0:Rat).num=0 from rfl,show(0:Rat).den=1 from rfl,toL1];simp[Jy]
theorem Qv9(q:Rat):1<=qw q:=by have:=(Qjb (v:=q.den)).2 q.den_nz;unfold qw;omega
theorem qw_fv{f:Qa}{k:Nat}(h:Fk k f)(a:1<=k):qw (fv f)<=k:=by unfold fv;by_cases h0:val f.Den=0;rw[h0,Rat.mkRat_zero,Yx];exact a;refine Qjr h0 ?_ ?_;rw[W9];exact ov (Qx h.1) h.2.1;exact ov (Qx h.2.2.1) h.2.2.2
theorem Qhv(q:Rat):(toL q.num.natAbs).length<=qw q:=by unfold qw;omega
theorem Qhw(q:Rat):(toL q.den).length<=qw q:=by unfold qw;omega
theorem Xj{a b:Rat}{j k:Nat}(f:qw a<=j)(g:qw b<=k):qw (a*b)<=j+k:=by rw[<-vc a,<-vc b,wc];have i:=Qhv a;have l:=Qhv b;have d:=Qhw a;have e:=Qhw b;have:=@Xt a.num.natAbs b.num.natAbs;have:=@Xt a.den b.den;exact Qjr (uo a.den_nz b.den_nz) (by rw[ve];omega) om
theorem Qdi{a b:Rat}{j k:Nat}(f:qw a<=j)(g:qw b<=k):qw (a+b)<=j+k+1:=by rw[<-vc a,<-vc b,wb _ _ a.den_nz b.den_nz];have n:=Qhv a;have p:=Qhv b;have d:=Qhw a;have e:=Qhw b;have i:=@Xt a.num.natAbs b.den;have l:=@Xt b.num.natAbs a.den;have m:=@Xt a.den b.den;refine Qjr (uo a.den_nz b.den_nz) ?_ om;refine ov (K2 (Int.natAbs_add_le _ _)) ?_;rw[ve,ve,vq,vq];exact Qid om om
theorem Qum(a:Rat):(-a).num=-a.num:=rfl
theorem Qun(a:Rat):(-a).den=a.den:=rfl
theorem Qsj(a:Rat):qw (-a)=qw a:=by unfold qw;rw[Qum,Qun,Int.natAbs_neg]
theorem Qwa{a b:Rat}{j k:Nat}(d:qw a<=j)(e:qw b<=k):qw (a - b)<=j+k+1:=by rw[Rat.sub_eq_add_neg];exact Qdi d (by rw[Qsj];exact e)
theorem Qsk{a:Rat}{j:Nat}(g:qw a<=j):qw a⁻¹<=j:=by
 have i:=Qhv a;have d:=Qhw a;have p:=Qv9 a;unfold qw;rw[Rat.num_inv,Rat.den_inv];have e:(toL (a.num.sign*(a.den:Int)).natAbs).length<=j:=by
  rw[ve,vq];refine ov (K2 (y:=a.den) ?_) om;have:a.num.sign.natAbs<=1:=by rw[Int.natAbs_sign];split<;>omega
  calc a.num.sign.natAbs*a.den<=1*a.den:=xg _ this
   _=a.den:=Nat.one_mul _
 have f:(toL (if a.num=0 then 1 else a.num.natAbs)).length<=j:=by
  split
  . rw[toL1];omega
  . omega
 omega
theorem Qwb{a b:Rat}{j k:Nat}(d:qw a<=j)(e:qw b<=k):qw (a / b)<=j+k:=by rw[Rat.div_def];exact Xj d (Qsk e)
theorem Qsl{a:Rat}{j:Nat}(d:qw a<=j):∀ n:Nat,qw (a ^ n)<=n*j+1
 | 0=>by rw[Rat.pow_zero];unfold qw;rw[show(1:Rat).num=1 from rfl,show(1:Rat).den=1 from rfl,show(1:Int).natAbs=1 from rfl,toL1];omega
 | n+1=>by have:=Xj (Qsl d n) d;rw[Rat.pow_succ,ut];omega
theorem Qup(x:Int):toF (x:Rat)=⟨toW x,toL 1⟩:=by unfold toF;rw[Rat.num_intCast,Rat.den_intCast]
theorem Qnf{n:Nat}{x:Int}(hn:big<=n)(a:-9223372036854775808<=x)(d:x<=9223372036854775807):Qb5 n x=some (toW x):=by
 unfold Qb5;rw[bifd];split;rename_i h;have e:(18446744073709551616 - Int.toNat (x%18446744073709551616))%18446744073709551616=x.natAbs:=om
 rw[sbind,e,X9 hn om,sbind,Ky,sbind,oi rfl,show -((x.natAbs:Nat):Int)=x by omega];rename_i h;have e:Int.toNat (x%18446744073709551616)=x.natAbs:=om
 rw[e,X9 hn om,sbind,Ky,sbind,oh oy,show((x.natAbs:Nat):Int)=x by omega]
theorem Qes{n:Nat}{x:Int}(hn:big<=n)(a:-9223372036854775808<=x)(d:x<=9223372036854775807):Jb n x=some (toF (x:Rat)):=by unfold Jb;rw[Qnf hn a d,sbind,X9 hn oy,sbind,Qup]
theorem Vf{n:Nat}(hn:big<=n):Jb n 0=some (toF 0):=Qes hn oy oy
theorem Qdy{n:Nat}(hn:big<=n):Jb n 1=some (toF 1):=Qes hn oy oy
theorem Qq8{z:Int}{d:Nat}(hd:d≠0):(mkRat z d).num.sign=z.sign:=by have:=Qfy (a:=z) (b:=0) hd (e:=1) oy;rw[Rat.zero_mkRat,show mkRat z d - 0=mkRat z d by rw[Rat.sub_eq_add_neg,show(-0:Rat)=0 from rfl,Rat.add_zero]] at this;rw[<-this];simp
theorem Qfz{n k:Nat}{f:Qa}(hn:big<=n)(a:1<=k)(hk:k<1099511627776)(e:Fk k f):X8 n f=some (fv f).num.sign:=by obtain⟨w,d,a1,a2,a3,a4,a5,a6,a7⟩:=Yw hn e a om;unfold X8;rw[a1,sbind,Qco hn ⟨a2,om⟩,sbind,<-a7,Qq8 a6]
theorem Qo0{a b:Rat}:(a - b).num=0↔a=b:=by rw[Rat.num_eq_zero];grind
theorem Qc3{n k:Nat}{f g:Qa}(hn:big<=n)(a:1<=k)(hk:k<1099511627776)(d:Fk k f)(e:Fk k g):Wh n f g=some (decide (fv f=fv g)):=by unfold Wh;rw[Qne hn a hk d e,sbind];refine yo some (decide_eq_decide.2 ?_);rw[wy,Qo0]
def qz(q:Rat):Nat:=blen q.num.natAbs+blen q.den
theorem Ql1{n k:Nat}{f:Qa}(hn:big<=n)(hk:k<1099511627776)(e:Fk k f):Kw n f=some ((blen (val f.Num.Gg)+blen (val f.Den):Nat):Int):=by unfold Kw;obtain⟨a,m,d,p⟩:=e;have g:=@Qgh (val f.Num.Gg);have i:=@Qgh (val f.Den);have j:=Qx a;have l:=Qx d;rw[Qgt hn om a,sbind,Qgt hn om d,sbind,w64 om om];rfl
theorem Qe5{n:Nat}{q:Rat}(hn:big<=n)(hk:qw q<1099511627776):Kw n (toF q)=some (qz q:Int):=by rw[Ql1 hn hk (Kf (ot _))];unfold qz toF toW;simp only[Qr]
theorem Qku{v b:Nat}(h:blen v<=b):(toL v).length<=b / 32+1:=by refine X3 ?_;have a:=@Qlu v;rw[Qft];exact xx a (yg oy om)
theorem qw_qz{q:Rat}{b:Nat}(h:qz q<=b):qw q<=b / 32+1:=by unfold qz at h;have a:=@Qku q.num.natAbs b om;have d:=@Qku q.den b om;unfold qw;omega
theorem Quq:∀ {u:Qd},wv u≠0->(wv u).sign=if u.Neg then -1 else 1
 | ⟨false,a⟩,h=>by have e:wv ⟨false,a⟩=(val a:Int):=rfl;rw[e] at h |-;rw[wi om];rfl
 | ⟨true,a⟩,h=>by have e:wv ⟨true,a⟩=-(val a:Int):=rfl;rw[e] at h |-;rw[Int.sign_eq_neg_one_of_neg om];rfl
theorem Qsm{z:Int}{d:Nat}(a:z≠0)(hd:d≠0):(mkRat z d)⁻¹=mkRat (z.sign*(d:Int)) z.natAbs:=by
 have h0:mkRat z d≠0:=λh=>a ((Rat.mkRat_eq_zero hd).1 h);have e:mkRat z d*mkRat (z.sign*(d:Int)) z.natAbs=1:=by rw[wc,<-Int.mul_assoc,Int.mul_sign_self,show(1:Rat)=mkRat 1 1 from rfl,Rat.mkRat_eq_iff (uo hd om) oy];simp[Int.mul_comm]
 grind
theorem Qng{n k:Nat}{f g:Qa}(hn:big<=n)(r:1<=k)(hk:k<1099511627776)(B:Fk k f)(C:Fk k g):Qaj n f g=some (if fv g=0 then (toF 0,false) else (toF (fv f / fv g),true)):=by
 obtain⟨w,d,a1,a2,a3,a4,a5,a6,a7⟩:=Yw hn B r om;obtain⟨u,e,v,i,E,m,y,p,j⟩:=Yw hn C r om;unfold Qaj;rw[a1,sbind,v,sbind,Qco hn ⟨i,om⟩,sbind,bifd];have s:(wv u).sign=0↔fv g=0:=by rw[<-j,Rat.mkRat_eq_zero p,wy]
 by_cases h0:fv g=0;rw[oi (s.2 h0),oi h0,Vf hn,sbind];rw[oh (λh=>h0 (s.1 h)),oh h0,V6 hn ⟨a2,om⟩ m om,sbind,Xs hn om om a4 i,sbind];have l1:=Qbb a2 a3 (ov (Qx m) y);have F:=@Xt (val d) (val u.Gg);have G:=Qx a4;have H:=Qx i;have a:wv u≠0:=λh=>h0 (by rw[<-j,h,Rat.zero_mkRat]);have l:val u.Gg≠0:=by rw[<-W9];omega
 rw[Xi (w:=⟨(toW (wv w * ↑(val e))).Neg != u.Neg,(toW (wv w * ↑(val e))).Gg⟩) hn ⟨X4 (wv w * ↑(val e)),by show(toW (wv w * ↑(val e))).Gg.length<_;omega⟩ (Q0 _) om (by rw[Qr];exact uo a6 l),sbind,Qr];refine yo some (Prod.ext ?_ rfl);refine yo toF ?_;have A:wv (⟨((toW (wv w * ↑(val e))).Neg != u.Neg),(toW (wv w * ↑(val e))).Gg⟩:Qd)=(wv w*(val e:Int))*(wv u).sign:=by
  have t:=W0 (wv w * ↑(val e));generalize toW (wv w * ↑(val e))=x at t |-;rw[<-t];have hs:=Quq a;rw[hs];unfold wv;cases x.Neg<;>cases u.Neg<;>simp
 rw[A,<-a7,<-j,Rat.div_def];have q:=Qsm a p;rw[W9] at q;rw[q,wc];congr 1;rw[Int.mul_assoc,Int.mul_comm (val e:Int)]
theorem Qie{v j:Nat}(h:(toL v).length<=j):∀ t,(toL (v ^ t)).length<=t*j+1
 | 0=>by rw[Nat.pow_zero,toL1];omega
 | t+1=>by have:=Qie h t;have:=@Xt (v ^ t) v;rw[Nat.pow_succ,ut];omega
theorem Qe6{n j t:Nat}{a:List Nat}(hn:big<=n)(d:Wd a)(e:a.length<=j)(k:j<1099511627776)(l:t<=7+1):Yp n a (t:Int)=some (toL (val a ^ t)):=by unfold Yp;rw[X9 hn oy,sbind];rw[Qbc (λi=>(toL (val a ^ i),(i:Int))) t (toL (val a ^ t))];intro i hi;have f:=Qie (ov (Qx d) e) i;have g:i*j<=8*j:=xg _ om;simp only[bifd];rw[oi om,Xs hn om om (Q0 _) d,sbind,Qr,w1 om,Nat.pow_succ];simp only[bifd];rw[oh om];unfold big at hn;omega;rfl
theorem Qp8(z:Int)(t:Nat):(if (decide (z<0) && decide (t%2=1))=true then -((z.natAbs ^ t:Nat):Int) else ((z.natAbs ^ t:Nat):Int))=z ^ t:=by
 rw[Int.natCast_pow];by_cases a:z<0;have e:(z.natAbs:Int)=-z:=om
 rw[e,ou a,Bool.true_and];rcases Nat.mod_two_eq_zero_or_one t with h | h;rw[oh (by rw[h];decide)];obtain⟨m,rfl⟩:∃ m,t=2*m:=⟨t / 2,om⟩
 rw[Int.pow_mul,Int.pow_mul];congr 1;rw[vk,vk,vk,vk];simp[Int.neg_mul_neg];rw[oi (by rw[h];decide)];obtain⟨m,rfl⟩:∃ m,t=2*m+1:=⟨t / 2,om⟩
 rw[vk,vk,Int.pow_mul,Int.pow_mul];have:(-z) ^ 2=z ^ 2:=by rw[vk,vk,vk,vk];simp[Int.neg_mul_neg]
 rw[this,Int.mul_neg,Int.neg_neg];have e:(z.natAbs:Int)=z:=om
 rw[oo a,Bool.false_and,oh oy,e]
theorem Qnh{n k:Nat}{f:Qa}{e:Int}(hn:big<=n)(F:1<=k)(hk:k<1099511627)(s:Fk k f):
 Qcd n f e=some (if e < -8\/8<e\/(e<0/\fv f=0) then (toF 0,false) else (toF (fv f ^ e),true)):=by
 unfold Qcd;simp only[jn_eq];by_cases c1:e < -8;rw[ou c1,bifT,bifT,Vf hn,sbind,oi (.inl c1)];rw[oo c1,bifF];by_cases a:8<e;rw[ou a,bifT,bifT,Vf hn,sbind,oi (.inr (.inl a))];rw[oo a,bifF];have J:=Qfz hn F om s;have K:=qw_fv s F;have I:Fk k (toF (fv f)):=Kf K;obtain⟨g1,E,g3,g4⟩:=I;have G:=Wf hn (Fk_Fw s om);have j:max e (wrap64 (-e))=((e.natAbs:Nat):Int):=by rw[w64 om om];omega
 have w:=Qe6 (t:=e.natAbs) hn g1 E om om;have A:=Qe6 (t:=e.natAbs) hn g3 g4 om om;have l1:=Qie (ov (Qx g1) E) e.natAbs;have L:=Qie (ov (Qx g3) g4) e.natAbs;have Q:e.natAbs*k<=8*k:=xg _ om;have g:decide (Int.tmod ((e.natAbs:Nat):Int) 2=1)=decide (e.natAbs%2=1):=by refine decide_eq_decide.2 ?_;rw[Int.tmod_eq_emod_of_nonneg om];omega
 have M:val (toF (fv f)).Num.Gg=(fv f).num.natAbs:=Qr _;have N:val (toF (fv f)).Den=(fv f).den:=Qr _;have v3:(toF (fv f)).Num.Neg=decide ((fv f).num<0):=rfl;rw[M] at w l1;rw[N] at A L
 have fin:∀(u d:Nat),(toL u).length<=8*k+1->(if (toF (fv f)).Num.Neg=true then (Vz n (⟨decide (Int.tmod (max e (wrap64 (-e))) 2=1),toL u⟩:Qd)).bind λB=>some ((⟨B,toL d⟩:Qa),true) else (Vz n (⟨false,toL u⟩:Qd)).bind λC=>some ((⟨C,toL d⟩:Qa),true)) =
  some (⟨toW (if (decide ((fv f).num<0) && decide (e.natAbs%2=1))=true then -(u:Int) else (u:Int)),toL d⟩,true):=by
  intro u d P;rw[j,g,v3];by_cases q:(fv f).num<0;rw[oi (ou q),Qcn hn ⟨Q0 _,by show(toL u).length<_;omega⟩,sbind,ou q,Bool.true_and];unfold wv;simp only[Qr];rw[oh (by rw[oo q];decide),Qcn hn ⟨Q0 _,by show(toL u).length<_;omega⟩,sbind,oo q,Bool.false_and];unfold wv;simp only[Qr]
 have bifi:∀ {α:Type}(b:Bool) (x y:α),(bif b then x else y)=if b=true then x else y:=λb x y=>by cases b<;>rfl
 by_cases l:e<0;rw[ou l,bifT,J,sbind];by_cases m:fv f=0;rw[m,show((0:Rat).num.sign)=0 from rfl,ou rfl,bifT,Vf hn,sbind,oi (.inr (.inr ⟨l,m ▸ rfl⟩))];have i:(fv f).num≠0:=λh=>m (Rat.num_eq_zero.1 h);rw[oo (by rw[wy];exact i),bifF,G,sbind,j,w,sbind,A,sbind,bifT];rw[bifi,<-j,fin _ _ om,oh (c:=e < -8\/8<e\/(e<0/\fv f=0)) (by rintro(h | h | h);exact c1 h;exact a h;exact m h.2)];refine yo some (Prod.ext ?_ rfl);have H:e=-((e.natAbs:Nat):Int):=om
 have r:fv f ^ e=(fv f ^ e.natAbs)⁻¹:=by rw[<-Rat.zpow_natCast,<-Rat.zpow_neg,<-H]
 rw[r];unfold toF;rw[Rat.num_inv,Rat.den_inv,Rat.num_pow,Rat.den_pow];have v:(fv f).num ^ e.natAbs≠0:=Int.pow_ne_zero i;rw[oh v,Int.natAbs_pow];have hs:=Qp8 (fv f).num e.natAbs;have O:0<(fv f).num.natAbs ^ e.natAbs:=Nat.pow_pos om;congr 2;rw[<-hs];by_cases p:(decide ((fv f).num<0) && decide (e.natAbs%2=1))=true;rw[oi p,oi p,Int.sign_eq_neg_one_of_neg om,Int.neg_mul,Int.one_mul];rw[oh p,oh p,wi om,Int.one_mul];rw[oo l,bifF,bifF,G,sbind,j,w,sbind,A,sbind,bifF];rw[bifi,<-j,fin _ _ om,oh (c:=e < -8\/8<e\/(e<0/\fv f=0)) (by rintro(h | h | h);exact c1 h;exact a h;exact l h.1)];refine yo some (Prod.ext ?_ rfl);have r:fv f ^ e=fv f ^ e.natAbs:=by
  rw[<-Rat.zpow_natCast,show((e.natAbs:Nat):Int)=e by omega]
 rw[r];unfold toF;rw[Rat.num_pow,Rat.den_pow,Qp8]
theorem Qur{a:Rat}{j:Nat}(f:qw a<=j){e:Int}(h:e.natAbs<=8):qw (a ^ e)<=8*j+1:=by
 have i:e.natAbs*j<=8*j:=xg _ om;have g:=Qsl f e.natAbs;rcases Int.lt_or_le e 0 with c | c;have d:a ^ e=(a ^ e.natAbs)⁻¹:=by rw[<-Rat.zpow_natCast,<-Rat.zpow_neg,show -((e.natAbs:Nat):Int)=e by omega]
 rw[d];exact Qsk om;have d:a ^ e=a ^ e.natAbs:=by rw[<-Rat.zpow_natCast,show((e.natAbs:Nat):Int)=e by omega]
 rw[d];omega
def rv(l:List Qa):List Rat:=l.map fv
def toR(l:List Rat):List Qa:=l.map toF
theorem Qf0(l:List Rat):rv (toR l)=l:=by
 unfold rv toR;rw[va]
 conv=>rhs;rw[<-List.map_id l]
 exact List.map_congr_left λq _=>Jn q
theorem Jg(l:List Qa):(rv l).length=l.length:=by unfold rv;simp
theorem Kx(l:List Rat):(toR l).length=l.length:=by unfold toR;simp
def FR(k:Nat)(l:List Qa):Prop:=∀ x∈l,Fk k x
def QR(k:Nat)(l:List Rat):Prop:=∀ x∈l,qw x<=k
theorem Qaz{k:Nat}{l:List Rat}(h:QR k l):FR k (toR l):=λx a=>by unfold toR at a;obtain⟨q,d,rfl⟩:=xd.1 a;exact Kf (h q d)
theorem QR_rv{k:Nat}{l:List Qa}(h:FR k l)(d:1<=k):QR k (rv l):=λx a=>by unfold rv at a;obtain⟨q,e,rfl⟩:=xd.1 a;exact qw_fv (h q e) d
theorem Qbp{j k:Nat}{l:List Qa}(h:FR j l)(hk:j<=k):FR k l:=λx a=>Wg (h x a) hk
theorem V8{j k:Nat}{l:List Rat}(h:QR j l)(hk:j<=k):QR k l:=λx a=>ov (h x a) hk
theorem Ql2{α:Type}{n:Nat}{a:List α}{g:α->Rat}{f:Nat->α->List Qa->Option (Lp (List Qa) (List Qa))}(_:big<=n)(j:a.length<=1000000)
 (e:∀ i x s,a[i]?=some x->f i x s=(appM 56 s [toF (g x)]).bind λy=>some (Lp.go y)):(rangeL f a 0 []).bind (lpK λs=>some s)=some (toR (a.map g)):=by
 rw[Yz (λi=>(a.take i).map λx=>toF (g x)) a,J7,uh];unfold toR;rw[va];rfl;intro i x d;have:=Jt d;rw[e i x _ d,Zp oe oe,sbind,Qdx _ d];rfl
theorem Qgu{n k:Nat}{a:List Qa}(hn:big<=n)(hk:k<1099511627776)(d:FR k a)(e:a.length<=1000000):Qcb n a=some (toR (rv a)):=by unfold Qcb;refine Ql2 (g:=fv) hn e λi x s f=>?_;rw[Wf hn (Fk_Fw (d x (Q1 f)) om),sbind]
theorem Qe7{n k:Nat}{a:List Qa}(hn:big<=n)(hk:k<1099511627776)(d:FR k a)(e:a.length<=1000000):Qac n a=some (toR (rv a)):=Qgu hn hk d e
def scaleQ(c:Rat)(l:List Rat):List Rat:=l.map (c * ·)
theorem Qf1{n k:Nat}{c:Qa}{a:List Qa}(hn:big<=n)(d:1<=k)(hk:k<1099511627776)(f:Fk k c)(e:FR k a)(j:a.length<=1000000):Zn n c a=some (toR (scaleQ (fv c) (rv a))):=by unfold Zn;rw[Ql2 (g:=λx=>fv c*fv x) hn j λi x s l=>?_];unfold scaleQ rv;rw[va];rfl;rw[Vc hn d hk f (e x (Q1 l)),sbind]
theorem Qjs{j k:Nat}{c:Rat}{l:List Rat}(d:qw c<=j)(h:QR k l):QR (j+k) (scaleQ c l):=λx a=>by unfold scaleQ at a;obtain⟨q,e,rfl⟩:=xd.1 a;exact Xj d (h q e)
theorem Qhx{α β τ R:Type}{f:Nat->α->List β->Option (Lp (List β) τ)}{K:Lp (List β) τ->Option R}(g:α->β->β)(xs:List α)(s:List β)(h:xs.length=s.length)
 (l:∀ i x y e,xs[i]?=some x->s[i]?=some y->e[i]?=some y->f i x e=some (.go (e.set i (g x y)))):(rangeL f xs 0 s).bind K=K (.go (List.zipWith g xs s)):=by
 have a:∀ i,i<=xs.length->(List.zipWith g (xs.take i) (s.take i)).length=i:=λi hi=>oe
 rw[Yz (λi=>List.zipWith g (xs.take i) (s.take i)++s.drop i) xs];rw[uh,h,uh,List.drop_length,vu];intro i x d;have hi:=Jt d;have hy:s[i]?=some s[i]:=ow om;have m:(List.zipWith g (xs.take i) (s.take i)++s.drop i)[i]?=some s[i]:=by rw[yi (by rw[a i om];exact ot _),a i om,Nat.sub_self,List.getElem?_drop,xa,hy]
 rw[l i x s[i] _ d hy m];refine yo (λz=>some (Lp.go z)) ?_;have hd:s.drop i=s[i]::s.drop (i+1):=xi om;have j:xs.take (i+1)=xs.take i++[x]:=by rw[vm,d];rfl
 have k:s.take (i+1)=s.take i++[s[i]]:=by rw[vm,hy];rfl
 rw[hd,List.set_append_right _ _ (by rw[a i om];exact ot _),a i om,Nat.sub_self,List.set_cons_zero,j,k,List.zipWith_append oe];simp;simp
def addQ(a b:List Rat):List Rat:=List.zipWith (·+·) a b
theorem Qsn{α:Type}{x:α}{l:List α}:getI (x::l) 0=some x:=rfl
theorem Qhy{n k:Nat}{a b:List Qa}(hn:big<=n)(f:1<=k)(hk:k<1099511627776)(g:FR k a)(j:FR k b)(l:a.length<=1000000):
 Qbj n [a,b]=some (if a.length=b.length then (toR (addQ (rv a) (rv b)),true) else ([],false)):=by
 unfold Qbj;have hs:sub [a,b] (1:Int) (([a,b]:List (List Qa)).length:Int)=some [b]:=rfl;rw[show decide ((([a,b]:List (List Qa)).length:Int)=0)=false from rfl,bifF,Qsn,sbind,Qgu hn hk g l,sbind,hs,sbind];simp only[rangeL];rw[Kx,Jg];by_cases h:a.length=b.length;rw[oi h,ou (show(b.length:Int)=(a.length:Int) by omega),xz,bifF,Qhx (λ(x:Qa) (y:Qa)=>toF (fv y+fv x)) b (toR (rv a)) (by rw[Kx,Jg,h]),J7,sbind];simp only[];rw[sbind,J7];refine yo some (Prod.ext ?_ rfl);simp only[];unfold addQ toR rv;rw[List.map_zipWith,va,List.zipWith_map_right,List.zipWith_map,List.zipWith_comm];congr 1;funext x y;simp only[Function.comp,Jn];intro i x y p m hy d;have e:Fk k y:=Qaz (QR_rv g f) y (Q1 hy);rw[Ws d,sbind,Wv hn f hk e (j x (Q1 m)),sbind,sbind,ui];rw[oh h,oo (show ¬(b.length:Int)=(a.length:Int) by omega),xw,bifT,sbind];rfl
theorem Qif{α β γ:Type}{g:α->β->γ}{P:γ->Prop}:∀ {a:List α}{b:List β},(∀ x∈a,∀ y∈b,P (g x y))->∀ z∈List.zipWith g a b,P z
 | [],_,_,z,d=>by simp at d
 | _::_,[],_,z,d=>by simp at d
 | x::a,y::b,h,z,d=>by rcases yh.1 d with rfl | d;exact h x (.head _) y (.head _);exact Qif (λf e i hy=>h f (.tail _ e) i (.tail _ hy)) z d
theorem Qso{j k:Nat}{a b:List Rat}(d:QR j a)(e:QR k b):QR (j+k+1) (addQ a b):=Qif λx f y hy=>Qdi (d x f) (e y hy)
theorem Qo1{a b:List Rat}:(addQ a b).length=min a.length b.length:=by unfold addQ;simp
theorem Qgi{c:Rat}{a:List Rat}:(scaleQ c a).length=a.length:=by unfold scaleQ;simp
theorem Qni{n m:Nat}(hn:big<=n)(hm:m<=300):Qal n (m:Int)=some (toR (List.replicate m 0)):=by
 unfold Qal;have e:min (max (m:Int) 0) 300=(m:Int):=om
 rw[e,Qdh om om,sbind];rw[Qbc (λi=>(List.replicate i (toF 0)++List.replicate (m - i) (⟨⟨false,[]⟩,[]⟩:Qa),(i:Int))) m (toR (List.replicate m 0))];intro i hi;simp only[bifd];have hd:List.replicate (m - i) (⟨⟨false,[]⟩,[]⟩:Qa)=⟨⟨false,[]⟩,[]⟩::List.replicate (m - (i+1)) ⟨⟨false,[]⟩,[]⟩:=by rw[show m - i=(m - (i+1))+1 by omega,uj]
 rw[oi om,Vf hn,sbind,hd,J1 oa,sbind,Vv oa,w1 om];refine yo (λz=>some (Lp.go (z,_))) ?_;rw[wm,xf];rfl;simp only[bifd];rw[oh om,Nat.sub_self,List.replicate_zero,vu];unfold toR;rw[List.map_replicate];unfold big at hn;omega;simp
def mixQ:List Rat->List (List Rat)->List Rat->List Rat
 | c::cs,a::l,z=>mixQ cs l (List.zipWith (λx o=>o+c*x) a z)
 | _,_,z=>z
theorem Qmu:∀ {cs:List Rat}{l:List (List Rat)}{z:List Rat}{c a},cs.length=l.length->mixQ (cs++[c]) (l++[a]) z=List.zipWith (λx o=>o+c*x) a (mixQ cs l z)
 | [],[],z,c,a,_=>rfl
 | [],_::_,_,_,_,h=>by simp at h
 | _::_,[],_,_,_,h=>by simp at h
 | x::cs,y::l,z,c,a,h=>by simp only[xp,mixQ];exact Qmu (by simpa using h)
theorem Qgj{m:Nat}:∀ {cs:List Rat}{l:List (List Rat)}{z:List Rat},(∀ a∈l,a.length=m)->z.length=m->(mixQ cs l z).length=m
 | [],_,z,_,h=>by simpa [mixQ] using h
 | _::_,[],z,_,h=>by simpa [mixQ] using h
 | x::cs,y::l,z,d,h=>by simp only[mixQ];exact Qgj (λa e=>d a (.tail _ e)) (by have:=d y (.head _);simp;omega)
theorem Qkv{j k:Nat}:∀ {cs:List Rat}{l:List (List Rat)}{z:List Rat}{b:Nat},QR j cs->(∀ a∈l,QR k a)->QR b z->QR (b+l.length*(j+k+1)) (mixQ cs l z)
 | [],_,z,b,_,_,h=>V8 h om
 | _::_,[],z,b,_,_,h=>V8 h om
 | x::cs,y::l,z,b,d,e,h=>by simp only[mixQ];have f:QR (b+(j+k)+1) (List.zipWith (λp o=>o+x*p) y z):=Qif λu n o i=>Qdi (h o i) (Xj (d x (.head _)) (e y (.head _) u n));refine V8 (Qkv (λq m=>d q (.tail _ m)) (λa g=>e a (.tail _ g)) f) ?_;rw[xy,ut];omega
theorem Qo2{m:Nat}:∀ {a z:List Rat},a.length=m->z.length=m->List.zipWith (λx o=>o+0*x) a z=z
 | [],[],_,_=>rfl
 | [],_::_,h,d=>by simp at h d;omega
 | _::_,[],h,d=>by simp at h d;omega
 | x::a,y::z,h,d=>by simp only[xy] at h d;rw[List.zipWith_cons_cons,Qo2 (m:=m - 1) om om];congr 1;grind
theorem Qo3{α:Type}{l:List (List α)}{m:Nat}:(∀(i:Nat) x,l[i]?=some x->x.length=m)↔∀ a∈l,a.length=m:=by constructor;intro h a d;obtain⟨j,e⟩:=wd d;exact h j a e;intro h i x f;exact h x (Q1 f)
theorem Qjt{n:Nat}{c:List Qa}{l:List (List Qa)}{m:Int}:Qca n c l m=Qhg n c l m:=Eq.symm (Eq.symm rfl)
theorem Qus(l:List Qa)(i:Nat):rv (l.take i)=(rv l).take i:=by unfold rv;rw[List.map_take]
open Classical in
theorem Qo4{n j k m:Nat}{c:List Qa}{l:List (List Qa)}(hn:big<=n)(A:1<=j)(I:1<=k)(T:j<1048576)(hk:k<1048576)(J:FR j c)(K:∀ a∈l,FR k a)(hm:m<=300)(S:l.length<=10000):
 Qhg n c l (m:Int)=some (if c.length=l.length/\∀ a∈l,a.length=m then (toR (mixQ (rv c) (l.map rv) (List.replicate m 0)),true) else ([],false)):=by
 unfold Qhg;simp only[jn_eq];by_cases g1:c.length=l.length;rw[ou (show(c.length:Int)=(l.length:Int) by omega),xz,bifF,oo (show ¬(m:Int)<0 by omega),bifF,oo (show ¬(300:Int)<(m:Int) by omega),bifF];rw[Y0 (λ_ (a:List Qa)=>a.length=m) (r:=(([]:List Qa),false))];rw[Qo3];by_cases s:∀ a∈l,a.length=m;rw[oi s,oi ⟨g1,s⟩,Qni hn hm,sbind];have C:=QR_rv J A;rw[Yz (λi=>toR (mixQ (rv (c.take i)) ((l.take i).map rv) (List.replicate m 0))) l,J7,<-g1,uh,g1,uh];intro i a u;have hi:=Jt u;have g:c[i]?=some c[i]:=ow om;have e:Fk j c[i]:=J _ (List.getElem_mem om);have Q:=K a (Q1 u);have t:=s a (Q1 u);generalize c[i]' om=ck at g e;have L:c.take (i+1)=c.take i++[ck]:=by rw[vm,g];rfl
 have M:l.take (i+1)=l.take i++[a]:=by rw[vm,u];rfl
 have N:rv (c.take (i+1))=rv (c.take i)++[fv ck]:=by unfold rv;rw[L,yd];rfl
 have O:(l.take (i+1)).map rv=(l.take i).map rv++[rv a]:=by rw[M,yd];rfl
 have P:(rv (c.take i)).length=((l.take i).map rv).length:=by rw[Jg];simp;omega
 rw[Ws g,sbind,Qfz hn A om e,sbind,bifd,N,O,Qmu P]
 have p:(mixQ (rv (c.take i)) ((l.take i).map rv) (List.replicate m 0)).length=m:=Qgj (λb B=>by
  obtain⟨d,hd,rfl⟩:=xd.1 B
  rw[Jg];exact s d (yf hd)) oa
 have H:QR (1+(l.take i).length*(j+k+1)) (mixQ (rv (c.take i)) ((l.take i).map rv) (List.replicate m 0)):=by
  have:=Qkv (j:=j) (k:=k) (b:=1) (cs:=rv (c.take i)) (l:=(l.take i).map rv) (z:=List.replicate m 0) (λq w=>by rw[Qus] at w;exact C q (yf w)) (λb B=>by
   obtain⟨d,hd,rfl⟩:=xd.1 B
   exact QR_rv (K d (yf hd)) I) (λq w=>by rw[(List.mem_replicate.1 w).2,Yx];exact ot _)
  rwa [xb] at this
 have R:(l.take i).length*(j+k+1)<=10000*2097152:=yv oe om;have f:=V8 H (show _<=20971520001 by omega);generalize mixQ (rv (c.take i)) ((l.take i).map rv) (List.replicate m 0)=z at p f;by_cases g3:(fv ck).num.sign=0;rw[oi g3];have h0:fv ck=0:=Rat.num_eq_zero.1 (wy.1 g3);rw[h0,Qo2 (m:=m) (by rw[Jg,t]) p];rw[oh g3,Qhx (λ(x:Qa) (o:Qa)=>toF (fv o+fv ck*fv x)) a (toR z) (by rw[Kx,t,p]),J7];refine yo (λz=>some (Lp.go z)) ?_;unfold toR rv;rw[List.map_zipWith,List.zipWith_map_right,List.zipWith_map_left];congr 1;funext x y;rw[Jn];intro V x y W E hy F;have G:Fk 20971520001 y:=Qaz f y (Q1 hy);have v:=Q x (Q1 E);have U:qw (fv ck*fv x)<=j+k:=Xj (qw_fv e A) (qw_fv v I);rw[Ws F,sbind,sbind,Vc (k:=j+k) hn om om (Wg e om) (Wg v om),sbind,Wv (k:=20971520001) hn om om G (Kf om),sbind,sbind,ui,Jn];rfl;rw[oh s,oh (λh=>s h.2)];intro i x u;constructor;intro h;rw[ou (show(x.length:Int)=(m:Int) by omega)];rfl;intro h;rw[oo (show ¬(x.length:Int)=(m:Int) by omega)];rfl;rw[oo (show ¬(c.length:Int)=(l.length:Int) by omega),oh (λh=>g1 h.1)];rfl
theorem Qig(l:List Qa)(i:Nat):(rv l)[i]?=(l[i]?).map fv:=by unfold rv;simp
theorem Qnj{n k:Nat}{a b:List Qa}(hn:big<=n)(m:1<=k)(hk:k<1099511627776)(p:FR k a)(q:FR k b):Qam n a b=some (decide (rv a=rv b)):=by
 classical
 unfold Qam;by_cases h:a.length=b.length;rw[ou (show(a.length:Int)=(b.length:Int) by omega),xz,bifF];rw[Y0 (λi (x:Qa)=>∀ y,b[i]?=some y->fv x=fv y) (r:=false)];have e:(∀(i:Nat) x,a[i]?=some x->∀ y,b[i]?=some y->fv x=fv y)↔rv a=rv b:=by constructor;intro g;refine List.ext_getElem? λi=>?_;rw[Qig,Qig];rcases xn i a.length with hi | hi;have j:a[i]?=some a[i]:=ow hi;have d:b[i]?=some (b[i]' om):=ow om;have:=g i _ j _ d;rw[j,d];exact yo some this;rw[ol hi,ol om];intro g i x f y hy;have:=yo (·[i]?) g;simp only[Qig,f,hy,Option.map_some] at this;exact Option.some.inj this
 by_cases hd:rv a=rv b;rw[oi (e.2 hd),ou hd];rw[oh (λg=>hd (e.1 g)),oo hd];intro i x f;have hi:=Jt f;have d:b[i]?=some (b[i]' om):=ow om;rw[Ws d,sbind,Qc3 hn m hk (p x (Q1 f)) (q _ (Q1 d)),sbind];constructor;intro g;rw[ou (g _ d)];rfl;intro g;rw[oo (λl=>g λy hy=>by rw[d] at hy;cases hy;exact l)];rfl;rw[oo (show ¬(a.length:Int)=(b.length:Int) by omega),xw,bifT,oo];intro g;apply h;rw[<-Jg a,g,Jg]
theorem Zv(x m:Int):K8 x m=some (decide (0<=x/\x<m)):=by unfold K8;simp only[jn_eq,bifd];by_cases h:0<=x;rw[oi h];simp[h];rw[oh h];simp[h]
def rdT(i:Qp):List Int:=if i.Op=6\/i.Op=11 then [i.A] else if i.Op=7\/i.Op=8\/i.Op=9\/i.Op=10 then [i.A,i.B] else []
theorem Qkw(i:Qp):Yn i=some (rdT i):=by unfold Yn rdT;simp only[jn_eq,bifd];by_cases e:i.Op=6;simp[e];by_cases d:i.Op=11;simp[d];by_cases f:i.Op=7;simp[f];by_cases g:i.Op=8;simp[g];by_cases j:i.Op=9;simp[j];by_cases a:i.Op=10;simp[a];simp[e,f,g,j,a,d]
def TW(t:Qs):Prop:=∀ c∈t.Code,Fw c.N
theorem Qgk{α:Type}{l:List α}{P:α->Prop}:(∀(i:Nat) x,l[i]?=some x->P x)↔∀ a∈l,P a:=by constructor;intro h a d;obtain⟨j,e⟩:=wd d;exact h j a e;intro h i x f;exact h x (Q1 f)
noncomputable def dP(p:Prop):Bool:=@decide p (Classical.propDecidable p)
theorem decP{p:Prop}[Decidable p]:decide p=dP p:=by unfold dP;congr
theorem dP_t{p:Prop}(h:p):dP p=true:=by unfold dP;exact @decide_eq_true p (Classical.propDecidable p) h
theorem dP_f{p:Prop}(h:¬ p):dP p=false:=by unfold dP;exact @decide_eq_false p (Classical.propDecidable p) h
theorem dP_c{p q:Prop}(h:p↔q):dP p=dP q:=by rw[show p=q from propext h]
theorem Ya{p q:Prop}[Decidable p](h:p↔q):some (decide p)=some (dP q):=by rw[decP,dP_c h]
theorem Qp9{p q:Prop}(h:p↔q):some (dP p)=some (dP q):=by rw[dP_c h]
theorem Qih{p q r:Prop}[Decidable p][Decidable q](h:p/\q↔r):(if p then some (decide q) else some false)=some (dP r):=by by_cases a:p;rw[oi a];exact Ya ⟨λe=>h.1 ⟨a,e⟩,λd=>(h.2 d).2⟩;rw[oh a,dP_f λd=>a (h.2 d).1]
theorem Qwc{p q r:Prop}[Decidable p](h:p/\q↔r):(if p then some (dP q) else some false)=some (dP r):=by by_cases a:p;rw[oi a];exact Qp9 ⟨λe=>h.1 ⟨a,e⟩,λd=>(h.2 d).2⟩;rw[oh a,dP_f λd=>a (h.2 d).1]
def blankF(f:Qa):Prop:=f.Num.Neg=false/\f.Num.Gg=[]/\f.Den=[]
theorem Qkx(f:Qa):Qab f=some (dP (blankF f)):=by unfold Qab blankF;obtain⟨⟨s,a⟩,d⟩:=f;simp only[jn_eq];cases s;simp only[xw,bifT,bifd];refine Qih ⟨λh=>⟨trivial,oq om,oq om⟩,λh=>?_⟩;obtain⟨_,rfl,rfl⟩:=h;exact⟨rfl,rfl⟩;simp only[xz,bifF];rw[dP_f λh=>by cases h.1]
theorem bifP{α:Type}(p:Prop)(a b:α):(bif dP p then a else b)=@ite _ p (Classical.propDecidable p) a b:=by by_cases h:p;rw[dP_t h,oi h];rfl;rw[dP_f h,oh h];rfl
theorem bifnP{α:Type}(p:Prop)(a b:α):(bif !dP p then a else b)=@ite _ p (Classical.propDecidable p) b a:=by by_cases h:p;rw[dP_t h,oi h];rfl;rw[dP_f h,oh h];rfl
def mayR(t:Qs)(i:Nat)(x:Qp):Prop:=
 if x.Op=1 then x.A=0/\x.B=0/\x.N=toF (fv x.N) else
 blankF x.N/\(∀ r∈rdT x,0<=r/\r<(i:Int)) /\
 if x.Op=2 then x.A=0/\x.B=0 else if x.Op=3 then (0<=x.A/\x.A<t.Dim)/\x.B=0 else if x.Op=4 then (0<=x.A/\x.A<t.Par)/\x.B=0 else
 if x.Op=6 then x.B=0 else if x.Op=11 then -8<=x.B/\x.B<=8 else (rdT x).length=2
theorem Qnk{n:Nat}{t:Qs}{i:Nat}{x:Qp}(hn:big<=n)(v:Fw x.N)(w:t.Code[i]?=some x):Qak n t (i:Int)=some (dP (mayR t i x)):=by
 unfold Qak mayR;rw[Ws w,sbind,bifd];by_cases e:x.Op=1
 have l:(if x.Op=1 then x.A=0/\x.B=0/\x.N=toF (fv x.N) else blankF x.N/\(∀ r∈rdT x,0<=r/\r<(i:Int)) /\
  if x.Op=2 then x.A=0/\x.B=0 else if x.Op=3 then (0<=x.A/\x.A<t.Dim)/\x.B=0 else if x.Op=4 then (0<=x.A/\x.A<t.Par)/\x.B=0 else
  if x.Op=6 then x.B=0 else if x.Op=11 then -8<=x.B/\x.B<=8 else (rdT x).length=2)=(x.A=0/\x.B=0/\x.N=toF (fv x.N)):=oi e
 simp only[l];rw[oi e];have u:=Qe4 hn v;simp only[jn_eq,Qbi,sbind];have s:Wb (⟨x.Op,x.A,x.B⟩:Q3) ⟨1,0,0⟩=decide (x.A=0/\x.B=0):=by unfold Wb;simp only[e];by_cases a:x.A=0<;>by_cases b:x.B=0<;>simp[a,b]
 rw[s,u,sbind,bifd];rw[@decP _ (Classical.propDecidable _)];refine Qwc ⟨λh=>⟨h.1.1,h.1.2,h.2⟩,λh=>⟨⟨h.1,h.2.1⟩,h.2.2⟩⟩
 have l:(if x.Op=1 then x.A=0/\x.B=0/\x.N=toF (fv x.N) else blankF x.N/\(∀ r∈rdT x,0<=r/\r<(i:Int)) /\
  if x.Op=2 then x.A=0/\x.B=0 else if x.Op=3 then (0<=x.A/\x.A<t.Dim)/\x.B=0 else if x.Op=4 then (0<=x.A/\x.A<t.Par)/\x.B=0 else
  if x.Op=6 then x.B=0 else if x.Op=11 then -8<=x.B/\x.B<=8 else (rdT x).length=2)=(blankF x.N/\(∀ r∈rdT x,0<=r/\r<(i:Int)) /\
  if x.Op=2 then x.A=0/\x.B=0 else if x.Op=3 then (0<=x.A/\x.A<t.Dim)/\x.B=0 else if x.Op=4 then (0<=x.A/\x.A<t.Par)/\x.B=0 else
  if x.Op=6 then x.B=0 else if x.Op=11 then -8<=x.B/\x.B<=8 else (rdT x).length=2):=oh e
 simp only[l];rw[oh e,Qkx,sbind,bifnP];by_cases f:blankF x.N;rw[oi f,Qkw,sbind,Y0 (λ_ (r:Int)=>0<=r/\r<(i:Int)) (r:=false)];rw[Qgk];by_cases k:∀ r∈rdT x,0<=r/\r<(i:Int);rw[oi k];have fin:∀ {o:Option Bool}{p:Prop},o=some (dP p)->o=some (dP (blankF x.N/\(∀ r∈rdT x,0<=r/\r<(i:Int))/\p)):=λh=>h.trans (Qp9 ⟨λg=>⟨f,k,g⟩,λg=>g.2.2⟩);refine fin ?_;simp only[jn_eq,Qbi,sbind,Zv,bifd];by_cases m:x.Op=2;simp only[oi m];refine yo some ?_;unfold Wb;simp only[m];rw[<-decP];by_cases a:x.A=0<;>by_cases b:x.B=0<;>simp[a,b];simp only[oh m];by_cases g3:x.Op=3;simp only[oi g3];exact Qih Iff.rfl;simp only[oh g3];by_cases g4:x.Op=4;simp only[oi g4];exact Qih Iff.rfl;simp only[oh g4];by_cases q:x.Op=6;simp only[oi q];exact Ya Iff.rfl;simp only[oh q];by_cases d:x.Op=11;simp only[oi d];exact Qih Iff.rfl;simp only[oh d];exact Ya om;rw[oh k,dP_f λh=>k h.2.1];intro j r _;simp only[Zv,sbind];constructor;intro h;rw[ou h];rfl;intro h;rw[oo h];rfl;rw[oh f,dP_f λh=>f h.1]
def wholeR(t:Qs):Prop:=(1<=t.Dim/\t.Dim<=6)/\(0<=t.Par/\t.Par<=6)/\(t.Outs.length:Int)=t.Dim/\t.Code.length<=300
def tapeR(t:Qs):Prop:=wholeR t/\(∀(i:Nat) x,t.Code[i]?=some x->mayR t i x)/\∀ o∈t.Outs,0<=o/\o<(t.Code.length:Int)
theorem Qky(t:Qs)(h:-9223372036854775808<=t.Dim/\t.Dim<=9223372036854775807):Qaa t=some (dP (wholeR t)):=by
 unfold Qaa wholeR;simp only[jn_eq,Zv,sbind,bifd];have d:(0<=wrap64 (t.Dim - 1)/\wrap64 (t.Dim - 1)<6)↔(0<=t.Dim - 1/\t.Dim - 1<6):=by unfold wrap64;omega
 by_cases g1:0<=t.Dim - 1/\t.Dim - 1<6;rw[oi (d.2 g1)];by_cases a:0<=t.Par/\t.Par<7;rw[oi a];by_cases g3:(t.Outs.length:Int)=t.Dim;rw[oi g3];exact Ya om;rw[oh g3,dP_f om];rw[oh a,dP_f om];rw[oh (λh=>g1 (d.1 h)),dP_f om]
theorem Qq9{R:Type}{f:Nat->Qp->Unit->Option (Lp Unit R)}{K:Unit->Option R}{xs:List Qp}(P:Nat->Qp->Prop)(r:Nat->R)
 (a:∀ i x,xs[i]?=some x->(P i x->f i x ()=some (.go ()))/\(¬ P i x->f i x ()=some (.out (r i)))) :
 ((∀(i:Nat) x,xs[i]?=some x->P i x)/\(rangeL f xs 0 ()).bind (lpK K)=K ())\/(¬(∀(i:Nat) x,xs[i]?=some x->P i x)/\∃ j,(rangeL f xs 0 ()).bind (lpK K)=some (r j)):=by
 have key:∀(xs:List Qp) (k:Nat),(∀ i x,xs[i]?=some x->(P (k+i) x->f (k+i) x ()=some (.go ()))/\(¬ P (k+i) x->f (k+i) x ()=some (.out (r (k+i))))) ->
  ((∀(i:Nat) x,xs[i]?=some x->P (k+i) x)/\(rangeL f xs k ()).bind (lpK K)=K ())\/(¬(∀(i:Nat) x,xs[i]?=some x->P (k+i) x)/\∃ j,(rangeL f xs k ()).bind (lpK K)=some (r j)):=by
  intro xs
  induction xs with
  | nil=>intro k _;exact .inl ⟨λi x h=>by simp at h,rfl⟩
  | cons x xs m=>
    intro k a;have h0:=a 0 x rfl;simp only[xa] at h0;by_cases d:P k x;have:=m (k+1) (λi y hy=>by have:=a (i+1) y (by simpa using hy);rw[show k+(i+1)=k+1+i by omega] at this;exact this);simp only[rangeL,h0.1 d,sbind];rcases this with ⟨e,g⟩ | ⟨e,g⟩;refine .inl ⟨λi y hy=>?_,g⟩;cases i with
    | zero=>simp at hy;subst hy;exact d
    | succ i=>rw[show k+(i+1)=k+1+i by omega];exact e i y (by simpa using hy)
    refine .inr ⟨λh=>e λi y hy=>?_,g⟩;have:=h (i+1) y (by simpa using hy);rwa [show k+(i+1)=k+1+i by omega] at this;refine .inr ⟨λh=>d (h 0 x rfl),k,?_⟩;simp only[rangeL,h0.2 d,sbind];rfl
 have:=key xs 0 (λi x l=>by rw[xm];exact a i x l);simp only[xm] at this;exact this
theorem Qe8{n:Nat}{t:Qs}(hn:big<=n)(s:TW t)(hd:-9223372036854775808<=t.Dim/\t.Dim<=9223372036854775807):V0 n t=some (dP (tapeR t)):=by
 unfold V0 Qb9;rw[Qky t hd,sbind,bifnP];by_cases e:wholeR t;rw[oi e]
 have key:=Qq9 (K:=λ(_:Unit)=>(rangeL (λ(_:Nat) (p:Int) (_:Unit)=>
  (K8 p (t.Code.length:Int)).bind λm=>
  bif !m then (
   some (Lp.out ((t.Code.length:Int))))
  else (
   some (Lp.go ()))) t.Outs 0 ()).bind (lpK λ(_:Unit)=>
 some (-1:Int))) (f:=λ(a:Nat) (_:Qp) (_:Unit)=>
  (Qak n t (a:Int)).bind λl=>
  bif !l then (
   some (Lp.out ((a:Int))))
  else (
   some (Lp.go ()))) (xs:=t.Code) (λi x=>mayR t i x) (λi=>(i:Int)) (λi x q=>by
  rw[Qnk hn (s x (Q1 q)) q,sbind];constructor;intro h;rw[dP_t h];rfl
  intro h;rw[dP_f h];rfl)
 rcases key with ⟨g,k⟩ | ⟨g,j,k⟩;rw[k,Y0 (λ_ (o:Int)=>0<=o/\o<(t.Code.length:Int)) (r:=(t.Code.length:Int))];rw[Qgk];by_cases d:∀ o∈t.Outs,0<=o/\o<(t.Code.length:Int);rw[oi d,sbind];exact Ya ⟨λ_=>⟨e,g,d⟩,λ_=>rfl⟩;rw[oh d,sbind];exact Ya ⟨λh=>om,λh=>absurd h.2.2 d⟩;intro i o _;simp only[Zv,sbind];constructor;intro h;rw[ou h];rfl;intro h;rw[oo h];rfl;rw[k,sbind];exact Ya ⟨λh=>om,λh=>absurd h.2.1 g⟩;rw[oh e,sbind];exact Ya ⟨λh=>om,λh=>absurd h.1 e⟩
theorem Qag(f:Qc):Qt f f=true:=by simp[Qt]
theorem Qbq{k a b c:Int}(h:k≠0):Qt ⟨k,a,b,c⟩ ⟨0,0,0,0⟩=false:=by unfold Qt;rw[show(k == 0)=false by simpa using h];rfl
def noteG(g:Qf)(q:Rat):Qf:=⟨⟨wrap64 (g.Count.Seen+1),max g.Count.Peak (qz q:Int)⟩,g.limit⟩
theorem Qmv{n:Nat}{g:Qf}{q:Rat}(hn:big<=n)(a:qw q<1099511627776):Kc n g (toF q)=some (decide ((qz q:Int)<=g.limit),noteG g q):=by unfold Kc Wr;rw[Qe5 hn a,sbind,sbind];rfl
def fitQ(a:Int):List Rat->Nat->Option Nat
 | [],_=>none
 | q::l,i=>if (qz q:Int)<=a then fitQ a l (i+1) else some i
theorem Qtl{n:Nat}{g:Qf}{l:List Rat}(hn:big<=n)(e:QR 1099511627775 l):
 ∃ a,a.limit=g.limit/\V1 n g (toR l)=some (match fitQ g.limit l 0 with | none=>((l.length:Int),true,a) | some i=>((i:Int),false,a)):=by
 unfold V1
 have key:∀(l:List Rat) (i:Nat) (g:Qf) (K:Qf->Option (Int×Bool×Qf)),QR 1099511627775 l->∃ a,a.limit=g.limit /\
  (rangeL (λ(k:Nat) (r:Qa) (m:Qf)=>
   (Kc n m r).bind λd=>
   bif !d.1 then (some (Lp.out (((k:Int),false,d.2)))) else (some (Lp.go d.2))) (toR l) i g).bind (lpK K)=match fitQ g.limit l i with | none=>K a | some i=>some ((i:Int),false,a):=by
  intro l
  induction l with
  | nil=>intro i g K _;exact⟨g,rfl,rfl⟩
  | cons q l t=>
    intro i g K e;simp only[toR,yz,rangeL,fitQ];rw[Qmv hn (by have:=e q (.head _);omega),sbind];simp only[];by_cases h:(qz q:Int)<=g.limit;rw[ou h,oi h,xz,bifF,sbind];obtain⟨a,f,j⟩:=t (i+1) (noteG g q) K λx s=>e x (.tail _ s);exact⟨a,f,j⟩;rw[oo h,oh h,xw,bifT,sbind];exact⟨noteG g q,rfl,rfl⟩
 obtain⟨a,f,j⟩:=key l 0 g (λp=>some (((toR l).length:Int),true,p)) e;refine⟨a,f,?_⟩;rw[j,Kx];cases fitQ g.limit l 0<;>rfl
def opQ(x:Qp)(T:Rat)(Y P done:List Rat):Option Rat:=
 if x.Op=6 then some (-done.getD x.A.toNat 0) else
 if x.Op=11 then (if x.B < -8\/8<x.B\/(x.B<0/\done.getD x.A.toNat 0=0) then none else some (done.getD x.A.toNat 0 ^ x.B)) else
 if x.Op=7 then some (done.getD x.A.toNat 0+done.getD x.B.toNat 0) else
 if x.Op=8 then some (done.getD x.A.toNat 0 - done.getD x.B.toNat 0) else
 if x.Op=9 then some (done.getD x.A.toNat 0*done.getD x.B.toNat 0) else
 if x.Op=10 then (if done.getD x.B.toNat 0=0 then none else some (done.getD x.A.toNat 0 / done.getD x.B.toNat 0)) else
 if x.Op=1 then some (fv x.N) else
 if x.Op=3 then some (Y.getD x.A.toNat 0) else
 if x.Op=4 then some (P.getD x.A.toNat 0) else some T
def runQ(a:Int)(T:Rat)(Y P:List Rat):List Qp->Nat->List Rat->(Int×Nat) ⊕ List Rat
 | [],_,done=>.inr done
 | x::c,i,done=>match opQ x T Y P done with
   | none=>.inl (3,i)
   | some q=>if (qz q:Int)<=a then runQ a T Y P c (i+1) (done++[q]) else .inl (6,i)
theorem Qet{l:List Rat}{r:Int}(a:0<=r)(d:r<(l.length:Int)):getI (toR l) r=some (toF (l.getD r.toNat 0)):=by
 obtain⟨k,rfl⟩:∃ k:Nat,r=(k:Int):=⟨r.toNat,om⟩
 have hk:k<l.length:=om
 rw[Qbn,ui];unfold toR;rw[xo,ow hk,yn,ow hk];rfl
theorem Qed{k:Nat}{l:List Rat}{i:Nat}(h:QR k l)(a:1<=k):qw (l.getD i 0)<=k:=by rw[yn];rcases xn i l.length with hi | hi;rw[ow hi];exact h _ (List.getElem_mem hi);rw[ol hi];show qw 0<=k;rw[Yx];exact a
theorem rdT_A{x:Qp}(h:x.Op=6\/x.Op=11\/x.Op=7\/x.Op=8\/x.Op=9\/x.Op=10):x.A∈rdT x:=by unfold rdT;by_cases a:x.Op=6\/x.Op=11;rw[oi a];simp;rw[oh a,oi om];simp
theorem rdT_B{x:Qp}(h:x.Op=7\/x.Op=8\/x.Op=9\/x.Op=10):x.B∈rdT x:=by unfold rdT;rw[oh om,oi om];simp
theorem Qut{t:Qs}{i:Nat}{x:Qp}(h:mayR t i x):∀ r∈rdT x,0<=r/\r<(i:Int):=by unfold mayR at h;by_cases d:x.Op=1;intro r a;unfold rdT at a;rw[oh om,oh om] at a;cases a;rw[oh d] at h;exact h.2.1
theorem Qwd{t:Qs}{i:Nat}{x:Qp}(h:mayR t i x)(a:x.Op=3):0<=x.A/\x.A<t.Dim:=by unfold mayR at h;rw[oh om,oh om,oi a] at h;exact h.2.2.1
theorem Qwe{t:Qs}{i:Nat}{x:Qp}(h:mayR t i x)(a:x.Op=4):0<=x.A/\x.A<t.Par:=by unfold mayR at h;rw[oh om,oh om,oh om,oi a] at h;exact h.2.2.1
theorem Qra{n k:Nat}{g:Qf}{t:Qs}{x:Qp}{T:Rat}{Y P done:List Rat}(hn:big<=n)(e:1<=k)(hk:k<1048576)(m:mayR t done.length x)(u:Fk k x.N)
 (G:qw T<=k) (F:QR k Y) (E:QR k P) (s:QR k done) (hy:(Y.length:Int)=t.Dim) (I:(P.length:Int)=t.Par) :
 ∃ v,Qz n g x ⟨toF T,toR Y,toR P⟩ (toR done)=some (match opQ x T Y P done with | none=>(v,false) | some q=>(toF q,true))/\∀ q,opQ x T Y P done=some q->qw q<=8*k+1:=by
 unfold Qz opQ;have l:=Qut m;have dA:x.Op=6\/x.Op=11\/x.Op=7\/x.Op=8\/x.Op=9\/x.Op=10->getI (toR done) x.A=some (toF (done.getD x.A.toNat 0)):=λh=>Qet (l _ (rdT_A h)).1 (l _ (rdT_A h)).2;have dB:x.Op=7\/x.Op=8\/x.Op=9\/x.Op=10->getI (toR done) x.B=some (toF (done.getD x.B.toNat 0)):=λh=>Qet (l _ (rdT_B h)).1 (l _ (rdT_B h)).2;have qA:qw (done.getD x.A.toNat 0)<=k:=Qed s e;have qB:qw (done.getD x.B.toNat 0)<=k:=Qed s e;generalize done.getD x.A.toNat 0=a at dA qA |-;generalize done.getD x.B.toNat 0=b at dB qB |-;have fA:Fk k (toF a):=Kf qA;have fB:Fk k (toF b):=Kf qB;simp only[bifd];by_cases y:x.Op=6
 . simp only[oi y]
   unfold Yc;rw[dA om,sbind,Qnd hn (Fk_Fw fA om),sbind,sbind,Jn];exact⟨toF 0,rfl,λq d=>by cases d;rw[Qsj];omega⟩
 simp only[oh y];by_cases j:x.Op=11
 . simp only[oi j]
   unfold Yd;rw[dA om,sbind,Qnh hn e om fA,sbind,Jn];refine⟨toF 0,?_,λq d=>?_⟩
   . split<;>rfl
   . split at d
     . cases d
     . rename_i H
       cases d;exact Qur qA om
 simp only[oh j];by_cases A:x.Op=7
 . simp only[oi A]
   unfold Ye;rw[dA om,sbind,dB om,sbind,Wv hn e om fA fB,sbind,sbind,Jn,Jn];exact⟨toF 0,rfl,λq d=>by cases d;have:=Qdi qA qB;omega⟩
 simp only[oh A];by_cases B:x.Op=8
 . simp only[oi B]
   unfold Yf;rw[dA om,sbind,dB om,sbind,Qnc hn e om fA fB,sbind,sbind,Jn,Jn];exact⟨toF 0,rfl,λq d=>by cases d;have:=Qwa qA qB;omega⟩
 simp only[oh B];by_cases C:x.Op=9
 . simp only[oi C]
   unfold Yg;rw[dA om,sbind,dB om,sbind,Vc hn e om fA fB,sbind,sbind,Jn,Jn];exact⟨toF 0,rfl,λq d=>by cases d;have:=Xj qA qB;omega⟩
 simp only[oh C];by_cases f:x.Op=10
 . simp only[oi f]
   unfold Yh;rw[dA om,sbind,dB om,sbind,Qng hn e om fA fB,sbind,Jn,Jn];refine⟨toF 0,?_,λq d=>?_⟩
   . split<;>rfl
   . split at d
     . cases d
     . cases d
       have:=Qwb qA qB;omega
 simp only[oh f];unfold Jm;simp only[bifd];by_cases w:x.Op=1
 . simp only[oi w]
   unfold Y3;rw[Wf hn (Fk_Fw u om),sbind,sbind,sbind];exact⟨toF 0,rfl,λq d=>by cases d;have:=qw_fv u e;omega⟩
 simp only[oh w];by_cases p:x.Op=3
 . simp only[oi p]
   obtain⟨a1,a2⟩:=Qwd m p;rw[Qet a1 om,sbind,sbind];exact⟨toF 0,rfl,λq d=>by cases d;have:=Qed (i:=x.A.toNat) F e;omega⟩
 simp only[oh p];by_cases r:x.Op=4
 . simp only[oi r]
   obtain⟨a1,a2⟩:=Qwe m r;rw[Qet a1 om,sbind,sbind];exact⟨toF 0,rfl,λq d=>by cases d;have:=Qed (i:=x.A.toNat) E e;omega⟩
 simp only[oh r];exact⟨toF 0,rfl,λq d=>by cases d;omega⟩
theorem Qo5(l:List Rat)(q:Rat):toR l++[toF q]=toR (l++[q]):=by unfold toR;simp
theorem Qtm{n k:Nat}{g:Qf}{t:Qs}{T:Rat}{Y P:List Rat}(hn:big<=n)(h1:129<=k)(hk:k<1048576)(U:tapeR t)(N:V0 n t=some true)(u:∀ c∈t.Code,Fk k c.N)
 (O:qw T<=k) (Q:QR k Y) (M:QR k P) (hy:(Y.length:Int)=t.Dim) (H:(P.length:Int)=t.Par) (A:g.limit<=4096) :
 ∃ f,Ja n g t ⟨toF T,toR Y,toR P⟩=some (match runQ g.limit T Y P t.Code 0 [] with | .inl e=>([],⟨e.1,0,0,(e.2:Int)⟩,f) | .inr l=>(toR l,⟨0,0,0,0⟩,f)):=by
 unfold Ja;simp only[jn_eq,N,sbind,xz,bifF];rw[Kx,Kx,ou hy,ou H,xz,bifF,bifF]
 have key:∀(c:List Qp) (done:List Rat) (g:Qf) (K:Qf×List Qa->Option (List Qa×Qc×Qf)),(∀(j:Nat) x,c[j]?=some x->mayR t (done.length+j) x)->(∀ x∈c,Fk k x.N)->QR k done->g.limit<=4096->done.length+c.length<=300 ->
  ∃ f,(rangeL (λ(r:Nat) (E:Qp) (d:Qf×(List Qa))=>
    (Qz n d.1 E ⟨toF T,toR Y,toR P⟩ d.2).bind λi=>
    bif !i.2 then (
     some (Lp.out ((([]:List Qa),(⟨(3:Int),0,0,(r:Int)⟩:Qc),d.1))))
    else (
     (Wo n d.1 i.1).bind λm=>
     bif !m.1 then (
      some (Lp.out ((([]:List Qa),(⟨(6:Int),0,0,(r:Int)⟩:Qc),m.2))))
     else (
      (appM 56 d.2 ([i.1]:List Qa)).bind λF=>
      some (Lp.go (m.2,F))))) c done.length (g,toR done)).bind (lpK K)=match runQ g.limit T Y P c done.length done with | .inl e=>some ([],⟨e.1,0,0,(e.2:Int)⟩,f) | .inr l=>K (f,toR l):=by
  intro c
  induction c with
  | nil=>intro done g K _ _ _ _ _;exact⟨g,rfl⟩
  | cons x c W=>
    intro done g K hm u G A B;simp only[rangeL,runQ];obtain⟨v,J,L⟩:=Qra (g:=g) hn om hk (by have:=hm 0 x rfl;rwa [xa] at this) (u x (.head _)) O Q M G hy H;rw[J,sbind];cases R:opQ x T Y P done with
    | none=>exact⟨g,rfl⟩
    | some q=>
      have S:=L q R;simp only[xz,bifF];unfold Wo;rw[Qmv hn om,sbind,sbind];simp only[];by_cases w:(qz q:Int)<=g.limit
      . rw[ou w,oi w,xz,bifF,Zp (by rw[Kx];simp at B |-;omega) (by rw[Kx];simp at B |-;omega),sbind,sbind]
        simp only[];have C:qw q<=k:=by have:=qw_qz (q:=q) (b:=4096) om;omega
        have a:(done++[q]).length=done.length+1:=oa
        obtain⟨f,h⟩:=W (done++[q]) (noteG g q) K (λj y hy=>by
         rw[a,show done.length+1+j=done.length+(j+1) by omega];exact hm (j+1) y (by simpa using hy)) (λy hy=>u y (.tail _ hy)) (λz p=>by
         rcases uy.1 p with p | p
         . exact G z p
         . rw[ue.1 p];exact C) A (by rw[a];simp at B;omega)
        refine⟨f,?_⟩;rw[a] at h;rw[Qo5];exact h
      . rw[oo w,oh w,xw,bifT,sbind]
        exact⟨noteG g q,rfl⟩
 obtain⟨⟨Z,d2,d3,I⟩,X,m2⟩:=U;obtain⟨f,h⟩:=key t.Code [] g (λs=>some (s.2,(⟨0,0,0,0⟩:Qc),s.1)) (λj x V=>by rw[show([]:List Rat).length+j=j by simp];exact X j x V) u (λ_ h=>by cases h) A (by simpa using I);refine⟨f,?_⟩;rw[show(([]:List Rat).length)=0 from rfl,show toR []=[] from rfl] at h;rw[h];cases runQ g.limit T Y P t.Code 0 []<;>rfl
def digB(c:Nat):Bool:=decide (48<=c/\c<=57)
def letB(c:Nat):Bool:=decide (97<=c/\c<=122\/65<=c/\c<=90\/c=95)
def sgnL:List UInt8:=[43,45,42,47,94,40,41,91,93,44,59,61]
def sgnB(c:Nat):Bool:=sgnL.any (λx=>x.toNat=c)
def kindC(c:Nat):Int:=if digB c then 1 else if letB c then 2 else if sgnB c then 3 else 0
def goC(k:Int)(c:Nat):Bool:=(decide (k=1) && digB c) || (decide (k=2) && (letB c || digB c))
def mostC(k:Int):Nat:=if k=1 then 60 else if k=2 then 12 else 1
def wdB(k:Int):List UInt8->Bool
 | []=>false
 | c::r=>decide (k≠0) && (decide (kindC c.toNat=k) && (r.all (λb=>goC k b.toNat) && decide (r.length+1<=mostC k)))
theorem Qf2(c:Nat):W6 c=some (digB c):=by unfold W6 digB;simp only[jn_eq,bifd];grind
theorem Qe9(c:Nat):Xc c=some (letB c):=by unfold Xc letB;simp only[jn_eq,bifd];grind
theorem Qrb{s:List UInt8}{p:Nat}{c:UInt8}(h:s[p]?=some c)(d:c.toNat<128):decR s p=c.toNat/\decW s p=1:=by
 have a:((⟨s.toArray⟩:ByteArray).get! (p+0)).toNat=c.toNat:=by
  have e:=Jt h;have:((⟨s.toArray⟩:ByteArray).get! (p+0))=c:=by show s.toArray[p+0]! = c;simp[h]
  rw[this]
 unfold decR decW Utf8.decode;simp only[a];rw[oi d];exact⟨rfl,rfl⟩
theorem Qnl{n c:Nat}(hn:big<=n):Qb1 n c=some (sgnB c):=by
 unfold Qb1;unfold big at hn;have e:sgnB c=runG (τ:=Bool) (λ_ (x:UInt8) (_:Unit)=>if x.toNat=c then .inr true else .inl ()) (λ_=>false) sgnL 0 ():=by
  unfold sgnB;have:∀(l:List UInt8) (i:Nat),l.any (λx=>decide (x.toNat=c))=runG (τ:=Bool) (λ_ (x:UInt8) (_:Unit)=>if x.toNat=c then .inr true else .inl ()) (λ_=>false) l i ():=by
   intro l
   induction l with
   | nil=>intro i;rfl
   | cons x l p=>
     intro i;simp only[List.any_cons,runG];by_cases h:x.toNat=c;simp[h];simp only[oo h,oh h,Bool.false_or];exact p (i+1)
  exact this _ 0
 rw[e];refine Qtk (λ_ i=>i) (λ_ (x:UInt8) (_:Unit)=>if x.toNat=c then .inr true else .inl ()) (λ_=>()) _ (λ_ _=>True) sgnL () (λi x b j _=>⟨?_,λ_ _=>trivial⟩) (λb _=>by simp[bifd,sgnL]) (λb _=>rfl) trivial (by simp[sgnL];omega);have hi:=Jt j;have g:x.toNat<128:=by
  have:∀ y∈sgnL,y.toNat<128:=oy
  exact this x (Q1 j)
 obtain⟨k,m⟩:=Qrb j g;have a:decR [43,45,42,47,94,40,41,91,93,44,59,61] i=x.toNat:=k;have d:decW [43,45,42,47,94,40,41,91,93,44,59,61] i=1:=m;have f:i<([43,45,42,47,94,40,41,91,93,44,59,61]:List UInt8).length:=hi;simp only[bifd,oi f,sbind,a,d];rw[show Int.toNat ((x.toNat:Int)%256)=x.toNat by omega];by_cases h:x.toNat=c;rw[oi h,oi h];rfl;rw[oh h,oh h];rfl
theorem Qnm{n c:Nat}(hn:big<=n):Qb2 n c=some (kindC c):=by
 unfold Qb2 kindC;rw[Qf2,sbind];cases digB c with
 | true=>rfl
 | false=>
   rw[bifF,Qe9,sbind];cases letB c with
   | true=>rfl
   | false=>rw[bifF,Qnl hn,sbind];cases sgnB c<;>rfl
theorem Qnn(k:Int)(c:Nat):Qb3 k c=some (goC k c):=by unfold Qb3 goC;simp only[jn_eq,Qf2,Qe9,sbind,bifd];by_cases a:k=1;subst a;cases digB c<;>simp;by_cases d:k=2;subst d;cases letB c<;>cases digB c<;>simp;simp[a,d]
theorem Qno(k:Int):Qb4 k=some (mostC k:Int):=by unfold Qb4 mostC;simp only[bifd];grind
def firstL(k:Int)(s:List UInt8):Nat:=1+((s.drop 1).takeWhile (λc=>goC k c.toNat)).length
theorem Qgv{α:Type}{p:α->Bool}:∀ {l:List α}{i:Nat},i<(l.takeWhile p).length->∃ x,l[i]?=some x/\p x=true
 | [],i,h=>by simp at h
 | y::l,0,h=>by
   cases hy:p y with
   | true=>exact⟨y,rfl,hy⟩
   | false=>rw[yp,hy] at h;simp at h
 | y::l,i+1,h=>by
   rw[yp] at h;cases hy:p y with
   | true=>rw[hy] at h;simp only[uq,xy] at h;exact Qgv (l:=l) (i:=i) om
   | false=>rw[hy] at h;simp at h
theorem Qgw{α:Type}{p:α->Bool}:∀ {l:List α}{x:α},l[(l.takeWhile p).length]?=some x->p x=false
 | [],x,h=>by simp at h
 | y::l,x,h=>by
   rw[yp] at h;cases hy:p y with
   | true=>rw[hy] at h;simp only[uq,xy,List.getElem?_cons_succ] at h;exact Qgw h
   | false=>rw[hy] at h;simp at h;rw[<-h];exact hy
theorem Qhz{α:Type}(p:α->Bool)(l:List α):(l.takeWhile p).length<=l.length:=(List.takeWhile_sublist p).length_le
theorem Ql3{n:Nat}{s:List UInt8}{k:Int}(hn:big<=n)(hs:s.length<=4611686018427387904):Qat n s k=some (firstL k s:Int):=by
 unfold Qat;unfold big at hn;generalize q:(λc:UInt8=>goC k c.toNat)=p;have a:∀ c:UInt8,goC k c.toNat=p c:=λc=>by rw[<-q]
 have m:((s.drop 1).takeWhile p).length<=s.length:=ov (Qhz _ _) oa;have r:firstL k s=1+((s.drop 1).takeWhile p).length:=by unfold firstL;rw[q]
 rw[r];refine Qae (λd:Int=>s.length+2 - d.toNat) (λd=>∃ j:Nat,d=((1+j:Nat):Int)/\j<=((s.drop 1).takeWhile p).length) (λt=>t=((1+((s.drop 1).takeWhile p).length:Nat):Int)) ⟨0,rfl,xk _⟩ oe (λd u=>?_) (λt v=>by rw[v]);obtain⟨j,rfl,w⟩:=u;simp only[jn_eq,bifd];by_cases l:1+j<s.length;rw[oi om,Qs7 l,sbind,Qnn,sbind];have i:(s.drop 1)[j]?=some s[1+j]:=by rw[List.getElem?_drop,ow l]
 by_cases f:j<((s.drop 1).takeWhile p).length;obtain⟨x,g,e⟩:=Qgv f;rw[i] at g;cases g;left;refine⟨((1+(j+1):Nat):Int),?_,⟨j+1,rfl,om⟩,om⟩;have:goC k (s[1+j]).toNat=true:=by rw[a];exact e
 rw[this,bifT,w1 om];rfl;right;obtain rfl:j=((s.drop 1).takeWhile p).length:=om
 have e:=Qgw i;refine⟨_,?_,rfl⟩;have:goC k (s[1+((s.drop 1).takeWhile p).length]).toNat=false:=by rw[a];exact e
 rw[this,bifF];right;rw[oh om];refine⟨_,rfl,?_⟩;have:((s.drop 1).takeWhile p).length<=(s.drop 1).length:=Qhz _ _;rw[ug] at this;have:j=((s.drop 1).takeWhile p).length:=om
 rw[this]
theorem Qgx{α:Type}{p:α->Bool}:∀ {l:List α},(l.takeWhile p).length=l.length↔l.all p=true
 | []=>oa
 | x::l=>by
   rw[yp];cases a:p x with
   | true=>simp[a,Qgx]
   | false=>simp[a]
theorem Ql4{n:Nat}{w:Qah}(hn:big<=n)(hs:w.Text.length<=4611686018427387904):Zf n w=some (wdB w.Gf w.Text):=by
 unfold Zf;simp only[jn_eq,Ql3 hn hs,sbind,Qno,bifd];cases e:w.Text with
 | nil=>rfl
 | cons c r=>
   rw[oh oa];by_cases h0:w.Gf=0;rw[oi h0,bifT];simp[wdB,h0];rw[oh h0,show getS (c::r) (0:Int)=some c.toNat by rfl,sbind,Qnm hn,sbind];by_cases hk:kindC c.toNat=w.Gf;simp only[ou hk,xz,bifF];have d:(firstL w.Gf (c::r):Int)=((c::r).length:Int)↔r.all (λb=>goC w.Gf b.toNat)=true:=by rw[<-Qgx];unfold firstL;simp only[List.drop_succ_cons,List.drop_zero,xy];omega
   by_cases a:r.all (λb=>goC w.Gf b.toNat)=true;rw[oi (d.2 a)];simp only[wdB,a,hk];simp;congr 1;rw[Bool.eq_iff_iff];simp;omega;rw[oh (λh=>a (d.1 h))];have:r.all (λb=>goC w.Gf b.toNat)=false:=by simpa using a
   simp only[wdB,this,Bool.false_and,Bool.and_false];simp only[oo hk,xw,bifT];simp[wdB,hk]
theorem Ql5{a T Y P}(d:a<=4096):∀ {c:List Qp}{i:Nat}{done l:List Rat},QR 129 done->runQ a T Y P c i done=.inr l->l.length=done.length+c.length/\QR 129 l
 | [],i,done,l,hd,h=>by simp only[runQ] at h;cases h;exact⟨rfl,hd⟩
 | x::c,i,done,l,hd,h=>by
   simp only[runQ] at h;cases g:opQ x T Y P done with
   | none=>rw[g] at h;cases h
   | some q=>
     rw[g] at h;simp only[] at h;by_cases f:(qz q:Int)<=a
     . rw[oi f] at h
       obtain⟨j,k⟩:=Ql5 d (λz e=>by
        rcases uy.1 e with e | e
        . exact hd z e
        . rw[ue.1 e]
          have:=qw_qz (q:=q) (b:=4096) om;omega) h
       exact⟨by rw[j];simp;omega,k⟩
     . rw[oh f] at h;cases h
theorem Qh0{a T Y P}:∀ {c:List Qp}{i:Nat}{done:List Rat}{e},runQ a T Y P c i done=.inl e->e.1=3\/e.1=6
 | [],i,done,e,h=>by simp only[runQ] at h;cases h
 | x::c,i,done,e,h=>by
   simp only[runQ] at h;cases f:opQ x T Y P done with
   | none=>rw[f] at h;cases h;exact .inl rfl
   | some q=>
     rw[f] at h;simp only[] at h;by_cases d:(qz q:Int)<=a
     . rw[oi d] at h;exact Qh0 h
     . rw[oh d] at h;cases h;exact .inr rfl
def fieldQ(t:Qs)(a:Int)(T:Rat)(Y P:List Rat):(Int×Nat) ⊕ List Rat:=
 match runQ a T Y P t.Code 0 [] with
 | .inl e=>.inl e
 | .inr l=>.inr (t.Outs.map λo=>l.getD o.toNat 0)
structure Qsp(n k:Nat)(t:Qs):Prop where
 r:tapeR t
 h:V0 n t=some true
 w:∀ c∈t.Code,Fk k c.N
theorem Ql6{n k:Nat}{t:Qs}{p:K5}{bits:Int}(hn:big<=n)(m:129<=k)(hk:k<1048576)(y:Qsp n k t)(d:Fk k p.T)(f:FR k p.Y)(a:FR k p.P)(hy:(p.Y.length:Int)=t.Dim)(x:(p.P.length:Int)=t.Par):
 Qax n t p bits=some (match fieldQ t (min (max bits 0) 4096) (fv p.T) (rv p.Y) (rv p.P) with | .inl e=>([],⟨e.1,0,0,(e.2:Int)⟩) | .inr l=>(toR l,⟨0,0,0,0⟩)):=by
 obtain⟨r,h,w⟩:=y;have hd:=r.1;obtain⟨⟨B,C⟩,⟨E,F⟩,G,H⟩:=hd;have eT:=qw_fv d om;have eY:=QR_rv f om;have eP:=QR_rv a om;unfold Qax Qd1 Qc7 Zm;rw[Wf hn (Fk_Fw d om),sbind,Qe7 hn om f om,sbind,Qe7 hn om a om,sbind,sbind,sbind];simp only[];obtain⟨I,e⟩:=Qtm (g:=⟨⟨0,0⟩,min (max bits 0) 4096⟩) hn m hk r h w eT eY eP (by rw[Jg];exact hy) (by rw[Jg];exact x) (by simp only[];omega);rw[e,sbind];unfold fieldQ;simp only[];cases j:runQ (min (max bits 0) 4096) (fv p.T) (rv p.Y) (rv p.P) t.Code 0 [] with
 | inl q=>
   have hk:=Qh0 j;simp only[];rw[sbind];simp only[];rw[Qbq om,xw,bifT]
 | inr l=>
   obtain⟨l1,A⟩:=Ql5 om (λ_ h=>by cases h) j;have J:l.length=t.Code.length:=by simpa using l1
   simp only[];rw[sbind];simp only[];rw[Qag,xz,bifF];unfold Qd2;simp only[jn_eq,h,sbind,xz,bifF];rw[Kx,ou (show(l.length:Int)=(t.Code.length:Int) by omega),xz,bifF,Ql2 (g:=λo:Int=>l.getD o.toNat 0) hn om λi o s v=>?_,sbind];have u:=r.2.2 o (Q1 v);rw[Qet u.1 om,sbind,Wf hn (Fk_Fw (Kf (Qed A om)) om),sbind,Jn]
theorem Qsq{t:Qs}{a T Y P l}(d:a<=4096)(h:fieldQ t a T Y P=.inr l):l.length=t.Outs.length/\QR 129 l:=by
 unfold fieldQ at h;cases e:runQ a T Y P t.Code 0 [] with
 | inl q=>rw[e] at h;cases h
 | inr l'=>
   rw[e] at h;cases h;obtain⟨l1,g⟩:=Ql5 d (λ_ h=>by cases h) e;refine⟨oa,λq f=>?_⟩;obtain⟨o,_,rfl⟩:=xd.1 f;exact Qed g om
theorem Qpo{t:Qs}{a T Y P e}(h:fieldQ t a T Y P=.inl e):e.1=3\/e.1=6:=by
 unfold fieldQ at h;cases d:runQ a T Y P t.Code 0 [] with
 | inl q=>rw[d] at h;cases h;exact Qh0 d
 | inr l'=>rw[d] at h;cases h
def sumQ(l:List Rat):Rat:=l.foldl (λo x=>o+x) 0
theorem Qii{k:Nat}:∀ {l:List Rat}{b:Nat}{z:Rat},QR k l->qw z<=b->qw (l.foldl (λo x=>o+x) z)<=b+l.length*(k+1)
 | [],b,z,_,h=>by simpa using h
 | x::l,b,z,a,h=>by rw[List.foldl_cons];have:=Qii (l:=l) (λq d=>a q (.tail _ d)) (Qdi h (a x (.head _)));rw[xy,ut];omega
theorem Qfa{n k:Nat}{a:List Qa}(hn:big<=n)(j:1<=k)(hk:k<1048576)(e:FR k a)(q:a.length<=1000):Wm n a=some (toF (sumQ (rv a))):=by
 unfold Wm;rw[Vf hn,sbind,Yz (λi=>toF ((rv (a.take i)).foldl (λo x=>o+x) 0)) a,J7,uh];rfl;intro i x d;have hi:=Jt d;have f:a.take (i+1)=a.take i++[x]:=by rw[vm,d];rfl
 have g:rv (a.take (i+1))=rv (a.take i)++[fv x]:=by unfold rv;rw[f,yd];rfl
 have m:=Qii (l:=rv (a.take i)) (b:=1) (z:=0) (QR_rv (λy hy=>e y (yf hy)) j) (by rw[Yx];exact ot _);have p:(rv (a.take i)).length*(k+1)<=1000*1048576:=yv (by rw[Jg];simp;omega) om;rw[Wv (k:=2000000000) hn om om (Kf om) (Wg (e x (Q1 d)) om),sbind,g,List.foldl_append,Jn];rfl;rfl
def numR(x:Qa):Prop:=x=toF (fv x)/\qz (fv x)<=190
theorem Quu{n k:Nat}{x:Qa}(hn:big<=n)(hk:k<1048576)(a:Fk k x):
 ((K6 n x).bind λd=>bif !d then some true else (Kw n x).bind λf=>some (decide ((190:Int)<f)))=some (!dP (numR x)):=by
 rw[Qe4 hn (Fk_Fw a om),sbind,@decP _ (Classical.propDecidable _),bifnP];unfold numR;by_cases h:x=toF (fv x)
 . have j:qw (fv x)<1099511627776:=by
    rcases Nat.eq_zero_or_pos k with h0 | h0
    . subst h0
      have:=qw_fv (Wg a (show 0<=1 by omega)) (ot 1);omega
    . have:=qw_fv a h0;omega
   have e:Kw n x=some (qz (fv x):Int):=by
    conv=>lhs;rw[h]
    exact Qe5 hn j
   rw[oi h,e,sbind];by_cases i:qz (fv x)<=190
   . rw[dP_t ⟨h,i⟩,oo om];rfl
   . rw[dP_f λg=>i g.2,ou om];rfl
 . rw[oh h,dP_f λg=>h g.1];rfl
theorem Qcq{n k:Nat}{l:List (List Qa)}(hn:big<=n)(hk:k<1048576)(q:∀ r∈l,FR k r):Wc n l=some (dP (∀ r∈l,∀ x∈r,numR x)):=by
 unfold Wc;rw[Y0 (λ_ (r:List Qa)=>∀ x∈r,numR x) (r:=false)];rw[Qgk];by_cases h:∀ r∈l,∀ x∈r,numR x;rw[oi h,dP_t h];rw[oh h,dP_f h];intro i r s
 have key:(rangeL (λ(_:Nat) (m:Qa) (_:Unit)=>
  jn (λ(a:(Bool)->Option _)=>
   (K6 n m).bind λd=>
   bif !d then (
    a true)
   else (
    (Kw n m).bind λf=>
    a (decide ((190:Int)<f)))) (λ(g:Bool)=>
   bif g then (
    some (Lp.out (Lp.out (false))))
   else (
    some (Lp.go ())))) r 0 ()).bind (lpK λ(_:Unit)=>some (Lp.go ()))=@ite _ (∀ x∈r,numR x) (Classical.propDecidable _) (some (Lp.go ())) (some (Lp.out (σ:=Unit) (τ:=Bool) false)):=by
  rw[Y0 (λ_ (x:Qa)=>numR x) (r:=Lp.out false),Qgk];intro j x t;have e:=Quu hn hk (q r (Q1 s) x (Q1 t))
  have p:(jn (λ(a:(Bool)->Option (Lp Unit (Lp Unit Bool)))=>
   (K6 n x).bind λd=>
   bif !d then (
    a true)
   else (
    (Kw n x).bind λf=>
    a (decide ((190:Int)<f)))) (λ(g:Bool)=>
   bif g then (
    some (Lp.out (Lp.out (false))))
   else (
    some (Lp.go ()))))=((K6 n x).bind λd=>bif !d then some true else (Kw n x).bind λf=>some (decide ((190:Int)<f))).bind λg=>bif g then (
    some (Lp.out (Lp.out (false))))
   else (
    some (Lp.go ())):=by
   rw[jn_eq];cases K6 n x with
   | none=>rfl
   | some b=>
     rw[sbind,sbind];cases b;rfl;rw[xz,bifF,bifF];cases Kw n x with
     | none=>rfl
     | some z=>rfl
  rw[p,e,sbind];constructor;intro h;rw[dP_t h];rfl;intro h;rw[dP_f h];rfl
 rw[key];constructor;intro h;rw[oi h];intro h;rw[oh h]
def shapeR(s:Qg):Prop:=(1<=s.B.length/\s.B.length<=8)/\s.C.length=s.B.length/\s.A.length=s.B.length/\(s.E.length=s.B.length\/s.E.length=0)/\∀(i:Nat) r,s.A[i]?=some r->r.length=i
theorem Qiu(s:Qg):Ym s=some (dP (shapeR s)):=by
 unfold Ym shapeR;simp only[jn_eq,bifd,bifnd];by_cases c1:(s.B.length:Int)<1
 . rw[oi c1,bifT,dP_f om]
 rw[oh c1];by_cases j:(8:Int)<(s.B.length:Int)
 . rw[oi j,bifT,dP_f om]
 rw[oh j];by_cases k:(s.C.length:Int)=(s.B.length:Int)
 case neg=>rw[oh k,bifT,dP_f om]
 rw[oi k];by_cases l:(s.A.length:Int)=(s.B.length:Int)
 case neg=>rw[oh l,bifT,dP_f om]
 rw[oi l]
 have q:=Y0 (f:=λ(a:Nat) (d:List Qa) (_:Unit)=>bif !decide ((d.length:Int)=(a:Int)) then some (Lp.out false) else some (Lp.go ())) (K:=λ_=>some true) (r:=false) (λi (r:List Qa)=>r.length=i) s.A (λi x t=>by
  constructor
  . intro h;rw[ou om];rfl
  . intro h;rw[oo om];rfl)
 have e:(rangeL (λ(a:Nat) (d:List Qa) (_:Unit)=>if (d.length:Int)=(a:Int) then some (Lp.go ()) else some (Lp.out false)) s.A 0 ()).bind (lpK λ_=>some true)=(rangeL (λ(a:Nat) (d:List Qa) (_:Unit)=>bif !decide ((d.length:Int)=(a:Int)) then some (Lp.out false) else some (Lp.go ())) s.A 0 ()).bind (lpK λ_=>some true):=by simp only[bifnd]
 have fin:(s.E.length=s.B.length\/s.E.length=0)->(rangeL (λ(a:Nat) (d:List Qa) (_:Unit)=>if (d.length:Int)=(a:Int) then some (Lp.go ()) else some (Lp.out false)) s.A 0 ()).bind (lpK λ_=>some true)=some (dP ((1<=s.B.length/\s.B.length<=8)/\s.C.length=s.B.length/\s.A.length=s.B.length/\(s.E.length=s.B.length\/s.E.length=0)/\∀(i:Nat) r,s.A[i]?=some r->r.length=i)):=by
  intro p;rw[e,q];by_cases h:∀(i:Nat) r,s.A[i]?=some r->r.length=i
  . rw[oi h,dP_t ⟨om,om,om,p,h⟩]
  . rw[oh h,dP_f λg=>h g.2.2.2.2]
 by_cases m:(s.E.length:Int)=(s.B.length:Int)
 . rw[oi m,bifF];exact fin (.inl om)
 . rw[oh m]
   by_cases n:(s.E.length:Int)=0
   . rw[oi n];exact fin (.inr om)
   . rw[oh n,dP_f om]
structure SchW(k:Nat)(s:Qg):Prop where
 a:∀ r∈s.A,FR k r
 b:FR k s.B
 c:FR k s.C
 e:FR k s.E
 n:s.Name.length<=4611686018427387904
def rowsR(s:Qg):Prop:=∀(i:Nat) r,s.A[i]?=some r->sumQ (rv r)=fv (s.C.getD i ⟨⟨false,[]⟩,[]⟩)
theorem Qju{n k:Nat}{s:Qg}(hn:big<=n)(g:1<=k)(hk:k<1048576)(hs:SchW k s)(f:shapeR s):Y7 n s=some (dP (rowsR s)):=by
 unfold Y7;obtain⟨⟨g1,t⟩,g3,g4,u,m⟩:=f;rw[Y0 (λi (r:List Qa)=>sumQ (rv r)=fv (s.C.getD i ⟨⟨false,[]⟩,[]⟩)) (r:=false)];unfold rowsR;by_cases h:∀(i:Nat) r,s.A[i]?=some r->sumQ (rv r)=fv (s.C.getD i ⟨⟨false,[]⟩,[]⟩);rw[oi h,dP_t h];rw[oh h,dP_f h];intro i r e;have hi:=Jt e;have j:s.C[i]?=some (s.C.getD i ⟨⟨false,[]⟩,[]⟩):=by rw[yn,ow (show i<s.C.length by omega)];rfl
 have a:=hs.a r (Q1 e);have q:=m i r e;have d:=hs.c _ (Q1 j);have v:=Qii (l:=rv r) (b:=1) (z:=0) (QR_rv a g) (by rw[Yx];exact ot _);have p:(rv r).length*(k+1)<=8*1048576:=yv (by rw[Jg];omega) om;rw[Qfa hn g hk a om,sbind,Ws j,sbind,Qc3 (k:=10000000) hn om om (Kf (by unfold sumQ;omega)) (Wg d om),sbind,Jn];constructor;intro h;rw[ou h];rfl;intro h;rw[oo h];rfl
def schR(s:Qg):Prop:=wdB 2 s.Name=true/\shapeR s/\((∀ r∈s.A,∀ x∈r,numR x)/\∀ r∈[s.B,s.C,s.E],∀ x∈r,numR x)/\rowsR s/\sumQ (rv s.B)=1/\(s.E≠[]->sumQ (rv s.E)=1)
theorem Qmw{n k:Nat}{a:List Qa}(hn:big<=n)(e:1<=k)(hk:k<1048576)(g:FR k a)(p:a.length<=8){β:Type}(f:Bool->Option β):
 ((Wm n a).bind λd=>(Wh n d (toF 1)).bind f)=f (decide (sumQ (rv a)=1)):=by
 have m:=Qii (l:=rv a) (b:=1) (z:=0) (QR_rv g e) (by rw[Yx];exact ot _);have i:(rv a).length*(k+1)<=8*1048576:=yv (by rw[Jg];omega) om;have j:qw 1<=10000000:=by unfold qw;rw[show(1:Rat).num=1 from rfl,show(1:Rat).den=1 from rfl,show(1:Int).natAbs=1 from rfl,toL1];omega
 rw[Qfa hn e hk g om,sbind,Qc3 (k:=10000000) hn om om (Kf (by unfold sumQ;omega)) (Kf j),sbind,Jn,Jn]
theorem Qiv{n k:Nat}{s:Qg}(hn:big<=n)(p:1<=k)(hk:k<1048576)(hs:SchW k s):∃ v,Xa n s=some v/\(v=0↔schR s):=by
 unfold Xa;rw[Qdy hn,sbind,Ql4 (w:=⟨2,s.Name,0⟩) hn hs.n,sbind];simp only[];unfold schR;cases B:wdB 2 s.Name
 . exact⟨1,rfl,oa⟩
 rw[xz,bifF,Qiu,sbind,bifnP];by_cases a:shapeR s
 case neg=>rw[oh a];exact⟨2,rfl,λh=>om,λh=>absurd h.2.1 a⟩
 rw[oi a];have t:=a;obtain⟨⟨g1,u⟩,g3,g4,y,A⟩:=t;simp only[jn_eq];rw[Qcq hn hk hs.a,sbind,bifnP]
 have q:∀ r∈[s.B,s.C,s.E],FR k r:=λr e=>by
  rcases yh.1 e with rfl | e
  . exact hs.b
  rcases yh.1 e with rfl | e
  . exact hs.c
  rcases yh.1 e with rfl | e
  . exact hs.e
  cases e
 by_cases g:∀ r∈s.A,∀ x∈r,numR x
 case neg=>rw[oh g,bifT];exact⟨3,rfl,λh=>om,λh=>absurd h.2.2.1.1 g⟩
 rw[oi g,Qcq hn hk q,sbind,bifnP];by_cases i:∀ r∈[s.B,s.C,s.E],∀ x∈r,numR x
 case neg=>rw[oh i];exact⟨3,rfl,λh=>om,λh=>absurd h.2.2.1.2 i⟩
 rw[oi i,Qju hn p hk hs a,sbind,bifnP];by_cases j:rowsR s
 case neg=>rw[oh j];exact⟨4,rfl,λh=>om,λh=>absurd h.2.2.2.1 j⟩
 rw[oi j,Qmw hn p hk hs.b om,bifnd];by_cases f:sumQ (rv s.B)=1
 case neg=>rw[oh f];exact⟨5,rfl,λh=>om,λh=>absurd h.2.2.2.2.1 f⟩
 rw[oi f,bifd];by_cases m:(0:Int)<(s.E.length:Int)
 . have d:s.E≠[]:=λh=>by rw[h] at m;simp at m
   rw[oi m,Qmw hn p hk hs.e om,bifnd];by_cases l:sumQ (rv s.E)=1
   . rw[oi l];exact⟨0,rfl,λ_=>⟨by trivial,a,⟨g,i⟩,j,f,λ_=>l⟩,λ_=>rfl⟩
   . rw[oh l];exact⟨6,rfl,λh=>om,λh=>absurd (h.2.2.2.2.2 d) l⟩
 . have d:s.E=[]:=oq om
   rw[oh m,bifF];exact⟨0,rfl,λ_=>⟨by trivial,a,⟨g,i⟩,j,f,λh=>absurd d h⟩,λ_=>rfl⟩
theorem Qap{n k:Nat}{s:Qg}(hn:big<=n)(e:1<=k)(hk:k<1048576)(hs:SchW k s):We n s=some (dP (schR s)):=by obtain⟨v,a,d⟩:=Qiv hn e hk hs;unfold We;rw[a,sbind];exact Ya d
def gapQ(s:Qg):List Rat:=if s.E=[] then [] else addQ (rv s.B) (scaleQ (-1) (rv s.E))
theorem Qkz{n k:Nat}{s:Qg}(hn:big<=n)(d:1<=k)(hk:k<1048576)(hs:SchW k s)(e:schR s):Yq n s=some (toR (gapQ s)):=by
 unfold Yq gapQ;simp only[jn_eq];rw[Qap hn d hk hs,sbind,dP_t e,xz,bifF];obtain⟨⟨g1,i⟩,g3,g4,j,l⟩:=e.2.1;by_cases a:s.E=[]
 rw[oi a,a];rfl;have m:s.E.length≠0:=λh=>a (oq h);have g:qw (((-1:Int):Int):Rat)<=1:=by unfold qw;rw[Rat.num_intCast,Rat.den_intCast,show(-1:Int).natAbs=1 from rfl,toL1];omega
 have f:(((-1:Int):Int):Rat)=-1:=rfl;rw[oh a,oo om,bifF];unfold Qe1;rw[Qes hn oy oy,sbind,Qf1 (k:=k+1) hn om om (Kf om) (Qbp hs.e om) om,sbind,Jn];rw[Qhy (k:=k+1) hn om om (Qbp hs.b om) (Qaz (V8 (Qjs g (QR_rv hs.e d)) om)) om,sbind,Kx,Qgi,Jg,oi om,sbind,Qf0,f]
theorem Qwf{k:Nat}{s:Qg}(a:1<=k)(hs:SchW k s):QR (2*k+2) (gapQ s):=by
 unfold gapQ;split;intro x d;cases d;have e:qw (-1:Rat)<=1:=by unfold qw;rw[show(-1:Rat).num=-1 from rfl,show(-1:Rat).den=1 from rfl,show(-1:Int).natAbs=1 from rfl,toL1];omega
 exact V8 (Qso (QR_rv hs.b a) (Qjs e (QR_rv hs.e a))) om
end Go.Proofs.YtmnlcblemgjeeaaGreatDoor
