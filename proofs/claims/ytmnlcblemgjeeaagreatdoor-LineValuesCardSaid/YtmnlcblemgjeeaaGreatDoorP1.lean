import Derived.Test.YtmnlcblemgjeeaaGreatDoorMod
namespace Go.Proofs.YtmnlcblemgjeeaaGreatDoor
open Go Go.RowKit
def big:Nat:=18446744073709551616
theorem w64{x:Int}(a:-9223372036854775808<=x)(d:x<=9223372036854775807):wrap64 x=x:=by unfold wrap64;omega
theorem bifd{α:Type}(p:Prop)[Decidable p](a b:α):(bif decide p then a else b)=if p then a else b:=by by_cases h:p<;>simp[h]
theorem bifnd{α:Type}(p:Prop)[Decidable p](a b:α):(bif !decide p then a else b)=if p then b else a:=by by_cases h:p<;>simp[h]
theorem bifT{α:Type}(a b:α):(bif true then a else b)=a:=Eq.symm (Eq.symm rfl)
theorem bifF{α:Type}(a b:α):(bif false then a else b)=b:=Eq.symm (Eq.symm rfl)
theorem jn_eq{σ ρ:Type}(A:(σ->Option ρ)->Option ρ)(k:σ->Option ρ):jn A k=A k:=Eq.symm (Eq.symm rfl)
theorem Vy{τ ρ:Type}(k:τ->Option ρ)(t:τ):lpK k (.go t)=k t:=Eq.symm (Eq.symm rfl)
theorem Qc3{τ ρ:Type}(k:τ->Option ρ)(r:ρ):lpK k (.out r)=some r:=Eq.symm (Eq.symm rfl)
theorem sbind{α β:Type}(a:α)(f:α->Option β):(some a).bind f=f a:=Eq.symm (Eq.symm rfl)
theorem Qga{α:Type}(l:List α)(i:Nat):getI l (i:Int)=l[i]?:=by simp[getI]
theorem Za{α:Type}{l:List α}{i:Nat}(h:i<l.length):getI l (i:Int)=some l[i]:=by rw[Qga];simp[h]
theorem grd_t{b:Bool}(h:b=true):grd b=some ():=by rw[h];rfl
theorem Qqf{α:Type}{l:List α}{k:Nat}(h:k<=l.length):sub l 0 (k:Int)=some (l.take k):=by unfold sub;rw[oj om];simp
theorem W5{α:Type}{b:Nat}{l r:List α}(h:(l.length+r.length)*b<=140737488355328)(a:l.length+r.length<=9223372036854775807):appM b l r=some (l++r):=by unfold appM;rw[oj ⟨h,a⟩]
theorem Qba{α:Type}{b:Nat}{z:α}{n:Nat}(h:n*b<=140737488355328)(a:n<=9223372036854775807):mkM b z (n:Int)=some (List.replicate n z):=by unfold mkM;rw[oj om];simp
theorem Qni{σ τ:Type}{f:σ->Option (Lp σ τ)}(μ:σ->Nat)(I:σ->Prop)(Q:τ->Prop)
 (e:∀ s,I s->(∃ s',f s=some (.go s')/\I s'/\μ s'<μ s)\/(∃ t,f s=some (.out t)/\Q t)):∀(n:Nat) (s:σ),I s->μ s<n->∃ t,loopM f n s=some t/\Q t
 | 0,_,_,h=>absurd h (Nat.not_lt_zero _)
 | n+1,s,l,q=>by rcases e s l with ⟨s',a,d,m⟩ | ⟨t,a,d⟩;obtain⟨t,i,j⟩:=Qni μ I Q e n s' d om;exact⟨t,by simp only[loopM,a,xq];exact i,j⟩;exact⟨t,by simp only[loopM,a,xq],d⟩
theorem Xy{σ τ R:Type}{f:σ->Option (Lp σ τ)}{n:Nat}{s:σ}{k:τ->Option R}{r:R}(μ:σ->Nat)(I:σ->Prop)(Q:τ->Prop)(h0:I s)(i:μ s<n)
 (e:∀ s,I s->(∃ s',f s=some (.go s')/\I s'/\μ s'<μ s)\/(∃ t,f s=some (.out t)/\Q t)) (hk:∀ t,Q t->k t=some r):(loopM f n s).bind k=some r:=by
 obtain⟨t,a,d⟩:=Qni μ I Q e n s h0 i;rw[a,xq];exact hk t d
theorem Qac{σ τ R:Type}{f:σ->Option (Lp σ τ)}{n:Nat}{s:σ}{k:τ->Option R}{P:R->Prop}(μ:σ->Nat)(I:σ->Prop)(Q:τ->Prop)(h0:I s)(i:μ s<n)
 (e:∀ s,I s->(∃ s',f s=some (.go s')/\I s'/\μ s'<μ s)\/(∃ t,f s=some (.out t)/\Q t)) (hk:∀ t,Q t->∃ r,k t=some r/\P r):∃ r,(loopM f n s).bind k=some r/\P r:=by
 obtain⟨t,a,d⟩:=Qni μ I Q e n s h0 i;rw[a,xq];exact hk t d
theorem Qy6{σ τ R β:Type}{f:σ->Option (Lp σ τ)}{n:Nat}{s:σ}{k:τ->Option R}{g:β->R}{P:β->Prop}(μ:σ->Nat)(I:σ->Prop)(Q:τ->Prop)(h0:I s)(i:μ s<n)
 (e:∀ s,I s->(∃ s',f s=some (.go s')/\I s'/\μ s'<μ s)\/(∃ t,f s=some (.out t)/\Q t)) (hk:∀ t,Q t->∃ b,k t=some (g b)/\P b):∃ b,(loopM f n s).bind k=some (g b)/\P b:=by
 obtain⟨t,a,d⟩:=Qni μ I Q e n s h0 i;rw[a,xq];exact hk t d
theorem Qgb{σ τ:Type}{f:σ->Option (Lp σ τ)}{s s':σ}{n:Nat}(h:f s=some (.go s')):loopM f (n+1) s=loopM f n s':=by simp only[loopM,h,xq]
theorem Qbk{σ τ:Type}{f:σ->Option (Lp σ τ)}{s:σ}{t:τ}{n:Nat}(h:f s=some (.out t))(a:0<n):loopM f n s=some t:=by
 obtain⟨m,rfl⟩:∃ m,n=m+1:=⟨n - 1,om⟩
 simp only[loopM,h,xq]
theorem Qou{α σ τ:Type}{f:Nat->α->σ->Option (Lp σ τ)}(I:Nat->σ->Prop):∀(xs:List α) (i:Nat) (s:σ),I i s->(∀ j x s,xs[j]?=some x->I (i+j) s->∃ s',f (i+j) x s=some (.go s')/\I (i+j+1) s') ->
 ∃ s',rangeL f xs i s=some (.go s')/\I (i+xs.length) s'
 | [],i,s,h,_=>⟨s,rfl,h⟩
 | x::xs,i,s,h,e=>by
   obtain⟨s1,a,d⟩:=e 0 x s rfl h;simp only[xk] at a d
   obtain⟨u,l,m⟩:=Qou I xs (i+1) s1 d (λj y t q r=>by
    have:=e (j+1) y t (by simpa using q) (by rw[show i+(j+1)=i+1+j by omega];exact r);rw[show i+(j+1)=i+1+j by omega] at this
    exact this)
   refine⟨u,by simp only[rangeL,a,xq];exact l,?_⟩;rw[xl,show i+(xs.length+1)=i+1+xs.length by omega];exact m
theorem Qg7{α σ τ R:Type}{f:Nat->α->σ->Option (Lp σ τ)}{xs:List α}{s:σ}{k:Lp σ τ->Option R}{r:R}(I:Nat->σ->Prop)(h0:I 0 s)
 (i:∀ j x s,xs[j]?=some x->I j s->∃ s',f j x s=some (.go s')/\I (j+1) s') (hk:∀ t,I xs.length t->k (.go t)=some r):(rangeL f xs 0 s).bind k=some r:=by
 obtain⟨s',d,e⟩:=Qou I xs 0 s h0 (λj x s l a=>by rw[xa] at a |-;exact i j x s l a);rw[d,xq];exact hk s' (by simpa using e)
theorem Qlr{α σ τ R:Type}{f:Nat->α->σ->Option (Lp σ τ)}{xs:List α}{s:σ}{k:Lp σ τ->Option R}{P:R->Prop}(I:Nat->σ->Prop)(h0:I 0 s)
 (i:∀ j x s,xs[j]?=some x->I j s->∃ s',f j x s=some (.go s')/\I (j+1) s') (hk:∀ t,I xs.length t->∃ r,k (.go t)=some r/\P r):∃ r,(rangeL f xs 0 s).bind k=some r/\P r:=by
 obtain⟨s',d,e⟩:=Qou I xs 0 s h0 (λj x s l a=>by rw[xa] at a |-;exact i j x s l a);rw[d,xq];exact hk s' (by simpa using e)
def val:List Nat->Nat
 | []=>0
 | x::a=>x+4294967296*val a
def bp(k:Nat):Nat:=4294967296 ^ k
theorem Xc:bp 0=1:=by unfold bp;rw[Nat.pow_zero]
theorem Jz(k:Nat):bp (k+1)=bp k*4294967296:=by unfold bp;rw[vh]
theorem bp_le{j k:Nat}(h:j<=k):bp j<=bp k:=by unfold bp;exact vc oz h
theorem Q4o(k:Nat):0<bp k:=by unfold bp;exact Nat.pow_pos oz
theorem Qz3(j k:Nat):bp (j+k)=bp j*bp k:=by unfold bp;rw[uq]
def Wd(a:List Nat):Prop:=∀ x∈a,x<4294967296
def trimZ:List Nat->List Nat
 | []=>[]
 | x::a=>if trimZ a=[]/\x=0 then [] else x::trimZ a
def toL(n:Nat):List Nat:=if n=0 then [] else n%4294967296::toL (n / 4294967296)
termination_by n
decreasing_by omega
theorem Jr:Wd []:=λ_ h=>by cases h
theorem Q6{x a}:Wd (x::a)↔x<4294967296/\Wd a:=by simp[Wd]
theorem Q2{a b}:Wd (a++b)↔Wd a/\Wd b:=by constructor;intro h;exact⟨λx d=>h x (yb _ d),λx d=>h x (vg _ d)⟩;rintro⟨e,f⟩ x d;rcases wn.1 d with h | h;exact e x h;exact f x h
theorem Qjj{a k}(h:Wd a):Wd (a.take k):=λx d=>h x (ui d)
theorem Qgc{a k}(h:Wd a):Wd (a.drop k):=λx d=>h x (vj d)
theorem Qg8{k x}(h:x<4294967296):Wd (List.replicate k x):=λy a=>by rw[(List.mem_replicate.1 a).2];exact h
theorem Xj{a:List Nat}(h:Wd a){i:Nat}(hi:i<a.length):a[i]<4294967296:=h _ (ve hi)
theorem K2:toL 0=[]:=by rw[toL];rfl
theorem Yv{n:Nat}(h:n≠0):toL n=n%4294967296::toL (n / 4294967296):=by rw[toL];rw[oi h]
theorem Qj(n:Nat):val (toL n)=n:=by
 induction n using Nat.strongRecOn with
 | _ n a=>
   by_cases h:n=0;subst h;rw[K2];rfl;rw[Yv h];simp only[val];rw[a (n / 4294967296) om];omega
theorem Ql(n:Nat):Wd (toL n):=by
 induction n using Nat.strongRecOn with
 | _ n a=>
   by_cases h:n=0;subst h;rw[K2];exact Jr;rw[Yv h];exact Q6.2 ⟨om,a (n / 4294967296) om⟩
theorem Ja{a:List Nat}(h:Wd a):toL (val a)=trimZ a:=by
 induction a with
 | nil=>simp[val,K2,trimZ]
 | cons x a d=>
   obtain⟨l,j⟩:=Q6.1 h;have d:=d j;simp only[val,trimZ];by_cases i:val a=0;rw[i,K2] at d;rw[<-d,i];by_cases e:x=0;subst e;simp[K2];rw[oi (λh=>e h.2),Yv om];rw[show(x+4294967296*0)%4294967296=x by omega,show(x+4294967296*0) / 4294967296=0 by omega,K2];have f:trimZ a≠[]:=by rw[<-d,Yv i];simp
   rw[oi (λh=>f h.1),Yv om,show(x+4294967296*val a)%4294967296=x by omega,show(x+4294967296*val a) / 4294967296=val a by omega,d]
theorem Qkj(a:List Nat):val (trimZ a)=val a:=by
 induction a with
 | nil=>rfl
 | cons x a d=>
   simp only[trimZ];split;rename_i h;rw[h.1] at d;simp[val] at d |-;omega;simp[val,d]
theorem Qv4{a:List Nat}(h:Wd a):Wd (trimZ a):=by rw[<-Ja h];exact Ql _
theorem Wn(a:List Nat):(trimZ a).length<=a.length:=by
 induction a with
 | nil=>simp[trimZ]
 | cons x a d=>simp only[trimZ];split<;>simp;omega
theorem Qz4{a:List Nat}(h:trimZ a=[]):val a=0:=by rw[<-Qkj,h];rfl
theorem Qov{a:List Nat}(h:Wd a):trimZ a=[]↔val a=0:=by constructor;exact Qz4;intro d;rw[<-Ja h,d,K2]
theorem Qz5(n:Nat):trimZ (toL n)=toL n:=by rw[<-Ja (Ql n),Qj]
theorem Qls(a:List Nat):trimZ (a++[0])=trimZ a:=by
 induction a with
 | nil=>simp[trimZ]
 | cons x a d=>simp only[yn,trimZ,d]
theorem Qq9(a:List Nat){x:Nat}(h:x≠0):trimZ (a++[x])=a++[x]:=by
 induction a with
 | nil=>simp[trimZ,h]
 | cons y a d=>simp only[yn,trimZ,d];rw[oi oc]
theorem Vc(a b:List Nat):val (a++b)=val a+bp a.length*val b:=by
 induction a with
 | nil=>simp[val,Xc]
 | cons x a d=>simp only[yn,val,d,xl,Jz];rw[vq,<-xt,uz 4294967296 (bp a.length)];omega
theorem Vk{a:List Nat}(h:Wd a):val a<bp a.length:=by
 induction a with
 | nil=>simp[val,Xc]
 | cons x a e=>
   obtain⟨f,d⟩:=Q6.1 h;have:=e d;simp only[val,xl,Jz];omega
theorem Qbl(k:Nat):val (List.replicate k 0)=0:=by
 induction k with
 | zero=>rfl
 | succ k a=>simp[uh,val,a]
theorem Qad{n k:Nat}(h:n<bp k):(toL n).length<=k:=by
 induction k generalizing n with
 | zero=>rw[Xc] at h;obtain rfl:n=0:=om
         simp[K2]
 | succ k a=>
   by_cases h0:n=0;subst h0;simp[K2];rw[Yv h0,xl];have:=@a (n / 4294967296) (by rw[Jz] at h;exact wz (by rw[uz];exact h));omega
theorem Jq{α:Type}{a:List α}{k:Nat}(h:k<a.length):a.take (k+1)=a.take k++[a[k]]:=by simp[]
theorem Vl{n:Nat}{a:List Nat}(f:big<=n)(i:a.length<=4611686018427387904):Vz n a=some (trimZ a):=by
 unfold Vz;unfold big at f;refine Xy (λs=>s.toNat) (λs=>∃ k:Nat,s=k/\k<=a.length/\trimZ a=trimZ (a.take k)) (λt=>∃ k:Nat,t=k/\k<=a.length/\trimZ a=a.take k) ⟨a.length,rfl,ol _,oc⟩ oh ?_ ?_;rintro s ⟨k,rfl,hk,d⟩;simp only[jn_eq,bifd];by_cases h0:0<k;obtain⟨j,rfl⟩:∃ j,k=j+1:=⟨k - 1,om⟩
 rw[oj om,w64 om om,show((j+1:Nat):Int) - 1=(j:Nat) by omega,Za (show j<a.length by omega),sbind];rw[Jq (show j<a.length by omega)] at d;by_cases e:a[j]=0;left;refine⟨(j:Nat),by simp[e],⟨j,rfl,om,?_⟩,om⟩;rw[d,e,Qls];right;refine⟨((j+1:Nat):Int),by simp[e],j+1,rfl,hk,?_⟩;rw[d,Jq (show j<a.length by omega),Qq9 _ e];right;obtain rfl:k=0:=om
 exact⟨0,oc,0,rfl,xg _,by rw[d];simp[trimZ]⟩;rintro t ⟨k,rfl,hk,d⟩;rw[Qqf hk,sbind,d]
theorem Q1h{a:List Nat}{k:Nat}:cpyL (List.replicate (a.length+k) 0) a=a++List.replicate k 0:=by unfold cpyL;rw[yw,xr om,List.drop_replicate,vr]
theorem Qhv{a:List Nat}{k:Nat}(h:a.length+k<=35184372088832):Qbf a (k:Int)=some (a++List.replicate k 0):=by unfold Qbf;rw[w64 om om,show((a.length:Int)+(k:Int))=((a.length+k:Nat):Int) by omega,Qba om om,sbind,Q1h]
theorem Vm{n:Nat}{a:List Nat}(d:big<=n)(e:a.length<=35184372088832):Ko n a=some (trimZ a):=by unfold Ko;have f:=Wn a;rw[Vl d om,sbind,show(0:Int)=((0:Nat):Int) by rfl,Qhv om,sbind];simp
theorem Qnz{n:Nat}{a:List Nat}(e:big<=n)(d:a.length<=4611686018427387904)(f:Wd a):Z7 n a=some (decide (val a=0)):=by unfold Z7;rw[Vl e d,sbind];congr 1;rw[Bool.eq_iff_iff];simp only[vk];rw[<-Qov f];constructor;intro h;exact xd om;intro h;rw[h];rfl
theorem Qnj{x y c d:Nat}(e:x<4294967296)(f:y<4294967296)(a:c<4294967296)(hd:d<4294967296):x*y+c+d<18446744073709551616:=by have:x*y<=4294967295*4294967295:=wj om om;omega
theorem Qix{x y c d:Nat}(e:x<4294967296)(f:y<4294967296)(a:c<4294967296)(hd:d<4294967296):
 Z6 x y c d=some ((x*y+c+d) / 4294967296,(x*y+c+d)%4294967296):=by
 have h:=Qnj e f a hd;unfold Z6;rw[xb (show x*y<18446744073709551616 by omega),xb (show x*y+c<18446744073709551616 by omega),xb h,sbind];rw[show(2:Nat) ^ 32=4294967296 by rfl,xb (show(x*y+c+d) / 4294967296<4294967296 by omega)]
theorem Qsi{x y:Nat}(a:y<4294967296):x*4294967296 ||| y=x*4294967296+y:=by have:=Nat.two_pow_add_eq_or_of_lt (i:=32) (b:=y) (by simpa using a) x;rw[show(2:Nat) ^ 32=4294967296 by rfl,uz] at this;exact this.symm
theorem Qn0{h l y:Nat}(f:h<y)(d:l<4294967296)(i:y<4294967296):
 Qa4 h l y=some ((h*4294967296+l) / y,(h*4294967296+l)%y,true):=by
 unfold Qa4;rw[bifd,oi om,grd_t oh,sbind,sbind];rw[show(2:Nat) ^ 32=4294967296 by rfl,xb (show h*4294967296<18446744073709551616 by omega),Qsi d]
 have a:(h*4294967296+l) / y<4294967296:=wz (by
  have:h*4294967296+4294967296<=y*4294967296:=om
  omega)
 have e:(h*4294967296+l)%y<y:=yh _ om;rw[xb a,xb (show(h*4294967296+l)%y<4294967296 by omega)]
theorem Q2u{α:Type}(p:List α)(y:α)(r:List α):(p++y::r)[p.length]?=some y:=oc
theorem Q2v{α:Type}(p:List α)(y z:α)(r:List α):(p++y::r).set p.length z=p++z::r:=oc
theorem J8{α:Type}{k:Nat}{p:List α}{y:α}{r:List α}(h:p.length=k):getI (p++y::r) (k:Int)=some y:=by rw[Qga,<-h,Q2u]
theorem Vt{α:Type}{k:Nat}{p:List α}{y z:α}{r:List α}(h:p.length=k):(p++y::r).set (k:Int).toNat z=p++z::r:=by rw[yp,<-h,Q2v]
theorem Jh(a:List Nat)(x:Nat):val (a++[x])=val a+bp a.length*x:=by rw[Vc];simp[val]
theorem Qz6{α:Type}{l:List α}{k:Nat}(h:k<l.length):l=l.take k++l[k]::l.drop (k+1):=oc
theorem Q1i(P x y m a u v V M A c:Nat)(e:4294967296*u+v=x*y+m+a)(d:V+P*a=M+x*A+c):V+P*v+P*4294967296*u=M+P*m+x*(A+P*y)+c:=by grind
theorem Qup{p m q a:List Nat}{z x c:Nat}(M:m.length=a.length)(N:p.length+m.length+1+q.length<=4611686018427387904)(H:Wd m)(G:Wd a)(J:x<4294967296)(L:c<4294967296):
 ∃ r,Qa3 (p++m++z::q) (p.length:Int) a x c=some (p++r++q)/\r.length=a.length+1/\Wd r/\val r=val m+x*val a+c:=by
 have key:∃ r,Qa3 (p++m++z::q) (p.length:Int) a x c=some r/\∃ v,r=p++v++q/\v.length=a.length+1/\Wd v/\val v=val m+x*val a+c:=by
  unfold Qa3;refine Qlr (λj (s:List Nat×Nat)=>∃ e,s.1=p++e++(m.drop j++z::q)/\e.length=j/\j<=a.length/\Wd e/\s.2<4294967296/\val e+bp j*s.2=val (m.take j)+x*val (a.take j)+c) ⟨[],oc,rfl,xg _,Jr,L,by simp[val,Xc]⟩ ?_ ?_;rintro j y ⟨o,E⟩ I ⟨e,f,i,F,w,d,A⟩;simp only at f d A;subst f;have l:j<a.length:=by rcases xx j a.length with h | h;exact h;simp[ou h] at I
  have K:a[j]=y:=by simpa [l] using I
  have C:y<4294967296:=by rw[<-K];exact Xj G l
  have u:j<m.length:=om
  have B:m[j]<4294967296:=Xj H u;rw[w64 om om,show((p.length:Int)+(j:Int))=((p.length+j:Nat):Int) by omega,xz u,yn];rw[J8 oh,sbind,Qix J C B d,sbind,sbind,Vt oh];refine⟨_,rfl,e++[(x*y+m[j]+E)%4294967296],oc,by simp[i],om,Q2.2 ⟨w,Q6.2 ⟨om,Jr⟩⟩,by have:=Qnj J C B d;simp only[];omega,?_⟩;rw[Jq u,Jq l,Jh,Jh,Jh,K,i,xo,xo,xf om,xf om,Jz];exact Q1i _ _ _ _ _ _ _ _ _ _ _ (ue (x*y+m[j]+E) 4294967296) A;rintro⟨o,E⟩ ⟨e,f,i,F,w,d,A⟩;simp only at f d A;subst f;simp only[Vy];rw[w64 om om,show((p.length:Int)+(a.length:Int))=((p.length+a.length:Nat):Int) by omega,xe om,ya];rw[J8 oh,sbind,Vt oh];refine⟨_,rfl,e++[E],oc,by simp[i],Q2.2 ⟨w,Q6.2 ⟨d,Jr⟩⟩,?_⟩;rw[Jh,i,A,xr om,xr (ol _)]
 obtain⟨r,f,v,i,F,w,d⟩:=key;exact⟨v,by rw[f,i],F,w,d⟩
theorem Qc4{n x:Nat}(d:big<=n)(e:x<18446744073709551616):Yi n x=some (toL x):=by
 unfold Yi
 rw[show(2:Nat) ^ 32=4294967296 by rfl,Vl d oc,sbind,<-Ja (by
  intro y a;simp only[ud,List.not_mem_nil,or_false] at a
  rcases a with rfl | rfl<;>omega)]
 congr 2;simp only[val];omega
theorem Q1j(P q a r x s y d:Nat)(e:x*q+a=r*P+y)(h:d=x*s+r):y+P*d=x*(q+P*s)+a:=by grind
theorem Qsj{n:Nat}{a:List Nat}{x:Nat}(B:big<=n)(F:a.length<35184372088832)(C:Wd a)(w:x≠0)(E:x<4294967296):Qcw n a x=some (toL (val a / x),val a%x,true):=by
 unfold Qcw;unfold big at B;rw[bifd,oi w,Qba om om,sbind]
 refine Xy (λs=>(s.2.2+1).toNat) (λs=>∃(k:Nat) (qs:List Nat),s.2.2=(k:Int) - 1/\k<=a.length/\s.1=List.replicate k 0++qs/\qs.length=a.length - k/\Wd qs/\s.2.1<x/\val (a.drop k)=x*val qs+s.2.1)
  (λt=>t.1.length=a.length/\Wd t.1/\t.2<x/\val a=x*val t.1+t.2) ⟨a.length,[],by simp only[];rw[w64 om om],ol _,oc,oc,Jr,by simp only[];omega,by simp[val]⟩ (by simp only[];rw[w64 om om];omega) ?_ ?_
 rintro⟨q,r,i⟩ ⟨k,qs,e,m,d,f,A,u,v⟩;simp only at e d u v;subst e d;simp only[bifd];by_cases h0:0<k;obtain⟨j,rfl⟩:∃ j,k=j+1:=⟨k - 1,om⟩
 have l:j<a.length:=om
 left;rw[oj om,show((j+1:Nat):Int) - 1=(j:Nat) by omega,Za l,sbind,Qn0 u (Xj C l) E,sbind];simp only[];rw[List.replicate_succ',xh,List.singleton_append,J8 oc,sbind,Vt oc,w64 om om];refine⟨_,rfl,⟨j,((r*4294967296+a[j]) / x)::qs,rfl,om,rfl,oh,Q6.2 ⟨?_,A⟩,yh _ om,?_⟩,by simp only[];omega⟩;have:=Xj C l
 exact wz (by
  have:r*4294967296+4294967296<=x*4294967296:=om
  omega)
 rw[xz l];simp only[val];exact Q1j 4294967296 _ _ _ _ _ _ _ (ue (r*4294967296+a[j]) x) v;right;obtain rfl:k=0:=om
 rw[oi om];exact⟨_,rfl,by simp at f |-;omega,by simpa using A,u,by simpa using v⟩;rintro⟨q,r⟩ ⟨e,m,d,f⟩;simp only at e m d f;simp only[];rw[Vm (by unfold big;exact B) om,sbind,<-Ja m,f,Nat.mul_add_div om,Nat.mul_add_mod,vi d,xb d,xk]
theorem K8{n:Nat}{a:List Nat}(l:big<=n)(m:a.length<=35184372088832):Q1 n a=some (trimZ a):=by
 have h:=Vl l (show a.length<=4611686018427387904 by omega);have q:=Wn a;unfold Q1;unfold Vz at h
 cases hk:loopM (λ(d:Int)=>
  jn (λ(e:(Bool)->Option _)=>
   bif decide ((0:Int)<d) then (
    (getI a (wrap64 (d - (1:Int)))).bind λi=>
    e (decide (i=0)))
   else (
    e false)) (λ(f:Bool)=>
   bif f then (
    some (Lp.go (wrap64 (d - (1:Int)))))
   else (
    some (Lp.out d)))) n (a.length:Int) with
 | none=>rw[hk] at h;cases h
 | some t=>
   rw[hk] at h;rw[sbind] at h |-;cases j:sub a (0:Int) t with
   | none=>rw[j] at h;cases h
   | some b=>
     rw[j,sbind] at h;rw[sbind];obtain rfl:b=trimZ a:=by simpa using h
     rw[W5 oh oh,sbind,ya]
theorem Qkk{n:Nat}{a b:List Nat}(i:big<=n)(j:a.length<=4611686018427387904):Wy n a b=some (decide (a=b)):=by unfold Wy;unfold big at i;rw[bifnd];by_cases f:a.length=b.length;rw[oj om];refine Xy (λs=>a.length - s.toNat) (λs=>∃ k:Nat,s=k/\k<=a.length/\a.take k=b.take k) (λt=>(t=.go ()/\a=b)\/(t=.out false/\a≠b)) ⟨0,rfl,xg _,oc⟩ om ?_ ?_;rintro s ⟨k,rfl,hk,d⟩;simp only[bifd,bifnd];by_cases h:k<a.length;rw[oj om,Za h,sbind,Za (show k<b.length by omega),sbind];by_cases e:a[k]=b[k];left;rw[oj e,w64 om om];refine⟨_,rfl,⟨k+1,om,om,?_⟩,om⟩;rw[Jq h,Jq (show k<b.length by omega),d,e];right;rw[oi e];exact⟨_,rfl,.inr ⟨rfl,λh=>e (by simp[h])⟩⟩;right;rw[oi om];refine⟨_,rfl,.inl ⟨rfl,?_⟩⟩;rw[xr om,xr om] at d;exact d;rintro t (⟨rfl,h⟩ | ⟨rfl,h⟩);rw[Vy];simp[h];rw[Qc3];simp[h];rw[oi om];have:a≠b:=λh=>f (by rw[h]);simp[this]
theorem Qef{a:List Nat}(h:Wd a)(i:Nat):a.getD i 0<4294967296:=by rw[ov];by_cases hi:i<a.length;simp[hi];exact Xj h hi;simp[ou (show a.length<=i by omega)]
theorem K9(a:List Nat)(k:Nat):val (a.take (k+1))=val (a.take k)+bp k*a.getD k 0:=by by_cases h:k<a.length;rw[Jq h,Jh,xo,xf om];simp[h];rw[xr om,xr om];simp[ou (show a.length<=k by omega)]
theorem Z4{a:List Nat}{k:Nat}:J4 a (k:Int)=some (a.getD k 0):=by unfold J4;rw[bifd];by_cases h:k<a.length;rw[oj om,Za h,sbind];simp[h];rw[oi om];simp[ou (show a.length<=k by omega)]
theorem Q1k(P s x y u v V A C:Nat)(e:4294967296*u+v=s+(x+y))(h:V+P*s=A+C):V+P*v+P*4294967296*u=A+P*x+(C+P*y):=by grind
theorem Qy7(P Q s o a d:Nat)(_:Nat)(i:o+P*s=a+d)(j:a<Q)(l:d<Q)(f:P=Q*4294967296):s=0:=by rcases gm s with h | h;exact h;exfalso;have e:P*1<=P*s:=ym _ h;omega
theorem Ql5{n:Nat}{a b:List Nat}(C:big<=n)(K:a.length<17592186044416)(L:b.length<17592186044416)(m:Wd a)(r:Wd b):Xb n a b=some (toL (val a+val b)):=by
 unfold Xb;unfold big at C;obtain⟨l,M⟩:∃ l:Nat,l=max a.length b.length:=⟨_,rfl⟩
 have f:max (a.length:Int) (b.length:Int)=(l:Int):=om
 have w:a.length<=l:=om
 have x:b.length<=l:=om
 have J:l<17592186044416:=om
 rw[f,w64 om om,show((l:Int)+1)=((l+1:Nat):Int) by omega,Qba om om,sbind]
 refine Xy (λs=>(l+1) - s.2.2.toNat) (λs=>∃(k:Nat) (o:List Nat),s.2.2=k/\k<=l+1/\s.1=o++List.replicate (l+1 - k) 0/\o.length=k/\Wd o/\s.2.1<4294967296/\val o+bp k*s.2.1=val (a.take k)+val (b.take k))
  (λt=>t.length=l+1/\Wd t/\val t=val a+val b) ⟨0,[],rfl,om,oc,rfl,Jr,oc,by simp[val,Xc]⟩ (by simp only[];omega) ?_ ?_
 rintro⟨q,s,i⟩ ⟨k,o,v,A,u,e,B,G,d⟩;simp only at v u G d;subst v u;simp only[sbind,bifd];by_cases hk:k<l+1;left;have N:=Qef m k;have O:=Qef r k;rw[oj om,Z4,sbind,Z4,sbind];obtain⟨j,I⟩:∃ j,l+1 - k=j+1:=⟨l - k,om⟩
 rw[I,uh,J8 e,sbind,Vt e,w64 om om];rw[xb (show a.getD k 0+b.getD k 0<18446744073709551616 by omega),xb (show s+(a.getD k 0+b.getD k 0)<18446744073709551616 by omega),Nat.mod_mod];refine⟨_,rfl,⟨k+1,o++[(s+(a.getD k 0+b.getD k 0))%4294967296],by simp only[];omega,om,?_,by simp[e],Q2.2 ⟨B,Q6.2 ⟨om,Jr⟩⟩,by simp only[];omega,?_⟩,by simp only[];omega⟩;simp only[];rw[show l+1 - (k+1)=j by omega];simp;simp only[];rw[K9,K9,Jh,e,Jz];exact Q1k _ _ _ _ _ _ _ _ _ (ue (s+(a.getD k 0+b.getD k 0)) 4294967296) d;right;obtain rfl:k=l+1:=om
 rw[oi om];refine⟨_,rfl,by simp[e],by simpa using B,?_⟩;rw[xr om,xr om] at d;have H:s=0:=by have g1:=Vk m;have E:=Vk r;have g3:bp a.length<=bp l:=bp_le w;have g4:bp b.length<=bp l:=bp_le x;have F:bp (l+1)=bp l*4294967296:=Jz _;exact Qy7 _ _ _ _ _ _ 0 d (xc g1 g3) (xc E g4) F
 rw[H,yu,xk] at d
 simpa using d
 rintro t ⟨v,A,u⟩;rw[K8 (by unfold big;exact C) om,sbind,<-Ja A,u]
theorem Q1l(P x y m a u v V M A:Nat)(e:4294967296*u+v=a+(x*y+m))(d:V+P*a=M+x*A):V+P*v+P*4294967296*u=M+P*m+x*(A+P*y):=by grind
theorem Q2w(P Q A x b O R c p _ M z:Nat)(a:O=p+P*M)(d:R+Q*c=M+x*b)(e:O=A*b)(f:z=p+P*(R+Q*c)):z=(A+P*x)*b:=by grind
theorem Qkl{n:Nat}{a b:List Nat}(R:big<=n)(U:a.length+b.length<=35184372088832)(I:Wd a)(J:Wd b):Jg n a b=some (toL (val a*val b)):=by
 unfold Jg;unfold big at R;rw[w64 om om,show((a.length:Int)+(b.length:Int))=((a.length+b.length:Nat):Int) by omega,Qba om om,sbind]
 refine Xy (λs=>a.length - s.2.toNat) (λs=>∃(i:Nat) (o:List Nat),s.2=i/\i<=a.length/\s.1=o++List.replicate (a.length - i) 0/\o.length=i+b.length/\Wd o/\val o=val (a.take i)*val b)
  (λt=>t.length=a.length+b.length/\Wd t/\val t=val a*val b) ⟨0,List.replicate b.length 0,rfl,xg _,by simp only[Nat.sub_zero,List.replicate_append_replicate];rw[Nat.add_comm],oc,Qg8 om,by rw[Qbl];simp[val]⟩ (by simp only[];omega) ?_ ?_
 rintro⟨q,X⟩ ⟨i,o,B,O,u,T,C,P⟩;simp only at B u;subst B u;simp only[bifd];by_cases hi:i<a.length;left;have M:=Xj I hi;obtain⟨j,V⟩:∃ j,a.length - i=j+1:=⟨a.length - i - 1,om⟩
 rw[oj om,V,uh];obtain⟨p,H⟩:∃ p,p=o.take i:=⟨_,rfl⟩
 obtain⟨m,E⟩:∃ m,m=o.drop i:=⟨_,rfl⟩
 have S:o=p++m:=by rw[H,E,yv]
 have f:p.length=i:=by rw[H,xo];omega
 have W:m.length=b.length:=by rw[E,va];omega
 have L:Wd p:=by rw[H];exact Qjj C
 have K:Wd m:=by rw[E];exact Qgc C
 have G:val o=val p+bp i*val m:=by rw[S,Vc,f]
 rw[S]
 refine Qy6 (λs=>b.length - s.2.2.toNat) (λs=>∃(k:Nat) (d:List Nat),s.2.2=k/\k<=b.length/\s.1=p++d++(m.drop k++0::List.replicate j 0)/\d.length=k/\Wd d/\s.2.1<4294967296/\val d+bp k*s.2.1=val (m.take k)+a[i]*val (b.take k))
  (λt=>∃ d:List Nat,t.1=p++d++0::List.replicate j 0/\d.length=b.length/\Wd d/\t.2<4294967296/\val d+bp b.length*t.2=val m+a[i]*val b) ⟨0,[],rfl,xg _,oc,rfl,Jr,oc,by simp[val]⟩ (by simp only[];omega) ?_ ?_
 rintro⟨q,v,Y⟩ ⟨k,d,g1,w,g3,g4,l,A,r⟩;simp only at g1 g3 A r;subst g1 g3;simp only[];by_cases hk:k<b.length;left;have N:=Xj J hk;have e:k<m.length:=om
 have F:=Xj K e;have Q:=Qnj M N F A;rw[oj om,Za hi,sbind,Za hk,sbind,w64 (x:=(i:Int)+(k:Int)) om om,show((i:Int)+(k:Int))=((i+k:Nat):Int) by omega];rw[xz e,yn,J8 oh,sbind,sbind,sbind,sbind,Vt oh,sbind,w64 om om];rw[xb (show a[i]*b[k]<18446744073709551616 by omega),xb (show a[i]*b[k]+m[k]<18446744073709551616 by omega),xb (show v+(a[i]*b[k]+m[k])<18446744073709551616 by omega),Nat.mod_mod];refine⟨_,rfl,⟨k+1,d++[(v+(a[i]*b[k]+m[k]))%4294967296],by simp only[];omega,om,oc,by simp[g4],Q2.2 ⟨l,Q6.2 ⟨om,Jr⟩⟩,by simp only[];omega,?_⟩,by simp only[];omega⟩;simp only[];rw[Jq e,Jq hk,Jh,Jh,Jh,g4,xo,xo,xf om,xf om,Jz];exact Q1l _ _ _ _ _ _ _ _ _ _ (ue (v+(a[i]*b[k]+m[k])) 4294967296) r;right;obtain rfl:k=b.length:=om
 rw[oi om];refine⟨_,rfl,d,by simp only[];rw[xe om];simp,g4,l,A,?_⟩;rw[xr om,xr om] at r;exact r;rintro⟨q,c⟩ ⟨d,g1,w,g3,g4,l⟩;simp only at g1 g4 l;subst g1;rw[w64 (x:=(i:Int)+(b.length:Int)) om om,show((i:Int)+(b.length:Int))=((i+b.length:Nat):Int) by omega];simp only[];rw[J8 oh,sbind,Vt oh,sbind,w64 om om,xb g4];refine⟨_,rfl,⟨i+1,p++d++[c],by simp only[];omega,om,by simp only[];rw[show a.length - (i+1)=j by omega];simp,by simp[f,w];omega,Q2.2 ⟨Q2.2 ⟨L,g3⟩,Q6.2 ⟨g4,Jr⟩⟩,?_⟩,by simp only[];omega⟩;rw[xh,Vc,Jh,f,w,Jq hi,Jh,xo,xf om];exact Q2w _ _ _ _ _ _ _ _ _ 0 _ _ G l P rfl;right;obtain rfl:i=a.length:=om
 rw[oi om];exact⟨_,rfl,by simp[T],by simpa using C,by simpa using P⟩;rintro t ⟨B,O,u⟩;rw[K8 (by unfold big;exact R) om,sbind,<-Ja O,u]
theorem Zj{n:Nat}{a b:List Nat}(f:big<=n)(i:a.length<17592186044416)(j:b.length<17592186044416)(d:Wd a)(e:Wd b):Jg n a b=some (toL (val a*val b)):=Qkl f om d e
def cmpI(x y:Nat):Int:=if x<y then -1 else if y<x then 1 else 0
theorem Qxm{n:Nat}(h:n≠0):bp ((toL n).length - 1)<=n:=by
 induction n using Nat.strongRecOn with
 | _ n i=>
   rw[Yv h,xl,Nat.add_sub_cancel];by_cases a:n / 4294967296=0;rw[a,K2,gr,Xc];omega;have:=i (n / 4294967296) om a;have j:(toL (n / 4294967296)).length≠0:=by rw[Yv a];simp
   obtain⟨m,d⟩:∃ m,(toL (n / 4294967296)).length=m+1:=⟨(toL (n / 4294967296)).length - 1,om⟩
   rw[d,Nat.add_sub_cancel] at this;rw[d,Jz];have e:bp m*4294967296<=n / 4294967296*4294967296:=ow _ this;have f:n / 4294967296*4294967296<=n:=Nat.div_mul_le_self _ _;exact xn e f
theorem Qra{m n:Nat}(h:(toL m).length<(toL n).length):m<n:=by
 have a:=Vk (Ql m);rw[Qj] at a;have f:n≠0:=by rintro rfl;rw[K2] at h;simp at h
 have d:=Qxm f;have e:bp (toL m).length<=bp ((toL n).length - 1):=bp_le om;exact xc a (xn e d)
theorem Qv5(a:List Nat)(k:Nat):val a=val (a.take k)+bp (a.take k).length*val (a.drop k):=by
 conv=>lhs;rw[<-yv k a]
 rw[Vc]
theorem Q1m{P x y u v A:Nat}(f:A<P)(a:x<y)(d:u=A+P*x)(e:P*y<=v):u<v:=by have:P*(x+1)<=P*y:=ym _ a;rw[vq] at this;omega
theorem Qpd{a b:List Nat}{j:Nat}(l:Wd a)(m:j<a.length)(d:j<b.length)(q:a.drop (j+1)=b.drop (j+1))(h:a[j]<b[j]):val a<val b:=by have e:=Qv5 a (j+1);have f:=Qv5 b (j+1);rw[xo,xf om] at e f;rw[e,f,q];refine Nat.add_lt_add_right ?_ _;rw[Jq m,Jq d,Jh,Jh,xo,xo,xf om,xf om];have i:=Vk (Qjj (k:=j) l);rw[xo,xf om] at i;exact Q1m i h rfl (Nat.le_add_left _ _)
theorem Qdy{n:Nat}{a b:List Nat}(v:big<=n)(B:a.length<=4611686018427387904)(E:b.length<=4611686018427387904)(i:Wd a)(w:Wd b):Qag n a b=some (cmpI (val a) (val b)):=by
 unfold Qag;rw[Vl v B,sbind,Vl v E,sbind,<-Ja i,<-Ja w];have F:(toL (val a)).length<=4611686018427387904:=by rw[Ja i];exact xn (Wn a) B
 have e:=Qj (val a);have f:=Qj (val b);have l:=Ql (val a);have m:=Ql (val b);have G:=@Qra (val a) (val b);have l2:=@Qra (val b) (val a);generalize val a=x at *;generalize val b=y at *;generalize toL x=a' at *;generalize toL y=b' at *;unfold big at v;rw[bifd,bifd];by_cases C:a'.length<b'.length;rw[oj om,cmpI,oj (G C)];rw[oi om];by_cases A:b'.length<a'.length;rw[oj om,cmpI,oi (by have:=l2 A;omega),oj (l2 A)];rw[oi om,w64 om om];refine Xy (λs=>(s+1).toNat) (λs=>∃ k:Nat,s=(k:Int) - 1/\k<=a'.length/\a'.drop k=b'.drop k) (λt=>(t=.go ()/\a'=b')\/(t=.out (-1)/\x<y)\/(t=.out 1/\y<x)) ⟨a'.length,rfl,ol _,by rw[xe (ol _),xe om]⟩ om ?_ ?_;rintro s ⟨k,rfl,hk,r⟩;simp only[bifd];by_cases h0:0<k;obtain⟨j,rfl⟩:∃ j,k=j+1:=⟨k - 1,om⟩
 have q:j<a'.length:=om
 have d:j<b'.length:=om
 rw[oj om,show((j+1:Nat):Int) - 1=(j:Nat) by omega,Za q,sbind,Za d,sbind];by_cases g1:a'[j]<b'[j];right;rw[oj g1];refine⟨_,rfl,.inr (.inl ⟨rfl,?_⟩)⟩;rw[<-e,<-f];exact Qpd l q d r g1;rw[oi g1,sbind,sbind];by_cases u:b'[j]<a'[j];right;rw[oj u];refine⟨_,rfl,.inr (.inr ⟨rfl,?_⟩)⟩;rw[<-e,<-f];exact Qpd m d q r.symm u;left;rw[oi u,w64 om om];refine⟨_,rfl,⟨j,rfl,om,?_⟩,om⟩;rw[xz q,xz d,r,show a'[j]=b'[j] by omega];right;obtain rfl:k=0:=om
 rw[oi om];exact⟨_,rfl,.inl ⟨rfl,by simpa using r⟩⟩;rintro t (⟨rfl,h⟩ | ⟨rfl,h⟩ | ⟨rfl,h⟩);rw[Vy];have:x=y:=by rw[<-e,<-f,h]
 simp[cmpI,this];rw[Qc3,cmpI,oj h];rw[Qc3,cmpI,oi om,oj h]
theorem Qz7{v:Nat}(h:v<18446744073709551616):toL v=[]\/(∃ x,toL v=[x]/\x=v)\/(∃ x y,toL v=[x,y]/\x<4294967296/\y<4294967296/\x+4294967296*y=v):=by
 have f:=Qad (n:=v) (k:=2) (by rw[Jz,Jz,Xc];omega);have a:=Qj v;have d:=Ql v
 match e:toL v,f with
 | [],_=>exact .inl rfl
 | [x],_=>rw[e] at a;simp[val] at a;exact .inr (.inl ⟨x,rfl,a⟩)
 | [x,y],_=>
   rw[e] at a d;simp[val] at a;exact .inr (.inr ⟨x,y,rfl,(Q6.1 d).1,(Q6.1 (Q6.1 d).2).1,om⟩)
 | _::_::_::_,h=>simp at h
theorem Qxn{v:Nat}(h:18446744073709551616<=v):2<(toL v).length:=by rcases xx 2 (toL v).length with a | a;exact a;have d:=Vk (Ql v);rw[Qj] at d;have e:=bp_le a;rw[Jz,Jz,Xc] at e;omega
theorem Ql6{n:Nat}{a:List Nat}(e:big<=n)(d:a.length<=4611686018427387904)(f:Wd a):Qcx n a=some (if val a<18446744073709551616 then (val a,true) else (0,false)):=by unfold Qcx;rw[Vl e d,sbind,<-Ja f,bifd];by_cases h:val a<18446744073709551616;rw[oj h];rcases Qz7 h with h1 | ⟨x,h1,h2⟩ | ⟨x,y,h1,h2,h3,h4⟩;have:=Qj (val a);rw[h1] at this |-;rw[oi oz];simp only[val] at this;simp only[rangeL,sbind,Vy,<-this];rw[h1,oi oc];simp only[rangeL];rw[w64 om om,grd_t oz,sbind,sbind,sbind,sbind];simp only[Vy];subst h2;simp;omega;rw[h1,oi oc];simp only[rangeL];rw[w64 (x:=32*((0:Nat):Int)) om om,grd_t oz,sbind,sbind,sbind,w64 om om,grd_t oz];simp only[sbind,Vy];rw[show(2:Nat) ^ min (Int.toNat (32*((0:Nat):Int))) 64=1 by rfl,show(2:Nat) ^ min (Int.toNat (32*((0+1:Nat):Int))) 64=4294967296 by rfl,Nat.mul_one,xb (show x<18446744073709551616 by omega),xb (show y*4294967296<18446744073709551616 by omega),Nat.zero_or,Nat.or_comm,Qsi h2];congr 2;omega;rw[oi h];have:=Qxn (v:=val a) om;rw[oj om]
theorem Qfo{x y c:Nat}(d:x<4294967296)(e:y<4294967296)(a:c<4294967296):
 Xo x y c=some ((x+y+c)%4294967296,(x+y+c) / 4294967296):=by
 unfold Xo;simp only[jn_eq,bifd];split<;>split<;>congr 1<;>refine Prod.ext ?_ ?_<;>simp only[]<;>omega
theorem Qiy{x y c:Nat}(e:x<4294967296)(f:y<4294967296)(a:c<=1):
 ∃ d b,Qca x y c=some (d,b)/\d<4294967296/\b<=1/\d+y+c=x+4294967296*b:=by
 unfold Qca;simp only[jn_eq,bifd,sbind];split<;>split<;>refine⟨_,_,rfl,?_,?_,?_⟩<;>omega
theorem Qz8(P s x y u v V A C:Nat)(e:4294967296*u+v=x+y+s)(h:V+P*s=A+C):V+P*v+P*4294967296*u=A+P*x+(C+P*y):=by grind
theorem Qxo{k:Nat}{b:List Nat}{β:Type}(f:Nat->Option β):(if (k:Int)<(b.length:Int) then (getI b (k:Int)).bind f else f 0)=f (b.getD k 0):=by by_cases h:k<b.length;rw[oj om,Za h,sbind];simp[h];rw[oi om];simp[ou (show b.length<=k by omega)]
theorem Qxp{n:Nat}{a b:List Nat}(E:big<=n)(F:a.length<17592186044416)(C:b.length<=a.length)(v:Wd a)(m:Wd b):Qcb n a b=some (toL (val a+val b)):=by
 unfold Qcb;simp only[jn_eq,bifd];rw[oi om];rw[show(1:Int)=((1:Nat):Int) by rfl,Qhv om,sbind];refine Qg7 (λj (s:List Nat×Nat)=>∃ f,s.1=f++(List.drop j a++[0])/\f.length=j/\j<=a.length/\Wd f/\s.2<=1/\val f+bp j*s.2=val (a.take j)+val (b.take j)) ⟨[],oc,rfl,xg _,Jr,oc,by simp[val,Xc]⟩ ?_ ?_;rintro j y ⟨o,q⟩ x ⟨f,i,e,B,r,u,l⟩;simp only at i u l;subst i;have d:j<a.length:=by
  rcases xx j a.length with h | h;exact h;simp[ou h] at x
 have A:a[j]=y:=by simpa [d] using x
 have w:y<4294967296:=by rw[<-A];exact Xj v d
 rw[Qxo,Qfo w (Qef m j) (by simp only[];omega),sbind,xz d,yn,J8 e,sbind,Vt e];refine⟨_,rfl,f++[(y+b.getD j 0+q)%4294967296],oc,by simp[e],om,Q2.2 ⟨r,Q6.2 ⟨om,Jr⟩⟩,?_,?_⟩;have:=Qef m j;simp only[];omega;rw[K9,K9,Jh,e,Jz];rw[show a.getD j 0=y by rw[<-A];simp[d]];exact Qz8 _ _ _ _ _ _ _ _ _ (ue (y+b.getD j 0+q) 4294967296) l;rintro⟨o,q⟩ ⟨f,i,e,B,r,u,l⟩;simp only at i u l;subst i;simp only[Vy];rw[xe (ol _),ya,J8 e,sbind,Vt e,Vl E oh,sbind,<-Ja (Q2.2 ⟨r,Q6.2 ⟨om,Jr⟩⟩),Jh,e,l,xr (ol _),xr C]
theorem Qn1{n:Nat}{a b:List Nat}(f:big<=n)(i:a.length<17592186044416)(j:b.length<17592186044416)(d:Wd a)(e:Wd b):Qcb n a b=some (toL (val a+val b)):=by by_cases l:b.length<=a.length;exact Qxp f i l d e;rw[Nat.add_comm,<-Qxp f j om e d];unfold Qcb;simp only[jn_eq,bifd];rw[oj om,oi om]
theorem Qv6{n:Nat}{a b:List Nat}(f:big<=n)(l:a.length<17592186044410)(m:b.length<17592186044410)(d:Wd a)(e:Wd b):Qdq n [a,b]=some (toL (val a+val b)):=by unfold Qdq;have i:=Qn1 (a:=[]) (b:=toL (val a)) f oc (by have:=Wn a;rw[Ja d];omega) Jr (Ql _);have j:=Qn1 (a:=toL (val a)) (b:=toL (val b)) f (by have:=Wn a;rw[Ja d];omega) (by have:=Wn b;rw[Ja e];omega) (Ql _) (Ql _);rw[Qj] at i j;rw[Qj] at j;simp only[val,xa] at i;simp only[rangeL,Vl f (show a.length<=4611686018427387904 by omega),Vl f (show b.length<=4611686018427387904 by omega),sbind,<-Ja d,<-Ja e,i,j,Vy]
theorem Qeg{α:Type}{l:List α}{i:Nat}{x:α}(h:l[i]?=some x):i<l.length:=by rcases xx i l.length with a | a;exact a;rw[ou a] at h;cases h
theorem V3{x y:Nat}(h:x<=y):(toL x).length<=(toL y).length:=by refine Qad ?_;have:=Vk (Ql y);rw[Qj] at this;omega
theorem Qqg(P c a x y d V A B:Nat)(e:d+y+c=x+4294967296*a)(h:V+B=A+P*c):V+P*d+(B+P*y)=A+P*x+P*4294967296*a:=by grind
theorem Qow{n:Nat}{a b:List Nat}(F:big<=n)(P:a.length<17592186044416)(Q:b.length<17592186044416)(r:Wd a)(v:Wd b):
 Qif n a b=some (if val a<val b then ([],false) else (toL (val a - val b),true)):=by
 unfold Qif;have R:(toL (val a)).length<17592186044416:=by rw[Ja r];exact xu (Wn a) P
 have S:(toL (val b)).length<17592186044416:=by rw[Ja v];exact xu (Wn b) Q
 rw[Vl F om,sbind,Vl F om,sbind,<-Ja r,<-Ja v,Qdy F om om (Ql _) (Ql _),sbind,Qj,Qj];have H:=Qj (val a);have I:=Qj (val b);have u:=Ql (val a);have A:=Ql (val b);have G:=λh=>V3 (x:=val b) (y:=val a) h;generalize val a=x at *;generalize val b=y at *;generalize toL x=a' at *;generalize toL y=b' at *;rw[bifd];by_cases f:x<y;rw[oj (by rw[cmpI,oj f];decide),oj f];rw[oi (by rw[cmpI,oi f];split<;>decide),oi f];have G:=G om;simp only[jn_eq,bifd];rw[show(0:Int)=((0:Nat):Int) by rfl,Qhv om,sbind];refine Qg7 (λj (s:List Nat×Nat)=>∃ i,s.1=i++List.drop j a'/\i.length=j/\j<=a'.length/\Wd i/\s.2<=1/\val i+val (b'.take j)=val (a'.take j)+bp j*s.2) ⟨[],oc,rfl,xg _,Jr,oc,by simp[val]⟩ ?_ ?_;rintro j w ⟨o,B⟩ K ⟨i,q,l,N,C,E,m⟩;simp only at q E m;subst q;have e:j<a'.length:=Qeg K;have L:a'[j]=w:=by simpa [e] using K
 have J:w<4294967296:=by rw[<-L];exact Xj u e
 obtain⟨d,T,g1,M,g3,g4⟩:=Qiy J (Qef A j) E;rw[Qxo,g1,sbind,xz e,J8 l,sbind,Vt l];refine⟨_,rfl,i++[d],oc,by simp[l],om,Q2.2 ⟨C,Q6.2 ⟨M,Jr⟩⟩,g3,?_⟩;rw[K9,K9,Jh,l,Jz];rw[show a'.getD j 0=w by rw[<-L];simp[e]];exact Qqg _ _ _ _ _ _ _ _ _ g4 m;rintro⟨o,B⟩ ⟨i,q,l,N,C,E,m⟩;simp only at q E m;subst q;simp only[Vy];rw[xr (ol _),xr G,H,I] at m;rw[xe (ol _),vo,Vl F om,sbind,<-Ja C];have O:B=0:=by
  have g1:=Vk C;rw[l] at g1;rcases gm B with h | h;exact h;have U:bp a'.length*1<=bp a'.length*B:=ym _ h;omega
 subst O;rw[yu] at m;congr 3;omega
theorem Qv7{n:Nat}{a b:List Nat}(f:big<=n)(i:a.length<17592186044416)(j:b.length<17592186044416)(d:Wd a)(e:Wd b):
 Qig n a b=some (toL (val a - val b+(val b - val a)),cmpI (val a) (val b)):=by
 unfold Qig;rw[Qdy f om om d e,sbind];simp only[jn_eq,bifd];by_cases h:val a<val b;rw[oj (by rw[cmpI,oj h];decide),Qow f j i e d,oi om,sbind];rw[show val a - val b+(val b - val a)=val b - val a by omega];rw[oi (by rw[cmpI,oi h];split<;>decide),Qow f i j d e,oi h,sbind];rw[show val a - val b+(val b - val a)=val a - val b by omega]
def blen(x:Nat):Nat:=if x=0 then 0 else Nat.log2 x+1
theorem Qdz:blen 0=0:=by unfold blen;rw[oj rfl]
theorem Qsk{x k:Nat}(a:2 ^ k<=x)(d:x<2 ^ (k+1)):blen x=k+1:=by
 have h0:x≠0:=by have:=yf k;omega
 unfold blen;rw[oi h0,(Nat.log2_eq_iff h0).2 ⟨a,d⟩]
theorem Ql7{x:Nat}:x<2 ^ blen x:=by unfold blen;by_cases h0:x=0;rw[oj h0,h0];decide;rw[oi h0];exact Nat.lt_log2_self
theorem Qjk{x:Nat}(h0:x≠0):2 ^ (blen x - 1)<=x:=by unfold blen;rw[oi h0];exact Nat.log2_self_le h0
theorem Qnk{x:Nat}(h0:x≠0):1<=blen x:=by unfold blen;rw[oi h0];omega
theorem Q1n{x w:Nat}(h:x / 2 ^ w≠0):blen x=blen (x / 2 ^ w)+w:=by
 have a:=Qjk h;have d:=Ql7 (x:=x / 2 ^ w);have e:=Qnk h;obtain⟨k,hk⟩:∃ k,blen (x / 2 ^ w)=k+1:=⟨_,(Nat.sub_add_cancel e).symm⟩
 rw[hk,Nat.add_sub_cancel] at a;rw[hk] at d |-;rw[show k+1+w=(k+w)+1 by omega];refine Qsk ?_ ?_;rw[uq];exact(Nat.le_div_iff_mul_le (yf w)).1 a;rw[show k+w+1=(k+1)+w by omega,uq];exact(gd (yf w)).1 d
theorem Quq{n x:Nat}(q:big<=n)(r:x<4294967296):Qd2 n x=some (blen x:Int):=by
 unfold Qd2;unfold big at q
 refine Xy (λs=>s.2.2.toNat) (λs=>∃(w k B:Nat),s.2.2=w/\s.2.1=k/\(w,B)∈[(16,4294967296),(8,65536),(4,256),(2,16),(1,4),(0,2)]/\s.1<B/\k+2*w<=32/\blen x=k+blen s.1)
  (λt=>∃ k:Nat,t.2=k/\k<=32/\t.1<2/\blen x=k+blen t.1) ⟨16,0,4294967296,rfl,rfl,oz,r,oz,oc⟩ (by simp only[];omega) ?_ ?_
 rintro⟨y,c,w'⟩ ⟨w,k,B,d,j,e,a,u,f⟩;simp only at d j a f;subst d j;simp only[jn_eq,bifd,bifnd];by_cases h0:0<w;left;rw[oj om,grd_t oc,sbind,sbind,yp];have v:w<=16:=om
 have hd:Int.tdiv (w:Int) 2=((w / 2:Nat):Int):=oa
 rw[hd,xf om,w64 (x:=((w / 2:Nat):Int)) om om,w64 om om];have m:∃ B',(w / 2,B')∈[(16,4294967296),(8,65536),(4,256),(2,16),(1,4),(0,2)]/\B'*2 ^ w=B/\(2 ^ w<=B'):=by simp only[ud,List.not_mem_nil,or_false,Prod.mk.injEq] at e;rcases e with ⟨rfl,rfl⟩ | ⟨rfl,rfl⟩ | ⟨rfl,rfl⟩ | ⟨rfl,rfl⟩ | ⟨rfl,rfl⟩ | ⟨rfl,rfl⟩;exact⟨65536,oz,oz,oz⟩;exact⟨256,oz,oz,oz⟩;exact⟨16,oz,oz,oz⟩;exact⟨4,oz,oz,oz⟩;exact⟨2,oz,oz,oz⟩;omega
 obtain⟨B',g1,l,g3⟩:=m;by_cases i:y / 2 ^ w=0;rw[oj i];refine⟨_,rfl,⟨w / 2,k,B',rfl,rfl,g1,?_,om,f⟩,by simp only[];omega⟩;have:=(Nat.div_eq_zero_iff_lt (yf w)).1 i;exact xc this g3;rw[oi i];refine⟨_,rfl,⟨w / 2,k+w,B',rfl,by simp only[];omega,g1,?_,om,?_⟩,by simp only[];omega⟩;rw[<-l] at a;exact(gd (yf w)).2 a;rw[f,Q1n i];simp only[];omega;right;obtain rfl:w=0:=om
 rw[oi om];simp only[ud,List.not_mem_nil,or_false,Prod.mk.injEq] at e;refine⟨_,rfl,k,rfl,om,by simp only[];omega,f⟩;rintro⟨y,c⟩ ⟨k,d,j,e,a⟩;simp only at d e a;subst d;rw[a,w64 (by simp only[];omega) (by simp only[];omega)];have:blen y=y:=by
  have:y=0\/y=1:=om
  rcases this with rfl | rfl;rw[Qdz];exact Qsk (k:=0) oz oz
 rw[this];simp
theorem Qg9(k:Nat):bp k=2 ^ (32*k):=by unfold bp;rw[Nat.pow_mul]
theorem Qv8{v:Nat}(h:toL v≠[]):∃ p x,toL v=p++[x]/\x≠0/\x<4294967296/\Wd p:=by have a:=Ql v;rcases List.eq_nil_or_concat (toL v) with h0 | ⟨p,x,h1⟩;exact absurd h0 h;rw[List.concat_eq_append] at h1;refine⟨p,x,h1,?_,?_,?_⟩;rintro rfl;have d:=Qz5 v;rw[h1,Qls] at d;have:=Wn p;rw[d] at this;simp at this;omega;rw[h1] at a;exact(Q6.1 (Q2.1 a).2).1;rw[h1] at a;exact(Q2.1 a).1
theorem Qz9(P M R x A B m V:Nat)(a:V=M+P*m)(d:R=m+x*A+0)(e:V=A*B):M+P*R=A*(B+P*x):=by grind
theorem Qcm{n:Nat}{a b:List Nat}(G:big<=n)(J:a.length<8796093022208)(K:b.length<8796093022208)(v:Wd a)(w:Wd b):Y1 n a b=some (toL (val a*val b)):=by
 unfold Y1;rw[w64 (x:=(a.length:Int)+(b.length:Int)) om om,w64 om om,show((a.length:Int)+(b.length:Int))+1=((a.length+b.length+1:Nat):Int) by omega,Qba om om,sbind];refine Qg7 (λj (s:List Nat)=>∃ d,s=d++List.replicate (b.length+1 - j) 0/\d.length=j+a.length/\j<=b.length/\Wd d/\val d=val a*val (b.take j)) ⟨List.replicate a.length 0,by rw[List.replicate_append_replicate];congr 1,oc,xg _,Qg8 om,by simp[val,Qbl]⟩ ?_ ?_
 . rintro j x o B ⟨d,l,E,F,i,u⟩
   subst l;have e:j<b.length:=Qeg B;have C:b[j]=x:=by simpa [e] using B
   have A:x<4294967296:=by rw[<-C];exact Xj w e
   obtain⟨r,g1,I,g3,g4⟩:=Qup (p:=d.take j) (m:=d.drop j) (q:=List.replicate (b.length - j) 0) (a:=a) (z:=0) (x:=x) (c:=0) oh oh (Qgc i) v A om;have f:(d.take j).length=j:=oh
   rw[f,yv] at g1;rw[show b.length+1 - j=(b.length - j)+1 by omega,uh,g1,sbind];refine⟨_,rfl,d.take j++r,by rw[show b.length+1 - (j+1)=b.length - j by omega],oh,om,Q2.2 ⟨Qjj i,g3⟩,?_⟩;have H:val d=val (d.take j)+bp j*val (d.drop j):=by
    conv=>lhs;rw[<-yv j d]
    rw[Vc,f]
   rw[Vc,f,K9,show b.getD j 0=x by rw[<-C];simp[e]];exact Qz9 _ _ _ _ _ _ _ _ H g4 u
 . rintro o ⟨d,l,E,F,i,u⟩
   subst l;simp only[Vy];rw[Vm G oh,sbind,<-Ja (Q2.2 ⟨i,Qg8 om⟩),Vc,Qbl,yu,xk,u,xr (ol _)]
theorem lo_eq{x r:Nat}(a:r<=32):(x*2 ^ r)%4294967296=(x%2 ^ (32 - r))*2 ^ r:=by rw[show(4294967296:Nat)=2 ^ (32 - r)*2 ^ r by rw[<-uq,show 32 - r+r=32 by omega],Nat.mul_mod_mul_right]
theorem or_lo{c x r:Nat}(d:r<=32)(a:c<2 ^ r):c ||| (x*2 ^ r)%4294967296=c+(x*2 ^ r)%4294967296:=by rw[lo_eq d,Nat.or_comm,uz,<-Nat.two_pow_add_eq_or_of_lt a,Nat.add_comm]
theorem hi_lt{x r:Nat}(a:x<4294967296):(x*2 ^ r) / 4294967296<2 ^ r:=
 wz (Nat.mul_lt_mul_of_pos_right a (yf r))
theorem Qnl{r:Nat}(a:r<=32):2 ^ r<=4294967296:=by have h:2 ^ r<=2 ^ 32:=vc oz a;rwa [show(2:Nat) ^ 32=4294967296 by rfl] at h
theorem sh_lt{x r:Nat}(a:r<=32)(d:x<4294967296):x*2 ^ r<18446744073709551616:=by have h:=Qnl a;have:x*2 ^ r<=4294967295*4294967296:=wj om h;omega
theorem Q2x(P c V A R x lo hi:Nat)(e:4294967296*hi+lo=x*R)(h:V+P*c=A*R):V+P*(c+lo)+P*4294967296*hi=(A+P*x)*R:=by grind
theorem Qox{n k:Nat}{a:List Nat}(J:big<=n)(N:a.length<8796093022208)(L:Wd a)(hk:k<=4096):Qdm n a (k:Int)=some (toL (val a*2 ^ k)):=by
 unfold Qdm;rw[show min (max (k:Int) 0) 4096=(k:Int) by omega];rw[show Int.tdiv (k:Int) 32=((k / 32:Nat):Int) by rfl,show Int.tmod (k:Int) 32=((k%32:Nat):Int) by rfl];have K:2 ^ k=bp (k / 32)*2 ^ (k%32):=by rw[Qg9,<-uq,ue]
 have M:k / 32<=128:=om
 have O:k%32<=31:=om
 rw[K];generalize k / 32=w at *;generalize k%32=r at *;rw[w64 (x:=(w:Int)) om om,sbind,w64 (x:=(w:Int)+(a.length:Int)) om om,w64 om om,show(w:Int)+(a.length:Int)+1=((w+a.length+1:Nat):Int) by omega,Qba om om,sbind];refine Qg7 (λj (s:List Nat)=>∃ e c,s=(List.replicate w 0++e)++c::List.replicate (a.length - j) 0/\e.length=j/\j<=a.length/\Wd e/\c<2 ^ r/\val e+bp j*c=val (a.take j)*2 ^ r) ⟨[],0,by rw[vo,<-uh,List.replicate_append_replicate];congr 1,rfl,xg _,Jr,yf r,by simp[val]⟩ ?_ ?_;rintro j x s C ⟨e,c,u,q,I,v,B,A⟩;subst u;have i:j<a.length:=Qeg C;have E:a[j]=x:=by simpa [i] using C
 have m:x<4294967296:=by rw[<-E];exact Xj L i
 have f:(List.replicate w 0++e).length=w+j:=oh
 have g1:=sh_lt (r:=r) om m;have H:=hi_lt (r:=r) m;have g3:=Qnl (r:=r) om;have g4:=or_lo (x:=x) (show r<=32 by omega) B;rw[grd_t oc,sbind,yp,xf om,xb g1,sbind,w64 (x:=(w:Int)+(j:Int)) om om,sbind,show(w:Int)+(j:Int)=((w+j:Nat):Int) by omega];rw[J8 f,sbind,sbind,sbind,Vt f,g4,show(2:Nat) ^ 32=4294967296 by rfl,xb (show x*2 ^ r / 4294967296<4294967296 by omega)];obtain⟨d,hd⟩:∃ d,a.length - j=d+1:=⟨a.length - j - 1,om⟩
 rw[w64 om om,show((w+j:Nat):Int)+1=((w+j+1:Nat):Int) by omega,hd,uh];rw[show ∀(y:Nat) (l:List Nat),List.replicate w 0++e++y::l=(List.replicate w 0++(e++[y]))++l by intro y l;simp];have hlen2:(List.replicate w 0++(e++[c+x*2 ^ r%4294967296])).length=w+j+1:=oh
 rw[J8 hlen2,sbind,Vt hlen2,sbind];refine⟨_,rfl,e++[c+x*2 ^ r%4294967296],x*2 ^ r / 4294967296,by rw[show a.length - (j+1)=d by omega],by simp[q],om,Q2.2 ⟨v,Q6.2 ⟨?_,Jr⟩⟩,H,?_⟩;rw[lo_eq om];have F:x%2 ^ (32 - r)+1<=2 ^ (32 - r):=yh _ (yf _);have G:=ow (2 ^ r) F;rw[<-uq,show 32 - r+r=32 by omega,show(2:Nat) ^ 32=4294967296 by rfl,wq,wt] at G;omega;rw[K9,Jh,q,Jz,show a.getD j 0=x by rw[<-E];simp[i]];exact Q2x _ _ _ _ _ _ _ _ (ue (x*2 ^ r) 4294967296) A;rintro s ⟨e,c,u,q,I,v,B,A⟩;subst u;simp only[Vy];have g3:=Qnl (r:=r) om;rw[Vm J oh,sbind,<-Ja (Q2.2 ⟨Q2.2 ⟨Qg8 om,v⟩,Q6.2 ⟨om,Qg8 om⟩⟩)];rw[xh,Vc,Qbl,yw,xa,Vc];simp only[val];rw[Qbl,q,yu,xk,A,xr (ol _),Nat.mul_left_comm]
theorem Qkm{a:List Nat}(e:Wd a)(k:Nat):val a / bp k=val (a.drop k):=by
 rcases xx k a.length with h | h
 . have f:val a=val (a.take k)+bp k*val (a.drop k):=by
    conv=>lhs;rw[<-yv k a]
    rw[Vc,xo,xf om]
   have d:=Vk (Qjj (k:=k) e);rw[xo,xf om] at d;rw[f,Nat.add_mul_div_left _ _ (Q4o k),vi d,xa]
 . rw[xe h]
   exact vi (xc (Vk e) (bp_le h))
theorem Q0a{a:List Nat}{k:Nat}(h:k<a.length):val (a.drop k)=a[k]+4294967296*(a.getD (k+1) 0+4294967296*val (a.drop (k+2))):=by rw[xz h];simp only[val];by_cases d:k+1<a.length;rw[xz d];simp[val,d];rw[xe om,xe om];simp[ou (show a.length<=k+1 by omega),val]
theorem Q1o{v z r:Nat}(a:r<=32):((v+4294967296*4294967296*z) / 2 ^ r)%4294967296=(v / 2 ^ r)%4294967296:=by
 rw[show 4294967296*4294967296*z=2 ^ r*(4294967296*(2 ^ (32 - r)*z)) by
  have:2 ^ r*2 ^ (32 - r)=4294967296:=by rw[<-uq,show r+(32 - r)=32 by omega]
  calc 4294967296*4294967296*z=(2 ^ r*2 ^ (32 - r))*4294967296*z:=by rw[this]
   _=_:=by grind]
 rw[Nat.add_mul_div_left _ _ (yf r),Nat.add_mul_mod_self_left]
theorem Q1p{k:Nat}{b:List Nat}{x:Nat}{β:Type}(f:Nat->Option β)(a:Wd b)(d:x<4294967296):(if ((k:Nat):Int)<(b.length:Int) then (getI b (k:Int)).bind (λy=>f (x ||| (y*2 ^ 32)%18446744073709551616)) else f x)=f (x+4294967296*b.getD k 0):=by by_cases h:k<b.length;rw[oj om,Za h,sbind];have e:=Xj a h;rw[show(2:Nat) ^ 32=4294967296 by rfl,xb om,Nat.or_comm,Qsi d,uz,Nat.add_comm];simp[h];rw[oi om];simp[ou (show b.length<=k by omega)]
theorem Q1q(X P:Nat):X%P+P*(X / P%4294967296)=X%(P*4294967296):=by rw[Nat.mod_mul]
theorem Qsl{n k:Nat}{a:List Nat}(E:big<=n)(H:a.length<8796093022208)(l:Wd a)(hk:k<=4611686018427387904):Qe1 n a (k:Int)=some (toL (val a / 2 ^ k)):=by
 unfold Qe1;rw[show max (k:Int) 0=(k:Int) by omega];rw[show Int.tdiv (k:Int) 32=((k / 32:Nat):Int) by rfl,show Int.tmod (k:Int) 32=((k%32:Nat):Int) by rfl];have F:2 ^ k=bp (k / 32)*2 ^ (k%32):=by rw[Qg9,<-uq,ue]
 have I:k%32<=31:=om
 have G:k / 32<=4611686018427387904:=om
 rw[F];generalize k / 32=w at *;generalize k%32=r at *;rw[<-ut,Qkm l];rw[w64 (x:=(w:Int)) om om,sbind,bifd];by_cases A:a.length<=w;rw[oj om,xe A];simp[val,K2];rw[oi om,w64 (x:=(a.length:Int) - (w:Int)) om om,sbind,show(a.length:Int) - (w:Int)=((a.length - w:Nat):Int) by omega,Qba om om,sbind];refine Qg7 (λj (s:List Nat)=>∃ e,s=e++List.replicate (a.length - w - j) 0/\e.length=j/\Wd e/\val e=(val (a.drop w) / 2 ^ r)%bp j) ⟨[],oc,rfl,Jr,by simp[val,Xc,Nat.mod_one]⟩ ?_ ?_;rintro j x s B ⟨e,q,i,u,m⟩;subst q;have C:j<a.length - w:=by have:=Qeg B;simpa using this
 have f:w+j<a.length:=om
 simp only[jn_eq,bifd];rw[w64 (x:=(w:Int)+(j:Int)) om om,show(w:Int)+(j:Int)=((w+j:Nat):Int) by omega,sbind,Za f,sbind,sbind,w64 (x:=((w+j:Nat):Int)+1) om om,show((w+j:Nat):Int)+1=((w+j+1:Nat):Int) by omega];simp only[sbind];rw[w64 (x:=((w+j:Nat):Int)+1) om om,show((w+j:Nat):Int)+1=((w+j+1:Nat):Int) by omega];rw[Q1p (β:=Lp (List Nat) (List Nat)) (λ(v:Nat)=>(grd (decide (0<=(r:Int)))).bind λ_=>(getI (e++List.replicate (a.length - w - j) 0) (j:Int)).bind λ_=>some (Lp.go (List.set (e++List.replicate (a.length - w - j) 0) (Int.toNat (j:Int)) (v / 2 ^ (min (Int.toNat (r:Int)) 64)%4294967296)))) l (Xj l f)];rw[grd_t oc,sbind,yp (n:=r),xf om];obtain⟨d,hd⟩:∃ d,a.length - w - j=d+1:=⟨a.length - w - j - 1,om⟩
 rw[hd,uh,J8 i,sbind,Vt i];refine⟨_,rfl,e++[(a[w+j]+4294967296*a.getD (w+j+1) 0) / 2 ^ r%4294967296],by rw[show a.length - w - (j+1)=d by omega];simp,by simp[i],Q2.2 ⟨u,Q6.2 ⟨om,Jr⟩⟩,?_⟩;rw[Jh,i,Jz,<-Q1q,m,ut (val (a.drop w)),uz (2 ^ r) (bp j),<-ut (val (a.drop w)),Qkm (Qgc l),List.drop_drop,Q0a f,vq,<-Nat.add_assoc,<-xt,Q1o om];rintro s ⟨e,q,i,u,m⟩;subst q;simp only[Vy];rw[yw] at i m;rw[yw,gf,List.replicate_zero,vo,Vm E om,sbind,<-Ja u,m,xb];have:=Vk (Qgc (k:=w) l);rw[va] at this;exact xu (gn _ _) this
theorem Qxq{q r x0 x1 x2 a x4:Nat}(d:q*a+r=x0*4294967296+x1)(e:q*x4<=r*4294967296+x2):q*(a*4294967296+x4)<=(x0*4294967296+x1)*4294967296+x2:=by rw[<-d];grind
theorem Q2y{q r x0 x1 x2 a x4:Nat}(d:(q+1)*a+r=x0*4294967296+x1)(e:r*4294967296+x2<(q+1)*x4):(x0*4294967296+x1)*4294967296+x2<(q+1)*(a*4294967296+x4):=by rw[<-d];grind
theorem Q2z{q r a:Nat}{U:Nat}(d:(q+1)*a+r=U):q*a+(r+a)=U:=by rw[<-d];grind
theorem Qxr{q r x0 x1 x2 a x4:Nat}(d:q*a+r=x0*4294967296+x1)(j:4294967296<=r)(i:q<4294967296)(f:x4<4294967296):q*(a*4294967296+x4)<=(x0*4294967296+x1)*4294967296+x2:=by have e:q*x4<=4294967295*4294967295:=wj om om;exact Qxq d om
theorem Q4p{X u w x2:Nat}(h:X<u)(a:x2<4294967296):X*4294967296+x2<u*4294967296+w:=om
theorem Q4q{q x0 x1 x2 a x4:Nat}(h:x0*4294967296+x1<(q+1)*a)(e:x2<4294967296):(x0*4294967296+x1)*4294967296+x2<(q+1)*(a*4294967296+x4):=by
 have d:(q+1)*(a*4294967296+x4)=((q+1)*a)*4294967296+(q+1)*x4:=by rw[vq,xt]
 rw[d];exact Q4p h e
theorem Qrb{n m w x0 x1 x2 e x4:Nat}(J:big<=n)(N:x2<4294967296)(H:e<4294967296)(E:x4<4294967296)(K:m<4294967296)(L:w<4294967296)
 (I:m*e+w=x0*4294967296+x1) (F:m+1=4294967296\/(x0*4294967296+x1)*4294967296+x2<(m+1)*(e*4294967296+x4)) :
 ∃ q,(loopM (λ(d:Nat×Nat)=>
   (Z6 d.1 x4 0 0).bind λi=>
   jn (λ(f:(Bool)->Option _)=>
    bif decide (i.1<d.2) then (
     f true)
    else (
     bif decide (i.1=d.2) then (
      f (decide (i.2<=x2)))
     else (
      f false))) (λ(x:Bool)=>
    bif x then (
     some (Lp.out d.1))
    else (
     (Xo d.2 e 0).bind λa=>
     bif decide (0<a.2) then (
      some (Lp.out ((d.1+4294967296 - 1)%4294967296)))
     else (
      some (Lp.go (((d.1+4294967296 - 1)%4294967296),a.1)))))) n (m,w)).bind (λ(A:Nat)=>some A)=some q /\
   (q<4294967296/\q*(e*4294967296+x4)<=(x0*4294967296+x1)*4294967296+x2/\(q+1=4294967296\/(x0*4294967296+x1)*4294967296+x2<(q+1)*(e*4294967296+x4))):=by
 unfold big at J
 refine Qac (λs=>s.1) (λs=>s.1<4294967296/\s.2<4294967296/\s.1*e+s.2=x0*4294967296+x1/\(s.1+1=4294967296\/(x0*4294967296+x1)*4294967296+x2<(s.1+1)*(e*4294967296+x4)))
  (λq=>q<4294967296/\q*(e*4294967296+x4)<=(x0*4294967296+x1)*4294967296+x2/\(q+1=4294967296\/(x0*4294967296+x1)*4294967296+x2<(q+1)*(e*4294967296+x4))) ⟨K,L,I,F⟩ (by simp only[];omega) ?_ (λt M=>⟨t,rfl,M⟩)
 rintro⟨q,r⟩ ⟨g1,C,g3,g4⟩;simp only at g1 C g3 g4;simp only[jn_eq,bifd];rw[Qix g1 E om om,sbind];simp only[xk]
 have key:(bif decide (q*x4<=r*4294967296+x2) then some (Lp.out q) else
  (Xo r e 0).bind λa=>if 0<a.2 then some (Lp.out ((q+4294967296 - 1)%4294967296)) else some (Lp.go ((q+4294967296 - 1)%4294967296,a.1)):Option (Lp (Nat×Nat) Nat)) =
  (if q*x4 / 4294967296<r then bif true then some (Lp.out q) else
   (Xo r e 0).bind λa=>if 0<a.2 then some (Lp.out ((q+4294967296 - 1)%4294967296)) else some (Lp.go ((q+4294967296 - 1)%4294967296,a.1))
   else if q*x4 / 4294967296=r then if q*x4%4294967296<=x2 then some (Lp.out q) else
    (Xo r e 0).bind λa=>if 0<a.2 then some (Lp.out ((q+4294967296 - 1)%4294967296)) else some (Lp.go ((q+4294967296 - 1)%4294967296,a.1))
   else bif false then some (Lp.out q) else
    (Xo r e 0).bind λa=>if 0<a.2 then some (Lp.out ((q+4294967296 - 1)%4294967296)) else some (Lp.go ((q+4294967296 - 1)%4294967296,a.1))):=by
  have hd:=ue (q*x4) 4294967296;have F:=yh (q*x4) (show 4294967296 > 0 by decide);by_cases c1:q*x4 / 4294967296<r;rw[oj c1,ot om];rw[oi c1];by_cases B:q*x4 / 4294967296=r;rw[oj B,<-bifd];congr 1;exact wk.2 om;rw[oi B,oq om]
 rw[<-key,bifd];by_cases u:q*x4<=r*4294967296+x2;right;rw[oj u];exact⟨q,rfl,g1,Qxq g3 u,g4⟩;rw[oi u,Qfo C H om,sbind]
 obtain⟨q',rfl⟩:∃ q',q=q'+1:=⟨q - 1,by
  have:q≠0:=by rintro rfl;simp at u
  omega⟩
 have v:(q'+1+4294967296 - 1)%4294967296=q':=om
 have l:=Q2y (x2:=x2) (x4:=x4) g3 om;have j:=Q2z g3;simp only[xk];rw[v];by_cases G:0<(r+e) / 4294967296;right;rw[oj G];exact⟨q',rfl,om,Qxr j om om E,.inr l⟩;left;rw[oi G];refine⟨_,rfl,⟨by simp only[];omega,by simp only[];omega,?_,.inr l⟩,by simp only[];omega⟩;simp only[];rw[xb om];exact j
theorem Qrc{n x0 x1 x2 a x4:Nat}(m:big<=n)(h0:x0<=a)(j:x1<4294967296)(e:x2<4294967296)(d:a<4294967296)(f:x4<4294967296)(v:a≠0):
 ∃ q,Qbt n x0 x1 x2 a x4=some q/\(q<4294967296/\q*(a*4294967296+x4)<=(x0*4294967296+x1)*4294967296+x2/\(q+1=4294967296\/(x0*4294967296+x1)*4294967296+x2<(q+1)*(a*4294967296+x4))):=by
 unfold Qbt;by_cases i:x0<a;rw[Qn0 i j d,sbind]
 have s:(x0*4294967296+x1) / a<4294967296:=wz (by
  have:x0*4294967296+4294967296<=a*4294967296:=om
  omega)
 have u:(x0*4294967296+x1)%a<a:=yh _ om;exact Qrb m e d f s (Nat.lt_trans u d) (by rw[uz];exact ue _ _) (.inr (Q4q ((gd om).1 (Nat.lt_succ_self _)) e));obtain rfl:x0=a:=om
 rw[show Qa4 x0 x1 x0=some (0,0,false) by unfold Qa4;rw[bifd,oj om],sbind];rw[jn_eq];simp only[uc,bifT];rw[Qfo j d om,sbind,jn_eq,bifd,oi om];simp only[xk];rw[bifd];have l:4294967295*x0+(x1+x0)=x0*4294967296+x1:=om
 by_cases r:0<(x1+x0) / 4294967296;rw[oj r];exact⟨_,rfl,om,Qxr l om om f,.inl rfl⟩;rw[oi r,xb om];exact Qrb m e d f om om l (.inl rfl)
theorem Qtt(P M c b d lo hi a q y u V W:Nat)(e:4294967296*hi+lo=q*y+c)(f:d+lo+b=u+4294967296*a)(h:W+q*V=M+P*(c+b)):W+P*d+q*(V+P*y)=M+P*u+P*4294967296*(hi+a):=by
 have i:P*d+P*lo+P*b=P*u+P*4294967296*a:=by rw[<-vq,<-vq,f];grind
 have j:P*4294967296*hi+P*lo=P*(q*y)+P*c:=by rw[<-vq,<-e];grind
 grind
theorem Qsm{p m q' v:List Nat}{z q:Nat}(P:m.length=v.length)(S:p.length+m.length+1+q'.length<=4611686018427387904)(J:Wd m)(K:Wd v)(Q:z<4294967296)(N:q<4294967296):
 ∃ r b,Qah (p++m++z::q') (p.length:Int) v q=some (decide (0<b),p++r++q')/\r.length=v.length+1/\Wd r/\b<=1/\val r+q*val v=val (m++[z])+bp (v.length+1)*b:=by
 have key:∃ R,Qah (p++m++z::q') (p.length:Int) v q=some R/\∃ r b,R=(decide (0<b),p++r++q')/\r.length=v.length+1/\Wd r/\b<=1/\val r+q*val v=val (m++[z])+bp (v.length+1)*b:=by
  unfold Qah;refine Qlr (λj (s:List Nat×Nat×Nat)=>∃ e,s.1=p++e++(m.drop j++z::q')/\e.length=j/\j<=v.length/\Wd e/\s.2.1<4294967296/\s.2.2<=1/\val e+q*val (v.take j)=val (m.take j)+bp j*(s.2.1+s.2.2)) ⟨[],oc,rfl,xg _,Jr,oc,oc,by simp[val]⟩ ?_ ?_;rintro j y ⟨o,c,b⟩ L ⟨e,f,i,G,H,w,B,A⟩;simp only at f w B A;subst f;have l:j<v.length:=Qeg L;have O:v[j]=y:=by simpa [l] using L
  have C:y<4294967296:=by rw[<-O];exact Xj K l
  have u:j<m.length:=om
  have I:=Xj J u;have a:(p++e).length=p.length+j:=oh
  have M:=Qnj N C w (show 0<4294967296 by omega);obtain⟨d,E,g1,F,g3,g4⟩:=Qiy (x:=m[j]) (y:=(q*y+c+0)%4294967296) (c:=b) I om B;rw[Qix N C w om,sbind,w64 om om,show((p.length:Int)+(j:Int))=((p.length+j:Nat):Int) by omega,xz u,yn];simp only[];rw[J8 a,sbind,g1,sbind,sbind,Vt a];refine⟨_,rfl,e++[d],oc,by simp[i],om,Q2.2 ⟨H,Q6.2 ⟨F,Jr⟩⟩,by simp only[];omega,g3,?_⟩;simp only[];rw[K9,Jq u,Jh,Jh,i,Jz,show v.getD j 0=y by rw[<-O];simp[l],xo,xf om];exact Qtt _ _ _ _ _ _ _ _ _ _ _ _ _ (ue (q*y+c) 4294967296) g4 A;rintro⟨o,c,b⟩ ⟨e,f,i,G,H,w,B,A⟩;simp only at f w B A;subst f;simp only[Vy];have a:(p++e).length=p.length+v.length:=oh
  obtain⟨d,E,g1,F,g3,g4⟩:=Qiy (x:=z) (y:=c) (c:=b) Q w B;rw[w64 om om,show((p.length:Int)+(v.length:Int))=((p.length+v.length:Nat):Int) by omega,xe om,ya,J8 a,sbind,g1,sbind,sbind,Vt a];refine⟨_,rfl,e++[d],E,oc,by simp[i],Q2.2 ⟨H,Q6.2 ⟨F,Jr⟩⟩,g3,?_⟩;rw[xr (ol _),xr om] at A;rw[Jh,Jh,i,P,Jz];have:=Qtt (bp v.length) (val m) c b d c 0 E q 0 z (val v) (val e) om g4 A
  simpa using this
 obtain⟨R,f,r,b,i,G⟩:=key;exact⟨r,b,by rw[f,i],G⟩
theorem Qtu(P M c d a y u V W:Nat)(e:4294967296*a+d=u+y+c)(h:W+P*c=M+V):W+P*d+P*4294967296*a=M+P*u+(V+P*y):=by grind
theorem Qsn{p m q' v:List Nat}{z:Nat}(H:m.length=v.length)(I:p.length+m.length+1+q'.length<=4611686018427387904)(B:Wd m)(C:Wd v)(J:z<4294967296):
 ∃ r b,Qbg (p++m++z::q') (p.length:Int) v=some (p++r++q')/\r.length=v.length+1/\Wd r/\b<=1/\val r+bp (v.length+1)*b=val (m++[z])+val v:=by
 have key:∃ R,Qbg (p++m++z::q') (p.length:Int) v=some R/\∃ r b,R=p++r++q'/\r.length=v.length+1/\Wd r/\b<=1/\val r+bp (v.length+1)*b=val (m++[z])+val v:=by
  unfold Qbg;refine Qlr (λj (s:List Nat×Nat)=>∃ d,s.1=p++d++(m.drop j++z::q')/\d.length=j/\j<=v.length/\Wd d/\s.2<=1/\val d+bp j*s.2=val (m.take j)+val (v.take j)) ⟨[],oc,rfl,xg _,Jr,oc,by simp[val]⟩ ?_ ?_;rintro j y ⟨o,c⟩ F ⟨d,e,f,u,w,x,q⟩;simp only at e x q;subst e;have i:j<v.length:=Qeg F;have G:v[j]=y:=by simpa [i] using F
  have E:y<4294967296:=by rw[<-G];exact Xj C i
  have l:j<m.length:=om
  have A:=Xj B l;have a:(p++d).length=p.length+j:=oh
  rw[w64 om om,show((p.length:Int)+(j:Int))=((p.length+j:Nat):Int) by omega,xz l,yn];rw[J8 a,sbind,Qfo A E (by simp only[];omega),sbind,sbind,Vt a];refine⟨_,rfl,d++[(m[j]+y+c)%4294967296],oc,by simp[f],om,Q2.2 ⟨w,Q6.2 ⟨om,Jr⟩⟩,by simp only[];omega,?_⟩;simp only[];rw[K9,K9,Jh,f,Jz,show v.getD j 0=y by rw[<-G];simp[i],show m.getD j 0=m[j] by simp[l]];exact Qtu _ _ _ _ _ _ _ _ _ (ue (m[j]+y+c) 4294967296) q;rintro⟨o,c⟩ ⟨d,e,f,u,w,x,q⟩;simp only at e x q;subst e;simp only[Vy];have a:(p++d).length=p.length+v.length:=oh
  rw[w64 om om,show((p.length:Int)+(v.length:Int))=((p.length+v.length:Nat):Int) by omega,xe om,ya,J8 a,sbind,sbind,Vt a,sbind];refine⟨_,rfl,d++[(z+c)%4294967296],(z+c) / 4294967296,oc,by simp[f],Q2.2 ⟨w,Q6.2 ⟨om,Jr⟩⟩,om,?_⟩;rw[xr (ol _),xr om] at q;rw[Jh,Jh,f,H,Jz];have:=Qtu (bp v.length) (val m) c ((z+c)%4294967296) ((z+c) / 4294967296) 0 z (val v) (val d) om q
  simpa using this
 obtain⟨R,e,r,b,f,u⟩:=key;exact⟨r,b,by rw[e,f],u⟩
theorem kn_a{P vl a i d q e:Nat}(s:i<P)(v:q<4294967296)(u:q*(vl+P*a)<=i+P*d)(f:e+1=4294967296\/d<(e+1)*a):q<=e:=by
 rcases f with f | f;omega;have m:P*(q*a)<=q*(vl+P*a):=by rw[vq,Nat.mul_left_comm];exact Nat.le_add_left _ _
 have j:P*(q*a)<P*(d+1):=by rw[vq,Nat.mul_one];omega
 have r:q*a<d+1:=Nat.lt_of_mul_lt_mul_left j;have l:q*a<(e+1)*a:=om
 exact Nat.le_of_lt_succ (Nat.lt_of_mul_lt_mul_right l)
theorem kn_b{P vl a l e d:Nat}(q:vl<P)(s:d<4294967296)(r:4294967296<=a)(j:d*a<=e):d*(vl+P*a)<=(l+P*e)+(vl+P*a):=by
 have f:d*(vl+P*a)=d*vl+P*(d*a):=by rw[vq,Nat.mul_left_comm]
 have m:P*(d*a)<=P*e:=ym _ j;have i:d*vl<=a*P:=wj om om;rw[f];rw[uz a P] at i;omega
theorem kn_z{P vl v3 v4 d z x1 x2:Nat}(j:vl<P)(l:v4<4294967296)(m:d+P*((z*4294967296+x1)*4294967296+x2)<4294967296*(vl+P*(v3*4294967296+v4))):z<=v3:=by
 have e:P*(z*4294967296*4294967296)<=P*((z*4294967296+x1)*4294967296+x2):=ym _ om;have f:vl+P*(v3*4294967296+v4)<P*((v3+1)*4294967296):=by have:P*(v3*4294967296+v4+1)<=P*((v3+1)*4294967296):=ym _ om;rw[vq _ _ 1,Nat.mul_one] at this;omega
 have a:P*(z*4294967296*4294967296)<P*((v3+1)*4294967296*4294967296):=by have a1:P*((v3+1)*4294967296*4294967296)=P*((v3+1)*4294967296)*4294967296:=(xt _ _ _).symm;omega
 have i:=Nat.lt_of_mul_lt_mul_left a;omega
theorem dm_of{U V q r:Nat}(h:r+q*V=U)(a:r<V):U / V=q/\U%V=r:=by subst h;rw[Nat.add_mul_div_right _ _ om,vi a,Nat.add_mul_mod_self_right,xb a];omega
theorem last2{l:List Nat}{m:Nat}(h:l.length=m+2):∃ l' a b,l=l'++[a,b]/\l'.length=m:=by refine⟨l.take m,l[m],l[m+1],?_,oh⟩;have e:=Jq (a:=l) (k:=m) om;have d:=Jq (a:=l) (k:=m+1) om;rw[xr om] at d;refine d.trans ?_;rw[e,xh];rfl
theorem Q1r(p y w qs V U j:Nat)(q r:Nat)(a:U=y+4294967296*w)(h:r+q*V=U):(p+j*y)+j*4294967296*(w+V*qs)=p+j*(r+V*(q+4294967296*qs)):=by grind
theorem Qy8{n:Nat}{p w rest v:List Nat}{z:Nat}(hn:big<=n){vl B:List Nat}{v3 v4 x1 x2:Nat}(L:v=vl++[v4,v3])(M:w=B++[x2,x1])(J:B.length=vl.length)
 (a:Wd v) (e:Wd w) (hz:z<4294967296) (h3:v3≠0) (hp:p.length+w.length+1+rest.length<=4611686018427387904) (x:val (w++[z])<4294967296*val v) :
 ∃ r d,Qbt n z x1 x2 v3 v4=some d/\r.length=v.length+1/\Wd r/\val r=val (w++[z])%val v/\val (w++[z]) / val v<4294967296 /\
   ((Qah (p++w++z::rest) (p.length:Int) v d=some (false,p++r++rest)/\d=val (w++[z]) / val v) \/
    (∃ Y,Qah (p++w++z::rest) (p.length:Int) v d=some (true,Y)/\Qbg Y (p.length:Int) v=some (p++r++rest)/\(d+4294967296 - 1)%4294967296=val (w++[z]) / val v)):=by
 have N:w.length=v.length:=by rw[L,M];simp[J]
 have w1:Wd vl/\v4<4294967296/\v3<4294967296:=by rw[L] at a;exact⟨(Q2.1 a).1,(Q6.1 (Q2.1 a).2).1,(Q6.1 (Q6.1 (Q2.1 a).2).2).1⟩
 have Q:Wd B/\x2<4294967296/\x1<4294967296:=by rw[M] at e;exact⟨(Q2.1 e).1,(Q6.1 (Q2.1 e).2).1,(Q6.1 (Q6.1 (Q2.1 e).2).2).1⟩
 obtain⟨w1,w3,w4⟩:=w1;obtain⟨Q,w5,w6⟩:=Q;have G:val v=val vl+bp vl.length*(v3*4294967296+v4):=by rw[L,Vc];simp only[val];congr 2;omega
 have H:val (w++[z])=val B+bp vl.length*((z*4294967296+x1)*4294967296+x2):=by rw[M,xh,Vc,J];simp only[yn,ya,val];congr 2;omega
 have W:=Vk w1;have l2:=Vk Q;rw[J] at l2;have O:z<=v3:=by rw[G,H] at x;exact kn_z W w3 x
 obtain⟨d,g1,T,g3,g4⟩:=Qrc hn O w6 w5 w4 w3 h3;have s:0<val v:=by rcases gm (val v) with h | h;rw[h] at x;omega;exact h
 have j:val (w++[z]) / val v<4294967296:=(gd s).2 x;have hqa:val (w++[z]) / val v<=d:=by have:=Nat.div_mul_le_self (val (w++[z])) (val v);exact kn_a (vl:=val vl) l2 j (by rw[<-G,<-H];exact this) g4
 have hqb:d*val v<=val (w++[z])+val v:=by rw[G,H];exact kn_b W T om g3
 have F:val (w++[z])<(d+1)*val v:=xc ((gd s).1 (Nat.lt_succ_self _)) (ow _ om);obtain⟨r,b,Z,l,t3,t4,t5⟩:=Qsm (p:=p) (m:=w) (q':=rest) (v:=v) (z:=z) (q:=d) N hp e a hz T;rw[wq,wt] at F;have hvb:=Vk a;have hbb:bp v.length<=bp (v.length+1):=bp_le om;by_cases hb:b=0;subst hb;rw[yu,xk] at t5;obtain⟨C,E⟩:=dm_of t5 om;exact⟨r,d,g1,l,t3,E.symm,j,.inl ⟨Z,C.symm⟩⟩;obtain rfl:b=1:=om
 rw[Nat.mul_one] at t5;have hr:=Vk t3;rw[l] at hr;obtain⟨f,i,u⟩:∃ f i,r=f++[i]:=by rcases List.eq_nil_or_concat r with h | ⟨f,i,h⟩;rw[h] at l;simp at l;exact⟨f,i,by rw[h,List.concat_eq_append]⟩
 have e2:f.length=v.length:=by rw[u] at l;simpa using l
 have S:Wd f/\i<4294967296:=by rw[u] at t3;exact⟨(Q2.1 t3).1,(Q6.1 (Q2.1 t3).2).1⟩
 obtain⟨X,R,u1,u2,u3,u4,P⟩:=Qsn (p:=p) (m:=f) (q':=rest) (v:=v) (z:=i) e2 om S.1 a S.2;have K:=Vk u3;rw[u2] at K;rw[<-u] at P
 obtain⟨A,rfl⟩:∃ A,d=A+1:=⟨d - 1,by
  have:d≠0:=by rintro rfl;omega
  omega⟩
 rw[wq,wt] at *;have I:R=1:=by rcases gm R with h | h;subst h;rw[yu] at P;omega;omega
 subst I;rw[Nat.mul_one] at P;obtain⟨C,E⟩:=dm_of (U:=val (w++[z])) (V:=val v) (q:=A) (r:=val X) om om;refine⟨X,A+1,g1,u2,u3,E.symm,j,.inr ⟨p++r++rest,Z,?_,by rw[C];omega⟩⟩;rw[u,show p++(f++[i])++rest=p++f++i::rest by simp];exact u1
theorem Qso{n:Nat}{u v vl:List Nat}{v3 v4:Nat}(Z:big<=n)(C:v=vl++[v4,v3])(h3:v3≠0)(f:Wd u)(q:Wd v)(hu:u.length<35184372088832)(hl:v.length<=u.length)(N:val (u.drop (u.length - v.length))<val v):
 ∃ r,Qe0 n u v=some r/\(r.1.length=u.length - v.length/\Wd r.1/\r.2.length=u.length/\Wd r.2/\val u=val v*val r.1+val r.2/\val r.2<val v):=by
 unfold Qe0;have L:=Z;unfold big at L;have hvl:v.length=vl.length+2:=by rw[C];simp
 rw[w64 (x:=(u.length:Int) - (v.length:Int)) om om,show(u.length:Int) - (v.length:Int)=((u.length - v.length:Nat):Int) by omega,Qba om om,sbind]
 refine Qac (λs=>(s.2.2+1).toNat) (λs=>∃(k:Nat) (p w qs:List Nat),s.2.2=(k:Int) - 1/\k<=u.length - v.length/\s.1=p++w/\p.length=k/\w.length=u.length - k/\Wd p/\Wd w/\val w<val v/\s.2.1=List.replicate k 0++qs/\qs.length=u.length - v.length - k/\Wd qs/\val u=val p+bp k*(val w+val v*val qs))
  (λt=>t.2.length=u.length - v.length/\Wd t.2/\t.1.length=u.length/\Wd t.1/\val u=val v*val t.2+val t.1/\val t.1<val v) ⟨u.length - v.length,u.take (u.length - v.length),u.drop (u.length - v.length),[],?_,ol _,by simp only[yv],oc,oc,Qjj f,Qgc f,N,by simp only[vo],oc,Jr,?_⟩ ?_ ?_ (λt N=>⟨_,rfl,N⟩)
 . simp only[];rw[yw,w64 om om]
 . simp only[val,yu,xk]
   conv=>lhs;rw[<-yv (u.length - v.length) u]
   rw[Vc,xo,xf om]
 . simp only[];rw[yw,w64 om om];omega
 . rintro⟨uu,qq,i⟩ ⟨k,p,w,qs,i1,i2,i3,E,i5,i6,O,i8,i9,i10,A,B⟩
   simp only at i1 i3 i9;subst i1 i3 i9;simp only[jn_eq,bifd];by_cases h0:0<k
   . left
     obtain⟨j,rfl⟩:∃ j,k=j+1:=⟨k - 1,om⟩
     obtain⟨d,y,e1⟩:∃ d y,p=d++[y]:=by
      rcases List.eq_nil_or_concat p with h | ⟨d,y,h⟩
      . rw[h] at E;simp at E
      . exact⟨d,y,by rw[h,List.concat_eq_append]⟩
     subst e1;have G:d.length=j:=by simpa using E
     have T:Wd d/\y<4294967296:=⟨(Q2.1 i6).1,(Q6.1 (Q2.1 i6).2).1⟩
     have H:Wd (y::w):=Q6.2 ⟨T.2,O⟩;have U:v.length<(y::w).length:=oh
     have V:y::w=(y::w).take v.length++(y::w)[v.length]::(y::w).drop (v.length+1):=Qz6 U;have I:val ((y::w).drop (v.length+1))=0:=by rw[List.drop_succ_cons,<-Qkm O];exact vi (Nat.lt_trans i8 (Vk q))
     have X:val ((y::w).take v.length++[(y::w)[v.length]])=y+4294967296*val w:=by have:=yz val V;rw[show ∀(a b:List Nat) (x:Nat),a++x::b=(a++[x])++b by intro a b x;simp,Vc,I,yu,xk] at this;rw[<-this];rfl
     have w1:Wd ((y::w).take v.length):=Qjj H;have w2:(y::w)[v.length]<4294967296:=Xj H U;have w3:Wd ((y::w).drop (v.length+1)):=Qgc H;have w4:((y::w).take v.length).length=v.length:=by rw[xo,xf om]
     have w5:((y::w).drop (v.length+1)).length=u.length - j - (v.length+1):=by rw[va,xl];omega
     rw[show d++[y]++w=d++(y::w) by simp,V];generalize (y::w).take v.length=W at *;generalize (y::w)[v.length]=z at *;generalize (y::w).drop (v.length+1)=R at *;obtain⟨F,x2,x1,J,f2⟩:=last2 (l:=W) (m:=vl.length) om;obtain⟨r,P,g1,g2,g3,g4,g5,Y⟩:=Qy8 (p:=d) (w:=W) (rest:=R) (v:=v) (z:=z) Z C J f2 q w1 w2 h3 (by rw[w4,w5];omega) (by rw[X];omega);rw[oj om,show((j+1:Nat):Int) - 1=(j:Int) by omega];rw[w64 (x:=(j:Int)+(v.length:Int)) om om,show(j:Int)+(v.length:Int)=((j+vl.length+2:Nat):Int) by omega];rw[w64 (x:=((j+vl.length+2:Nat):Int) - 1) om om,w64 (x:=((j+vl.length+2:Nat):Int) - 2) om om,show((j+vl.length+2:Nat):Int) - 1=((j+vl.length+1:Nat):Int) by omega,show((j+vl.length+2:Nat):Int) - 2=((j+vl.length:Nat):Int) by omega];rw[w64 (x:=(v.length:Int) - 1) om om,w64 (x:=(v.length:Int) - 2) om om,show(v.length:Int) - 1=((vl.length+1:Nat):Int) by omega,show(v.length:Int) - 2=((vl.length:Nat):Int) by omega];have a1:getI (d++(W++z::R)) ((j+vl.length+2:Nat):Int)=some z:=by
      rw[<-xh];exact J8 (by rw[yr,w4];omega)
     have a2:getI (d++(W++z::R)) ((j+vl.length+1:Nat):Int)=some x1:=by rw[J,show d++(F++[x2,x1]++z::R)=(d++F++[x2])++x1::(z::R) by simp];exact J8 oh
     have a3:getI (d++(W++z::R)) ((j+vl.length:Nat):Int)=some x2:=by rw[J,show d++(F++[x2,x1]++z::R)=(d++F)++x2::(x1::z::R) by simp];exact J8 oh
     have a4:getI v ((vl.length+1:Nat):Int)=some v3:=by rw[C,show vl++[v4,v3]=(vl++[v4])++v3::[] by simp];exact J8 oc
     have a5:getI v ((vl.length:Nat):Int)=some v4:=by rw[C];exact J8 rfl
     rw[a1,sbind,a2,sbind,a3,sbind,a4,sbind,a5,sbind,g1,sbind]
     have a6:∀(q':Nat),getI (List.replicate (j+1) 0++qs) (j:Int)=some 0/\(List.replicate (j+1) 0++qs).set (Int.toNat (j:Int)) q'=List.replicate j 0++q'::qs:=λq'=>by rw[List.replicate_succ',xh,List.singleton_append];exact⟨J8 oc,Vt oc⟩
     rw[G,xh] at Y;have e:∀ q',q'=val (W++[z]) / val v->∃ s',(some (Lp.go (d++r++R,List.replicate j 0++q'::qs,wrap64 ((j:Int) - 1))):Option (Lp (List Nat×List Nat×Int) (List Nat×List Nat)))=some (Lp.go s')/\(∃(k:Nat) (p w qs:List Nat),s'.2.2=(k:Int) - 1/\k<=u.length - v.length/\s'.1=p++w/\p.length=k/\w.length=u.length - k/\Wd p/\Wd w/\val w<val v/\s'.2.1=List.replicate k 0++qs/\qs.length=u.length - v.length - k/\Wd qs/\val u=val p+bp k*(val w+val v*val qs))/\(s'.2.2+1).toNat<((j:Int)+1).toNat:=by
      intro q' M;have K:0<val v:=om
      rw[w64 om om];refine⟨_,rfl,⟨j,d,r++R,q'::qs,rfl,om,by rw[xh],G,by rw[yr,g2,w5];omega,T.1,Q2.2 ⟨g3,w3⟩,?_,rfl,by rw[xl];omega,Q6.2 ⟨om,A⟩,?_⟩,by simp only[];omega⟩
      . rw[Vc,I,yu,xk,g4];exact yh _ K
      . rw[B,Jh,G,Jz,Vc,I,yu,xk]
        simp only[val];refine Q1r _ _ _ _ _ _ _ _ _ X ?_;rw[g4,M,uz];exact Nat.mod_add_div _ _
     rcases Y with ⟨Q,S⟩ | ⟨r1,Q,S,t3⟩
     . rw[Q,sbind]
       simp only[bifF];rw[(a6 P).1,sbind,(a6 P).2];exact e _ S
     . rw[Q,sbind]
       simp only[bifT];rw[S,sbind,(a6 ((P+4294967296 - 1)%4294967296)).1,sbind,(a6 _).2];exact e _ t3
   . right
     obtain rfl:k=0:=om
     obtain rfl:p=[]:=xd E;rw[oi om];refine⟨_,rfl,by simp only[List.replicate_zero,ya];omega,by simpa using A,by simp only[ya];omega,by simpa using O,?_,by simpa using i8⟩;rw[B,Xc];simp[val];omega
theorem Q4r{x:Nat}(d:x<4294967296):blen x<=32:=by
 rcases xx 32 (blen x) with h | h;have h0:x≠0:=by rintro rfl;rw[Qdz] at h;omega
 have g1:=Qjk h0;have a:2 ^ 32<=2 ^ (blen x - 1):=vc oz om;rw[show(2:Nat) ^ 32=4294967296 by decide] at a;omega;exact h
theorem Jd{a:List Nat}(d:Wd a):(toL (val a)).length<=a.length:=by rw[Ja d];exact Wn a
theorem Qp5{v s:Nat}(d:s<=32):(toL (v*2 ^ s)).length<=(toL v).length+1:=by refine Qad ?_;have a:=Vk (Ql v);rw[Qj] at a;rw[Jz];exact xc (Nat.mul_lt_mul_of_pos_right a (yf s)) (ym _ (Qnl d))
theorem len2{v:Nat}(h:4294967296<=v):∃ vl v4 v3,toL v=vl++[v4,v3]/\v3≠0:=by
 have h0:toL v≠[]:=by rw[Yv om];simp
 obtain⟨p,x,a,d,e,f⟩:=Qv8 h0;rcases List.eq_nil_or_concat p with h5 | ⟨p',y,h5⟩;exfalso;have:=Qj v;rw[a,h5] at this;simp[val] at this;omega;exact⟨p',y,x,by rw[a,h5,List.concat_eq_append];simp,d⟩
theorem Q4s{v:Nat}(h:v≠0):bp ((toL v).length - 1)<=v:=by
 have h0:toL v≠[]:=by rw[Yv h];simp
 obtain⟨p,x,a,d,e,f⟩:=Qv8 h0;have:=Qj v;rw[a,Jh] at this;rw[a,yr,List.length_singleton,Nat.add_sub_cancel,<-this];have:bp p.length*1<=bp p.length*x:=ym _ om;omega
theorem Qfp{n:Nat}{a b:List Nat}(d:big<=n)(ha:a.length<4398046511104)(hb:b.length<4398046511104)(e:Wd a)(A:Wd b):
 Qa5 n a b=some (if val b=0 then ([],[],false) else (toL (val a / val b),toL (val a%val b),true)):=by
 unfold Qa5;have hlb:=Jd A;have hla:=Jd e;rw[Vm d om,sbind,<-Ja A,bifd];by_cases h0:val b=0;rw[h0,K2,oj oa,oj rfl];have I:toL (val b)≠[]:=by rw[Yv h0];simp
 have hl0:(toL (val b)).length≠0:=λh=>I (xd h);rw[oi om,oi h0,Qdy d om om e (Ql _),sbind,Qj,bifd];by_cases j:val a<val b;rw[oj (by rw[cmpI,oj j];decide),Vm d om,sbind,vi j,xb j,K2,Ja e];rw[oi (by rw[cmpI,oi j];split<;>decide),bifd];by_cases X:(toL (val b)).length=1;rw[oj om];obtain⟨y,T⟩:=wu.1 X;have J:=Qj (val b);have S:=Ql (val b);rw[T] at J S;simp only[val,yu,xk] at J;have L:=(Q6.1 S).1;rw[T,show getI [y] (0:Int)=some y by rfl,sbind,Qsj d om e om L,sbind];simp only[];have:=yh (val a) (show y > 0 by omega);rw[Qc4 d om,sbind,<-J];rw[oi om];have m:4294967296<=val b:=by
  rcases xx (val b) 4294967296 with h | h;have:=Qad (n:=val b) (k:=1) (by rw[Jz,Xc];omega);omega;exact h
 obtain⟨bl,M,i,B,e2⟩:=len2 m;have f:=Ql (val b);have l:i<4294967296:=by rw[B] at f;exact(Q6.1 (Q6.1 (Q2.1 f).2).2).1
 have Y:(toL (val b)).length=bl.length+2:=by rw[B];simp
 rw[w64 (x:=((toL (val b)).length:Int) - 1) om om,show((toL (val b)).length:Int) - 1=((bl.length+1:Nat):Int) by omega];rw[show getI (toL (val b)) ((bl.length+1:Nat):Int)=some i by rw[B,show bl++[M,i]=(bl++[M])++i::[] by simp];exact J8 oc,sbind,Quq d l,sbind];have hs:=Q4r l;rw[w64 (x:=(32:Int) - (blen i:Int)) om om,show(32:Int) - (blen i:Int)=((32 - blen i:Nat):Int) by omega];have w:32 - blen i<=32:=om
 generalize 32 - blen i=s at *;have F:=yf s;rw[Qox d om e om,sbind];have l1:=Qp5 (v:=val a) w;have l2:=Qp5 (v:=val b) w;rw[W5 oh oh,sbind,Qox d om f om,sbind,Qj];have Z:val b<=val b*2 ^ s:=Nat.le_mul_of_pos_right _ F;obtain⟨vl,v4,v3,P,W⟩:=len2 (v:=val b*2 ^ s) om;have G:val b*2 ^ s<=val a*2 ^ s:=ow _ om;have hll:=V3 G;have H:=Q4s (v:=val b*2 ^ s) om;have hvl:(toL (val b*2 ^ s)).length=vl.length+2:=by rw[P];simp
 have K:Wd (toL (val a*2 ^ s)++[0]):=Q2.2 ⟨Ql _,Q6.2 ⟨om,Jr⟩⟩
 obtain⟨⟨q,r⟩,g1,Q,g3,g4,R,C,E⟩:=Qso (u:=toL (val a*2 ^ s)++[0]) (v:=toL (val b*2 ^ s)) d P W K (Ql _) oh oh (by
  rw[yr,List.length_singleton,List.drop_append_of_le_length om,Jh,yu,xk,Qj];have:=Vk (Qgc (k:=(toL (val a*2 ^ s)).length+1 - (toL (val b*2 ^ s)).length) (Ql (val a*2 ^ s)));rw[va] at this
  exact xc this (xn (bp_le om) H))
 simp only at Q g3 g4 R C E;rw[Jh,yu,xk,Qj,Qj] at C;rw[Qj] at E;rw[yr,List.length_singleton] at Q g4;rw[g1,sbind];simp only[];rw[Vm d om,sbind,Qsl d om R om,sbind,<-Ja g3];obtain⟨N,O⟩:=dm_of (U:=val a*2 ^ s) (V:=val b*2 ^ s) (q:=val q) (r:=val r) (by rw[C,uz (val q)];omega) E;rw[Nat.mul_div_mul_right _ _ F] at N;rw[Nat.mul_mod_mul_right] at O;rw[<-N,<-O,Nat.mul_div_cancel _ F]
theorem Qpr{n x y:Nat}(e:big<=n)(i:y<18446744073709551616):Qbu n x y=some (Nat.gcd x y):=by unfold Qbu;unfold big at e;refine Xy (λs=>s.2) (λs=>s.2<18446744073709551616/\Nat.gcd s.1 s.2=Nat.gcd x y) (λt=>t=Nat.gcd x y) ⟨i,rfl⟩ (by simp only[];omega) ?_ (λt f=>by rw[f]);rintro⟨u,v⟩ ⟨d,a⟩;simp only at d a;simp only[bifnd];by_cases h0:v=0;right;rw[oj h0];exact⟨_,rfl,by rw[<-a,h0,Nat.gcd_zero_right]⟩;left;rw[oi h0,grd_t (by simp[h0]),sbind];have:=yh u (show v > 0 by omega);exact⟨_,rfl,⟨by simp only[];omega,by rw[<-a,Nat.gcd_comm u v,Nat.gcd_rec v u,Nat.gcd_comm]⟩,this⟩
theorem Qrd{v:Nat}:Qdo (toL v)=some (decide (v=1)):=by
 unfold Qdo;simp only[jn_eq,bifd];by_cases h:(toL v).length=1;obtain⟨x,a⟩:=wu.1 h;have:=Qj v;rw[a] at this;simp[val] at this;rw[a,oj oc,show getI [x] (0:Int)=some x by rfl,sbind,this];rw[oi om];have:v≠1:=by rintro rfl;apply h;rw[Yv oz,show 1 / 4294967296=0 by decide,K2];rfl
 rw[oq this]
theorem Q20{v k:Nat}(h:v<2 ^ k):blen v<=k:=by
 rcases xx k (blen v) with a | a;have h0:v≠0:=by rintro rfl;rw[Qdz] at a;omega
 have g1:=Qjk h0;have d:2 ^ k<=2 ^ (blen v - 1):=vc oz om;omega;exact a
theorem Q21{r u:Nat}(h:2*r<u):blen r<blen u:=by
 have d:=Ql7 (x:=u);by_cases h0:r=0;subst h0;rw[Qdz];exact Qnk om;have g1:=Qjk h0;have a:=Qnk h0;have g3:2 ^ blen r=2 ^ (blen r - 1)*2:=by rw[<-vh,show(blen r - 1).succ=blen r by omega]
 have g4:2 ^ blen r<2 ^ blen u:=om
 exact(gg oz).1 g4
theorem Qv9{v:Nat}:blen v<=32*(toL v).length:=by refine Q20 ?_;rw[<-Qg9];have:=Vk (Ql v);rwa [Qj] at this
theorem Q1s{u v:Nat}(h0:v≠0):blen v+blen (u%v)+(if v<u%v then 1 else 0)<blen u+blen v+(if u<v then 1 else 0):=by
 have i:=yh u (show v > 0 by omega);rw[oi om];by_cases h:u<v;rw[oj h,xb h];omega;rw[oi h];have d:2*(u%v)<u:=by have e:=ue u v;have a:1<=u / v:=(Nat.le_div_iff_mul_le om).2 om;have f:v*1<=v*(u / v):=ym _ a;omega
 have:=Q21 d;omega
theorem Qre{n:Nat}{a b:List Nat}(d:big<=n)(F:a.length<4398046511104)(G:b.length<4398046511104)(j:Wd a)(l:Wd b):Qdn n a b=some (toL (Nat.gcd (val a) (val b))):=by
 unfold Qdn;have w:=Jd j;have x:=Jd l;rw[Vm d om,sbind,Vm d om,sbind,<-Ja j,<-Ja l];have r:=d;unfold big at r
 refine Xy (λs=>blen (val s.1)+blen (val s.2)+(if val s.1<val s.2 then 1 else 0)) (λs=>∃ u v,s=(toL u,toL v)/\Nat.gcd u v=Nat.gcd (val a) (val b)/\(toL u).length<4398046511104/\(toL v).length<4398046511104)
  (λt=>∃ u v,t=(toL u,toL v)/\Nat.gcd u v=Nat.gcd (val a) (val b)/\(toL u).length<4398046511104/\(toL v).length<=2) ⟨val a,val b,rfl,rfl,om,om⟩ ?_ ?_ ?_
 simp only[Qj];have E:=Qv9 (v:=val a);have f:=Qv9 (v:=val b);split<;>omega;rintro s ⟨u,v,rfl,f,m,q⟩;simp only[bifd,Qj];by_cases h0:2<(toL v).length;left;have i:v≠0:=by rintro rfl;rw[K2] at h0;simp at h0
 rw[oj om,Qfp d m q (Ql _) (Ql _),sbind,Qj,Qj,oi i];refine⟨_,rfl,⟨v,u%v,rfl,?_,q,?_⟩,?_⟩;rw[<-f,Nat.gcd_comm u v,Nat.gcd_rec v u,Nat.gcd_comm];exact xu (V3 (Nat.le_of_lt (yh u om))) q;simp only[Qj];exact Q1s i;right;rw[oi om];exact⟨_,rfl,u,v,rfl,f,m,om⟩;rintro t ⟨u,v,rfl,f,m,q⟩;simp only[bifd];by_cases h0:v=0;subst h0;rw[K2,oj oa,<-f,Nat.gcd_zero_right];have C:(toL v).length≠0:=λh=>by rw[Yv h0] at h;simp at h
 have e:v<18446744073709551616:=by rcases xx v 18446744073709551616 with h | h;exact h;have:=Qxn h;omega
 have B:=yh u (show v > 0 by omega);have A:=V3 (Nat.le_of_lt B);rw[oi om,Qfp d m om (Ql _) (Ql _),sbind,Qj,Qj,oi h0];simp only[];rw[Ql6 d om (Ql _),sbind,Ql6 d om (Ql _),sbind,Qj,Qj,oj e,oj om];simp only[];rw[Qpr d om,sbind,Qc4 d (xu (Nat.gcd_le_left _ om) e),sbind,<-f,Nat.gcd_comm u v,Nat.gcd_rec v u,Nat.gcd_comm]
theorem Qoy{n:Nat}{a b:List Nat}(i:big<=n)(l:a.length<4398046511104)(m:b.length<4398046511104)(e:Wd a)(f:Wd b):
 Qa6 n a b=some (toL (val a / Nat.gcd (val a) (val b)),toL (val b / Nat.gcd (val a) (val b))):=by
 unfold Qa6;rw[Qre i l m e f,sbind,bifd];have q:Nat.gcd (val a) (val b) ∣ val a:=Nat.gcd_dvd_left _ _;have r:Nat.gcd (val a) (val b) ∣ val b:=Nat.gcd_dvd_right _ _;have s:=Jd e;have u:=Jd f;have d:Nat.gcd (val a) (val b)=0\/(toL (Nat.gcd (val a) (val b))).length<4398046511104:=by by_cases h:val a=0;rw[h,Nat.gcd_zero_left];right;omega;right;exact xu (V3 (Nat.gcd_le_left _ om)) om
 by_cases h0:Nat.gcd (val a) (val b)=0;rw[h0,K2,oj oa,Nat.div_zero,Nat.div_zero,K2];have v:(toL (Nat.gcd (val a) (val b))).length≠0:=λh=>by rw[Yv h0] at h;simp at h
 rw[oi om,Qrd,sbind,bifd];by_cases j:Nat.gcd (val a) (val b)=1;rw[oj j,Vm i om,sbind,Vm i om,sbind,j,Nat.div_one,Nat.div_one,Ja e,Ja f];have d:(toL (Nat.gcd (val a) (val b))).length<4398046511104:=by rcases d with h | h;exact absurd h h0;exact h
 rw[oi j,Qfp i l d e (Ql _),sbind,Qfp i m d f (Ql _),sbind,Qj,oi h0,oi h0]
def wv(w:Qh):Int:=if w.Neg then -(val w.Gj:Int) else (val w.Gj:Int)
def toW(z:Int):Qh:=⟨decide (z<0),toL z.natAbs⟩
theorem Qfh(z:Int):wv (toW z)=z:=by unfold wv toW;simp only[vk,Qj];split<;>omega
theorem Qbm{v:Nat}:0<(toL v).length↔v≠0:=by constructor;rintro h rfl;rw[K2] at h;simp at h;intro h;rw[Yv h];simp
theorem W7{s:Bool}{v:Nat}:K6 s (toL v)=some (toW (if s then -(v:Int) else (v:Int))):=by unfold K6 toW;rw[jn_eq];cases s;rw[bifF];congr 2;rw[bifT];congr 2;exact wk.2 (by simp only[uv];have:=@Qbm v;omega);simp
def Ww(w:Qh):Prop:=Wd w.Gj/\w.Gj.length<4398046511104
theorem Qrf{n:Nat}{w:Qh}(a:big<=n)(h:Ww w):Qdp n w=some (toW (wv w)):=by unfold Qdp;rw[Vm a (by have:=h.2;omega),sbind,<-Ja h.1,W7,sbind];rfl
theorem Qxs(s t:Bool)(x y:Nat):(if (s != t) then -((x*y:Nat):Int) else ((x*y:Nat):Int))=(if s then -(x:Int) else (x:Int))*(if t then -(y:Int) else (y:Int)):=by cases s<;>cases t<;>simp[Int.neg_mul,Int.mul_neg]
theorem Ql8{n:Nat}{w u:Qh}(e:big<=n)(d:Ww w)(a:Ww u):Qcy n w u=some (toW (wv w*wv u)):=by unfold Qcy;rw[Qcm e (by have:=d.2;omega) (by have:=a.2;omega) d.1 a.1,sbind,W7,sbind,Qxs];rfl
theorem Qwa{x y:Nat}:cmpI x y<0↔x<y:=by by_cases h:x<y;simp[cmpI,h];rw[cmpI,oi h];split<;>omega
theorem Ql9{n:Nat}{w u:Qh}(f:big<=n)(e:Ww w)(d:Ww u):Qcz n w u=some (toW (wv w+wv u)):=by unfold Qcz;have j:=e.2;have l2:=d.2;rw[Qv6 f om om e.1 d.1,sbind,W7,sbind,Qv7 f om om e.1 d.1,sbind,bifd,W7,sbind,W7,sbind];unfold wv;rcases w with ⟨s,a⟩;rcases u with ⟨t,b⟩;simp only[];generalize val a=x;generalize val b=y;have i:=@Qwa x y;cases s<;>cases t<;>simp only[beq_self_eq_true,bifT,bifF,vw,uv,if_false,show(false == true)=false by rfl,show(true == false)=false by rfl,i];congr 2;split<;>congr 2<;>omega;split<;>congr 2<;>omega;congr 2;omega
theorem Qsp{n:Nat}{w:Qh}(a:big<=n)(h:Ww w):Qe2 n w=some (toW (-wv w)):=by unfold Qe2;rw[Vm a (by have:=h.2;omega),sbind,<-Ja h.1,W7,sbind];unfold wv;cases w.Neg<;>simp
theorem Q22(z:Int):(toW (-z)).Gj=(toW z).Gj:=by unfold toW;simp
theorem Qfi(z:Int):Wd (toW z).Gj:=Ql _
theorem Qkn{n:Nat}{w:Qh}(a:big<=n)(h:Ww w):Zu n w=some (Int.sign (wv w)):=by unfold Zu wv;rw[Qnz a (by have:=h.2;omega) h.1,sbind,bifd];by_cases h0:val w.Gj=0;rw[oj h0,h0];cases w.Neg<;>rfl;rw[oi h0];cases w.Neg;rw[bifF,oi oz,gt om];rw[bifT,oj rfl,Int.sign_eq_neg_one_of_neg om]
theorem Qb8(w:Qh):(wv w).natAbs=val w.Gj:=by unfold wv;split<;>omega
theorem Q4t{w:Qh}(h:Ww w):Ww (toW (-wv w)):=by refine⟨Qfi _,?_⟩;rw[Q22];show(toL (wv w).natAbs).length<_;rw[Qb8];exact xu (Jd h.1) h.2
theorem Qsq{n:Nat}{w u:Qh}(a:big<=n)(e:Ww w)(d:Ww u):Qc0 n w u=some (toW (wv w - wv u)):=by unfold Qc0;rw[Qsp a d,sbind,Ql9 a e (Q4t d),sbind,Qfh,Int.sub_eq_add_neg]
def fv(f:Qc):Rat:=mkRat (wv f.Num) (val f.Den)
def toF(q:Rat):Qc:=⟨toW q.num,toL q.den⟩
theorem K5(q:Rat):fv (toF q)=q:=by unfold fv toF;rw[Qfh,Qj];exact vm q
theorem Qfq{z:Int}{d:Nat}(hd:d≠0):(mkRat z d).num=z / (Nat.gcd z.natAbs d:Int)/\(mkRat z d).den=d / Nat.gcd z.natAbs d:=by rw[<-Rat.normalize_eq_mkRat hd,Rat.normalize_eq];exact⟨rfl,rfl⟩
theorem Qxt(s:Bool)(x g:Nat)(h:g ∣ x):(if s then -((x / g:Nat):Int) else ((x / g:Nat):Int))=(if s then -(x:Int) else (x:Int)) / (g:Int):=by cases s;simp;simp only[uv];rw[Int.neg_ediv_of_dvd (Int.natCast_dvd_natCast.2 h)];simp
theorem Qaq{n:Nat}{w:Qh}{d:List Nat}(i:big<=n)(e:Ww w)(hd:Wd d)(q:d.length<4398046511104)(h0:val d≠0):Xm n w d=some (toF (mkRat (wv w) (val d))):=by unfold Xm;have f:=e.2;have m:Nat.gcd (val w.Gj) (val d) ∣ val w.Gj:=Nat.gcd_dvd_left _ _;have a:(toL (val w.Gj / Nat.gcd (val w.Gj) (val d))).length<4398046511104:=xu (xn (V3 (gn _ _)) (Jd e.1)) f;rw[Qoy i f q e.1 hd,sbind,Qrf i ⟨Ql _,a⟩,sbind];obtain⟨j,l⟩:=Qfq (z:=wv w) h0;unfold toF;rw[j,l,Qb8];congr 2;unfold wv;rw[Qj];congr 1;exact Qxt _ _ _ m
def Fw(f:Qc):Prop:=Ww f.Num/\Wd f.Den/\f.Den.length<4398046511104
theorem Qko{n:Nat}{f:Qc}(d:big<=n)(i:Fw f):∃ p,Kk n f=some p/\Ww p.1/\Wd p.2/\p.2.length<=max 1 f.Den.length/\p.1.Gj.length<=f.Num.Gj.length/\val p.2≠0/\mkRat (wv p.1) (val p.2)=fv f:=by obtain⟨e,a,j⟩:=i;unfold Kk fv;rw[Qnz d om a,sbind,bifd];by_cases h0:val f.Den=0;rw[oj h0,Qc4 d om,sbind];refine⟨_,rfl,⟨Jr,oc⟩,Ql _,?_,oc,by simp only[Qj];decide,?_⟩;have:=Qad (n:=1) (k:=1) (by rw[Jz,Xc];omega);simp only[];omega;simp only[Qj,h0,Rat.mkRat_zero];rfl;rw[oi h0];exact⟨_,rfl,e,a,by simp only[];omega,ol _,h0,rfl⟩
theorem Qma{n:Nat}{f:Qc}(d:big<=n)(a:Fw f):Qai n f=some (toF (fv f)):=by obtain⟨p,e,i,j,q,r,l,m⟩:=Qko d a;unfold Qai;rw[e,sbind,Qaq d i j (by have:=a.2.2;omega) l,sbind,m]
theorem X4{x y:Nat}:(toL (x*y)).length<=(toL x).length+(toL y).length:=by refine Qad ?_;have a:=Vk (Ql x);have d:=Vk (Ql y);rw[Qj] at a d;rw[Qz3];exact Nat.mul_lt_mul'' a d
theorem Qmb{x y k:Nat}(d:(toL x).length<=k)(e:(toL y).length<=k):(toL (x+y)).length<=k+1:=by refine Qad ?_;have g1:=Vk (Ql x);have a:=Vk (Ql y);rw[Qj] at g1 a;have g3:=bp_le d;have g4:=bp_le e;rw[Jz];omega
theorem Qbb{n:Nat}{w:Qh}{d:List Nat}(e:big<=n)(f:Ww w)(hd:Wd d)(a:d.length<4398046511104):Xg n w d=some (toW (wv w*(val d:Int))):=by unfold Xg;rw[Ql8 e f ⟨hd,a⟩,sbind];rfl
def Fk(k:Nat)(f:Qc):Prop:=Wd f.Num.Gj/\f.Num.Gj.length<=k/\Wd f.Den/\f.Den.length<=k
theorem Fk_Fw{k:Nat}{f:Qc}(h:Fk k f)(hk:k<4398046511104):Fw f:=⟨⟨h.1,by have:=h.2.1;omega⟩,h.2.2.1,by have:=h.2.2.2;omega⟩
theorem Qeh{n k:Nat}{f:Qc}(s:big<=n)(a:Fk k f)(e:1<=k)(hk:k<4398046511104):∃ w d,Kk n f=some (w,d)/\Wd w.Gj/\w.Gj.length<=k/\Wd d/\d.length<=k/\val d≠0/\mkRat (wv w) (val d)=fv f:=by obtain⟨⟨w,d⟩,e,i,j,l,m,q,r⟩:=Qko s (Fk_Fw a hk);exact⟨w,d,e,i.1,xn m a.2.1,j,by have:=a.2.2.2;simp only at l;omega,q,r⟩
theorem Qj3{w:Qh}{y k j:Nat}(a:Wd w.Gj)(d:w.Gj.length<=k)(e:(toL y).length<=j):(toW (wv w*(y:Int))).Gj.length<=k+j:=by unfold toW;simp only[];rw[wo,Qb8,uj];have:=@X4 (val w.Gj) y;have:=Jd a;omega
theorem Qiz{n k:Nat}{f g:Qc}(a:big<=n)(m:1<=k)(hk:k<1099511627776)(A:Fk k f)(B:Fk k g):Y3 n f g=some (toF (fv f+fv g)):=by
 obtain⟨w,d,a1,a2,a3,a4,a5,a6,a7⟩:=Qeh a A m om;obtain⟨u,e,r,j,s,i,v,l,x⟩:=Qeh a B m om;have q:=Qj3 a2 a3 (xn (Jd i) v);have l2:=Qj3 j s (xn (Jd a4) a5);unfold Y3;rw[a1,sbind,r,sbind,Qbb a ⟨a2,om⟩ i om,sbind,Qbb a ⟨j,om⟩ a4 om,sbind,Ql9 a ⟨Qfi _,om⟩ ⟨Qfi _,om⟩,sbind,Qcm a om om a4 i,sbind];have E:=@X4 (val d) (val e);have F:=Jd a4;have G:=Jd i;rw[Qfh,Qfh];have C:(toW (wv w * ↑(val e)+wv u * ↑(val d))).Gj.length<=2*k+1:=by
  unfold toW at q l2 |-;simp only[] at q l2 |-;have:=Int.natAbs_add_le (wv w * ↑(val e)) (wv u * ↑(val d));exact xn (V3 this) (Qmb om om)
 rw[Qaq a ⟨Qfi _,om⟩ (Ql _) om (by rw[Qj];exact wc a6 l),sbind,Qj,Qfh,<-a7,<-x,gj _ _ a6 l]
theorem Qur{n k:Nat}{f g:Qc}(a:big<=n)(m:1<=k)(hk:k<1099511627776)(A:Fk k f)(B:Fk k g):Qd6 n f g=some (toF (fv f - fv g)):=by
 obtain⟨w,d,a1,a2,a3,a4,a5,a6,a7⟩:=Qeh a A m om;obtain⟨u,e,r,j,s,i,v,l,x⟩:=Qeh a B m om;have q:=Qj3 a2 a3 (xn (Jd i) v);have l2:=Qj3 j s (xn (Jd a4) a5);unfold Qd6;rw[a1,sbind,r,sbind,Qbb a ⟨a2,om⟩ i om,sbind,Qbb a ⟨j,om⟩ a4 om,sbind,Qsq a ⟨Qfi _,om⟩ ⟨Qfi _,om⟩,sbind,Qcm a om om a4 i,sbind];have E:=@X4 (val d) (val e);have F:=Jd a4;have G:=Jd i;rw[Qfh,Qfh];have C:(toW (wv w * ↑(val e) - wv u * ↑(val d))).Gj.length<=2*k+1:=by
  unfold toW at q l2 |-;simp only[] at q l2 |-;have:=Int.natAbs_sub_le (wv w * ↑(val e)) (wv u * ↑(val d));exact xn (V3 this) (Qmb om om)
 rw[Qaq a ⟨Qfi _,om⟩ (Ql _) om (by rw[Qj];exact wc a6 l),sbind,Qj,Qfh,<-a7,<-x,Rat.sub_eq_add_neg,Rat.neg_mkRat,gj _ _ a6 l,Int.neg_mul,<-Int.sub_eq_add_neg]
theorem Qcn{n k:Nat}{f g:Qc}(a:big<=n)(l:1<=k)(hk:k<1099511627776)(s:Fk k f)(v:Fk k g):Yf n f g=some (toF (fv f*fv g)):=by
 obtain⟨w,d,a1,a2,a3,a4,a5,a6,a7⟩:=Qeh a s l om;obtain⟨u,e,m,i,x,j,A,q,r⟩:=Qeh a v l om;unfold Yf;rw[a1,sbind,m,sbind,Ql8 a ⟨a2,om⟩ ⟨i,om⟩,sbind,Qcm a om om a4 j,sbind];have E:=@X4 (val d) (val e);have F:=Jd a4;have G:=Jd j;have C:(toW (wv w*wv u)).Gj.length<=2*k:=by unfold toW;simp only[];rw[wo,Qb8,Qb8];have g1:=@X4 (val w.Gj) (val u.Gj);have B:=Jd a2;have g3:=Jd i;omega
 rw[Qaq a ⟨Qfi _,om⟩ (Ql _) om (by rw[Qj];exact wc a6 q),sbind,Qj,Qfh,<-a7,<-r,wh]
theorem Qsr{a b:Int}{d e:Nat}(hd:d≠0)(f:e≠0):Int.sign (a*(e:Int) - b*(d:Int))=Int.sign (mkRat a d - mkRat b e).num:=by rw[Rat.sub_eq_add_neg,Rat.neg_mkRat,gj _ _ hd f,Int.neg_mul,<-Int.sub_eq_add_neg];generalize a*(e:Int) - b*(d:Int)=z;have h0:d*e≠0:=wc hd f;obtain⟨i,_⟩:=Qfq (z:=z) h0;rw[i];have l:(Nat.gcd z.natAbs (d*e):Int) ∣ z:=Int.dvd_natAbs.1 (Int.natCast_dvd_natCast.2 (Nat.gcd_dvd_left _ _));obtain⟨c,j⟩:=l;have m:0<Nat.gcd z.natAbs (d*e):=Nat.gcd_pos_of_pos_right _ om;generalize Nat.gcd z.natAbs (d*e)=g at *;subst j;rw[Int.mul_ediv_cancel_left _ om,Int.sign_mul,gt om,Int.one_mul]
theorem Jm{α:Type}{l:List α}{i:Nat}{x:α}(h:l[i]?=some x):getI l (i:Int)=some x:=by rw[Qga,h]
theorem Qaj{α:Type}{l:List α}{i:Nat}{x:α}(h:l[i]?=some x):i<l.length:=by rcases xx i l.length with a | a;exact a;rw[ou a] at h;cases h
theorem Zs{α:Type}{l:List α}{i:Nat}{x:α}(h:l[i]?=some x):x∈l:=List.mem_of_getElem? h
theorem w1{i:Nat}(h:i<9223372036854775807):wrap64 ((i:Int)+1)=((i+1:Nat):Int):=by rw[w64 om om];omega
theorem Qtv{σ τ:Type}{f:σ->Option (Lp σ τ)}(F:Nat->σ){t:τ}:∀(N k n:Nat),(∀ i,i<N->f (F (k+i))=some (.go (F (k+i+1))))->f (F (k+N))=some (.out t)->N<n->loopM f n (F k)=some t
 | 0,k,n,_,a,e=>Qbk a om
 | N+1,k,n,d,a,e=>by
   obtain⟨m,rfl⟩:∃ m,n=m+1:=⟨n - 1,om⟩
   have h0:=d 0 om;simp only[xk] at h0;rw[Qgb h0];exact Qtv F N (k+1) m (λi hi=>by have:=d (i+1) om;rw[show k+(i+1)=k+1+i by omega] at this;exact this) (by rw[show k+1+N=k+(N+1) by omega];exact a) om
theorem Yk{σ τ R:Type}{f:σ->Option (Lp σ τ)}{s:σ}{K:τ->Option R}{n:Nat}(F:Nat->σ)(N:Nat)(t:τ)(a:∀ i,i<N->f (F i)=some (.go (F (i+1))))(d:f (F N)=some (.out t))(e:N<n)(j:s=F 0):(loopM f n s).bind K=K t:=by rw[j,Qtv F (t:=t) N 0 n (λi hi=>by rw[xa];exact a i hi) (by rw[xa];exact d) e,xq]
theorem Qrg{α σ τ:Type}{f:Nat->α->σ->Option (Lp σ τ)}(F:Nat->σ):∀(xs:List α) (k:Nat),(∀ i x,xs[i]?=some x->f (k+i) x (F (k+i))=some (.go (F (k+i+1))))->rangeL f xs k (F k)=some (.go (F (k+xs.length)))
 | [],_,_=>rfl
 | x::xs,k,a=>by have h0:=a 0 x rfl;simp only[xk] at h0;simp only[rangeL,h0,xq];rw[Qrg F xs (k+1) (λi y d=>by have:=a (i+1) y (by simpa using d);rw[show k+(i+1)=k+1+i by omega] at this;exact this),xl,show k+1+xs.length=k+(xs.length+1) by omega]
theorem Qgd{α σ τ R:Type}{f:Nat->α->σ->Option (Lp σ τ)}{s:σ}{K:Lp σ τ->Option R}(F:Nat->σ)(xs:List α)(a:∀ i x,xs[i]?=some x->f i x (F i)=some (.go (F (i+1))))(d:s=F 0):(rangeL f xs 0 s).bind K=K (.go (F xs.length)):=by rw[d,Qrg F xs 0 (λi x e=>by rw[xa];exact a i x e),xq,xa]
theorem Qrh{α R:Type}{f:Nat->α->Unit->Option (Lp Unit R)}{r:R}(P:Nat->α->Prop):∀(xs:List α) (k:Nat),(∀ i x,xs[i]?=some x->(P (k+i) x->f (k+i) x ()=some (.go ()))/\(¬ P (k+i) x->f (k+i) x ()=some (.out r))) ->
 ((∀ i x,xs[i]?=some x->P (k+i) x)->rangeL f xs k ()=some (.go ()))/\(¬(∀ i x,xs[i]?=some x->P (k+i) x)->rangeL f xs k ()=some (.out r))
 | [],k,_=>⟨λ_=>rfl,λh=>absurd (λi x s=>by simp at s) h⟩
 | x::xs,k,m=>by
   obtain⟨j,l⟩:=m 0 x rfl;simp only[xk] at j l;obtain⟨g1,q⟩:=Qrh P xs (k+1) (λi y a=>by have:=m (i+1) y (by simpa using a);rw[show k+(i+1)=k+1+i by omega] at this;exact this);by_cases d:P k x;have e:(∀ i y,(x::xs)[i]?=some y->P (k+i) y)↔(∀ i y,xs[i]?=some y->P (k+1+i) y):=by
    constructor;intro h i y a;have:=h (i+1) y (by simpa using a);rw[show k+(i+1)=k+1+i by omega] at this;exact this;intro h i y a;cases i with
    | zero=>simp at a;subst a;exact d
    | succ i=>rw[show k+(i+1)=k+1+i by omega];exact h i y (by simpa using a)
   rw[e];simp only[rangeL,j d,xq];exact⟨g1,q⟩;refine⟨λh=>absurd (h 0 x rfl) d,λ_=>?_⟩;simp only[rangeL,l d,xq]
open Classical in
theorem Qtw{α R:Type}{f:Nat->α->Unit->Option (Lp Unit R)}{K:Unit->Option R}{r:R}(P:Nat->α->Prop)(xs:List α)
 (d:∀ i x,xs[i]?=some x->(P i x->f i x ()=some (.go ()))/\(¬ P i x->f i x ()=some (.out r))) :
 (rangeL f xs 0 ()).bind (lpK K)=if (∀ i x,xs[i]?=some x->P i x) then K () else some r:=by
 obtain⟨g1,a⟩:=Qrh P xs 0 (λi x e=>by rw[xa];exact d i x e);simp only[xa] at g1 a;by_cases h:∀ i x,xs[i]?=some x->P i x;rw[oj h,g1 h,xq,Vy];rw[oi h,a h,xq,Qc3]
theorem Qtx{R:Type}{f:Int->Option (Lp Int (Lp Unit R))}{r:R}(P:Nat->Prop):∀(N k n:Nat),(∀ i,i<k+N->k<=i->(P i->f (i:Int)=some (.go ((i+1:Nat):Int)))/\(¬ P i->f (i:Int)=some (.out (.out r))))->f ((k+N:Nat):Int)=some (.out (.go ()))->N<n ->
 ((∀ i,k<=i->i<k+N->P i)->loopM f n (k:Int)=some (.go ()))/\(¬(∀ i,k<=i->i<k+N->P i)->loopM f n (k:Int)=some (.out r))
 | 0,k,n,_,j,v=>⟨λ_=>Qbk j om,λh=>absurd (λi l q=>by omega) h⟩
 | N+1,k,n,s,j,v=>by
   obtain⟨m,rfl⟩:∃ m,n=m+1:=⟨n - 1,om⟩
   obtain⟨l,q⟩:=s k om (ol _);obtain⟨g1,u⟩:=Qtx P N (k+1) m (λi hi hk=>s i om om) (by rw[show k+1+N=k+(N+1) by omega];exact j) om;by_cases d:P k;have e:(∀ i,k<=i->i<k+(N+1)->P i)↔(∀ i,k+1<=i->i<k+1+N->P i):=by constructor;intro h i a b;exact h i om om;intro h i a b;rcases Nat.eq_or_lt_of_le a with c | c;exact c ▸ d;exact h i c om
   rw[e,Qgb (l d)];exact⟨g1,u⟩;exact⟨λh=>absurd (h k (ol _) om) d,λ_=>Qbk (q d) om⟩
open Classical in
theorem Qwb{R:Type}{f:Int->Option (Lp Int (Lp Unit R))}{K:Unit->Option R}{r:R}{n:Nat}(P:Nat->Prop)(N:Nat)
 (d:∀ i,i<N->(P i->f (i:Int)=some (.go ((i+1:Nat):Int)))/\(¬ P i->f (i:Int)=some (.out (.out r)))) (e:f (N:Int)=some (.out (.go ()))) (j:N<n) :
 (loopM f n 0).bind (lpK K)=if (∀ i,i<N->P i) then K () else some r:=by
 obtain⟨g1,a⟩:=Qtx (n:=n) (r:=r) P N 0 (λi hi _=>d i om) (by rw[xa];exact e) j;simp only[xa,xg,true_implies] at g1 a;by_cases h:∀ i,i<N->P i;rw[oj h];have:=g1 h;rw[show((0:Nat):Int)=0 from rfl] at this;rw[this,xq,Vy];rw[oi h];have:=a h;rw[show((0:Nat):Int)=0 from rfl] at this;rw[this,xq,Qc3]
theorem Qi0{α β:Type}(h:α->β){l:List α}{i:Nat}{x:α}(a:l[i]?=some x):(l.take (i+1)).map h=(l.take i).map h++[h x]:=by
 rw[ge (Qaj a),yx];have:l[i]'(Qaj a)=x:=by have:=oo (Qaj a);rw[this] at a;exact Option.some.inj a
 simp[this]
theorem Qss:∀ {a b:List Nat},Wd a->Wd b->a.length=b.length->val a=val b->a=b
 | [],[],_,_,_,_=>rfl
 | [],_::_,_,_,h,_=>by simp at h
 | _::_,[],_,_,h,_=>by simp at h
 | x::a,y::b,f,i,j,l=>by
   obtain⟨m,d⟩:=Q6.1 f;obtain⟨q,e⟩:=Q6.1 i;simp only[val] at l;have:x=y:=om
   subst this;rw[Qss d e (by simpa using j) om]
theorem Qkp{x y:Nat}:cmpI x y=0↔x=y:=by unfold cmpI;split;constructor<;>intro h<;>omega;split;constructor<;>intro h<;>omega;constructor<;>intro h<;>omega
open Classical in
theorem Qkq{n:Nat}{f:Qc}(v:big<=n)(x:Fw f):Y2 n f=some (decide (f=toF (fv f))):=by
 unfold Y2;rw[Qma v x,sbind,jn_eq];have w1:Wd (toF (fv f)).Num.Gj:=Ql _;have w:Wd (toF (fv f)).Den:=Ql _;generalize toF (fv f)=g at *;obtain⟨⟨r,A⟩,u,B⟩:=x;obtain⟨⟨s,a⟩,d⟩:=f;obtain⟨⟨t,b⟩,e⟩:=g;simp only at r A u B w1 w |-;have i:∀ {P:Prop},(P->False)->(some false:Option Bool)=some (decide P):=λh=>by rw[oq h]
 by_cases c1:s=t;subst c1;rw[show(s == s)=true by simp,bifT];by_cases m:(a.length:Int)=(b.length:Int)
 rw[ot m,bifT];by_cases q:(d.length:Int)=(e.length:Int)
 rw[ot q,bifT,Qdy v om om r w1,sbind];by_cases j:val a=val b;rw[ot (Qkp.2 j),bifT,Qdy v om om u w,sbind];by_cases l:val d=val e;rw[ot (Qkp.2 l),Qss r w1 om j,Qss u w om l,ot rfl];rw[oq λh=>l (Qkp.1 h)];exact i λh=>by cases h;exact l rfl
 rw[oq λh=>j (Qkp.1 h),bifF];exact i λh=>by cases h;exact j rfl
 rw[oq q,bifF];exact i λh=>by cases h;exact q rfl
 rw[oq m,bifF];exact i λh=>by cases h;exact m rfl
 rw[show(s == t)=false by simpa using c1,bifF];exact i λh=>by cases h;exact c1 rfl
def qw(q:Rat):Nat:=max (toL q.num.natAbs).length (toL q.den).length
theorem Z1{j k:Nat}{f:Qc}(h:Fk j f)(hk:j<=k):Fk k f:=⟨h.1,by have:=h.2.1;omega,h.2.2.1,by have:=h.2.2.2;omega⟩
theorem Vn{q:Rat}{k:Nat}(h:qw q<=k):Fk k (toF q):=by unfold qw at h;exact⟨Qfi _,by show(toL q.num.natAbs).length<=k;omega,Ql _,by show(toL q.den).length<=k;omega⟩
theorem toL1:(toL 1).length=1:=by rw[Yv oz];simp[K2]
theorem Qqh{z:Int}{d k:Nat}(hd:d≠0)(i:(toL z.natAbs).length<=k)(j:(toL d).length<=k):qw (mkRat z d)<=k:=by obtain⟨a,e⟩:=Qfq (z:=z) hd;unfold qw;rw[a,e];have g1:=V3 (Int.natAbs_ediv_le_natAbs z (Nat.gcd z.natAbs d:Int));have f:=V3 (gn d (Nat.gcd z.natAbs d));omega
theorem Qaz:qw 0=1:=by unfold qw;rw[show(0:Rat).num=0 from rfl,show(0:Rat).den=1 from rfl,toL1];simp[K2]
theorem Q4u(q:Rat):1<=qw q:=by have:=(Qbm (v:=q.den)).2 q.den_nz;unfold qw;omega
theorem qw_fv{f:Qc}{k:Nat}(h:Fk k f)(a:1<=k):qw (fv f)<=k:=by unfold fv;by_cases h0:val f.Den=0;rw[h0,Rat.mkRat_zero,Qaz];exact a;refine Qqh h0 ?_ ?_;rw[Qb8];exact xn (Jd h.1) h.2.1;exact xn (Jd h.2.2.1) h.2.2.2
theorem Qco(q:Rat):(toL q.num.natAbs).length<=qw q:=by unfold qw;omega
theorem Qcp(q:Rat):(toL q.den).length<=qw q:=by unfold qw;omega
theorem Qb2{a b:Rat}{j k:Nat}(f:qw a<=j)(i:qw b<=k):qw (a*b)<=j+k:=by rw[<-vm a,<-vm b,wh];have l:=Qco a;have m:=Qco b;have d:=Qcp a;have e:=Qcp b;have:=@X4 a.num.natAbs b.num.natAbs;have:=@X4 a.den b.den;exact Qqh (wc a.den_nz b.den_nz) (by rw[wo];omega) om
theorem Qj4{a b:Rat}{j k:Nat}(f:qw a<=j)(i:qw b<=k):qw (a+b)<=j+k+1:=by rw[<-vm a,<-vm b,gj _ _ a.den_nz b.den_nz];have r:=Qco a;have s:=Qco b;have d:=Qcp a;have e:=Qcp b;have l:=@X4 a.num.natAbs b.den;have m:=@X4 b.num.natAbs a.den;have q:=@X4 a.den b.den;refine Qqh (wc a.den_nz b.den_nz) ?_ om;refine xn (V3 (Int.natAbs_add_le _ _)) ?_;rw[wo,wo,uj,uj];exact Qmb om om
theorem Q23(a:Rat):(-a).num=-a.num:=rfl
theorem Q24(a:Rat):(-a).den=a.den:=rfl
theorem Qmc(a:Rat):qw (-a)=qw a:=by unfold qw;rw[Q23,Q24,Int.natAbs_neg]
theorem Qwc{a b:Rat}{j k:Nat}(d:qw a<=j)(e:qw b<=k):qw (a - b)<=j+k+1:=by rw[Rat.sub_eq_add_neg];exact Qj4 d (by rw[Qmc];exact e)
theorem Q4v{a:Rat}{j:Nat}(i:qw a<=j):qw a⁻¹<=j:=by
 have l:=Qco a;have d:=Qcp a;have p:=Q4u a;unfold qw;rw[Rat.num_inv,Rat.den_inv];have e:(toL (a.num.sign*(a.den:Int)).natAbs).length<=j:=by
  rw[wo,uj];refine xn (V3 (y:=a.den) ?_) om;have:a.num.sign.natAbs<=1:=by rw[Int.natAbs_sign];split<;>omega
  calc a.num.sign.natAbs*a.den<=1*a.den:=ow _ this
   _=a.den:=wt _
 have f:(toL (if a.num=0 then 1 else a.num.natAbs)).length<=j:=by
  split
  . rw[toL1];omega
  . omega
 omega
theorem Qcq{a b:Rat}{j k:Nat}(d:qw a<=j)(e:qw b<=k):qw (a / b)<=j+k:=by rw[Rat.div_def];exact Qb2 d (Q4v e)
theorem Q25(x:Int):toF (x:Rat)=⟨toW x,toL 1⟩:=by unfold toF;rw[Rat.num_intCast,Rat.den_intCast]
theorem Qus{n:Nat}{x:Int}(a:big<=n)(d:-9223372036854775808<=x)(f:x<=9223372036854775807):Qgr n x=some (toW x):=by
 unfold Qgr;rw[bifd];split;rename_i h;have e:(18446744073709551616 - Int.toNat (x%18446744073709551616))%18446744073709551616=x.natAbs:=om
 rw[sbind,e,Qc4 a om,sbind,W7,sbind,oj rfl,show -((x.natAbs:Nat):Int)=x by omega];rename_i h;have e:Int.toNat (x%18446744073709551616)=x.natAbs:=om
 rw[e,Qc4 a om,sbind,W7,sbind,oi oz,show((x.natAbs:Nat):Int)=x by omega]
theorem Qha{n:Nat}{x:Int}(a:big<=n)(d:-9223372036854775808<=x)(e:x<=9223372036854775807):Jn n x=some (toF (x:Rat)):=by unfold Jn;rw[Qus a d e,sbind,Qc4 a oz,sbind,Q25]
theorem Qhw{n:Nat}(a:big<=n):Jn n 0=some (toF 0):=Qha a oz oz
theorem Qcr{n:Nat}(a:big<=n):Jn n 1=some (toF 1):=Qha a oz oz
theorem Qy9{z:Int}{d:Nat}(hd:d≠0):(mkRat z d).num.sign=z.sign:=by have:=Qsr (a:=z) (b:=0) hd (e:=1) oz;rw[Rat.zero_mkRat,show mkRat z d - 0=mkRat z d by rw[Rat.sub_eq_add_neg,show(-0:Rat)=0 from rfl,vt]] at this;rw[<-this];simp
theorem Qei{n k:Nat}{f:Qc}(a:big<=n)(e:1<=k)(hk:k<1099511627776)(i:Fk k f):Yy n f=some (fv f).num.sign:=by obtain⟨w,d,a1,a2,a3,a4,a5,a6,a7⟩:=Qeh a i e om;unfold Yy;rw[a1,sbind,Qkn a ⟨a2,om⟩,sbind,<-a7,Qy9 a6]
def qz(q:Rat):Nat:=blen q.num.natAbs+blen q.den
theorem Q26:∀ {u:Qh},wv u≠0->(wv u).sign=if u.Neg then -1 else 1
 | ⟨false,a⟩,h=>by have e:wv ⟨false,a⟩=(val a:Int):=rfl;rw[e] at h |-;rw[gt om];rfl
 | ⟨true,a⟩,h=>by have e:wv ⟨true,a⟩=-(val a:Int):=rfl;rw[e] at h |-;rw[Int.sign_eq_neg_one_of_neg om];rfl
theorem Qty{z:Int}{d:Nat}(a:z≠0)(hd:d≠0):(mkRat z d)⁻¹=mkRat (z.sign*(d:Int)) z.natAbs:=by
 have h0:mkRat z d≠0:=λh=>a ((Rat.mkRat_eq_zero hd).1 h);have e:mkRat z d*mkRat (z.sign*(d:Int)) z.natAbs=1:=by rw[wh,<-Int.mul_assoc,Int.mul_sign_self,show(1:Rat)=mkRat 1 1 from rfl,Rat.mkRat_eq_iff (wc hd om) oz];simp[Int.mul_comm]
 grind
theorem Qfr{n k:Nat}{f g:Qc}(a:big<=n)(v:1<=k)(hk:k<1099511627776)(F:Fk k f)(G:Fk k g):Zm n f g=some (if fv g=0 then (toF 0,false) else (toF (fv f / fv g),true)):=by
 obtain⟨w,d,a1,a2,a3,a4,a5,a6,a7⟩:=Qeh a F v om;obtain⟨u,e,B,j,I,q,C,r,l⟩:=Qeh a G v om;unfold Zm;rw[a1,sbind,B,sbind,Qkn a ⟨j,om⟩,sbind,bifd];have A:(wv u).sign=0↔fv g=0:=by rw[<-l,Rat.mkRat_eq_zero r,gc]
 by_cases h0:fv g=0;rw[oj (A.2 h0),oj h0,Qhw a,sbind];rw[oi (λh=>h0 (A.1 h)),oi h0,Qbb a ⟨a2,om⟩ q om,sbind,Qcm a om om a4 j,sbind];have J:=Qj3 a2 a3 (xn (Jd q) C);have K:=@X4 (val d) (val u.Gj);have L:=Jd a4;have M:=Jd j;have i:wv u≠0:=λh=>h0 (by rw[<-l,h,Rat.zero_mkRat]);have m:val u.Gj≠0:=by rw[<-Qb8];omega
 rw[Qaq (w:=⟨(toW (wv w * ↑(val e))).Neg != u.Neg,(toW (wv w * ↑(val e))).Gj⟩) a ⟨Qfi (wv w * ↑(val e)),by show(toW (wv w * ↑(val e))).Gj.length<_;omega⟩ (Ql _) om (by rw[Qj];exact wc a6 m),sbind,Qj];refine yz some (Prod.ext ?_ rfl);refine yz toF ?_;have E:wv (⟨((toW (wv w * ↑(val e))).Neg != u.Neg),(toW (wv w * ↑(val e))).Gj⟩:Qh)=(wv w*(val e:Int))*(wv u).sign:=by
  have t:=Qfh (wv w * ↑(val e));generalize toW (wv w * ↑(val e))=x at t |-;rw[<-t];have H:=Q26 i;rw[H];unfold wv;cases x.Neg<;>cases u.Neg<;>simp
 rw[E,<-a7,<-l,Rat.div_def];have s:=Qty i r;rw[Qb8] at s;rw[s,wh];congr 1;rw[Int.mul_assoc,Int.mul_comm (val e:Int)]
def rv(l:List Qc):List Rat:=l.map fv
def toR(l:List Rat):List Qc:=l.map toF
theorem Jy(l:List Rat):rv (toR l)=l:=by
 unfold rv toR;rw[uw]
 conv=>rhs;rw[<-List.map_id l]
 exact wi λq _=>K5 q
theorem Yd(l:List Qc):(rv l).length=l.length:=by unfold rv;simp
theorem Q5(l:List Rat):(toR l).length=l.length:=by unfold toR;simp
def FR(k:Nat)(l:List Qc):Prop:=∀ x∈l,Fk k x
def QR(k:Nat)(l:List Rat):Prop:=∀ x∈l,qw x<=k
theorem Vo{k:Nat}{l:List Rat}(h:QR k l):FR k (toR l):=λx a=>by unfold toR at a;obtain⟨q,d,rfl⟩:=xj.1 a;exact Vn (h q d)
theorem QR_rv{k:Nat}{l:List Qc}(h:FR k l)(d:1<=k):QR k (rv l):=λx a=>by unfold rv at a;obtain⟨q,e,rfl⟩:=xj.1 a;exact qw_fv (h q e) d
theorem Qhx{j k:Nat}{l:List Qc}(h:FR j l)(hk:j<=k):FR k l:=λx a=>Z1 (h x a) hk
theorem Qy{j k:Nat}{l:List Rat}(h:QR j l)(hk:j<=k):QR k l:=λx a=>xn (h x a) hk
theorem Qxu{α:Type}{n:Nat}{a:List α}{g:α->Rat}{f:Nat->α->List Qc->Option (Lp (List Qc) (List Qc))}(_:big<=n)(j:a.length<=1000000)
 (e:∀ i x s,a[i]?=some x->f i x s=(appM 56 s [toF (g x)]).bind λy=>some (Lp.go y)):(rangeL f a 0 []).bind (lpK λs=>some s)=some (toR (a.map g)):=by
 rw[Qgd (λi=>(a.take i).map λx=>toF (g x)) a,Vy,ug];unfold toR;rw[uw];rfl;intro i x d;have:=Qaj d;rw[e i x _ d,W5 oh oh,sbind,Qi0 _ d];rfl
theorem Qut{n k:Nat}{a:List Qc}(d:big<=n)(hk:k<1099511627776)(e:FR k a)(f:a.length<=1000000):Qgx n a=some (toR (rv a)):=by unfold Qgx;refine Qxu (g:=fv) d f λi x s j=>?_;rw[Qma d (Fk_Fw (e x (Zs j)) om),sbind]
def scaleQ(c:Rat)(l:List Rat):List Rat:=l.map (c * ·)
theorem Qej{n k:Nat}{c:Qc}{a:List Qc}(d:big<=n)(e:1<=k)(hk:k<1099511627776)(j:Fk k c)(f:FR k a)(l:a.length<=1000000):Zl n c a=some (toR (scaleQ (fv c) (rv a))):=by unfold Zl;rw[Qxu (g:=λx=>fv c*fv x) d l λi x s m=>?_];unfold scaleQ rv;rw[uw];rfl;rw[Qcn d e hk j (f x (Zs m)),sbind]
theorem Qnm{j k:Nat}{c:Rat}{l:List Rat}(d:qw c<=j)(h:QR k l):QR (j+k) (scaleQ c l):=λx a=>by unfold scaleQ at a;obtain⟨q,e,rfl⟩:=xj.1 a;exact Qb2 d (h q e)
theorem Q0b{α β τ R:Type}{f:Nat->α->List β->Option (Lp (List β) τ)}{K:Lp (List β) τ->Option R}(g:α->β->β)(xs:List α)(s:List β)(h:xs.length=s.length)
 (m:∀ i x y s',xs[i]?=some x->s[i]?=some y->s'[i]?=some y->f i x s'=some (.go (s'.set i (g x y)))):(rangeL f xs 0 s).bind K=K (.go (List.zipWith g xs s)):=by
 have a:∀ i,i<=xs.length->(List.zipWith g (xs.take i) (s.take i)).length=i:=λi hi=>oh
 rw[Qgd (λi=>List.zipWith g (xs.take i) (s.take i)++s.drop i) xs];rw[ug,h,ug,List.drop_length,vo];intro i x d;have hi:=Qaj d;have e:s[i]?=some s[i]:=oo om;have q:(List.zipWith g (xs.take i) (s.take i)++s.drop i)[i]?=some s[i]:=by rw[xv (by rw[a i om];exact ol _),a i om,gf,List.getElem?_drop,xk,e]
 rw[m i x s[i] _ d e q];refine yz (λz=>some (Lp.go z)) ?_;have hd:s.drop i=s[i]::s.drop (i+1):=xz om;have j:xs.take (i+1)=xs.take i++[x]:=by rw[List.take_add_one,d];rfl
 have l:s.take (i+1)=s.take i++[s[i]]:=by rw[List.take_add_one,e];rfl
 rw[hd,List.set_append_right _ _ (by rw[a i om];exact ol _),a i om,gf,List.set_cons_zero,j,l,List.zipWith_append oh];simp;simp
def addQ(a b:List Rat):List Rat:=List.zipWith (·+·) a b
theorem Q0c{α:Type}{x:α}{l:List α}:getI (x::l) 0=some x:=rfl
theorem Qj5{n k:Nat}{a b:List Qc}(l:big<=n)(f:1<=k)(hk:k<1099511627776)(j:FR k a)(m:FR k b)(q:a.length<=1000000):
 Qdu n [a,b]=some (if a.length=b.length then (toR (addQ (rv a) (rv b)),true) else ([],false)):=by
 unfold Qdu;have r:sub [a,b] (1:Int) (([a,b]:List (List Qc)).length:Int)=some [b]:=rfl;rw[show decide ((([a,b]:List (List Qc)).length:Int)=0)=false from rfl,bifF,Q0c,sbind,Qut l hk j q,sbind,r,sbind];simp only[rangeL];rw[Q5,Yd];by_cases h:a.length=b.length;rw[oj h,ot (show(b.length:Int)=(a.length:Int) by omega),yj,bifF,Q0b (λ(x:Qc) (y:Qc)=>toF (fv y+fv x)) b (toR (rv a)) (by rw[Q5,Yd,h]),Vy,sbind];simp only[];rw[sbind,Vy];refine yz some (Prod.ext ?_ rfl);simp only[];unfold addQ toR rv;rw[List.map_zipWith,uw,List.zipWith_map_right,List.zipWith_map,List.zipWith_comm];congr 1;funext x y;simp only[Function.comp,K5];intro i x y s' s u d;have e:Fk k y:=Vo (QR_rv j f) y (Zs u);rw[Jm d,sbind,Qiz l f hk e (m x (Zs s)),sbind,sbind,yp];rw[oi h,oq (show ¬(b.length:Int)=(a.length:Int) by omega),uc,bifT,sbind];rfl
theorem Qxv{α β γ:Type}{g:α->β->γ}{P:γ->Prop}:∀ {a:List α}{b:List β},(∀ x∈a,∀ y∈b,P (g x y))->∀ z∈List.zipWith g a b,P z
 | [],_,_,z,d=>by simp at d
 | _::_,[],_,z,d=>by simp at d
 | x::a,y::b,h,z,d=>by rcases ud.1 d with rfl | d;exact h x (.head _) y (.head _);exact Qxv (λi e j f=>h i (.tail _ e) j (.tail _ f)) z d
theorem Q4w{j k:Nat}{a b:List Rat}(d:QR j a)(e:QR k b):QR (j+k+1) (addQ a b):=Qxv λx f y i=>Qj4 (d x f) (e y i)
theorem Qwd{a b:List Rat}:(addQ a b).length=min a.length b.length:=by unfold addQ;simp
theorem Qae{c:Rat}{a:List Rat}:(scaleQ c a).length=a.length:=by unfold scaleQ;simp
theorem Qc9(x m:Int):Xh x m=some (decide (0<=x/\x<m)):=by unfold Xh;simp only[jn_eq,bifd];by_cases h:0<=x;rw[oj h];simp[h];rw[oi h];simp[h]
def rdT(i:Q7):List Int:=if i.Op=6\/i.Op=11 then [i.A] else if i.Op=7\/i.Op=8\/i.Op=9\/i.Op=10 then [i.A,i.B] else []
theorem Qri(i:Q7):Qbw i=some (rdT i):=by unfold Qbw rdT;simp only[jn_eq,bifd];by_cases e:i.Op=6;simp[e];by_cases d:i.Op=11;simp[d];by_cases f:i.Op=7;simp[f];by_cases j:i.Op=8;simp[j];by_cases l:i.Op=9;simp[l];by_cases a:i.Op=10;simp[a];simp[e,f,j,l,a,d]
def TW(t:Js):Prop:=∀ c∈t.Code,Fw c.N
theorem Qwe{α:Type}{l:List α}{P:α->Prop}:(∀(i:Nat) x,l[i]?=some x->P x)↔∀ a∈l,P a:=by constructor;intro h a d;obtain⟨j,e⟩:=List.getElem?_of_mem d;exact h j a e;intro h i x f;exact h x (Zs f)
noncomputable def dP(p:Prop):Bool:=@decide p (Classical.propDecidable p)
theorem decP{p:Prop}[Decidable p]:decide p=dP p:=by unfold dP;congr
theorem dP_t{p:Prop}(h:p):dP p=true:=by unfold dP;exact @decide_eq_true p (Classical.propDecidable p) h
theorem dP_f{p:Prop}(h:¬ p):dP p=false:=by unfold dP;exact @decide_eq_false p (Classical.propDecidable p) h
theorem dP_c{p q:Prop}(h:p↔q):dP p=dP q:=by rw[show p=q from propext h]
theorem Qd0{p q:Prop}[Decidable p](h:p↔q):some (decide p)=some (dP q):=by rw[decP,dP_c h]
theorem Qxw{p q:Prop}(h:p↔q):some (dP p)=some (dP q):=by rw[dP_c h]
theorem Qpe{p q r:Prop}[Decidable p][Decidable q](h:p/\q↔r):(if p then some (decide q) else some false)=some (dP r):=by by_cases a:p;rw[oj a];exact Qd0 ⟨λe=>h.1 ⟨a,e⟩,λd=>(h.2 d).2⟩;rw[oi a,dP_f λd=>a (h.2 d).1]
theorem Q4x{p q r:Prop}[Decidable p](h:p/\q↔r):(if p then some (dP q) else some false)=some (dP r):=by by_cases a:p;rw[oj a];exact Qxw ⟨λe=>h.1 ⟨a,e⟩,λd=>(h.2 d).2⟩;rw[oi a,dP_f λd=>a (h.2 d).1]
def blankF(f:Qc):Prop:=f.Num.Neg=false/\f.Num.Gj=[]/\f.Den=[]
theorem Qrj(f:Qc):Qdt f=some (dP (blankF f)):=by unfold Qdt blankF;obtain⟨⟨s,a⟩,d⟩:=f;simp only[jn_eq];cases s;simp only[uc,bifT,bifd];refine Qpe ⟨λh=>⟨trivial,xd om,xd om⟩,λh=>?_⟩;obtain⟨_,rfl,rfl⟩:=h;exact⟨rfl,rfl⟩;simp only[yj,bifF];rw[dP_f λh=>by cases h.1]
theorem bifnP{α:Type}(p:Prop)(a b:α):(bif !dP p then a else b)=@ite _ p (Classical.propDecidable p) b a:=by by_cases h:p;rw[dP_t h,oj h];rfl;rw[dP_f h,oi h];rfl
def mayR(t:Js)(i:Nat)(x:Q7):Prop:=
 if x.Op=1 then x.A=0/\x.B=0/\x.N=toF (fv x.N) else
 blankF x.N/\(∀ r∈rdT x,0<=r/\r<(i:Int)) /\
 if x.Op=2 then x.A=0/\x.B=0 else if x.Op=3 then (0<=x.A/\x.A<t.Dim)/\x.B=0 else if x.Op=4 then (0<=x.A/\x.A<t.Par)/\x.B=0 else
 if x.Op=6 then x.B=0 else if x.Op=11 then -8<=x.B/\x.B<=8 else (rdT x).length=2
theorem Quu{n:Nat}{t:Js}{i:Nat}{x:Q7}(w:big<=n)(A:Fw x.N)(B:t.Code[i]?=some x):Qd5 n t (i:Int)=some (dP (mayR t i x)):=by
 unfold Qd5 mayR;rw[Jm B,sbind,bifd];by_cases e:x.Op=1
 have m:(if x.Op=1 then x.A=0/\x.B=0/\x.N=toF (fv x.N) else blankF x.N/\(∀ r∈rdT x,0<=r/\r<(i:Int)) /\
  if x.Op=2 then x.A=0/\x.B=0 else if x.Op=3 then (0<=x.A/\x.A<t.Dim)/\x.B=0 else if x.Op=4 then (0<=x.A/\x.A<t.Par)/\x.B=0 else
  if x.Op=6 then x.B=0 else if x.Op=11 then -8<=x.B/\x.B<=8 else (rdT x).length=2)=(x.A=0/\x.B=0/\x.N=toF (fv x.N)):=oj e
 simp only[m];rw[oj e];have v:=Qkq w A;simp only[jn_eq,Qf2,sbind];have u:Zh (⟨x.Op,x.A,x.B⟩:Jl) ⟨1,0,0⟩=decide (x.A=0/\x.B=0):=by unfold Zh;simp only[e];by_cases a:x.A=0<;>by_cases b:x.B=0<;>simp[a,b]
 rw[u,v,sbind,bifd];rw[@decP _ (Classical.propDecidable _)];refine Q4x ⟨λh=>⟨h.1.1,h.1.2,h.2⟩,λh=>⟨⟨h.1,h.2.1⟩,h.2.2⟩⟩
 have m:(if x.Op=1 then x.A=0/\x.B=0/\x.N=toF (fv x.N) else blankF x.N/\(∀ r∈rdT x,0<=r/\r<(i:Int)) /\
  if x.Op=2 then x.A=0/\x.B=0 else if x.Op=3 then (0<=x.A/\x.A<t.Dim)/\x.B=0 else if x.Op=4 then (0<=x.A/\x.A<t.Par)/\x.B=0 else
  if x.Op=6 then x.B=0 else if x.Op=11 then -8<=x.B/\x.B<=8 else (rdT x).length=2)=(blankF x.N/\(∀ r∈rdT x,0<=r/\r<(i:Int)) /\
  if x.Op=2 then x.A=0/\x.B=0 else if x.Op=3 then (0<=x.A/\x.A<t.Dim)/\x.B=0 else if x.Op=4 then (0<=x.A/\x.A<t.Par)/\x.B=0 else
  if x.Op=6 then x.B=0 else if x.Op=11 then -8<=x.B/\x.B<=8 else (rdT x).length=2):=oi e
 simp only[m];rw[oi e,Qrj,sbind,bifnP];by_cases f:blankF x.N;rw[oj f,Qri,sbind,Qtw (λ_ (r:Int)=>0<=r/\r<(i:Int)) (r:=false)];rw[Qwe];by_cases l:∀ r∈rdT x,0<=r/\r<(i:Int);rw[oj l];have fin:∀ {o:Option Bool}{p:Prop},o=some (dP p)->o=some (dP (blankF x.N/\(∀ r∈rdT x,0<=r/\r<(i:Int))/\p)):=λh=>h.trans (Qxw ⟨λg=>⟨f,l,g⟩,λg=>g.2.2⟩);refine fin ?_;simp only[jn_eq,Qf2,sbind,Qc9,bifd];by_cases q:x.Op=2;simp only[oj q];refine yz some ?_;unfold Zh;simp only[q];rw[<-decP];by_cases a:x.A=0<;>by_cases b:x.B=0<;>simp[a,b];simp only[oi q];by_cases g3:x.Op=3;simp only[oj g3];exact Qpe Iff.rfl;simp only[oi g3];by_cases g4:x.Op=4;simp only[oj g4];exact Qpe Iff.rfl;simp only[oi g4];by_cases s:x.Op=6;simp only[oj s];exact Qd0 Iff.rfl;simp only[oi s];by_cases d:x.Op=11;simp only[oj d];exact Qpe Iff.rfl;simp only[oi d];exact Qd0 om;rw[oi l,dP_f λh=>l h.2.1];intro j r _;simp only[Qc9,sbind];constructor;intro h;rw[ot h];rfl;intro h;rw[oq h];rfl;rw[oi f,dP_f λh=>f h.1]
def wholeR(t:Js):Prop:=(1<=t.Dim/\t.Dim<=6)/\(0<=t.Par/\t.Par<=6)/\(t.Outs.length:Int)=t.Dim/\t.Code.length<=300
def tapeR(t:Js):Prop:=wholeR t/\(∀(i:Nat) x,t.Code[i]?=some x->mayR t i x)/\∀ o∈t.Outs,0<=o/\o<(t.Code.length:Int)
theorem Qrk(t:Js)(h:-9223372036854775808<=t.Dim/\t.Dim<=9223372036854775807):Qds t=some (dP (wholeR t)):=by
 unfold Qds wholeR;simp only[jn_eq,Qc9,sbind,bifd];have d:(0<=wrap64 (t.Dim - 1)/\wrap64 (t.Dim - 1)<6)↔(0<=t.Dim - 1/\t.Dim - 1<6):=by unfold wrap64;omega
 by_cases g1:0<=t.Dim - 1/\t.Dim - 1<6;rw[oj (d.2 g1)];by_cases a:0<=t.Par/\t.Par<7;rw[oj a];by_cases g3:(t.Outs.length:Int)=t.Dim;rw[oj g3];exact Qd0 om;rw[oi g3,dP_f om];rw[oi a,dP_f om];rw[oi (λh=>g1 (d.1 h)),dP_f om]
theorem Qza{R:Type}{f:Nat->Q7->Unit->Option (Lp Unit R)}{K:Unit->Option R}{xs:List Q7}(P:Nat->Q7->Prop)(r:Nat->R)
 (d:∀ i x,xs[i]?=some x->(P i x->f i x ()=some (.go ()))/\(¬ P i x->f i x ()=some (.out (r i)))) :
 ((∀(i:Nat) x,xs[i]?=some x->P i x)/\(rangeL f xs 0 ()).bind (lpK K)=K ())\/(¬(∀(i:Nat) x,xs[i]?=some x->P i x)/\∃ j,(rangeL f xs 0 ()).bind (lpK K)=some (r j)):=by
 have key:∀(xs:List Q7) (k:Nat),(∀ i x,xs[i]?=some x->(P (k+i) x->f (k+i) x ()=some (.go ()))/\(¬ P (k+i) x->f (k+i) x ()=some (.out (r (k+i))))) ->
  ((∀(i:Nat) x,xs[i]?=some x->P (k+i) x)/\(rangeL f xs k ()).bind (lpK K)=K ())\/(¬(∀(i:Nat) x,xs[i]?=some x->P (k+i) x)/\∃ j,(rangeL f xs k ()).bind (lpK K)=some (r j)):=by
  intro xs
  induction xs with
  | nil=>intro k _;exact .inl ⟨λi x h=>by simp at h,rfl⟩
  | cons x xs s=>
    intro k d;have h0:=d 0 x rfl;simp only[xk] at h0;by_cases e:P k x;have:=s (k+1) (λi y a=>by have:=d (i+1) y (by simpa using a);rw[show k+(i+1)=k+1+i by omega] at this;exact this);simp only[rangeL,h0.1 e,sbind];rcases this with ⟨l,m⟩ | ⟨l,m⟩;refine .inl ⟨λi y a=>?_,m⟩;cases i with
    | zero=>simp at a;subst a;exact e
    | succ i=>rw[show k+(i+1)=k+1+i by omega];exact l i y (by simpa using a)
    refine .inr ⟨λh=>l λi y a=>?_,m⟩;have:=h (i+1) y (by simpa using a);rwa [show k+(i+1)=k+1+i by omega] at this;refine .inr ⟨λh=>e (h 0 x rfl),k,?_⟩;simp only[rangeL,h0.2 e,sbind];rfl
 have:=key xs 0 (λi x q=>by rw[xa];exact d i x q);simp only[xa] at this;exact this
theorem Qrl{n:Nat}{t:Js}(w:big<=n)(A:TW t)(hd:-9223372036854775808<=t.Dim/\t.Dim<=9223372036854775807):Qam n t=some (dP (tapeR t)):=by
 unfold Qam Qgu;rw[Qrk t hd,sbind,bifnP];by_cases e:wholeR t;rw[oj e]
 have key:=Qza (K:=λ(_:Unit)=>(rangeL (λ(_:Nat) (u:Int) (_:Unit)=>
  (Xh u (t.Code.length:Int)).bind λs=>
  bif !s then (
   some (Lp.out ((t.Code.length:Int))))
  else (
   some (Lp.go ()))) t.Outs 0 ()).bind (lpK λ(_:Unit)=>
 some (-1:Int))) (f:=λ(a:Nat) (_:Q7) (_:Unit)=>
  (Qd5 n t (a:Int)).bind λq=>
  bif !q then (
   some (Lp.out ((a:Int))))
  else (
   some (Lp.go ()))) (xs:=t.Code) (λi x=>mayR t i x) (λi=>(i:Int)) (λi x v=>by
  rw[Quu w (A x (Zs v)) v,sbind];constructor;intro h;rw[dP_t h];rfl
  intro h;rw[dP_f h];rfl)
 rcases key with ⟨l,m⟩ | ⟨l,j,m⟩;rw[m,Qtw (λ_ (o:Int)=>0<=o/\o<(t.Code.length:Int)) (r:=(t.Code.length:Int))];rw[Qwe];by_cases d:∀ o∈t.Outs,0<=o/\o<(t.Code.length:Int);rw[oj d,sbind];exact Qd0 ⟨λ_=>⟨e,l,d⟩,λ_=>rfl⟩;rw[oi d,sbind];exact Qd0 ⟨λh=>om,λh=>absurd h.2.2 d⟩;intro i o _;simp only[Qc9,sbind];constructor;intro h;rw[ot h];rfl;intro h;rw[oq h];rfl;rw[m,sbind];exact Qd0 ⟨λh=>om,λh=>absurd h.2.1 l⟩;rw[oi e,sbind];exact Qd0 ⟨λh=>om,λh=>absurd h.1 e⟩
theorem Jf{k:Nat}{l:List Rat}{i:Nat}(h:QR k l)(a:1<=k):qw (l.getD i 0)<=k:=by rw[ov];rcases xx i l.length with hi | hi;rw[oo hi];exact h _ (ve hi);rw[ou hi];show qw 0<=k;rw[Qaz];exact a
def digB(c:Nat):Bool:=decide (48<=c/\c<=57)
def letB(c:Nat):Bool:=decide (97<=c/\c<=122\/65<=c/\c<=90\/c=95)
def sgnL:List UInt8:=[43,45,42,47,94,40,41,91,93,44,59,61]
def sgnB(c:Nat):Bool:=sgnL.any (λx=>x.toNat=c)
def kindC(c:Nat):Int:=if digB c then 1 else if letB c then 2 else if sgnB c then 3 else 0
def goC(k:Int)(c:Nat):Bool:=(decide (k=1) && digB c) || (decide (k=2) && (letB c || digB c))
def mostC(k:Int):Nat:=if k=1 then 60 else if k=2 then 12 else 1
def wdB(k:Int):List UInt8->Bool
 | []=>false
 | c::r=>decide (k≠0) && (decide (kindC c.toNat=k) && (r.all (λb=>goC k b.toNat) && decide (r.length+1<=mostC k)))
structure Q4y(n k:Nat)(t:Js):Prop where
 r:tapeR t
 h:Qam n t=some true
 w:∀ c∈t.Code,Fk k c.N
def sumQ(l:List Rat):Rat:=l.foldl (λo x=>o+x) 0
def numR(x:Qc):Prop:=x=toF (fv x)/\qz (fv x)<=190
def shapeR(s:Qr):Prop:=(1<=s.B.length/\s.B.length<=8)/\s.C.length=s.B.length/\s.A.length=s.B.length/\(s.E.length=s.B.length\/s.E.length=0)/\∀(i:Nat) r,s.A[i]?=some r->r.length=i
structure SchW(k:Nat)(s:Qr):Prop where
 a:∀ r∈s.A,FR k r
 b:FR k s.B
 c:FR k s.C
 e:FR k s.E
 n:s.Name.length<=4611686018427387904
def rowsR(s:Qr):Prop:=∀(i:Nat) r,s.A[i]?=some r->sumQ (rv r)=fv (s.C.getD i ⟨⟨false,[]⟩,[]⟩)
def schR(s:Qr):Prop:=wdB 2 s.Name=true/\shapeR s/\((∀ r∈s.A,∀ x∈r,numR x)/\∀ r∈[s.B,s.C,s.E],∀ x∈r,numR x)/\rowsR s/\sumQ (rv s.B)=1/\(s.E≠[]->sumQ (rv s.E)=1)
section
variable {n k:Nat}{p:J9}{t h:Qc}{y:List Qc}{g:Qub}{ys ks:List (List Qc)}{nx er:List Qc}
structure PrbOK(n k:Nat)(p:J9)(t h:Qc)(y:List Qc):Prop where
 tp:Q4y n k p.Tape
 sw:SchW k p.Scheme
 sr:schR p.Scheme
 pk:FR k p.P
 pl:(p.P.length:Int)=p.Tape.Par
 tk:Fk k t
 hk:Fk k h
 yk:FR k y
 yl:(y.length:Int)=p.Tape.Dim
end
theorem Qkr(f:Qa)(k:Nat):Wo f (k:Int)=some (!decide (f.N.length<=k/\f.D.length<=k)):=by unfold Wo;simp only[jn_eq,bifd];by_cases h:(k:Int)<(f.N.length:Int);rw[oj h,oq om];rfl;rw[oi h];by_cases g:(k:Int)<(f.D.length:Int);rw[ot g,oq om];rfl;rw[oq g,ot om];rfl
def tF(x:Qa):Qc:=⟨⟨x.Neg,x.N⟩,x.D⟩
theorem Qa0{n:Nat}{l:List Qa}(d:big<=n)(e:l.length<=1000000):J6 n l=some (l.map tF):=by unfold J6;rw[Yk (λi=>((l.take i).map tF,(i:Int))) l.length (l.map tF)];intro i hi;have a:l[i]?=some l[i]:=oo hi;generalize l[i]=p at a;simp only[bifd,J5,sbind];rw[oj om,Jm a,sbind,W5 oh oh,sbind,w1 om,Qi0 tF a];rfl;simp only[bifd];rw[oi om,ug];unfold big at d;omega;rfl
def FL(many k:Nat)(l:List Qa):Prop:=l.length<=many/\∀ x∈l,x.N.length<=k/\x.D.length<=k
theorem Z2{n:Nat}{l:List Qa}{many k:Nat}(j:big<=n)(m:many<=1000000):∃ v,J0 n l (many:Int) (k:Int)=some v/\(v=false->FL many k l):=by unfold J0;rw[Qwb (λi=>∀ c,l[i]?=some c->c.N.length<=k/\c.D.length<=k) (min l.length many) (r:=true)];by_cases h:∀ i,i<min l.length many->∀ c,l[i]?=some c->c.N.length<=k/\c.D.length<=k;rw[oj h];refine⟨_,rfl,λe=>⟨by have:=of_decide_eq_false e;omega,λc f=>?_⟩⟩;have:=of_decide_eq_false e;obtain⟨i,hi⟩:=List.getElem?_of_mem f;exact h i (by have:=Qaj hi;omega) c hi;rw[oi h];exact⟨true,rfl,λh=>by cases h⟩;intro i hi;have a:l[i]?=some l[i]:=oo om;generalize l[i]=c at a;simp only[jn_eq,bifd];rw[oj om,oj om,Jm a,sbind,Qkr,sbind];by_cases h:c.N.length<=k/\c.D.length<=k;rw[ot h,yj,bifF,w1 om];exact⟨λ_=>rfl,λg=>absurd (λd hd=>by rw[a] at hd;cases hd;exact h) g⟩;rw[oq h,uc,bifT];exact⟨λg=>absurd (g c a) h,λ_=>rfl⟩;simp only[jn_eq,bifd];by_cases h:min l.length many<l.length;rw[oj om,oi om];rw[oi om,bifF];unfold big at j;omega
structure PrbW(k:Nat)(p:J9):Prop where
 t:∀ c∈p.Tape.Code,Fk k c.N
 d:-9223372036854775808<=p.Tape.Dim/\p.Tape.Dim<=9223372036854775807
 s:SchW k p.Scheme
 p:FR k p.P
def prbR(p:J9):Prop:=tapeR p.Tape/\schR p.Scheme/\(p.P.length:Int)=p.Tape.Par
theorem PrbW.tw{k:Nat}{p:J9}(h:PrbW k p)(hk:k<1048576):TW p.Tape:=λc a=>Fk_Fw (h.t c a) om
theorem PrbW.ok{n k:Nat}{p:J9}{t h:Qc}{y:List Qc}(a:PrbW k p)(i:big<=n)(hk:k<8000)(d:prbR p)(j:Fk k t)(e:Fk k h)(l:FR k y)(f:(y.length:Int)=p.Tape.Dim):PrbOK n k p t h y:=
 ⟨⟨d.1,by rw[Qrl i (a.tw om) a.d,dP_t d.1],a.t⟩,a.s,d.2.1,a.p,d.2.2,j,e,l,f⟩
set_option maxRecDepth 100000
def turnQ(a q:Rat)(e:Int):Rat:=if 0<e then a ^ (e - 1) else if e<0 then q / a else 0
theorem Xw:qw 1=1:=by unfold qw;rw[show(1:Rat).num=1 from rfl,show(1:Rat).den=1 from rfl,show(1:Int).natAbs=1 from rfl,toL1];rfl
set_option maxRecDepth 100000
theorem PrbW.mono{j k:Nat}{p:J9}(h:PrbW j p)(hk:j<=k):PrbW k p:=
 ⟨λc a=>Z1 (h.t c a) hk,h.d,⟨λr d=>Qhx (h.s.a r d) hk,Qhx h.s.b hk,Qhx h.s.c hk,Qhx h.s.e hk,h.s.n⟩,Qhx h.p hk⟩
def padL(l:Nat)(a:List Nat):List Nat:=a++List.replicate (l - a.length) 0
theorem Qwf{l:Nat}{a:List Nat}(h:a.length<=l):(padL l a).length=l:=by unfold padL;simp;omega
theorem Qwg(l:Nat)(a:List Nat):val (padL l a)=val a:=by unfold padL;rw[Vc,Qbl];simp
theorem Qxx{l:Nat}{a:List Nat}(h:Wd a):Wd (padL l a):=Q2.2 ⟨h,Qg8 om⟩
theorem Qwh{l:Nat}{a:List Nat}{j:Nat}(h:j<(padL l a).length):(padL l a)[j]=a.getD j 0:=by unfold padL at h |-;by_cases d:j<a.length;rw[List.getElem_append_left d];simp[d];rw[List.getElem_append_right om,List.getElem_replicate];simp[ou (show a.length<=j by omega)]
theorem Qhy{n:Nat}{a b:List Nat}(w:big<=n)(B:a.length<=4611686018427387904)(C:b.length<=4611686018427387904)(q:Wd a)(r:Wd b):V5 n a b=some (cmpI (val a) (val b)):=by
 unfold V5;obtain⟨l,E⟩:∃ l:Nat,l=max a.length b.length:=⟨_,rfl⟩
 have e:max (a.length:Int) (b.length:Int)=(l:Int):=om
 have la:=Qwf (l:=l) (a:=a) om;have lb:=Qwf (l:=l) (a:=b) om;have x:=Qxx (l:=l) q;have A:=Qxx (l:=l) r;have u:∀ j (h:j<(padL l a).length),(padL l a)[j]=a.getD j 0:=λj h=>Qwh h;have v:∀ j (h:j<(padL l b).length),(padL l b)[j]=b.getD j 0:=λj h=>Qwh h;rw[e,<-Qwg l a,<-Qwg l b];generalize padL l a=a' at *;generalize padL l b=b' at *;unfold big at w;rw[w64 om om];refine Xy (λs=>(s+1).toNat) (λs=>∃ k:Nat,s=(k:Int) - 1/\k<=l/\a'.drop k=b'.drop k) (λt=>(t=.go ()/\a'=b')\/(t=.out (-1)/\val a'<val b')\/(t=.out 1/\val b'<val a')) ⟨l,rfl,ol _,by rw[xe om,xe om]⟩ om ?_ ?_;rintro s ⟨k,rfl,hk,i⟩;simp only[bifd];by_cases h0:0<k;obtain⟨j,rfl⟩:∃ j,k=j+1:=⟨k - 1,om⟩
 have f:j<a'.length:=om
 have d:j<b'.length:=om
 rw[oj om,show((j+1:Nat):Int) - 1=(j:Nat) by omega,Z4,sbind,Z4,sbind,<-u j f,<-v j d];by_cases g1:a'[j]<b'[j];right;rw[oj g1];exact⟨_,rfl,.inr (.inl ⟨rfl,Qpd x f d i g1⟩)⟩;rw[oi g1];by_cases m:b'[j]<a'[j];right;rw[oj m];exact⟨_,rfl,.inr (.inr ⟨rfl,Qpd A d f i.symm m⟩)⟩;left;rw[oi m,w64 om om];refine⟨_,rfl,⟨j,rfl,om,?_⟩,om⟩;rw[xz f,xz d,i,show a'[j]=b'[j] by omega];right;obtain rfl:k=0:=om
 rw[oi om];exact⟨_,rfl,.inl ⟨rfl,by simpa using i⟩⟩;rintro t (⟨rfl,h⟩ | ⟨rfl,h⟩ | ⟨rfl,h⟩);rw[Vy,h];simp[cmpI];rw[Qc3,cmpI,oj h];rw[Qc3,cmpI,oi om,oj h]
theorem Qwi{x y c:Nat}(f:x<4294967296)(i:y<4294967296)(e:c<=1):∃ d a,d<4294967296/\a<=1/\d+y+c=x+4294967296*a /\
 ∀ {R:Type}(k:Nat×Nat->R),(if x<(y+c)%18446744073709551616 then k (1,(x+4294967296)%18446744073709551616) else k (0,x))=k (a,x+4294967296*a)/\(x+4294967296*a+18446744073709551616 - (y+c)%18446744073709551616)%18446744073709551616%4294967296=d:=by
 rw[xb (show y+c<18446744073709551616 by omega)];by_cases h:x<y+c;exact⟨x+4294967296 - (y+c),1,om,om,om,λk=>⟨by rw[oj h,xb om],om⟩⟩;exact⟨x - (y+c),0,om,om,om,λk=>⟨by rw[oi h];rfl,om⟩⟩
theorem Qtz{P s o d e:Nat}(h:o+e=d+P*s)(f:e<=d)(i:o<P):s=0:=by rcases gm s with a | a;exact a;exfalso;have:P*1<=P*s:=ym _ a;omega
theorem Qmd{n:Nat}{a b:List Nat}(F:big<=n)(O:a.length<35184372088000)(P:b.length<35184372088000)(A:Wd a)(B:Wd b)(x:val b<=val a):Vd n a b=some (toL (val a - val b)):=by
 unfold Vd;unfold big at F;obtain⟨l,Q⟩:∃ l:Nat,l=max a.length b.length:=⟨_,rfl⟩
 have m:max (a.length:Int) (b.length:Int)=(l:Int):=om
 rw[m,Qba om om,sbind]
 refine Xy (λs=>l - s.2.2.toNat) (λs=>∃(k:Nat) (o:List Nat),s.2.2=k/\k<=l/\s.1=o++List.replicate (l - k) 0/\o.length=k/\Wd o/\s.2.1<=1/\val o+val (b.take k)=val (a.take k)+bp k*s.2.1)
  (λt=>t.length=l/\Wd t/\val t=val a - val b) ⟨0,[],rfl,om,oc,rfl,Jr,oc,by simp[val,Xc]⟩ (by simp only[];omega) ?_ ?_
 rintro⟨q,s,i⟩ ⟨k,o,v,C,u,e,w,E,f⟩;simp only at v u E f;subst v u;simp only[sbind,bifd,jn_eq];by_cases hk:k<l;left;have L:=Qef A k;have M:=Qef B k;obtain⟨d,N,g1,G,g3,g4⟩:=Qwi L M E;rw[oj om,Z4,sbind,Z4,sbind];have H:=(g4 (λr:Nat×Nat=>(getI (o++List.replicate (l - k) 0) (k:Int)).bind λ_=>some (Lp.go (σ:=List Nat×Nat×Int) (τ:=List Nat) ((o++List.replicate (l - k) 0).set (Int.toNat (k:Int)) ((r.2+18446744073709551616 - (b.getD k 0+s)%18446744073709551616)%18446744073709551616%4294967296),r.1,wrap64 ((k:Int)+1))))).1;have I:=(g4 (λ_=>())).2;rw[H];simp only[];rw[I];obtain⟨j,K⟩:∃ j,l - k=j+1:=⟨l - k - 1,om⟩
 rw[K,uh,J8 e,sbind,Vt e,w64 om om];refine⟨_,rfl,⟨k+1,o++[d],by simp only[];omega,om,?_,by simp[e],Q2.2 ⟨w,Q6.2 ⟨g1,Jr⟩⟩,G,?_⟩,by simp only[];omega⟩;simp only[];rw[show l - (k+1)=j by omega];simp;simp only[];rw[K9,K9,Jh,e,Jz];exact Qqg _ _ _ _ _ _ _ _ _ g3 f;right;obtain rfl:k=l:=om
 rw[oi om];refine⟨_,rfl,by simp[e],by simpa using w,?_⟩;rw[xr om,xr om] at f;have J:s=0:=Qtz f x (by rw[<-e];exact Vk w);rw[J,yu,xk] at f;simp only[gf,List.replicate_zero,vo];omega;rintro t ⟨v,C,u⟩;rw[K8 (by unfold big;exact F) om,sbind,<-Ja C,u]
theorem Qhz{k l:Nat}(h:k<l):grd (winS (k:Int) l)=some ():=grd_t (by unfold winS;simp;omega)
theorem Qks{n:Nat}{p a q b:List Nat}(J:big<=n)(O:p.length+a.length+q.length<35184372088000)(N:b.length<=a.length)(C:Wd a)(E:Wd b)(B:val b<=val a):
 ∃ r,K3 n (p++a++q) p.length a.length b=some (p++r++q)/\r.length=a.length/\Wd r/\val r=val a - val b:=by
 have key:∃ r,K3 n (p++a++q) p.length a.length b=some r/\∃ l,r=p++l++q/\l.length=a.length/\Wd l/\val l=val a - val b:=by
  unfold K3;unfold big at J
  refine Qac (λs=>a.length - s.2.2.toNat) (λs=>∃(k:Nat) (o:List Nat),s.2.2=k/\k<=a.length/\s.1=p++o++(a.drop k++q)/\o.length=k/\Wd o/\s.2.1<=1/\val o+val (b.take k)=val (a.take k)+bp k*s.2.1)
   (λt=>∃ o,t=p++o++q/\o.length=a.length/\Wd o/\val o=val a - val b) ⟨0,[],rfl,om,oc,rfl,Jr,oc,by simp[val,Xc]⟩ (by simp only[];omega) ?_ ?_
  rintro⟨w,s,i⟩ ⟨k,o,e,x,f,j,m,F,u⟩;simp only at e f F u;subst e f;simp only[sbind,bifd,jn_eq];by_cases hk:k<a.length;left;have K:=Xj C hk;have L:=Qef E k;obtain⟨d,M,g1,G,g3,g4⟩:=Qwi K L F;rw[oj om,Qhz hk,sbind,show((p.length:Int)+(k:Int))=((p.length+k:Nat):Int) by omega,xz hk,yn,J8 oh,sbind,Z4,sbind];have A:=(g4 (λv:Nat×Nat=>(getI (p++o++a[k]::(a.drop (k+1)++q)) ((p.length+k:Nat):Int)).bind λ_=>some (Lp.go (σ:=List Nat×Nat×Int) (τ:=List Nat) ((p++o++a[k]::(a.drop (k+1)++q)).set (Int.toNat ((p.length+k:Nat):Int)) ((v.2+18446744073709551616 - (b.getD k 0+s)%18446744073709551616)%18446744073709551616%4294967296),v.1,wrap64 ((k:Int)+1))))).1;have H:=(g4 (λ_=>())).2;rw[J8 oh] at A;simp only[sbind] at A |-;rw[A,H,Vt oh,w64 om om];refine⟨_,rfl,⟨k+1,o++[d],by simp only[];omega,om,oc,by simp[j],Q2.2 ⟨m,Q6.2 ⟨g1,Jr⟩⟩,G,?_⟩,by simp only[];omega⟩;simp only[];rw[K9,Jq hk,Jh,Jh,xo,xf om,j,Jz];exact Qqg _ _ _ _ _ _ _ _ _ g3 u;right;obtain rfl:k=a.length:=om
  rw[oi om];refine⟨_,rfl,o,oc,j,m,?_⟩;rw[xr om,xr om] at u;have I:s=0:=Qtz u B (by rw[<-j];exact Vk m);rw[I,yu,xk] at u;omega;rintro t ⟨o,rfl,e,x,f⟩;exact⟨_,rfl,o,rfl,e,x,f⟩
 obtain⟨r,e,l,x,f,j,m⟩:=key;exact⟨l,by rw[e,x],f,j,m⟩
theorem Q1t(P y c a d V A m:Nat)(e:d+4294967296*a=2*y+c)(h:V+P*c=2*A+m):V+P*d+P*4294967296*a=2*(A+P*y)+m:=by grind
theorem Qi4{n:Nat}{a:List Nat}{b:Bool}(B:big<=n)(C:a.length<35184372088000)(u:Wd a):
 ∃ r c,Va n a b=some r/\r.length=a.length/\Wd r/\val r+bp a.length*c=2*val a+b.toNat:=by
 have key:∃ r,Va n a b=some r/\∃ c,r.length=a.length/\Wd r/\val r+bp a.length*c=2*val a+b.toNat:=by
  unfold Va;unfold big at B;have e:∀ k:Nat->Option (List Nat),jn (λ(x:(Nat)->Option _)=>bif b then (x 1) else (x 0)) k=k b.toNat:=by intro k;cases b<;>rfl
  rw[e]
  refine Qac (λs=>a.length - s.2.2.toNat) (λs=>∃(k:Nat) (o:List Nat),s.2.2=k/\k<=a.length/\s.1=o++a.drop k/\o.length=k/\Wd o/\s.2.1<=1/\val o+bp k*s.2.1=2*val (a.take k)+b.toNat)
   (λt=>∃ c,t.length=a.length/\Wd t/\val t+bp a.length*c=2*val a+b.toNat) ⟨0,[],rfl,om,oc,rfl,Jr,by simp only[];cases b<;>decide,by simp[val,Xc]⟩ (by simp only[];omega) ?_ ?_
  rintro⟨w,s,i⟩ ⟨k,o,d,j,l,m,v,A,q⟩;simp only at d l A q;subst d l;simp only[sbind,bifd];have f:(o++a.drop k).length=a.length:=oh
  by_cases hk:k<a.length;left;have E:=Xj u hk;rw[oj (by rw[f];omega),xz hk,J8 m,sbind,sbind,sbind,Vt m,w64 om om];refine⟨_,rfl,⟨k+1,o++[(a[k]*2%4294967296+s)%4294967296],by simp only[];omega,om,oc,by simp[m],Q2.2 ⟨v,Q6.2 ⟨om,Jr⟩⟩,by simp only[];omega,?_⟩,by simp only[];omega⟩;simp only[];rw[Jq hk,Jh,Jh,xo,xf om,m,Jz];exact Q1t _ _ _ _ _ _ _ _ om q;right;obtain rfl:k=a.length:=om
  rw[oi (by rw[f];omega)];rw[xr om] at q;exact⟨_,rfl,s,oh,by simpa using v,by simpa using q⟩;rintro t ⟨c,d,j,l⟩;exact⟨_,rfl,c,d,j,l⟩
 obtain⟨r,d,c,j⟩:=key;exact⟨r,c,d,j⟩
theorem Q1u(w t r:Nat)(a:r<32):(w+4294967296*t) / 2 ^ r%2=w / 2 ^ r%2:=by
 have e:(4294967296:Nat)=2 ^ r*(2*2 ^ (31 - r)):=by rw[<-xt,uz (2 ^ r) 2,xt,<-uq,show r+(31 - r)=31 by omega]
 rw[e,xt,Nat.add_mul_div_left _ _ (yf r),xt 2,Nat.add_mul_mod_self_left]
theorem Qxy{a:List Nat}(e:Wd a)(q r:Nat)(d:r<32):val a / 2 ^ (32*q+r)%2=a.getD q 0 / 2 ^ r%2:=by rw[uq,<-Qg9,<-ut,Qkm e];by_cases h:q<a.length;rw[xz h];simp only[val];rw[Q1u _ _ _ d];simp[h];rw[xe om];simp[val,ou (show a.length<=q by omega)]
theorem Qst{n i:Nat}{a:List Nat}(f:big<=n)(hi:i<4611686018427387904)(j:Wd a):Ym n a (i:Int)=some (decide (val a / 2 ^ i%2=1)):=by unfold Ym;have hd:Int.tdiv (i:Int) 32=((i / 32:Nat):Int):=rfl;have e:Int.tmod (i:Int) 32=((i%32:Nat):Int):=rfl;have d:=Qxy j (i / 32) (i%32) (yh _ oz);rw[show 32*(i / 32)+i%32=i by omega] at d;rw[hd,e,w64 om om,d];simp only[jn_eq,bifd];rw[oi om];by_cases h:i / 32<a.length;rw[oi om,Za h,sbind];rw[Yk (λk=>(a[i / 32] / 2 ^ k,(k:Int))) (i%32) (a[i / 32] / 2 ^ (i%32))];simp[h];intro k hk;simp only[];rw[oj om,ut,<-vh,w1 om];simp only[];rw[oi om];unfold big at f;omega;simp;rw[oj om];simp[ou (show a.length<=i / 32 by omega)]
theorem Qsu{n:Nat}{a:List Nat}(f:big<=n)(r:a.length<35184372088000)(i:Wd a):Yn n a=some (blen (val a):Int):=by
 unfold Yn;rw[w64 om om];have h0:val a<2 ^ (32*a.length):=by rw[<-Qg9];exact Vk i
 refine Xy (λs=>s.toNat) (λs=>∃ k:Nat,s=k/\k<=32*a.length/\val a<2 ^ k) (λt=>t=(blen (val a):Int)) ⟨32*a.length,om,ol _,h0⟩ (by unfold big at f;omega) ?_ ?_;rintro s ⟨k,rfl,hk,e⟩;simp only[jn_eq,bifd];by_cases h:0<k;obtain⟨j,rfl⟩:∃ j,k=j+1:=⟨k - 1,om⟩
 rw[oj om,w64 om om,show((j+1:Nat):Int) - 1=(j:Nat) by omega,Qst f om i,sbind];by_cases d:val a / 2 ^ j%2=1;right;rw[ot d,yj,bifF];refine⟨_,rfl,?_⟩;have l:2 ^ j<=val a:=by rcases xx (val a) (2 ^ j) with g | g;rw[vi g] at d;cases d;exact g
 rw[Qsk l e];left;rw[oq d,uc,bifT];refine⟨_,rfl,⟨j,rfl,om,?_⟩,om⟩;have m:val a / 2 ^ j<2:=wz (by rw[<-vh];exact e);have q:val a / 2 ^ j=0:=by clear e h0;generalize val a / 2 ^ j=z at *;omega
 rcases xx (val a) (2 ^ j) with g | g;exact g;have:=Nat.div_pos g (yf j);omega;right;obtain rfl:k=0:=om
 rw[oi om,bifF];refine⟨_,rfl,?_⟩;have:val a=0:=by simpa using e
 rw[this,Qdz];rintro t rfl;rfl
theorem Qt0{P c x:Nat}(h:P*c<=x)(d:x<P):c=0:=by rcases gm c with a | a;exact a;exfalso;have:P*1<=P*c:=ym _ a;omega
theorem Q1v(x j:Nat):x / 2 ^ j=2*(x / 2 ^ (j+1))+x / 2 ^ j%2:=by rw[vh,<-ut];generalize x / 2 ^ j=z;omega
theorem Q0d{a b q r:Nat}(h:a=q*b+r)(d:r<b):q=a / b/\r=a%b:=by
 have h0:0<b:=om
 rw[h,uz q b,Nat.mul_add_div h0,Nat.mul_add_mod,vi d,xb d];exact⟨om,rfl⟩
theorem Q0e{A a q q2 r d b t:Nat}(e:A=2*a+t)(h:a=q*b+r)(f:q2=2*q)(i:d=2*r+t):A=q2*b+d:=by subst f i;grind
theorem Q0f{A i q q2 j r a f b t:Nat}(e:A=2*i+t)(h:i=q*b+r)(l:q2=2*q)(s:a=2*r+t)(m:j=q2+1)(u:f=a - b)(v:b<=a):A=j*b+f:=by
 obtain⟨d,rfl⟩:∃ d,a=b+d:=⟨a - b,om⟩
 have:f=d:=om
 subst this m l;grind
theorem Qxz{x y:Nat}:0<=cmpI x y↔y<=x:=by unfold cmpI;split;constructor<;>intro h<;>omega;split<;>constructor<;>intro h<;>omega
theorem Qwj{k:Nat}(h:k<32):(1*2 ^ min (Int.toNat (k:Int)) 32)%4294967296=2 ^ k:=by rw[yp,xf om,wt];exact xb (xc (Nat.pow_lt_pow_right oz h) oz)
theorem Qn2{a:List Nat}(f:Wd a):blen (val a)<=32*a.length:=by by_cases h:val a=0;rw[h,Qdz];omega;have e:=Qjk h;have d:=Vk f;rw[Qg9] at d;have i:=(gg (show 1<2 by decide)).1 (xu e d);omega
theorem Qsv{n:Nat}{a b:List Nat}(l:big<=n)(ha:a.length<35184372087990)(hb:b.length<35184372087990)(e:Wd a)(u:Wd b)(h0:val b≠0):
 Yo n a b=some (toL (val a / val b),toL (val a%val b)):=by
 unfold Yo;have Z:=Qn2 e;have Y:=Vk u;have hva:=Vk e;rw[w64 (x:=(b.length:Int)+1) om om,show((b.length:Int)+1)=((b.length+1:Nat):Int) by omega,Qba om om,sbind,Qba om om,sbind,Qsu l om e,sbind,w64 om om]
 refine Xy (λs=>(s.2.2+1).toNat) (λs=>∃ k:Nat,s.2.2=(k:Int) - 1/\k<=blen (val a)/\s.1.length=a.length/\s.2.1.length=b.length+1/\Wd s.1/\Wd s.2.1/\val s.2.1<val b/\val a / 2 ^ k=val s.1*val b+val s.2.1)
  (λt=>t.1.length=a.length/\t.2.length=b.length+1/\Wd t.1/\Wd t.2/\val t.2<val b/\val a=val t.1*val b+val t.2) ⟨blen (val a),rfl,ol _,oc,oc,Qg8 oz,Qg8 oz,by simp only[];rw[Qbl];omega,by simp only[];rw[Qbl,Qbl,vi Ql7];simp⟩ (by simp only[];unfold big at l;omega) ?_ ?_
 rintro⟨q,r,i⟩ ⟨k,J,N,m,w,B,C,O,F⟩;simp only at J m w B C O F;subst J;simp only[jn_eq,sbind];by_cases hk:0<k;left;obtain⟨j,rfl⟩:∃ j,k=j+1:=⟨k - 1,om⟩
 have hd:Int.tdiv (j:Int) 32=((j / 32:Nat):Int):=rfl;have hm:Int.tmod (j:Int) 32=((j%32:Nat):Int):=rfl;have S:j / 32<a.length:=om
 have hp:(1*2 ^ min (Int.toNat ((j%32:Nat):Int)) 32)%4294967296=2 ^ (j%32):=Qwj (yh _ oz);have f:=Qxy e (j / 32) (j%32) (yh _ oz);rw[show 32*(j / 32)+j%32=j by omega,show a.getD (j / 32) 0=a[j / 32] by simp[S]] at f;have hp0:0<2 ^ (j%32):=yf _;obtain⟨U,c1,W,d2,K,E⟩:=Qi4 (b:=decide (a[j / 32] / 2 ^ (j%32)%2=1)) l (show r.length<35184372088000 by omega) C;obtain⟨q2,V,L,I,M,v⟩:=Qi4 (b:=false) l (show q.length<35184372088000 by omega) B;have G:=Q1v (val a) j;have ht:(decide (a[j / 32] / 2 ^ (j%32)%2=1)).toNat=val a / 2 ^ j%2:=by
  rw[f];generalize a[j / 32] / 2 ^ (j%32)=z;by_cases g:z%2=1;rw[ot g,g];rfl;rw[oq g];simp only[Bool.toNat_false];omega
 rw[ht] at E;have ht2:val a / 2 ^ j%2<2:=yh _ oz;have R:val a / 2 ^ j<=val a:=gn _ _;generalize Q:val a / 2 ^ j=A at *;generalize X:val a / 2 ^ (j+1)=A2 at *;generalize A%2=t at *;have hqb:val q<=val q*val b:=Nat.le_mul_of_pos_right _ om;have c1z:c1=0:=by rw[w,Jz] at E;refine Qt0 (P:=bp b.length*4294967296) (x:=2*val r+t) om ?_;omega
 have c2z:V=0:=by rw[m] at v;refine Qt0 (P:=bp a.length) (x:=2*val q+0) (by simp only[Bool.toNat_false] at v;omega) om
 subst c1z c2z;simp only[yu,xk,Bool.toNat_false] at E v;simp only[show((j+1:Nat):Int) - 1=(j:Nat) by omega,hd,hm,w64 (x:=((j / 32:Nat):Int)) om om,hp];rw[ot (show(0:Int)<=(j:Int) by omega),bifT,Za S,sbind,grd_t (ot (vv _)),sbind,grd_t (bne_iff_ne.2 om),sbind,W,sbind,L,sbind,Qhy l om om K u,sbind,bifd];by_cases d:val b<=val U;rw[oj (Qxz.2 d)];obtain⟨r3,T,l2,l3,l4⟩:=Qks (p:=[]) (q:=[]) l oh (show b.length<=U.length by omega) K u d;simp only[ya,vo,gr] at T;rw[T,sbind];cases q2 with
 | nil=>simp at I;omega
 | cons x H=>
   obtain⟨x1,x2⟩:=Q6.1 M;have hv:val (x::H)=x+4294967296*val H:=rfl;rw[hv] at v;rw[show getI (x::H) 0=some x from rfl,sbind,sbind,show(x::H).set (Int.toNat 0) ((x+1)%4294967296)=(x+1)%4294967296::H from rfl,w64 om om];have hx:(x+1)%4294967296=x+1:=om
   rw[hx];refine⟨_,rfl,⟨j,rfl,om,by simpa [m] using I,by simp only[];omega,Q6.2 ⟨om,x2⟩,l3,by simp only[];omega,?_⟩,by simp only[];omega⟩;simp only[];rw[Q];exact Q0f G F v E (by simp only[val];omega) l4 d
 rw[oi (λh=>d (Qxz.1 h)),w64 om om];refine⟨_,rfl,⟨j,rfl,om,by simp only[];omega,by simp only[];omega,M,K,by simp only[];omega,?_⟩,by simp only[];omega⟩;simp only[];rw[Q];exact Q0e G F v E;right;obtain rfl:k=0:=om
 rw[oq om,bifF];rw[Nat.pow_zero,Nat.div_one] at F;exact⟨_,rfl,m,w,B,C,O,F⟩;rintro⟨q,r⟩ ⟨J,N,m,w,B,C⟩;simp only at J N m w B C;obtain⟨L,I⟩:=Q0d C B;simp only[];rw[K8 l om,sbind,K8 l om,sbind,<-Ja m,<-Ja w,<-L,<-I]
theorem Q1w{x c y:Nat}(h:x=2 ^ c*y)(a:y%2=0):x=2 ^ (c+1)*(y / 2):=by rw[vh,xt,h];congr 1;omega
theorem Q0g{x c y k:Nat}(h:x=2 ^ c*y)(h0:y≠0)(d:x<2 ^ k):c<k:=by have a:2 ^ c*1<=2 ^ c*y:=ym _ om;exact(gg (show 1<2 by decide)).1 (show 2 ^ c<2 ^ k by omega)
theorem Qqi{n x:Nat}(m:big<=n)(h0:x≠0)(q:x<4294967296):∃ z o:Nat,Wh n x=some (z:Int)/\z<32/\x=2 ^ z*o/\o%2=1:=by
 have f:x<2 ^ 32:=q;have key:∃ r:Int,Wh n x=some r/\∃ z o:Nat,r=z/\z<32/\x=2 ^ z*o/\o%2=1:=by unfold Wh;rw[bifd,oi h0];refine Qac (λs=>s.1) (λs=>∃ c:Nat,s.2=c/\x=2 ^ c*s.1/\s.1≠0) (λt=>∃ z o:Nat,t=z/\z<32/\x=2 ^ z*o/\o%2=1) ⟨0,rfl,oc,h0⟩ (by simp only[];unfold big at m;omega) ?_ ?_;rintro⟨y,i⟩ ⟨c,d,a,e⟩;simp only at d a e;subst d;have l:=Q0g a e f;simp only[bifd];by_cases h:y%2=0;left;rw[oj h,w1 om];exact⟨_,rfl,⟨c+1,rfl,Q1w a h,by simp only[];omega⟩,by simp only[];omega⟩;right;rw[oi h];exact⟨_,rfl,c,y,rfl,l,a,om⟩;rintro t ⟨z,o,rfl,d,a,e⟩;exact⟨_,rfl,z,o,rfl,d,a,e⟩
 obtain⟨r,d,z,o,rfl,a,e,j⟩:=key;exact⟨z,o,d,a,e,j⟩
theorem Qme(a:List Nat):Xa a=some (decide (a=[1])):=by
 unfold Xa;simp only[jn_eq,bifd]
 match a with
 | []=>rfl
 | [x]=>rw[oj (show(([x]:List Nat).length:Int)=1 from rfl)];exact yz some (wk.2 oc)
 | x::y::t=>rw[oi oh];simp
theorem mid2{α:Type}(l:List α)(x y:α)(r:List α):l++x::y::r=(l++[x])++y::r:=oc
theorem Q0h{a d V z:Nat}(q:z<32)(m:a<4294967296)(l:d<4294967296):
 (a+4294967296*(d+4294967296*V)) / 2 ^ z=((d*4294967296)%18446744073709551616+a)%18446744073709551616 / 2 ^ (min z 64)%4294967296+4294967296*((d+4294967296*V) / 2 ^ z):=by
 rw[xb (show d*4294967296<18446744073709551616 by omega),xb (show d*4294967296+a<18446744073709551616 by omega),xf om];have i:(a+4294967296*(d+4294967296*V)) / 2 ^ z / 4294967296=(d+4294967296*V) / 2 ^ z:=by rw[ut,uz (2 ^ z) 4294967296,<-ut];congr 1;omega
 have j:(a+4294967296*(d+4294967296*V)) / 2 ^ z%4294967296=(d*4294967296+a) / 2 ^ z%4294967296:=by
  have e:(4294967296:Nat)=2 ^ z*2 ^ (32 - z):=by rw[<-uq,show z+(32 - z)=32 by omega]
  have f:a+4294967296*(d+4294967296*V)=(d*4294967296+a)+2 ^ z*(4294967296*(2 ^ (32 - z)*V)):=by rw[Nat.mul_left_comm (2 ^ z),<-xt (2 ^ z),<-e];omega
  rw[f,Nat.add_mul_div_left _ _ (yf z),Nat.add_mul_mod_self_left]
 rw[<-i,<-j];omega
theorem Qfs{a:List Nat}{k:Nat}(h:k<a.length):val (a.drop k)=a[k]+4294967296*val (a.drop (k+1)):=by rw[xz h];rfl
theorem Quv{a:List Nat}{k:Nat}:val (a.drop k)=a.getD k 0+4294967296*val (a.drop (k+1)):=by by_cases h:k<a.length;rw[Qfs h];simp[h];rw[xe om,xe om];simp[val,ou (show a.length<=k by omega)]
theorem Q0i(P w d V a A:Nat)(e:V=w+4294967296*d)(h:a+P*V=A):a+P*w+P*4294967296*d=A:=by grind
theorem Qrm{n z:Nat}{p a q:List Nat}(L:big<=n)(Q:p.length+a.length+q.length<35184372088000)(x:Wd a)(P:z<32):
 ∃ r k,Wr n (p++a++q) p.length a.length (z:Int)=some (p.length,k,p++r++q)/\r.length=a.length/\Wd r/\k<=r.length/\r.take k=toL (val a / 2 ^ z):=by
 have key:∃ w,Wr n (p++a++q) p.length a.length (z:Int)=some w/\∃ r k,w=(p.length,k,p++r++q)/\r.length=a.length/\Wd r/\k<=r.length/\r.take k=toL (val a / 2 ^ z):=by
  unfold Wr
  refine Qac (λs=>a.length - s.2.toNat) (λs=>∃(k:Nat) (o:List Nat),s.2=k/\k<=a.length/\s.1=p++o++(a.drop k++q)/\o.length=k/\Wd o/\val o+bp k*(val (a.drop k) / 2 ^ z)=val a / 2 ^ z)
   (λt=>∃ o,t=p++o++q/\o.length=a.length/\Wd o/\val o=val a / 2 ^ z) ⟨0,[],rfl,om,oc,rfl,Jr,by simp[val,Xc]⟩ (by simp only[];unfold big at L;omega) ?_ ?_
  rintro⟨w,i⟩ ⟨k,o,e,m,B,F,J,C⟩;simp only at e B C;subst e B;simp only[bifd,jn_eq,sbind];by_cases hk:k<a.length;left;have N:=Xj x hk;have O:=Qef x (k+1);have u:=Q0h (V:=val (a.drop (k+1+1))) P N O;have v:∀(K:Nat->Option (Lp (List Nat×Int) (List Nat))),(if wrap64 ((k:Int)+1)<(a.length:Int) then (grd (winS (wrap64 ((k:Int)+1)) a.length)).bind λ_=>(getI (p++o++(a.drop k++q)) ((p.length:Int)+wrap64 ((k:Int)+1))).bind λH=>K H else K 0)=K (a.getD (k+1) 0):=by
   intro K;rw[w1 om];by_cases f:k+1<a.length;rw[oj om,Qhz f,sbind,show((p.length:Int)+((k+1:Nat):Int))=((p.length+k+1:Nat):Int) by omega,xz hk,xz f,yn,yn,mid2,J8 oh,sbind];simp[f];rw[oi om];simp[ou (show a.length<=k+1 by omega)]
  rw[oj om,v (λG=>(grd (winS (k:Int) a.length)).bind λ_=>(getI (p++o++(a.drop k++q)) ((p.length:Int)+(k:Int))).bind λI=>(grd (decide (0<=(z:Int)))).bind λ_=>(grd (winS (k:Int) a.length)).bind λ_=>(getI (p++o++(a.drop k++q)) ((p.length:Int)+(k:Int))).bind λ_=>some (Lp.go ((p++o++(a.drop k++q)).set (Int.toNat ((p.length:Int)+(k:Int))) (((G*4294967296)%18446744073709551616+I)%18446744073709551616 / 2 ^ (min (Int.toNat (z:Int)) 64)%4294967296),wrap64 ((k:Int)+1))))];rw[Qhz hk,sbind,show((p.length:Int)+(k:Int))=((p.length+k:Nat):Int) by omega,xz hk,yn,J8 oh,sbind,grd_t (ot (vv _)),sbind,sbind,sbind,Vt oh,w1 om,yp];have A:(a.getD (k+1) 0*4294967296%18446744073709551616+a[k])%18446744073709551616 / 2 ^ min z 64%4294967296<4294967296:=yh _ oz;generalize (a.getD (k+1) 0*4294967296%18446744073709551616+a[k])%18446744073709551616 / 2 ^ min z 64%4294967296=w at u A |-;refine⟨_,rfl,⟨k+1,o++[w],rfl,om,oc,by simp[F],Q2.2 ⟨J,Q6.2 ⟨A,Jr⟩⟩,?_⟩,by simp only[];omega⟩;rw[Jh,F,Jz];refine Q0i _ _ _ _ _ _ ?_ C;rw[Qfs hk,Quv (k:=k+1)];exact u;right;obtain rfl:k=a.length:=om
  rw[oi om];rw[xe (ol _)] at C;exact⟨_,rfl,o,oc,F,J,by simpa [val] using C⟩;rintro t ⟨o,rfl,e,m,B⟩;refine Qac (λs=>s.2) (λs=>s.1=p.length/\s.2<=o.length/\trimZ o=trimZ (o.take s.2)) (λt=>t.1=p.length/\t.2<=o.length/\trimZ o=o.take t.2) ⟨rfl,by simp only[];omega,by simp only[];rw[<-e,ug]⟩ (by simp only[];unfold big at L;omega) ?_ ?_;rintro⟨s1,k⟩ ⟨rfl,l,g3⟩;simp only at l g3;simp only[jn_eq,bifd];by_cases h0:0<k;obtain⟨j,rfl⟩:∃ j,k=j+1:=⟨k - 1,om⟩
  have E:j<o.length:=om
  rw[Jq E] at g3;rw[oj om,w64 om om,show((j+1:Nat):Int) - 1=(j:Nat) by omega,Qhz om,sbind,show((p.length:Int)+(j:Int))=((p.length+j:Nat):Int) by omega];have M:getI (p++o++q) ((p.length+j:Nat):Int)=some o[j]:=by rw[Qga,xh,xv om,vr,yy E,oo E]
  rw[M,sbind];by_cases d:o[j]=0;left;rw[oj d,grd_t (by unfold winC;simp;omega),sbind];exact⟨_,rfl,⟨oc,by simp only[];omega,by simp only[];rw[g3,d,Qls];simp⟩,by simp only[];omega⟩;right;rw[oi d];exact⟨_,rfl,rfl,l,by simp only[];rw[g3,Jq E,Qq9 _ d]⟩;right;obtain rfl:k=0:=om
  rw[oi om,bifF];exact⟨_,rfl,rfl,by simp only[];omega,by simp only[];rw[g3];simp[trimZ]⟩;rintro⟨s1,k⟩ ⟨rfl,l,g3⟩;simp only at l g3;exact⟨_,rfl,o,k,rfl,e,m,l,by rw[<-g3,<-Ja m,B]⟩
 obtain⟨w,e,r,k,rfl,m⟩:=key;exact⟨r,k,e,m⟩
def Win(X:List Nat)(o l:Nat)(b:List Nat):Prop:=∃ p q,X=p++b++q/\p.length=o/\b.length=l
theorem Qpf{X:List Nat}{o l:Nat}{b:List Nat}(h:Win X o l b):subW X o l=some b:=by obtain⟨p,q,rfl,rfl,rfl⟩:=h;unfold subW;rw[oj oc];simp
theorem Qx0(b:List Nat):Win b 0 b.length b:=⟨[],[],oc,rfl,rfl⟩
theorem oddw{w z o R:Nat}(i:z<32)(e:w=2 ^ z*o)(f:o%2=1):(w+4294967296*R) / 2 ^ z%2=1/\w+4294967296*R=2 ^ z*((w+4294967296*R) / 2 ^ z):=by
 have a:(4294967296:Nat)=2 ^ z*(2*2 ^ (31 - z)):=by rw[<-xt,uz (2 ^ z) 2,xt,<-uq,show z+(31 - z)=31 by omega]
 have d:w+4294967296*R=2 ^ z*(o+2*(2 ^ (31 - z)*R)):=by rw[vq,<-e,<-xt 2,<-xt (2 ^ z),<-a]
 rw[d,Nat.mul_div_cancel_left _ (yf z)];exact⟨om,rfl⟩
theorem Qh0{n o l:Nat}{X a:List Nat}(C:big<=n)(N:X.length<35184372088000)(O:Win X o l a)(x:Wd a)(h0:val a≠0):
 ∃ f l' t X',Kq n X o l=some (f,l',((t:Nat):Int),X')/\X'.length=X.length/\∃ u,val a=2 ^ t*u/\u%2=1/\Win X' f l' (toL u)/\t<=32*a.length:=by
 obtain⟨p,q,rfl,rfl,rfl⟩:=O;have key:∃ w,Kq n (p++a++q) p.length a.length=some w/\∃ f l' t X',w=(f,l',((t:Nat):Int),X')/\X'.length=(p++a++q).length/\∃ u,val a=2 ^ t*u/\u%2=1/\Win X' f l' (toL u)/\t<=32*a.length:=by
  unfold Kq;simp only[yr] at N;have v:∀ j,val a=bp j*val (a.drop j)->j<a.length:=by intro j d;rcases xx j a.length with h | h;exact h;rw[xe h] at d;exact absurd d (by simpa [val] using h0)
  refine Qac (λs=>s.2.1) (λs=>∃ j:Nat,s.1=p.length+j/\s.2.1=a.length - j/\s.2.2=((32*j:Nat):Int)/\val a=bp j*val (a.drop j))
   (λs=>∃ j:Nat,s.1=p.length+j/\s.2.1=a.length - j/\s.2.2=((32*j:Nat):Int)/\val a=bp j*val (a.drop j)/\a.getD j 0≠0) ⟨0,rfl,rfl,rfl,by rw[Xc];simp⟩ (by simp only[];unfold big at C;omega) ?_ ?_
  rintro⟨s1,Q,S⟩ ⟨j,rfl,rfl,rfl,i⟩;have d:=v j i;have B:getI (p++a++q) (((p.length+j:Nat):Int)+0)=some a[j]:=by rw[show(((p.length+j:Nat):Int)+0)=((p.length+j:Nat):Int) by omega,Qga,xh,xv om,vr,yy d,oo d]
  simp only[bifd];rw[show(0:Int)=((0:Nat):Int) from rfl,Qhz om,sbind,show((0:Nat):Int)=0 from rfl,B,sbind];by_cases A:a[j]=0;left;rw[oj A,grd_t (by unfold winC;simp;omega),sbind,w64 om om];refine⟨_,rfl,⟨j+1,by simp only[];omega,by simp only[];omega,by simp only[];omega,?_⟩,by simp only[];omega⟩;rw[i,Qfs d,A,Jz,xa,xt];right;rw[oi A];exact⟨_,rfl,j,rfl,rfl,rfl,i,by simpa [d] using A⟩;rintro⟨s1,Q,S⟩ ⟨j,rfl,rfl,rfl,i,M⟩;have d:=v j i;have B:getI (p++a++q) (((p.length+j:Nat):Int)+0)=some a[j]:=by
   rw[show(((p.length+j:Nat):Int)+0)=((p.length+j:Nat):Int) by omega,Qga,xh,xv om,vr,yy d,oo d]
  have P:=Xj x d;have F:a[j]≠0:=by simpa [d] using M
  obtain⟨z,Y,T,J,z3,z4⟩:=Qqi C F P;simp only[];rw[show(0:Int)=((0:Nat):Int) from rfl,Qhz om,sbind,show((0:Nat):Int)=0 from rfl,B,sbind,T,sbind];have E:p++a++q=(p++a.take j)++a.drop j++q:=oc
  have e:(p++a.take j).length=p.length+j:=oh
  have m:(a.drop j).length=a.length - j:=oc
  obtain⟨r,k,G,U,V,W,H⟩:=Qrm (p:=p++a.take j) (a:=a.drop j) (q:=q) C (by rw[e,m];omega) (Qgc x) J;rw[e,m,<-E] at G;rw[G,sbind,w64 om om];obtain⟨w1,I⟩:=oddw (R:=val (a.drop (j+1))) J z3 z4;rw[<-Qfs d] at w1 I;refine⟨_,rfl,p.length+j,k,32*j+z,p++a.take j++r++q,oc,oh,val (a.drop j) / 2 ^ z,?_,w1,?_,om⟩;rw[uq,<-Qg9,xt,<-I];exact i;refine⟨p++a.take j,r.drop k++q,?_,e,?_⟩;rw[<-H];simp only[xh];rw[<-xh (r.take k),yv];rw[<-H,xo,xf om]
 obtain⟨w,K,f,l',t,X',rfl,L⟩:=key;exact⟨f,l',t,X',K,L⟩
theorem Qps{n t:Nat}{a:List Nat}(i:big<=n)(l:t / 32+a.length<35184372088830)(m:t<4611686018427387904)(d:Wd a):Xi n a (t:Int)=some (toL (2 ^ t*val a)):=by unfold Xi;have hd:Int.tdiv (t:Int) 32=((t / 32:Nat):Int):=rfl;have f:Int.tmod (t:Int) 32=((t%32:Nat):Int):=rfl;have j:(1*2 ^ min (Int.toNat ((t%32:Nat):Int)) 32)%4294967296=2 ^ (t%32):=Qwj (yh _ oz);have e:2 ^ (t%32)<4294967296:=xc (Nat.pow_lt_pow_right oz (yh t (show 0<32 by decide))) oz;rw[hd,f,w64 om om,Qba om om,sbind,W5 oh oh,sbind,grd_t (ot (vv _)),sbind,j,sbind,Qkl i oh (Q2.2 ⟨Qg8 oz,d⟩) (Q6.2 ⟨e,Jr⟩),sbind,Vc,Qbl,yw,Qg9,xa];congr 2;simp only[val,yu,xk];rw[xt,uz (val a),<-xt,<-uq,show 32*(t / 32)+t%32=t by omega]
theorem Qsw{u t:Nat}(h:u%2=1):Nat.Coprime (2 ^ t) u:=Nat.Coprime.pow_left t (by
 have:Nat.gcd 2 u=1:=by rw[Nat.gcd_rec,h];rfl
 exact this)
theorem Q27{m k u v:Nat}(a:u%2=1)(d:v%2=1):Nat.gcd (2 ^ m*u) (2 ^ k*v)=2 ^ (min m k)*Nat.gcd u v:=by by_cases h:m<=k;rw[xf h,show k=m+(k - m) by omega,uq,xt,Nat.gcd_mul_left,Nat.Coprime.gcd_mul_left_cancel_right _ (Qsw a)];rw[Nat.min_eq_right om,show m=k+(m - k) by omega,uq,xt,Nat.gcd_mul_left,Nat.Coprime.gcd_mul_left_cancel _ (Qsw d)]
theorem Qp6{x k:Nat}(h:x<2 ^ k):blen x<=k:=by by_cases h0:x=0;rw[h0,Qdz];omega;have a:=Qjk h0;have:=(gg (show 1<2 by decide)).1 (xu a h);omega
theorem Q0j{x y t:Nat}(h:x=2 ^ t*y)(j:t≠0)(h0:x≠0):blen y<blen x:=by
 have a:=Ql7 (x:=x);have e:=Qnk h0;obtain⟨k,hk⟩:∃ k,blen x=k+1:=⟨_,(Nat.sub_add_cancel e).symm⟩
 rw[hk] at a |-;have d:y<2 ^ k:=by
  obtain⟨s,rfl⟩:∃ s,t=s+1:=⟨t - 1,om⟩
  rw[vh] at h a;have f:1*y<=2 ^ s*y:=ow _ (yf s);have i:x=2*(2 ^ s*y):=by rw[h,uz (2 ^ s) 2,xt]
  omega
 have:=Qp6 d;omega
theorem Q0k{x y:Nat}(h:x<=y):blen x<=blen y:=Qp6 (xu h Ql7)
theorem Qt1{v:Nat}:blen v<=32*(toL v).length:=by have:=Qn2 (Ql v);rwa [Qj] at this
theorem Qmf{X:List Nat}{o l:Nat}{b:List Nat}(h:Win X o l b):b.length<=X.length/\b.length=l:=by obtain⟨p,q,rfl,rfl,rfl⟩:=h;exact⟨oh,rfl⟩
def wval(X:List Nat)(o l:Nat):Nat:=val ((subW X o l).getD [])
theorem Qjl{X:List Nat}{o l u:Nat}(h:Win X o l (toL u)):wval X o l=u:=by unfold wval;rw[Qpf h,vu,Qj]
theorem Q28{u v:Nat}(a:u%2=1)(d:v%2=1)(h:v<u):(u - v)≠0/\(u - v)%2=0:=om
theorem Qhb{a:List Nat}(d:Wd a):(trimZ a).length=0↔val a=0:=by rw[<-Qov d];constructor;intro h;exact xd h;intro h;rw[h];rfl
set_option maxHeartbeats 1000000 in
theorem Qsx{n:Nat}{a b:List Nat}(f:big<=n)(ha:a.length<35184372087900)(hb:b.length<35184372087900)(d:Wd a)(i:Wd b):Yl n a b=some (toL (Nat.gcd (val a) (val b))):=by
 unfold Yl;have la:=Wn a;have lb:=Wn b;rw[K8 f om,sbind,K8 f om,sbind];by_cases h0:val a=0;have:=(Qhb d).2 h0;rw[ot om,bifT,h0,Nat.gcd_zero_left,Ja i];rw[oq (λh=>h0 ((Qhb d).1 om)),bifF];by_cases e:val b=0;have:=(Qhb i).2 e;rw[ot om,bifT,e,Nat.gcd_zero_right,Ja d];rw[oq (λh=>e ((Qhb i).1 om)),bifF];obtain⟨o1,l1,j,X1,e1,e2,u,K,S,L,e6⟩:=Qh0 f (show(trimZ a).length<_ by omega) (Qx0 _) (Qv4 d) (by rw[Qkj];exact h0);obtain⟨o2,l2,m,X2,f1,f2,v,T,f4,M,f6⟩:=Qh0 f (show(trimZ b).length<_ by omega) (Qx0 _) (Qv4 i) (by rw[Qkj];exact e);rw[Qkj] at K T;rw[e1,sbind,f1,sbind,K,T,Q27 S f4];simp only[];have i1:=Qmf L;have i2:=Qmf M;have j1:=@Qt1 u;have j2:=@Qt1 v;have k1:=Qbm (v:=u)
 refine Xy (λs=>blen (wval s.1 s.2.1 s.2.2.1)+blen (wval s.2.2.2.1 s.2.2.2.2.1 s.2.2.2.2.2))
  (λs=>∃ x y:Nat,Win s.1 s.2.1 s.2.2.1 (toL x)/\Win s.2.2.2.1 s.2.2.2.2.1 s.2.2.2.2.2 (toL y)/\x%2=1/\y%2=1/\Nat.gcd x y=Nat.gcd u v/\s.1.length<35184372087900/\s.2.2.2.1.length<35184372087900)
  (λt=>Win t.1 t.2.1 t.2.2 (toL (Nat.gcd u v))/\t.1.length<35184372087900) ⟨u,v,L,M,S,f4,rfl,by simp only[];omega,by simp only[];omega⟩ (by simp only[];rw[Qjl L,Qjl M];unfold big at f;omega) ?_ ?_
 have round:∀(X:List Nat) (o l:Nat) (Y:List Nat) (A l' x y:Nat),Win X o l (toL x)->Win Y A l' (toL y)->x%2=1->y%2=1->Nat.gcd x y=Nat.gcd u v->X.length<35184372087900->Y.length<35184372087900->y<x ->
  ∃ s':List Nat×Nat×Nat×List Nat×Nat×Nat,((some (toL y)).bind λR=>(K3 n X o l R).bind λQ=>(Kq n Q o l).bind λB=>some (Lp.go (σ:=List Nat×Nat×Nat×List Nat×Nat×Nat) (τ:=List Nat×Nat×Nat) (B.2.2.2,B.1,B.2.1,Y,A,l')))=some (.go s') /\
    (∃ x y:Nat,Win s'.1 s'.2.1 s'.2.2.1 (toL x)/\Win s'.2.2.2.1 s'.2.2.2.2.1 s'.2.2.2.2.2 (toL y)/\x%2=1/\y%2=1/\Nat.gcd x y=Nat.gcd u v/\s'.1.length<35184372087900/\s'.2.2.2.1.length<35184372087900) /\
    blen (wval s'.1 s'.2.1 s'.2.2.1)+blen (wval s'.2.2.2.1 s'.2.2.2.2.1 s'.2.2.2.2.2)<blen x+blen y:=by
  intro X o l Y A l' x y hX V J C F lX lY P;obtain⟨p,q,rfl,rfl,rfl⟩:=hX;obtain⟨r,g1,N,g3,g4⟩:=Qks (p:=p) (a:=toL x) (q:=q) (b:=toL y) f (by simp at lX;omega) (V3 om) (Ql _) (Ql _) (by rw[Qj,Qj];omega);rw[Qj,Qj] at g4;obtain⟨s1,s2⟩:=Q28 J C P;obtain⟨o3,l3,t3,Z,h1,h2,w,I,h4,U,h6⟩:=Qh0 (X:=p++r++q) (o:=p.length) (l:=(toL x).length) (a:=r) f (by simp[N];simp at lX;omega) ⟨p,q,rfl,rfl,N⟩ g3 (by rw[g4];exact s1);rw[g4] at I;have ht:t3≠0:=by rintro rfl;rw[Nat.pow_zero,wt] at I;omega
  refine⟨(Z,o3,l3,Y,A,l'),by rw[sbind,g1,sbind,h1,sbind],⟨w,y,U,V,h4,C,?_,?_,lY⟩,?_⟩;rw[<-F,<-Nat.Coprime.gcd_mul_left_cancel (k:=2 ^ t3) w (Qsw C),<-I,Nat.gcd_sub_self_left om];rw[h2];simp[N];simp at lX;omega;simp only[];rw[Qjl U,Qjl V];have c1:=Q0j I ht s1;have H:=Q0k (Nat.sub_le x y);omega
 rintro⟨X,o,l,Y,A,l'⟩ ⟨x,y,w1,E,J,C,F,lX,lY⟩;simp only at w1 E lX lY;have i3:=Qmf w1;have i4:=Qmf E;simp only[jn_eq];rw[Qpf w1,sbind,Qpf E,sbind,Qhy f om om (Ql _) (Ql _),sbind,Qj,Qj,Qjl w1,Qjl E,bifd,bifd];unfold cmpI;by_cases c1:x<y;left;rw[oj c1,oi oz,oj oz];obtain⟨s',r1,r2,r3⟩:=round Y A l' X o l y x E w1 C J (by rw[Nat.gcd_comm];exact F) lY lX c1;exact⟨s',r1,r2,om⟩;rw[oi c1];by_cases H:y<x;left;rw[oj H,oi oz,oi oz];exact round X o l Y A l' x y w1 E J C F lX lY H;right;rw[oi H,oj rfl];obtain rfl:x=y:=om
 refine⟨_,rfl,?_,lX⟩;rw[<-F,Nat.gcd_self];exact w1;rintro⟨X,o,l⟩ ⟨w1,lX⟩;simp only at w1 lX;have i3:=Qmf w1;simp only[];have G:min (j:Int) (m:Int)=((min j m:Nat):Int):=om
 have hG:Nat.gcd u v≠0:=by have:=Nat.gcd_pos_of_pos_left v (show 0<u by omega);omega
 have O:2 ^ min j m*Nat.gcd u v<=val a:=by rw[K];exact wj (vc oz (Nat.min_le_left _ _)) (Nat.gcd_le_left _ om)
 have W:min j m / 32+(toL (Nat.gcd u v)).length<=a.length+1:=by
  have q1:=Qxm hG;have q2:=Vk d;have q3:bp (min j m / 32)<=2 ^ min j m:=by rw[Qg9];exact vc oz om
  have q4:bp (min j m / 32+((toL (Nat.gcd u v)).length - 1))<=val a:=by rw[Qz3];exact xn (wj q3 q1) O
  rcases xx (min j m / 32+((toL (Nat.gcd u v)).length - 1)) a.length with h | h;omega;have:=bp_le h;omega
 rw[Qpf w1,sbind,G,Qps f om om (Ql _),sbind,Qj]
theorem Qkt{n:Nat}{a g:List Nat}(f:big<=n)(i:a.length<35184372087900)(j:g.length<35184372087900)(d:Wd a)(e:Wd g)(h0:val g≠0):Ws n a g=some (toL (val a / val g)):=by unfold Ws;rw[Qme,sbind,bifd];split;rename_i h;rw[h,K8 f om,sbind,<-Ja d];simp[val];rw[Qsv f om om d e h0,sbind]
end Go.Proofs.YtmnlcblemgjeeaaGreatDoor
