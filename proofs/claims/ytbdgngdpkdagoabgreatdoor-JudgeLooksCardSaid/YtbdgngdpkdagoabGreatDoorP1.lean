import Derived.Test.YtbdgngdpkdagoabGreatDoorMod
namespace Go.Proofs.YtbdgngdpkdagoabGreatDoor
open Go Go.RowKit
def big:Nat:=18446744073709551616
theorem w64{x:Int}(a:-9223372036854775808<=x)(d:x<=9223372036854775807):wrap64 x=x:=by unfold wrap64;omega
theorem bifd{α:Type}(p:Prop)[Decidable p](a b:α):(bif decide p then a else b)=if p then a else b:=by by_cases h:p<;>simp[h]
theorem bifnd{α:Type}(p:Prop)[Decidable p](a b:α):(bif !decide p then a else b)=if p then b else a:=by by_cases h:p<;>simp[h]
theorem bifT{α:Type}(a b:α):(bif true then a else b)=a:=ut (ut rfl)
theorem bifF{α:Type}(a b:α):(bif false then a else b)=b:=ut (ut rfl)
theorem jn_eq{σ ρ:Type}(A:(σ->Option ρ)->Option ρ)(k:σ->Option ρ):jn A k=A k:=ut (ut rfl)
theorem Xi{τ ρ:Type}(k:τ->Option ρ)(t:τ):lpK k (.go t)=k t:=ut (ut rfl)
theorem Z0{τ ρ:Type}(k:τ->Option ρ)(r:ρ):lpK k (.out r)=some r:=ut (ut rfl)
theorem sbind{α β:Type}(a:α)(f:α->Option β):(some a).bind f=f a:=ut (ut rfl)
theorem Qh0{α:Type}(l:List α)(i:Nat):getI l (i:Int)=l[i]?:=by simp[getI]
theorem Qcx{α:Type}{l:List α}{i:Nat}(h:i<l.length):getI l (i:Int)=some l[i]:=by rw[Qh0];simp[h]
theorem Q2b(l:List UInt8)(i:Nat):getS l (i:Int)=(l[i]?).map (·.toNat):=by simp[getS]
theorem Ji0{l:List UInt8}{i:Nat}(h:i<l.length):getS l (i:Int)=some l[i].toNat:=by rw[Q2b];simp[h]
theorem grd_t{b:Bool}(h:b=true):grd b=some ():=by rw[h];rfl
theorem Jcp{α:Type}{l:List α}{k:Nat}(h:k<=l.length):sub l 0 (k:Int)=some (l.take k):=by unfold sub;rw[oo om];simp
theorem Jkl{α:Type}{l:List α}{i k:Nat}(a:i<=k)(h:k<=l.length):sub l (i:Int) (k:Int)=some ((l.take k).drop i):=by unfold sub;rw[oo om];simp
theorem Vt{α:Type}{b:Nat}{l r:List α}(h:(l.length+r.length)*b<=140737488355328)(a:l.length+r.length<=9223372036854775807):appM b l r=some (l++r):=by unfold appM;rw[oo ⟨h,a⟩]
theorem Qgl{α:Type}{b:Nat}{z:α}{n:Nat}(h:n*b<=140737488355328)(a:n<=9223372036854775807):mkM b z (n:Int)=some (List.replicate n z):=by unfold mkM;rw[oo om];simp
theorem Jkm{l r:List UInt8}(a:l.length+r.length<=9223372036854775807):catS l r=some (l++r):=by unfold catS;rw[oo a]
theorem Qz4{σ τ:Type}{f:σ->Option (Lp σ τ)}(μ:σ->Nat)(I:σ->Prop)(Q:τ->Prop)
 (e:∀ s,I s->(∃ s',f s=some (.go s')/\I s'/\μ s'<μ s)\/(∃ t,f s=some (.out t)/\Q t)):∀(n:Nat) (s:σ),I s->μ s<n->∃ t,loopM f n s=some t/\Q t
 | 0,_,_,h=>absurd h (dz _)
 | n+1,s,j,hn=>by rcases e s j with ⟨s',a,d,k⟩ | ⟨t,a,d⟩;obtain⟨t,g,i⟩:=Qz4 μ I Q e n s' d om;exact⟨t,by simp only[loopM,a,xy];exact g,i⟩;exact⟨t,by simp only[loopM,a,xy],d⟩
theorem Qcy{σ τ R:Type}{f:σ->Option (Lp σ τ)}{n:Nat}{s:σ}{k:τ->Option R}{r:R}(μ:σ->Nat)(I:σ->Prop)(Q:τ->Prop)(h0:I s)(hn:μ s<n)
 (e:∀ s,I s->(∃ s',f s=some (.go s')/\I s'/\μ s'<μ s)\/(∃ t,f s=some (.out t)/\Q t)) (hk:∀ t,Q t->k t=some r):(loopM f n s).bind k=some r:=by
 obtain⟨t,a,d⟩:=Qz4 μ I Q e n s h0 hn;rw[a,xy];exact hk t d
theorem Qjv{σ τ R:Type}{f:σ->Option (Lp σ τ)}{n:Nat}{s:σ}{k:τ->Option R}{P:R->Prop}(μ:σ->Nat)(I:σ->Prop)(Q:τ->Prop)(h0:I s)(hn:μ s<n)
 (e:∀ s,I s->(∃ s',f s=some (.go s')/\I s'/\μ s'<μ s)\/(∃ t,f s=some (.out t)/\Q t)) (hk:∀ t,Q t->∃ r,k t=some r/\P r):∃ r,(loopM f n s).bind k=some r/\P r:=by
 obtain⟨t,a,d⟩:=Qz4 μ I Q e n s h0 hn;rw[a,xy];exact hk t d
theorem Jf8{σ τ R β:Type}{f:σ->Option (Lp σ τ)}{n:Nat}{s:σ}{k:τ->Option R}{g:β->R}{P:β->Prop}(μ:σ->Nat)(I:σ->Prop)(Q:τ->Prop)(h0:I s)(hn:μ s<n)
 (e:∀ s,I s->(∃ s',f s=some (.go s')/\I s'/\μ s'<μ s)\/(∃ t,f s=some (.out t)/\Q t)) (hk:∀ t,Q t->∃ b,k t=some (g b)/\P b):∃ b,(loopM f n s).bind k=some (g b)/\P b:=by
 obtain⟨t,a,d⟩:=Qz4 μ I Q e n s h0 hn;rw[a,xy];exact hk t d
theorem Qb5{σ τ:Type}{f:σ->Option (Lp σ τ)}{s s':σ}{n:Nat}(h:f s=some (.go s')):loopM f (n+1) s=loopM f n s':=by simp only[loopM,h,xy]
theorem Vs{σ τ:Type}{f:σ->Option (Lp σ τ)}{s:σ}{t:τ}{n:Nat}(h:f s=some (.out t))(hn:0<n):loopM f n s=some t:=by
 obtain⟨m,rfl⟩:∃ m,n=m+1:=⟨n - 1,om⟩
 simp only[loopM,h,xy]
theorem Q2c{α σ τ:Type}{f:Nat->α->σ->Option (Lp σ τ)}(I:Nat->σ->Prop):∀(xs:List α) (i:Nat) (s:σ),I i s->(∀ j x s,xs[j]?=some x->I (i+j) s->∃ s',f (i+j) x s=some (.go s')/\I (i+j+1) s') ->
 ∃ s',rangeL f xs i s=some (.go s')/\I (i+xs.length) s'
 | [],i,s,h,_=>⟨s,rfl,h⟩
 | x::xs,i,s,h,e=>by
   obtain⟨s1,a,d⟩:=e 0 x s rfl h;simp only[xq] at a d
   obtain⟨n,g,k⟩:=Q2c I xs (i+1) s1 d (λj y t l m=>by
    have:=e (j+1) y t (by simpa using l) (by rw[show i+(j+1)=i+1+j by omega];exact m);rw[show i+(j+1)=i+1+j by omega] at this
    exact this)
   refine⟨n,by simp only[rangeL,a,xy];exact g,?_⟩;rw[xm,show i+(xs.length+1)=i+1+xs.length by omega];exact k
theorem Qrl{α σ τ R:Type}{f:Nat->α->σ->Option (Lp σ τ)}{xs:List α}{s:σ}{k:Lp σ τ->Option R}{r:R}(I:Nat->σ->Prop)(h0:I 0 s)
 (g:∀ j x s,xs[j]?=some x->I j s->∃ s',f j x s=some (.go s')/\I (j+1) s') (hk:∀ t,I xs.length t->k (.go t)=some r):(rangeL f xs 0 s).bind k=some r:=by
 obtain⟨s',d,e⟩:=Q2c I xs 0 s h0 (λj x s i a=>by rw[xj] at a |-;exact g j x s i a);rw[d,xy];exact hk s' (by simpa using e)
theorem Qxt{α σ τ R:Type}{f:Nat->α->σ->Option (Lp σ τ)}{xs:List α}{s:σ}{k:Lp σ τ->Option R}{P:R->Prop}(I:Nat->σ->Prop)(h0:I 0 s)
 (g:∀ j x s,xs[j]?=some x->I j s->∃ s',f j x s=some (.go s')/\I (j+1) s') (hk:∀ t,I xs.length t->∃ r,k (.go t)=some r/\P r):∃ r,(rangeL f xs 0 s).bind k=some r/\P r:=by
 obtain⟨s',d,e⟩:=Q2c I xs 0 s h0 (λj x s i a=>by rw[xj] at a |-;exact g j x s i a);rw[d,xy];exact hk s' (by simpa using e)
def val:List Nat->Nat
 | []=>0
 | x::a=>x+4294967296*val a
def bp(k:Nat):Nat:=4294967296 ^ k
theorem Qau:bp 0=1:=by unfold bp;rw[Nat.pow_zero]
theorem Wz(k:Nat):bp (k+1)=bp k*4294967296:=by unfold bp;rw[jr]
theorem bp_le{j k:Nat}(h:j<=k):bp j<=bp k:=by unfold bp;exact dc oz h
theorem Jhh(k:Nat):0<bp k:=by unfold bp;exact Nat.pow_pos oz
theorem Jm9(j k:Nat):bp (j+k)=bp j*bp k:=by unfold bp;rw[wc]
def Wd(a:List Nat):Prop:=∀ x∈a,x<4294967296
def trimZ:List Nat->List Nat
 | []=>[]
 | x::a=>if trimZ a=[]/\x=0 then [] else x::trimZ a
def toL(n:Nat):List Nat:=if n=0 then [] else n%4294967296::toL (n / 4294967296)
termination_by n
decreasing_by omega
theorem Xj:Wd []:=λ_ h=>by cases h
theorem Vo{x a}:Wd (x::a)↔x<4294967296/\Wd a:=by simp[Wd]
theorem Vg{a b}:Wd (a++b)↔Wd a/\Wd b:=by constructor;intro h;exact⟨λx d=>h x (yp _ d),λx d=>h x (uh _ d)⟩;rintro⟨e,f⟩ x d;rcases ym.1 d with h | h;exact e x h;exact f x h
theorem Que{a k}(h:Wd a):Wd (a.take k):=λx d=>h x (yx d)
theorem Qp9{a k}(h:Wd a):Wd (a.drop k):=λx d=>h x (wn d)
theorem Qrm{k x}(h:x<4294967296):Wd (List.replicate k x):=λy a=>by rw[(jo.1 a).2];exact h
theorem Qcz{a:List Nat}(h:Wd a){i:Nat}(hi:i<a.length):a[i]<4294967296:=h _ (xb hi)
theorem Yu:toL 0=[]:=by rw[toL];rfl
theorem Qew{n:Nat}(h:n≠0):toL n=n%4294967296::toL (n / 4294967296):=by rw[toL];rw[ol h]
theorem Jc(n:Nat):val (toL n)=n:=by
 induction n using Nat.strongRecOn with
 | _ n a=>
   by_cases h:n=0;subst h;rw[Yu];rfl;rw[Qew h];simp only[val];rw[a (n / 4294967296) om];omega
theorem Jq(n:Nat):Wd (toL n):=by
 induction n using Nat.strongRecOn with
 | _ n a=>
   by_cases h:n=0;subst h;rw[Yu];exact Xj;rw[Qew h];exact Vo.2 ⟨om,a (n / 4294967296) om⟩
theorem Vp{a:List Nat}(h:Wd a):toL (val a)=trimZ a:=by
 induction a with
 | nil=>simp[val,Yu,trimZ]
 | cons x a d=>
   obtain⟨j,i⟩:=Vo.1 h;have d:=d i;simp only[val,trimZ];by_cases g:val a=0;rw[g,Yu] at d;rw[<-d,g];by_cases e:x=0;subst e;simp[Yu];rw[ol (λh=>e h.2),Qew om];rw[show(x+4294967296*0)%4294967296=x by omega,show(x+4294967296*0) / 4294967296=0 by omega,Yu];have f:trimZ a≠[]:=by rw[<-d,Qew g];simp
   rw[ol (λh=>f h.1),Qew om,show(x+4294967296*val a)%4294967296=x by omega,show(x+4294967296*val a) / 4294967296=val a by omega,d]
theorem Qwd(a:List Nat):val (trimZ a)=val a:=by
 induction a with
 | nil=>rfl
 | cons x a d=>
   simp only[trimZ];split;rename_i h;rw[h.1] at d;simp[val] at d |-;omega;simp[val,d]
theorem Jcq{a:List Nat}(h:Wd a):Wd (trimZ a):=by rw[<-Vp h];exact Jq _
theorem Qbd(a:List Nat):(trimZ a).length<=a.length:=by
 induction a with
 | nil=>simp[trimZ]
 | cons x a d=>simp only[trimZ];split<;>simp;omega
theorem Q9k{a:List Nat}(h:trimZ a=[]):val a=0:=by rw[<-Qwd,h];rfl
theorem Q2d{a:List Nat}(h:Wd a):trimZ a=[]↔val a=0:=by constructor;exact Q9k;intro d;rw[<-Vp h,d,Yu]
theorem Jhi(n:Nat):trimZ (toL n)=toL n:=by rw[<-Vp (Jq n),Jc]
theorem Qxu(a:List Nat):trimZ (a++[0])=trimZ a:=by
 induction a with
 | nil=>simp[trimZ]
 | cons x a d=>simp only[yt,trimZ,d]
theorem Q6e(a:List Nat){x:Nat}(h:x≠0):trimZ (a++[x])=a++[x]:=by
 induction a with
 | nil=>simp[trimZ,h]
 | cons y a d=>simp only[yt,trimZ,d];rw[ol oc]
theorem Zs(a b:List Nat):val (a++b)=val a+bp a.length*val b:=by
 induction a with
 | nil=>simp[val,Qau]
 | cons x a d=>simp only[yt,val,d,xm,Wz];rw[gt,<-um,vp 4294967296 (bp a.length)];omega
theorem Z3{a:List Nat}(h:Wd a):val a<bp a.length:=by
 induction a with
 | nil=>simp[val,Qau]
 | cons x a e=>
   obtain⟨f,d⟩:=Vo.1 h;have:=e d;simp only[val,xm,Wz];omega
theorem Qkd(k:Nat):val (List.replicate k 0)=0:=by
 induction k with
 | zero=>rfl
 | succ k a=>simp[vn,val,a]
theorem Qcc{n k:Nat}(h:n<bp k):(toL n).length<=k:=by
 induction k generalizing n with
 | zero=>rw[Qau] at h;obtain rfl:n=0:=om
         simp[Yu]
 | succ k a=>
   by_cases h0:n=0;subst h0;simp[Yu];rw[Qew h0,xm];have:=@a (n / 4294967296) (by rw[Wz] at h;exact dg (by rw[vp];exact h));omega
theorem W0{α:Type}{a:List α}{k:Nat}(h:k<a.length):a.take (k+1)=a.take k++[a[k]]:=by simp[]
theorem Qaa{n:Nat}{a:List Nat}(hn:big<=n)(f:a.length<=4611686018427387904):Qay n a=some (trimZ a):=by
 unfold Qay;unfold big at hn;refine Qcy (λs=>s.toNat) (λs=>∃ k:Nat,s=k/\k<=a.length/\trimZ a=trimZ (a.take k)) (λt=>∃ k:Nat,t=k/\k<=a.length/\trimZ a=a.take k) ⟨a.length,rfl,xn _,oc⟩ oh ?_ ?_;rintro s ⟨k,rfl,hk,d⟩;simp only[jn_eq,bifd];by_cases h0:0<k;obtain⟨j,rfl⟩:∃ j,k=j+1:=⟨k - 1,om⟩
 rw[oo om,w64 om om,show((j+1:Nat):Int) - 1=(j:Nat) by omega,Qcx (show j<a.length by omega),sbind];rw[W0 (show j<a.length by omega)] at d;by_cases e:a[j]=0;left;refine⟨(j:Nat),by simp[e],⟨j,rfl,om,?_⟩,om⟩;rw[d,e,Qxu];right;refine⟨((j+1:Nat):Int),by simp[e],j+1,rfl,hk,?_⟩;rw[d,W0 (show j<a.length by omega),Q6e _ e];right;obtain rfl:k=0:=om
 exact⟨0,oc,0,rfl,ya _,by rw[d];simp[trimZ]⟩;rintro t ⟨k,rfl,hk,d⟩;rw[Jcp hk,sbind,d]
theorem Ji1{a:List Nat}{k:Nat}:cpyL (List.replicate (a.length+k) 0) a=a++List.replicate k 0:=by unfold cpyL;rw[ur,xc om,List.drop_replicate,wu]
theorem Qsc{a:List Nat}{k:Nat}(h:a.length+k<=35184372088832):Qj2 a (k:Int)=some (a++List.replicate k 0):=by unfold Qj2;rw[w64 om om,show((a.length:Int)+(k:Int))=((a.length+k:Nat):Int) by omega,Qgl om om,sbind,Ji1]
theorem Zg{n:Nat}{a:List Nat}(hn:big<=n)(d:a.length<=35184372088832):Yo n a=some (trimZ a):=by unfold Yo;have e:=Qbd a;rw[Qaa hn om,sbind,show(0:Int)=((0:Nat):Int) by rfl,Qsc om,sbind];simp
theorem Qtm{n:Nat}{a:List Nat}(hn:big<=n)(d:a.length<=4611686018427387904)(e:Wd a):Qhf n a=some (decide (val a=0)):=by unfold Qhf;rw[Qaa hn d,sbind];congr 1;rw[Bool.eq_iff_iff];simp only[gz];rw[<-Q2d e];constructor;intro h;exact ow om;intro h;rw[h];rfl
theorem Qz5{x y c d:Nat}(e:x<4294967296)(f:y<4294967296)(a:c<4294967296)(hd:d<4294967296):x*y+c+d<18446744073709551616:=by have:x*y<=4294967295*4294967295:=gi om om;omega
theorem Qtn{x y c d:Nat}(e:x<4294967296)(f:y<4294967296)(a:c<4294967296)(hd:d<4294967296):
 Qhg x y c d=some ((x*y+c+d) / 4294967296,(x*y+c+d)%4294967296):=by
 have h:=Qz5 e f a hd;unfold Qhg;rw[xv (show x*y<18446744073709551616 by omega),xv (show x*y+c<18446744073709551616 by omega),xv h,sbind];rw[show(2:Nat) ^ 32=4294967296 by rfl,xv (show(x*y+c+d) / 4294967296<4294967296 by omega)]
theorem Q76{x y:Nat}(a:y<4294967296):x*4294967296 ||| y=x*4294967296+y:=by have:=Nat.two_pow_add_eq_or_of_lt (i:=32) (b:=y) (by simpa using a) x;rw[show(2:Nat) ^ 32=4294967296 by rfl,vp] at this;exact this.symm
theorem Q0u{h l y:Nat}(f:h<y)(d:l<4294967296)(g:y<4294967296):
 Qjd h l y=some ((h*4294967296+l) / y,(h*4294967296+l)%y,true):=by
 unfold Qjd;rw[bifd,ol om,grd_t oh,sbind,sbind];rw[show(2:Nat) ^ 32=4294967296 by rfl,xv (show h*4294967296<18446744073709551616 by omega),Q76 d]
 have a:(h*4294967296+l) / y<4294967296:=dg (by
  have:h*4294967296+4294967296<=y*4294967296:=om
  omega)
 have e:(h*4294967296+l)%y<y:=ui _ om;rw[xv a,xv (show(h*4294967296+l)%y<4294967296 by omega)]
theorem Jkn{α:Type}(p:List α)(y:α)(r:List α):(p++y::r)[p.length]?=some y:=oc
theorem Jko{α:Type}(p:List α)(y z:α)(r:List α):(p++y::r).set p.length z=p++z::r:=oc
theorem Xa{α:Type}{k:Nat}{p:List α}{y:α}{r:List α}(h:p.length=k):getI (p++y::r) (k:Int)=some y:=by rw[Qh0,<-h,Jkn]
theorem Z8{α:Type}{k:Nat}{p:List α}{y z:α}{r:List α}(h:p.length=k):(p++y::r).set (k:Int).toNat z=p++z::r:=by rw[yo,<-h,Jko]
theorem Wg(a:List Nat)(x:Nat):val (a++[x])=val a+bp a.length*x:=by rw[Zs];simp[val]
theorem Jhj{α:Type}{l:List α}{k:Nat}(h:k<l.length):l=l.take k++l[k]::l.drop (k+1):=oc
theorem Ji2(P x y m a u v V M A c:Nat)(e:4294967296*u+v=x*y+m+a)(d:V+P*a=M+x*A+c):V+P*v+P*4294967296*u=M+P*m+x*(A+P*y)+c:=by grind
theorem Jar{p m q a:List Nat}{z x c:Nat}(J:m.length=a.length)(hp:p.length+m.length+1+q.length<=4611686018427387904)(C:Wd m)(B:Wd a)(G:x<4294967296)(I:c<4294967296):
 ∃ r,Qjc (p++m++z::q) (p.length:Int) a x c=some (p++r++q)/\r.length=a.length+1/\Wd r/\val r=val m+x*val a+c:=by
 have E:∃ r,Qjc (p++m++z::q) (p.length:Int) a x c=some r/\∃ l,r=p++l++q/\l.length=a.length+1/\Wd l/\val l=val m+x*val a+c:=by
  unfold Qjc;refine Qxt (λj (s:List Nat×Nat)=>∃ e,s.1=p++e++(m.drop j++z::q)/\e.length=j/\j<=a.length/\Wd e/\s.2<4294967296/\val e+bp j*s.2=val (m.take j)+x*val (a.take j)+c) ⟨[],oc,rfl,ya _,Xj,I,by simp[val,Qau]⟩ ?_ ?_;rintro j y ⟨o,w⟩ F ⟨e,f,g,A,n,d,t⟩;simp only at f d t;subst f;have i:j<a.length:=by rcases xo j a.length with h | h;exact h;simp[xa h] at F
  have H:a[j]=y:=by simpa [i] using F
  have v:y<4294967296:=by rw[<-H];exact Qcz B i
  have k:j<m.length:=om
  have u:m[j]<4294967296:=Qcz C k;rw[w64 om om,show((p.length:Int)+(j:Int))=((p.length+j:Nat):Int) by omega,xi k,yt];rw[Xa oh,sbind,Qtn G v u d,sbind,sbind,Z8 oh];refine⟨_,rfl,e++[(x*y+m[j]+w)%4294967296],oc,by simp[g],om,Vg.2 ⟨n,Vo.2 ⟨om,Xj⟩⟩,by have:=Qz5 G v u d;simp only[];omega,?_⟩;rw[W0 k,W0 i,Wg,Wg,Wg,H,g,xk,xk,yz om,yz om,Wz];exact Ji2 _ _ _ _ _ _ _ _ _ _ _ (vu (x*y+m[j]+w) 4294967296) t;rintro⟨o,w⟩ ⟨e,f,g,A,n,d,t⟩;simp only at f d t;subst f;simp only[Xi];rw[w64 om om,show((p.length:Int)+(a.length:Int))=((p.length+a.length:Nat):Int) by omega,xf om,uf];rw[Xa oh,sbind,Z8 oh];refine⟨_,rfl,e++[w],oc,by simp[g],Vg.2 ⟨n,Vo.2 ⟨d,Xj⟩⟩,?_⟩;rw[Wg,g,t,xc om,xc (xn _)]
 obtain⟨r,f,l,g,A,n,d⟩:=E;exact⟨l,by rw[f,g],A,n,d⟩
theorem Qke{n x:Nat}(hn:big<=n)(d:x<18446744073709551616):Qdr n x=some (toL x):=by
 unfold Qdr
 rw[show(2:Nat) ^ 32=4294967296 by rfl,Qaa hn oc,sbind,<-Vp (by
  intro y a;simp only[xg,List.not_mem_nil,or_false] at a
  rcases a with rfl | rfl<;>omega)]
 congr 2;simp only[val];omega
theorem Ji3(P q a r x s y d:Nat)(e:x*q+a=r*P+y)(h:d=x*s+r):y+P*d=x*(q+P*s)+a:=by grind
theorem Q77{n:Nat}{a:List Nat}{x:Nat}(hn:big<=n)(B:a.length<35184372088832)(y:Wd a)(v:x≠0)(A:x<4294967296):Qmm n a x=some (toL (val a / x),val a%x,true):=by
 unfold Qmm;unfold big at hn;rw[bifd,ol v,Qgl om om,sbind]
 refine Qcy (λs=>(s.2.2+1).toNat) (λs=>∃(k:Nat) (e:List Nat),s.2.2=(k:Int) - 1/\k<=a.length/\s.1=List.replicate k 0++e/\e.length=a.length - k/\Wd e/\s.2.1<x/\val (a.drop k)=x*val e+s.2.1)
  (λt=>t.1.length=a.length/\Wd t.1/\t.2<x/\val a=x*val t.1+t.2) ⟨a.length,[],by simp only[];rw[w64 om om],xn _,oc,oc,Xj,by simp only[];omega,by simp[val]⟩ (by simp only[];rw[w64 om om];omega) ?_ ?_
 rintro⟨q,r,i⟩ ⟨k,e,f,m,d,g,w,p,u⟩;simp only at f d p u;subst f d;simp only[bifd];by_cases h0:0<k;obtain⟨j,rfl⟩:∃ j,k=j+1:=⟨k - 1,om⟩
 have l:j<a.length:=om
 left;rw[oo om,show((j+1:Nat):Int) - 1=(j:Nat) by omega,Qcx l,sbind,Q0u p (Qcz y l) A,sbind];simp only[];rw[je,xl,List.singleton_append,Xa oc,sbind,Z8 oc,w64 om om];refine⟨_,rfl,⟨j,((r*4294967296+a[j]) / x)::e,rfl,om,rfl,oh,Vo.2 ⟨?_,w⟩,ui _ om,?_⟩,by simp only[];omega⟩;have:=Qcz y l
 exact dg (by
  have:r*4294967296+4294967296<=x*4294967296:=om
  omega)
 rw[xi l];simp only[val];exact Ji3 4294967296 _ _ _ _ _ _ _ (vu (r*4294967296+a[j]) x) u;right;obtain rfl:k=0:=om
 rw[ol om];exact⟨_,rfl,by simp at g |-;omega,by simpa using w,p,by simpa using u⟩;rintro⟨q,r⟩ ⟨f,m,d,g⟩;simp only at f m d g;simp only[];rw[Zg (by unfold big;exact hn) om,sbind,<-Vp m,g,Nat.mul_add_div om,Nat.mul_add_mod,gn d,xv d,xq]
theorem Zh{n:Nat}{a:List Nat}(hn:big<=n)(j:a.length<=35184372088832):Vd n a=some (trimZ a):=by
 have h:=Qaa hn (show a.length<=4611686018427387904 by omega);have k:=Qbd a;unfold Vd;unfold Qay at h
 cases hk:loopM (λ(d:Int)=>
  jn (λ(e:(Bool)->Option _)=>
   bif decide ((0:Int)<d) then (
    (getI a (wrap64 (d - (1:Int)))).bind λg=>
    e (decide (g=0)))
   else (
    e false)) (λ(f:Bool)=>
   bif f then (
    some (Lp.go (wrap64 (d - (1:Int)))))
   else (
    some (Lp.out d)))) n (a.length:Int) with
 | none=>rw[hk] at h;cases h
 | some t=>
   rw[hk] at h;rw[sbind] at h |-;cases i:sub a (0:Int) t with
   | none=>rw[i] at h;cases h
   | some b=>
     rw[i,sbind] at h;rw[sbind];obtain rfl:b=trimZ a:=by simpa using h
     rw[Vt oh oh,sbind,uf]
theorem Qwe{n:Nat}{a b:List Nat}(hn:big<=n)(g:a.length<=4611686018427387904):Qbw n a b=some (decide (a=b)):=by unfold Qbw;unfold big at hn;rw[bifnd];by_cases f:a.length=b.length;rw[oo om];refine Qcy (λs=>a.length - s.toNat) (λs=>∃ k:Nat,s=k/\k<=a.length/\a.take k=b.take k) (λt=>(t=.go ()/\a=b)\/(t=.out false/\a≠b)) ⟨0,rfl,ya _,oc⟩ om ?_ ?_;rintro s ⟨k,rfl,hk,d⟩;simp only[bifd,bifnd];by_cases h:k<a.length;rw[oo om,Qcx h,sbind,Qcx (show k<b.length by omega),sbind];by_cases e:a[k]=b[k];left;rw[oo e,w64 om om];refine⟨_,rfl,⟨k+1,om,om,?_⟩,om⟩;rw[W0 h,W0 (show k<b.length by omega),d,e];right;rw[ol e];exact⟨_,rfl,.inr ⟨rfl,λh=>e (by simp[h])⟩⟩;right;rw[ol om];refine⟨_,rfl,.inl ⟨rfl,?_⟩⟩;rw[xc om,xc om] at d;exact d;rintro t (⟨rfl,h⟩ | ⟨rfl,h⟩);rw[Xi];simp[h];rw[Z0];simp[h];rw[ol om];have:a≠b:=λh=>f (by rw[h]);simp[this]
theorem Qn9{a:List Nat}(h:Wd a)(i:Nat):a.getD i 0<4294967296:=by rw[xh];by_cases hi:i<a.length;simp[hi];exact Qcz h hi;simp[xa (show a.length<=i by omega)]
theorem Zi(a:List Nat)(k:Nat):val (a.take (k+1))=val (a.take k)+bp k*a.getD k 0:=by by_cases h:k<a.length;rw[W0 h,Wg,xk,yz om];simp[h];rw[xc om,xc om];simp[xa (show a.length<=k by omega)]
theorem Qg6{a:List Nat}{k:Nat}:Xq a (k:Int)=some (a.getD k 0):=by unfold Xq;rw[bifd];by_cases h:k<a.length;rw[oo om,Qcx h,sbind];simp[h];rw[ol om];simp[xa (show a.length<=k by omega)]
theorem Ji4(P s x y u v V A C:Nat)(e:4294967296*u+v=s+(x+y))(h:V+P*s=A+C):V+P*v+P*4294967296*u=A+P*x+(C+P*y):=by grind
theorem Jf9(P Q s o a d:Nat)(_:Nat)(g:o+P*s=a+d)(i:a<Q)(j:d<Q)(f:P=Q*4294967296):s=0:=by rcases dm s with h | h;exact h;exfalso;have e:P*1<=P*s:=vc _ h;omega
theorem Qyr{n:Nat}{a b:List Nat}(hn:big<=n)(G:a.length<17592186044416)(H:b.length<17592186044416)(g:Wd a)(m:Wd b):Qa6 n a b=some (toL (val a+val b)):=by
 unfold Qa6;unfold big at hn;obtain⟨l,I⟩:∃ l:Nat,l=max a.length b.length:=⟨_,rfl⟩
 have f:max (a.length:Int) (b.length:Int)=(l:Int):=om
 have u:a.length<=l:=om
 have v:b.length<=l:=om
 have F:l<17592186044416:=om
 rw[f,w64 om om,show((l:Int)+1)=((l+1:Nat):Int) by omega,Qgl om om,sbind]
 refine Qcy (λs=>(l+1) - s.2.2.toNat) (λs=>∃(k:Nat) (o:List Nat),s.2.2=k/\k<=l+1/\s.1=o++List.replicate (l+1 - k) 0/\o.length=k/\Wd o/\s.2.1<4294967296/\val o+bp k*s.2.1=val (a.take k)+val (b.take k))
  (λt=>t.length=l+1/\Wd t/\val t=val a+val b) ⟨0,[],rfl,om,oc,rfl,Xj,oc,by simp[val,Qau]⟩ (by simp only[];omega) ?_ ?_
 rintro⟨q,s,i⟩ ⟨k,o,r,w,p,e,x,B,d⟩;simp only at r p B d;subst r p;simp only[sbind,bifd];by_cases hk:k<l+1;left;have J:=Qn9 g k;have K:=Qn9 m k;rw[oo om,Qg6,sbind,Qg6,sbind];obtain⟨j,E⟩:∃ j,l+1 - k=j+1:=⟨l - k,om⟩
 rw[E,vn,Xa e,sbind,Z8 e,w64 om om];rw[xv (show a.getD k 0+b.getD k 0<18446744073709551616 by omega),xv (show s+(a.getD k 0+b.getD k 0)<18446744073709551616 by omega),Nat.mod_mod];refine⟨_,rfl,⟨k+1,o++[(s+(a.getD k 0+b.getD k 0))%4294967296],by simp only[];omega,om,?_,by simp[e],Vg.2 ⟨x,Vo.2 ⟨om,Xj⟩⟩,by simp only[];omega,?_⟩,by simp only[];omega⟩;simp only[];rw[show l+1 - (k+1)=j by omega];simp;simp only[];rw[Zi,Zi,Wg,e,Wz];exact Ji4 _ _ _ _ _ _ _ _ _ (vu (s+(a.getD k 0+b.getD k 0)) 4294967296) d;right;obtain rfl:k=l+1:=om
 rw[ol om];refine⟨_,rfl,by simp[e],by simpa using x,?_⟩;rw[xc om,xc om] at d;have C:s=0:=by have g1:=Z3 g;have y:=Z3 m;have g3:bp a.length<=bp l:=bp_le u;have g4:bp b.length<=bp l:=bp_le v;have A:bp (l+1)=bp l*4294967296:=Wz _;exact Jf9 _ _ _ _ _ _ 0 d (xw g1 g3) (xw y g4) A
 rw[C,vh,xq] at d
 simpa using d
 rintro t ⟨r,w,p⟩;rw[Zh (by unfold big;exact hn) om,sbind,<-Vp w,p]
theorem Ji5(P x y m a u v V M A:Nat)(e:4294967296*u+v=a+(x*y+m))(d:V+P*a=M+x*A):V+P*v+P*4294967296*u=M+P*m+x*(A+P*y):=by grind
theorem Jkp(P Q A x b O R c p _ M z:Nat)(a:O=p+P*M)(d:R+Q*c=M+x*b)(e:O=A*b)(f:z=p+P*(R+Q*c)):z=(A+P*x)*b:=by grind
theorem Qdb{n:Nat}{a b:List Nat}(hn:big<=n)(S:a.length<17592186044416)(T:b.length<17592186044416)(F:Wd a)(G:Wd b):Wi n a b=some (toL (val a*val b)):=by
 unfold Wi;unfold big at hn;rw[w64 om om,show((a.length:Int)+(b.length:Int))=((a.length+b.length:Nat):Int) by omega,Qgl om om,sbind]
 refine Qcy (λs=>a.length - s.2.toNat) (λs=>∃(i:Nat) (o:List Nat),s.2=i/\i<=a.length/\s.1=o++List.replicate (a.length - i) 0/\o.length=i+b.length/\Wd o/\val o=val (a.take i)*val b)
  (λt=>t.length=a.length+b.length/\Wd t/\val t=val a*val b) ⟨0,List.replicate b.length 0,rfl,ya _,by simp only[Nat.sub_zero,List.replicate_append_replicate];rw[Nat.add_comm],oc,Qrm om,by rw[Qkd];simp[val]⟩ (by simp only[];omega) ?_ ?_
 rintro⟨q,U⟩ ⟨i,o,y,L,r,P,A,M⟩;simp only at y r;subst y r;simp only[bifd];by_cases hi:i<a.length;left;have J:=Qcz F hi;obtain⟨j,Q⟩:∃ j,a.length - i=j+1:=⟨a.length - i - 1,om⟩
 rw[oo om,Q,vn];obtain⟨p,hp⟩:∃ p,p=o.take i:=⟨_,rfl⟩
 obtain⟨m,B⟩:∃ m,m=o.drop i:=⟨_,rfl⟩
 have O:o=p++m:=by rw[hp,B,vm]
 have f:p.length=i:=by rw[hp,xk];omega
 have R:m.length=b.length:=by rw[B,uy];omega
 have I:Wd p:=by rw[hp];exact Que A
 have H:Wd m:=by rw[B];exact Qp9 A
 have E:val o=val p+bp i*val m:=by rw[O,Zs,f]
 rw[O]
 refine Jf8 (λs=>b.length - s.2.2.toNat) (λs=>∃(k:Nat) (d:List Nat),s.2.2=k/\k<=b.length/\s.1=p++d++(m.drop k++0::List.replicate j 0)/\d.length=k/\Wd d/\s.2.1<4294967296/\val d+bp k*s.2.1=val (m.take k)+a[i]*val (b.take k))
  (λt=>∃ d:List Nat,t.1=p++d++0::List.replicate j 0/\d.length=b.length/\Wd d/\t.2<4294967296/\val d+bp b.length*t.2=val m+a[i]*val b) ⟨0,[],rfl,ya _,oc,rfl,Xj,oc,by simp[val]⟩ (by simp only[];omega) ?_ ?_
 rintro⟨q,u,V⟩ ⟨k,d,g1,v,g3,g4,g,w,l⟩;simp only at g1 g3 w l;subst g1 g3;simp only[];by_cases hk:k<b.length;left;have K:=Qcz G hk;have e:k<m.length:=om
 have C:=Qcz H e;have N:=Qz5 J K C w;rw[oo om,Qcx hi,sbind,Qcx hk,sbind,w64 (x:=(i:Int)+(k:Int)) om om,show((i:Int)+(k:Int))=((i+k:Nat):Int) by omega];rw[xi e,yt,Xa oh,sbind,sbind,sbind,sbind,Z8 oh,sbind,w64 om om];rw[xv (show a[i]*b[k]<18446744073709551616 by omega),xv (show a[i]*b[k]+m[k]<18446744073709551616 by omega),xv (show u+(a[i]*b[k]+m[k])<18446744073709551616 by omega),Nat.mod_mod];refine⟨_,rfl,⟨k+1,d++[(u+(a[i]*b[k]+m[k]))%4294967296],by simp only[];omega,om,oc,by simp[g4],Vg.2 ⟨g,Vo.2 ⟨om,Xj⟩⟩,by simp only[];omega,?_⟩,by simp only[];omega⟩;simp only[];rw[W0 e,W0 hk,Wg,Wg,Wg,g4,xk,xk,yz om,yz om,Wz];exact Ji5 _ _ _ _ _ _ _ _ _ _ (vu (u+(a[i]*b[k]+m[k])) 4294967296) l;right;obtain rfl:k=b.length:=om
 rw[ol om];refine⟨_,rfl,d,by simp only[];rw[xf om];simp,g4,g,w,?_⟩;rw[xc om,xc om] at l;exact l;rintro⟨q,c⟩ ⟨d,g1,v,g3,g4,g⟩;simp only at g1 g4 g;subst g1;rw[w64 (x:=(i:Int)+(b.length:Int)) om om,show((i:Int)+(b.length:Int))=((i+b.length:Nat):Int) by omega];simp only[];rw[Xa oh,sbind,Z8 oh,sbind,w64 om om,xv g4];refine⟨_,rfl,⟨i+1,p++d++[c],by simp only[];omega,om,by simp only[];rw[show a.length - (i+1)=j by omega];simp,by simp[f,v];omega,Vg.2 ⟨Vg.2 ⟨I,g3⟩,Vo.2 ⟨g4,Xj⟩⟩,?_⟩,by simp only[];omega⟩;rw[xl,Zs,Wg,f,v,W0 hi,Wg,xk,yz om];exact Jkp _ _ _ _ _ _ _ _ _ 0 _ _ E g M rfl;right;obtain rfl:i=a.length:=om
 rw[ol om];exact⟨_,rfl,by simp[P],by simpa using A,by simpa using M⟩;rintro t ⟨y,L,r⟩;rw[Zh (by unfold big;exact hn) om,sbind,<-Vp L,r]
def cmpI(x y:Nat):Int:=if x<y then -1 else if y<x then 1 else 0
theorem Jkq{n:Nat}(h:n≠0):bp ((toL n).length - 1)<=n:=by
 induction n using Nat.strongRecOn with
 | _ n g=>
   rw[Qew h,xm,Nat.add_sub_cancel];by_cases a:n / 4294967296=0;rw[a,Yu,yh,Qau];omega;have:=g (n / 4294967296) om a;have i:(toL (n / 4294967296)).length≠0:=by rw[Qew a];simp
   obtain⟨m,d⟩:∃ m,(toL (n / 4294967296)).length=m+1:=⟨(toL (n / 4294967296)).length - 1,om⟩
   rw[d,Nat.add_sub_cancel] at this;rw[d,Wz];have e:bp m*4294967296<=n / 4294967296*4294967296:=xt _ this;have f:n / 4294967296*4294967296<=n:=Nat.div_mul_le_self _ _;exact xe e f
theorem Q6f{m n:Nat}(h:(toL m).length<(toL n).length):m<n:=by
 have a:=Z3 (Jq m);rw[Jc] at a;have hn:n≠0:=by rintro rfl;rw[Yu] at h;simp at h
 have d:=Jkq hn;have e:bp (toL m).length<=bp ((toL n).length - 1):=bp_le om;exact xw a (xe e d)
theorem Jcr(a:List Nat)(k:Nat):val a=val (a.take k)+bp (a.take k).length*val (a.drop k):=by
 conv=>lhs;rw[<-vm k a]
 rw[Zs]
theorem Ji6{P x y u v A:Nat}(f:A<P)(a:x<y)(d:u=A+P*x)(e:P*y<=v):u<v:=by have:P*(x+1)<=P*y:=vc _ a;rw[gt] at this;omega
theorem Q3d{a b:List Nat}{j:Nat}(i:Wd a)(l:j<a.length)(d:j<b.length)(m:a.drop (j+1)=b.drop (j+1))(h:a[j]<b[j]):val a<val b:=by have e:=Jcr a (j+1);have f:=Jcr b (j+1);rw[xk,yz om] at e f;rw[e,f,m];refine Nat.add_lt_add_right ?_ _;rw[W0 l,W0 d,Wg,Wg,xk,xk,yz om,yz om];have g:=Z3 (Que (k:=j) i);rw[xk,yz om] at g;exact Ji6 g h rfl (Nat.le_add_left _ _)
theorem Qnq{n:Nat}{a b:List Nat}(hn:big<=n)(v:a.length<=4611686018427387904)(B:b.length<=4611686018427387904)(g:Wd a)(r:Wd b):Qhu n a b=some (cmpI (val a) (val b)):=by
 unfold Qhu;rw[Qaa hn v,sbind,Qaa hn B,sbind,<-Vp g,<-Vp r];have C:(toL (val a)).length<=4611686018427387904:=by rw[Vp g];exact xe (Qbd a) v
 have e:=Jc (val a);have f:=Jc (val b);have i:=Jq (val a);have l:=Jq (val b);have E:=@Q6f (val a) (val b);have w:=@Q6f (val b) (val a);generalize val a=x at *;generalize val b=y at *;generalize toL x=a' at *;generalize toL y=b' at *;unfold big at hn;rw[bifd,bifd];by_cases A:a'.length<b'.length;rw[oo om,cmpI,oo (E A)];rw[ol om];by_cases u:b'.length<a'.length;rw[oo om,cmpI,ol (by have:=w u;omega),oo (w u)];rw[ol om,w64 om om];refine Qcy (λs=>(s+1).toNat) (λs=>∃ k:Nat,s=(k:Int) - 1/\k<=a'.length/\a'.drop k=b'.drop k) (λt=>(t=.go ()/\a'=b')\/(t=.out (-1)/\x<y)\/(t=.out 1/\y<x)) ⟨a'.length,rfl,xn _,by rw[xf (xn _),xf om]⟩ om ?_ ?_;rintro s ⟨k,rfl,hk,p⟩;simp only[bifd];by_cases h0:0<k;obtain⟨j,rfl⟩:∃ j,k=j+1:=⟨k - 1,om⟩
 have m:j<a'.length:=om
 have d:j<b'.length:=om
 rw[oo om,show((j+1:Nat):Int) - 1=(j:Nat) by omega,Qcx m,sbind,Qcx d,sbind];by_cases g1:a'[j]<b'[j];right;rw[oo g1];refine⟨_,rfl,.inr (.inl ⟨rfl,?_⟩)⟩;rw[<-e,<-f];exact Q3d i m d p g1;rw[ol g1,sbind,sbind];by_cases q:b'[j]<a'[j];right;rw[oo q];refine⟨_,rfl,.inr (.inr ⟨rfl,?_⟩)⟩;rw[<-e,<-f];exact Q3d l d m p.symm q;left;rw[ol q,w64 om om];refine⟨_,rfl,⟨j,rfl,om,?_⟩,om⟩;rw[xi m,xi d,p,show a'[j]=b'[j] by omega];right;obtain rfl:k=0:=om
 rw[ol om];exact⟨_,rfl,.inl ⟨rfl,by simpa using p⟩⟩;rintro t (⟨rfl,h⟩ | ⟨rfl,h⟩ | ⟨rfl,h⟩);rw[Xi];have:x=y:=by rw[<-e,<-f,h]
 simp[cmpI,this];rw[Z0,cmpI,oo h];rw[Z0,cmpI,ol om,oo h]
theorem Jhk{v:Nat}(h:v<18446744073709551616):toL v=[]\/(∃ x,toL v=[x]/\x=v)\/(∃ x y,toL v=[x,y]/\x<4294967296/\y<4294967296/\x+4294967296*y=v):=by
 have f:=Qcc (n:=v) (k:=2) (by rw[Wz,Wz,Qau];omega);have a:=Jc v;have d:=Jq v
 match e:toL v,f with
 | [],_=>exact .inl rfl
 | [x],_=>rw[e] at a;simp[val] at a;exact .inr (.inl ⟨x,rfl,a⟩)
 | [x,y],_=>
   rw[e] at a d;simp[val] at a;exact .inr (.inr ⟨x,y,rfl,(Vo.1 d).1,(Vo.1 (Vo.1 d).2).1,om⟩)
 | _::_::_::_,h=>simp at h
theorem Jep{v:Nat}(h:18446744073709551616<=v):2<(toL v).length:=by rcases xo 2 (toL v).length with a | a;exact a;have d:=Z3 (Jq v);rw[Jc] at d;have e:=bp_le a;rw[Wz,Wz,Qau] at e;omega
theorem Qys{n:Nat}{a:List Nat}(hn:big<=n)(d:a.length<=4611686018427387904)(e:Wd a):Qmn n a=some (if val a<18446744073709551616 then (val a,true) else (0,false)):=by unfold Qmn;rw[Qaa hn d,sbind,<-Vp e,bifd];by_cases h:val a<18446744073709551616;rw[oo h];rcases Jhk h with h1 | ⟨x,h1,h2⟩ | ⟨x,y,h1,h2,h3,h4⟩;have:=Jc (val a);rw[h1] at this |-;rw[ol oz];simp only[val] at this;simp only[rangeL,sbind,Xi,<-this];rw[h1,ol oc];simp only[rangeL];rw[w64 om om,grd_t oz,sbind,sbind,sbind,sbind];simp only[Xi];subst h2;simp;omega;rw[h1,ol oc];simp only[rangeL];rw[w64 (x:=32*((0:Nat):Int)) om om,grd_t oz,sbind,sbind,sbind,w64 om om,grd_t oz];simp only[sbind,Xi];rw[show(2:Nat) ^ min (Int.toNat (32*((0:Nat):Int))) 64=1 by rfl,show(2:Nat) ^ min (Int.toNat (32*((0+1:Nat):Int))) 64=4294967296 by rfl,Nat.mul_one,xv (show x<18446744073709551616 by omega),xv (show y*4294967296<18446744073709551616 by omega),Nat.zero_or,Nat.or_comm,Q76 h2];congr 2;omega;rw[ol h];have:=Jep (v:=val a) om;rw[oo om]
theorem Qpj{x y c:Nat}(d:x<4294967296)(e:y<4294967296)(a:c<4294967296):
 Qc2 x y c=some ((x+y+c)%4294967296,(x+y+c) / 4294967296):=by
 unfold Qc2;simp only[jn_eq,bifd];split<;>split<;>congr 1<;>refine Prod.ext ?_ ?_<;>simp only[]<;>omega
theorem Qto{x y c:Nat}(e:x<4294967296)(f:y<4294967296)(a:c<=1):
 ∃ d b,Qlu x y c=some (d,b)/\d<4294967296/\b<=1/\d+y+c=x+4294967296*b:=by
 unfold Qlu;simp only[jn_eq,bifd,sbind];split<;>split<;>refine⟨_,_,rfl,?_,?_,?_⟩<;>omega
theorem Jhl(P s x y u v V A C:Nat)(e:4294967296*u+v=x+y+s)(h:V+P*s=A+C):V+P*v+P*4294967296*u=A+P*x+(C+P*y):=by grind
theorem Jeq{k:Nat}{b:List Nat}{β:Type}(f:Nat->Option β):(if (k:Int)<(b.length:Int) then (getI b (k:Int)).bind f else f 0)=f (b.getD k 0):=by by_cases h:k<b.length;rw[oo om,Qcx h,sbind];simp[h];rw[ol om];simp[xa (show b.length<=k by omega)]
theorem Jer{n:Nat}{a b:List Nat}(hn:big<=n)(x:a.length<17592186044416)(w:b.length<=a.length)(q:Wd a)(k:Wd b):Qlt n a b=some (toL (val a+val b)):=by
 unfold Qlt;simp only[jn_eq,bifd];rw[ol om];rw[show(1:Int)=((1:Nat):Int) by rfl,Qsc om,sbind];refine Qrl (λj (s:List Nat×Nat)=>∃ f,s.1=f++(List.drop j a++[0])/\f.length=j/\j<=a.length/\Wd f/\s.2<=1/\val f+bp j*s.2=val (a.take j)+val (b.take j)) ⟨[],oc,rfl,ya _,Xj,oc,by simp[val,Qau]⟩ ?_ ?_;rintro j y ⟨o,l⟩ t ⟨f,g,e,v,m,p,i⟩;simp only at g p i;subst g;have d:j<a.length:=by
  rcases xo j a.length with h | h;exact h;simp[xa h] at t
 have u:a[j]=y:=by simpa [d] using t
 have r:y<4294967296:=by rw[<-u];exact Qcz q d
 rw[Jeq,Qpj r (Qn9 k j) (by simp only[];omega),sbind,xi d,yt,Xa e,sbind,Z8 e];refine⟨_,rfl,f++[(y+b.getD j 0+l)%4294967296],oc,by simp[e],om,Vg.2 ⟨m,Vo.2 ⟨om,Xj⟩⟩,?_,?_⟩;have:=Qn9 k j;simp only[];omega;rw[Zi,Zi,Wg,e,Wz];rw[show a.getD j 0=y by rw[<-u];simp[d]];exact Jhl _ _ _ _ _ _ _ _ _ (vu (y+b.getD j 0+l) 4294967296) i;rintro⟨o,l⟩ ⟨f,g,e,v,m,p,i⟩;simp only at g p i;subst g;simp only[Xi];rw[xf (xn _),uf,Xa e,sbind,Z8 e,Qaa hn oh,sbind,<-Vp (Vg.2 ⟨m,Vo.2 ⟨om,Xj⟩⟩),Wg,e,i,xc (xn _),xc w]
theorem Q0v{n:Nat}{a b:List Nat}(hn:big<=n)(f:a.length<17592186044416)(g:b.length<17592186044416)(d:Wd a)(e:Wd b):Qlt n a b=some (toL (val a+val b)):=by by_cases i:b.length<=a.length;exact Jer hn f i d e;rw[Nat.add_comm,<-Jer hn g om e d];unfold Qlt;simp only[jn_eq,bifd];rw[oo om,ol om]
theorem Jcs{n:Nat}{a b:List Nat}(hn:big<=n)(i:a.length<17592186044410)(j:b.length<17592186044410)(d:Wd a)(e:Wd b):Qm9 n [a,b]=some (toL (val a+val b)):=by unfold Qm9;have f:=Q0v (a:=[]) (b:=toL (val a)) hn oc (by have:=Qbd a;rw[Vp d];omega) Xj (Jq _);have g:=Q0v (a:=toL (val a)) (b:=toL (val b)) hn (by have:=Qbd a;rw[Vp d];omega) (by have:=Qbd b;rw[Vp e];omega) (Jq _) (Jq _);rw[Jc] at f g;rw[Jc] at g;simp only[val,xj] at f;simp only[rangeL,Qaa hn (show a.length<=4611686018427387904 by omega),Qaa hn (show b.length<=4611686018427387904 by omega),sbind,<-Vp d,<-Vp e,f,g,Xi]
theorem Qoa{α:Type}{l:List α}{i:Nat}{x:α}(h:l[i]?=some x):i<l.length:=by rcases xo i l.length with a | a;exact a;rw[xa a] at h;cases h
theorem W8{x y:Nat}(h:x<=y):(toL x).length<=(toL y).length:=by refine Qcc ?_;have:=Z3 (Jq y);rw[Jc] at this;omega
theorem Q4x(P c a x y d V A B:Nat)(e:d+y+c=x+4294967296*a)(h:V+B=A+P*c):V+P*d+(B+P*y)=A+P*x+P*4294967296*a:=by grind
theorem Q2e{n:Nat}{a b:List Nat}(hn:big<=n)(K:a.length<17592186044416)(L:b.length<17592186044416)(m:Wd a)(q:Wd b):
 Qsw n a b=some (if val a<val b then ([],false) else (toL (val a - val b),true)):=by
 unfold Qsw;have M:(toL (val a)).length<17592186044416:=by rw[Vp m];exact ye (Qbd a) K
 have N:(toL (val b)).length<17592186044416:=by rw[Vp q];exact ye (Qbd b) L
 rw[Qaa hn om,sbind,Qaa hn om,sbind,<-Vp m,<-Vp q,Qnq hn om om (Jq _) (Jq _),sbind,Jc,Jc];have B:=Jc (val a);have C:=Jc (val b);have p:=Jq (val a);have r:=Jq (val b);have A:=λh=>W8 (x:=val b) (y:=val a) h;generalize val a=x at *;generalize val b=y at *;generalize toL x=a' at *;generalize toL y=b' at *;rw[bifd];by_cases f:x<y;rw[oo (by rw[cmpI,oo f];decide),oo f];rw[ol (by rw[cmpI,ol f];split<;>decide),ol f];have A:=A om;simp only[jn_eq,bifd];rw[show(0:Int)=((0:Nat):Int) by rfl,Qsc om,sbind];refine Qrl (λj (s:List Nat×Nat)=>∃ g,s.1=g++List.drop j a'/\g.length=j/\j<=a'.length/\Wd g/\s.2<=1/\val g+val (b'.take j)=val (a'.take j)+bp j*s.2) ⟨[],oc,rfl,ya _,Xj,oc,by simp[val]⟩ ?_ ?_;rintro j w ⟨o,t⟩ F ⟨g,l,i,I,u,v,k⟩;simp only at l v k;subst l;have e:j<a'.length:=Qoa F;have G:a'[j]=w:=by simpa [e] using F
 have E:w<4294967296:=by rw[<-G];exact Qcz p e
 obtain⟨d,O,g1,H,g3,g4⟩:=Qto E (Qn9 r j) v;rw[Jeq,g1,sbind,xi e,Xa i,sbind,Z8 i];refine⟨_,rfl,g++[d],oc,by simp[i],om,Vg.2 ⟨u,Vo.2 ⟨H,Xj⟩⟩,g3,?_⟩;rw[Zi,Zi,Wg,i,Wz];rw[show a'.getD j 0=w by rw[<-G];simp[e]];exact Q4x _ _ _ _ _ _ _ _ _ g4 k;rintro⟨o,t⟩ ⟨g,l,i,I,u,v,k⟩;simp only at l v k;subst l;simp only[Xi];rw[xc (xn _),xc A,B,C] at k;rw[xf (xn _),vj,Qaa hn om,sbind,<-Vp u];have J:t=0:=by
  have g1:=Z3 u;rw[i] at g1;rcases dm t with h | h;exact h;have P:bp a'.length*1<=bp a'.length*t:=vc _ h;omega
 subst J;rw[vh] at k;congr 3;omega
theorem Jct{n:Nat}{a b:List Nat}(hn:big<=n)(f:a.length<17592186044416)(g:b.length<17592186044416)(d:Wd a)(e:Wd b):
 Qsx n a b=some (toL (val a - val b+(val b - val a)),cmpI (val a) (val b)):=by
 unfold Qsx;rw[Qnq hn om om d e,sbind];simp only[jn_eq,bifd];by_cases h:val a<val b;rw[oo (by rw[cmpI,oo h];decide),Q2e hn g f e d,ol om,sbind];rw[show val a - val b+(val b - val a)=val b - val a by omega];rw[ol (by rw[cmpI,ol h];split<;>decide),Q2e hn f g d e,ol h,sbind];rw[show val a - val b+(val b - val a)=val a - val b by omega]
def blen(x:Nat):Nat:=if x=0 then 0 else Nat.log2 x+1
theorem Qlr:blen 0=0:=by unfold blen;rw[oo rfl]
theorem Q78{x k:Nat}(a:2 ^ k<=x)(d:x<2 ^ (k+1)):blen x=k+1:=by
 have h0:x≠0:=by have:=ug k;omega
 unfold blen;rw[ol h0,(Nat.log2_eq_iff h0).2 ⟨a,d⟩]
theorem Quf{x:Nat}:x<2 ^ blen x:=by unfold blen;by_cases h0:x=0;rw[oo h0,h0];decide;rw[ol h0];exact Nat.lt_log2_self
theorem Qsd{x:Nat}(h0:x≠0):2 ^ (blen x - 1)<=x:=by unfold blen;rw[ol h0];exact Nat.log2_self_le h0
theorem Qz6{x:Nat}(h0:x≠0):1<=blen x:=by unfold blen;rw[ol h0];omega
theorem Jcu{x w:Nat}(h:x / 2 ^ w≠0):blen x=blen (x / 2 ^ w)+w:=by
 have a:=Qsd h;have d:=Quf (x:=x / 2 ^ w);have e:=Qz6 h;obtain⟨k,hk⟩:∃ k,blen (x / 2 ^ w)=k+1:=⟨_,(Nat.sub_add_cancel e).symm⟩
 rw[hk,Nat.add_sub_cancel] at a;rw[hk] at d |-;rw[show k+1+w=(k+w)+1 by omega];refine Q78 ?_ ?_;rw[wc];exact(Nat.le_div_iff_mul_le (ug w)).1 a;rw[show k+w+1=(k+1)+w by omega,wc];exact(jy (ug w)).1 d
theorem Q0w{n x:Nat}(hn:big<=n)(m:x<4294967296):Qn2 n x=some (blen x:Int):=by
 unfold Qn2;unfold big at hn
 refine Qcy (λs=>s.2.2.toNat) (λs=>∃(w k B:Nat),s.2.2=w/\s.2.1=k/\(w,B)∈[(16,4294967296),(8,65536),(4,256),(2,16),(1,4),(0,2)]/\s.1<B/\k+2*w<=32/\blen x=k+blen s.1)
  (λt=>∃ k:Nat,t.2=k/\k<=32/\t.1<2/\blen x=k+blen t.1) ⟨16,0,4294967296,rfl,rfl,oz,m,oz,oc⟩ (by simp only[];omega) ?_ ?_
 rintro⟨y,c,w'⟩ ⟨w,k,B,d,i,e,a,p,f⟩;simp only at d i a f;subst d i;simp only[jn_eq,bifd,bifnd];by_cases h0:0<w;left;rw[oo om,grd_t oc,sbind,sbind,yo];have q:w<=16:=om
 have hd:Int.tdiv (w:Int) 2=((w / 2:Nat):Int):=oa
 rw[hd,yz om,w64 (x:=((w / 2:Nat):Int)) om om,w64 om om];have l:∃ B',(w / 2,B')∈[(16,4294967296),(8,65536),(4,256),(2,16),(1,4),(0,2)]/\B'*2 ^ w=B/\(2 ^ w<=B'):=by simp only[xg,List.not_mem_nil,or_false,Prod.mk.injEq] at e;rcases e with ⟨rfl,rfl⟩ | ⟨rfl,rfl⟩ | ⟨rfl,rfl⟩ | ⟨rfl,rfl⟩ | ⟨rfl,rfl⟩ | ⟨rfl,rfl⟩;exact⟨65536,oz,oz,oz⟩;exact⟨256,oz,oz,oz⟩;exact⟨16,oz,oz,oz⟩;exact⟨4,oz,oz,oz⟩;exact⟨2,oz,oz,oz⟩;omega
 obtain⟨B',g1,j,g3⟩:=l;by_cases g:y / 2 ^ w=0;rw[oo g];refine⟨_,rfl,⟨w / 2,k,B',rfl,rfl,g1,?_,om,f⟩,by simp only[];omega⟩;have:=(Nat.div_eq_zero_iff_lt (ug w)).1 g;exact xw this g3;rw[ol g];refine⟨_,rfl,⟨w / 2,k+w,B',rfl,by simp only[];omega,g1,?_,om,?_⟩,by simp only[];omega⟩;rw[<-j] at a;exact(jy (ug w)).2 a;rw[f,Jcu g];simp only[];omega;right;obtain rfl:w=0:=om
 rw[ol om];simp only[xg,List.not_mem_nil,or_false,Prod.mk.injEq] at e;refine⟨_,rfl,k,rfl,om,by simp only[];omega,f⟩;rintro⟨y,c⟩ ⟨k,d,i,e,a⟩;simp only at d e a;subst d;rw[a,w64 (by simp only[];omega) (by simp only[];omega)];have:blen y=y:=by
  have:y=0\/y=1:=om
  rcases this with rfl | rfl;rw[Qlr];exact Q78 (k:=0) oz oz
 rw[this];simp
theorem Qo9(k:Nat):bp k=2 ^ (32*k):=by unfold bp;rw[Nat.pow_mul]
theorem Q4y{v:Nat}(h:toL v≠[]):∃ p x,toL v=p++[x]/\x≠0/\x<4294967296/\Wd p:=by have a:=Jq v;rcases jz (toL v) with h0 | ⟨p,x,h1⟩;exact absurd h0 h;rw[ja] at h1;refine⟨p,x,h1,?_,?_,?_⟩;rintro rfl;have d:=Jhi v;rw[h1,Qxu] at d;have:=Qbd p;rw[d] at this;simp at this;omega;rw[h1] at a;exact(Vo.1 (Vg.1 a).2).1;rw[h1] at a;exact(Vg.1 a).1
theorem Jhm{p:List Nat}{x:Nat}(hp:Wd p)(d:x≠0):blen (val (p++[x]))=32*p.length+blen x:=by
 have a:=Z3 hp;have hd:val (p++[x]) / 2 ^ (32*p.length)=x:=by rw[<-Qo9,Wg,jf _ _ (Jhh _),gn a,xj]
 rw[Jcu (w:=32*p.length) (by rw[hd];exact d),hd,Nat.add_comm]
theorem Q0x{n:Nat}{a:List Nat}(hn:big<=n)(m:a.length<17592186044416)(e:Wd a):Qjf n a=some (blen (val a):Int):=by
 unfold Qjf;rw[Zg hn om,sbind,<-Vp e,bifd];have g:(toL (val a)).length<17592186044416:=by rw[Vp e];exact ye (Qbd a) m
 by_cases h:toL (val a)=[]
 rw[oo (by rw[h];rfl)];rw[Vp e] at h;rw[Q9k h,Qlr];rfl;rw[ol (by intro q;exact h (ow om))];obtain⟨p,x,d,f,k,l⟩:=Q4y h;have i:val a=val (p++[x]):=by rw[<-d,Jc]
 rw[i,Jhm l f];rw[i] at d g;rw[d] at g;rw[d,yy,vv] at *;rw[w64 (x:=((p.length+1:Nat):Int) - 1) om om,show((p.length+1:Nat):Int) - 1=(p.length:Nat) by omega,Xa rfl,sbind,Q0w hn k,sbind,sbind];have r:blen x<=32:=by rcases xo 32 (blen x) with h | h;have g1:=Qsd f;have j:2 ^ 32<=2 ^ (blen x - 1):=dc oz om;rw[show(2:Nat) ^ 32=4294967296 by decide] at j;omega;exact h
 rw[w64 (x:=32*(p.length:Int)) om om,w64 om om];congr 1
theorem Jhn(P M R x A B m V:Nat)(a:V=M+P*m)(d:R=m+x*A+0)(e:V=A*B):M+P*R=A*(B+P*x):=by grind
theorem Qi5{n:Nat}{a b:List Nat}(hn:big<=n)(E:a.length<8796093022208)(F:b.length<8796093022208)(l:Wd a)(t:Wd b):Qee n a b=some (toL (val a*val b)):=by
 unfold Qee;rw[w64 (x:=(a.length:Int)+(b.length:Int)) om om,w64 om om,show((a.length:Int)+(b.length:Int))+1=((a.length+b.length+1:Nat):Int) by omega,Qgl om om,sbind];refine Qrl (λj (s:List Nat)=>∃ d,s=d++List.replicate (b.length+1 - j) 0/\d.length=j+a.length/\j<=b.length/\Wd d/\val d=val a*val (b.take j)) ⟨List.replicate a.length 0,by rw[List.replicate_append_replicate];congr 1,oc,ya _,Qrm om,by simp[val,Qkd]⟩ ?_ ?_
 . rintro j x o v ⟨d,i,y,A,g,k⟩
   subst i;have e:j<b.length:=Qoa v;have w:b[j]=x:=by simpa [e] using v
   have u:x<4294967296:=by rw[<-w];exact Qcz t e
   obtain⟨r,g1,C,g3,g4⟩:=Jar (p:=d.take j) (m:=d.drop j) (q:=List.replicate (b.length - j) 0) (a:=a) (z:=0) (x:=x) (c:=0) oh oh (Qp9 g) l u om;have f:(d.take j).length=j:=oh
   rw[f,vm] at g1;rw[show b.length+1 - j=(b.length - j)+1 by omega,vn,g1,sbind];refine⟨_,rfl,d.take j++r,by rw[show b.length+1 - (j+1)=b.length - j by omega],oh,om,Vg.2 ⟨Que g,g3⟩,?_⟩;have B:val d=val (d.take j)+bp j*val (d.drop j):=by
    conv=>lhs;rw[<-vm j d]
    rw[Zs,f]
   rw[Zs,f,Zi,show b.getD j 0=x by rw[<-w];simp[e]];exact Jhn _ _ _ _ _ _ _ _ B g4 k
 . rintro o ⟨d,i,y,A,g,k⟩
   subst i;simp only[Xi];rw[Zg hn oh,sbind,<-Vp (Vg.2 ⟨g,Qrm om⟩),Zs,Qkd,vh,xq,k,xc (xn _)]
theorem lo_eq{x r:Nat}(hr:r<=32):(x*2 ^ r)%4294967296=(x%2 ^ (32 - r))*2 ^ r:=by rw[show(4294967296:Nat)=2 ^ (32 - r)*2 ^ r by rw[<-wc,show 32 - r+r=32 by omega],Nat.mul_mod_mul_right]
theorem or_lo{c x r:Nat}(hr:r<=32)(a:c<2 ^ r):c ||| (x*2 ^ r)%4294967296=c+(x*2 ^ r)%4294967296:=by rw[lo_eq hr,Nat.or_comm,vp,<-Nat.two_pow_add_eq_or_of_lt a,Nat.add_comm]
theorem hi_lt{x r:Nat}(a:x<4294967296):(x*2 ^ r) / 4294967296<2 ^ r:=
 dg (Nat.mul_lt_mul_of_pos_right a (ug r))
theorem Qz7{r:Nat}(hr:r<=32):2 ^ r<=4294967296:=by have h:2 ^ r<=2 ^ 32:=dc oz hr;rwa [show(2:Nat) ^ 32=4294967296 by rfl] at h
theorem sh_lt{x r:Nat}(hr:r<=32)(a:x<4294967296):x*2 ^ r<18446744073709551616:=by have h:=Qz7 hr;have:x*2 ^ r<=4294967295*4294967296:=gi om h;omega
theorem Jkr(P c V A R x lo hi:Nat)(e:4294967296*hi+lo=x*R)(h:V+P*c=A*R):V+P*(c+lo)+P*4294967296*hi=(A+P*x)*R:=by grind
theorem Q2f{n k:Nat}{a:List Nat}(hn:big<=n)(I:a.length<8796093022208)(G:Wd a)(hk:k<=4096):Qna n a (k:Int)=some (toL (val a*2 ^ k)):=by
 unfold Qna;rw[show min (max (k:Int) 0) 4096=(k:Int) by omega];rw[show Int.tdiv (k:Int) 32=((k / 32:Nat):Int) by rfl,show Int.tmod (k:Int) 32=((k%32:Nat):Int) by rfl];have hp:2 ^ k=bp (k / 32)*2 ^ (k%32):=by rw[Qo9,<-wc,vu]
 have H:k / 32<=128:=om
 have hr:k%32<=31:=om
 rw[hp];generalize k / 32=w at *;generalize k%32=r at *;rw[w64 (x:=(w:Int)) om om,sbind,w64 (x:=(w:Int)+(a.length:Int)) om om,w64 om om,show(w:Int)+(a.length:Int)+1=((w+a.length+1:Nat):Int) by omega,Qgl om om,sbind];refine Qrl (λj (s:List Nat)=>∃ e c,s=(List.replicate w 0++e)++c::List.replicate (a.length - j) 0/\e.length=j/\j<=a.length/\Wd e/\c<2 ^ r/\val e+bp j*c=val (a.take j)*2 ^ r) ⟨[],0,by rw[vj,<-vn,List.replicate_append_replicate];congr 1,rfl,ya _,Xj,ug r,by simp[val]⟩ ?_ ?_;rintro j x s v ⟨e,c,p,m,F,q,u,t⟩;subst p;have g:j<a.length:=Qoa v;have A:a[j]=x:=by simpa [g] using v
 have i:x<4294967296:=by rw[<-A];exact Qcz G g
 have f:(List.replicate w 0++e).length=w+j:=oh
 have g1:=sh_lt (r:=r) om i;have E:=hi_lt (r:=r) i;have g3:=Qz7 (r:=r) om;have g4:=or_lo (x:=x) (show r<=32 by omega) u;rw[grd_t oc,sbind,yo,yz om,xv g1,sbind,w64 (x:=(w:Int)+(j:Int)) om om,sbind,show(w:Int)+(j:Int)=((w+j:Nat):Int) by omega];rw[Xa f,sbind,sbind,sbind,Z8 f,g4,show(2:Nat) ^ 32=4294967296 by rfl,xv (show x*2 ^ r / 4294967296<4294967296 by omega)];obtain⟨d,hd⟩:∃ d,a.length - j=d+1:=⟨a.length - j - 1,om⟩
 rw[w64 om om,show((w+j:Nat):Int)+1=((w+j+1:Nat):Int) by omega,hd,vn];rw[show ∀(y:Nat) (l:List Nat),List.replicate w 0++e++y::l=(List.replicate w 0++(e++[y]))++l by intro y l;simp];have hlen2:(List.replicate w 0++(e++[c+x*2 ^ r%4294967296])).length=w+j+1:=oh
 rw[Xa hlen2,sbind,Z8 hlen2,sbind];refine⟨_,rfl,e++[c+x*2 ^ r%4294967296],x*2 ^ r / 4294967296,by rw[show a.length - (j+1)=d by omega],by simp[m],om,Vg.2 ⟨q,Vo.2 ⟨?_,Xj⟩⟩,E,?_⟩;rw[lo_eq om];have B:x%2 ^ (32 - r)+1<=2 ^ (32 - r):=ui _ (ug _);have C:=xt (2 ^ r) B;rw[<-wc,show 32 - r+r=32 by omega,show(2:Nat) ^ 32=4294967296 by rfl,Nat.add_mul,Nat.one_mul] at C;omega;rw[Zi,Wg,m,Wz,show a.getD j 0=x by rw[<-A];simp[g]];exact Jkr _ _ _ _ _ _ _ _ (vu (x*2 ^ r) 4294967296) t;rintro s ⟨e,c,p,m,F,q,u,t⟩;subst p;simp only[Xi];have g3:=Qz7 (r:=r) om;rw[Zg hn oh,sbind,<-Vp (Vg.2 ⟨Vg.2 ⟨Qrm om,q⟩,Vo.2 ⟨om,Qrm om⟩⟩)];rw[xl,Zs,Qkd,ur,xj,Zs];simp only[val];rw[Qkd,m,vh,xq,t,xc (xn _),Nat.mul_left_comm]
theorem Qwf{a:List Nat}(e:Wd a)(k:Nat):val a / bp k=val (a.drop k):=by
 rcases xo k a.length with h | h
 . have f:val a=val (a.take k)+bp k*val (a.drop k):=by
    conv=>lhs;rw[<-vm k a]
    rw[Zs,xk,yz om]
   have d:=Z3 (Que (k:=k) e);rw[xk,yz om] at d;rw[f,jf _ _ (Jhh k),gn d,xj]
 . rw[xf h]
   exact gn (xw (Z3 e) (bp_le h))
theorem Jho{a:List Nat}{k:Nat}(h:k<a.length):val (a.drop k)=a[k]+4294967296*(a.getD (k+1) 0+4294967296*val (a.drop (k+2))):=by rw[xi h];simp only[val];by_cases d:k+1<a.length;rw[xi d];simp[val,d];rw[xf om,xf om];simp[xa (show a.length<=k+1 by omega),val]
theorem Ji7{v z r:Nat}(hr:r<=32):((v+4294967296*4294967296*z) / 2 ^ r)%4294967296=(v / 2 ^ r)%4294967296:=by
 rw[show 4294967296*4294967296*z=2 ^ r*(4294967296*(2 ^ (32 - r)*z)) by
  have:2 ^ r*2 ^ (32 - r)=4294967296:=by rw[<-wc,show r+(32 - r)=32 by omega]
  calc 4294967296*4294967296*z=(2 ^ r*2 ^ (32 - r))*4294967296*z:=by rw[this]
   _=_:=by grind]
 rw[jf _ _ (ug r),Nat.add_mul_mod_self_left]
theorem Ji8{k:Nat}{b:List Nat}{x:Nat}{β:Type}(f:Nat->Option β)(a:Wd b)(d:x<4294967296):(if ((k:Nat):Int)<(b.length:Int) then (getI b (k:Int)).bind (λy=>f (x ||| (y*2 ^ 32)%18446744073709551616)) else f x)=f (x+4294967296*b.getD k 0):=by by_cases h:k<b.length;rw[oo om,Qcx h,sbind];have e:=Qcz a h;rw[show(2:Nat) ^ 32=4294967296 by rfl,xv om,Nat.or_comm,Q76 d,vp,Nat.add_comm];simp[h];rw[ol om];simp[xa (show b.length<=k by omega)]
theorem Ji9(X P:Nat):X%P+P*(X / P%4294967296)=X%(P*4294967296):=by rw[Nat.mod_mul]
theorem Q79{n k:Nat}{a:List Nat}(hn:big<=n)(A:a.length<8796093022208)(i:Wd a)(hk:k<=4611686018427387904):Qop n a (k:Int)=some (toL (val a / 2 ^ k)):=by
 unfold Qop;rw[show max (k:Int) 0=(k:Int) by omega];rw[show Int.tdiv (k:Int) 32=((k / 32:Nat):Int) by rfl,show Int.tmod (k:Int) 32=((k%32:Nat):Int) by rfl];have hp:2 ^ k=bp (k / 32)*2 ^ (k%32):=by rw[Qo9,<-wc,vu]
 have hr:k%32<=31:=om
 have y:k / 32<=4611686018427387904:=om
 rw[hp];generalize k / 32=w at *;generalize k%32=r at *;rw[<-wg,Qwf i];rw[w64 (x:=(w:Int)) om om,sbind,bifd];by_cases q:a.length<=w;rw[oo om,xf q];simp[val,Yu];rw[ol om,w64 (x:=(a.length:Int) - (w:Int)) om om,sbind,show(a.length:Int) - (w:Int)=((a.length - w:Nat):Int) by omega,Qgl om om,sbind];refine Qrl (λj (s:List Nat)=>∃ e,s=e++List.replicate (a.length - w - j) 0/\e.length=j/\Wd e/\val e=(val (a.drop w) / 2 ^ r)%bp j) ⟨[],oc,rfl,Xj,by simp[val,Qau,Nat.mod_one]⟩ ?_ ?_;rintro j x s t ⟨e,m,g,p,l⟩;subst m;have u:j<a.length - w:=by have:=Qoa t;simpa using this
 have f:w+j<a.length:=om
 simp only[jn_eq,bifd];rw[w64 (x:=(w:Int)+(j:Int)) om om,show(w:Int)+(j:Int)=((w+j:Nat):Int) by omega,sbind,Qcx f,sbind,sbind,w64 (x:=((w+j:Nat):Int)+1) om om,show((w+j:Nat):Int)+1=((w+j+1:Nat):Int) by omega];simp only[sbind];rw[w64 (x:=((w+j:Nat):Int)+1) om om,show((w+j:Nat):Int)+1=((w+j+1:Nat):Int) by omega];rw[Ji8 (β:=Lp (List Nat) (List Nat)) (λ(v:Nat)=>(grd (decide (0<=(r:Int)))).bind λ_=>(getI (e++List.replicate (a.length - w - j) 0) (j:Int)).bind λ_=>some (Lp.go (List.set (e++List.replicate (a.length - w - j) 0) (Int.toNat (j:Int)) (v / 2 ^ (min (Int.toNat (r:Int)) 64)%4294967296)))) i (Qcz i f)];rw[grd_t oc,sbind,yo (n:=r),yz om];obtain⟨d,hd⟩:∃ d,a.length - w - j=d+1:=⟨a.length - w - j - 1,om⟩
 rw[hd,vn,Xa g,sbind,Z8 g];refine⟨_,rfl,e++[(a[w+j]+4294967296*a.getD (w+j+1) 0) / 2 ^ r%4294967296],by rw[show a.length - w - (j+1)=d by omega];simp,by simp[g],Vg.2 ⟨p,Vo.2 ⟨om,Xj⟩⟩,?_⟩;rw[Wg,g,Wz,<-Ji9,l,wg (val (a.drop w)),vp (2 ^ r) (bp j),<-wg (val (a.drop w)),Qwf (Qp9 i),List.drop_drop,Jho f,gt,<-jk,<-um,Ji7 om];rintro s ⟨e,m,g,p,l⟩;subst m;simp only[Xi];rw[ur] at g l;rw[ur,Nat.sub_self,List.replicate_zero,vj,Zg hn om,sbind,<-Vp p,l,xv];have:=Z3 (Qp9 (k:=w) i);rw[uy] at this;exact ye (gf _ _) this
theorem Jes{q r a d x2 e x4:Nat}(f:q*e+r=a*4294967296+d)(g:q*x4<=r*4294967296+x2):q*(e*4294967296+x4)<=(a*4294967296+d)*4294967296+x2:=by rw[<-f];grind
theorem Jks{q r a d x2 e x4:Nat}(f:(q+1)*e+r=a*4294967296+d)(g:r*4294967296+x2<(q+1)*x4):(a*4294967296+d)*4294967296+x2<(q+1)*(e*4294967296+x4):=by rw[<-f];grind
theorem Jkt{q r a:Nat}{U:Nat}(d:(q+1)*a+r=U):q*a+(r+a)=U:=by rw[<-d];grind
theorem Jet{q r a d x2 e x4:Nat}(f:q*e+r=a*4294967296+d)(hr:4294967296<=r)(j:q<4294967296)(i:x4<4294967296):q*(e*4294967296+x4)<=(a*4294967296+d)*4294967296+x2:=by have g:q*x4<=4294967295*4294967295:=gi om om;exact Jes f om
theorem Jna{X u w x2:Nat}(h:X<u)(a:x2<4294967296):X*4294967296+x2<u*4294967296+w:=om
theorem Jnb{q d e x2 a x4:Nat}(h:d*4294967296+e<(q+1)*a)(g:x2<4294967296):(d*4294967296+e)*4294967296+x2<(q+1)*(a*4294967296+x4):=by
 have f:(q+1)*(a*4294967296+x4)=((q+1)*a)*4294967296+(q+1)*x4:=by rw[gt,um]
 rw[f];exact Jna h g
theorem Q6g{n m w f g x2 e x4:Nat}(hn:big<=n)(K:x2<4294967296)(G:e<4294967296)(C:x4<4294967296)(I:m<4294967296)(hr:w<4294967296)
 (H:m*e+w=f*4294967296+g) (E:m+1=4294967296\/(f*4294967296+g)*4294967296+x2<(m+1)*(e*4294967296+x4)) :
 ∃ q,(loopM (λ(d:Nat×Nat)=>
   (Qhg d.1 x4 0 0).bind λj=>
   jn (λ(i:(Bool)->Option _)=>
    bif decide (j.1<d.2) then (
     i true)
    else (
     bif decide (j.1=d.2) then (
      i (decide (j.2<=x2)))
     else (
      i false))) (λ(x:Bool)=>
    bif x then (
     some (Lp.out d.1))
    else (
     (Qc2 d.2 e 0).bind λa=>
     bif decide (0<a.2) then (
      some (Lp.out ((d.1+4294967296 - 1)%4294967296)))
     else (
      some (Lp.go (((d.1+4294967296 - 1)%4294967296),a.1)))))) n (m,w)).bind (λ(y:Nat)=>some y)=some q /\
   (q<4294967296/\q*(e*4294967296+x4)<=(f*4294967296+g)*4294967296+x2/\(q+1=4294967296\/(f*4294967296+g)*4294967296+x2<(q+1)*(e*4294967296+x4))):=by
 unfold big at hn
 refine Qjv (λs=>s.1) (λs=>s.1<4294967296/\s.2<4294967296/\s.1*e+s.2=f*4294967296+g/\(s.1+1=4294967296\/(f*4294967296+g)*4294967296+x2<(s.1+1)*(e*4294967296+x4)))
  (λq=>q<4294967296/\q*(e*4294967296+x4)<=(f*4294967296+g)*4294967296+x2/\(q+1=4294967296\/(f*4294967296+g)*4294967296+x2<(q+1)*(e*4294967296+x4))) ⟨I,hr,H,E⟩ (by simp only[];omega) ?_ (λt J=>⟨t,rfl,J⟩)
 rintro⟨q,r⟩ ⟨g1,B,g3,g4⟩;simp only at g1 B g3 g4;simp only[jn_eq,bifd];rw[Qtn g1 C om om,sbind];simp only[xq]
 have v:(bif decide (q*x4<=r*4294967296+x2) then some (Lp.out q) else
  (Qc2 r e 0).bind λa=>if 0<a.2 then some (Lp.out ((q+4294967296 - 1)%4294967296)) else some (Lp.go ((q+4294967296 - 1)%4294967296,a.1)):Option (Lp (Nat×Nat) Nat)) =
  (if q*x4 / 4294967296<r then bif true then some (Lp.out q) else
   (Qc2 r e 0).bind λa=>if 0<a.2 then some (Lp.out ((q+4294967296 - 1)%4294967296)) else some (Lp.go ((q+4294967296 - 1)%4294967296,a.1))
   else if q*x4 / 4294967296=r then if q*x4%4294967296<=x2 then some (Lp.out q) else
    (Qc2 r e 0).bind λa=>if 0<a.2 then some (Lp.out ((q+4294967296 - 1)%4294967296)) else some (Lp.go ((q+4294967296 - 1)%4294967296,a.1))
   else bif false then some (Lp.out q) else
    (Qc2 r e 0).bind λa=>if 0<a.2 then some (Lp.out ((q+4294967296 - 1)%4294967296)) else some (Lp.go ((q+4294967296 - 1)%4294967296,a.1))):=by
  have hd:=vu (q*x4) 4294967296;have E:=ui (q*x4) (show 4294967296 > 0 by decide);by_cases c1:q*x4 / 4294967296<r;rw[oo c1,oi om];rw[ol c1];by_cases A:q*x4 / 4294967296=r;rw[oo A,<-bifd];congr 1;exact gr.2 om;rw[ol A,oj om]
 rw[<-v,bifd];by_cases p:q*x4<=r*4294967296+x2;right;rw[oo p];exact⟨q,rfl,g1,Jes g3 p,g4⟩;rw[ol p,Qpj B G om,sbind]
 obtain⟨q',rfl⟩:∃ q',q=q'+1:=⟨q - 1,by
  have:q≠0:=by rintro rfl;simp at p
  omega⟩
 have u:(q'+1+4294967296 - 1)%4294967296=q':=om
 have l:=Jks (x2:=x2) (x4:=x4) g3 om;have k:=Jkt g3;simp only[xq];rw[u];by_cases F:0<(r+e) / 4294967296;right;rw[oo F];exact⟨q',rfl,om,Jet k om om C,.inr l⟩;left;rw[ol F];refine⟨_,rfl,⟨by simp only[];omega,by simp only[];omega,?_,.inr l⟩,by simp only[];omega⟩;simp only[];rw[xv om];exact k
theorem Q6h{n a e x2 d x4:Nat}(hn:big<=n)(h0:a<=d)(k:e<4294967296)(g:x2<4294967296)(f:d<4294967296)(i:x4<4294967296)(r:d≠0):
 ∃ q,Qkx n a e x2 d x4=some q/\(q<4294967296/\q*(d*4294967296+x4)<=(a*4294967296+e)*4294967296+x2/\(q+1=4294967296\/(a*4294967296+e)*4294967296+x2<(q+1)*(d*4294967296+x4))):=by
 unfold Qkx;by_cases j:a<d;rw[Q0u j k f,sbind]
 have p:(a*4294967296+e) / d<4294967296:=dg (by
  have:a*4294967296+4294967296<=d*4294967296:=om
  omega)
 have hr:(a*4294967296+e)%d<d:=ui _ om;exact Q6g hn g f i p (Nat.lt_trans hr f) (by rw[vp];exact vu _ _) (.inr (Jnb ((jy om).1 (Nat.lt_succ_self _)) g));obtain rfl:a=d:=om
 rw[show Qjd a e a=some (0,0,false) by unfold Qjd;rw[bifd,oo om],sbind];rw[jn_eq];simp only[ov,bifT];rw[Qpj k f om,sbind,jn_eq,bifd,ol om];simp only[xq];rw[bifd];have l:4294967295*a+(e+a)=a*4294967296+e:=om
 by_cases m:0<(e+a) / 4294967296;rw[oo m];exact⟨_,rfl,om,Jet l om om i,.inl rfl⟩;rw[ol m,xv om];exact Q6g hn g f i om om l (.inl rfl)
theorem Q9l(P M c b d lo hi a q y u V W:Nat)(e:4294967296*hi+lo=q*y+c)(f:d+lo+b=u+4294967296*a)(h:W+q*V=M+P*(c+b)):W+P*d+q*(V+P*y)=M+P*u+P*4294967296*(hi+a):=by
 have g:P*d+P*lo+P*b=P*u+P*4294967296*a:=by rw[<-gt,<-gt,f];grind
 have i:P*4294967296*hi+P*lo=P*(q*y)+P*c:=by rw[<-gt,<-e];grind
 grind
theorem Q8a{p m q' v:List Nat}{z q:Nat}(M:m.length=v.length)(hp:p.length+m.length+1+q'.length<=4611686018427387904)(F:Wd m)(G:Wd v)(N:z<4294967296)(K:q<4294967296):
 ∃ r b,Qhw (p++m++z::q') (p.length:Int) v q=some (decide (0<b),p++r++q')/\r.length=v.length+1/\Wd r/\b<=1/\val r+q*val v=val (m++[z])+bp (v.length+1)*b:=by
 have H:∃ R,Qhw (p++m++z::q') (p.length:Int) v q=some R/\∃ r b,R=(decide (0<b),p++r++q')/\r.length=v.length+1/\Wd r/\b<=1/\val r+q*val v=val (m++[z])+bp (v.length+1)*b:=by
  unfold Qhw;refine Qxt (λj (s:List Nat×Nat×Nat)=>∃ e,s.1=p++e++(m.drop j++z::q')/\e.length=j/\j<=v.length/\Wd e/\s.2.1<4294967296/\s.2.2<=1/\val e+q*val (v.take j)=val (m.take j)+bp j*(s.2.1+s.2.2)) ⟨[],oc,rfl,ya _,Xj,oc,oc,by simp[val]⟩ ?_ ?_;rintro j y ⟨o,c,b⟩ I ⟨e,f,g,B,C,l,t,n⟩;simp only at f l t n;subst f;have i:j<v.length:=Qoa I;have L:v[j]=y:=by simpa [i] using I
  have u:y<4294967296:=by rw[<-L];exact Qcz G i
  have k:j<m.length:=om
  have E:=Qcz F k;have a:(p++e).length=p.length+j:=oh
  have J:=Qz5 K u l (show 0<4294967296 by omega);obtain⟨d,w,g1,A,g3,g4⟩:=Qto (x:=m[j]) (y:=(q*y+c+0)%4294967296) (c:=b) E om t;rw[Qtn K u l om,sbind,w64 om om,show((p.length:Int)+(j:Int))=((p.length+j:Nat):Int) by omega,xi k,yt];simp only[];rw[Xa a,sbind,g1,sbind,sbind,Z8 a];refine⟨_,rfl,e++[d],oc,by simp[g],om,Vg.2 ⟨C,Vo.2 ⟨A,Xj⟩⟩,by simp only[];omega,g3,?_⟩;simp only[];rw[Zi,W0 k,Wg,Wg,g,Wz,show v.getD j 0=y by rw[<-L];simp[i],xk,yz om];exact Q9l _ _ _ _ _ _ _ _ _ _ _ _ _ (vu (q*y+c) 4294967296) g4 n;rintro⟨o,c,b⟩ ⟨e,f,g,B,C,l,t,n⟩;simp only at f l t n;subst f;simp only[Xi];have a:(p++e).length=p.length+v.length:=oh
  obtain⟨d,w,g1,A,g3,g4⟩:=Qto (x:=z) (y:=c) (c:=b) N l t;rw[w64 om om,show((p.length:Int)+(v.length:Int))=((p.length+v.length:Nat):Int) by omega,xf om,uf,Xa a,sbind,g1,sbind,sbind,Z8 a];refine⟨_,rfl,e++[d],w,oc,by simp[g],Vg.2 ⟨C,Vo.2 ⟨A,Xj⟩⟩,g3,?_⟩;rw[xc (xn _),xc om] at n;rw[Wg,Wg,g,M,Wz];have:=Q9l (bp v.length) (val m) c b d c 0 w q 0 z (val v) (val e) om g4 n
  simpa using this
 obtain⟨R,f,r,b,g,B⟩:=H;exact⟨r,b,by rw[f,g],B⟩
theorem Q9m(P M c d a y u V W:Nat)(e:4294967296*a+d=u+y+c)(h:W+P*c=M+V):W+P*d+P*4294967296*a=M+P*u+(V+P*y):=by grind
theorem Q8b{p m q' v:List Nat}{z:Nat}(E:m.length=v.length)(hp:p.length+m.length+1+q'.length<=4611686018427387904)(u:Wd m)(w:Wd v)(F:z<4294967296):
 ∃ r b,Qj5 (p++m++z::q') (p.length:Int) v=some (p++r++q')/\r.length=v.length+1/\Wd r/\b<=1/\val r+bp (v.length+1)*b=val (m++[z])+val v:=by
 have A:∃ R,Qj5 (p++m++z::q') (p.length:Int) v=some R/\∃ r b,R=p++r++q'/\r.length=v.length+1/\Wd r/\b<=1/\val r+bp (v.length+1)*b=val (m++[z])+val v:=by
  unfold Qj5;refine Qxt (λj (s:List Nat×Nat)=>∃ d,s.1=p++d++(m.drop j++z::q')/\d.length=j/\j<=v.length/\Wd d/\s.2<=1/\val d+bp j*s.2=val (m.take j)+val (v.take j)) ⟨[],oc,rfl,ya _,Xj,oc,by simp[val]⟩ ?_ ?_;rintro j y ⟨o,c⟩ B ⟨d,e,f,l,n,q,k⟩;simp only at e q k;subst e;have g:j<v.length:=Qoa B;have C:v[j]=y:=by simpa [g] using B
  have x:y<4294967296:=by rw[<-C];exact Qcz w g
  have i:j<m.length:=om
  have t:=Qcz u i;have a:(p++d).length=p.length+j:=oh
  rw[w64 om om,show((p.length:Int)+(j:Int))=((p.length+j:Nat):Int) by omega,xi i,yt];rw[Xa a,sbind,Qpj t x (by simp only[];omega),sbind,sbind,Z8 a];refine⟨_,rfl,d++[(m[j]+y+c)%4294967296],oc,by simp[f],om,Vg.2 ⟨n,Vo.2 ⟨om,Xj⟩⟩,by simp only[];omega,?_⟩;simp only[];rw[Zi,Zi,Wg,f,Wz,show v.getD j 0=y by rw[<-C];simp[g],show m.getD j 0=m[j] by simp[i]];exact Q9m _ _ _ _ _ _ _ _ _ (vu (m[j]+y+c) 4294967296) k;rintro⟨o,c⟩ ⟨d,e,f,l,n,q,k⟩;simp only at e q k;subst e;simp only[Xi];have a:(p++d).length=p.length+v.length:=oh
  rw[w64 om om,show((p.length:Int)+(v.length:Int))=((p.length+v.length:Nat):Int) by omega,xf om,uf,Xa a,sbind,sbind,Z8 a,sbind];refine⟨_,rfl,d++[(z+c)%4294967296],(z+c) / 4294967296,oc,by simp[f],Vg.2 ⟨n,Vo.2 ⟨om,Xj⟩⟩,om,?_⟩;rw[xc (xn _),xc om] at k;rw[Wg,Wg,f,E,Wz];have:=Q9m (bp v.length) (val m) c ((z+c)%4294967296) ((z+c) / 4294967296) 0 z (val v) (val d) om k
  simpa using this
 obtain⟨R,e,r,b,f,l⟩:=A;exact⟨r,b,by rw[e,f],l⟩
theorem kn_a{P vl a g d q e:Nat}(m:g<P)(p:q<4294967296)(n:q*(vl+P*a)<=g+P*d)(f:e+1=4294967296\/d<(e+1)*a):q<=e:=by
 rcases f with f | f;omega;have k:P*(q*a)<=q*(vl+P*a):=by rw[gt,Nat.mul_left_comm];exact Nat.le_add_left _ _
 have i:P*(q*a)<P*(d+1):=by rw[gt,Nat.mul_one];omega
 have l:q*a<d+1:=Nat.lt_of_mul_lt_mul_left i;have j:q*a<(e+1)*a:=om
 exact Nat.le_of_lt_succ (Nat.lt_of_mul_lt_mul_right j)
theorem kn_b{P vl a j e d:Nat}(l:vl<P)(n:d<4294967296)(m:4294967296<=a)(i:d*a<=e):d*(vl+P*a)<=(j+P*e)+(vl+P*a):=by
 have f:d*(vl+P*a)=d*vl+P*(d*a):=by rw[gt,Nat.mul_left_comm]
 have k:P*(d*a)<=P*e:=vc _ i;have g:d*vl<=a*P:=gi om om;rw[f];rw[vp a P] at g;omega
theorem kn_z{P vl v3 v4 e z a x2:Nat}(j:vl<P)(k:v4<4294967296)(l:e+P*((z*4294967296+a)*4294967296+x2)<4294967296*(vl+P*(v3*4294967296+v4))):z<=v3:=by
 have f:P*(z*4294967296*4294967296)<=P*((z*4294967296+a)*4294967296+x2):=vc _ om;have g:vl+P*(v3*4294967296+v4)<P*((v3+1)*4294967296):=by have:P*(v3*4294967296+v4+1)<=P*((v3+1)*4294967296):=vc _ om;rw[gt _ _ 1,Nat.mul_one] at this;omega
 have d:P*(z*4294967296*4294967296)<P*((v3+1)*4294967296*4294967296):=by have a1:P*((v3+1)*4294967296*4294967296)=P*((v3+1)*4294967296)*4294967296:=(um _ _ _).symm;omega
 have i:=Nat.lt_of_mul_lt_mul_left d;omega
theorem dm_of{U V q r:Nat}(h:r+q*V=U)(hr:r<V):U / V=q/\U%V=r:=by subst h;rw[Nat.add_mul_div_right _ _ om,gn hr,Nat.add_mul_mod_self_right,xv hr];omega
theorem last2{l:List Nat}{m:Nat}(h:l.length=m+2):∃ l' a b,l=l'++[a,b]/\l'.length=m:=by refine⟨l.take m,l[m],l[m+1],?_,oh⟩;have e:=W0 (a:=l) (k:=m) om;have d:=W0 (a:=l) (k:=m+1) om;rw[xc om] at d;refine d.trans ?_;rw[e,xl];rfl
theorem Jja(p y w a V U j:Nat)(q r:Nat)(d:U=y+4294967296*w)(h:r+q*V=U):(p+j*y)+j*4294967296*(w+V*a)=p+j*(r+V*(q+4294967296*a)):=by grind
theorem Jga{n:Nat}{p w rest v:List Nat}{z:Nat}(hn:big<=n){vl wl:List Nat}{v3 v4 u x2:Nat}(H:v=vl++[v4,v3])(I:w=wl++[x2,u])(F:wl.length=vl.length)
 (a:Wd v) (e:Wd w) (hz:z<4294967296) (h3:v3≠0) (hp:p.length+w.length+1+rest.length<=4611686018427387904) (s:val (w++[z])<4294967296*val v) :
 ∃ r d,Qkx n z u x2 v3 v4=some d/\r.length=v.length+1/\Wd r/\val r=val (w++[z])%val v/\val (w++[z]) / val v<4294967296 /\
   ((Qhw (p++w++z::rest) (p.length:Int) v d=some (false,p++r++rest)/\d=val (w++[z]) / val v) \/
    (∃ T,Qhw (p++w++z::rest) (p.length:Int) v d=some (true,T)/\Qj5 T (p.length:Int) v=some (p++r++rest)/\(d+4294967296 - 1)%4294967296=val (w++[z]) / val v)):=by
 have J:w.length=v.length:=by rw[H,I];simp[F]
 have w1:Wd vl/\v4<4294967296/\v3<4294967296:=by rw[H] at a;exact⟨(Vg.1 a).1,(Vo.1 (Vg.1 a).2).1,(Vo.1 (Vo.1 (Vg.1 a).2).2).1⟩
 have M:Wd wl/\x2<4294967296/\u<4294967296:=by rw[I] at e;exact⟨(Vg.1 e).1,(Vo.1 (Vg.1 e).2).1,(Vo.1 (Vo.1 (Vg.1 e).2).2).1⟩
 obtain⟨w1,Z,w4⟩:=w1;obtain⟨M,w5,w6⟩:=M;have B:val v=val vl+bp vl.length*(v3*4294967296+v4):=by rw[H,Zs];simp only[val];congr 2;omega
 have C:val (w++[z])=val wl+bp vl.length*((z*4294967296+u)*4294967296+x2):=by rw[I,xl,Zs,F];simp only[yt,uf,val];congr 2;omega
 have Q:=Z3 w1;have R:=Z3 M;rw[F] at R;have K:z<=v3:=by rw[B,C] at s;exact kn_z Q Z s
 obtain⟨d,g1,P,g3,g4⟩:=Q6h hn K w6 w5 w4 Z h3;have k:0<val v:=by rcases dm (val v) with h | h;rw[h] at s;omega;exact h
 have i:val (w++[z]) / val v<4294967296:=(jy k).2 s;have hqa:val (w++[z]) / val v<=d:=by have:=Nat.div_mul_le_self (val (w++[z])) (val v);exact kn_a (vl:=val vl) R i (by rw[<-B,<-C];exact this) g4
 have hqb:d*val v<=val (w++[z])+val v:=by rw[B,C];exact kn_b Q P om g3
 have A:val (w++[z])<(d+1)*val v:=xw ((jy k).1 (Nat.lt_succ_self _)) (xt _ om);obtain⟨r,b,W,j,t3,t4,t5⟩:=Q8a (p:=p) (m:=w) (q':=rest) (v:=v) (z:=z) (q:=d) J hp e a hz P;rw[Nat.add_mul,Nat.one_mul] at A;have hvb:=Z3 a;have hbb:bp v.length<=bp (v.length+1):=bp_le om;by_cases hb:b=0;subst hb;rw[vh,xq] at t5;obtain⟨x,y⟩:=dm_of t5 om;exact⟨r,d,g1,j,t3,y.symm,i,.inl ⟨W,x.symm⟩⟩;obtain rfl:b=1:=om
 rw[Nat.mul_one] at t5;have hr:=Z3 t3;rw[j] at hr;obtain⟨f,g,l⟩:∃ f g,r=f++[g]:=by rcases jz r with h | ⟨f,g,h⟩;rw[h] at j;simp at j;exact⟨f,g,by rw[h,ja]⟩
 have e2:f.length=v.length:=by rw[l] at j;simpa using j
 have O:Wd f/\g<4294967296:=by rw[l] at t3;exact⟨(Vg.1 t3).1,(Vo.1 (Vg.1 t3).2).1⟩
 obtain⟨S,N,u1,X,Y,u4,L⟩:=Q8b (p:=p) (m:=f) (q':=rest) (v:=v) (z:=g) e2 om O.1 a O.2;have G:=Z3 Y;rw[X] at G;rw[<-l] at L
 obtain⟨t,rfl⟩:∃ t,d=t+1:=⟨d - 1,by
  have:d≠0:=by rintro rfl;omega
  omega⟩
 rw[Nat.add_mul,Nat.one_mul] at *;have E:N=1:=by rcases dm N with h | h;subst h;rw[vh] at L;omega;omega
 subst E;rw[Nat.mul_one] at L;obtain⟨x,y⟩:=dm_of (U:=val (w++[z])) (V:=val v) (q:=t) (r:=val S) om om;refine⟨S,t+1,g1,X,Y,y.symm,i,.inr ⟨p++r++rest,W,?_,by rw[x];omega⟩⟩;rw[l,show p++(f++[g])++rest=p++f++g::rest by simp];exact u1
theorem Q8c{n:Nat}{u v vl:List Nat}{v3 v4:Nat}(hn:big<=n)(E:v=vl++[v4,v3])(h3:v3≠0)(g:Wd u)(q:Wd v)(hu:u.length<35184372088832)(hl:v.length<=u.length)(N:val (u.drop (u.length - v.length))<val v):
 ∃ r,Qoo n u v=some r/\(r.1.length=u.length - v.length/\Wd r.1/\r.2.length=u.length/\Wd r.2/\val u=val v*val r.1+val r.2/\val r.2<val v):=by
 unfold Qoo;have L:=hn;unfold big at L;have hvl:v.length=vl.length+2:=by rw[E];simp
 rw[w64 (x:=(u.length:Int) - (v.length:Int)) om om,show(u.length:Int) - (v.length:Int)=((u.length - v.length:Nat):Int) by omega,Qgl om om,sbind]
 refine Qjv (λs=>(s.2.2+1).toNat) (λs=>∃(k:Nat) (p w e:List Nat),s.2.2=(k:Int) - 1/\k<=u.length - v.length/\s.1=p++w/\p.length=k/\w.length=u.length - k/\Wd p/\Wd w/\val w<val v/\s.2.1=List.replicate k 0++e/\e.length=u.length - v.length - k/\Wd e/\val u=val p+bp k*(val w+val v*val e))
  (λt=>t.2.length=u.length - v.length/\Wd t.2/\t.1.length=u.length/\Wd t.1/\val u=val v*val t.2+val t.1/\val t.1<val v) ⟨u.length - v.length,u.take (u.length - v.length),u.drop (u.length - v.length),[],?_,xn _,by simp only[vm],oc,oc,Que g,Qp9 g,N,by simp only[vj],oc,Xj,?_⟩ ?_ ?_ (λt N=>⟨_,rfl,N⟩)
 . simp only[];rw[ur,w64 om om]
 . simp only[val,vh,xq]
   conv=>lhs;rw[<-vm (u.length - v.length) u]
   rw[Zs,xk,yz om]
 . simp only[];rw[ur,w64 om om];omega
 . rintro⟨uu,qq,i⟩ ⟨k,p,w,e,Z,i2,i3,F,i5,i6,O,i8,i9,i10,A,B⟩
   simp only at Z i3 i9;subst Z i3 i9;simp only[jn_eq,bifd];by_cases h0:0<k
   . left
     obtain⟨j,rfl⟩:∃ j,k=j+1:=⟨k - 1,om⟩
     obtain⟨d,y,e1⟩:∃ d y,p=d++[y]:=by
      rcases jz p with h | ⟨d,y,h⟩
      . rw[h] at F;simp at F
      . exact⟨d,y,by rw[h,ja]⟩
     subst e1;have G:d.length=j:=by simpa using F
     have T:Wd d/\y<4294967296:=⟨(Vg.1 i6).1,(Vo.1 (Vg.1 i6).2).1⟩
     have H:Wd (y::w):=Vo.2 ⟨T.2,O⟩;have U:v.length<(y::w).length:=oh
     have V:y::w=(y::w).take v.length++(y::w)[v.length]::(y::w).drop (v.length+1):=Jhj U;have I:val ((y::w).drop (v.length+1))=0:=by rw[List.drop_succ_cons,<-Qwf O];exact gn (Nat.lt_trans i8 (Z3 q))
     have X:val ((y::w).take v.length++[(y::w)[v.length]])=y+4294967296*val w:=by have:=yj val V;rw[show ∀(a b:List Nat) (x:Nat),a++x::b=(a++[x])++b by intro a b x;simp,Zs,I,vh,xq] at this;rw[<-this];rfl
     have w1:Wd ((y::w).take v.length):=Que H;have w2:(y::w)[v.length]<4294967296:=Qcz H U;have w3:Wd ((y::w).drop (v.length+1)):=Qp9 H;have w4:((y::w).take v.length).length=v.length:=by rw[xk,yz om]
     have w5:((y::w).drop (v.length+1)).length=u.length - j - (v.length+1):=by rw[uy,xm];omega
     rw[show d++[y]++w=d++(y::w) by simp,V];generalize (y::w).take v.length=W at *;generalize (y::w)[v.length]=z at *;generalize (y::w).drop (v.length+1)=R at *;obtain⟨wl,x2,C,J,f2⟩:=last2 (l:=W) (m:=vl.length) om;obtain⟨r,P,g1,g2,g3,g4,g5,Y⟩:=Jga (p:=d) (w:=W) (rest:=R) (v:=v) (z:=z) hn E J f2 q w1 w2 h3 (by rw[w4,w5];omega) (by rw[X];omega);rw[oo om,show((j+1:Nat):Int) - 1=(j:Int) by omega];rw[w64 (x:=(j:Int)+(v.length:Int)) om om,show(j:Int)+(v.length:Int)=((j+vl.length+2:Nat):Int) by omega];rw[w64 (x:=((j+vl.length+2:Nat):Int) - 1) om om,w64 (x:=((j+vl.length+2:Nat):Int) - 2) om om,show((j+vl.length+2:Nat):Int) - 1=((j+vl.length+1:Nat):Int) by omega,show((j+vl.length+2:Nat):Int) - 2=((j+vl.length:Nat):Int) by omega];rw[w64 (x:=(v.length:Int) - 1) om om,w64 (x:=(v.length:Int) - 2) om om,show(v.length:Int) - 1=((vl.length+1:Nat):Int) by omega,show(v.length:Int) - 2=((vl.length:Nat):Int) by omega];have a1:getI (d++(W++z::R)) ((j+vl.length+2:Nat):Int)=some z:=by
      rw[<-xl];exact Xa (by rw[yy,w4];omega)
     have a2:getI (d++(W++z::R)) ((j+vl.length+1:Nat):Int)=some C:=by rw[J,show d++(wl++[x2,C]++z::R)=(d++wl++[x2])++C::(z::R) by simp];exact Xa oh
     have a3:getI (d++(W++z::R)) ((j+vl.length:Nat):Int)=some x2:=by rw[J,show d++(wl++[x2,C]++z::R)=(d++wl)++x2::(C::z::R) by simp];exact Xa oh
     have a4:getI v ((vl.length+1:Nat):Int)=some v3:=by rw[E,show vl++[v4,v3]=(vl++[v4])++v3::[] by simp];exact Xa oc
     have a5:getI v ((vl.length:Nat):Int)=some v4:=by rw[E];exact Xa rfl
     rw[a1,sbind,a2,sbind,a3,sbind,a4,sbind,a5,sbind,g1,sbind]
     have a6:∀(q':Nat),getI (List.replicate (j+1) 0++e) (j:Int)=some 0/\(List.replicate (j+1) 0++e).set (Int.toNat (j:Int)) q'=List.replicate j 0++q'::e:=λq'=>by rw[je,xl,List.singleton_append];exact⟨Xa oc,Z8 oc⟩
     rw[G,xl] at Y;have f:∀ q',q'=val (W++[z]) / val v->∃ s',(some (Lp.go (d++r++R,List.replicate j 0++q'::e,wrap64 ((j:Int) - 1))):Option (Lp (List Nat×List Nat×Int) (List Nat×List Nat)))=some (Lp.go s')/\(∃(k:Nat) (p w e:List Nat),s'.2.2=(k:Int) - 1/\k<=u.length - v.length/\s'.1=p++w/\p.length=k/\w.length=u.length - k/\Wd p/\Wd w/\val w<val v/\s'.2.1=List.replicate k 0++e/\e.length=u.length - v.length - k/\Wd e/\val u=val p+bp k*(val w+val v*val e))/\(s'.2.2+1).toNat<((j:Int)+1).toNat:=by
      intro q' M;have K:0<val v:=om
      rw[w64 om om];refine⟨_,rfl,⟨j,d,r++R,q'::e,rfl,om,by rw[xl],G,by rw[yy,g2,w5];omega,T.1,Vg.2 ⟨g3,w3⟩,?_,rfl,by rw[xm];omega,Vo.2 ⟨om,A⟩,?_⟩,by simp only[];omega⟩
      . rw[Zs,I,vh,xq,g4];exact ui _ K
      . rw[B,Wg,G,Wz,Zs,I,vh,xq]
        simp only[val];refine Jja _ _ _ _ _ _ _ _ _ X ?_;rw[g4,M,vp];exact Nat.mod_add_div _ _
     rcases Y with ⟨Q,S⟩ | ⟨r1,Q,S,t3⟩
     . rw[Q,sbind]
       simp only[bifF];rw[(a6 P).1,sbind,(a6 P).2];exact f _ S
     . rw[Q,sbind]
       simp only[bifT];rw[S,sbind,(a6 ((P+4294967296 - 1)%4294967296)).1,sbind,(a6 _).2];exact f _ t3
   . right
     obtain rfl:k=0:=om
     obtain rfl:p=[]:=ow F;rw[ol om];refine⟨_,rfl,by simp only[List.replicate_zero,uf];omega,by simpa using A,by simp only[uf];omega,by simpa using O,?_,by simpa using i8⟩;rw[B,Qau];simp[val];omega
theorem Jnc{x:Nat}(d:x<4294967296):blen x<=32:=by
 rcases xo 32 (blen x) with h | h;have h0:x≠0:=by rintro rfl;rw[Qlr] at h;omega
 have g1:=Qsd h0;have a:2 ^ 32<=2 ^ (blen x - 1):=dc oz om;rw[show(2:Nat) ^ 32=4294967296 by decide] at a;omega;exact h
theorem K2{a:List Nat}(d:Wd a):(toL (val a)).length<=a.length:=by rw[Vp d];exact Qbd a
theorem Q4i{v s:Nat}(d:s<=32):(toL (v*2 ^ s)).length<=(toL v).length+1:=by refine Qcc ?_;have a:=Z3 (Jq v);rw[Jc] at a;rw[Wz];exact xw (Nat.mul_lt_mul_of_pos_right a (ug s)) (vc _ (Qz7 d))
theorem len2{v:Nat}(h:4294967296<=v):∃ vl v4 v3,toL v=vl++[v4,v3]/\v3≠0:=by
 have h0:toL v≠[]:=by rw[Qew om];simp
 obtain⟨p,x,a,d,e,f⟩:=Q4y h0;rcases jz p with h5 | ⟨p',y,h5⟩;exfalso;have:=Jc v;rw[a,h5] at this;simp[val] at this;omega;exact⟨p',y,x,by rw[a,h5,ja];simp,d⟩
theorem Jnd{v:Nat}(h:v≠0):bp ((toL v).length - 1)<=v:=by
 have h0:toL v≠[]:=by rw[Qew h];simp
 obtain⟨p,x,a,d,e,f⟩:=Q4y h0;have:=Jc v;rw[a,Wg] at this;rw[a,yy,vv,Nat.add_sub_cancel,<-this];have:bp p.length*1<=bp p.length*x:=vc _ om;omega
theorem Qmf{n:Nat}{a b:List Nat}(hn:big<=n)(ha:a.length<4398046511104)(hb:b.length<4398046511104)(d:Wd a)(m:Wd b):
 Qhh n a b=some (if val b=0 then ([],[],false) else (toL (val a / val b),toL (val a%val b),true)):=by
 unfold Qhh;have Y:=K2 m;have X:=K2 d;rw[Zg hn om,sbind,<-Vp m,bifd];by_cases h0:val b=0;rw[h0,Yu,oo oa,oo rfl];have E:toL (val b)≠[]:=by rw[Qew h0];simp
 have W:(toL (val b)).length≠0:=λh=>E (ow h);rw[ol om,ol h0,Qnq hn om om d (Jq _),sbind,Jc,bifd];by_cases g:val a<val b;rw[oo (by rw[cmpI,oo g];decide),Zg hn om,sbind,gn g,xv g,Yu,Vp d];rw[ol (by rw[cmpI,ol g];split<;>decide),bifd];by_cases R:(toL (val b)).length=1;rw[oo om];obtain⟨y,P⟩:=List.length_eq_one_iff.1 R;have F:=Jc (val b);have O:=Jq (val b);rw[P] at F O;simp only[val,vh,xq] at F;have H:=(Vo.1 O).1;rw[P,show getI [y] (0:Int)=some y by rfl,sbind,Q77 hn om d om H,sbind];simp only[];have:=ui (val a) (show y > 0 by omega);rw[Qke hn om,sbind,<-F];rw[ol om];have j:4294967296<=val b:=by
  rcases xo (val b) 4294967296 with h | h;have:=Qcc (n:=val b) (k:=1) (by rw[Wz,Qau];omega);omega;exact h
 obtain⟨bl,I,f,p,e2⟩:=len2 j;have e:=Jq (val b);have i:f<4294967296:=by rw[p] at e;exact(Vo.1 (Vo.1 (Vg.1 e).2).2).1
 have S:(toL (val b)).length=bl.length+2:=by rw[p];simp
 rw[w64 (x:=((toL (val b)).length:Int) - 1) om om,show((toL (val b)).length:Int) - 1=((bl.length+1:Nat):Int) by omega];rw[show getI (toL (val b)) ((bl.length+1:Nat):Int)=some f by rw[p,show bl++[I,f]=(bl++[I])++f::[] by simp];exact Xa oc,sbind,Q0w hn i,sbind];have hs:=Jnc i;rw[w64 (x:=(32:Int) - (blen f:Int)) om om,show(32:Int) - (blen f:Int)=((32 - blen f:Nat):Int) by omega];have l:32 - blen f<=32:=om
 generalize 32 - blen f=s at *;have A:=ug s;rw[Q2f hn om d om,sbind];have l1:=Q4i (v:=val a) l;have l2:=Q4i (v:=val b) l;rw[Vt oh oh,sbind,Q2f hn om e om,sbind,Jc];have T:val b<=val b*2 ^ s:=Nat.le_mul_of_pos_right _ A;obtain⟨vl,v4,v3,L,Q⟩:=len2 (v:=val b*2 ^ s) om;have B:val b*2 ^ s<=val a*2 ^ s:=xt _ om;have Z:=W8 B;have C:=Jnd (v:=val b*2 ^ s) om;have hvl:(toL (val b*2 ^ s)).length=vl.length+2:=by rw[L];simp
 have G:Wd (toL (val a*2 ^ s)++[0]):=Vg.2 ⟨Jq _,Vo.2 ⟨om,Xj⟩⟩
 obtain⟨⟨q,r⟩,g1,M,g3,g4,N,t,w⟩:=Q8c (u:=toL (val a*2 ^ s)++[0]) (v:=toL (val b*2 ^ s)) hn L Q G (Jq _) oh oh (by
  rw[yy,vv,List.drop_append_of_le_length om,Wg,vh,xq,Jc];have:=Z3 (Qp9 (k:=(toL (val a*2 ^ s)).length+1 - (toL (val b*2 ^ s)).length) (Jq (val a*2 ^ s)));rw[uy] at this
  exact xw this (xe (bp_le om) C))
 simp only at M g3 g4 N t w;rw[Wg,vh,xq,Jc,Jc] at t;rw[Jc] at w;rw[yy,vv] at M g4;rw[g1,sbind];simp only[];rw[Zg hn om,sbind,Q79 hn om N om,sbind,<-Vp g3];obtain⟨J,K⟩:=dm_of (U:=val a*2 ^ s) (V:=val b*2 ^ s) (q:=val q) (r:=val r) (by rw[t,vp (val q)];omega) w;rw[Nat.mul_div_mul_right _ _ A] at J;rw[Nat.mul_mod_mul_right] at K;rw[<-J,<-K,Nat.mul_div_cancel _ A]
theorem Q3w{n x y:Nat}(hn:big<=n)(f:y<18446744073709551616):Qky n x y=some (Nat.gcd x y):=by unfold Qky;unfold big at hn;refine Qcy (λs=>s.2) (λs=>s.2<18446744073709551616/\Nat.gcd s.1 s.2=Nat.gcd x y) (λt=>t=Nat.gcd x y) ⟨f,rfl⟩ (by simp only[];omega) ?_ (λt e=>by rw[e]);rintro⟨u,v⟩ ⟨d,a⟩;simp only at d a;simp only[bifnd];by_cases h0:v=0;right;rw[oo h0];exact⟨_,rfl,by rw[<-a,h0,Nat.gcd_zero_right]⟩;left;rw[ol h0,grd_t (by simp[h0]),sbind];have:=ui u (show v > 0 by omega);exact⟨_,rfl,⟨by simp only[];omega,by rw[<-a,Nat.gcd_comm u v,Nat.gcd_rec v u,Nat.gcd_comm]⟩,this⟩
theorem Q6i{v:Nat}:Qnc (toL v)=some (decide (v=1)):=by
 unfold Qnc;simp only[jn_eq,bifd];by_cases h:(toL v).length=1;obtain⟨x,a⟩:=List.length_eq_one_iff.1 h;have:=Jc v;rw[a] at this;simp[val] at this;rw[a,oo oc,show getI [x] (0:Int)=some x by rfl,sbind,this];rw[ol om];have:v≠1:=by rintro rfl;apply h;rw[Qew oz,show 1 / 4294967296=0 by decide,Yu];rfl
 rw[oj this]
theorem Jku{v k:Nat}(h:v<2 ^ k):blen v<=k:=by
 rcases xo k (blen v) with a | a;have h0:v≠0:=by rintro rfl;rw[Qlr] at a;omega
 have g1:=Qsd h0;have d:2 ^ k<=2 ^ (blen v - 1):=dc oz om;omega;exact a
theorem Jkv{r u:Nat}(h:2*r<u):blen r<blen u:=by
 have d:=Quf (x:=u);by_cases h0:r=0;subst h0;rw[Qlr];exact Qz6 om;have g1:=Qsd h0;have a:=Qz6 h0;have g3:2 ^ blen r=2 ^ (blen r - 1)*2:=by rw[<-jr,show(blen r - 1).succ=blen r by omega]
 have g4:2 ^ blen r<2 ^ blen u:=om
 exact(ji oz).1 g4
theorem Qz8{v:Nat}:blen v<=32*(toL v).length:=by refine Jku ?_;rw[<-Qo9];have:=Z3 (Jq v);rwa [Jc] at this
theorem Jjb{u v:Nat}(h0:v≠0):blen v+blen (u%v)+(if v<u%v then 1 else 0)<blen u+blen v+(if u<v then 1 else 0):=by
 have g:=ui u (show v > 0 by omega);rw[ol om];by_cases h:u<v;rw[oo h,xv h];omega;rw[ol h];have d:2*(u%v)<u:=by have e:=vu u v;have a:1<=u / v:=(Nat.le_div_iff_mul_le om).2 om;have f:v*1<=v*(u / v):=vc _ a;omega
 have:=Jkv d;omega
theorem Q6j{n:Nat}{a b:List Nat}(hn:big<=n)(y:a.length<4398046511104)(A:b.length<4398046511104)(g:Wd a)(i:Wd b):Qnb n a b=some (toL (Nat.gcd (val a) (val b))):=by
 unfold Qnb;have m:=K2 g;have p:=K2 i;rw[Zg hn om,sbind,Zg hn om,sbind,<-Vp g,<-Vp i];have l:=hn;unfold big at l
 refine Qcy (λs=>blen (val s.1)+blen (val s.2)+(if val s.1<val s.2 then 1 else 0)) (λs=>∃ u v,s=(toL u,toL v)/\Nat.gcd u v=Nat.gcd (val a) (val b)/\(toL u).length<4398046511104/\(toL v).length<4398046511104)
  (λt=>∃ u v,t=(toL u,toL v)/\Nat.gcd u v=Nat.gcd (val a) (val b)/\(toL u).length<4398046511104/\(toL v).length<=2) ⟨val a,val b,rfl,rfl,om,om⟩ ?_ ?_ ?_
 simp only[Jc];have x:=Qz8 (v:=val a);have e:=Qz8 (v:=val b);split<;>omega;rintro s ⟨u,v,rfl,e,j,k⟩;simp only[bifd,Jc];by_cases h0:2<(toL v).length;left;have f:v≠0:=by rintro rfl;rw[Yu] at h0;simp at h0
 rw[oo om,Qmf hn j k (Jq _) (Jq _),sbind,Jc,Jc,ol f];refine⟨_,rfl,⟨v,u%v,rfl,?_,k,?_⟩,?_⟩;rw[<-e,Nat.gcd_comm u v,Nat.gcd_rec v u,Nat.gcd_comm];exact ye (W8 (Nat.le_of_lt (ui u om))) k;simp only[Jc];exact Jjb f;right;rw[ol om];exact⟨_,rfl,u,v,rfl,e,j,om⟩;rintro t ⟨u,v,rfl,e,j,k⟩;simp only[bifd];by_cases h0:v=0;subst h0;rw[Yu,oo oa,<-e,Nat.gcd_zero_right];have w:(toL v).length≠0:=λh=>by rw[Qew h0] at h;simp at h
 have d:v<18446744073709551616:=by rcases xo v 18446744073709551616 with h | h;exact h;have:=Jep h;omega
 have r:=ui u (show v > 0 by omega);have q:=W8 (Nat.le_of_lt r);rw[ol om,Qmf hn j om (Jq _) (Jq _),sbind,Jc,Jc,ol h0];simp only[];rw[Qys hn om (Jq _),sbind,Qys hn om (Jq _),sbind,Jc,Jc,oo d,oo om];simp only[];rw[Q3w hn om,sbind,Qke hn (ye (Nat.gcd_le_left _ om) d),sbind,<-e,Nat.gcd_comm u v,Nat.gcd_rec v u,Nat.gcd_comm]
theorem Q2g{n:Nat}{a b:List Nat}(hn:big<=n)(i:a.length<4398046511104)(j:b.length<4398046511104)(e:Wd a)(f:Wd b):
 Qje n a b=some (toL (val a / Nat.gcd (val a) (val b)),toL (val b / Nat.gcd (val a) (val b))):=by
 unfold Qje;rw[Q6j hn i j e f,sbind,bifd];have k:Nat.gcd (val a) (val b) ∣ val a:=Nat.gcd_dvd_left _ _;have l:Nat.gcd (val a) (val b) ∣ val b:=Nat.gcd_dvd_right _ _;have m:=K2 e;have p:=K2 f;have d:Nat.gcd (val a) (val b)=0\/(toL (Nat.gcd (val a) (val b))).length<4398046511104:=by by_cases h:val a=0;rw[h,Nat.gcd_zero_left];right;omega;right;exact ye (W8 (Nat.gcd_le_left _ om)) om
 by_cases h0:Nat.gcd (val a) (val b)=0;rw[h0,Yu,oo oa,Nat.div_zero,Nat.div_zero,Yu];have q:(toL (Nat.gcd (val a) (val b))).length≠0:=λh=>by rw[Qew h0] at h;simp at h
 rw[ol om,Q6i,sbind,bifd];by_cases g:Nat.gcd (val a) (val b)=1;rw[oo g,Zg hn om,sbind,Zg hn om,sbind,g,Nat.div_one,Nat.div_one,Vp e,Vp f];have d:(toL (Nat.gcd (val a) (val b))).length<4398046511104:=by rcases d with h | h;exact absurd h h0;exact h
 rw[ol g,Qmf hn i d e (Jq _),sbind,Qmf hn j d f (Jq _),sbind,Jc,ol h0,ol h0]
def wv(w:Qf):Int:=if w.Neg then -(val w.A8:Int) else (val w.A8:Int)
def toW(z:Int):Qf:=⟨decide (z<0),toL z.natAbs⟩
theorem Qdq(z:Int):wv (toW z)=z:=by unfold wv toW;simp only[gz,Jc];split<;>omega
theorem Qkf{v:Nat}:0<(toL v).length↔v≠0:=by constructor;rintro h rfl;rw[Yu] at h;simp at h;intro h;rw[Qew h];simp
theorem Qa1{s:Bool}{v:Nat}:Yp s (toL v)=some (toW (if s then -(v:Int) else (v:Int))):=by unfold Yp toW;rw[jn_eq];cases s;rw[bifF];congr 2;rw[bifT];congr 2;exact gr.2 (by simp only[yn];have:=@Qkf v;omega);simp
def Ww(w:Qf):Prop:=Wd w.A8/\w.A8.length<4398046511104
theorem Qrn{n:Nat}{w:Qf}(hn:big<=n)(h:Ww w):Qe3 n w=some (toW (wv w)):=by unfold Qe3;rw[Zg hn (by have:=h.2;omega),sbind,<-Vp h.1,Qa1,sbind];rfl
theorem Jeu(s t:Bool)(x y:Nat):(if (s != t) then -((x*y:Nat):Int) else ((x*y:Nat):Int))=(if s then -(x:Int) else (x:Int))*(if t then -(y:Int) else (y:Int)):=by cases s<;>cases t<;>simp[Int.neg_mul,Int.mul_neg]
theorem Qse{n:Nat}{w u:Qf}(hn:big<=n)(d:Ww w)(a:Ww u):Qj3 n w u=some (toW (wv w*wv u)):=by unfold Qj3;rw[Qi5 hn (by have:=d.2;omega) (by have:=a.2;omega) d.1 a.1,sbind,Qa1,sbind,Jeu];rfl
theorem Jcv{x y:Nat}:cmpI x y<0↔x<y:=by by_cases h:x<y;simp[cmpI,h];rw[cmpI,ol h];split<;>omega
theorem Qsf{n:Nat}{w u:Qf}(hn:big<=n)(e:Ww w)(d:Ww u):Qj4 n w u=some (toW (wv w+wv u)):=by unfold Qj4;have g:=e.2;have i:=d.2;rw[Jcs hn om om e.1 d.1,sbind,Qa1,sbind,Jct hn om om e.1 d.1,sbind,bifd,Qa1,sbind,Qa1,sbind];unfold wv;rcases w with ⟨s,a⟩;rcases u with ⟨t,b⟩;simp only[];generalize val a=x;generalize val b=y;have f:=@Jcv x y;cases s<;>cases t<;>simp only[beq_self_eq_true,bifT,bifF,vg,yn,yd,show(false == true)=false by rfl,show(true == false)=false by rfl,f];congr 2;split<;>congr 2<;>omega;split<;>congr 2<;>omega;congr 2;omega
theorem Qyt{n:Nat}{w:Qf}(hn:big<=n)(h:Ww w):Qml n w=some (toW (-wv w)):=by unfold Qml;rw[Zg hn (by have:=h.2;omega),sbind,<-Vp h.1,Qa1,sbind];unfold wv;cases w.Neg<;>simp
theorem Jkw(z:Int):(toW (-z)).A8=(toW z).A8:=by unfold toW;simp
theorem Qfx(z:Int):Wd (toW z).A8:=Jq _
theorem Qjw{n:Nat}{w:Qf}(hn:big<=n)(h:Ww w):Qdu n w=some (Int.sign (wv w)):=by unfold Qdu wv;rw[Qtm hn (by have:=h.2;omega) h.1,sbind,bifd];by_cases h0:val w.A8=0;rw[oo h0,h0];cases w.Neg<;>rfl;rw[ol h0];cases w.Neg;rw[bifF,ol oz,vt om];rw[bifT,oo rfl,gd om]
theorem Qjx(w:Qf):(wv w).natAbs=val w.A8:=by unfold wv;split<;>omega
theorem Jne{w:Qf}(h:Ww w):Ww (toW (-wv w)):=by refine⟨Qfx _,?_⟩;rw[Jkw];show(toL (wv w).natAbs).length<_;rw[Qjx];exact ye (K2 h.1) h.2
theorem Qob{n:Nat}{w u:Qf}(hn:big<=n)(d:Ww w)(a:Ww u):Qhv n w u=some (toW (wv w - wv u)):=by unfold Qhv;rw[Qyt hn a,sbind,Qsf hn d (Jne a),sbind,Qdq,Int.sub_eq_add_neg]
theorem Q8d{n:Nat}{w u:Qf}(hn:big<=n)(d:Ww w)(a:Ww u)(h:Ww (toW (wv w - wv u))):Qoq n w u=some (Int.sign (wv w - wv u)):=by unfold Qoq;rw[Qob hn d a,sbind,Qjw hn h,sbind,Qdq]
def fv(f:Qc):Rat:=mkRat (wv f.Num) (val f.Den)
def toF(q:Rat):Qc:=⟨toW q.num,toL q.den⟩
theorem Jf(q:Rat):fv (toF q)=q:=by unfold fv toF;rw[Qdq,Jc];exact ve q
theorem Qg7{z:Int}{d:Nat}(hd:d≠0):(mkRat z d).num=z / (Nat.gcd z.natAbs d:Int)/\(mkRat z d).den=d / Nat.gcd z.natAbs d:=by rw[<-Rat.normalize_eq_mkRat hd,Rat.normalize_eq];exact⟨rfl,rfl⟩
theorem Jev(s:Bool)(x g:Nat)(h:g ∣ x):(if s then -((x / g:Nat):Int) else ((x / g:Nat):Int))=(if s then -(x:Int) else (x:Int)) / (g:Int):=by cases s;simp;simp only[yn];rw[Int.neg_ediv_of_dvd (Int.natCast_dvd_natCast.2 h)];simp
theorem Qf3{n:Nat}{w:Qf}{d:List Nat}(hn:big<=n)(e:Ww w)(hd:Wd d)(k:d.length<4398046511104)(h0:val d≠0):Qc1 n w d=some (toF (mkRat (wv w) (val d))):=by unfold Qc1;have f:=e.2;have j:Nat.gcd (val w.A8) (val d) ∣ val w.A8:=Nat.gcd_dvd_left _ _;have a:(toL (val w.A8 / Nat.gcd (val w.A8) (val d))).length<4398046511104:=ye (xe (W8 (gf _ _)) (K2 e.1)) f;rw[Q2g hn f k e.1 hd,sbind,Qrn hn ⟨Jq _,a⟩,sbind];obtain⟨g,i⟩:=Qg7 (z:=wv w) h0;unfold toF;rw[g,i,Qjx];congr 2;unfold wv;rw[Jc];congr 1;exact Jev _ _ _ j
def Fw(f:Qc):Prop:=Ww f.Num/\Wd f.Den/\f.Den.length<4398046511104
theorem Qwg{n:Nat}{f:Qc}(hn:big<=n)(e:Fw f):∃ p,X6 n f=some p/\Ww p.1/\Wd p.2/\p.2.length<=max 1 f.Den.length/\p.1.A8.length<=f.Num.A8.length/\val p.2≠0/\mkRat (wv p.1) (val p.2)=fv f:=by obtain⟨d,a,g⟩:=e;unfold X6 fv;rw[Qtm hn om a,sbind,bifd];by_cases h0:val f.Den=0;rw[oo h0,Qke hn om,sbind];refine⟨_,rfl,⟨Xj,oc⟩,Jq _,?_,oc,by simp only[Jc];decide,?_⟩;have:=Qcc (n:=1) (k:=1) (by rw[Wz,Qau];omega);simp only[];omega;simp only[Jc,h0,Rat.mkRat_zero];rfl;rw[ol h0];exact⟨_,rfl,d,a,by simp only[];omega,xn _,h0,rfl⟩
theorem Va{n:Nat}{f:Qc}(hn:big<=n)(a:Fw f):K3 n f=some (toF (fv f)):=by obtain⟨p,d,e,g,k,l,i,j⟩:=Qwg hn a;unfold K3;rw[d,sbind,Qf3 hn e g (by have:=a.2.2;omega) i,sbind,j]
theorem Qb6{x y:Nat}:(toL (x*y)).length<=(toL x).length+(toL y).length:=by refine Qcc ?_;have a:=Z3 (Jq x);have d:=Z3 (Jq y);rw[Jc] at a d;rw[Jm9];exact Nat.mul_lt_mul'' a d
theorem Qug{x y k:Nat}(d:(toL x).length<=k)(e:(toL y).length<=k):(toL (x+y)).length<=k+1:=by refine Qcc ?_;have g1:=Z3 (Jq x);have a:=Z3 (Jq y);rw[Jc] at g1 a;have g3:=bp_le d;have g4:=bp_le e;rw[Wz];omega
theorem Qfh{n:Nat}{w:Qf}{d:List Nat}(hn:big<=n)(e:Ww w)(hd:Wd d)(a:d.length<4398046511104):Qcp n w d=some (toW (wv w*(val d:Int))):=by unfold Qcp;rw[Qse hn e ⟨hd,a⟩,sbind];rfl
def Fk(k:Nat)(f:Qc):Prop:=Wd f.Num.A8/\f.Num.A8.length<=k/\Wd f.Den/\f.Den.length<=k
theorem Fk_Fw{k:Nat}{f:Qc}(h:Fk k f)(hk:k<4398046511104):Fw f:=⟨⟨h.1,by have:=h.2.1;omega⟩,h.2.2.1,by have:=h.2.2.2;omega⟩
theorem Qi6{n k:Nat}{f:Qc}(hn:big<=n)(a:Fk k f)(e:1<=k)(hk:k<4398046511104):∃ w d,X6 n f=some (w,d)/\Wd w.A8/\w.A8.length<=k/\Wd d/\d.length<=k/\val d≠0/\mkRat (wv w) (val d)=fv f:=by obtain⟨⟨w,d⟩,e,g,i,j,l,m,p⟩:=Qwg hn (Fk_Fw a hk);exact⟨w,d,e,g.1,xe l a.2.1,i,by have:=a.2.2.2;simp only at j;omega,m,p⟩
theorem Qpr{w:Qf}{y k j:Nat}(a:Wd w.A8)(d:w.A8.length<=k)(e:(toL y).length<=j):(toW (wv w*(y:Int))).A8.length<=k+j:=by unfold toW;simp only[];rw[dv,Qjx,wd];have:=@Qb6 (val w.A8) y;have:=K2 a;omega
theorem Xt{n k:Nat}{f g:Qc}(hn:big<=n)(l:1<=k)(hk:k<1099511627776)(v:Fk k f)(x:Fk k g):Xd n f g=some (toF (fv f+fv g)):=by
 obtain⟨w,d,a1,a2,a3,a4,a5,a6,a7⟩:=Qi6 hn v l om;obtain⟨u,e,q,i,r,a,s,j,t⟩:=Qi6 hn x l om;have m:=Qpr a2 a3 (xe (K2 a) s);have p:=Qpr i r (xe (K2 a4) a5);unfold Xd;rw[a1,sbind,q,sbind,Qfh hn ⟨a2,om⟩ a om,sbind,Qfh hn ⟨i,om⟩ a4 om,sbind,Qsf hn ⟨Qfx _,om⟩ ⟨Qfx _,om⟩,sbind,Qi5 hn om om a4 a,sbind];have A:=@Qb6 (val d) (val e);have B:=K2 a4;have C:=K2 a;rw[Qdq,Qdq];have y:(toW (wv w * ↑(val e)+wv u * ↑(val d))).A8.length<=2*k+1:=by
  unfold toW at m p |-;simp only[] at m p |-;have:=Int.natAbs_add_le (wv w * ↑(val e)) (wv u * ↑(val d));exact xe (W8 this) (Qug om om)
 rw[Qf3 hn ⟨Qfx _,om⟩ (Jq _) om (by rw[Jc];exact dh a6 j),sbind,Jc,Qdq,<-a7,<-t,jj _ _ a6 j]
theorem Qmg{n k:Nat}{f g:Qc}(hn:big<=n)(l:1<=k)(hk:k<1099511627776)(v:Fk k f)(x:Fk k g):Qhi n f g=some (toF (fv f - fv g)):=by
 obtain⟨w,d,a1,a2,a3,a4,a5,a6,a7⟩:=Qi6 hn v l om;obtain⟨u,e,q,i,r,a,s,j,t⟩:=Qi6 hn x l om;have m:=Qpr a2 a3 (xe (K2 a) s);have p:=Qpr i r (xe (K2 a4) a5);unfold Qhi;rw[a1,sbind,q,sbind,Qfh hn ⟨a2,om⟩ a om,sbind,Qfh hn ⟨i,om⟩ a4 om,sbind,Qob hn ⟨Qfx _,om⟩ ⟨Qfx _,om⟩,sbind,Qi5 hn om om a4 a,sbind];have A:=@Qb6 (val d) (val e);have B:=K2 a4;have C:=K2 a;rw[Qdq,Qdq];have y:(toW (wv w * ↑(val e) - wv u * ↑(val d))).A8.length<=2*k+1:=by
  unfold toW at m p |-;simp only[] at m p |-;have:=Int.natAbs_sub_le (wv w * ↑(val e)) (wv u * ↑(val d));exact xe (W8 this) (Qug om om)
 rw[Qf3 hn ⟨Qfx _,om⟩ (Jq _) om (by rw[Jc];exact dh a6 j),sbind,Jc,Qdq,<-a7,<-t,jp,Rat.neg_mkRat,jj _ _ a6 j,Int.neg_mul,<-Int.sub_eq_add_neg]
theorem Xf{n k:Nat}{f g:Qc}(hn:big<=n)(j:1<=k)(hk:k<1099511627776)(q:Fk k f)(r:Fk k g):Wq n f g=some (toF (fv f*fv g)):=by
 obtain⟨w,d,a1,a2,a3,a4,a5,a6,a7⟩:=Qi6 hn q j om;obtain⟨u,e,l,a,s,i,t,m,p⟩:=Qi6 hn r j om;unfold Wq;rw[a1,sbind,l,sbind,Qse hn ⟨a2,om⟩ ⟨a,om⟩,sbind,Qi5 hn om om a4 i,sbind];have y:=@Qb6 (val d) (val e);have A:=K2 a4;have B:=K2 i;have x:(toW (wv w*wv u)).A8.length<=2*k:=by unfold toW;simp only[];rw[dv,Qjx,Qjx];have g1:=@Qb6 (val w.A8) (val u.A8);have v:=K2 a2;have g3:=K2 a;omega
 rw[Qf3 hn ⟨Qfx _,om⟩ (Jq _) om (by rw[Jc];exact dh a6 m),sbind,Jc,Qdq,<-a7,<-p,gq]
theorem Jkx(q:Rat):toF (-q)=⟨toW (-q.num),toL q.den⟩:=rfl
theorem Jnf{f:Qc}(a:Fw f):Ww (toF (fv f)).Num:=by
 refine⟨Qfx _,?_⟩;show(toL (fv f).num.natAbs).length<_;by_cases h0:val f.Den=0;unfold fv;rw[h0,Rat.mkRat_zero];simp[Yu];obtain⟨d,_⟩:=Qg7 (z:=wv f.Num) h0;unfold fv;rw[d];have e:(wv f.Num / (Nat.gcd (wv f.Num).natAbs (val f.Den):Int)).natAbs<=val f.Num.A8:=by rw[<-Qjx];exact Int.natAbs_ediv_le_natAbs _ _
 exact ye (xe (W8 e) (K2 a.1.1)) a.1.2
theorem Qi7{n:Nat}{f:Qc}(hn:big<=n)(a:Fw f):Qgb n f=some (toF (-fv f)):=by unfold Qgb;have h:=Jnf a;rw[Va hn a,sbind,Qyt hn h,sbind,Jkx];unfold toF;simp only[Qdq]
theorem Qyu{a b:Int}{d e:Nat}(hd:d≠0)(f:e≠0):Int.sign (a*(e:Int) - b*(d:Int))=Int.sign (mkRat a d - mkRat b e).num:=by rw[jp,Rat.neg_mkRat,jj _ _ hd f,Int.neg_mul,<-Int.sub_eq_add_neg];generalize a*(e:Int) - b*(d:Int)=z;have h0:d*e≠0:=dh hd f;obtain⟨i,_⟩:=Qg7 (z:=z) h0;rw[i];have k:(Nat.gcd z.natAbs (d*e):Int) ∣ z:=Int.dvd_natAbs.1 (Int.natCast_dvd_natCast.2 (Nat.gcd_dvd_left _ _));obtain⟨c,j⟩:=k;have hp:0<Nat.gcd z.natAbs (d*e):=Nat.gcd_pos_of_pos_right _ om;generalize Nat.gcd z.natAbs (d*e)=g at *;subst j;rw[Int.mul_ediv_cancel_left _ om,Int.sign_mul,vt om,Int.one_mul]
theorem Zj{n k:Nat}{f g:Qc}(hn:big<=n)(j:1<=k)(hk:k<1099511627776)(v:Fk k f)(x:Fk k g):Qae n f g=some (Int.sign (fv f - fv g).num):=by
 obtain⟨w,d,a1,a2,a3,a4,a5,a6,a7⟩:=Qi6 hn v j om;obtain⟨u,e,p,a,q,i,r,s,t⟩:=Qi6 hn x j om;have l:=Qpr a2 a3 (xe (K2 i) r);have m:=Qpr a q (xe (K2 a4) a5);have y:(toW (wv w * ↑(val e) - wv u * ↑(val d))).A8.length<=2*k+1:=by unfold toW at l m |-;simp only[] at l m |-;have:=Int.natAbs_sub_le (wv w * ↑(val e)) (wv u * ↑(val d));exact xe (W8 this) (Qug om om)
 unfold Qae;rw[a1,sbind,p,sbind,Qfh hn ⟨a2,om⟩ i om,sbind,Qfh hn ⟨a,om⟩ a4 om,sbind,Q8d hn ⟨Qfx _,om⟩ ⟨Qfx _,om⟩ (by rw[Qdq,Qdq];exact⟨Qfx _,om⟩),sbind,Qdq,Qdq,Qyu a6 s,a7,t]
def runG{α β τ:Type}(g:Nat->α->β->β ⊕ τ)(e:β->τ):List α->Nat->β->τ
 | [],_,b=>e b
 | x::xs,i,b=>match g i x b with
   | .inl a=>runG g e xs (i+1) a
   | .inr t=>t
def toLpp{β σ τ0 τ:Type}(mk:β->Nat->σ)(i:Nat):β ⊕ τ->Lp σ (Lp τ0 τ)
 | .inl b=>.go (mk b (i+1))
 | .inr t=>.out (.out t)
theorem Q4z{α β σ τ0 τ:Type}{f:σ->Option (Lp σ (Lp τ0 τ))}{k:τ0->Option τ}{s0:σ}(mk:β->Nat->σ)(g:Nat->α->β->β ⊕ τ)(q:β->τ0)(e:β->τ)(I:Nat->β->Prop)(xs:List α)(b:β){n:Nat}
 (r:∀ i x b,xs[i]?=some x->I i b->f (mk b i)=some (toLpp mk i (g i x b))/\∀ d,g i x b=.inl d->I (i+1) d)
 (l:∀ b,I xs.length b->f (mk b xs.length)=some (.out (.go (q b)))) (hk:∀ b,I xs.length b->k (q b)=some (e b)) (h0:I 0 b) (hn:xs.length<n) (w:s0=mk b 0:=by rfl) :
 (loopM f n s0).bind (lpK k)=some (runG g e xs 0 b):=by
 have u:∀(xs:List α) (j:Nat) (b:β) (n:Nat),
  (∀ i x b,xs[i]?=some x->I (j+i) b->f (mk b (j+i))=some (toLpp mk (j+i) (g (j+i) x b))/\∀ d,g (j+i) x b=.inl d->I (j+i+1) d) ->
  (∀ b,I (j+xs.length) b->f (mk b (j+xs.length))=some (.out (.go (q b))))->(∀ b,I (j+xs.length) b->k (q b)=some (e b))->I j b->xs.length<n->(loopM f n (mk b j)).bind (lpK k)=some (runG g e xs j b):=by
  intro xs
  induction xs with
  | nil=>
    intro j b n _ l hk h0 hn;simp only[yh,xq] at l hk;rw[Vs (l b h0) om,xy];exact hk b h0
  | cons x xs C=>
    intro j b n r l hk h0 hn;obtain⟨m,rfl⟩:∃ m,n=m+1:=⟨n - 1,by simp at hn;omega⟩
    obtain⟨p,v⟩:=r 0 x b rfl h0;simp only[xq] at p v;simp only[runG];cases s:g j x b with
    | inl d=>
      rw[s] at p;rw[Qb5 p];refine C (j+1) d m (λi y c B a=>?_) (λc a=>?_) (λc a=>?_) (v d s) (by simp at hn;omega);have:=r (i+1) y c (by simpa using B);rw[show j+(i+1)=j+1+i by omega] at this;exact this a;have:=l c;rw[xm,show j+(xs.length+1)=j+1+xs.length by omega] at this;exact this a;have:=hk c;rw[xm,show j+(xs.length+1)=j+1+xs.length by omega] at this;exact this a
    | inr t=>rw[s] at p;rw[Vs p om];rfl
 rw[w];exact u xs 0 b n (λi x c A a=>by rw[xj] at a |-;exact r i x c A a) (λc a=>by rw[xj] at a |-;exact l c a) (λc a=>hk c (by rwa [xj] at a)) h0 hn
theorem Je{α:Type}{l:List α}{i:Nat}{x:α}(h:l[i]?=some x):getI l (i:Int)=some x:=by rw[Qh0,h]
theorem K1{α:Type}{l:List α}{i:Nat}{x:α}(h:l[i]?=some x):i<l.length:=by rcases xo i l.length with a | a;exact a;rw[xa a] at h;cases h
theorem Jr{α:Type}{l:List α}{i:Nat}{x:α}(h:l[i]?=some x):x∈l:=gm h
theorem w1{i:Nat}(h:i<9223372036854775807):wrap64 ((i:Int)+1)=((i+1:Nat):Int):=by rw[w64 om om];omega
theorem Qua{α:Type}{l:List α}{x:α}(h:l.length<9223372036854775807):getI (l++[x]) (wrap64 (((l++[x]).length:Int) - 1))=some x:=by rw[yy,vv,w64 om om,show(((l.length+1:Nat):Int) - 1)=((l.length:Nat):Int) by omega,Qh0];simp
theorem Jhp{α:Type}{l:List α}{x y:α}(h:l.length<9223372036854775807):List.set (l++[x]) (Int.toNat (wrap64 (((l++[x]).length:Int) - 1))) y=l++[y]:=by rw[yy,vv,w64 om om,show(((l.length+1:Nat):Int) - 1)=((l.length:Nat):Int) by omega,yo];simp
theorem Q9n{σ τ:Type}{f:σ->Option (Lp σ τ)}(F:Nat->σ){t:τ}:∀(N k n:Nat),(∀ i,i<N->f (F (k+i))=some (.go (F (k+i+1))))->f (F (k+N))=some (.out t)->N<n->loopM f n (F k)=some t
 | 0,k,n,_,a,hn=>Vs a om
 | N+1,k,n,d,a,hn=>by
   obtain⟨m,rfl⟩:∃ m,n=m+1:=⟨n - 1,om⟩
   have h0:=d 0 om;simp only[xq] at h0;rw[Qb5 h0];exact Q9n F N (k+1) m (λi hi=>by have:=d (i+1) om;rw[show k+(i+1)=k+1+i by omega] at this;exact this) (by rw[show k+1+N=k+(N+1) by omega];exact a) om
theorem W1{σ τ R:Type}{f:σ->Option (Lp σ τ)}{s:σ}{K:τ->Option R}{n:Nat}(F:Nat->σ)(N:Nat)(t:τ)(a:∀ i,i<N->f (F i)=some (.go (F (i+1))))(d:f (F N)=some (.out t))(hn:N<n)(e:s=F 0):(loopM f n s).bind K=K t:=by rw[e,Q9n F (t:=t) N 0 n (λi hi=>by rw[xj];exact a i hi) (by rw[xj];exact d) hn,xy]
theorem Q6k{α σ τ:Type}{f:Nat->α->σ->Option (Lp σ τ)}(F:Nat->σ):∀(xs:List α) (k:Nat),(∀ i x,xs[i]?=some x->f (k+i) x (F (k+i))=some (.go (F (k+i+1))))->rangeL f xs k (F k)=some (.go (F (k+xs.length)))
 | [],_,_=>rfl
 | x::xs,k,a=>by have h0:=a 0 x rfl;simp only[xq] at h0;simp only[rangeL,h0,xy];rw[Q6k F xs (k+1) (λi y d=>by have:=a (i+1) y (by simpa using d);rw[show k+(i+1)=k+1+i by omega] at this;exact this),xm,show k+1+xs.length=k+(xs.length+1) by omega]
theorem Qjy{α σ τ R:Type}{f:Nat->α->σ->Option (Lp σ τ)}{s:σ}{K:Lp σ τ->Option R}(F:Nat->σ)(xs:List α)(a:∀ i x,xs[i]?=some x->f i x (F i)=some (.go (F (i+1))))(d:s=F 0):(rangeL f xs 0 s).bind K=K (.go (F xs.length)):=by rw[d,Q6k F xs 0 (λi x e=>by rw[xj];exact a i x e),xy,xj]
theorem Q6l{α R:Type}{f:Nat->α->Unit->Option (Lp Unit R)}{r:R}(P:Nat->α->Prop):∀(xs:List α) (k:Nat),(∀ i x,xs[i]?=some x->(P (k+i) x->f (k+i) x ()=some (.go ()))/\(¬ P (k+i) x->f (k+i) x ()=some (.out r))) ->
 ((∀ i x,xs[i]?=some x->P (k+i) x)->rangeL f xs k ()=some (.go ()))/\(¬(∀ i x,xs[i]?=some x->P (k+i) x)->rangeL f xs k ()=some (.out r))
 | [],k,_=>⟨λ_=>rfl,λh=>absurd (λi x m=>by simp at m) h⟩
 | x::xs,k,j=>by
   obtain⟨d,g⟩:=j 0 x rfl;simp only[xq] at d g;obtain⟨g1,l⟩:=Q6l P xs (k+1) (λi y a=>by have:=j (i+1) y (by simpa using a);rw[show k+(i+1)=k+1+i by omega] at this;exact this);by_cases hp:P k x;have e:(∀ i y,(x::xs)[i]?=some y->P (k+i) y)↔(∀ i y,xs[i]?=some y->P (k+1+i) y):=by
    constructor;intro h i y a;have:=h (i+1) y (by simpa using a);rw[show k+(i+1)=k+1+i by omega] at this;exact this;intro h i y a;cases i with
    | zero=>simp at a;subst a;exact hp
    | succ i=>rw[show k+(i+1)=k+1+i by omega];exact h i y (by simpa using a)
   rw[e];simp only[rangeL,d hp,xy];exact⟨g1,l⟩;refine⟨λh=>absurd (h 0 x rfl) hp,λ_=>?_⟩;simp only[rangeL,g hp,xy]
open Classical in
theorem Qb8{α R:Type}{f:Nat->α->Unit->Option (Lp Unit R)}{K:Unit->Option R}{r:R}(P:Nat->α->Prop)(xs:List α)
 (d:∀ i x,xs[i]?=some x->(P i x->f i x ()=some (.go ()))/\(¬ P i x->f i x ()=some (.out r))) :
 (rangeL f xs 0 ()).bind (lpK K)=if (∀ i x,xs[i]?=some x->P i x) then K () else some r:=by
 obtain⟨g1,a⟩:=Q6l P xs 0 (λi x e=>by rw[xj];exact d i x e);simp only[xj] at g1 a;by_cases h:∀ i x,xs[i]?=some x->P i x;rw[oo h,g1 h,xy,Xi];rw[ol h,a h,xy,Z0]
theorem Q9o{R:Type}{f:Int->Option (Lp Int (Lp Unit R))}{r:R}(P:Nat->Prop):∀(N k n:Nat),(∀ i,i<k+N->k<=i->(P i->f (i:Int)=some (.go ((i+1:Nat):Int)))/\(¬ P i->f (i:Int)=some (.out (.out r))))->f ((k+N:Nat):Int)=some (.out (.go ()))->N<n ->
 ((∀ i,k<=i->i<k+N->P i)->loopM f n (k:Int)=some (.go ()))/\(¬(∀ i,k<=i->i<k+N->P i)->loopM f n (k:Int)=some (.out r))
 | 0,k,n,_,d,hn=>⟨λ_=>Vs d om,λh=>absurd (λi g j=>by omega) h⟩
 | N+1,k,n,l,d,hn=>by
   obtain⟨m,rfl⟩:∃ m,n=m+1:=⟨n - 1,om⟩
   obtain⟨g,j⟩:=l k om (xn _);obtain⟨g1,p⟩:=Q9o P N (k+1) m (λi hi hk=>l i om om) (by rw[show k+1+N=k+(N+1) by omega];exact d) om;by_cases hp:P k;have e:(∀ i,k<=i->i<k+(N+1)->P i)↔(∀ i,k+1<=i->i<k+1+N->P i):=by constructor;intro h i a b;exact h i om om;intro h i a b;rcases jl a with c | c;exact c ▸ hp;exact h i c om
   rw[e,Qb5 (g hp)];exact⟨g1,p⟩;exact⟨λh=>absurd (h k (xn _) om) hp,λ_=>Vs (j hp) om⟩
open Classical in
theorem Qkg{R:Type}{f:Int->Option (Lp Int (Lp Unit R))}{K:Unit->Option R}{r:R}{n:Nat}(P:Nat->Prop)(N:Nat)
 (d:∀ i,i<N->(P i->f (i:Int)=some (.go ((i+1:Nat):Int)))/\(¬ P i->f (i:Int)=some (.out (.out r)))) (e:f (N:Int)=some (.out (.go ()))) (hn:N<n) :
 (loopM f n 0).bind (lpK K)=if (∀ i,i<N->P i) then K () else some r:=by
 obtain⟨g1,a⟩:=Q9o (n:=n) (r:=r) P N 0 (λi hi _=>d i om) (by rw[xj];exact e) hn;simp only[xj,ya,true_implies] at g1 a;by_cases h:∀ i,i<N->P i;rw[oo h];have:=g1 h;rw[show((0:Nat):Int)=0 from rfl] at this;rw[this,xy,Xi];rw[ol h];have:=a h;rw[show((0:Nat):Int)=0 from rfl] at this;rw[this,xy,Z0]
theorem Qg8{α β:Type}(h:α->β){l:List α}{i:Nat}{x:α}(a:l[i]?=some x):(l.take (i+1)).map h=(l.take i).map h++[h x]:=by
 rw[jh (K1 a),yf];have:l[i]'(K1 a)=x:=by have:=oq (K1 a);rw[this] at a;exact Option.some.inj a
 simp[this]
theorem Q8e:∀ {a b:List Nat},Wd a->Wd b->a.length=b.length->val a=val b->a=b
 | [],[],_,_,_,_=>rfl
 | [],_::_,_,_,h,_=>by simp at h
 | _::_,[],_,_,h,_=>by simp at h
 | x::a,y::b,f,g,i,j=>by
   obtain⟨k,d⟩:=Vo.1 f;obtain⟨l,e⟩:=Vo.1 g;simp only[val] at j;have:x=y:=om
   subst this;rw[Q8e d e (by simpa using i) om]
theorem Qwh{x y:Nat}:cmpI x y=0↔x=y:=by unfold cmpI;split;constructor<;>intro h<;>omega;split;constructor<;>intro h<;>omega;constructor<;>intro h<;>omega
open Classical in
theorem Qro{n:Nat}{f:Qc}(hn:big<=n)(u:Fw f):Yl n f=some (decide (f=toF (fv f))):=by
 unfold Yl;rw[Va hn u,sbind,jn_eq];have w1:Wd (toF (fv f)).Num.A8:=Jq _;have r:Wd (toF (fv f)).Den:=Jq _;generalize toF (fv f)=g at *;obtain⟨⟨p,v⟩,q,w⟩:=u;obtain⟨⟨s,a⟩,d⟩:=f;obtain⟨⟨t,b⟩,e⟩:=g;simp only at p v q w w1 r |-;have i:∀ {P:Prop},(P->False)->(some false:Option Bool)=some (decide P):=λh=>by rw[oj h]
 by_cases c1:s=t;subst c1;rw[show(s == s)=true by simp,bifT];by_cases l:(a.length:Int)=(b.length:Int)
 rw[oi l,bifT];by_cases m:(d.length:Int)=(e.length:Int)
 rw[oi m,bifT,Qnq hn om om p w1,sbind];by_cases j:val a=val b;rw[oi (Qwh.2 j),bifT,Qnq hn om om q r,sbind];by_cases k:val d=val e;rw[oi (Qwh.2 k),Q8e p w1 om j,Q8e q r om k,oi rfl];rw[oj λh=>k (Qwh.1 h)];exact i λh=>by cases h;exact k rfl
 rw[oj λh=>j (Qwh.1 h),bifF];exact i λh=>by cases h;exact j rfl
 rw[oj m,bifF];exact i λh=>by cases h;exact m rfl
 rw[oj l,bifF];exact i λh=>by cases h;exact l rfl
 rw[show(s == t)=false by simpa using c1,bifF];exact i λh=>by cases h;exact c1 rfl
def qw(q:Rat):Nat:=max (toL q.num.natAbs).length (toL q.den).length
theorem Vm{j k:Nat}{f:Qc}(h:Fk j f)(hk:j<=k):Fk k f:=⟨h.1,by have:=h.2.1;omega,h.2.2.1,by have:=h.2.2.2;omega⟩
theorem Js{q:Rat}{k:Nat}(h:qw q<=k):Fk k (toF q):=by unfold qw at h;exact⟨Qfx _,by show(toL q.num.natAbs).length<=k;omega,Jq _,by show(toL q.den).length<=k;omega⟩
theorem toL1:(toL 1).length=1:=by rw[Qew oz];simp[Yu]
theorem Qz9{z:Int}{d k:Nat}(hd:d≠0)(g:(toL z.natAbs).length<=k)(i:(toL d).length<=k):qw (mkRat z d)<=k:=by obtain⟨a,e⟩:=Qg7 (z:=z) hd;unfold qw;rw[a,e];have g1:=W8 (Int.natAbs_ediv_le_natAbs z (Nat.gcd z.natAbs d:Int));have f:=W8 (gf d (Nat.gcd z.natAbs d));omega
theorem Qab:qw 0=1:=by unfold qw;rw[show(0:Rat).num=0 from rfl,show(0:Rat).den=1 from rfl,toL1];simp[Yu]
theorem Q6m(q:Rat):1<=qw q:=by have:=(Qkf (v:=q.den)).2 q.den_nz;unfold qw;omega
theorem qw_fv{f:Qc}{k:Nat}(h:Fk k f)(a:1<=k):qw (fv f)<=k:=by unfold fv;by_cases h0:val f.Den=0;rw[h0,Rat.mkRat_zero,Qab];exact a;refine Qz9 h0 ?_ ?_;rw[Qjx];exact xe (K2 h.1) h.2.1;exact xe (K2 h.2.2.1) h.2.2.2
theorem Qex(q:Rat):(toL q.num.natAbs).length<=qw q:=by unfold qw;omega
theorem Qhe(q:Rat):(toL q.den).length<=qw q:=by unfold qw;omega
theorem Wa{a b:Rat}{j k:Nat}(f:qw a<=j)(g:qw b<=k):qw (a*b)<=j+k:=by rw[<-ve a,<-ve b,gq];have i:=Qex a;have l:=Qex b;have d:=Qhe a;have e:=Qhe b;have:=@Qb6 a.num.natAbs b.num.natAbs;have:=@Qb6 a.den b.den;exact Qz9 (dh a.den_nz b.den_nz) (by rw[dv];omega) om
theorem Zn{a b:Rat}{j k:Nat}(f:qw a<=j)(g:qw b<=k):qw (a+b)<=j+k+1:=by rw[<-ve a,<-ve b,jj _ _ a.den_nz b.den_nz];have n:=Qex a;have p:=Qex b;have d:=Qhe a;have e:=Qhe b;have i:=@Qb6 a.num.natAbs b.den;have l:=@Qb6 b.num.natAbs a.den;have m:=@Qb6 a.den b.den;refine Qz9 (dh a.den_nz b.den_nz) ?_ om;refine xe (W8 (Int.natAbs_add_le _ _)) ?_;rw[dv,dv,wd,wd];exact Qug om om
theorem Qyv(a:Rat):(-a).num=-a.num:=rfl
theorem Q8f(a:Rat):(-a).den=a.den:=rfl
theorem Qjz(a:Rat):qw (-a)=qw a:=by unfold qw;rw[Qyv,Q8f,Int.natAbs_neg]
theorem Qpa{a b:Rat}{j k:Nat}(d:qw a<=j)(e:qw b<=k):qw (a - b)<=j+k+1:=by rw[jp];exact Zn d (by rw[Qjz];exact e)
theorem Q2h{a:Rat}{j:Nat}(g:qw a<=j):qw a⁻¹<=j:=by
 have i:=Qex a;have d:=Qhe a;have p:=Q6m a;unfold qw;rw[Rat.num_inv,Rat.den_inv];have e:(toL (a.num.sign*(a.den:Int)).natAbs).length<=j:=by
  rw[dv,wd];refine xe (W8 (y:=a.den) ?_) om;have:a.num.sign.natAbs<=1:=by rw[Int.natAbs_sign];split<;>omega
  calc a.num.sign.natAbs*a.den<=1*a.den:=xt _ this
   _=a.den:=Nat.one_mul _
 have f:(toL (if a.num=0 then 1 else a.num.natAbs)).length<=j:=by
  split
  . rw[toL1];omega
  . omega
 omega
theorem Qj0{a b:Rat}{j k:Nat}(d:qw a<=j)(e:qw b<=k):qw (a / b)<=j+k:=by rw[wh];exact Wa d (Q2h e)
theorem Q6n{a:Rat}{j:Nat}(d:qw a<=j):∀ n:Nat,qw (a ^ n)<=n*j+1
 | 0=>by rw[js];unfold qw;rw[show(1:Rat).num=1 from rfl,show(1:Rat).den=1 from rfl,show(1:Int).natAbs=1 from rfl,toL1];omega
 | n+1=>by have:=Wa (Q6n d n) d;rw[jd,vk];omega
theorem Jky(x:Int):toF (x:Rat)=⟨toW x,toL 1⟩:=by unfold toF;rw[Rat.num_intCast,Rat.den_intCast]
theorem Qtp{n:Nat}{x:Int}(hn:big<=n)(a:-9223372036854775808<=x)(d:x<=9223372036854775807):Qlv n x=some (toW x):=by
 unfold Qlv;rw[bifd];split;rename_i h;have e:(18446744073709551616 - Int.toNat (x%18446744073709551616))%18446744073709551616=x.natAbs:=om
 rw[sbind,e,Qke hn om,sbind,Qa1,sbind,oo rfl,show -((x.natAbs:Nat):Int)=x by omega];rename_i h;have e:Int.toNat (x%18446744073709551616)=x.natAbs:=om
 rw[e,Qke hn om,sbind,Qa1,sbind,ol oz,show((x.natAbs:Nat):Int)=x by omega]
theorem Qlm{n:Nat}{x:Int}(hn:big<=n)(a:-9223372036854775808<=x)(d:x<=9223372036854775807):Kt n x=some (toF (x:Rat)):=by unfold Kt;rw[Qtp hn a d,sbind,Qke hn oz,sbind,Jky]
theorem Qac{n:Nat}(hn:big<=n):Kt n 0=some (toF 0):=Qlm hn oz oz
theorem Qi8{n:Nat}(hn:big<=n):Kt n 1=some (toF 1):=Qlm hn oz oz
theorem Jgb{z:Int}{d:Nat}(hd:d≠0):(mkRat z d).num.sign=z.sign:=by have:=Qyu (a:=z) (b:=0) hd (e:=1) oz;rw[Rat.zero_mkRat,show mkRat z d - 0=mkRat z d by rw[jp,show(-0:Rat)=0 from rfl,wx]] at this;rw[<-this];simp
theorem Qdc{n k:Nat}{f:Qc}(hn:big<=n)(a:1<=k)(hk:k<1099511627776)(e:Fk k f):Qak n f=some (fv f).num.sign:=by obtain⟨w,d,a1,a2,a3,a4,a5,a6,a7⟩:=Qi6 hn e a om;unfold Qak;rw[a1,sbind,Qjw hn ⟨a2,om⟩,sbind,<-a7,Jgb a6]
theorem Jcw{a b:Rat}:(a - b).num=0↔a=b:=by rw[jb];grind
theorem Qb7{n k:Nat}{f g:Qc}(hn:big<=n)(a:1<=k)(hk:k<1099511627776)(d:Fk k f)(e:Fk k g):Xl n f g=some (decide (fv f=fv g)):=by unfold Xl;rw[Zj hn a hk d e,sbind];refine yj some (gr.2 ?_);rw[dr,Jcw]
def qz(q:Rat):Nat:=blen q.num.natAbs+blen q.den
theorem Q8g{n k:Nat}{f:Qc}(hn:big<=n)(hk:k<1099511627776)(e:Fk k f):Y5 n f=some ((blen (val f.Num.A8)+blen (val f.Den):Nat):Int):=by unfold Y5;obtain⟨a,m,d,p⟩:=e;have g:=@Qz8 (val f.Num.A8);have i:=@Qz8 (val f.Den);have j:=K2 a;have l:=K2 d;rw[Q0x hn om a,sbind,Q0x hn om d,sbind,w64 om om];rfl
theorem Qwi{n:Nat}{q:Rat}(hn:big<=n)(hk:qw q<1099511627776):Y5 n (toF q)=some (qz q:Int):=by rw[Q8g hn hk (Js (xn _))];unfold qz toF toW;simp only[Jc]
theorem Q6o{v b:Nat}(h:blen v<=b):(toL v).length<=b / 32+1:=by refine Qcc ?_;have a:=@Quf v;rw[Qo9];exact xw a (dc oz om)
theorem qw_qz{q:Rat}{b:Nat}(h:qz q<=b):qw q<=b / 32+1:=by unfold qz at h;have a:=@Q6o q.num.natAbs b om;have d:=@Q6o q.den b om;unfold qw;omega
theorem Jkz:∀ {u:Qf},wv u≠0->(wv u).sign=if u.Neg then -1 else 1
 | ⟨false,a⟩,h=>by have e:wv ⟨false,a⟩=(val a:Int):=rfl;rw[e] at h |-;rw[vt om];rfl
 | ⟨true,a⟩,h=>by have e:wv ⟨true,a⟩=-(val a:Int):=rfl;rw[e] at h |-;rw[gd om];rfl
theorem Q2i{z:Int}{d:Nat}(a:z≠0)(hd:d≠0):(mkRat z d)⁻¹=mkRat (z.sign*(d:Int)) z.natAbs:=by
 have h0:mkRat z d≠0:=λh=>a ((Rat.mkRat_eq_zero hd).1 h);have e:mkRat z d*mkRat (z.sign*(d:Int)) z.natAbs=1:=by rw[gq,<-Int.mul_assoc,Int.mul_sign_self,show(1:Rat)=mkRat 1 1 from rfl,Rat.mkRat_eq_iff (dh hd om) oz];simp[Int.mul_comm]
 grind
theorem Qg9{n k:Nat}{f g:Qc}(hn:big<=n)(r:1<=k)(hk:k<1099511627776)(B:Fk k f)(C:Fk k g):Qb9 n f g=some (if fv g=0 then (toF 0,false) else (toF (fv f / fv g),true)):=by
 obtain⟨w,d,a1,a2,a3,a4,a5,a6,a7⟩:=Qi6 hn B r om;obtain⟨u,e,v,i,F,m,y,p,j⟩:=Qi6 hn C r om;unfold Qb9;rw[a1,sbind,v,sbind,Qjw hn ⟨i,om⟩,sbind,bifd];have s:(wv u).sign=0↔fv g=0:=by rw[<-j,Rat.mkRat_eq_zero p,dr]
 by_cases h0:fv g=0;rw[oo (s.2 h0),oo h0,Qac hn,sbind];rw[ol (λh=>h0 (s.1 h)),ol h0,Qfh hn ⟨a2,om⟩ m om,sbind,Qi5 hn om om a4 i,sbind];have G:=Qpr a2 a3 (xe (K2 m) y);have H:=@Qb6 (val d) (val u.A8);have I:=K2 a4;have J:=K2 i;have a:wv u≠0:=λh=>h0 (by rw[<-j,h,Rat.zero_mkRat]);have l:val u.A8≠0:=by rw[<-Qjx];omega
 rw[Qf3 (w:=⟨(toW (wv w * ↑(val e))).Neg != u.Neg,(toW (wv w * ↑(val e))).A8⟩) hn ⟨Qfx (wv w * ↑(val e)),by show(toW (wv w * ↑(val e))).A8.length<_;omega⟩ (Jq _) om (by rw[Jc];exact dh a6 l),sbind,Jc];refine yj some (Prod.ext ?_ rfl);refine yj toF ?_;have A:wv (⟨((toW (wv w * ↑(val e))).Neg != u.Neg),(toW (wv w * ↑(val e))).A8⟩:Qf)=(wv w*(val e:Int))*(wv u).sign:=by
  have t:=Qdq (wv w * ↑(val e));generalize toW (wv w * ↑(val e))=x at t |-;rw[<-t];have E:=Jkz a;rw[E];unfold wv;cases x.Neg<;>cases u.Neg<;>simp
 rw[A,<-a7,<-j,wh];have q:=Q2i a p;rw[Qjx] at q;rw[q,gq];congr 1;rw[Int.mul_assoc,Int.mul_comm (val e:Int)]
theorem Q3e{v j:Nat}(h:(toL v).length<=j):∀ t,(toL (v ^ t)).length<=t*j+1
 | 0=>by rw[Nat.pow_zero,toL1];omega
 | t+1=>by have:=Q3e h t;have:=@Qb6 (v ^ t) v;rw[jr,vk];omega
theorem Qwj{n j t:Nat}{a:List Nat}(hn:big<=n)(d:Wd a)(e:a.length<=j)(k:j<1099511627776)(l:t<=7+1):Qk1 n a (t:Int)=some (toL (val a ^ t)):=by unfold Qk1;rw[Qke hn oz,sbind];rw[W1 (λi=>(toL (val a ^ i),(i:Int))) t (toL (val a ^ t))];intro i hi;have f:=Q3e (xe (K2 d) e) i;have g:i*j<=8*j:=xt _ om;simp only[bifd];rw[oo om,Qi5 hn om om (Jq _) d,sbind,Jc,w1 om,jr];simp only[bifd];rw[ol om];unfold big at hn;omega;rfl
theorem Jew(z:Int)(t:Nat):(if (decide (z<0) && decide (t%2=1))=true then -((z.natAbs ^ t:Nat):Int) else ((z.natAbs ^ t:Nat):Int))=z ^ t:=by
 rw[Int.natCast_pow];by_cases a:z<0;have e:(z.natAbs:Int)=-z:=om
 rw[e,oi a,Bool.true_and];rcases Nat.mod_two_eq_zero_or_one t with h | h;rw[ol (by rw[h];decide)];obtain⟨m,rfl⟩:∃ m,t=2*m:=⟨t / 2,om⟩
 rw[Int.pow_mul,Int.pow_mul];congr 1;rw[dl,dl,dl,dl];simp[Int.neg_mul_neg];rw[oo (by rw[h];decide)];obtain⟨m,rfl⟩:∃ m,t=2*m+1:=⟨t / 2,om⟩
 rw[dl,dl,Int.pow_mul,Int.pow_mul];have:(-z) ^ 2=z ^ 2:=by rw[dl,dl,dl,dl];simp[Int.neg_mul_neg]
 rw[this,Int.mul_neg,Int.neg_neg];have e:(z.natAbs:Int)=z:=om
 rw[oj a,Bool.false_and,ol oz,e]
theorem Qpk{n k:Nat}{f:Qc}{e:Int}(hn:big<=n)(F:1<=k)(hk:k<1099511627)(s:Fk k f):
 Qjg n f e=some (if e < -8\/8<e\/(e<0/\fv f=0) then (toF 0,false) else (toF (fv f ^ e),true)):=by
 unfold Qjg;simp only[jn_eq];by_cases c1:e < -8;rw[oi c1,bifT,bifT,Qac hn,sbind,oo (.inl c1)];rw[oj c1,bifF];by_cases a:8<e;rw[oi a,bifT,bifT,Qac hn,sbind,oo (.inr (.inl a))];rw[oj a,bifF];have J:=Qdc hn F om s;have K:=qw_fv s F;have I:Fk k (toF (fv f)):=Js K;obtain⟨g1,E,g3,g4⟩:=I;have G:=Va hn (Fk_Fw s om);have j:max e (wrap64 (-e))=((e.natAbs:Nat):Int):=by rw[w64 om om];omega
 have w:=Qwj (t:=e.natAbs) hn g1 E om om;have A:=Qwj (t:=e.natAbs) hn g3 g4 om om;have M:=Q3e (xe (K2 g1) E) e.natAbs;have N:=Q3e (xe (K2 g3) g4) e.natAbs;have R:e.natAbs*k<=8*k:=xt _ om;have g:decide (Int.tmod ((e.natAbs:Nat):Int) 2=1)=decide (e.natAbs%2=1):=by refine gr.2 ?_;rw[Int.tmod_eq_emod_of_nonneg om];omega
 have O:val (toF (fv f)).Num.A8=(fv f).num.natAbs:=Jc _;have P:val (toF (fv f)).Den=(fv f).den:=Jc _;have v3:(toF (fv f)).Num.Neg=decide ((fv f).num<0):=rfl;rw[O] at w M;rw[P] at A N
 have fin:∀(u d:Nat),(toL u).length<=8*k+1->(if (toF (fv f)).Num.Neg=true then (Qe3 n (⟨decide (Int.tmod (max e (wrap64 (-e))) 2=1),toL u⟩:Qf)).bind λB=>some ((⟨B,toL d⟩:Qc),true) else (Qe3 n (⟨false,toL u⟩:Qf)).bind λC=>some ((⟨C,toL d⟩:Qc),true)) =
  some (⟨toW (if (decide ((fv f).num<0) && decide (e.natAbs%2=1))=true then -(u:Int) else (u:Int)),toL d⟩,true):=by
  intro u d Q;rw[j,g,v3];by_cases q:(fv f).num<0;rw[oo (oi q),Qrn hn ⟨Jq _,by show(toL u).length<_;omega⟩,sbind,oi q,Bool.true_and];unfold wv;simp only[Jc];rw[ol (by rw[oj q];decide),Qrn hn ⟨Jq _,by show(toL u).length<_;omega⟩,sbind,oj q,Bool.false_and];unfold wv;simp only[Jc]
 have bifi:∀ {α:Type}(b:Bool) (x y:α),(bif b then x else y)=if b=true then x else y:=λb x y=>by cases b<;>rfl
 by_cases l:e<0;rw[oi l,bifT,J,sbind];by_cases m:fv f=0;rw[m,show((0:Rat).num.sign)=0 from rfl,oi rfl,bifT,Qac hn,sbind,oo (.inr (.inr ⟨l,m ▸ rfl⟩))];have i:(fv f).num≠0:=λh=>m (jb.1 h);rw[oj (by rw[dr];exact i),bifF,G,sbind,j,w,sbind,A,sbind,bifT];rw[bifi,<-j,fin _ _ om,ol (c:=e < -8\/8<e\/(e<0/\fv f=0)) (by rintro(h | h | h);exact c1 h;exact a h;exact m h.2)];refine yj some (Prod.ext ?_ rfl);have H:e=-((e.natAbs:Nat):Int):=om
 have r:fv f ^ e=(fv f ^ e.natAbs)⁻¹:=by rw[<-gv,<-Rat.zpow_neg,<-H]
 rw[r];unfold toF;rw[Rat.num_inv,Rat.den_inv,Rat.num_pow,Rat.den_pow];have v:(fv f).num ^ e.natAbs≠0:=Int.pow_ne_zero i;rw[ol v,Int.natAbs_pow];have L:=Jew (fv f).num e.natAbs;have hp:0<(fv f).num.natAbs ^ e.natAbs:=Nat.pow_pos om;congr 2;rw[<-L];by_cases p:(decide ((fv f).num<0) && decide (e.natAbs%2=1))=true;rw[oo p,oo p,gd om,Int.neg_mul,Int.one_mul];rw[ol p,ol p,vt om,Int.one_mul];rw[oj l,bifF,bifF,G,sbind,j,w,sbind,A,sbind,bifF];rw[bifi,<-j,fin _ _ om,ol (c:=e < -8\/8<e\/(e<0/\fv f=0)) (by rintro(h | h | h);exact c1 h;exact a h;exact l h.1)];refine yj some (Prod.ext ?_ rfl);have r:fv f ^ e=fv f ^ e.natAbs:=by
  rw[<-gv,show((e.natAbs:Nat):Int)=e by omega]
 rw[r];unfold toF;rw[Rat.num_pow,Rat.den_pow,Jew]
theorem Qyw{a:Rat}{j:Nat}(f:qw a<=j){e:Int}(h:e.natAbs<=8):qw (a ^ e)<=8*j+1:=by
 have i:e.natAbs*j<=8*j:=xt _ om;have g:=Q6n f e.natAbs;rcases Int.lt_or_le e 0 with c | c;have d:a ^ e=(a ^ e.natAbs)⁻¹:=by rw[<-gv,<-Rat.zpow_neg,show -((e.natAbs:Nat):Int)=e by omega]
 rw[d];exact Q2h om;have d:a ^ e=a ^ e.natAbs:=by rw[<-gv,show((e.natAbs:Nat):Int)=e by omega]
 rw[d];omega
def rv(l:List Qc):List Rat:=l.map fv
def toR(l:List Rat):List Qc:=l.map toF
theorem Zo(l:List Rat):rv (toR l)=l:=by
 unfold rv toR;rw[vo]
 conv=>rhs;rw[<-List.map_id l]
 exact wj λq _=>Jf q
theorem J5(l:List Qc):(rv l).length=l.length:=by unfold rv;simp
theorem Kr(l:List Rat):(toR l).length=l.length:=by unfold toR;simp
def FR(k:Nat)(l:List Qc):Prop:=∀ x∈l,Fk k x
def QR(k:Nat)(l:List Rat):Prop:=∀ x∈l,qw x<=k
theorem X8{k:Nat}{l:List Rat}(h:QR k l):FR k (toR l):=λx a=>by unfold toR at a;obtain⟨q,d,rfl⟩:=xd.1 a;exact Js (h q d)
theorem QR_rv{k:Nat}{l:List Qc}(h:FR k l)(d:1<=k):QR k (rv l):=λx a=>by unfold rv at a;obtain⟨q,e,rfl⟩:=xd.1 a;exact qw_fv (h q e) d
theorem W3{j k:Nat}{l:List Qc}(h:FR j l)(hk:j<=k):FR k l:=λx a=>Vm (h x a) hk
theorem Jx{j k:Nat}{l:List Rat}(h:QR j l)(hk:j<=k):QR k l:=λx a=>xe (h x a) hk
theorem Q8h{α:Type}{n:Nat}{a:List α}{g:α->Rat}{f:Nat->α->List Qc->Option (Lp (List Qc) (List Qc))}(_:big<=n)(j:a.length<=1000000)
 (e:∀ i x s,a[i]?=some x->f i x s=(appM 56 s [toF (g x)]).bind λy=>some (Lp.go y)):(rangeL f a 0 []).bind (lpK λs=>some s)=some (toR (a.map g)):=by
 rw[Qjy (λi=>(a.take i).map λx=>toF (g x)) a,Xi,xu];unfold toR;rw[vo];rfl;intro i x d;have:=K1 d;rw[e i x _ d,Vt oh oh,sbind,Qg8 _ d];rfl
theorem Q0y{n k:Nat}{a:List Qc}(hn:big<=n)(hk:k<1099511627776)(d:FR k a)(e:a.length<=1000000):Qqt n a=some (toR (rv a)):=by unfold Qqt;refine Q8h (g:=fv) hn e λi x s f=>?_;rw[Va hn (Fk_Fw (d x (Jr f)) om),sbind]
theorem Qds{n k:Nat}{a:List Qc}(hn:big<=n)(hk:k<1099511627776)(d:FR k a)(e:a.length<=1000000):Qng n a=some (toR (rv a)):=Q0y hn hk d e
def scaleQ(c:Rat)(l:List Rat):List Rat:=l.map (c * ·)
theorem Qbe{n k:Nat}{c:Qc}{a:List Qc}(hn:big<=n)(d:1<=k)(hk:k<1099511627776)(f:Fk k c)(e:FR k a)(j:a.length<=1000000):Ye n c a=some (toR (scaleQ (fv c) (rv a))):=by unfold Ye;rw[Q8h (g:=λx=>fv c*fv x) hn j λi x s l=>?_];unfold scaleQ rv;rw[vo];rfl;rw[Xf hn d hk f (e x (Jr l)),sbind]
theorem Qnr{j k:Nat}{c:Rat}{l:List Rat}(d:qw c<=j)(h:QR k l):QR (j+k) (scaleQ c l):=λx a=>by unfold scaleQ at a;obtain⟨q,e,rfl⟩:=xd.1 a;exact Wa d (h q e)
theorem Q9p{α β τ R:Type}{f:Nat->α->List β->Option (Lp (List β) τ)}{K:Lp (List β) τ->Option R}(g:α->β->β)(xs:List α)(s:List β)(h:xs.length=s.length)
 (l:∀ i x y s',xs[i]?=some x->s[i]?=some y->s'[i]?=some y->f i x s'=some (.go (s'.set i (g x y)))):(rangeL f xs 0 s).bind K=K (.go (List.zipWith g xs s)):=by
 have a:∀ i,i<=xs.length->(List.zipWith g (xs.take i) (s.take i)).length=i:=λi hi=>oh
 rw[Qjy (λi=>List.zipWith g (xs.take i) (s.take i)++s.drop i) xs];rw[xu,h,xu,List.drop_length,vj];intro i x d;have hi:=K1 d;have e:s[i]?=some s[i]:=oq om;have m:(List.zipWith g (xs.take i) (s.take i)++s.drop i)[i]?=some s[i]:=by rw[yu (by rw[a i om];exact xn _),a i om,Nat.sub_self,vw,xq,e]
 rw[l i x s[i] _ d e m];refine yj (λz=>some (Lp.go z)) ?_;have hd:s.drop i=s[i]::s.drop (i+1):=xi om;have j:xs.take (i+1)=xs.take i++[x]:=by rw[gc,d];rfl
 have k:s.take (i+1)=s.take i++[s[i]]:=by rw[gc,e];rfl
 rw[hd,List.set_append_right _ _ (by rw[a i om];exact xn _),a i om,Nat.sub_self,List.set_cons_zero,j,k,List.zipWith_append oh];simp;simp
def addQ(a b:List Rat):List Rat:=List.zipWith (·+·) a b
theorem Jhq{α:Type}{x:α}{l:List α}:getI (x::l) 0=some x:=rfl
theorem Qln{n k:Nat}{a b:List Qc}(hn:big<=n)(f:1<=k)(hk:k<1099511627776)(g:FR k a)(j:FR k b)(l:a.length<=1000000):
 Qgg n [a,b]=some (if a.length=b.length then (toR (addQ (rv a) (rv b)),true) else ([],false)):=by
 unfold Qgg;have m:sub [a,b] (1:Int) (([a,b]:List (List Qc)).length:Int)=some [b]:=rfl;rw[show decide ((([a,b]:List (List Qc)).length:Int)=0)=false from rfl,bifF,Jhq,sbind,Q0y hn hk g l,sbind,m,sbind];simp only[rangeL];rw[Kr,J5];by_cases h:a.length=b.length;rw[oo h,oi (show(b.length:Int)=(a.length:Int) by omega),ot,bifF,Q9p (λ(x:Qc) (y:Qc)=>toF (fv y+fv x)) b (toR (rv a)) (by rw[Kr,J5,h]),Xi,sbind];simp only[];rw[sbind,Xi];refine yj some (Prod.ext ?_ rfl);simp only[];unfold addQ toR rv;rw[List.map_zipWith,vo,jt,List.zipWith_map,List.zipWith_comm];congr 1;funext x y;simp only[Function.comp,Jf];intro i x y s' p q d;have e:Fk k y:=X8 (QR_rv g f) y (Jr q);rw[Je d,sbind,Xt hn f hk e (j x (Jr p)),sbind,sbind,yo];rw[ol h,oj (show ¬(b.length:Int)=(a.length:Int) by omega),ov,bifT,sbind];rfl
theorem Q8i{α β γ:Type}{g:α->β->γ}{P:γ->Prop}:∀ {a:List α}{b:List β},(∀ x∈a,∀ y∈b,P (g x y))->∀ z∈List.zipWith g a b,P z
 | [],_,_,z,d=>by simp at d
 | _::_,[],_,z,d=>by simp at d
 | x::a,y::b,h,z,d=>by rcases xg.1 d with rfl | d;exact h x (.head _) y (.head _);exact Q8i (λi e j f=>h i (.tail _ e) j (.tail _ f)) z d
theorem Qu8{j k:Nat}{a b:List Rat}(d:QR j a)(e:QR k b):QR (j+k+1) (addQ a b):=Q8i λx f y g=>Zn (d x f) (e y g)
theorem Qf4{a b:List Rat}:(addQ a b).length=min a.length b.length:=by unfold addQ;simp
theorem Qcd{c:Rat}{a:List Rat}:(scaleQ c a).length=a.length:=by unfold scaleQ;simp
theorem Qmh{n m:Nat}(hn:big<=n)(a:m<=300):Qga n (m:Int)=some (toR (List.replicate m 0)):=by
 unfold Qga;have e:min (max (m:Int) 0) 300=(m:Int):=om
 rw[e,Qgl om om,sbind];rw[W1 (λi=>(List.replicate i (toF 0)++List.replicate (m - i) (⟨⟨false,[]⟩,[]⟩:Qc),(i:Int))) m (toR (List.replicate m 0))];intro i hi;simp only[bifd];have hd:List.replicate (m - i) (⟨⟨false,[]⟩,[]⟩:Qc)=⟨⟨false,[]⟩,[]⟩::List.replicate (m - (i+1)) ⟨⟨false,[]⟩,[]⟩:=by rw[show m - i=(m - (i+1))+1 by omega,vn]
 rw[oo om,Qac hn,sbind,hd,Xa oc,sbind,Z8 oc,w1 om];refine yj (λz=>some (Lp.go (z,_))) ?_;rw[je,xl];rfl;simp only[bifd];rw[ol om,Nat.sub_self,List.replicate_zero,vj];unfold toR;rw[List.map_replicate];unfold big at hn;omega;simp
def mixQ:List Rat->List (List Rat)->List Rat->List Rat
 | c::cs,a::l,z=>mixQ cs l (List.zipWith (λx o=>o+c*x) a z)
 | _,_,z=>z
theorem Q9q:∀ {cs:List Rat}{l:List (List Rat)}{z:List Rat}{c a},cs.length=l.length->mixQ (cs++[c]) (l++[a]) z=List.zipWith (λx o=>o+c*x) a (mixQ cs l z)
 | [],[],z,c,a,_=>rfl
 | [],_::_,_,_,_,h=>by simp at h
 | _::_,[],_,_,_,h=>by simp at h
 | x::cs,y::l,z,c,a,h=>by simp only[yt,mixQ];exact Q9q (by simpa using h)
theorem Ql3{m:Nat}:∀ {cs:List Rat}{l:List (List Rat)}{z:List Rat},(∀ a∈l,a.length=m)->z.length=m->(mixQ cs l z).length=m
 | [],_,z,_,h=>by simpa [mixQ] using h
 | _::_,[],z,_,h=>by simpa [mixQ] using h
 | x::cs,y::l,z,d,h=>by simp only[mixQ];exact Ql3 (λa e=>d a (.tail _ e)) (by have:=d y (.head _);simp;omega)
theorem Qu9{j k:Nat}:∀ {cs:List Rat}{l:List (List Rat)}{z:List Rat}{b:Nat},QR j cs->(∀ a∈l,QR k a)->QR b z->QR (b+l.length*(j+k+1)) (mixQ cs l z)
 | [],_,z,b,_,_,h=>Jx h om
 | _::_,[],z,b,_,_,h=>Jx h om
 | x::cs,y::l,z,b,d,e,h=>by simp only[mixQ];have f:QR (b+(j+k)+1) (List.zipWith (λp o=>o+x*p) y z):=Q8i λu n o i=>Zn (h o i) (Wa (d x (.head _)) (e y (.head _) u n));refine Jx (Qu9 (λq m=>d q (.tail _ m)) (λa g=>e a (.tail _ g)) f) ?_;rw[xm,vk];omega
theorem Jcx{m:Nat}:∀ {a z:List Rat},a.length=m->z.length=m->List.zipWith (λx o=>o+0*x) a z=z
 | [],[],_,_=>rfl
 | [],_::_,h,d=>by simp at h d;omega
 | _::_,[],h,d=>by simp at h d;omega
 | x::a,y::z,h,d=>by simp only[xm] at h d;rw[List.zipWith_cons_cons,Jcx (m:=m - 1) om om];congr 1;grind
theorem Jcy{α:Type}{l:List (List α)}{m:Nat}:(∀(i:Nat) x,l[i]?=some x->x.length=m)↔∀ a∈l,a.length=m:=by constructor;intro h a d;obtain⟨j,e⟩:=vf d;exact h j a e;intro h i x f;exact h x (Jr f)
theorem Qva{n:Nat}{c:List Qc}{l:List (List Qc)}{m:Int}:Qnf n c l m=Q1k n c l m:=ut (ut rfl)
theorem Jk0(l:List Qc)(i:Nat):rv (l.take i)=(rv l).take i:=by unfold rv;rw[dt]
open Classical in
theorem Q2j{n j k m:Nat}{c:List Qc}{l:List (List Qc)}(hn:big<=n)(A:1<=j)(I:1<=k)(V:j<1048576)(hk:k<1048576)(J:FR j c)(K:∀ a∈l,FR k a)(T:m<=300)(S:l.length<=10000):
 Q1k n c l (m:Int)=some (if c.length=l.length/\∀ a∈l,a.length=m then (toR (mixQ (rv c) (l.map rv) (List.replicate m 0)),true) else ([],false)):=by
 unfold Q1k;simp only[jn_eq];by_cases g1:c.length=l.length;rw[oi (show(c.length:Int)=(l.length:Int) by omega),ot,bifF,oj (show ¬(m:Int)<0 by omega),bifF,oj (show ¬(300:Int)<(m:Int) by omega),bifF];rw[Qb8 (λ_ (a:List Qc)=>a.length=m) (r:=(([]:List Qc),false))];rw[Jcy];by_cases s:∀ a∈l,a.length=m;rw[oo s,oo ⟨g1,s⟩,Qmh hn T,sbind];have C:=QR_rv J A;rw[Qjy (λi=>toR (mixQ (rv (c.take i)) ((l.take i).map rv) (List.replicate m 0))) l,Xi,<-g1,xu,g1,xu];intro i a u;have hi:=K1 u;have g:c[i]?=some c[i]:=oq om;have e:Fk j c[i]:=J _ (xb om);have Q:=K a (Jr u);have t:=s a (Jr u);generalize c[i]' om=ck at g e;have L:c.take (i+1)=c.take i++[ck]:=by rw[gc,g];rfl
 have M:l.take (i+1)=l.take i++[a]:=by rw[gc,u];rfl
 have N:rv (c.take (i+1))=rv (c.take i)++[fv ck]:=by unfold rv;rw[L,yf];rfl
 have O:(l.take (i+1)).map rv=(l.take i).map rv++[rv a]:=by rw[M,yf];rfl
 have P:(rv (c.take i)).length=((l.take i).map rv).length:=by rw[J5];simp;omega
 rw[Je g,sbind,Qdc hn A om e,sbind,bifd,N,O,Q9q P]
 have p:(mixQ (rv (c.take i)) ((l.take i).map rv) (List.replicate m 0)).length=m:=Ql3 (λb B=>by
  obtain⟨d,hd,rfl⟩:=xd.1 B
  rw[J5];exact s d (yx hd)) oc
 have H:QR (1+(l.take i).length*(j+k+1)) (mixQ (rv (c.take i)) ((l.take i).map rv) (List.replicate m 0)):=by
  have:=Qu9 (j:=j) (k:=k) (b:=1) (cs:=rv (c.take i)) (l:=(l.take i).map rv) (z:=List.replicate m 0) (λq w=>by rw[Jk0] at w;exact C q (yx w)) (λb B=>by
   obtain⟨d,hd,rfl⟩:=xd.1 B
   exact QR_rv (K d (yx hd)) I) (λq w=>by rw[(jo.1 w).2,Qab];exact xn _)
  rwa [ou] at this
 have R:(l.take i).length*(j+k+1)<=10000*2097152:=gi oh om;have f:=Jx H (show _<=20971520001 by omega);generalize mixQ (rv (c.take i)) ((l.take i).map rv) (List.replicate m 0)=z at p f;by_cases g3:(fv ck).num.sign=0;rw[oo g3];have h0:fv ck=0:=jb.1 (dr.1 g3);rw[h0,Jcx (m:=m) (by rw[J5,t]) p];rw[ol g3,Q9p (λ(x:Qc) (o:Qc)=>toF (fv o+fv ck*fv x)) a (toR z) (by rw[Kr,t,p]),Xi];refine yj (λz=>some (Lp.go z)) ?_;unfold toR rv;rw[List.map_zipWith,jt,List.zipWith_map_left];congr 1;funext x y;rw[Jf];intro W x y s' E U F;have G:Fk 20971520001 y:=X8 f y (Jr U);have v:=Q x (Jr E);have hp:qw (fv ck*fv x)<=j+k:=Wa (qw_fv e A) (qw_fv v I);rw[Je F,sbind,sbind,Xf (k:=j+k) hn om om (Vm e om) (Vm v om),sbind,Xt (k:=20971520001) hn om om G (Js om),sbind,sbind,yo,Jf];rfl;rw[ol s,ol (λh=>s h.2)];intro i x u;constructor;intro h;rw[oi (show(x.length:Int)=(m:Int) by omega)];rfl;intro h;rw[oj (show ¬(x.length:Int)=(m:Int) by omega)];rfl;rw[oj (show ¬(c.length:Int)=(l.length:Int) by omega),ol (λh=>g1 h.1)];rfl
theorem Q8j(l:List Qc)(i:Nat):(rv l)[i]?=(l[i]?).map fv:=by unfold rv;simp
theorem Qtq{n k:Nat}{a b:List Qc}(hn:big<=n)(p:1<=k)(hk:k<1099511627776)(q:FR k a)(s:FR k b):Qji n a b=some (decide (rv a=rv b)):=by
 classical
 unfold Qji;by_cases h:a.length=b.length;rw[oi (show(a.length:Int)=(b.length:Int) by omega),ot,bifF];rw[Qb8 (λi (x:Qc)=>∀ y,b[i]?=some y->fv x=fv y) (r:=false)];have e:(∀(i:Nat) x,a[i]?=some x->∀ y,b[i]?=some y->fv x=fv y)↔rv a=rv b:=by constructor;intro g;refine List.ext_getElem? λi=>?_;rw[Q8j,Q8j];rcases xo i a.length with hi | hi;have l:a[i]?=some a[i]:=oq hi;have d:b[i]?=some (b[i]' om):=oq om;have:=g i _ l _ d;rw[l,d];exact yj some this;rw[xa hi,xa om];intro g i x f y j;have:=yj (·[i]?) g;simp only[Q8j,f,j,Option.map_some] at this;exact Option.some.inj this
 by_cases hd:rv a=rv b;rw[oo (e.2 hd),oi hd];rw[ol (λg=>hd (e.1 g)),oj hd];intro i x f;have hi:=K1 f;have d:b[i]?=some (b[i]' om):=oq om;rw[Je d,sbind,Qb7 hn p hk (q x (Jr f)) (s _ (Jr d)),sbind];constructor;intro g;rw[oi (g _ d)];rfl;intro g;rw[oj (λm=>g λy j=>by rw[d] at j;cases j;exact m)];rfl;rw[oj (show ¬(a.length:Int)=(b.length:Int) by omega),ov,bifT,oj];intro g;apply h;rw[<-J5 a,g,J5]
theorem Qm0(x m:Int):Qcq x m=some (decide (0<=x/\x<m)):=by unfold Qcq;simp only[jn_eq,bifd];by_cases h:0<=x;rw[oo h];simp[h];rw[ol h];simp[h]
def rdT(i:Qz):List Int:=if i.Op=6\/i.Op=11 then [i.A] else if i.Op=7\/i.Op=8\/i.Op=9\/i.Op=10 then [i.A,i.B] else []
theorem Q6p(i:Qz):Qkz i=some (rdT i):=by unfold Qkz rdT;simp only[jn_eq,bifd];by_cases e:i.Op=6;simp[e];by_cases d:i.Op=11;simp[d];by_cases f:i.Op=7;simp[f];by_cases g:i.Op=8;simp[g];by_cases j:i.Op=9;simp[j];by_cases a:i.Op=10;simp[a];simp[e,f,g,j,a,d]
def TW(t:Qr):Prop:=∀ c∈t.Code,Fw c.N
theorem Qil{α:Type}{l:List α}{P:α->Prop}:(∀(i:Nat) x,l[i]?=some x->P x)↔∀ a∈l,P a:=by constructor;intro h a d;obtain⟨j,e⟩:=vf d;exact h j a e;intro h i x f;exact h x (Jr f)
noncomputable def dP(p:Prop):Bool:=@decide p (Classical.propDecidable p)
theorem decP{p:Prop}[Decidable p]:decide p=dP p:=by unfold dP;congr
theorem dP_t{p:Prop}(h:p):dP p=true:=by unfold dP;exact @decide_eq_true p (Classical.propDecidable p) h
theorem dP_f{p:Prop}(h:¬ p):dP p=false:=by unfold dP;exact @decide_eq_false p (Classical.propDecidable p) h
theorem dP_c{p q:Prop}(h:p↔q):dP p=dP q:=by rw[show p=q from propext h]
theorem Jhr{p:Prop}:dP p=true↔p:=⟨λh=>by by_cases hp:p;exact hp;rw[dP_f hp] at h;exact absurd h oz,dP_t⟩
theorem Qei{p q:Prop}[Decidable p](h:p↔q):some (decide p)=some (dP q):=by rw[decP,dP_c h]
theorem Q3f{p q:Prop}(h:p↔q):some (dP p)=some (dP q):=by rw[dP_c h]
theorem Qmu{p q r:Prop}[Decidable p][Decidable q](h:p/\q↔r):(if p then some (decide q) else some false)=some (dP r):=by by_cases hp:p;rw[oo hp];exact Qei ⟨λa=>h.1 ⟨hp,a⟩,λhr=>(h.2 hr).2⟩;rw[ol hp,dP_f λhr=>hp (h.2 hr).1]
theorem Jng{p q r:Prop}[Decidable p](h:p/\q↔r):(if p then some (dP q) else some false)=some (dP r):=by by_cases hp:p;rw[oo hp];exact Q3f ⟨λa=>h.1 ⟨hp,a⟩,λhr=>(h.2 hr).2⟩;rw[ol hp,dP_f λhr=>hp (h.2 hr).1]
def blankF(f:Qc):Prop:=f.Num.Neg=false/\f.Num.A8=[]/\f.Den=[]
theorem Q6q(f:Qc):Qne f=some (dP (blankF f)):=by unfold Qne blankF;obtain⟨⟨s,a⟩,d⟩:=f;simp only[jn_eq];cases s;simp only[ov,bifT,bifd];refine Qmu ⟨λh=>⟨trivial,ow om,ow om⟩,λh=>?_⟩;obtain⟨_,rfl,rfl⟩:=h;exact⟨rfl,rfl⟩;simp only[ot,bifF];rw[dP_f λh=>by cases h.1]
theorem bifP{α:Type}(p:Prop)(a b:α):(bif dP p then a else b)=@ite _ p (Classical.propDecidable p) a b:=by by_cases h:p;rw[dP_t h,oo h];rfl;rw[dP_f h,ol h];rfl
theorem bifnP{α:Type}(p:Prop)(a b:α):(bif !dP p then a else b)=@ite _ p (Classical.propDecidable p) b a:=by by_cases h:p;rw[dP_t h,oo h];rfl;rw[dP_f h,ol h];rfl
def mayR(t:Qr)(i:Nat)(x:Qz):Prop:=
 if x.Op=1 then x.A=0/\x.B=0/\x.N=toF (fv x.N) else
 blankF x.N/\(∀ r∈rdT x,0<=r/\r<(i:Int)) /\
 if x.Op=2 then x.A=0/\x.B=0 else if x.Op=3 then (0<=x.A/\x.A<t.A3)/\x.B=0 else if x.Op=4 then (0<=x.A/\x.A<t.A9)/\x.B=0 else
 if x.Op=6 then x.B=0 else if x.Op=11 then -8<=x.B/\x.B<=8 else (rdT x).length=2
theorem Jas{n:Nat}{t:Qr}{i:Nat}{x:Qz}(hn:big<=n)(u:Fw x.N)(v:t.Code[i]?=some x):Qn3 n t (i:Int)=some (dP (mayR t i x)):=by
 unfold Qn3 mayR;rw[Je v,sbind,bifd];by_cases e:x.Op=1
 have k:(if x.Op=1 then x.A=0/\x.B=0/\x.N=toF (fv x.N) else blankF x.N/\(∀ r∈rdT x,0<=r/\r<(i:Int)) /\
  if x.Op=2 then x.A=0/\x.B=0 else if x.Op=3 then (0<=x.A/\x.A<t.A3)/\x.B=0 else if x.Op=4 then (0<=x.A/\x.A<t.A9)/\x.B=0 else
  if x.Op=6 then x.B=0 else if x.Op=11 then -8<=x.B/\x.B<=8 else (rdT x).length=2)=(x.A=0/\x.B=0/\x.N=toF (fv x.N)):=oo e
 simp only[k];rw[oo e];have s:=Qro hn u;simp only[jn_eq,Qpw,sbind];have q:Qf1 (⟨x.Op,x.A,x.B⟩:Wo) ⟨1,0,0⟩=decide (x.A=0/\x.B=0):=by unfold Qf1;simp only[e];by_cases a:x.A=0<;>by_cases b:x.B=0<;>simp[a,b]
 rw[q,s,sbind,bifd];rw[@decP _ (Classical.propDecidable _)];refine Jng ⟨λh=>⟨h.1.1,h.1.2,h.2⟩,λh=>⟨⟨h.1,h.2.1⟩,h.2.2⟩⟩
 have k:(if x.Op=1 then x.A=0/\x.B=0/\x.N=toF (fv x.N) else blankF x.N/\(∀ r∈rdT x,0<=r/\r<(i:Int)) /\
  if x.Op=2 then x.A=0/\x.B=0 else if x.Op=3 then (0<=x.A/\x.A<t.A3)/\x.B=0 else if x.Op=4 then (0<=x.A/\x.A<t.A9)/\x.B=0 else
  if x.Op=6 then x.B=0 else if x.Op=11 then -8<=x.B/\x.B<=8 else (rdT x).length=2)=(blankF x.N/\(∀ r∈rdT x,0<=r/\r<(i:Int)) /\
  if x.Op=2 then x.A=0/\x.B=0 else if x.Op=3 then (0<=x.A/\x.A<t.A3)/\x.B=0 else if x.Op=4 then (0<=x.A/\x.A<t.A9)/\x.B=0 else
  if x.Op=6 then x.B=0 else if x.Op=11 then -8<=x.B/\x.B<=8 else (rdT x).length=2):=ol e
 simp only[k];rw[ol e,Q6q,sbind,bifnP];by_cases f:blankF x.N;rw[oo f,Q6p,sbind,Qb8 (λ_ (r:Int)=>0<=r/\r<(i:Int)) (r:=false)];rw[Qil];by_cases hr:∀ r∈rdT x,0<=r/\r<(i:Int);rw[oo hr];have fin:∀ {o:Option Bool}{p:Prop},o=some (dP p)->o=some (dP (blankF x.N/\(∀ r∈rdT x,0<=r/\r<(i:Int))/\p)):=λh=>h.trans (Q3f ⟨λg=>⟨f,hr,g⟩,λg=>g.2.2⟩);refine fin ?_;simp only[jn_eq,Qpw,sbind,Qm0,bifd];by_cases l:x.Op=2;simp only[oo l];refine yj some ?_;unfold Qf1;simp only[l];rw[<-decP];by_cases a:x.A=0<;>by_cases b:x.B=0<;>simp[a,b];simp only[ol l];by_cases g3:x.Op=3;simp only[oo g3];exact Qmu Iff.rfl;simp only[ol g3];by_cases g4:x.Op=4;simp only[oo g4];exact Qmu Iff.rfl;simp only[ol g4];by_cases m:x.Op=6;simp only[oo m];exact Qei Iff.rfl;simp only[ol m];by_cases d:x.Op=11;simp only[oo d];exact Qmu Iff.rfl;simp only[ol d];exact Qei om;rw[ol hr,dP_f λh=>hr h.2.1];intro j r _;simp only[Qm0,sbind];constructor;intro h;rw[oi h];rfl;intro h;rw[oj h];rfl;rw[ol f,dP_f λh=>f h.1]
def wholeR(t:Qr):Prop:=(1<=t.A3/\t.A3<=6)/\(0<=t.A9/\t.A9<=6)/\(t.Av.length:Int)=t.A3/\t.Code.length<=300
def tapeR(t:Qr):Prop:=wholeR t/\(∀(i:Nat) x,t.Code[i]?=some x->mayR t i x)/\∀ o∈t.Av,0<=o/\o<(t.Code.length:Int)
theorem Q6r(t:Qr)(h:-9223372036854775808<=t.A3/\t.A3<=9223372036854775807):Qnd t=some (dP (wholeR t)):=by
 unfold Qnd wholeR;simp only[jn_eq,Qm0,sbind,bifd];have d:(0<=wrap64 (t.A3 - 1)/\wrap64 (t.A3 - 1)<6)↔(0<=t.A3 - 1/\t.A3 - 1<6):=by unfold wrap64;omega
 by_cases g1:0<=t.A3 - 1/\t.A3 - 1<6;rw[oo (d.2 g1)];by_cases a:0<=t.A9/\t.A9<7;rw[oo a];by_cases g3:(t.Av.length:Int)=t.A3;rw[oo g3];exact Qei om;rw[ol g3,dP_f om];rw[ol a,dP_f om];rw[ol (λh=>g1 (d.1 h)),dP_f om]
theorem Jgc{R:Type}{f:Nat->Qz->Unit->Option (Lp Unit R)}{K:Unit->Option R}{xs:List Qz}(P:Nat->Qz->Prop)(r:Nat->R)
 (d:∀ i x,xs[i]?=some x->(P i x->f i x ()=some (.go ()))/\(¬ P i x->f i x ()=some (.out (r i)))) :
 ((∀(i:Nat) x,xs[i]?=some x->P i x)/\(rangeL f xs 0 ()).bind (lpK K)=K ())\/(¬(∀(i:Nat) x,xs[i]?=some x->P i x)/\∃ j,(rangeL f xs 0 ()).bind (lpK K)=some (r j)):=by
 have l:∀(xs:List Qz) (k:Nat),(∀ i x,xs[i]?=some x->(P (k+i) x->f (k+i) x ()=some (.go ()))/\(¬ P (k+i) x->f (k+i) x ()=some (.out (r (k+i))))) ->
  ((∀(i:Nat) x,xs[i]?=some x->P (k+i) x)/\(rangeL f xs k ()).bind (lpK K)=K ())\/(¬(∀(i:Nat) x,xs[i]?=some x->P (k+i) x)/\∃ j,(rangeL f xs k ()).bind (lpK K)=some (r j)):=by
  intro xs
  induction xs with
  | nil=>intro k _;exact .inl ⟨λi x h=>by simp at h,rfl⟩
  | cons x xs n=>
    intro k d;have h0:=d 0 x rfl;simp only[xq] at h0;by_cases hp:P k x;have:=n (k+1) (λi y a=>by have:=d (i+1) y (by simpa using a);rw[show k+(i+1)=k+1+i by omega] at this;exact this);simp only[rangeL,h0.1 hp,sbind];rcases this with ⟨e,g⟩ | ⟨e,g⟩;refine .inl ⟨λi y a=>?_,g⟩;cases i with
    | zero=>simp at a;subst a;exact hp
    | succ i=>rw[show k+(i+1)=k+1+i by omega];exact e i y (by simpa using a)
    refine .inr ⟨λh=>e λi y a=>?_,g⟩;have:=h (i+1) y (by simpa using a);rwa [show k+(i+1)=k+1+i by omega] at this;refine .inr ⟨λh=>hp (h 0 x rfl),k,?_⟩;simp only[rangeL,h0.2 hp,sbind];rfl
 have:=l xs 0 (λi x m=>by rw[xj];exact d i x m);simp only[xj] at this;exact this
theorem Qwk{n:Nat}{t:Qr}(hn:big<=n)(q:TW t)(hd:-9223372036854775808<=t.A3/\t.A3<=9223372036854775807):Qcr n t=some (dP (tapeR t)):=by
 unfold Qcr Qqo;rw[Q6r t hd,sbind,bifnP];by_cases e:wholeR t;rw[oo e]
 have g:=Jgc (K:=λ(_:Unit)=>(rangeL (λ(_:Nat) (m:Int) (_:Unit)=>
  (Qcq m (t.Code.length:Int)).bind λl=>
  bif !l then (
   some (Lp.out ((t.Code.length:Int))))
  else (
   some (Lp.go ()))) t.Av 0 ()).bind (lpK λ(_:Unit)=>
 some (-1:Int))) (f:=λ(a:Nat) (_:Qz) (_:Unit)=>
  (Qn3 n t (a:Int)).bind λk=>
  bif !k then (
   some (Lp.out ((a:Int))))
  else (
   some (Lp.go ()))) (xs:=t.Code) (λi x=>mayR t i x) (λi=>(i:Int)) (λi x p=>by
  rw[Jas hn (q x (Jr p)) p,sbind];constructor;intro h;rw[dP_t h];rfl
  intro h;rw[dP_f h];rfl)
 rcases g with ⟨k1,k2⟩ | ⟨k1,j,k2⟩;rw[k2,Qb8 (λ_ (o:Int)=>0<=o/\o<(t.Code.length:Int)) (r:=(t.Code.length:Int))];rw[Qil];by_cases d:∀ o∈t.Av,0<=o/\o<(t.Code.length:Int);rw[oo d,sbind];exact Qei ⟨λ_=>⟨e,k1,d⟩,λ_=>rfl⟩;rw[ol d,sbind];exact Qei ⟨λh=>om,λh=>absurd h.2.2 d⟩;intro i o _;simp only[Qm0,sbind];constructor;intro h;rw[oi h];rfl;intro h;rw[oj h];rfl;rw[k2,sbind];exact Qei ⟨λh=>om,λh=>absurd h.2.1 k1⟩;rw[ol e,sbind];exact Qei ⟨λh=>om,λh=>absurd h.1 e⟩
theorem Wf(f:Qe):Q7 f f=true:=by simp[Q7]
theorem Yx{k a b c:Int}(h:k≠0):Q7 ⟨k,a,b,c⟩ ⟨0,0,0,0⟩=false:=by unfold Q7;rw[show(k == 0)=false by simpa using h];rfl
def noteG(g:Ql)(q:Rat):Ql:=⟨⟨wrap64 (g.Count.Seen+1),max g.Count.Peak (qz q:Int)⟩,g.limit⟩
theorem Qqa{n:Nat}{g:Ql}{q:Rat}(hn:big<=n)(a:qw q<1099511627776):Wx n g (toF q)=some (decide ((qz q:Int)<=g.limit),noteG g q):=by unfold Wx Qgo;rw[Qwi hn a,sbind,sbind];rfl
def fitQ(lim:Int):List Rat->Nat->Option Nat
 | [],_=>none
 | q::l,i=>if (qz q:Int)<=lim then fitQ lim l (i+1) else some i
theorem Q0a{n:Nat}{g:Ql}{l:List Rat}(hn:big<=n)(e:QR 1099511627775 l):
 ∃ a,a.limit=g.limit/\Y0 n g (toR l)=some (match fitQ g.limit l 0 with | none=>((l.length:Int),true,a) | some i=>((i:Int),false,a)):=by
 unfold Y0
 have m:∀(l:List Rat) (i:Nat) (g:Ql) (K:Ql->Option (Int×Bool×Ql)),QR 1099511627775 l->∃ a,a.limit=g.limit /\
  (rangeL (λ(k:Nat) (s:Qc) (p:Ql)=>
   (Wx n p s).bind λd=>
   bif !d.1 then (some (Lp.out (((k:Int),false,d.2)))) else (some (Lp.go d.2))) (toR l) i g).bind (lpK K)=match fitQ g.limit l i with | none=>K a | some i=>some ((i:Int),false,a):=by
  intro l
  induction l with
  | nil=>intro i g K _;exact⟨g,rfl,rfl⟩
  | cons q l u=>
    intro i g K e;simp only[toR,yv,rangeL,fitQ];rw[Qqa hn (by have:=e q (.head _);omega),sbind];simp only[];by_cases h:(qz q:Int)<=g.limit;rw[oi h,oo h,ot,bifF,sbind];obtain⟨a,f,j⟩:=u (i+1) (noteG g q) K λx t=>e x (.tail _ t);exact⟨a,f,j⟩;rw[oj h,ol h,ov,bifT,sbind];exact⟨noteG g q,rfl,rfl⟩
 obtain⟨a,f,j⟩:=m l 0 g (λr=>some (((toR l).length:Int),true,r)) e;refine⟨a,f,?_⟩;rw[j,Kr];cases fitQ g.limit l 0<;>rfl
def opQ(x:Qz)(T:Rat)(Y P done:List Rat):Option Rat:=
 if x.Op=6 then some (-done.getD x.A.toNat 0) else
 if x.Op=11 then (if x.B < -8\/8<x.B\/(x.B<0/\done.getD x.A.toNat 0=0) then none else some (done.getD x.A.toNat 0 ^ x.B)) else
 if x.Op=7 then some (done.getD x.A.toNat 0+done.getD x.B.toNat 0) else
 if x.Op=8 then some (done.getD x.A.toNat 0 - done.getD x.B.toNat 0) else
 if x.Op=9 then some (done.getD x.A.toNat 0*done.getD x.B.toNat 0) else
 if x.Op=10 then (if done.getD x.B.toNat 0=0 then none else some (done.getD x.A.toNat 0 / done.getD x.B.toNat 0)) else
 if x.Op=1 then some (fv x.N) else
 if x.Op=3 then some (Y.getD x.A.toNat 0) else
 if x.Op=4 then some (P.getD x.A.toNat 0) else some T
def runQ(lim:Int)(T:Rat)(Y P:List Rat):List Qz->Nat->List Rat->(Int×Nat) ⊕ List Rat
 | [],_,done=>.inr done
 | x::c,i,done=>match opQ x T Y P done with
   | none=>.inl (3,i)
   | some q=>if (qz q:Int)<=lim then runQ lim T Y P c (i+1) (done++[q]) else .inl (6,i)
theorem Qkh{l:List Rat}{r:Int}(a:0<=r)(d:r<(l.length:Int)):getI (toR l) r=some (toF (l.getD r.toNat 0)):=by
 obtain⟨k,rfl⟩:∃ k:Nat,r=(k:Int):=⟨r.toNat,om⟩
 have hk:k<l.length:=om
 rw[Qh0,yo];unfold toR;rw[yr,oq hk,xh,oq hk];rfl
theorem V4{k:Nat}{l:List Rat}{i:Nat}(h:QR k l)(a:1<=k):qw (l.getD i 0)<=k:=by rw[xh];rcases xo i l.length with hi | hi;rw[oq hi];exact h _ (xb hi);rw[xa hi];show qw 0<=k;rw[Qab];exact a
theorem rdT_A{x:Qz}(h:x.Op=6\/x.Op=11\/x.Op=7\/x.Op=8\/x.Op=9\/x.Op=10):x.A∈rdT x:=by unfold rdT;by_cases a:x.Op=6\/x.Op=11;rw[oo a];simp;rw[ol a,oo om];simp
theorem rdT_B{x:Qz}(h:x.Op=7\/x.Op=8\/x.Op=9\/x.Op=10):x.B∈rdT x:=by unfold rdT;rw[ol om,oo om];simp
theorem Qqb{t:Qr}{i:Nat}{x:Qz}(h:mayR t i x):∀ r∈rdT x,0<=r/\r<(i:Int):=by unfold mayR at h;by_cases a:x.Op=1;intro r hr;unfold rdT at hr;rw[ol om,ol om] at hr;cases hr;rw[ol a] at h;exact h.2.1
theorem Qyx{t:Qr}{i:Nat}{x:Qz}(h:mayR t i x)(a:x.Op=3):0<=x.A/\x.A<t.A3:=by unfold mayR at h;rw[ol om,ol om,oo a] at h;exact h.2.2.1
theorem Qyy{t:Qr}{i:Nat}{x:Qz}(h:mayR t i x)(a:x.Op=4):0<=x.A/\x.A<t.A9:=by unfold mayR at h;rw[ol om,ol om,ol om,oo a] at h;exact h.2.2.1
theorem Jgd{n k:Nat}{g:Ql}{t:Qr}{x:Qz}{T:Rat}{Y P done:List Rat}(hn:big<=n)(e:1<=k)(hk:k<1048576)(m:mayR t done.length x)(u:Fk k x.N)
 (G:qw T<=k) (F:QR k Y) (E:QR k P) (s:QR k done) (I:(Y.length:Int)=t.A3) (hp:(P.length:Int)=t.A9) :
 ∃ v,Wh n g x ⟨toF T,toR Y,toR P⟩ (toR done)=some (match opQ x T Y P done with | none=>(v,false) | some q=>(toF q,true))/\∀ q,opQ x T Y P done=some q->qw q<=8*k+1:=by
 unfold Wh opQ;have l:=Qqb m;have dA:x.Op=6\/x.Op=11\/x.Op=7\/x.Op=8\/x.Op=9\/x.Op=10->getI (toR done) x.A=some (toF (done.getD x.A.toNat 0)):=λh=>Qkh (l _ (rdT_A h)).1 (l _ (rdT_A h)).2;have dB:x.Op=7\/x.Op=8\/x.Op=9\/x.Op=10->getI (toR done) x.B=some (toF (done.getD x.B.toNat 0)):=λh=>Qkh (l _ (rdT_B h)).1 (l _ (rdT_B h)).2;have qA:qw (done.getD x.A.toNat 0)<=k:=V4 s e;have qB:qw (done.getD x.B.toNat 0)<=k:=V4 s e;generalize done.getD x.A.toNat 0=a at dA qA |-;generalize done.getD x.B.toNat 0=b at dB qB |-;have fA:Fk k (toF a):=Js qA;have fB:Fk k (toF b):=Js qB;simp only[bifd];by_cases y:x.Op=6
 . simp only[oo y]
   unfold Qkl;rw[dA om,sbind,Qi7 hn (Fk_Fw fA om),sbind,sbind,Jf];exact⟨toF 0,rfl,λq d=>by cases d;rw[Qjz];omega⟩
 simp only[ol y];by_cases j:x.Op=11
 . simp only[oo j]
   unfold Qkm;rw[dA om,sbind,Qpk hn e om fA,sbind,Jf];refine⟨toF 0,?_,λq d=>?_⟩
   . split<;>rfl
   . split at d
     . cases d
     . rename_i H
       cases d;exact Qyw qA om
 simp only[ol j];by_cases A:x.Op=7
 . simp only[oo A]
   unfold Qkn;rw[dA om,sbind,dB om,sbind,Xt hn e om fA fB,sbind,sbind,Jf,Jf];exact⟨toF 0,rfl,λq d=>by cases d;have:=Zn qA qB;omega⟩
 simp only[ol A];by_cases B:x.Op=8
 . simp only[oo B]
   unfold Qko;rw[dA om,sbind,dB om,sbind,Qmg hn e om fA fB,sbind,sbind,Jf,Jf];exact⟨toF 0,rfl,λq d=>by cases d;have:=Qpa qA qB;omega⟩
 simp only[ol B];by_cases C:x.Op=9
 . simp only[oo C]
   unfold Qkp;rw[dA om,sbind,dB om,sbind,Xf hn e om fA fB,sbind,sbind,Jf,Jf];exact⟨toF 0,rfl,λq d=>by cases d;have:=Wa qA qB;omega⟩
 simp only[ol C];by_cases f:x.Op=10
 . simp only[oo f]
   unfold Qkq;rw[dA om,sbind,dB om,sbind,Qg9 hn e om fA fB,sbind,Jf,Jf];refine⟨toF 0,?_,λq d=>?_⟩
   . split<;>rfl
   . split at d
     . cases d
     . cases d
       have:=Qj0 qA qB;omega
 simp only[ol f];unfold Yq;simp only[bifd];by_cases w:x.Op=1
 . simp only[oo w]
   unfold Qlw;rw[Va hn (Fk_Fw u om),sbind,sbind,sbind];exact⟨toF 0,rfl,λq d=>by cases d;have:=qw_fv u e;omega⟩
 simp only[ol w];by_cases p:x.Op=3
 . simp only[oo p]
   obtain⟨a1,a2⟩:=Qyx m p;rw[Qkh a1 om,sbind,sbind];exact⟨toF 0,rfl,λq d=>by cases d;have:=V4 (i:=x.A.toNat) F e;omega⟩
 simp only[ol p];by_cases r:x.Op=4
 . simp only[oo r]
   obtain⟨a1,a2⟩:=Qyy m r;rw[Qkh a1 om,sbind,sbind];exact⟨toF 0,rfl,λq d=>by cases d;have:=V4 (i:=x.A.toNat) E e;omega⟩
 simp only[ol r];exact⟨toF 0,rfl,λq d=>by cases d;omega⟩
theorem Q40(l:List Rat)(q:Rat):toR l++[toF q]=toR (l++[q]):=by unfold toR;simp
theorem Jcz{n k:Nat}{g:Ql}{t:Qr}{T:Rat}{Y P:List Rat}(hn:big<=n)(h1:129<=k)(hk:k<1048576)(W:tapeR t)(Q:Qcr n t=some true)(w:∀ c∈t.Code,Fk k c.N)
 (R:qw T<=k) (S:QR k Y) (O:QR k P) (p:(Y.length:Int)=t.A3) (hp:(P.length:Int)=t.A9) (B:g.limit<=4096) :
 ∃ f,Xh n g t ⟨toF T,toR Y,toR P⟩=some (match runQ g.limit T Y P t.Code 0 [] with | .inl e=>([],⟨e.1,0,0,(e.2:Int)⟩,f) | .inr l=>(toR l,⟨0,0,0,0⟩,f)):=by
 unfold Xh;simp only[jn_eq,Q,sbind,ot,bifF];rw[Kr,Kr,oi p,oi hp,ot,bifF,bifF]
 have F:∀(c:List Qz) (done:List Rat) (g:Ql) (K:Ql×List Qc->Option (List Qc×Qe×Ql)),(∀(j:Nat) x,c[j]?=some x->mayR t (done.length+j) x)->(∀ x∈c,Fk k x.N)->QR k done->g.limit<=4096->done.length+c.length<=300 ->
  ∃ f,(rangeL (λ(s:Nat) (G:Qz) (d:Ql×(List Qc))=>
    (Wh n d.1 G ⟨toF T,toR Y,toR P⟩ d.2).bind λi=>
    bif !i.2 then (
     some (Lp.out ((([]:List Qc),(⟨(3:Int),0,0,(s:Int)⟩:Qe),d.1))))
    else (
     (Qgh n d.1 i.1).bind λm=>
     bif !m.1 then (
      some (Lp.out ((([]:List Qc),(⟨(6:Int),0,0,(s:Int)⟩:Qe),m.2))))
     else (
      (appM 56 d.2 ([i.1]:List Qc)).bind λH=>
      some (Lp.go (m.2,H))))) c done.length (g,toR done)).bind (lpK K)=match runQ g.limit T Y P c done.length done with | .inl e=>some ([],⟨e.1,0,0,(e.2:Int)⟩,f) | .inr l=>K (f,toR l):=by
  intro c
  induction c with
  | nil=>intro done g K _ _ _ _ _;exact⟨g,rfl⟩
  | cons x c Z=>
    intro done g K J w I B C;simp only[rangeL,runQ];obtain⟨v,M,N⟩:=Jgd (g:=g) hn om hk (by have:=J 0 x rfl;rwa [xq] at this) (w x (.head _)) R S O I p hp;rw[M,sbind];cases U:opQ x T Y P done with
    | none=>exact⟨g,rfl⟩
    | some q=>
      have V:=N q U;simp only[ot,bifF];unfold Qgh;rw[Qqa hn om,sbind,sbind];simp only[];by_cases A:(qz q:Int)<=g.limit
      . rw[oi A,oo A,ot,bifF,Vt (by rw[Kr];simp at C |-;omega) (by rw[Kr];simp at C |-;omega),sbind,sbind]
        simp only[];have E:qw q<=k:=by have:=qw_qz (q:=q) (b:=4096) om;omega
        have a:(done++[q]).length=done.length+1:=oc
        obtain⟨f,h⟩:=Z (done++[q]) (noteG g q) K (λj y p=>by
         rw[a,show done.length+1+j=done.length+(j+1) by omega];exact J (j+1) y (by simpa using p)) (λy p=>w y (.tail _ p)) (λz r=>by
         rcases ym.1 r with r | r
         . exact I z r
         . rw[xx.1 r];exact E) B (by rw[a];simp at C;omega)
        refine⟨f,?_⟩;rw[a] at h;rw[Q40];exact h
      . rw[oj A,ol A,ov,bifT,sbind]
        exact⟨noteG g q,rfl⟩
 obtain⟨⟨d1,d2,d3,L⟩,m1,m2⟩:=W;obtain⟨f,h⟩:=F t.Code [] g (λu=>some (u.2,(⟨0,0,0,0⟩:Qe),u.1)) (λj x X=>by rw[show([]:List Rat).length+j=j by simp];exact m1 j x X) w (λ_ h=>by cases h) B (by simpa using L);refine⟨f,?_⟩;rw[show(([]:List Rat).length)=0 from rfl,show toR []=[] from rfl] at h;rw[h];cases runQ g.limit T Y P t.Code 0 []<;>rfl
def digB(c:Nat):Bool:=decide (48<=c/\c<=57)
def letB(c:Nat):Bool:=decide (97<=c/\c<=122\/65<=c/\c<=90\/c=95)
def sgnL:List UInt8:=[43,45,42,47,94,40,41,91,93,44,59,61]
def sgnB(c:Nat):Bool:=sgnL.any (λx=>x.toNat=c)
def kindC(c:Nat):Int:=if digB c then 1 else if letB c then 2 else if sgnB c then 3 else 0
def goC(k:Int)(c:Nat):Bool:=(decide (k=1) && digB c) || (decide (k=2) && (letB c || digB c))
def mostC(k:Int):Nat:=if k=1 then 60 else if k=2 then 12 else 1
def wdB(k:Int):List UInt8->Bool
 | []=>false
 | c::r=>decide (k≠0) && (decide (kindC c.toNat=k) && (r.all (λb=>goC k b.toNat) && decide (r.length+1<=mostC k)))
theorem Qyz(c:Nat):Qhx c=some (digB c):=by unfold Qhx digB;simp only[jn_eq,bifd];grind
theorem Qwl(c:Nat):Qic c=some (letB c):=by unfold Qic letB;simp only[jn_eq,bifd];grind
theorem Jge{s:List UInt8}{p:Nat}{c:UInt8}(h:s[p]?=some c)(d:c.toNat<128):decR s p=c.toNat/\decW s p=1:=by
 have a:((⟨s.toArray⟩:ByteArray).get! (p+0)).toNat=c.toNat:=by
  have hp:=K1 h;have:((⟨s.toArray⟩:ByteArray).get! (p+0))=c:=by show s.toArray[p+0]! = c;simp[h]
  rw[this]
 unfold decR decW Utf8.decode;simp only[a];rw[oo d];exact⟨rfl,rfl⟩
theorem Jat{n c:Nat}(hn:big<=n):Qqp n c=some (sgnB c):=by
 unfold Qqp;unfold big at hn;have e:sgnB c=runG (τ:=Bool) (λ_ (x:UInt8) (_:Unit)=>if x.toNat=c then .inr true else .inl ()) (λ_=>false) sgnL 0 ():=by
  unfold sgnB;have:∀(l:List UInt8) (i:Nat),l.any (λx=>decide (x.toNat=c))=runG (τ:=Bool) (λ_ (x:UInt8) (_:Unit)=>if x.toNat=c then .inr true else .inl ()) (λ_=>false) l i ():=by
   intro l
   induction l with
   | nil=>intro i;rfl
   | cons x l p=>
     intro i;simp only[List.any_cons,runG];by_cases h:x.toNat=c;simp[h];simp only[oj h,ol h,Bool.false_or];exact p (i+1)
  exact this _ 0
 rw[e];refine Q4z (λ_ i=>i) (λ_ (x:UInt8) (_:Unit)=>if x.toNat=c then .inr true else .inl ()) (λ_=>()) _ (λ_ _=>True) sgnL () (λi x b j _=>⟨?_,λ_ _=>trivial⟩) (λb _=>by simp[bifd,sgnL]) (λb _=>rfl) trivial (by simp[sgnL];omega);have hi:=K1 j;have g:x.toNat<128:=by
  have:∀ y∈sgnL,y.toNat<128:=oz
  exact this x (Jr j)
 obtain⟨k,m⟩:=Jge j g;have a:decR [43,45,42,47,94,40,41,91,93,44,59,61] i=x.toNat:=k;have d:decW [43,45,42,47,94,40,41,91,93,44,59,61] i=1:=m;have f:i<([43,45,42,47,94,40,41,91,93,44,59,61]:List UInt8).length:=hi;simp only[bifd,oo f,sbind,a,d];rw[show Int.toNat ((x.toNat:Int)%256)=x.toNat by omega];by_cases h:x.toNat=c;rw[oo h,oo h];rfl;rw[ol h,ol h];rfl
theorem Jau{n c:Nat}(hn:big<=n):Qqq n c=some (kindC c):=by
 unfold Qqq kindC;rw[Qyz,sbind];cases digB c with
 | true=>rfl
 | false=>
   rw[bifF,Qwl,sbind];cases letB c with
   | true=>rfl
   | false=>rw[bifF,Jat hn,sbind];cases sgnB c<;>rfl
theorem Jav(k:Int)(c:Nat):Qqr k c=some (goC k c):=by unfold Qqr goC;simp only[jn_eq,Qyz,Qwl,sbind,bifd];by_cases a:k=1;subst a;cases digB c<;>simp;by_cases d:k=2;subst d;cases letB c<;>cases digB c<;>simp;simp[a,d]
theorem Jaw(k:Int):Qqs k=some (mostC k:Int):=by unfold Qqs mostC;simp only[bifd];grind
def firstL(k:Int)(s:List UInt8):Nat:=1+((s.drop 1).takeWhile (λc=>goC k c.toNat)).length
theorem Qy0{α:Type}(p:α->Bool)(l:List α):(l.takeWhile p)=l.take (l.takeWhile p).length:=by
 induction l with
 | nil=>rfl
 | cons x l a=>
   rw[vz];cases p x with
   | true=>simp only[yn,xm,ge];rw[<-a]
   | false=>rfl
theorem Q0z{α:Type}{p:α->Bool}:∀ {l:List α}{i:Nat},i<(l.takeWhile p).length->∃ x,l[i]?=some x/\p x=true
 | [],i,h=>by simp at h
 | y::l,0,h=>by
   cases a:p y with
   | true=>exact⟨y,rfl,a⟩
   | false=>rw[vz,a] at h;simp at h
 | y::l,i+1,h=>by
   rw[vz] at h;cases a:p y with
   | true=>rw[a] at h;simp only[yn,xm] at h;exact Q0z (l:=l) (i:=i) om
   | false=>rw[a] at h;simp at h
theorem Qtr{α:Type}{p:α->Bool}:∀ {l:List α}{x:α},l[(l.takeWhile p).length]?=some x->p x=false
 | [],x,h=>by simp at h
 | y::l,x,h=>by
   rw[vz] at h;cases a:p y with
   | true=>rw[a] at h;simp only[yn,xm,List.getElem?_cons_succ] at h;exact Qtr h
   | false=>rw[a] at h;simp at h;rw[<-h];exact a
theorem Qvb{α:Type}(p:α->Bool)(l:List α):(l.takeWhile p).length<=l.length:=(List.takeWhile_sublist p).length_le
theorem Q8k{n:Nat}{s:List UInt8}{k:Int}(hn:big<=n)(v:s.length<=4611686018427387904):Qor n s k=some (firstL k s:Int):=by
 unfold Qor;unfold big at hn;generalize hp:(λc:UInt8=>goC k c.toNat)=p;have a:∀ c:UInt8,goC k c.toNat=p c:=λc=>by rw[<-hp]
 have l:((s.drop 1).takeWhile p).length<=s.length:=xe (Qvb _ _) oc;have m:firstL k s=1+((s.drop 1).takeWhile p).length:=by unfold firstL;rw[hp]
 rw[m];refine Qcy (λs':Int=>s.length+2 - s'.toNat) (λs'=>∃ j:Nat,s'=((1+j:Nat):Int)/\j<=((s.drop 1).takeWhile p).length) (λt=>t=((1+((s.drop 1).takeWhile p).length:Nat):Int)) ⟨0,rfl,ya _⟩ oh (λs' q=>?_) (λt r=>by rw[r]);obtain⟨j,rfl,u⟩:=q;simp only[jn_eq,bifd];by_cases i:1+j<s.length;rw[oo om,Ji0 i,sbind,Jav,sbind];have g:(s.drop 1)[j]?=some s[1+j]:=by rw[vw,oq i]
 by_cases e:j<((s.drop 1).takeWhile p).length;obtain⟨x,f,d⟩:=Q0z e;rw[g] at f;cases f;left;refine⟨((1+(j+1):Nat):Int),?_,⟨j+1,rfl,om⟩,om⟩;have:goC k (s[1+j]).toNat=true:=by rw[a];exact d
 rw[this,bifT,w1 om];rfl;right;obtain rfl:j=((s.drop 1).takeWhile p).length:=om
 have d:=Qtr g;refine⟨_,?_,rfl⟩;have:goC k (s[1+((s.drop 1).takeWhile p).length]).toNat=false:=by rw[a];exact d
 rw[this,bifF];right;rw[ol om];refine⟨_,rfl,?_⟩;have:((s.drop 1).takeWhile p).length<=(s.drop 1).length:=Qvb _ _;rw[uy] at this;have:j=((s.drop 1).takeWhile p).length:=om
 rw[this]
theorem Qpl{α:Type}{p:α->Bool}:∀ {l:List α},(l.takeWhile p).length=l.length↔l.all p=true
 | []=>oc
 | x::l=>by
   rw[vz];cases a:p x with
   | true=>simp[a,Qpl]
   | false=>simp[a]
theorem Q8l{n:Nat}{w:Qn1}(hn:big<=n)(e:w.Bc.length<=4611686018427387904):Qmo n w=some (wdB w.Ay w.Bc):=by
 unfold Qmo;simp only[jn_eq,Q8k hn e,sbind,Jaw,bifd];cases f:w.Bc with
 | nil=>rfl
 | cons c r=>
   rw[ol oc];by_cases h0:w.Ay=0;rw[oo h0,bifT];simp[wdB,h0];rw[ol h0,show getS (c::r) (0:Int)=some c.toNat by rfl,sbind,Jau hn,sbind];by_cases hk:kindC c.toNat=w.Ay;simp only[oi hk,ot,bifF];have d:(firstL w.Ay (c::r):Int)=((c::r).length:Int)↔r.all (λb=>goC w.Ay b.toNat)=true:=by rw[<-Qpl];unfold firstL;simp only[List.drop_succ_cons,gy,xm];omega
   by_cases a:r.all (λb=>goC w.Ay b.toNat)=true;rw[oo (d.2 a)];simp only[wdB,a,hk];simp;congr 1;rw[Bool.eq_iff_iff];simp;omega;rw[ol (λh=>a (d.1 h))];have:r.all (λb=>goC w.Ay b.toNat)=false:=by simpa using a
   simp only[wdB,this,Bool.false_and,Bool.and_false];simp only[oj hk,ov,bifT];simp[wdB,hk]
theorem Qvc(c:Nat):Yv c=some (digB c):=by unfold Yv digB;simp only[jn_eq,bifd];grind
theorem Qtu(c:Nat):Zm c=some (letB c):=by unfold Zm letB;simp only[jn_eq,bifd];grind
theorem Q6s(k:Int)(c:Nat):Qdx k c=some (goC k c):=by unfold Qdx goC;simp only[jn_eq,Qvc,Qtu,sbind,bifd];by_cases a:k=1;subst a;cases digB c<;>simp;by_cases d:k=2;subst d;cases letB c<;>cases digB c<;>simp;simp[a,d]
theorem Q6t(k:Int):Qdz k=some (mostC k:Int):=by unfold Qdz mostC;simp only[bifd];grind
theorem Q6u{n c:Nat}(hn:big<=n):Qdy n c=some (kindC c):=by
 unfold Qdy kindC;rw[Qvc,sbind];cases digB c with
 | true=>rfl
 | false=>
   rw[bifF,Qtu,sbind];cases letB c with
   | true=>rfl
   | false=>
     rw[bifF];unfold big at hn;have e:(if sgnB c=true then (3:Int) else 0)=runG (τ:=Int) (λ_ (x:UInt8) (_:Unit)=>if x.toNat=c then .inr 3 else .inl ()) (λ_=>0) sgnL 0 ():=by
      unfold sgnB;have:∀(l:List UInt8) (i:Nat),(if l.any (λx=>decide (x.toNat=c))=true then (3:Int) else 0)=runG (τ:=Int) (λ_ (x:UInt8) (_:Unit)=>if x.toNat=c then .inr 3 else .inl ()) (λ_=>0) l i ():=by
       intro l
       induction l with
       | nil=>intro i;rfl
       | cons x l g=>
         intro i;simp only[List.any_cons,runG];by_cases h:x.toNat=c;simp[h];simp only[oj h,ol h,Bool.false_or];exact g (i+1)
      exact this _ 0
     simp only[vg,yd];rw[e];refine Q4z (λ_ i=>(i:Int)) (λ_ (x:UInt8) (_:Unit)=>if x.toNat=c then .inr (3:Int) else .inl ()) (λ_=>()) _ (λ_ _=>True) sgnL () (λi x b d _=>⟨?_,λ_ _=>trivial⟩) (λb _=>by simp[bifd,sgnL]) (λb _=>rfl) trivial (by simp[sgnL];omega);have hi:=K1 d;have a:i<([43,45,42,47,94,40,41,91,93,44,59,61]:List UInt8).length:=hi;have f:getS [43,45,42,47,94,40,41,91,93,44,59,61] (i:Int)=some x.toNat:=by
      rw[Q2b];have:([43,45,42,47,94,40,41,91,93,44,59,61]:List UInt8)[i]?=some x:=d;rw[this];rfl
     simp only[bifd,sbind,oo (show(i:Int)<(([43,45,42,47,94,40,41,91,93,44,59,61]:List UInt8).length:Int) by omega),f];by_cases h:x.toNat=c;rw[oo h,oo h];rfl;rw[ol h,ol h,w1 (by simp at a;omega)];rfl
theorem Quh{lim T Y P}(a:lim<=4096):∀ {c:List Qz}{i:Nat}{done l:List Rat},QR 129 done->runQ lim T Y P c i done=.inr l->l.length=done.length+c.length/\QR 129 l
 | [],i,done,l,hd,h=>by simp only[runQ] at h;cases h;exact⟨rfl,hd⟩
 | x::c,i,done,l,hd,h=>by
   simp only[runQ] at h;cases f:opQ x T Y P done with
   | none=>rw[f] at h;cases h
   | some q=>
     rw[f] at h;simp only[] at h;by_cases e:(qz q:Int)<=lim
     . rw[oo e] at h
       obtain⟨g,j⟩:=Quh a (λz d=>by
        rcases ym.1 d with d | d
        . exact hd z d
        . rw[xx.1 d]
          have:=qw_qz (q:=q) (b:=4096) om;omega) h
       exact⟨by rw[g];simp;omega,j⟩
     . rw[ol e] at h;cases h
theorem Qqc{lim T Y P}:∀ {c:List Qz}{i:Nat}{done:List Rat}{e},runQ lim T Y P c i done=.inl e->e.1=3\/e.1=6
 | [],i,done,e,h=>by simp only[runQ] at h;cases h
 | x::c,i,done,e,h=>by
   simp only[runQ] at h;cases d:opQ x T Y P done with
   | none=>rw[d] at h;cases h;exact .inl rfl
   | some q=>
     rw[d] at h;simp only[] at h;by_cases a:(qz q:Int)<=lim
     . rw[oo a] at h;exact Qqc h
     . rw[ol a] at h;cases h;exact .inr rfl
def fieldQ(t:Qr)(lim:Int)(T:Rat)(Y P:List Rat):(Int×Nat) ⊕ List Rat:=
 match runQ lim T Y P t.Code 0 [] with
 | .inl e=>.inl e
 | .inr l=>.inr (t.Av.map λo=>l.getD o.toNat 0)
structure Q2k(n k:Nat)(t:Qr):Prop where
 r:tapeR t
 h:Qcr n t=some true
 w:∀ c∈t.Code,Fk k c.N
theorem Q8m{n k:Nat}{t:Qr}{p:Wt}{bits:Int}(hn:big<=n)(j:129<=k)(hk:k<1048576)(v:Q2k n k t)(d:Fk k p.T)(f:FR k p.Y)(a:FR k p.P)(x:(p.Y.length:Int)=t.A3)(hp:(p.P.length:Int)=t.A9):
 Qos n t p bits=some (match fieldQ t (min (max bits 0) 4096) (fv p.T) (rv p.Y) (rv p.P) with | .inl e=>([],⟨e.1,0,0,(e.2:Int)⟩) | .inr l=>(toR l,⟨0,0,0,0⟩)):=by
 obtain⟨r,h,w⟩:=v;have hd:=r.1;obtain⟨⟨B,C⟩,⟨E,F⟩,G,H⟩:=hd;have eT:=qw_fv d om;have eY:=QR_rv f om;have eP:=QR_rv a om;unfold Qos Qlx Qhy Z1;rw[Va hn (Fk_Fw d om),sbind,Qds hn om f om,sbind,Qds hn om a om,sbind,sbind,sbind];simp only[];obtain⟨I,e⟩:=Jcz (g:=⟨⟨0,0⟩,min (max bits 0) 4096⟩) hn j hk r h w eT eY eP (by rw[J5];exact x) (by rw[J5];exact hp) (by simp only[];omega);rw[e,sbind];unfold fieldQ;simp only[];cases hr:runQ (min (max bits 0) 4096) (fv p.T) (rv p.Y) (rv p.P) t.Code 0 [] with
 | inl q=>
   have hk:=Qqc hr;simp only[];rw[sbind];simp only[];rw[Yx om,ov,bifT]
 | inr l=>
   obtain⟨y,A⟩:=Quh om (λ_ h=>by cases h) hr;have J:l.length=t.Code.length:=by simpa using y
   simp only[];rw[sbind];simp only[];rw[Wf,ot,bifF];unfold Qty;simp only[jn_eq,h,sbind,ot,bifF];rw[Kr,oi (show(l.length:Int)=(t.Code.length:Int) by omega),ot,bifF,Q8h (g:=λo:Int=>l.getD o.toNat 0) hn om λi o s u=>?_,sbind];have m:=r.2.2 o (Jr u);rw[Qkh m.1 om,sbind,Va hn (Fk_Fw (Js (V4 A om)) om),sbind,Jf]
theorem Q2l{t:Qr}{lim T Y P l}(a:lim<=4096)(h:fieldQ t lim T Y P=.inr l):l.length=t.Av.length/\QR 129 l:=by
 unfold fieldQ at h;cases hr:runQ lim T Y P t.Code 0 [] with
 | inl q=>rw[hr] at h;cases h
 | inr l'=>
   rw[hr] at h;cases h;obtain⟨f,e⟩:=Quh a (λ_ h=>by cases h) hr;refine⟨oc,λq d=>?_⟩;obtain⟨o,_,rfl⟩:=xd.1 d;exact V4 e om
theorem Qxv{t:Qr}{lim T Y P e}(h:fieldQ t lim T Y P=.inl e):e.1=3\/e.1=6:=by
 unfold fieldQ at h;cases hr:runQ lim T Y P t.Code 0 [] with
 | inl q=>rw[hr] at h;cases h;exact Qqc hr
 | inr l'=>rw[hr] at h;cases h
end Go.Proofs.YtbdgngdpkdagoabGreatDoor
