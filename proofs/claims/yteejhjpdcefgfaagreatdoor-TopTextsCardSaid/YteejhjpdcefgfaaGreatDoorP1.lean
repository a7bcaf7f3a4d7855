import Derived.Test.YteejhjpdcefgfaaGreatDoorMod
namespace Go.Proofs.YteejhjpdcefgfaaGreatDoor
open Go Go.RowKit
def big:Nat:=18446744073709551616
theorem w64{x:Int}(a:-9223372036854775808<=x)(d:x<=9223372036854775807):wrap64 x=x:=by unfold wrap64;omega
theorem bifd{α:Type}(p:Prop)[Decidable p](a b:α):(bif decide p then a else b)=if p then a else b:=by by_cases h:p<;>simp[h]
theorem bifnd{α:Type}(p:Prop)[Decidable p](a b:α):(bif !decide p then a else b)=if p then b else a:=by by_cases h:p<;>simp[h]
theorem bifT{α:Type}(a b:α):(bif true then a else b)=a:=yw (yw rfl)
theorem bifF{α:Type}(a b:α):(bif false then a else b)=b:=yw (yw rfl)
theorem jn_eq{σ ρ:Type}(A:(σ->Option ρ)->Option ρ)(k:σ->Option ρ):jn A k=A k:=yw (yw rfl)
theorem K7{τ ρ:Type}(k:τ->Option ρ)(t:τ):lpK k (.go t)=k t:=yw (yw rfl)
theorem Qio{τ ρ:Type}(k:τ->Option ρ)(r:ρ):lpK k (.out r)=some r:=yw (yw rfl)
theorem sbind{α β:Type}(a:α)(f:α->Option β):(some a).bind f=f a:=yw (yw rfl)
theorem Qh7{α:Type}(l:List α)(i:Nat):getI l (i:Int)=l[i]?:=by simp[getI]
theorem Qav{α:Type}{l:List α}{i:Nat}(h:i<l.length):getI l (i:Int)=some l[i]:=by rw[Qh7];simp[h]
theorem Q2e(l:List UInt8)(i:Nat):getS l (i:Int)=(l[i]?).map (·.toNat):=by simp[getS]
theorem Qfw{l:List UInt8}{i:Nat}(h:i<l.length):getS l (i:Int)=some l[i].toNat:=by rw[Q2e];simp[h]
theorem grd_t{b:Bool}(h:b=true):grd b=some ():=by rw[h];rfl
theorem Qfx{α:Type}{l:List α}{k:Nat}(h:k<=l.length):sub l 0 (k:Int)=some (l.take k):=by unfold sub;rw[oj om];simp
theorem Qns{α:Type}{l:List α}{i k:Nat}(a:i<=k)(h:k<=l.length):sub l (i:Int) (k:Int)=some ((l.take k).drop i):=by unfold sub;rw[oj om];simp
theorem Jk{α:Type}{b:Nat}{l r:List α}(h:(l.length+r.length)*b<=140737488355328)(a:l.length+r.length<=9223372036854775807):appM b l r=some (l++r):=by unfold appM;rw[oj ⟨h,a⟩]
theorem Qmw{α:Type}{b:Nat}{z:α}{n:Nat}(h:n*b<=140737488355328)(a:n<=9223372036854775807):mkM b z (n:Int)=some (List.replicate n z):=by unfold mkM;rw[oj om];simp
theorem W3{l r:List UInt8}(a:l.length+r.length<=9223372036854775807):catS l r=some (l++r):=by unfold catS;rw[oj a]
theorem Qso{σ τ:Type}{f:σ->Option (Lp σ τ)}(μ:σ->Nat)(I:σ->Prop)(Q:τ->Prop)
 (e:∀ s,I s->(∃ s',f s=some (.go s')/\I s'/\μ s'<μ s)\/(∃ t,f s=some (.out t)/\Q t)):∀(n:Nat) (s:σ),I s->μ s<n->∃ t,loopM f n s=some t/\Q t
 | 0,_,_,h=>absurd h (Nat.not_lt_zero _)
 | n+1,s,hI,k=>by rcases e s hI with ⟨s',a,d,j⟩ | ⟨t,a,d⟩;obtain⟨t,g,i⟩:=Qso μ I Q e n s' d om;exact⟨t,by simp only[loopM,a,ym];exact g,i⟩;exact⟨t,by simp only[loopM,a,ym],d⟩
theorem Qaj{σ τ R:Type}{f:σ->Option (Lp σ τ)}{n:Nat}{s:σ}{k:τ->Option R}{r:R}(μ:σ->Nat)(I:σ->Prop)(Q:τ->Prop)(h0:I s)(g:μ s<n)
 (e:∀ s,I s->(∃ s',f s=some (.go s')/\I s'/\μ s'<μ s)\/(∃ t,f s=some (.out t)/\Q t)) (hk:∀ t,Q t->k t=some r):(loopM f n s).bind k=some r:=by
 obtain⟨t,a,d⟩:=Qso μ I Q e n s h0 g;rw[a,ym];exact hk t d
theorem Qlk{σ τ R:Type}{f:σ->Option (Lp σ τ)}{n:Nat}{s:σ}{k:τ->Option R}{P:R->Prop}(μ:σ->Nat)(I:σ->Prop)(Q:τ->Prop)(h0:I s)(g:μ s<n)
 (e:∀ s,I s->(∃ s',f s=some (.go s')/\I s'/\μ s'<μ s)\/(∃ t,f s=some (.out t)/\Q t)) (hk:∀ t,Q t->∃ r,k t=some r/\P r):∃ r,(loopM f n s).bind k=some r/\P r:=by
 obtain⟨t,a,d⟩:=Qso μ I Q e n s h0 g;rw[a,ym];exact hk t d
theorem Ja0{σ τ R β:Type}{f:σ->Option (Lp σ τ)}{n:Nat}{s:σ}{k:τ->Option R}{g:β->R}{P:β->Prop}(μ:σ->Nat)(I:σ->Prop)(Q:τ->Prop)(h0:I s)(i:μ s<n)
 (e:∀ s,I s->(∃ s',f s=some (.go s')/\I s'/\μ s'<μ s)\/(∃ t,f s=some (.out t)/\Q t)) (hk:∀ t,Q t->∃ b,k t=some (g b)/\P b):∃ b,(loopM f n s).bind k=some (g b)/\P b:=by
 obtain⟨t,a,d⟩:=Qso μ I Q e n s h0 i;rw[a,ym];exact hk t d
theorem Qaw{σ τ:Type}{f:σ->Option (Lp σ τ)}{s s':σ}{n:Nat}(h:f s=some (.go s')):loopM f (n+1) s=loopM f n s':=by simp only[loopM,h,ym]
theorem Kv{σ τ:Type}{f:σ->Option (Lp σ τ)}{s:σ}{t:τ}{n:Nat}(h:f s=some (.out t))(a:0<n):loopM f n s=some t:=by
 obtain⟨m,rfl⟩:∃ m,n=m+1:=⟨n - 1,om⟩
 simp only[loopM,h,ym]
theorem Qu4{α σ τ:Type}{f:Nat->α->σ->Option (Lp σ τ)}(I:Nat->σ->Prop):∀(xs:List α) (i:Nat) (s:σ),I i s->(∀ j x s,xs[j]?=some x->I (i+j) s->∃ s',f (i+j) x s=some (.go s')/\I (i+j+1) s') ->
 ∃ s',rangeL f xs i s=some (.go s')/\I (i+xs.length) s'
 | [],i,s,h,_=>⟨s,rfl,h⟩
 | x::xs,i,s,h,e=>by
   obtain⟨s1,a,d⟩:=e 0 x s rfl h;simp only[xp] at a d
   obtain⟨n,g,k⟩:=Qu4 I xs (i+1) s1 d (λj y t l m=>by
    have:=e (j+1) y t (by simpa using l) (by rw[show i+(j+1)=i+1+j by omega];exact m);rw[show i+(j+1)=i+1+j by omega] at this
    exact this)
   refine⟨n,by simp only[rangeL,a,ym];exact g,?_⟩;rw[oo,show i+(xs.length+1)=i+1+xs.length by omega];exact k
theorem Qa5{α σ τ R:Type}{f:Nat->α->σ->Option (Lp σ τ)}{xs:List α}{s:σ}{k:Lp σ τ->Option R}{r:R}(I:Nat->σ->Prop)(h0:I 0 s)
 (e:∀ j x s,xs[j]?=some x->I j s->∃ s',f j x s=some (.go s')/\I (j+1) s') (hk:∀ t,I xs.length t->k (.go t)=some r):(rangeL f xs 0 s).bind k=some r:=by
 obtain⟨s',a,d⟩:=Qu4 I xs 0 s h0 (λj x s g hs=>by rw[xr] at hs |-;exact e j x s g hs);rw[a,ym];exact hk s' (by simpa using d)
theorem Qqx{α σ τ R:Type}{f:Nat->α->σ->Option (Lp σ τ)}{xs:List α}{s:σ}{k:Lp σ τ->Option R}{P:R->Prop}(I:Nat->σ->Prop)(h0:I 0 s)
 (e:∀ j x s,xs[j]?=some x->I j s->∃ s',f j x s=some (.go s')/\I (j+1) s') (hk:∀ t,I xs.length t->∃ r,k (.go t)=some r/\P r):∃ r,(rangeL f xs 0 s).bind k=some r/\P r:=by
 obtain⟨s',a,d⟩:=Qu4 I xs 0 s h0 (λj x s g hs=>by rw[xr] at hs |-;exact e j x s g hs);rw[a,ym];exact hk s' (by simpa using d)
def val:List Nat->Nat
 | []=>0
 | x::a=>x+4294967296*val a
def bp(k:Nat):Nat:=4294967296 ^ k
theorem Y9:bp 0=1:=by unfold bp;rw[Nat.pow_zero]
theorem V9(k:Nat):bp (k+1)=bp k*4294967296:=by unfold bp;rw[Nat.pow_succ]
theorem bp_le{j k:Nat}(h:j<=k):bp j<=bp k:=by unfold bp;exact vf oy h
theorem Jck(k:Nat):0<bp k:=by unfold bp;exact Nat.pow_pos oy
theorem Jjq(j k:Nat):bp (j+k)=bp j*bp k:=by unfold bp;rw[gk]
def Wd(a:List Nat):Prop:=∀ x∈a,x<4294967296
def trimZ:List Nat->List Nat
 | []=>[]
 | x::a=>if trimZ a=[]/\x=0 then [] else x::trimZ a
def toL(n:Nat):List Nat:=if n=0 then [] else n%4294967296::toL (n / 4294967296)
termination_by n
decreasing_by omega
theorem Xp:Wd []:=λ_ h=>by cases h
theorem K8{x a}:Wd (x::a)↔x<4294967296/\Wd a:=by simp[Wd]
theorem Kw{a b}:Wd (a++b)↔Wd a/\Wd b:=by constructor;intro h;exact⟨λx d=>h x (uy _ d),λx d=>h x (yt _ d)⟩;rintro⟨e,f⟩ x d;rcases xk.1 d with h | h;exact e x h;exact f x h
theorem Qrj{a k}(h:Wd a):Wd (a.take k):=λx d=>h x (xt d)
theorem Qnt{a k}(h:Wd a):Wd (a.drop k):=λx d=>h x (wj d)
theorem Qu5{k x}(h:x<4294967296):Wd (List.replicate k x):=λy a=>by rw[(List.mem_replicate.1 a).2];exact h
theorem Qbu{a:List Nat}(h:Wd a){i:Nat}(hi:i<a.length):a[i]<4294967296:=h _ (yu hi)
theorem V6:toL 0=[]:=by rw[toL];rfl
theorem Qag{n:Nat}(h:n≠0):toL n=n%4294967296::toL (n / 4294967296):=by rw[toL];rw[oi h]
theorem Q5(n:Nat):val (toL n)=n:=by
 induction n using Nat.strongRecOn with
 | _ n a=>
   by_cases h:n=0;subst h;rw[V6];rfl;rw[Qag h];simp only[val];rw[a (n / 4294967296) om];omega
theorem Jp(n:Nat):Wd (toL n):=by
 induction n using Nat.strongRecOn with
 | _ n a=>
   by_cases h:n=0;subst h;rw[V6];exact Xp;rw[Qag h];exact K8.2 ⟨om,a (n / 4294967296) om⟩
theorem Kq{a:List Nat}(h:Wd a):toL (val a)=trimZ a:=by
 induction a with
 | nil=>simp[val,V6,trimZ]
 | cons x a d=>
   obtain⟨j,i⟩:=K8.1 h;have d:=d i;simp only[val,trimZ];by_cases g:val a=0;rw[g,V6] at d;rw[<-d,g];by_cases e:x=0;subst e;simp[V6];rw[oi (λh=>e h.2),Qag om];rw[show(x+4294967296*0)%4294967296=x by omega,show(x+4294967296*0) / 4294967296=0 by omega,V6];have f:trimZ a≠[]:=by rw[<-d,Qag g];simp
   rw[oi (λh=>f h.1),Qag om,show(x+4294967296*val a)%4294967296=x by omega,show(x+4294967296*val a) / 4294967296=val a by omega,d]
theorem Jcl(a:List Nat):val (trimZ a)=val a:=by
 induction a with
 | nil=>rfl
 | cons x a d=>
   simp only[trimZ];split;rename_i h;rw[h.1] at d;simp[val] at d |-;omega;simp[val,d]
theorem W8(a:List Nat):(trimZ a).length<=a.length:=by
 induction a with
 | nil=>simp[trimZ]
 | cons x a d=>simp only[trimZ];split<;>simp;omega
theorem Q2f{a:List Nat}(h:trimZ a=[]):val a=0:=by rw[<-Jcl,h];rfl
theorem Q6d{a:List Nat}(h:Wd a):trimZ a=[]↔val a=0:=by constructor;exact Q2f;intro d;rw[<-Kq h,d,V6]
theorem Q2g(n:Nat):trimZ (toL n)=toL n:=by rw[<-Kq (Jp n),Q5]
theorem Qwt(a:List Nat):trimZ (a++[0])=trimZ a:=by
 induction a with
 | nil=>simp[trimZ]
 | cons x a d=>simp only[xd,trimZ,d]
theorem Ja1(a:List Nat){x:Nat}(h:x≠0):trimZ (a++[x])=a++[x]:=by
 induction a with
 | nil=>simp[trimZ,h]
 | cons y a d=>simp only[xd,trimZ,d];rw[oi oc]
theorem Yd(a b:List Nat):val (a++b)=val a+bp a.length*val b:=by
 induction a with
 | nil=>simp[val,Y9]
 | cons x a d=>simp only[xd,val,d,oo,V9];rw[vg,<-Nat.mul_assoc,vm 4294967296 (bp a.length)];omega
theorem Ye{a:List Nat}(h:Wd a):val a<bp a.length:=by
 induction a with
 | nil=>simp[val,Y9]
 | cons x a e=>
   obtain⟨f,d⟩:=K8.1 h;have:=e d;simp only[val,oo,V9];omega
theorem Qou(k:Nat):val (List.replicate k 0)=0:=by
 induction k with
 | zero=>rfl
 | succ k a=>simp[vi,val,a]
theorem Xy{n k:Nat}(h:n<bp k):(toL n).length<=k:=by
 induction k generalizing n with
 | zero=>rw[Y9] at h;obtain rfl:n=0:=om
         simp[V6]
 | succ k a=>
   by_cases h0:n=0;subst h0;simp[V6];rw[Qag h0,oo];have:=@a (n / 4294967296) (by rw[V9] at h;exact gi (by rw[vm];exact h));omega
theorem J1{α:Type}{a:List α}{k:Nat}(h:k<a.length):a.take (k+1)=a.take k++[a[k]]:=by simp[]
theorem Xg{n:Nat}{a:List Nat}(f:big<=n)(g:a.length<=4611686018427387904):Xu n a=some (trimZ a):=by
 unfold Xu;unfold big at f;refine Qaj (λs=>s.toNat) (λs=>∃ k:Nat,s=k/\k<=a.length/\trimZ a=trimZ (a.take k)) (λt=>∃ k:Nat,t=k/\k<=a.length/\trimZ a=a.take k) ⟨a.length,rfl,ou _,oc⟩ oh ?_ ?_;rintro s ⟨k,rfl,hk,d⟩;simp only[jn_eq,bifd];by_cases h0:0<k;obtain⟨j,rfl⟩:∃ j,k=j+1:=⟨k - 1,om⟩
 rw[oj om,w64 om om,show((j+1:Nat):Int) - 1=(j:Nat) by omega,Qav (show j<a.length by omega),sbind];rw[J1 (show j<a.length by omega)] at d;by_cases e:a[j]=0;left;refine⟨(j:Nat),by simp[e],⟨j,rfl,om,?_⟩,om⟩;rw[d,e,Qwt];right;refine⟨((j+1:Nat):Int),by simp[e],j+1,rfl,hk,?_⟩;rw[d,J1 (show j<a.length by omega),Ja1 _ e];right;obtain rfl:k=0:=om
 exact⟨0,oc,0,rfl,xl _,by rw[d];simp[trimZ]⟩;rintro t ⟨k,rfl,hk,d⟩;rw[Qfx hk,sbind,d]
theorem Jeq{a:List Nat}{k:Nat}:cpyL (List.replicate (a.length+k) 0) a=a++List.replicate k 0:=by unfold cpyL;rw[wh,xb om,List.drop_replicate,wu]
theorem Ql0{a:List Nat}{k:Nat}(h:a.length+k<=35184372088832):Qd3 a (k:Int)=some (a++List.replicate k 0):=by unfold Qd3;rw[w64 om om,show((a.length:Int)+(k:Int))=((a.length+k:Nat):Int) by omega,Qmw om om,sbind,Jeq]
theorem Vp{n:Nat}{a:List Nat}(d:big<=n)(e:a.length<=35184372088832):Vt n a=some (trimZ a):=by unfold Vt;have f:=W8 a;rw[Xg d om,sbind,show(0:Int)=((0:Nat):Int) by rfl,Ql0 om,sbind];simp
theorem Qgn{n:Nat}{a:List Nat}(e:big<=n)(d:a.length<=4611686018427387904)(f:Wd a):Qbz n a=some (decide (val a=0)):=by unfold Qbz;rw[Xg e d,sbind];congr 1;rw[dn];simp only[xv];rw[<-Q6d f];constructor;intro h;exact xg om;intro h;rw[h];rfl
theorem Qxb{x y c d:Nat}(e:x<4294967296)(f:y<4294967296)(a:c<4294967296)(hd:d<4294967296):x*y+c+d<18446744073709551616:=by have:x*y<=4294967295*4294967295:=vn om om;omega
theorem Qna{x y c d:Nat}(e:x<4294967296)(f:y<4294967296)(a:c<4294967296)(hd:d<4294967296):
 Qby x y c d=some ((x*y+c+d) / 4294967296,(x*y+c+d)%4294967296):=by
 have h:=Qxb e f a hd;unfold Qby
 rw[yx (show x*y<18446744073709551616 by omega),yx (show x*y+c<18446744073709551616 by omega),yx h,sbind];rw[show(2:Nat) ^ 32=4294967296 by rfl,yx (show(x*y+c+d) / 4294967296<4294967296 by omega)]
theorem Q0x{x y:Nat}(a:y<4294967296):x*4294967296 ||| y=x*4294967296+y:=by have:=Nat.two_pow_add_eq_or_of_lt (i:=32) (b:=y) (by simpa using a) x;rw[show(2:Nat) ^ 32=4294967296 by rfl,vm] at this;exact this.symm
theorem Qtp{h l y:Nat}(f:h<y)(d:l<4294967296)(g:y<4294967296):
 Qdo h l y=some ((h*4294967296+l) / y,(h*4294967296+l)%y,true):=by
 unfold Qdo;rw[bifd,oi om,grd_t oh,sbind,sbind];rw[show(2:Nat) ^ 32=4294967296 by rfl,yx (show h*4294967296<18446744073709551616 by omega),Q0x d]
 have a:(h*4294967296+l) / y<4294967296:=gi (by
  have:h*4294967296+4294967296<=y*4294967296:=om
  omega)
 have e:(h*4294967296+l)%y<y:=uh _ om;rw[yx a,yx (show(h*4294967296+l)%y<4294967296 by omega)]
theorem Jgk{α:Type}(p:List α)(y:α)(r:List α):(p++y::r)[p.length]?=some y:=oc
theorem Jgl{α:Type}(p:List α)(y z:α)(r:List α):(p++y::r).set p.length z=p++z::r:=oc
theorem Wl{α:Type}{k:Nat}{p:List α}{y:α}{r:List α}(h:p.length=k):getI (p++y::r) (k:Int)=some y:=by rw[Qh7,<-h,Jgk]
theorem Y4{α:Type}{k:Nat}{p:List α}{y z:α}{r:List α}(h:p.length=k):(p++y::r).set (k:Int).toNat z=p++z::r:=by rw[ue,<-h,Jgl]
theorem Wf(a:List Nat)(x:Nat):val (a++[x])=val a+bp a.length*x:=by rw[Yd];simp[val]
theorem Jcm{α:Type}{l:List α}{k:Nat}(h:k<l.length):l=l.take k++l[k]::l.drop (k+1):=oc
theorem Jer(P x y m a u v V M A c:Nat)(e:4294967296*u+v=x*y+m+a)(d:V+P*a=M+x*A+c):V+P*v+P*4294967296*u=M+P*m+x*(A+P*y)+c:=by grind
theorem Qtq{p m q a:List Nat}{z x c:Nat}(I:m.length=a.length)(J:p.length+m.length+1+q.length<=4611686018427387904)(C:Wd m)(B:Wd a)(F:x<4294967296)(H:c<4294967296):
 ∃ r,Qdn (p++m++z::q) (p.length:Int) a x c=some (p++r++q)/\r.length=a.length+1/\Wd r/\val r=val m+x*val a+c:=by
 have key:∃ r,Qdn (p++m++z::q) (p.length:Int) a x c=some r/\∃ l,r=p++l++q/\l.length=a.length+1/\Wd l/\val l=val m+x*val a+c:=by
  unfold Qdn;refine Qqx (λj (s:List Nat×Nat)=>∃ e,s.1=p++e++(m.drop j++z::q)/\e.length=j/\j<=a.length/\Wd e/\s.2<4294967296/\val e+bp j*s.2=val (m.take j)+x*val (a.take j)+c) ⟨[],oc,rfl,xl _,Xp,H,by simp[val,Y9]⟩ ?_ ?_;rintro j y ⟨o,w⟩ E ⟨e,f,g,A,n,d,t⟩;simp only at f d t;subst f;have i:j<a.length:=by rcases xh j a.length with h | h;exact h;simp[xe h] at E
  have G:a[j]=y:=by simpa [i] using E
  have v:y<4294967296:=by rw[<-G];exact Qbu B i
  have k:j<m.length:=om
  have u:m[j]<4294967296:=Qbu C k;rw[w64 om om,show((p.length:Int)+(j:Int))=((p.length+j:Nat):Int) by omega,xi k,xd];rw[Wl oh,sbind,Qna F v u d,sbind,sbind,Y4 oh];refine⟨_,rfl,e++[(x*y+m[j]+w)%4294967296],oc,by simp[g],om,Kw.2 ⟨n,K8.2 ⟨om,Xp⟩⟩,by have:=Qxb F v u d;simp only[];omega,?_⟩;rw[J1 k,J1 i,Wf,Wf,Wf,G,g,yp,yp,yi om,yi om,V9];exact Jer _ _ _ _ _ _ _ _ _ _ _ (vz (x*y+m[j]+w) 4294967296) t;rintro⟨o,w⟩ ⟨e,f,g,A,n,d,t⟩;simp only at f d t;subst f;simp only[K7];rw[w64 om om,show((p.length:Int)+(a.length:Int))=((p.length+a.length:Nat):Int) by omega,yd om,xf];rw[Wl oh,sbind,Y4 oh];refine⟨_,rfl,e++[w],oc,by simp[g],Kw.2 ⟨n,K8.2 ⟨d,Xp⟩⟩,?_⟩;rw[Wf,g,t,xb om,xb (ou _)]
 obtain⟨r,f,l,g,A,n,d⟩:=key;exact⟨l,by rw[f,g],A,n,d⟩
theorem Q0y{n:Nat}{a:List Nat}{x c:Nat}(i:big<=n)(s:a.length<35184372088832)(j:Wd a)(k:x<4294967296)(g:c<4294967296):Qi9 n a x c=some (toL (val a*x+c)):=by unfold Qi9;rw[w64 om om,show((a.length:Int)+1)=((a.length+1:Nat):Int) by omega,Qmw om om,sbind];obtain⟨r,d,l,e,f⟩:=Qtq (p:=[]) (m:=List.replicate a.length 0) (q:=[]) (a:=a) (z:=0) (x:=x) (c:=c) oc oh (Qu5 om) j k g;rw[xf] at d;rw[gg,show(0:Int)=(([]:List Nat).length:Int) by rfl,d,sbind];simp only[xf,yv];rw[Vp i om,sbind,<-Kq e,f,Qou,vm];simp
theorem Qa6{n x:Nat}(d:big<=n)(e:x<18446744073709551616):Y3 n x=some (toL x):=by
 unfold Y3
 rw[show(2:Nat) ^ 32=4294967296 by rfl,Xg d oc,sbind,<-Kq (by
  intro y a;simp only[xc,List.not_mem_nil,or_false] at a
  rcases a with rfl | rfl<;>omega)]
 congr 2;simp only[val];omega
theorem Jes(P q a r x s y d:Nat)(e:x*q+a=r*P+y)(h:d=x*s+r):y+P*d=x*(q+P*s)+a:=by grind
theorem Qrk{n:Nat}{a:List Nat}{x:Nat}(y:big<=n)(C:a.length<35184372088832)(A:Wd a)(v:x≠0)(B:x<4294967296):Qgs n a x=some (toL (val a / x),val a%x,true):=by
 unfold Qgs;unfold big at y;rw[bifd,oi v,Qmw om om,sbind]
 refine Qaj (λs=>(s.2.2+1).toNat) (λs=>∃(k:Nat) (e:List Nat),s.2.2=(k:Int) - 1/\k<=a.length/\s.1=List.replicate k 0++e/\e.length=a.length - k/\Wd e/\s.2.1<x/\val (a.drop k)=x*val e+s.2.1)
  (λt=>t.1.length=a.length/\Wd t.1/\t.2<x/\val a=x*val t.1+t.2) ⟨a.length,[],by simp only[];rw[w64 om om],ou _,oc,oc,Xp,by simp only[];omega,by simp[val]⟩ (by simp only[];rw[w64 om om];omega) ?_ ?_
 rintro⟨q,r,i⟩ ⟨k,e,f,m,d,g,w,p,u⟩;simp only at f d p u;subst f d;simp only[bifd];by_cases h0:0<k;obtain⟨j,rfl⟩:∃ j,k=j+1:=⟨k - 1,om⟩
 have l:j<a.length:=om
 left;rw[oj om,show((j+1:Nat):Int) - 1=(j:Nat) by omega,Qav l,sbind,Qtp p (Qbu A l) B,sbind];simp only[];rw[gg,xx,wg,Wl oc,sbind,Y4 oc,w64 om om];refine⟨_,rfl,⟨j,((r*4294967296+a[j]) / x)::e,rfl,om,rfl,oh,K8.2 ⟨?_,w⟩,uh _ om,?_⟩,by simp only[];omega⟩;have:=Qbu A l
 exact gi (by
  have:r*4294967296+4294967296<=x*4294967296:=om
  omega)
 rw[xi l];simp only[val];exact Jes 4294967296 _ _ _ _ _ _ _ (vz (r*4294967296+a[j]) x) u;right;obtain rfl:k=0:=om
 rw[oi om];exact⟨_,rfl,by simp at g |-;omega,by simpa using w,p,by simpa using u⟩;rintro⟨q,r⟩ ⟨f,m,d,g⟩;simp only at f m d g;simp only[];rw[Vp (by unfold big;exact y) om,sbind,<-Kq m,g,Nat.mul_add_div om,Nat.mul_add_mod,gm d,yx d,xp]
theorem Q0z{a:List Nat}(h:Wd a)(i:Nat):a.getD i 0<4294967296:=by rw[yz];by_cases hi:i<a.length;simp[hi];exact Qbu h hi;simp[xe (show a.length<=i by omega)]
theorem Zu(a:List Nat)(k:Nat):val (a.take (k+1))=val (a.take k)+bp k*a.getD k 0:=by by_cases h:k<a.length;rw[J1 h,Wf,yp,yi om];simp[h];rw[xb om,xb om];simp[xe (show a.length<=k by omega)]
def cmpI(x y:Nat):Int:=if x<y then -1 else if y<x then 1 else 0
theorem Jgm{n:Nat}(h:n≠0):bp ((toL n).length - 1)<=n:=by
 induction n using Nat.strongRecOn with
 | _ n g=>
   rw[Qag h,oo,Nat.add_sub_cancel];by_cases a:n / 4294967296=0;rw[a,V6,xz,Y9];omega;have:=g (n / 4294967296) om a;have i:(toL (n / 4294967296)).length≠0:=by rw[Qag a];simp
   obtain⟨m,d⟩:∃ m,(toL (n / 4294967296)).length=m+1:=⟨(toL (n / 4294967296)).length - 1,om⟩
   rw[d,Nat.add_sub_cancel] at this;rw[d,V9];have e:bp m*4294967296<=n / 4294967296*4294967296:=yh _ this;have f:n / 4294967296*4294967296<=n:=Nat.div_mul_le_self _ _;exact xn e f
theorem Qsp{m n:Nat}(h:(toL m).length<(toL n).length):m<n:=by
 have a:=Ye (Jp m);rw[Q5] at a;have f:n≠0:=by rintro rfl;rw[V6] at h;simp at h
 have d:=Jgm f;have e:bp (toL m).length<=bp ((toL n).length - 1):=bp_le om;exact xj a (xn e d)
theorem Q6e(a:List Nat)(k:Nat):val a=val (a.take k)+bp (a.take k).length*val (a.drop k):=by
 conv=>lhs;rw[<-uw k a]
 rw[Yd]
theorem Jet{P x y u v A:Nat}(f:A<P)(a:x<y)(d:u=A+P*x)(e:P*y<=v):u<v:=by have:P*(x+1)<=P*y:=vj _ a;rw[vg] at this;omega
theorem Q9e{a b:List Nat}{j:Nat}(i:Wd a)(l:j<a.length)(d:j<b.length)(m:a.drop (j+1)=b.drop (j+1))(h:a[j]<b[j]):val a<val b:=by have e:=Q6e a (j+1);have f:=Q6e b (j+1);rw[yp,yi om] at e f;rw[e,f,m];refine Nat.add_lt_add_right ?_ _;rw[J1 l,J1 d,Wf,Wf,yp,yp,yi om,yi om];have g:=Ye (Qrj (k:=j) i);rw[yp,yi om] at g;exact Jet g h rfl (Nat.le_add_left _ _)
theorem Qfe{n:Nat}{a b:List Nat}(r:big<=n)(w:a.length<=4611686018427387904)(C:b.length<=4611686018427387904)(g:Wd a)(u:Wd b):Qcd n a b=some (cmpI (val a) (val b)):=by
 unfold Qcd;rw[Xg r w,sbind,Xg r C,sbind,<-Kq g,<-Kq u];have E:(toL (val a)).length<=4611686018427387904:=by rw[Kq g];exact xn (W8 a) w
 have e:=Q5 (val a);have f:=Q5 (val b);have i:=Jp (val a);have l:=Jp (val b);have F:=@Qsp (val a) (val b);have A:=@Qsp (val b) (val a);generalize val a=x at *;generalize val b=y at *;generalize toL x=a' at *;generalize toL y=b' at *;unfold big at r;rw[bifd,bifd];by_cases B:a'.length<b'.length;rw[oj om,cmpI,oj (F B)];rw[oi om];by_cases v:b'.length<a'.length;rw[oj om,cmpI,oi (by have:=A v;omega),oj (A v)];rw[oi om,w64 om om];refine Qaj (λs=>(s+1).toNat) (λs=>∃ k:Nat,s=(k:Int) - 1/\k<=a'.length/\a'.drop k=b'.drop k) (λt=>(t=.go ()/\a'=b')\/(t=.out (-1)/\x<y)\/(t=.out 1/\y<x)) ⟨a'.length,rfl,ou _,by rw[yd (ou _),yd om]⟩ om ?_ ?_;rintro s ⟨k,rfl,hk,p⟩;simp only[bifd];by_cases h0:0<k;obtain⟨j,rfl⟩:∃ j,k=j+1:=⟨k - 1,om⟩
 have m:j<a'.length:=om
 have d:j<b'.length:=om
 rw[oj om,show((j+1:Nat):Int) - 1=(j:Nat) by omega,Qav m,sbind,Qav d,sbind];by_cases g1:a'[j]<b'[j];right;rw[oj g1];refine⟨_,rfl,.inr (.inl ⟨rfl,?_⟩)⟩;rw[<-e,<-f];exact Q9e i m d p g1;rw[oi g1,sbind,sbind];by_cases q:b'[j]<a'[j];right;rw[oj q];refine⟨_,rfl,.inr (.inr ⟨rfl,?_⟩)⟩;rw[<-e,<-f];exact Q9e l d m p.symm q;left;rw[oi q,w64 om om];refine⟨_,rfl,⟨j,rfl,om,?_⟩,om⟩;rw[xi m,xi d,p,show a'[j]=b'[j] by omega];right;obtain rfl:k=0:=om
 rw[oi om];exact⟨_,rfl,.inl ⟨rfl,by simpa using p⟩⟩;rintro t (⟨rfl,h⟩ | ⟨rfl,h⟩ | ⟨rfl,h⟩);rw[K7];have:x=y:=by rw[<-e,<-f,h]
 simp[cmpI,this];rw[Qio,cmpI,oj h];rw[Qio,cmpI,oi om,oj h]
theorem Jcn{v:Nat}(h:v<18446744073709551616):toL v=[]\/(∃ x,toL v=[x]/\x=v)\/(∃ x y,toL v=[x,y]/\x<4294967296/\y<4294967296/\x+4294967296*y=v):=by
 have f:=Xy (n:=v) (k:=2) (by rw[V9,V9,Y9];omega);have a:=Q5 v;have d:=Jp v
 match e:toL v,f with
 | [],_=>exact .inl rfl
 | [x],_=>rw[e] at a;simp[val] at a;exact .inr (.inl ⟨x,rfl,a⟩)
 | [x,y],_=>
   rw[e] at a d;simp[val] at a;exact .inr (.inr ⟨x,y,rfl,(K8.1 d).1,(K8.1 (K8.1 d).2).1,om⟩)
 | _::_::_::_,h=>simp at h
theorem Q9f{v:Nat}(h:18446744073709551616<=v):2<(toL v).length:=by rcases xh 2 (toL v).length with a | a;exact a;have d:=Ye (Jp v);rw[Q5] at d;have e:=bp_le a;rw[V9,V9,Y9] at e;omega
theorem Qrl{n:Nat}{a:List Nat}(e:big<=n)(d:a.length<=4611686018427387904)(f:Wd a):Qgt n a=some (if val a<18446744073709551616 then (val a,true) else (0,false)):=by unfold Qgt;rw[Xg e d,sbind,<-Kq f,bifd];by_cases h:val a<18446744073709551616;rw[oj h];rcases Jcn h with h1 | ⟨x,h1,h2⟩ | ⟨x,y,h1,h2,h3,h4⟩;have:=Q5 (val a);rw[h1] at this |-;rw[oi oy];simp only[val] at this;simp only[rangeL,sbind,K7,<-this];rw[h1,oi oc];simp only[rangeL];rw[w64 om om,grd_t oy,sbind,sbind,sbind,sbind];simp only[K7];subst h2;simp;omega;rw[h1,oi oc];simp only[rangeL];rw[w64 (x:=32*((0:Nat):Int)) om om,grd_t oy,sbind,sbind,sbind,w64 om om,grd_t oy];simp only[sbind,K7];rw[show(2:Nat) ^ min (Int.toNat (32*((0:Nat):Int))) 64=1 by rfl,show(2:Nat) ^ min (Int.toNat (32*((0+1:Nat):Int))) 64=4294967296 by rfl,Nat.mul_one,yx (show x<18446744073709551616 by omega),yx (show y*4294967296<18446744073709551616 by omega),Nat.zero_or,Nat.or_comm,Q0x h2];congr 2;omega;rw[oi h];have:=Q9f (v:=val a) om;rw[oj om]
theorem Qjy{x y c:Nat}(d:x<4294967296)(e:y<4294967296)(a:c<4294967296):
 Yp x y c=some ((x+y+c)%4294967296,(x+y+c) / 4294967296):=by
 unfold Yp;simp only[jn_eq,bifd];split<;>split<;>congr 1<;>refine Prod.ext ?_ ?_<;>simp only[]<;>omega
theorem Qnb{x y c:Nat}(e:x<4294967296)(f:y<4294967296)(a:c<=1):
 ∃ d b,Qfp x y c=some (d,b)/\d<4294967296/\b<=1/\d+y+c=x+4294967296*b:=by
 unfold Qfp;simp only[jn_eq,bifd,sbind];split<;>split<;>refine⟨_,_,rfl,?_,?_,?_⟩<;>omega
theorem Jco(P s x y u v V A C:Nat)(e:4294967296*u+v=x+y+s)(h:V+P*s=A+C):V+P*v+P*4294967296*u=A+P*x+(C+P*y):=by grind
theorem Q9g{k:Nat}{b:List Nat}{β:Type}(f:Nat->Option β):(if (k:Int)<(b.length:Int) then (getI b (k:Int)).bind f else f 0)=f (b.getD k 0):=by by_cases h:k<b.length;rw[oj om,Qav h,sbind];simp[h];rw[oi om];simp[xe (show b.length<=k by omega)]
theorem Q9h{n:Nat}{a b:List Nat}(x:big<=n)(A:a.length<17592186044416)(w:b.length<=a.length)(q:Wd a)(k:Wd b):Qfq n a b=some (toL (val a+val b)):=by
 unfold Qfq;simp only[jn_eq,bifd];rw[oi om];rw[show(1:Int)=((1:Nat):Int) by rfl,Ql0 om,sbind];refine Qa5 (λj (s:List Nat×Nat)=>∃ f,s.1=f++(List.drop j a++[0])/\f.length=j/\j<=a.length/\Wd f/\s.2<=1/\val f+bp j*s.2=val (a.take j)+val (b.take j)) ⟨[],oc,rfl,xl _,Xp,oc,by simp[val,Y9]⟩ ?_ ?_;rintro j y ⟨o,l⟩ t ⟨f,g,e,v,m,p,i⟩;simp only at g p i;subst g;have d:j<a.length:=by
  rcases xh j a.length with h | h;exact h;simp[xe h] at t
 have u:a[j]=y:=by simpa [d] using t
 have r:y<4294967296:=by rw[<-u];exact Qbu q d
 rw[Q9g,Qjy r (Q0z k j) (by simp only[];omega),sbind,xi d,xd,Wl e,sbind,Y4 e];refine⟨_,rfl,f++[(y+b.getD j 0+l)%4294967296],oc,by simp[e],om,Kw.2 ⟨m,K8.2 ⟨om,Xp⟩⟩,?_,?_⟩;have:=Q0z k j;simp only[];omega;rw[Zu,Zu,Wf,e,V9];rw[show a.getD j 0=y by rw[<-u];simp[d]];exact Jco _ _ _ _ _ _ _ _ _ (vz (y+b.getD j 0+l) 4294967296) i;rintro⟨o,l⟩ ⟨f,g,e,v,m,p,i⟩;simp only at g p i;subst g;simp only[K7];rw[yd (ou _),xf,Wl e,sbind,Y4 e,Xg x oh,sbind,<-Kq (Kw.2 ⟨m,K8.2 ⟨om,Xp⟩⟩),Wf,e,i,xb (ou _),xb w]
theorem Qtr{n:Nat}{a b:List Nat}(f:big<=n)(g:a.length<17592186044416)(i:b.length<17592186044416)(d:Wd a)(e:Wd b):Qfq n a b=some (toL (val a+val b)):=by by_cases j:b.length<=a.length;exact Q9h f g j d e;rw[Nat.add_comm,<-Q9h f i om e d];unfold Qfq;simp only[jn_eq,bifd];rw[oj om,oi om]
theorem Q6f{n:Nat}{a b:List Nat}(f:big<=n)(j:a.length<17592186044410)(k:b.length<17592186044410)(d:Wd a)(e:Wd b):Qhm n [a,b]=some (toL (val a+val b)):=by unfold Qhm;have g:=Qtr (a:=[]) (b:=toL (val a)) f oc (by have:=W8 a;rw[Kq d];omega) Xp (Jp _);have i:=Qtr (a:=toL (val a)) (b:=toL (val b)) f (by have:=W8 a;rw[Kq d];omega) (by have:=W8 b;rw[Kq e];omega) (Jp _) (Jp _);rw[Q5] at g i;rw[Q5] at i;simp only[val,xr] at g;simp only[rangeL,Xg f (show a.length<=4611686018427387904 by omega),Xg f (show b.length<=4611686018427387904 by omega),sbind,<-Kq d,<-Kq e,g,i,K7]
theorem Qip{α:Type}{l:List α}{i:Nat}{x:α}(h:l[i]?=some x):i<l.length:=by rcases xh i l.length with a | a;exact a;rw[xe a] at h;cases h
theorem Wo{x y:Nat}(h:x<=y):(toL x).length<=(toL y).length:=by refine Xy ?_;have:=Ye (Jp y);rw[Q5] at this;omega
theorem Jeu(P c a x y d V A B:Nat)(e:d+y+c=x+4294967296*a)(h:V+B=A+P*c):V+P*d+(B+P*y)=A+P*x+P*4294967296*a:=by grind
theorem Qu6{n:Nat}{a b:List Nat}(A:big<=n)(L:a.length<17592186044416)(M:b.length<17592186044416)(m:Wd a)(q:Wd b):
 Qmp n a b=some (if val a<val b then ([],false) else (toL (val a - val b),true)):=by
 unfold Qmp;have N:(toL (val a)).length<17592186044416:=by rw[Kq m];exact yo (W8 a) L
 have O:(toL (val b)).length<17592186044416:=by rw[Kq q];exact yo (W8 b) M
 rw[Xg A om,sbind,Xg A om,sbind,<-Kq m,<-Kq q,Qfe A om om (Jp _) (Jp _),sbind,Q5,Q5];have C:=Q5 (val a);have E:=Q5 (val b);have p:=Jp (val a);have r:=Jp (val b);have B:=λh=>Wo (x:=val b) (y:=val a) h;generalize val a=x at *;generalize val b=y at *;generalize toL x=a' at *;generalize toL y=b' at *;rw[bifd];by_cases f:x<y;rw[oj (by rw[cmpI,oj f];decide),oj f];rw[oi (by rw[cmpI,oi f];split<;>decide),oi f];have B:=B om;simp only[jn_eq,bifd];rw[show(0:Int)=((0:Nat):Int) by rfl,Ql0 om,sbind];refine Qa5 (λj (s:List Nat×Nat)=>∃ g,s.1=g++List.drop j a'/\g.length=j/\j<=a'.length/\Wd g/\s.2<=1/\val g+val (b'.take j)=val (a'.take j)+bp j*s.2) ⟨[],oc,rfl,xl _,Xp,oc,by simp[val]⟩ ?_ ?_;rintro j w ⟨o,t⟩ G ⟨g,l,i,J,u,v,k⟩;simp only at l v k;subst l;have e:j<a'.length:=Qip G;have H:a'[j]=w:=by simpa [e] using G
 have F:w<4294967296:=by rw[<-H];exact Qbu p e
 obtain⟨d,P,g1,I,g3,g4⟩:=Qnb F (Q0z r j) v;rw[Q9g,g1,sbind,xi e,Wl i,sbind,Y4 i];refine⟨_,rfl,g++[d],oc,by simp[i],om,Kw.2 ⟨u,K8.2 ⟨I,Xp⟩⟩,g3,?_⟩;rw[Zu,Zu,Wf,i,V9];rw[show a'.getD j 0=w by rw[<-H];simp[e]];exact Jeu _ _ _ _ _ _ _ _ _ g4 k;rintro⟨o,t⟩ ⟨g,l,i,J,u,v,k⟩;simp only at l v k;subst l;simp only[K7];rw[xb (ou _),xb B,C,E] at k;rw[yd (ou _),yv,Xg A om,sbind,<-Kq u];have K:t=0:=by
  have g1:=Ye u;rw[i] at g1;rcases Nat.eq_zero_or_pos t with h | h;exact h;have Q:bp a'.length*1<=bp a'.length*t:=vj _ h;omega
 subst K;rw[vq] at k;congr 3;omega
theorem Q6g{n:Nat}{a b:List Nat}(f:big<=n)(g:a.length<17592186044416)(i:b.length<17592186044416)(d:Wd a)(e:Wd b):
 Qmq n a b=some (toL (val a - val b+(val b - val a)),cmpI (val a) (val b)):=by
 unfold Qmq;rw[Qfe f om om d e,sbind];simp only[jn_eq,bifd];by_cases h:val a<val b;rw[oj (by rw[cmpI,oj h];decide),Qu6 f i g e d,oi om,sbind];rw[show val a - val b+(val b - val a)=val b - val a by omega];rw[oi (by rw[cmpI,oi h];split<;>decide),Qu6 f g i d e,oi h,sbind];rw[show val a - val b+(val b - val a)=val a - val b by omega]
def blen(x:Nat):Nat:=if x=0 then 0 else Nat.log2 x+1
theorem Qmx:blen 0=0:=by unfold blen;rw[oj rfl]
theorem Q9i{x k:Nat}(a:2 ^ k<=x)(d:x<2 ^ (k+1)):blen x=k+1:=by
 have h0:x≠0:=by have:=va k;omega
 unfold blen;rw[oi h0,(Nat.log2_eq_iff h0).2 ⟨a,d⟩]
theorem Qvz{x:Nat}:x<2 ^ blen x:=by unfold blen;by_cases h0:x=0;rw[oj h0,h0];decide;rw[oi h0];exact Nat.lt_log2_self
theorem Qrm{x:Nat}(h0:x≠0):2 ^ (blen x - 1)<=x:=by unfold blen;rw[oi h0];exact Nat.log2_self_le h0
theorem Qxc{x:Nat}(h0:x≠0):1<=blen x:=by unfold blen;rw[oi h0];omega
theorem Q6h{x w:Nat}(h:x / 2 ^ w≠0):blen x=blen (x / 2 ^ w)+w:=by
 have a:=Qrm h;have d:=Qvz (x:=x / 2 ^ w);have e:=Qxc h;obtain⟨k,hk⟩:∃ k,blen (x / 2 ^ w)=k+1:=⟨_,(Nat.sub_add_cancel e).symm⟩
 rw[hk,Nat.add_sub_cancel] at a;rw[hk] at d |-;rw[show k+1+w=(k+w)+1 by omega];refine Q9i ?_ ?_;rw[gk];exact(Nat.le_div_iff_mul_le (va w)).1 a;rw[show k+w+1=(k+1)+w by omega,gk];exact(gz (va w)).1 d
theorem Qts{n x:Nat}(m:big<=n)(p:x<4294967296):Qig n x=some (blen x:Int):=by
 unfold Qig;unfold big at m
 refine Qaj (λs=>s.2.2.toNat) (λs=>∃(w k B:Nat),s.2.2=w/\s.2.1=k/\(w,B)∈[(16,4294967296),(8,65536),(4,256),(2,16),(1,4),(0,2)]/\s.1<B/\k+2*w<=32/\blen x=k+blen s.1)
  (λt=>∃ k:Nat,t.2=k/\k<=32/\t.1<2/\blen x=k+blen t.1) ⟨16,0,4294967296,rfl,rfl,oy,p,oy,oc⟩ (by simp only[];omega) ?_ ?_
 rintro⟨y,c,w'⟩ ⟨w,k,B,d,i,e,a,q,f⟩;simp only at d i a f;subst d i;simp only[jn_eq,bifd,bifnd];by_cases h0:0<w;left;rw[oj om,grd_t oc,sbind,sbind,ue];have r:w<=16:=om
 have hd:Int.tdiv (w:Int) 2=((w / 2:Nat):Int):=oz
 rw[hd,yi om,w64 (x:=((w / 2:Nat):Int)) om om,w64 om om];have l:∃ B',(w / 2,B')∈[(16,4294967296),(8,65536),(4,256),(2,16),(1,4),(0,2)]/\B'*2 ^ w=B/\(2 ^ w<=B'):=by simp only[xc,List.not_mem_nil,or_false,Prod.mk.injEq] at e;rcases e with ⟨rfl,rfl⟩ | ⟨rfl,rfl⟩ | ⟨rfl,rfl⟩ | ⟨rfl,rfl⟩ | ⟨rfl,rfl⟩ | ⟨rfl,rfl⟩;exact⟨65536,oy,oy,oy⟩;exact⟨256,oy,oy,oy⟩;exact⟨16,oy,oy,oy⟩;exact⟨4,oy,oy,oy⟩;exact⟨2,oy,oy,oy⟩;omega
 obtain⟨B',g1,j,g3⟩:=l;by_cases g:y / 2 ^ w=0;rw[oj g];refine⟨_,rfl,⟨w / 2,k,B',rfl,rfl,g1,?_,om,f⟩,by simp only[];omega⟩;have:=(Nat.div_eq_zero_iff_lt (va w)).1 g;exact xj this g3;rw[oi g];refine⟨_,rfl,⟨w / 2,k+w,B',rfl,by simp only[];omega,g1,?_,om,?_⟩,by simp only[];omega⟩;rw[<-j] at a;exact(gz (va w)).2 a;rw[f,Q6h g];simp only[];omega;right;obtain rfl:w=0:=om
 rw[oi om];simp only[xc,List.not_mem_nil,or_false,Prod.mk.injEq] at e;refine⟨_,rfl,k,rfl,om,by simp only[];omega,f⟩;rintro⟨y,c⟩ ⟨k,d,i,e,a⟩;simp only at d e a;subst d;rw[a,w64 (by simp only[];omega) (by simp only[];omega)];have:blen y=y:=by
  have:y=0\/y=1:=om
  rcases this with rfl | rfl;rw[Qmx];exact Q9i (k:=0) oy oy
 rw[this];simp
theorem Qu7(k:Nat):bp k=2 ^ (32*k):=by unfold bp;rw[Nat.pow_mul]
theorem Qxd{v:Nat}(h:toL v≠[]):∃ p x,toL v=p++[x]/\x≠0/\x<4294967296/\Wd p:=by have a:=Jp v;rcases List.eq_nil_or_concat (toL v) with h0 | ⟨p,x,h1⟩;exact absurd h0 h;rw[List.concat_eq_append] at h1;refine⟨p,x,h1,?_,?_,?_⟩;rintro rfl;have d:=Q2g v;rw[h1,Qwt] at d;have:=W8 p;rw[d] at this;simp at this;omega;rw[h1] at a;exact(K8.1 (Kw.1 a).2).1;rw[h1] at a;exact(Kw.1 a).1
theorem Jcp{p:List Nat}{x:Nat}(d:Wd p)(e:x≠0):blen (val (p++[x]))=32*p.length+blen x:=by
 have a:=Ye d;have hd:val (p++[x]) / 2 ^ (32*p.length)=x:=by rw[<-Qu7,Wf,Nat.add_mul_div_left _ _ (Jck _),gm a,xr]
 rw[Q6h (w:=32*p.length) (by rw[hd];exact e),hd,Nat.add_comm]
theorem Qtt{n:Nat}{a:List Nat}(i:big<=n)(q:a.length<17592186044416)(e:Wd a):Qdq n a=some (blen (val a):Int):=by
 unfold Qdq;rw[Vp i om,sbind,<-Kq e,bifd];have g:(toL (val a)).length<17592186044416:=by rw[Kq e];exact yo (W8 a) q
 by_cases h:toL (val a)=[]
 rw[oj (by rw[h];rfl)];rw[Kq e] at h;rw[Q2f h,Qmx];rfl;rw[oi (by intro r;exact h (xg om))];obtain⟨p,x,d,f,l,m⟩:=Qxd h;have j:val a=val (p++[x]):=by rw[<-d,Q5]
 rw[j,Jcp m f];rw[j] at d g;rw[d] at g;rw[d,ov,vo] at *;rw[w64 (x:=((p.length+1:Nat):Int) - 1) om om,show((p.length+1:Nat):Int) - 1=(p.length:Nat) by omega,Wl rfl,sbind,Qts i l,sbind,sbind];have s:blen x<=32:=by rcases xh 32 (blen x) with h | h;have g1:=Qrm f;have k:2 ^ 32<=2 ^ (blen x - 1):=vf oy om;rw[show(2:Nat) ^ 32=4294967296 by decide] at k;omega;exact h
 rw[w64 (x:=32*(p.length:Int)) om om,w64 om om];congr 1
theorem Jcq(P M R x A B m V:Nat)(a:V=M+P*m)(d:R=m+x*A+0)(e:V=A*B):M+P*R=A*(B+P*x):=by grind
theorem Qdb{n:Nat}{a b:List Nat}(B:big<=n)(F:a.length<8796093022208)(G:b.length<8796093022208)(l:Wd a)(t:Wd b):Zp n a b=some (toL (val a*val b)):=by
 unfold Zp;rw[w64 (x:=(a.length:Int)+(b.length:Int)) om om,w64 om om,show((a.length:Int)+(b.length:Int))+1=((a.length+b.length+1:Nat):Int) by omega,Qmw om om,sbind];refine Qa5 (λj (s:List Nat)=>∃ d,s=d++List.replicate (b.length+1 - j) 0/\d.length=j+a.length/\j<=b.length/\Wd d/\val d=val a*val (b.take j)) ⟨List.replicate a.length 0,by rw[List.replicate_append_replicate];congr 1,oc,xl _,Qu5 om,by simp[val,Qou]⟩ ?_ ?_
 . rintro j x o v ⟨d,i,y,A,g,k⟩
   subst i;have e:j<b.length:=Qip v;have w:b[j]=x:=by simpa [e] using v
   have u:x<4294967296:=by rw[<-w];exact Qbu t e
   obtain⟨r,g1,E,g3,g4⟩:=Qtq (p:=d.take j) (m:=d.drop j) (q:=List.replicate (b.length - j) 0) (a:=a) (z:=0) (x:=x) (c:=0) oh oh (Qnt g) l u om;have f:(d.take j).length=j:=oh
   rw[f,uw] at g1;rw[show b.length+1 - j=(b.length - j)+1 by omega,vi,g1,sbind];refine⟨_,rfl,d.take j++r,by rw[show b.length+1 - (j+1)=b.length - j by omega],oh,om,Kw.2 ⟨Qrj g,g3⟩,?_⟩;have C:val d=val (d.take j)+bp j*val (d.drop j):=by
    conv=>lhs;rw[<-uw j d]
    rw[Yd,f]
   rw[Yd,f,Zu,show b.getD j 0=x by rw[<-w];simp[e]];exact Jcq _ _ _ _ _ _ _ _ C g4 k
 . rintro o ⟨d,i,y,A,g,k⟩
   subst i;simp only[K7];rw[Vp B oh,sbind,<-Kq (Kw.2 ⟨g,Qu5 om⟩),Yd,Qou,vq,xp,k,xb (ou _)]
theorem lo_eq{x r:Nat}(hr:r<=32):(x*2 ^ r)%4294967296=(x%2 ^ (32 - r))*2 ^ r:=by rw[show(4294967296:Nat)=2 ^ (32 - r)*2 ^ r by rw[<-gk,show 32 - r+r=32 by omega],Nat.mul_mod_mul_right]
theorem or_lo{c x r:Nat}(hr:r<=32)(a:c<2 ^ r):c ||| (x*2 ^ r)%4294967296=c+(x*2 ^ r)%4294967296:=by rw[lo_eq hr,Nat.or_comm,vm,<-Nat.two_pow_add_eq_or_of_lt a,Nat.add_comm]
theorem hi_lt{x r:Nat}(a:x<4294967296):(x*2 ^ r) / 4294967296<2 ^ r:=
 gi (Nat.mul_lt_mul_of_pos_right a (va r))
theorem Qsq{r:Nat}(hr:r<=32):2 ^ r<=4294967296:=by have h:2 ^ r<=2 ^ 32:=vf oy hr;rwa [show(2:Nat) ^ 32=4294967296 by rfl] at h
theorem sh_lt{x r:Nat}(hr:r<=32)(a:x<4294967296):x*2 ^ r<18446744073709551616:=by have h:=Qsq hr;have:x*2 ^ r<=4294967295*4294967296:=vn om h;omega
theorem Jgn(P c V A R x lo hi:Nat)(e:4294967296*hi+lo=x*R)(h:V+P*c=A*R):V+P*(c+lo)+P*4294967296*hi=(A+P*x)*R:=by grind
theorem Qu8{n k:Nat}{a:List Nat}(G:big<=n)(K:a.length<8796093022208)(I:Wd a)(hk:k<=4096):Qhj n a (k:Int)=some (toL (val a*2 ^ k)):=by
 unfold Qhj;rw[show min (max (k:Int) 0) 4096=(k:Int) by omega];rw[show Int.tdiv (k:Int) 32=((k / 32:Nat):Int) by rfl,show Int.tmod (k:Int) 32=((k%32:Nat):Int) by rfl];have H:2 ^ k=bp (k / 32)*2 ^ (k%32):=by rw[Qu7,<-gk,vz]
 have J:k / 32<=128:=om
 have hr:k%32<=31:=om
 rw[H];generalize k / 32=w at *;generalize k%32=r at *;rw[w64 (x:=(w:Int)) om om,sbind,w64 (x:=(w:Int)+(a.length:Int)) om om,w64 om om,show(w:Int)+(a.length:Int)+1=((w+a.length+1:Nat):Int) by omega,Qmw om om,sbind];refine Qa5 (λj (s:List Nat)=>∃ e c,s=(List.replicate w 0++e)++c::List.replicate (a.length - j) 0/\e.length=j/\j<=a.length/\Wd e/\c<2 ^ r/\val e+bp j*c=val (a.take j)*2 ^ r) ⟨[],0,by rw[yv,<-vi,List.replicate_append_replicate];congr 1,rfl,xl _,Xp,va r,by simp[val]⟩ ?_ ?_;rintro j x s v ⟨e,c,p,m,F,q,u,t⟩;subst p;have g:j<a.length:=Qip v;have A:a[j]=x:=by simpa [g] using v
 have i:x<4294967296:=by rw[<-A];exact Qbu I g
 have f:(List.replicate w 0++e).length=w+j:=oh
 have g1:=sh_lt (r:=r) om i;have E:=hi_lt (r:=r) i;have g3:=Qsq (r:=r) om;have g4:=or_lo (x:=x) (show r<=32 by omega) u;rw[grd_t oc,sbind,ue,yi om,yx g1,sbind,w64 (x:=(w:Int)+(j:Int)) om om,sbind,show(w:Int)+(j:Int)=((w+j:Nat):Int) by omega];rw[Wl f,sbind,sbind,sbind,Y4 f,g4,show(2:Nat) ^ 32=4294967296 by rfl,yx (show x*2 ^ r / 4294967296<4294967296 by omega)];obtain⟨d,hd⟩:∃ d,a.length - j=d+1:=⟨a.length - j - 1,om⟩
 rw[w64 om om,show((w+j:Nat):Int)+1=((w+j+1:Nat):Int) by omega,hd,vi];rw[show ∀(y:Nat) (l:List Nat),List.replicate w 0++e++y::l=(List.replicate w 0++(e++[y]))++l by intro y l;simp];have hlen2:(List.replicate w 0++(e++[c+x*2 ^ r%4294967296])).length=w+j+1:=oh
 rw[Wl hlen2,sbind,Y4 hlen2,sbind];refine⟨_,rfl,e++[c+x*2 ^ r%4294967296],x*2 ^ r / 4294967296,by rw[show a.length - (j+1)=d by omega],by simp[m],om,Kw.2 ⟨q,K8.2 ⟨?_,Xp⟩⟩,E,?_⟩;rw[lo_eq om];have B:x%2 ^ (32 - r)+1<=2 ^ (32 - r):=uh _ (va _);have C:=yh (2 ^ r) B;rw[<-gk,show 32 - r+r=32 by omega,show(2:Nat) ^ 32=4294967296 by rfl,Nat.add_mul,Nat.one_mul] at C;omega;rw[Zu,Wf,m,V9,show a.getD j 0=x by rw[<-A];simp[g]];exact Jgn _ _ _ _ _ _ _ _ (vz (x*2 ^ r) 4294967296) t;rintro s ⟨e,c,p,m,F,q,u,t⟩;subst p;simp only[K7];have g3:=Qsq (r:=r) om;rw[Vp G oh,sbind,<-Kq (Kw.2 ⟨Kw.2 ⟨Qu5 om,q⟩,K8.2 ⟨om,Qu5 om⟩⟩)];rw[xx,Yd,Qou,wh,xr,Yd];simp only[val];rw[Qou,m,vq,xp,t,xb (ou _),Nat.mul_left_comm]
theorem Qu9{a:List Nat}(e:Wd a)(k:Nat):val a / bp k=val (a.drop k):=by
 rcases xh k a.length with h | h
 . have f:val a=val (a.take k)+bp k*val (a.drop k):=by
    conv=>lhs;rw[<-uw k a]
    rw[Yd,yp,yi om]
   have d:=Ye (Qrj (k:=k) e);rw[yp,yi om] at d;rw[f,Nat.add_mul_div_left _ _ (Jck k),gm d,xr]
 . rw[yd h]
   exact gm (xj (Ye e) (bp_le h))
theorem Jcr{a:List Nat}{k:Nat}(h:k<a.length):val (a.drop k)=a[k]+4294967296*(a.getD (k+1) 0+4294967296*val (a.drop (k+2))):=by rw[xi h];simp only[val];by_cases d:k+1<a.length;rw[xi d];simp[val,d];rw[yd om,yd om];simp[xe (show a.length<=k+1 by omega),val]
theorem Jev{v z r:Nat}(hr:r<=32):((v+4294967296*4294967296*z) / 2 ^ r)%4294967296=(v / 2 ^ r)%4294967296:=by
 rw[show 4294967296*4294967296*z=2 ^ r*(4294967296*(2 ^ (32 - r)*z)) by
  have:2 ^ r*2 ^ (32 - r)=4294967296:=by rw[<-gk,show r+(32 - r)=32 by omega]
  calc 4294967296*4294967296*z=(2 ^ r*2 ^ (32 - r))*4294967296*z:=by rw[this]
   _=_:=by grind]
 rw[Nat.add_mul_div_left _ _ (va r),Nat.add_mul_mod_self_left]
theorem Jew{k:Nat}{b:List Nat}{x:Nat}{β:Type}(f:Nat->Option β)(a:Wd b)(d:x<4294967296):(if ((k:Nat):Int)<(b.length:Int) then (getI b (k:Int)).bind (λy=>f (x ||| (y*2 ^ 32)%18446744073709551616)) else f x)=f (x+4294967296*b.getD k 0):=by by_cases h:k<b.length;rw[oj om,Qav h,sbind];have e:=Qbu a h;rw[show(2:Nat) ^ 32=4294967296 by rfl,yx om,Nat.or_comm,Q0x d,vm,Nat.add_comm];simp[h];rw[oi om];simp[xe (show b.length<=k by omega)]
theorem Jex(X P:Nat):X%P+P*(X / P%4294967296)=X%(P*4294967296):=by rw[Nat.mod_mul]
theorem Q00{n k:Nat}{a:List Nat}(y:big<=n)(C:a.length<8796093022208)(i:Wd a)(hk:k<=4611686018427387904):Qjb n a (k:Int)=some (toL (val a / 2 ^ k)):=by
 unfold Qjb;rw[show max (k:Int) 0=(k:Int) by omega];rw[show Int.tdiv (k:Int) 32=((k / 32:Nat):Int) by rfl,show Int.tmod (k:Int) 32=((k%32:Nat):Int) by rfl];have A:2 ^ k=bp (k / 32)*2 ^ (k%32):=by rw[Qu7,<-gk,vz]
 have hr:k%32<=31:=om
 have B:k / 32<=4611686018427387904:=om
 rw[A];generalize k / 32=w at *;generalize k%32=r at *;rw[<-wb,Qu9 i];rw[w64 (x:=(w:Int)) om om,sbind,bifd];by_cases q:a.length<=w;rw[oj om,yd q];simp[val,V6];rw[oi om,w64 (x:=(a.length:Int) - (w:Int)) om om,sbind,show(a.length:Int) - (w:Int)=((a.length - w:Nat):Int) by omega,Qmw om om,sbind];refine Qa5 (λj (s:List Nat)=>∃ e,s=e++List.replicate (a.length - w - j) 0/\e.length=j/\Wd e/\val e=(val (a.drop w) / 2 ^ r)%bp j) ⟨[],oc,rfl,Xp,by simp[val,Y9,Nat.mod_one]⟩ ?_ ?_;rintro j x s t ⟨e,m,g,p,l⟩;subst m;have u:j<a.length - w:=by have:=Qip t;simpa using this
 have f:w+j<a.length:=om
 simp only[jn_eq,bifd];rw[w64 (x:=(w:Int)+(j:Int)) om om,show(w:Int)+(j:Int)=((w+j:Nat):Int) by omega,sbind,Qav f,sbind,sbind,w64 (x:=((w+j:Nat):Int)+1) om om,show((w+j:Nat):Int)+1=((w+j+1:Nat):Int) by omega];simp only[sbind];rw[w64 (x:=((w+j:Nat):Int)+1) om om,show((w+j:Nat):Int)+1=((w+j+1:Nat):Int) by omega];rw[Jew (β:=Lp (List Nat) (List Nat)) (λ(v:Nat)=>(grd (decide (0<=(r:Int)))).bind λ_=>(getI (e++List.replicate (a.length - w - j) 0) (j:Int)).bind λ_=>some (Lp.go (List.set (e++List.replicate (a.length - w - j) 0) (Int.toNat (j:Int)) (v / 2 ^ (min (Int.toNat (r:Int)) 64)%4294967296)))) i (Qbu i f)];rw[grd_t oc,sbind,ue (n:=r),yi om];obtain⟨d,hd⟩:∃ d,a.length - w - j=d+1:=⟨a.length - w - j - 1,om⟩
 rw[hd,vi,Wl g,sbind,Y4 g];refine⟨_,rfl,e++[(a[w+j]+4294967296*a.getD (w+j+1) 0) / 2 ^ r%4294967296],by rw[show a.length - w - (j+1)=d by omega];simp,by simp[g],Kw.2 ⟨p,K8.2 ⟨om,Xp⟩⟩,?_⟩;rw[Wf,g,V9,<-Jex,l,wb (val (a.drop w)),vm (2 ^ r) (bp j),<-wb (val (a.drop w)),Qu9 (Qnt i),vt,Jcr f,vg,<-wt,<-Nat.mul_assoc,Jev om];rintro s ⟨e,m,g,p,l⟩;subst m;simp only[K7];rw[wh] at g l;rw[wh,gt,List.replicate_zero,yv,Vp y om,sbind,<-Kq p,l,yx];have:=Ye (Qnt (k:=w) i);rw[ua] at this;exact yo (wd _ _) this
theorem Q9j{q r x0 a x2 d x4:Nat}(e:q*d+r=x0*4294967296+a)(f:q*x4<=r*4294967296+x2):q*(d*4294967296+x4)<=(x0*4294967296+a)*4294967296+x2:=by rw[<-e];grind
theorem Jgo{q r x0 a x2 d x4:Nat}(e:(q+1)*d+r=x0*4294967296+a)(f:r*4294967296+x2<(q+1)*x4):(x0*4294967296+a)*4294967296+x2<(q+1)*(d*4294967296+x4):=by rw[<-e];grind
theorem Jgp{q r a:Nat}{U:Nat}(d:(q+1)*a+r=U):q*a+(r+a)=U:=by rw[<-d];grind
theorem Q9k{q r x0 a x2 d x4:Nat}(e:q*d+r=x0*4294967296+a)(hr:4294967296<=r)(i:q<4294967296)(g:x4<4294967296):q*(d*4294967296+x4)<=(x0*4294967296+a)*4294967296+x2:=by have f:q*x4<=4294967295*4294967295:=vn om om;exact Q9j e om
theorem Jjr{X u w x2:Nat}(h:X<u)(a:x2<4294967296):X*4294967296+x2<u*4294967296+w:=om
theorem Jjs{q x0 d x2 a x4:Nat}(h:x0*4294967296+d<(q+1)*a)(f:x2<4294967296):(x0*4294967296+d)*4294967296+x2<(q+1)*(a*4294967296+x4):=by
 have e:(q+1)*(a*4294967296+x4)=((q+1)*a)*4294967296+(q+1)*x4:=by rw[vg,Nat.mul_assoc]
 rw[e];exact Jjr h f
theorem Qyz{n l p x0 f x2 e x4:Nat}(E:big<=n)(H:x2<4294967296)(B:e<4294967296)(x:x4<4294967296)(F:l<4294967296)(hr:p<4294967296)
 (C:l*e+p=x0*4294967296+f) (y:l+1=4294967296\/(x0*4294967296+f)*4294967296+x2<(l+1)*(e*4294967296+x4)) :
 ∃ q,(loopM (λ(d:Nat×Nat)=>
   (Qby d.1 x4 0 0).bind λi=>
   jn (λ(g:(Bool)->Option _)=>
    bif decide (i.1<d.2) then (
     g true)
    else (
     bif decide (i.1=d.2) then (
      g (decide (i.2<=x2)))
     else (
      g false))) (λ(u:Bool)=>
    bif u then (
     some (Lp.out d.1))
    else (
     (Yp d.2 e 0).bind λa=>
     bif decide (0<a.2) then (
      some (Lp.out ((d.1+4294967296 - 1)%4294967296)))
     else (
      some (Lp.go (((d.1+4294967296 - 1)%4294967296),a.1)))))) n (l,p)).bind (λ(v:Nat)=>some v)=some q /\
   (q<4294967296/\q*(e*4294967296+x4)<=(x0*4294967296+f)*4294967296+x2/\(q+1=4294967296\/(x0*4294967296+f)*4294967296+x2<(q+1)*(e*4294967296+x4))):=by
 unfold big at E
 refine Qlk (λs=>s.1) (λs=>s.1<4294967296/\s.2<4294967296/\s.1*e+s.2=x0*4294967296+f/\(s.1+1=4294967296\/(x0*4294967296+f)*4294967296+x2<(s.1+1)*(e*4294967296+x4)))
  (λq=>q<4294967296/\q*(e*4294967296+x4)<=(x0*4294967296+f)*4294967296+x2/\(q+1=4294967296\/(x0*4294967296+f)*4294967296+x2<(q+1)*(e*4294967296+x4))) ⟨F,hr,C,y⟩ (by simp only[];omega) ?_ (λt G=>⟨t,rfl,G⟩)
 rintro⟨q,r⟩ ⟨g1,w,g3,g4⟩;simp only at g1 w g3 g4;simp only[jn_eq,bifd];rw[Qna g1 x om om,sbind];simp only[xp]
 have key:(bif decide (q*x4<=r*4294967296+x2) then some (Lp.out q) else
  (Yp r e 0).bind λa=>if 0<a.2 then some (Lp.out ((q+4294967296 - 1)%4294967296)) else some (Lp.go ((q+4294967296 - 1)%4294967296,a.1)):Option (Lp (Nat×Nat) Nat)) =
  (if q*x4 / 4294967296<r then bif true then some (Lp.out q) else
   (Yp r e 0).bind λa=>if 0<a.2 then some (Lp.out ((q+4294967296 - 1)%4294967296)) else some (Lp.go ((q+4294967296 - 1)%4294967296,a.1))
   else if q*x4 / 4294967296=r then if q*x4%4294967296<=x2 then some (Lp.out q) else
    (Yp r e 0).bind λa=>if 0<a.2 then some (Lp.out ((q+4294967296 - 1)%4294967296)) else some (Lp.go ((q+4294967296 - 1)%4294967296,a.1))
   else bif false then some (Lp.out q) else
    (Yp r e 0).bind λa=>if 0<a.2 then some (Lp.out ((q+4294967296 - 1)%4294967296)) else some (Lp.go ((q+4294967296 - 1)%4294967296,a.1))):=by
  have hd:=vz (q*x4) 4294967296;have y:=uh (q*x4) (show 4294967296 > 0 by decide);by_cases c1:q*x4 / 4294967296<r;rw[oj c1,oq om];rw[oi c1];by_cases c2:q*x4 / 4294967296=r;rw[oj c2,<-bifd];congr 1;exact decide_eq_decide.2 om;rw[oi c2,ol om]
 rw[<-key,bifd];by_cases hs:q*x4<=r*4294967296+x2;right;rw[oj hs];exact⟨q,rfl,g1,Q9j g3 hs,g4⟩;rw[oi hs,Qjy w B om,sbind]
 obtain⟨q',rfl⟩:∃ q',q=q'+1:=⟨q - 1,by
  have:q≠0:=by rintro rfl;simp at hs
  omega⟩
 have m:(q'+1+4294967296 - 1)%4294967296=q':=om
 have k:=Jgo (x2:=x2) (x4:=x4) g3 om;have j:=Jgp g3;simp only[xp];rw[m];by_cases A:0<(r+e) / 4294967296;right;rw[oj A];exact⟨q',rfl,om,Q9k j om om x,.inr k⟩;left;rw[oi A];refine⟨_,rfl,⟨by simp only[];omega,by simp only[];omega,?_,.inr k⟩,by simp only[];omega⟩;simp only[];rw[yx om];exact j
theorem Qy0{n x0 d x2 a x4:Nat}(l:big<=n)(h0:x0<=a)(j:d<4294967296)(f:x2<4294967296)(e:a<4294967296)(g:x4<4294967296)(r:a≠0):
 ∃ q,Qes n x0 d x2 a x4=some q/\(q<4294967296/\q*(a*4294967296+x4)<=(x0*4294967296+d)*4294967296+x2/\(q+1=4294967296\/(x0*4294967296+d)*4294967296+x2<(q+1)*(a*4294967296+x4))):=by
 unfold Qes;by_cases i:x0<a;rw[Qtp i j e,sbind]
 have p:(x0*4294967296+d) / a<4294967296:=gi (by
  have:x0*4294967296+4294967296<=a*4294967296:=om
  omega)
 have hr:(x0*4294967296+d)%a<a:=uh _ om;exact Qyz l f e g p (Nat.lt_trans hr e) (by rw[vm];exact vz _ _) (.inr (Jjs ((gz om).1 (Nat.lt_succ_self _)) f));obtain rfl:x0=a:=om
 rw[show Qdo x0 d x0=some (0,0,false) by unfold Qdo;rw[bifd,oj om],sbind];rw[jn_eq];simp only[xo,bifT];rw[Qjy j e om,sbind,jn_eq,bifd,oi om];simp only[xp];rw[bifd];have k:4294967295*x0+(d+x0)=x0*4294967296+d:=om
 by_cases m:0<(d+x0) / 4294967296;rw[oj m];exact⟨_,rfl,om,Q9k k om om g,.inl rfl⟩;rw[oi m,yx om];exact Qyz l f e g om om k (.inl rfl)
theorem Q2h(P M c b d lo hi a q y u V W:Nat)(e:4294967296*hi+lo=q*y+c)(f:d+lo+b=u+4294967296*a)(h:W+q*V=M+P*(c+b)):W+P*d+q*(V+P*y)=M+P*u+P*4294967296*(hi+a):=by
 have g:P*d+P*lo+P*b=P*u+P*4294967296*a:=by rw[<-vg,<-vg,f];grind
 have i:P*4294967296*hi+P*lo=P*(q*y)+P*c:=by rw[<-vg,<-e];grind
 grind
theorem Q01{p m q' v:List Nat}{z q:Nat}(L:m.length=v.length)(N:p.length+m.length+1+q'.length<=4611686018427387904)(F:Wd m)(G:Wd v)(M:z<4294967296)(J:q<4294967296):
 ∃ r b,Qce (p++m++z::q') (p.length:Int) v q=some (decide (0<b),p++r++q')/\r.length=v.length+1/\Wd r/\b<=1/\val r+q*val v=val (m++[z])+bp (v.length+1)*b:=by
 have key:∃ R,Qce (p++m++z::q') (p.length:Int) v q=some R/\∃ r b,R=(decide (0<b),p++r++q')/\r.length=v.length+1/\Wd r/\b<=1/\val r+q*val v=val (m++[z])+bp (v.length+1)*b:=by
  unfold Qce;refine Qqx (λj (s:List Nat×Nat×Nat)=>∃ e,s.1=p++e++(m.drop j++z::q')/\e.length=j/\j<=v.length/\Wd e/\s.2.1<4294967296/\s.2.2<=1/\val e+q*val (v.take j)=val (m.take j)+bp j*(s.2.1+s.2.2)) ⟨[],oc,rfl,xl _,Xp,oc,oc,by simp[val]⟩ ?_ ?_;rintro j y ⟨o,c,b⟩ H ⟨e,f,g,B,C,l,t,n⟩;simp only at f l t n;subst f;have i:j<v.length:=Qip H;have K:v[j]=y:=by simpa [i] using H
  have u:y<4294967296:=by rw[<-K];exact Qbu G i
  have k:j<m.length:=om
  have E:=Qbu F k;have a:(p++e).length=p.length+j:=oh
  have I:=Qxb J u l (show 0<4294967296 by omega);obtain⟨d,w,g1,A,g3,g4⟩:=Qnb (x:=m[j]) (y:=(q*y+c+0)%4294967296) (c:=b) E om t;rw[Qna J u l om,sbind,w64 om om,show((p.length:Int)+(j:Int))=((p.length+j:Nat):Int) by omega,xi k,xd];simp only[];rw[Wl a,sbind,g1,sbind,sbind,Y4 a];refine⟨_,rfl,e++[d],oc,by simp[g],om,Kw.2 ⟨C,K8.2 ⟨A,Xp⟩⟩,by simp only[];omega,g3,?_⟩;simp only[];rw[Zu,J1 k,Wf,Wf,g,V9,show v.getD j 0=y by rw[<-K];simp[i],yp,yi om];exact Q2h _ _ _ _ _ _ _ _ _ _ _ _ _ (vz (q*y+c) 4294967296) g4 n;rintro⟨o,c,b⟩ ⟨e,f,g,B,C,l,t,n⟩;simp only at f l t n;subst f;simp only[K7];have a:(p++e).length=p.length+v.length:=oh
  obtain⟨d,w,g1,A,g3,g4⟩:=Qnb (x:=z) (y:=c) (c:=b) M l t;rw[w64 om om,show((p.length:Int)+(v.length:Int))=((p.length+v.length:Nat):Int) by omega,yd om,xf,Wl a,sbind,g1,sbind,sbind,Y4 a];refine⟨_,rfl,e++[d],w,oc,by simp[g],Kw.2 ⟨C,K8.2 ⟨A,Xp⟩⟩,g3,?_⟩;rw[xb (ou _),xb om] at n;rw[Wf,Wf,g,L,V9];have:=Q2h (bp v.length) (val m) c b d c 0 w q 0 z (val v) (val e) om g4 n
  simpa using this
 obtain⟨R,f,r,b,g,B⟩:=key;exact⟨r,b,by rw[f,g],B⟩
theorem Q2i(P M c d a y u V W:Nat)(e:4294967296*a+d=u+y+c)(h:W+P*c=M+V):W+P*d+P*4294967296*a=M+P*u+(V+P*y):=by grind
theorem Q02{p m q' v:List Nat}{z:Nat}(C:m.length=v.length)(E:p.length+m.length+1+q'.length<=4611686018427387904)(u:Wd m)(w:Wd v)(F:z<4294967296):
 ∃ r b,Qd4 (p++m++z::q') (p.length:Int) v=some (p++r++q')/\r.length=v.length+1/\Wd r/\b<=1/\val r+bp (v.length+1)*b=val (m++[z])+val v:=by
 have key:∃ R,Qd4 (p++m++z::q') (p.length:Int) v=some R/\∃ r b,R=p++r++q'/\r.length=v.length+1/\Wd r/\b<=1/\val r+bp (v.length+1)*b=val (m++[z])+val v:=by
  unfold Qd4;refine Qqx (λj (s:List Nat×Nat)=>∃ d,s.1=p++d++(m.drop j++z::q')/\d.length=j/\j<=v.length/\Wd d/\s.2<=1/\val d+bp j*s.2=val (m.take j)+val (v.take j)) ⟨[],oc,rfl,xl _,Xp,oc,by simp[val]⟩ ?_ ?_;rintro j y ⟨o,c⟩ A ⟨d,e,f,l,n,q,k⟩;simp only at e q k;subst e;have g:j<v.length:=Qip A;have B:v[j]=y:=by simpa [g] using A
  have x:y<4294967296:=by rw[<-B];exact Qbu w g
  have i:j<m.length:=om
  have t:=Qbu u i;have a:(p++d).length=p.length+j:=oh
  rw[w64 om om,show((p.length:Int)+(j:Int))=((p.length+j:Nat):Int) by omega,xi i,xd];rw[Wl a,sbind,Qjy t x (by simp only[];omega),sbind,sbind,Y4 a];refine⟨_,rfl,d++[(m[j]+y+c)%4294967296],oc,by simp[f],om,Kw.2 ⟨n,K8.2 ⟨om,Xp⟩⟩,by simp only[];omega,?_⟩;simp only[];rw[Zu,Zu,Wf,f,V9,show v.getD j 0=y by rw[<-B];simp[g],show m.getD j 0=m[j] by simp[i]];exact Q2i _ _ _ _ _ _ _ _ _ (vz (m[j]+y+c) 4294967296) k;rintro⟨o,c⟩ ⟨d,e,f,l,n,q,k⟩;simp only at e q k;subst e;simp only[K7];have a:(p++d).length=p.length+v.length:=oh
  rw[w64 om om,show((p.length:Int)+(v.length:Int))=((p.length+v.length:Nat):Int) by omega,yd om,xf,Wl a,sbind,sbind,Y4 a,sbind];refine⟨_,rfl,d++[(z+c)%4294967296],(z+c) / 4294967296,oc,by simp[f],Kw.2 ⟨n,K8.2 ⟨om,Xp⟩⟩,om,?_⟩;rw[xb (ou _),xb om] at k;rw[Wf,Wf,f,C,V9];have:=Q2i (bp v.length) (val m) c ((z+c)%4294967296) ((z+c) / 4294967296) 0 z (val v) (val d) om k
  simpa using this
 obtain⟨R,e,r,b,f,l⟩:=key;exact⟨r,b,by rw[e,f],l⟩
theorem kn_a{P vl a g d q e:Nat}(m:g<P)(p:q<4294967296)(n:q*(vl+P*a)<=g+P*d)(f:e+1=4294967296\/d<(e+1)*a):q<=e:=by
 rcases f with f | f;omega;have k:P*(q*a)<=q*(vl+P*a):=by rw[vg,Nat.mul_left_comm];exact Nat.le_add_left _ _
 have i:P*(q*a)<P*(d+1):=by rw[vg,Nat.mul_one];omega
 have l:q*a<d+1:=Nat.lt_of_mul_lt_mul_left i;have j:q*a<(e+1)*a:=om
 exact Nat.le_of_lt_succ (Nat.lt_of_mul_lt_mul_right j)
theorem kn_b{P vl a j e d:Nat}(l:vl<P)(n:d<4294967296)(m:4294967296<=a)(i:d*a<=e):d*(vl+P*a)<=(j+P*e)+(vl+P*a):=by
 have f:d*(vl+P*a)=d*vl+P*(d*a):=by rw[vg,Nat.mul_left_comm]
 have k:P*(d*a)<=P*e:=vj _ i;have g:d*vl<=a*P:=vn om om;rw[f];rw[vm a P] at g;omega
theorem kn_z{P vl v3 v4 e z a x2:Nat}(j:vl<P)(k:v4<4294967296)(l:e+P*((z*4294967296+a)*4294967296+x2)<4294967296*(vl+P*(v3*4294967296+v4))):z<=v3:=by
 have f:P*(z*4294967296*4294967296)<=P*((z*4294967296+a)*4294967296+x2):=vj _ om;have g:vl+P*(v3*4294967296+v4)<P*((v3+1)*4294967296):=by have:P*(v3*4294967296+v4+1)<=P*((v3+1)*4294967296):=vj _ om;rw[vg _ _ 1,Nat.mul_one] at this;omega
 have d:P*(z*4294967296*4294967296)<P*((v3+1)*4294967296*4294967296):=by have a1:P*((v3+1)*4294967296*4294967296)=P*((v3+1)*4294967296)*4294967296:=(Nat.mul_assoc _ _ _).symm;omega
 have i:=Nat.lt_of_mul_lt_mul_left d;omega
theorem dm_of{U V q r:Nat}(h:r+q*V=U)(hr:r<V):U / V=q/\U%V=r:=by subst h;rw[Nat.add_mul_div_right _ _ om,gm hr,Nat.add_mul_mod_self_right,yx hr];omega
theorem last2{l:List Nat}{m:Nat}(h:l.length=m+2):∃ l' a b,l=l'++[a,b]/\l'.length=m:=by refine⟨l.take m,l[m],l[m+1],?_,oh⟩;have e:=J1 (a:=l) (k:=m) om;have d:=J1 (a:=l) (k:=m+1) om;rw[xb om] at d;refine d.trans ?_;rw[e,xx];rfl
theorem Jey(p y w a V U j:Nat)(q r:Nat)(d:U=y+4294967296*w)(h:r+q*V=U):(p+j*y)+j*4294967296*(w+V*a)=p+j*(r+V*(q+4294967296*a)):=by grind
theorem Ja2{n:Nat}{p w rest v:List Nat}{z:Nat}(hn:big<=n){vl t:List Nat}{v3 v4 u x2:Nat}(H:v=vl++[v4,v3])(I:w=t++[x2,u])(F:t.length=vl.length)
 (a:Wd v) (e:Wd w) (hz:z<4294967296) (h3:v3≠0) (hp:p.length+w.length+1+rest.length<=4611686018427387904) (l:val (w++[z])<4294967296*val v) :
 ∃ r d,Qes n z u x2 v3 v4=some d/\r.length=v.length+1/\Wd r/\val r=val (w++[z])%val v/\val (w++[z]) / val v<4294967296 /\
   ((Qce (p++w++z::rest) (p.length:Int) v d=some (false,p++r++rest)/\d=val (w++[z]) / val v) \/
    (∃ T,Qce (p++w++z::rest) (p.length:Int) v d=some (true,T)/\Qd4 T (p.length:Int) v=some (p++r++rest)/\(d+4294967296 - 1)%4294967296=val (w++[z]) / val v)):=by
 have J:w.length=v.length:=by rw[H,I];simp[F]
 have w1:Wd vl/\v4<4294967296/\v3<4294967296:=by rw[H] at a;exact⟨(Kw.1 a).1,(K8.1 (Kw.1 a).2).1,(K8.1 (K8.1 (Kw.1 a).2).2).1⟩
 have M:Wd t/\x2<4294967296/\u<4294967296:=by rw[I] at e;exact⟨(Kw.1 e).1,(K8.1 (Kw.1 e).2).1,(K8.1 (K8.1 (Kw.1 e).2).2).1⟩
 obtain⟨w1,Z,w4⟩:=w1;obtain⟨M,w5,w6⟩:=M;have B:val v=val vl+bp vl.length*(v3*4294967296+v4):=by rw[H,Yd];simp only[val];congr 2;omega
 have C:val (w++[z])=val t+bp vl.length*((z*4294967296+u)*4294967296+x2):=by rw[I,xx,Yd,F];simp only[xd,xf,val];congr 2;omega
 have Q:=Ye w1;have R:=Ye M;rw[F] at R;have K:z<=v3:=by rw[B,C] at l;exact kn_z Q Z l
 obtain⟨d,g1,P,g3,g4⟩:=Qy0 hn K w6 w5 w4 Z h3;have j:0<val v:=by rcases Nat.eq_zero_or_pos (val v) with h | h;rw[h] at l;omega;exact h
 have i:val (w++[z]) / val v<4294967296:=(gz j).2 l;have hqa:val (w++[z]) / val v<=d:=by have:=Nat.div_mul_le_self (val (w++[z])) (val v);exact kn_a (vl:=val vl) R i (by rw[<-B,<-C];exact this) g4
 have hqb:d*val v<=val (w++[z])+val v:=by rw[B,C];exact kn_b Q P om g3
 have A:val (w++[z])<(d+1)*val v:=xj ((gz j).1 (Nat.lt_succ_self _)) (yh _ om);obtain⟨r,b,W,t2,t3,t4,t5⟩:=Q01 (p:=p) (m:=w) (q':=rest) (v:=v) (z:=z) (q:=d) J hp e a hz P;rw[Nat.add_mul,Nat.one_mul] at A;have hvb:=Ye a;have hbb:bp v.length<=bp (v.length+1):=bp_le om;by_cases hb:b=0;subst hb;rw[vq,xp] at t5;obtain⟨x,y⟩:=dm_of t5 om;exact⟨r,d,g1,t2,t3,y.symm,i,.inl ⟨W,x.symm⟩⟩;obtain rfl:b=1:=om
 rw[Nat.mul_one] at t5;have hr:=Ye t3;rw[t2] at hr;obtain⟨f,g,k⟩:∃ f g,r=f++[g]:=by rcases List.eq_nil_or_concat r with h | ⟨f,g,h⟩;rw[h] at t2;simp at t2;exact⟨f,g,by rw[h,List.concat_eq_append]⟩
 have e2:f.length=v.length:=by rw[k] at t2;simpa using t2
 have O:Wd f/\g<4294967296:=by rw[k] at t3;exact⟨(Kw.1 t3).1,(K8.1 (Kw.1 t3).2).1⟩
 obtain⟨S,N,u1,X,Y,u4,L⟩:=Q02 (p:=p) (m:=f) (q':=rest) (v:=v) (z:=g) e2 om O.1 a O.2;have G:=Ye Y;rw[X] at G;rw[<-k] at L
 obtain⟨s,rfl⟩:∃ s,d=s+1:=⟨d - 1,by
  have:d≠0:=by rintro rfl;omega
  omega⟩
 rw[Nat.add_mul,Nat.one_mul] at *;have E:N=1:=by rcases Nat.eq_zero_or_pos N with h | h;subst h;rw[vq] at L;omega;omega
 subst E;rw[Nat.mul_one] at L;obtain⟨x,y⟩:=dm_of (U:=val (w++[z])) (V:=val v) (q:=s) (r:=val S) om om;refine⟨S,s+1,g1,X,Y,y.symm,i,.inr ⟨p++r++rest,W,?_,by rw[x];omega⟩⟩;rw[k,show p++(f++[g])++rest=p++f++g::rest by simp];exact u1
theorem Q03{n:Nat}{u v vl:List Nat}{v3 v4:Nat}(Y:big<=n)(E:v=vl++[v4,v3])(h3:v3≠0)(g:Wd u)(q:Wd v)(hu:u.length<35184372088832)(hl:v.length<=u.length)(N:val (u.drop (u.length - v.length))<val v):
 ∃ r,Qja n u v=some r/\(r.1.length=u.length - v.length/\Wd r.1/\r.2.length=u.length/\Wd r.2/\val u=val v*val r.1+val r.2/\val r.2<val v):=by
 unfold Qja;have L:=Y;unfold big at L;have hvl:v.length=vl.length+2:=by rw[E];simp
 rw[w64 (x:=(u.length:Int) - (v.length:Int)) om om,show(u.length:Int) - (v.length:Int)=((u.length - v.length:Nat):Int) by omega,Qmw om om,sbind]
 refine Qlk (λs=>(s.2.2+1).toNat) (λs=>∃(k:Nat) (p w e:List Nat),s.2.2=(k:Int) - 1/\k<=u.length - v.length/\s.1=p++w/\p.length=k/\w.length=u.length - k/\Wd p/\Wd w/\val w<val v/\s.2.1=List.replicate k 0++e/\e.length=u.length - v.length - k/\Wd e/\val u=val p+bp k*(val w+val v*val e))
  (λt=>t.2.length=u.length - v.length/\Wd t.2/\t.1.length=u.length/\Wd t.1/\val u=val v*val t.2+val t.1/\val t.1<val v) ⟨u.length - v.length,u.take (u.length - v.length),u.drop (u.length - v.length),[],?_,ou _,by simp only[uw],oc,oc,Qrj g,Qnt g,N,by simp only[yv],oc,Xp,?_⟩ ?_ ?_ (λt N=>⟨_,rfl,N⟩)
 . simp only[];rw[wh,w64 om om]
 . simp only[val,vq,xp]
   conv=>lhs;rw[<-uw (u.length - v.length) u]
   rw[Yd,yp,yi om]
 . simp only[];rw[wh,w64 om om];omega
 . rintro⟨uu,qq,i⟩ ⟨k,p,w,e,Z,i2,i3,i4,i5,i6,O,i8,i9,i10,A,B⟩
   simp only at Z i3 i9;subst Z i3 i9;simp only[jn_eq,bifd];by_cases h0:0<k
   . left
     obtain⟨j,rfl⟩:∃ j,k=j+1:=⟨k - 1,om⟩
     obtain⟨d,y,e1⟩:∃ d y,p=d++[y]:=by
      rcases List.eq_nil_or_concat p with h | ⟨d,y,h⟩
      . rw[h] at i4;simp at i4
      . exact⟨d,y,by rw[h,List.concat_eq_append]⟩
     subst e1;have G:d.length=j:=by simpa using i4
     have S:Wd d/\y<4294967296:=⟨(Kw.1 i6).1,(K8.1 (Kw.1 i6).2).1⟩
     have H:Wd (y::w):=K8.2 ⟨S.2,O⟩;have T:v.length<(y::w).length:=oh
     have U:y::w=(y::w).take v.length++(y::w)[v.length]::(y::w).drop (v.length+1):=Jcm T;have I:val ((y::w).drop (v.length+1))=0:=by rw[uv,<-Qu9 O];exact gm (Nat.lt_trans i8 (Ye q))
     have V:val ((y::w).take v.length++[(y::w)[v.length]])=y+4294967296*val w:=by have:=ur val U;rw[show ∀(a b:List Nat) (x:Nat),a++x::b=(a++[x])++b by intro a b x;simp,Yd,I,vq,xp] at this;rw[<-this];rfl
     have w1:Wd ((y::w).take v.length):=Qrj H;have w2:(y::w)[v.length]<4294967296:=Qbu H T;have w3:Wd ((y::w).drop (v.length+1)):=Qnt H;have w4:((y::w).take v.length).length=v.length:=by rw[yp,yi om]
     have w5:((y::w).drop (v.length+1)).length=u.length - j - (v.length+1):=by rw[ua,oo];omega
     rw[show d++[y]++w=d++(y::w) by simp,U];generalize (y::w).take v.length=W at *;generalize (y::w)[v.length]=z at *;generalize (y::w).drop (v.length+1)=R at *;obtain⟨F,x2,C,J,f2⟩:=last2 (l:=W) (m:=vl.length) om;obtain⟨r,P,g1,g2,g3,g4,g5,X⟩:=Ja2 (p:=d) (w:=W) (rest:=R) (v:=v) (z:=z) Y E J f2 q w1 w2 h3 (by rw[w4,w5];omega) (by rw[V];omega);rw[oj om,show((j+1:Nat):Int) - 1=(j:Int) by omega];rw[w64 (x:=(j:Int)+(v.length:Int)) om om,show(j:Int)+(v.length:Int)=((j+vl.length+2:Nat):Int) by omega];rw[w64 (x:=((j+vl.length+2:Nat):Int) - 1) om om,w64 (x:=((j+vl.length+2:Nat):Int) - 2) om om,show((j+vl.length+2:Nat):Int) - 1=((j+vl.length+1:Nat):Int) by omega,show((j+vl.length+2:Nat):Int) - 2=((j+vl.length:Nat):Int) by omega];rw[w64 (x:=(v.length:Int) - 1) om om,w64 (x:=(v.length:Int) - 2) om om,show(v.length:Int) - 1=((vl.length+1:Nat):Int) by omega,show(v.length:Int) - 2=((vl.length:Nat):Int) by omega];have a1:getI (d++(W++z::R)) ((j+vl.length+2:Nat):Int)=some z:=by
      rw[<-xx];exact Wl (by rw[ov,w4];omega)
     have a2:getI (d++(W++z::R)) ((j+vl.length+1:Nat):Int)=some C:=by rw[J,show d++(F++[x2,C]++z::R)=(d++F++[x2])++C::(z::R) by simp];exact Wl oh
     have a3:getI (d++(W++z::R)) ((j+vl.length:Nat):Int)=some x2:=by rw[J,show d++(F++[x2,C]++z::R)=(d++F)++x2::(C::z::R) by simp];exact Wl oh
     have a4:getI v ((vl.length+1:Nat):Int)=some v3:=by rw[E,show vl++[v4,v3]=(vl++[v4])++v3::[] by simp];exact Wl oc
     have a5:getI v ((vl.length:Nat):Int)=some v4:=by rw[E];exact Wl rfl
     rw[a1,sbind,a2,sbind,a3,sbind,a4,sbind,a5,sbind,g1,sbind]
     have a6:∀(q':Nat),getI (List.replicate (j+1) 0++e) (j:Int)=some 0/\(List.replicate (j+1) 0++e).set (Int.toNat (j:Int)) q'=List.replicate j 0++q'::e:=λq'=>by rw[gg,xx,wg];exact⟨Wl oc,Y4 oc⟩
     rw[G,xx] at X;have f:∀ q',q'=val (W++[z]) / val v->∃ s',(some (Lp.go (d++r++R,List.replicate j 0++q'::e,wrap64 ((j:Int) - 1))):Option (Lp (List Nat×List Nat×Int) (List Nat×List Nat)))=some (Lp.go s')/\(∃(k:Nat) (p w e:List Nat),s'.2.2=(k:Int) - 1/\k<=u.length - v.length/\s'.1=p++w/\p.length=k/\w.length=u.length - k/\Wd p/\Wd w/\val w<val v/\s'.2.1=List.replicate k 0++e/\e.length=u.length - v.length - k/\Wd e/\val u=val p+bp k*(val w+val v*val e))/\(s'.2.2+1).toNat<((j:Int)+1).toNat:=by
      intro q' M;have K:0<val v:=om
      rw[w64 om om];refine⟨_,rfl,⟨j,d,r++R,q'::e,rfl,om,by rw[xx],G,by rw[ov,g2,w5];omega,S.1,Kw.2 ⟨g3,w3⟩,?_,rfl,by rw[oo];omega,K8.2 ⟨om,A⟩,?_⟩,by simp only[];omega⟩
      . rw[Yd,I,vq,xp,g4];exact uh _ K
      . rw[B,Wf,G,V9,Yd,I,vq,xp]
        simp only[val];refine Jey _ _ _ _ _ _ _ _ _ V ?_;rw[g4,M,vm];exact Nat.mod_add_div _ _
     rcases X with ⟨Q,t2⟩ | ⟨r1,Q,t2,t3⟩
     . rw[Q,sbind]
       simp only[bifF];rw[(a6 P).1,sbind,(a6 P).2];exact f _ t2
     . rw[Q,sbind]
       simp only[bifT];rw[t2,sbind,(a6 ((P+4294967296 - 1)%4294967296)).1,sbind,(a6 _).2];exact f _ t3
   . right
     obtain rfl:k=0:=om
     obtain rfl:p=[]:=xg i4;rw[oi om];refine⟨_,rfl,by simp only[List.replicate_zero,xf];omega,by simpa using A,by simp only[xf];omega,by simpa using O,?_,by simpa using i8⟩;rw[B,Y9];simp[val];omega
theorem Jjt{x:Nat}(d:x<4294967296):blen x<=32:=by
 rcases xh 32 (blen x) with h | h;have h0:x≠0:=by rintro rfl;rw[Qmx] at h;omega
 have g1:=Qrm h0;have a:2 ^ 32<=2 ^ (blen x - 1):=vf oy om;rw[show(2:Nat) ^ 32=4294967296 by decide] at a;omega;exact h
theorem Jv{a:List Nat}(d:Wd a):(toL (val a)).length<=a.length:=by rw[Kq d];exact W8 a
theorem Qwu{v s:Nat}(hs:s<=32):(toL (v*2 ^ s)).length<=(toL v).length+1:=by refine Xy ?_;have a:=Ye (Jp v);rw[Q5] at a;rw[V9];exact xj (Nat.mul_lt_mul_of_pos_right a (va s)) (vj _ (Qsq hs))
theorem len2{v:Nat}(h:4294967296<=v):∃ vl v4 v3,toL v=vl++[v4,v3]/\v3≠0:=by
 have h0:toL v≠[]:=by rw[Qag om];simp
 obtain⟨p,x,a,d,e,f⟩:=Qxd h0;rcases List.eq_nil_or_concat p with h5 | ⟨p',y,h5⟩;exfalso;have:=Q5 v;rw[a,h5] at this;simp[val] at this;omega;exact⟨p',y,x,by rw[a,h5,List.concat_eq_append];simp,d⟩
theorem Jju{v:Nat}(h:v≠0):bp ((toL v).length - 1)<=v:=by
 have h0:toL v≠[]:=by rw[Qag h];simp
 obtain⟨p,x,a,d,e,f⟩:=Qxd h0;have:=Q5 v;rw[a,Wf] at this;rw[a,ov,vo,Nat.add_sub_cancel,<-this];have:bp p.length*1<=bp p.length*x:=vj _ om;omega
theorem Qgo{n:Nat}{a b:List Nat}(d:big<=n)(ha:a.length<4398046511104)(hb:b.length<4398046511104)(e:Wd a)(p:Wd b):
 Qb0 n a b=some (if val b=0 then ([],[],false) else (toL (val a / val b),toL (val a%val b),true)):=by
 unfold Qb0;have Z:=Jv p;have Y:=Jv e;rw[Vp d om,sbind,<-Kq p,bifd];by_cases h0:val b=0;rw[h0,V6,oj oz,oj rfl];have F:toL (val b)≠[]:=by rw[Qag h0];simp
 have X:(toL (val b)).length≠0:=λh=>F (xg h);rw[oi om,oi h0,Qfe d om om e (Jp _),sbind,Q5,bifd];by_cases i:val a<val b;rw[oj (by rw[cmpI,oj i];decide),Vp d om,sbind,gm i,yx i,V6,Kq e];rw[oi (by rw[cmpI,oi i];split<;>decide),bifd];by_cases S:(toL (val b)).length=1;rw[oj om];obtain⟨y,Q⟩:=List.length_eq_one_iff.1 S;have G:=Q5 (val b);have P:=Jp (val b);rw[Q] at G P;simp only[val,vq,xp] at G;have I:=(K8.1 P).1;rw[Q,show getI [y] (0:Int)=some y by rfl,sbind,Qrk d om e om I,sbind];simp only[];have:=uh (val a) (show y > 0 by omega);rw[Qa6 d om,sbind,<-G];rw[oi om];have l:4294967296<=val b:=by
  rcases xh (val b) 4294967296 with h | h;have:=Xy (n:=val b) (k:=1) (by rw[V9,Y9];omega);omega;exact h
 obtain⟨bl,J,g,t,e2⟩:=len2 l;have f:=Jp (val b);have j:g<4294967296:=by rw[t] at f;exact(K8.1 (K8.1 (Kw.1 f).2).2).1
 have T:(toL (val b)).length=bl.length+2:=by rw[t];simp
 rw[w64 (x:=((toL (val b)).length:Int) - 1) om om,show((toL (val b)).length:Int) - 1=((bl.length+1:Nat):Int) by omega];rw[show getI (toL (val b)) ((bl.length+1:Nat):Int)=some g by rw[t,show bl++[J,g]=(bl++[J])++g::[] by simp];exact Wl oc,sbind,Qts d j,sbind];have hs:=Jjt j;rw[w64 (x:=(32:Int) - (blen g:Int)) om om,show(32:Int) - (blen g:Int)=((32 - blen g:Nat):Int) by omega];have m:32 - blen g<=32:=om
 generalize 32 - blen g=s at *;have B:=va s;rw[Qu8 d om e om,sbind];have l1:=Qwu (v:=val a) m;have l2:=Qwu (v:=val b) m;rw[Jk oh oh,sbind,Qu8 d om f om,sbind,Q5];have W:val b<=val b*2 ^ s:=Nat.le_mul_of_pos_right _ B;obtain⟨vl,v4,v3,M,R⟩:=len2 (v:=val b*2 ^ s) om;have C:val b*2 ^ s<=val a*2 ^ s:=yh _ om;have hll:=Wo C;have E:=Jju (v:=val b*2 ^ s) om;have hvl:(toL (val b*2 ^ s)).length=vl.length+2:=by rw[M];simp
 have H:Wd (toL (val a*2 ^ s)++[0]):=Kw.2 ⟨Jp _,K8.2 ⟨om,Xp⟩⟩
 obtain⟨⟨q,r⟩,g1,N,g3,g4,O,w,A⟩:=Q03 (u:=toL (val a*2 ^ s)++[0]) (v:=toL (val b*2 ^ s)) d M R H (Jp _) oh oh (by
  rw[ov,vo,List.drop_append_of_le_length om,Wf,vq,xp,Q5];have:=Ye (Qnt (k:=(toL (val a*2 ^ s)).length+1 - (toL (val b*2 ^ s)).length) (Jp (val a*2 ^ s)));rw[ua] at this
  exact xj this (xn (bp_le om) E))
 simp only at N g3 g4 O w A;rw[Wf,vq,xp,Q5,Q5] at w;rw[Q5] at A;rw[ov,vo] at N g4;rw[g1,sbind];simp only[];rw[Vp d om,sbind,Q00 d om O om,sbind,<-Kq g3];obtain⟨K,L⟩:=dm_of (U:=val a*2 ^ s) (V:=val b*2 ^ s) (q:=val q) (r:=val r) (by rw[w,vm (val q)];omega) A;rw[Nat.mul_div_mul_right _ _ B] at K;rw[Nat.mul_mod_mul_right] at L;rw[<-K,<-L,Nat.mul_div_cancel _ B]
theorem Qwg{n x y:Nat}(e:big<=n)(g:y<18446744073709551616):Qet n x y=some (Nat.gcd x y):=by unfold Qet;unfold big at e;refine Qaj (λs=>s.2) (λs=>s.2<18446744073709551616/\Nat.gcd s.1 s.2=Nat.gcd x y) (λt=>t=Nat.gcd x y) ⟨g,rfl⟩ (by simp only[];omega) ?_ (λt f=>by rw[f]);rintro⟨u,v⟩ ⟨d,a⟩;simp only at d a;simp only[bifnd];by_cases h0:v=0;right;rw[oj h0];exact⟨_,rfl,by rw[<-a,h0,Nat.gcd_zero_right]⟩;left;rw[oi h0,grd_t (by simp[h0]),sbind];have:=uh u (show v > 0 by omega);exact⟨_,rfl,⟨by simp only[];omega,by rw[<-a,Nat.gcd_comm u v,Nat.gcd_rec v u,Nat.gcd_comm]⟩,this⟩
theorem Qy1{v:Nat}:Qhl (toL v)=some (decide (v=1)):=by
 unfold Qhl;simp only[jn_eq,bifd];by_cases h:(toL v).length=1;obtain⟨x,a⟩:=List.length_eq_one_iff.1 h;have:=Q5 v;rw[a] at this;simp[val] at this;rw[a,oj oc,show getI [x] (0:Int)=some x by rfl,sbind,this];rw[oi om];have:v≠1:=by rintro rfl;apply h;rw[Qag oy,show 1 / 4294967296=0 by decide,V6];rfl
 rw[ol this]
theorem Jgq{v k:Nat}(h:v<2 ^ k):blen v<=k:=by
 rcases xh k (blen v) with a | a;have h0:v≠0:=by rintro rfl;rw[Qmx] at a;omega
 have g1:=Qrm h0;have d:2 ^ k<=2 ^ (blen v - 1):=vf oy om;omega;exact a
theorem Jgr{r u:Nat}(h:2*r<u):blen r<blen u:=by
 have d:=Qvz (x:=u);by_cases h0:r=0;subst h0;rw[Qmx];exact Qxc om;have g1:=Qrm h0;have a:=Qxc h0;have g3:2 ^ blen r=2 ^ (blen r - 1)*2:=by rw[<-Nat.pow_succ,show(blen r - 1).succ=blen r by omega]
 have g4:2 ^ blen r<2 ^ blen u:=om
 exact(Nat.pow_lt_pow_iff_right oy).1 g4
theorem Qsr{v:Nat}:blen v<=32*(toL v).length:=by refine Jgq ?_;rw[<-Qu7];have:=Ye (Jp v);rwa [Q5] at this
theorem Jez{u v:Nat}(h0:v≠0):blen v+blen (u%v)+(if v<u%v then 1 else 0)<blen u+blen v+(if u<v then 1 else 0):=by
 have g:=uh u (show v > 0 by omega);rw[oi om];by_cases h:u<v;rw[oj h,yx h];omega;rw[oi h];have d:2*(u%v)<u:=by have e:=vz u v;have a:1<=u / v:=(Nat.le_div_iff_mul_le om).2 om;have f:v*1<=v*(u / v):=vj _ a;omega
 have:=Jgr d;omega
theorem Qy2{n:Nat}{a b:List Nat}(d:big<=n)(A:a.length<4398046511104)(B:b.length<4398046511104)(i:Wd a)(j:Wd b):Qhk n a b=some (toL (Nat.gcd (val a) (val b))):=by
 unfold Qhk;have p:=Jv i;have q:=Jv j;rw[Vp d om,sbind,Vp d om,sbind,<-Kq i,<-Kq j];have m:=d;unfold big at m
 refine Qaj (λs=>blen (val s.1)+blen (val s.2)+(if val s.1<val s.2 then 1 else 0)) (λs=>∃ u v,s=(toL u,toL v)/\Nat.gcd u v=Nat.gcd (val a) (val b)/\(toL u).length<4398046511104/\(toL v).length<4398046511104)
  (λt=>∃ u v,t=(toL u,toL v)/\Nat.gcd u v=Nat.gcd (val a) (val b)/\(toL u).length<4398046511104/\(toL v).length<=2) ⟨val a,val b,rfl,rfl,om,om⟩ ?_ ?_ ?_
 simp only[Q5];have y:=Qsr (v:=val a);have f:=Qsr (v:=val b);split<;>omega;rintro s ⟨u,v,rfl,f,k,l⟩;simp only[bifd,Q5];by_cases h0:2<(toL v).length;left;have g:v≠0:=by rintro rfl;rw[V6] at h0;simp at h0
 rw[oj om,Qgo d k l (Jp _) (Jp _),sbind,Q5,Q5,oi g];refine⟨_,rfl,⟨v,u%v,rfl,?_,l,?_⟩,?_⟩;rw[<-f,Nat.gcd_comm u v,Nat.gcd_rec v u,Nat.gcd_comm];exact yo (Wo (Nat.le_of_lt (uh u om))) l;simp only[Q5];exact Jez g;right;rw[oi om];exact⟨_,rfl,u,v,rfl,f,k,om⟩;rintro t ⟨u,v,rfl,f,k,l⟩;simp only[bifd];by_cases h0:v=0;subst h0;rw[V6,oj oz,<-f,Nat.gcd_zero_right];have x:(toL v).length≠0:=λh=>by rw[Qag h0] at h;simp at h
 have e:v<18446744073709551616:=by rcases xh v 18446744073709551616 with h | h;exact h;have:=Q9f h;omega
 have w:=uh u (show v > 0 by omega);have r:=Wo (Nat.le_of_lt w);rw[oi om,Qgo d k om (Jp _) (Jp _),sbind,Q5,Q5,oi h0];simp only[];rw[Qrl d om (Jp _),sbind,Qrl d om (Jp _),sbind,Q5,Q5,oj e,oj om];simp only[];rw[Qwg d om,sbind,Qa6 d (yo (Nat.gcd_le_left _ om) e),sbind,<-f,Nat.gcd_comm u v,Nat.gcd_rec v u,Nat.gcd_comm]
theorem Qva{n:Nat}{a b:List Nat}(g:big<=n)(j:a.length<4398046511104)(k:b.length<4398046511104)(e:Wd a)(f:Wd b):
 Qdp n a b=some (toL (val a / Nat.gcd (val a) (val b)),toL (val b / Nat.gcd (val a) (val b))):=by
 unfold Qdp;rw[Qy2 g j k e f,sbind,bifd];have l:Nat.gcd (val a) (val b) ∣ val a:=Nat.gcd_dvd_left _ _;have m:Nat.gcd (val a) (val b) ∣ val b:=Nat.gcd_dvd_right _ _;have p:=Jv e;have q:=Jv f;have d:Nat.gcd (val a) (val b)=0\/(toL (Nat.gcd (val a) (val b))).length<4398046511104:=by by_cases h:val a=0;rw[h,Nat.gcd_zero_left];right;omega;right;exact yo (Wo (Nat.gcd_le_left _ om)) om
 by_cases h0:Nat.gcd (val a) (val b)=0;rw[h0,V6,oj oz,Nat.div_zero,Nat.div_zero,V6];have r:(toL (Nat.gcd (val a) (val b))).length≠0:=λh=>by rw[Qag h0] at h;simp at h
 rw[oi om,Qy1,sbind,bifd];by_cases i:Nat.gcd (val a) (val b)=1;rw[oj i,Vp g om,sbind,Vp g om,sbind,i,Nat.div_one,Nat.div_one,Kq e,Kq f];have d:(toL (Nat.gcd (val a) (val b))).length<4398046511104:=by rcases d with h | h;exact absurd h h0;exact h
 rw[oi i,Qgo g j d e (Jp _),sbind,Qgo g k d f (Jp _),sbind,Q5,oi h0,oi h0]
def wv(w:Qe):Int:=if w.Neg then -(val w.A2:Int) else (val w.A2:Int)
def toW(z:Int):Qe:=⟨decide (z<0),toL z.natAbs⟩
theorem Yf(z:Int):wv (toW z)=z:=by unfold wv toW;simp only[xv,Q5];split<;>omega
theorem Qwv{v:Nat}:0<(toL v).length↔v≠0:=by constructor;rintro h rfl;rw[V6] at h;simp at h;intro h;rw[Qag h];simp
theorem Wx{s:Bool}{v:Nat}:V7 s (toL v)=some (toW (if s then -(v:Int) else (v:Int))):=by unfold V7 toW;rw[jn_eq];cases s;rw[bifF];congr 2;rw[bifT];congr 2;exact decide_eq_decide.2 (by simp only[uf];have:=@Qwv v;omega);simp
def Ww(w:Qe):Prop:=Wd w.A2/\w.A2.length<4398046511104
theorem Qll{n:Nat}{w:Qe}(a:big<=n)(h:Ww w):Z3 n w=some (toW (wv w)):=by unfold Z3;rw[Vp a (by have:=h.2;omega),sbind,<-Kq h.1,Wx,sbind];rfl
theorem Jgs(s t:Bool)(x y:Nat):(if (s != t) then -((x*y:Nat):Int) else ((x*y:Nat):Int))=(if s then -(x:Int) else (x:Int))*(if t then -(y:Int) else (y:Int)):=by cases s<;>cases t<;>simp[Int.neg_mul,Int.mul_neg]
theorem Ql1{n:Nat}{w u:Qe}(e:big<=n)(d:Ww w)(a:Ww u):Qd5 n w u=some (toW (wv w*wv u)):=by unfold Qd5;rw[Qdb e (by have:=d.2;omega) (by have:=a.2;omega) d.1 a.1,sbind,Wx,sbind,Jgs];rfl
theorem Je0{x y:Nat}:cmpI x y<0↔x<y:=by by_cases h:x<y;simp[cmpI,h];rw[cmpI,oi h];split<;>omega
theorem Ql2{n:Nat}{w u:Qe}(f:big<=n)(e:Ww w)(d:Ww u):Qd6 n w u=some (toW (wv w+wv u)):=by unfold Qd6;have i:=e.2;have j:=d.2;rw[Q6f f om om e.1 d.1,sbind,Wx,sbind,Q6g f om om e.1 d.1,sbind,bifd,Wx,sbind,Wx,sbind];unfold wv;rcases w with ⟨s,a⟩;rcases u with ⟨t,b⟩;simp only[];generalize val a=x;generalize val b=y;have g:=@Je0 x y;cases s<;>cases t<;>simp only[beq_self_eq_true,bifT,bifF,Bool.false_eq_true,uf,if_false,show(false == true)=false by rfl,show(true == false)=false by rfl,g];congr 2;split<;>congr 2<;>omega;split<;>congr 2<;>omega;congr 2;omega
theorem Qrn{n:Nat}{w:Qe}(a:big<=n)(h:Ww w):Qgu n w=some (toW (-wv w)):=by unfold Qgu;rw[Vp a (by have:=h.2;omega),sbind,<-Kq h.1,Wx,sbind];unfold wv;cases w.Neg<;>simp
theorem Jgt(z:Int):(toW (-z)).A2=(toW z).A2:=by unfold toW;simp
theorem Qan(z:Int):Wd (toW z).A2:=Jp _
theorem Qbl{n:Nat}{w:Qe}(a:big<=n)(h:Ww w):Zi n w=some (Int.sign (wv w)):=by unfold Zi wv;rw[Qgn a (by have:=h.2;omega) h.1,sbind,bifd];by_cases h0:val w.A2=0;rw[oj h0,h0];cases w.Neg<;>rfl;rw[oi h0];cases w.Neg;rw[bifF,oi oy,vh om];rw[bifT,oj rfl,wc om]
theorem Qdv(w:Qe):(wv w).natAbs=val w.A2:=by unfold wv;split<;>omega
theorem Jjv{w:Qe}(h:Ww w):Ww (toW (-wv w)):=by refine⟨Qan _,?_⟩;rw[Jgt];show(toL (wv w).natAbs).length<_;rw[Qdv];exact yo (Jv h.1) h.2
theorem Qiq{n:Nat}{w u:Qe}(a:big<=n)(e:Ww w)(d:Ww u):Qcf n w u=some (toW (wv w - wv u)):=by unfold Qcf;rw[Qrn a d,sbind,Ql2 a e (Jjv d),sbind,Yf,Int.sub_eq_add_neg]
theorem Q04{n:Nat}{w u:Qe}(a:big<=n)(e:Ww w)(d:Ww u)(h:Ww (toW (wv w - wv u))):Qjc n w u=some (Int.sign (wv w - wv u)):=by unfold Qjc;rw[Qiq a e d,sbind,Qbl a h,sbind,Yf]
def fv(f:Qa):Rat:=mkRat (wv f.Num) (val f.Den)
def toF(q:Rat):Qa:=⟨toW q.num,toL q.den⟩
theorem Kg(q:Rat):fv (toF q)=q:=by unfold fv toF;rw[Yf,Q5];exact Rat.mkRat_self q
theorem Qdc{z:Int}{d:Nat}(hd:d≠0):(mkRat z d).num=z / (Nat.gcd z.natAbs d:Int)/\(mkRat z d).den=d / Nat.gcd z.natAbs d:=by rw[<-Rat.normalize_eq_mkRat hd,Rat.normalize_eq];exact⟨rfl,rfl⟩
theorem Jgu(s:Bool)(x g:Nat)(h:g ∣ x):(if s then -((x / g:Nat):Int) else ((x / g:Nat):Int))=(if s then -(x:Int) else (x:Int)) / (g:Int):=by cases s;simp;simp only[uf];rw[Int.neg_ediv_of_dvd (Int.natCast_dvd_natCast.2 h)];simp
theorem Qax{n:Nat}{w:Qe}{d:List Nat}(g:big<=n)(e:Ww w)(hd:Wd d)(l:d.length<4398046511104)(h0:val d≠0):Yn n w d=some (toF (mkRat (wv w) (val d))):=by unfold Yn;have f:=e.2;have k:Nat.gcd (val w.A2) (val d) ∣ val w.A2:=Nat.gcd_dvd_left _ _;have a:(toL (val w.A2 / Nat.gcd (val w.A2) (val d))).length<4398046511104:=yo (xn (Wo (wd _ _)) (Jv e.1)) f;rw[Qva g f l e.1 hd,sbind,Qll g ⟨Jp _,a⟩,sbind];obtain⟨i,j⟩:=Qdc (z:=wv w) h0;unfold toF;rw[i,j,Qdv];congr 2;unfold wv;rw[Q5];congr 1;exact Jgu _ _ _ k
def Fw(f:Qa):Prop:=Ww f.Num/\Wd f.Den/\f.Den.length<4398046511104
theorem Qpp{n:Nat}{f:Qa}(d:big<=n)(hf:Fw f):∃ p,Vv n f=some p/\Ww p.1/\Wd p.2/\p.2.length<=max 1 f.Den.length/\p.1.A2.length<=f.Num.A2.length/\val p.2≠0/\mkRat (wv p.1) (val p.2)=fv f:=by obtain⟨e,a,g⟩:=hf;unfold Vv fv;rw[Qgn d om a,sbind,bifd];by_cases h0:val f.Den=0;rw[oj h0,Qa6 d om,sbind];refine⟨_,rfl,⟨Xp,oc⟩,Jp _,?_,oc,by simp only[Q5];decide,?_⟩;have:=Xy (n:=1) (k:=1) (by rw[V9,Y9];omega);simp only[];omega;simp only[Q5,h0,Rat.mkRat_zero];rfl;rw[oi h0];exact⟨_,rfl,e,a,by simp only[];omega,ou _,h0,rfl⟩
theorem Vf{n:Nat}{f:Qa}(a:big<=n)(hf:Fw f):Ki n f=some (toF (fv f)):=by obtain⟨p,d,e,g,k,l,i,j⟩:=Qpp a hf;unfold Ki;rw[d,sbind,Qax a e g (by have:=hf.2.2;omega) i,sbind,j]
theorem Qco{x y:Nat}:(toL (x*y)).length<=(toL x).length+(toL y).length:=by refine Xy ?_;have a:=Ye (Jp x);have d:=Ye (Jp y);rw[Q5] at a d;rw[Jjq];exact Nat.mul_lt_mul'' a d
theorem Qv0{x y k:Nat}(d:(toL x).length<=k)(e:(toL y).length<=k):(toL (x+y)).length<=k+1:=by refine Xy ?_;have g1:=Ye (Jp x);have a:=Ye (Jp y);rw[Q5] at g1 a;have g3:=bp_le d;have g4:=bp_le e;rw[V9];omega
theorem Qaf{n:Nat}{w:Qe}{d:List Nat}(e:big<=n)(f:Ww w)(hd:Wd d)(a:d.length<4398046511104):Yi n w d=some (toW (wv w*(val d:Int))):=by unfold Yi;rw[Ql1 e f ⟨hd,a⟩,sbind];rfl
def Fk(k:Nat)(f:Qa):Prop:=Wd f.Num.A2/\f.Num.A2.length<=k/\Wd f.Den/\f.Den.length<=k
theorem Fk_Fw{k:Nat}{f:Qa}(h:Fk k f)(hk:k<4398046511104):Fw f:=⟨⟨h.1,by have:=h.2.1;omega⟩,h.2.2.1,by have:=h.2.2.2;omega⟩
theorem Qdd{n k:Nat}{f:Qa}(p:big<=n)(hf:Fk k f)(a:1<=k)(hk:k<4398046511104):∃ w d,Vv n f=some (w,d)/\Wd w.A2/\w.A2.length<=k/\Wd d/\d.length<=k/\val d≠0/\mkRat (wv w) (val d)=fv f:=by obtain⟨⟨w,d⟩,a,e,g,i,j,l,m⟩:=Qpp p (Fk_Fw hf hk);exact⟨w,d,a,e.1,xn j hf.2.1,g,by have:=hf.2.2.2;simp only at i;omega,l,m⟩
theorem Qj5{w:Qe}{y k j:Nat}(a:Wd w.A2)(d:w.A2.length<=k)(e:(toL y).length<=j):(toW (wv w*(y:Int))).A2.length<=k+j:=by unfold toW;simp only[];rw[Int.natAbs_mul,Qdv,dy];have:=@Qco (val w.A2) y;have:=Jv a;omega
theorem Qde{n k:Nat}{f g:Qa}(a:big<=n)(m:1<=k)(hk:k<1099511627776)(hf:Fk k f)(x:Fk k g):Wm n f g=some (toF (fv f+fv g)):=by
 obtain⟨w,d,a1,a2,a3,a4,a5,a6,a7⟩:=Qdd a hf m om;obtain⟨u,e,r,j,s,i,t,l,v⟩:=Qdd a x m om;have p:=Qj5 a2 a3 (xn (Jv i) t);have q:=Qj5 j s (xn (Jv a4) a5);unfold Wm;rw[a1,sbind,r,sbind,Qaf a ⟨a2,om⟩ i om,sbind,Qaf a ⟨j,om⟩ a4 om,sbind,Ql2 a ⟨Qan _,om⟩ ⟨Qan _,om⟩,sbind,Qdb a om om a4 i,sbind];have y:=@Qco (val d) (val e);have A:=Jv a4;have B:=Jv i;rw[Yf,Yf];have hs:(toW (wv w * ↑(val e)+wv u * ↑(val d))).A2.length<=2*k+1:=by
  unfold toW at p q |-;simp only[] at p q |-;have:=Int.natAbs_add_le (wv w * ↑(val e)) (wv u * ↑(val d));exact xn (Wo this) (Qv0 om om)
 rw[Qax a ⟨Qan _,om⟩ (Jp _) om (by rw[Q5];exact wk a6 l),sbind,Q5,Yf,<-a7,<-v,Rat.mkRat_add_mkRat _ _ a6 l]
theorem Qtu{n k:Nat}{f g:Qa}(a:big<=n)(m:1<=k)(hk:k<1099511627776)(hf:Fk k f)(x:Fk k g):Qij n f g=some (toF (fv f - fv g)):=by
 obtain⟨w,d,a1,a2,a3,a4,a5,a6,a7⟩:=Qdd a hf m om;obtain⟨u,e,r,j,s,i,t,l,v⟩:=Qdd a x m om;have p:=Qj5 a2 a3 (xn (Jv i) t);have q:=Qj5 j s (xn (Jv a4) a5);unfold Qij;rw[a1,sbind,r,sbind,Qaf a ⟨a2,om⟩ i om,sbind,Qaf a ⟨j,om⟩ a4 om,sbind,Qiq a ⟨Qan _,om⟩ ⟨Qan _,om⟩,sbind,Qdb a om om a4 i,sbind];have y:=@Qco (val d) (val e);have A:=Jv a4;have B:=Jv i;rw[Yf,Yf];have hs:(toW (wv w * ↑(val e) - wv u * ↑(val d))).A2.length<=2*k+1:=by
  unfold toW at p q |-;simp only[] at p q |-;have:=Int.natAbs_sub_le (wv w * ↑(val e)) (wv u * ↑(val d));exact xn (Wo this) (Qv0 om om)
 rw[Qax a ⟨Qan _,om⟩ (Jp _) om (by rw[Q5];exact wk a6 l),sbind,Q5,Yf,<-a7,<-v,Rat.sub_eq_add_neg,Rat.neg_mkRat,Rat.mkRat_add_mkRat _ _ a6 l,Int.neg_mul,<-Int.sub_eq_add_neg]
theorem Qbt{n k:Nat}{f g:Qa}(a:big<=n)(l:1<=k)(hk:k<1099511627776)(hf:Fk k f)(r:Fk k g):W5 n f g=some (toF (fv f*fv g)):=by
 obtain⟨w,d,a1,a2,a3,a4,a5,a6,a7⟩:=Qdd a hf l om;obtain⟨u,e,m,i,s,j,t,p,q⟩:=Qdd a r l om;unfold W5;rw[a1,sbind,m,sbind,Ql1 a ⟨a2,om⟩ ⟨i,om⟩,sbind,Qdb a om om a4 j,sbind];have x:=@Qco (val d) (val e);have y:=Jv a4;have A:=Jv j;have hs:(toW (wv w*wv u)).A2.length<=2*k:=by unfold toW;simp only[];rw[Int.natAbs_mul,Qdv,Qdv];have g1:=@Qco (val w.A2) (val u.A2);have v:=Jv a2;have g3:=Jv i;omega
 rw[Qax a ⟨Qan _,om⟩ (Jp _) om (by rw[Q5];exact wk a6 p),sbind,Q5,Yf,<-a7,<-q,Rat.mkRat_mul_mkRat]
theorem Jgv(q:Rat):toF (-q)=⟨toW (-q.num),toL q.den⟩:=rfl
theorem Jjw{f:Qa}(hf:Fw f):Ww (toF (fv f)).Num:=by
 refine⟨Qan _,?_⟩;show(toL (fv f).num.natAbs).length<_;by_cases h0:val f.Den=0;unfold fv;rw[h0,Rat.mkRat_zero];simp[V6];obtain⟨a,_⟩:=Qdc (z:=wv f.Num) h0;unfold fv;rw[a];have d:(wv f.Num / (Nat.gcd (wv f.Num).natAbs (val f.Den):Int)).natAbs<=val f.Num.A2:=by rw[<-Qdv];exact Int.natAbs_ediv_le_natAbs _ _
 exact yo (xn (Wo d) (Jv hf.1.1)) hf.1.2
theorem Q3w{n:Nat}{f:Qa}(a:big<=n)(hf:Fw f):Qdr n f=some (toF (-fv f)):=by unfold Qdr;have h:=Jjw hf;rw[Vf a hf,sbind,Qrn a h,sbind,Jgv];unfold toF;simp only[Yf]
theorem Qro{a b:Int}{d e:Nat}(hd:d≠0)(f:e≠0):Int.sign (a*(e:Int) - b*(d:Int))=Int.sign (mkRat a d - mkRat b e).num:=by rw[Rat.sub_eq_add_neg,Rat.neg_mkRat,Rat.mkRat_add_mkRat _ _ hd f,Int.neg_mul,<-Int.sub_eq_add_neg];generalize a*(e:Int) - b*(d:Int)=z;have h0:d*e≠0:=wk hd f;obtain⟨i,_⟩:=Qdc (z:=z) h0;rw[i];have k:(Nat.gcd z.natAbs (d*e):Int) ∣ z:=Int.dvd_natAbs.1 (Int.natCast_dvd_natCast.2 (Nat.gcd_dvd_left _ _));obtain⟨c,j⟩:=k;have l:0<Nat.gcd z.natAbs (d*e):=Nat.gcd_pos_of_pos_right _ om;generalize Nat.gcd z.natAbs (d*e)=g at *;subst j;rw[Int.mul_ediv_cancel_left _ om,Int.sign_mul,vh om,Int.one_mul]
theorem X2{n k:Nat}{f g:Qa}(a:big<=n)(l:1<=k)(hk:k<1099511627776)(hf:Fk k f)(x:Fk k g):Xf n f g=some (Int.sign (fv f - fv g).num):=by
 obtain⟨w,d,a1,a2,a3,a4,a5,a6,a7⟩:=Qdd a hf l om;obtain⟨u,e,q,i,r,j,s,t,v⟩:=Qdd a x l om;have m:=Qj5 a2 a3 (xn (Jv j) s);have p:=Qj5 i r (xn (Jv a4) a5);have hs:(toW (wv w * ↑(val e) - wv u * ↑(val d))).A2.length<=2*k+1:=by unfold toW at m p |-;simp only[] at m p |-;have:=Int.natAbs_sub_le (wv w * ↑(val e)) (wv u * ↑(val d));exact xn (Wo this) (Qv0 om om)
 unfold Xf;rw[a1,sbind,q,sbind,Qaf a ⟨a2,om⟩ j om,sbind,Qaf a ⟨i,om⟩ a4 om,sbind,Q04 a ⟨Qan _,om⟩ ⟨Qan _,om⟩ (by rw[Yf,Yf];exact⟨Qan _,om⟩),sbind,Yf,Yf,Qro a6 t,a7,v]
def runG{α β τ:Type}(g:Nat->α->β->β ⊕ τ)(e:β->τ):List α->Nat->β->τ
 | [],_,b=>e b
 | x::xs,i,b=>match g i x b with
   | .inl a=>runG g e xs (i+1) a
   | .inr t=>t
def toLp{β σ τ:Type}(mk:β->Nat->σ)(i:Nat):β ⊕ τ->Lp σ τ
 | .inl b=>.go (mk b (i+1))
 | .inr t=>.out t
theorem Qy3{α β σ τ:Type}{f:σ->Option (Lp σ τ)}(mk:β->Nat->σ)(g:Nat->α->β->β ⊕ τ)(e:β->τ)(I:Nat->β->Prop):∀(xs:List α) (k:Nat) (b:β) (n:Nat),
 (∀ i x b,xs[i]?=some x->I (k+i) b->f (mk b (k+i))=some (toLp mk (k+i) (g (k+i) x b))/\∀ a,g (k+i) x b=.inl a->I (k+i+1) a) ->
 (∀ b,I (k+xs.length) b->f (mk b (k+xs.length))=some (.out (e b)))->I k b->xs.length<n->loopM f n (mk b k)=some (runG g e xs k b)
 | [],k,b,n,_,j,h0,q=>by simp only[xz,xp] at j;rw[Kv (j b h0) om];rfl
 | x::xs,k,b,n,s,j,h0,q=>by
   obtain⟨m,rfl⟩:∃ m,n=m+1:=⟨n - 1,by simp at q;omega⟩
   obtain⟨d,r⟩:=s 0 x b rfl h0;simp only[xp] at d r;simp only[runG];cases p:g k x b with
   | inl a=>
     rw[p] at d;rw[Qaw d];refine Qy3 mk g e I xs (k+1) a m (λi y c u l=>?_) (λc l=>?_) (r a p) (by simp at q;omega);have:=s (i+1) y c (by simpa using u);rw[show k+(i+1)=k+1+i by omega] at this;exact this l;have:=j c;rw[oo,show k+(xs.length+1)=k+1+xs.length by omega] at this;exact this l
   | inr t=>rw[p] at d;rw[Kv d om]
theorem Jcs{α β σ τ:Type}{f:σ->Option (Lp σ τ)}(mk:β->Nat->σ)(g:Nat->α->β->β ⊕ τ)(e:β->τ)(I:Nat->β->Prop)(xs:List α){b:β}{n:Nat}
 (j:∀ i x b,xs[i]?=some x->I i b->f (mk b i)=some (toLp mk i (g i x b))/\∀ d,g i x b=.inl d->I (i+1) d)
 (k:∀ b,I xs.length b->f (mk b xs.length)=some (.out (e b))) (h0:I 0 b) (l:xs.length<n):loopM f n (mk b 0)=some (runG g e xs 0 b):=
 Qy3 mk g e I xs 0 b n (λi x c m a=>by rw[xr] at a |-;exact j i x c m a) (λc a=>by rw[xr] at a |-;exact k c a) h0 l
theorem Qss{α β σ τ R:Type}{f:σ->Option (Lp σ τ)}{k:τ->Option R}{r:Option R}{s0:σ}(mk:β->Nat->σ)(g:Nat->α->β->β ⊕ τ)(e:β->τ)(I:Nat->β->Prop)(xs:List α)(b:β){n:Nat}
 (d:∀ i x b,xs[i]?=some x->I i b->f (mk b i)=some (toLp mk i (g i x b))/\∀ a,g i x b=.inl a->I (i+1) a)
 (j:∀ b,I xs.length b->f (mk b xs.length)=some (.out (e b))) (h0:I 0 b) (l:xs.length<n) (hk:k (runG g e xs 0 b)=r) (hs:s0=mk b 0:=by rfl):(loopM f n s0).bind k=r:=by
 rw[hs,Jcs mk g e I xs d j h0 l,ym,hk]
def toLpp{β σ τ0 τ:Type}(mk:β->Nat->σ)(i:Nat):β ⊕ τ->Lp σ (Lp τ0 τ)
 | .inl b=>.go (mk b (i+1))
 | .inr t=>.out (.out t)
theorem Q6i{α β σ τ0 τ:Type}{f:σ->Option (Lp σ (Lp τ0 τ))}{k:τ0->Option τ}{s0:σ}(mk:β->Nat->σ)(g:Nat->α->β->β ⊕ τ)(r:β->τ0)(e:β->τ)(I:Nat->β->Prop)(xs:List α)(b:β){n:Nat}
 (s:∀ i x b,xs[i]?=some x->I i b->f (mk b i)=some (toLpp mk i (g i x b))/\∀ d,g i x b=.inl d->I (i+1) d)
 (l:∀ b,I xs.length b->f (mk b xs.length)=some (.out (.go (r b)))) (hk:∀ b,I xs.length b->k (r b)=some (e b)) (h0:I 0 b) (q:xs.length<n) (hs:s0=mk b 0:=by rfl) :
 (loopM f n s0).bind (lpK k)=some (runG g e xs 0 b):=by
 have key:∀(xs:List α) (j:Nat) (b:β) (n:Nat),
  (∀ i x b,xs[i]?=some x->I (j+i) b->f (mk b (j+i))=some (toLpp mk (j+i) (g (j+i) x b))/\∀ d,g (j+i) x b=.inl d->I (j+i+1) d) ->
  (∀ b,I (j+xs.length) b->f (mk b (j+xs.length))=some (.out (.go (r b))))->(∀ b,I (j+xs.length) b->k (r b)=some (e b))->I j b->xs.length<n->(loopM f n (mk b j)).bind (lpK k)=some (runG g e xs j b):=by
  intro xs
  induction xs with
  | nil=>
    intro j b n _ l hk h0 q;simp only[xz,xp] at l hk;rw[Kv (l b h0) om,ym];exact hk b h0
  | cons x xs B=>
    intro j b n s l hk h0 q;obtain⟨m,rfl⟩:∃ m,n=m+1:=⟨n - 1,by simp at q;omega⟩
    obtain⟨p,v⟩:=s 0 x b rfl h0;simp only[xp] at p v;simp only[runG];cases u:g j x b with
    | inl d=>
      rw[u] at p;rw[Qaw p];refine B (j+1) d m (λi y c A a=>?_) (λc a=>?_) (λc a=>?_) (v d u) (by simp at q;omega);have:=s (i+1) y c (by simpa using A);rw[show j+(i+1)=j+1+i by omega] at this;exact this a;have:=l c;rw[oo,show j+(xs.length+1)=j+1+xs.length by omega] at this;exact this a;have:=hk c;rw[oo,show j+(xs.length+1)=j+1+xs.length by omega] at this;exact this a
    | inr t=>rw[u] at p;rw[Kv p om];rfl
 rw[hs];exact key xs 0 b n (λi x c w a=>by rw[xr] at a |-;exact s i x c w a) (λc a=>by rw[xr] at a |-;exact l c a) (λc a=>hk c (by rwa [xr] at a)) h0 q
def toLq{β τ:Type}:β ⊕ τ->Lp β τ
 | .inl b=>.go b
 | .inr t=>.out t
theorem Qww{α β τ:Type}{f:Nat->α->β->Option (Lp β τ)}(g:Nat->α->β->β ⊕ τ)(I:Nat->β->Prop):∀(xs:List α) (k:Nat) (b:β),
 (∀ i x b,xs[i]?=some x->I (k+i) b->f (k+i) x b=some (toLq (g (k+i) x b))/\∀ a,g (k+i) x b=.inl a->I (k+i+1) a)->I k b ->
 rangeL f xs k b=some (runG (λi x b=>(g i x b).map id Lp.out) Lp.go xs k b)
 | [],k,b,_,h0=>rfl
 | x::xs,k,b,l,h0=>by
   obtain⟨d,j⟩:=l 0 x b rfl h0;simp only[xp] at d j;simp only[runG];cases e:g k x b with
   | inl a=>
     rw[e] at d;simp only[rangeL,d,toLq,ym,Sum.map]
     exact Qww g I xs (k+1) a (λi y c n m=>by
      have:=l (i+1) y c (by simpa using n);rw[show k+(i+1)=k+1+i by omega] at this
      exact this m) (j a e)
   | inr t=>rw[e] at d;simp only[rangeL,d,toLq,ym,Sum.map];rfl
theorem Je1{α β τ ρ:Type}(h:τ->ρ)(g:Nat->α->β->β ⊕ τ)(e:β->τ):∀(xs:List α) (i:Nat) (b:β),h (runG g e xs i b)=runG (λi x b=>(g i x b).map id h) (λb=>h (e b)) xs i b
 | [],_,_=>rfl
 | x::xs,i,b=>by
   simp only[runG];cases g i x b with
   | inl a=>exact Je1 h g e xs (i+1) a
   | inr t=>rfl
theorem Qnp{α β τ:Type}{f:Nat->α->β->Option (Lp β τ)}{k:β->Option τ}(g:Nat->α->β->β ⊕ τ)(e:β->τ)(I:Nat->β->Prop)(xs:List α){b:β}
 (q:∀ i x b,xs[i]?=some x->I i b->f i x b=some (toLq (g i x b))/\∀ a,g i x b=.inl a->I (i+1) a) (h0:I 0 b) (hk:∀ b,I xs.length b->k b=some (e b)) :
 (rangeL f xs 0 b).bind (lpK k)=some (runG g e xs 0 b):=by
 rw[Qww g I xs 0 b (λi x c l r=>by rw[xr] at r |-;exact q i x c l r) h0,ym]
 have key:∀(ys:List α) (i:Nat) (c:β),(∀ j x b,ys[j]?=some x->I (i+j) b->∀ a,g (i+j) x b=.inl a->I (i+j+1) a)->(∀ b,I (i+ys.length) b->k b=some (e b))->I i c ->
  lpK k (runG (λi x b=>(g i x b).map id Lp.out) Lp.go ys i c)=some (runG g e ys i c):=by
  intro ys
  induction ys with
  | nil=>intro i c _ m n;exact m c n
  | cons y ys u=>
    intro i c p m n;simp only[runG];cases s:g i y c with
    | inl a=>
      refine u (i+1) a (λj x b l hI b'' hb''=>?_) (λb hI=>m b (by rw[oo,show i+(ys.length+1)=i+1+ys.length by omega];exact hI)) (p 0 y c rfl n a s);have:=p (j+1) x b (by simpa using l);rw[show i+(j+1)=i+1+j by omega] at this;exact this hI b'' hb''
    | inr t=>rfl
 exact key xs 0 b (λj x c l hI a d=>by rw[xr] at hI d |-;exact(q j x c l hI).2 a d) (λc hI=>hk c (by rwa [xr] at hI)) h0
theorem Qmy{α β:Type}(g:α->β->β):∀(xs:List α) (i:Nat) (b:β),runG (τ:=β) (λ_ x b=>.inl (g x b)) (λb=>b) xs i b=xs.foldl (λb x=>g x b) b
 | [],_,_=>rfl
 | x::xs,i,b=>by simp only[runG,wx];exact Qmy g xs (i+1) (g x b)
theorem Qlm{α β:Type}(h:α->β):∀(xs:List α) (l:List β),xs.foldl (λb x=>b++[h x]) l=l++xs.map h
 | [],l=>oc
 | x::xs,l=>by rw[wx,Qlm h xs];simp
theorem Wc{α:Type}{l:List α}{i:Nat}{x:α}(h:l[i]?=some x):getI l (i:Int)=some x:=by rw[Qh7,h]
theorem Jg{α:Type}{l:List α}{i:Nat}{x:α}(h:l[i]?=some x):i<l.length:=by rcases xh i l.length with a | a;exact a;rw[xe a] at h;cases h
theorem Q3{α:Type}{l:List α}{i:Nat}{x:α}(h:l[i]?=some x):x∈l:=gh h
theorem w1{i:Nat}(h:i<9223372036854775807):wrap64 ((i:Int)+1)=((i+1:Nat):Int):=by rw[w64 om om];omega
theorem Qst{α:Type}{l:List α}{x:α}(h:l.length<9223372036854775807):getI (l++[x]) (wrap64 (((l++[x]).length:Int) - 1))=some x:=by rw[ov,vo,w64 om om,show(((l.length+1:Nat):Int) - 1)=((l.length:Nat):Int) by omega,Qh7];simp
theorem Qvb{α:Type}{l:List α}{x:α}(h:l.length<9223372036854775807):sub (l++[x]) (0:Int) (wrap64 (((l++[x]).length:Int) - 1))=some l:=by rw[ov,vo,w64 om om,show(((l.length+1:Nat):Int) - 1)=((l.length:Nat):Int) by omega,Qfx oc];simp
theorem Qvc{σ τ:Type}{f:σ->Option (Lp σ τ)}(F:Nat->σ){t:τ}:∀(N k n:Nat),(∀ i,i<N->f (F (k+i))=some (.go (F (k+i+1))))->f (F (k+N))=some (.out t)->N<n->loopM f n (F k)=some t
 | 0,k,n,_,a,e=>Kv a om
 | N+1,k,n,d,a,e=>by
   obtain⟨m,rfl⟩:∃ m,n=m+1:=⟨n - 1,om⟩
   have h0:=d 0 om;simp only[xp] at h0;rw[Qaw h0];exact Qvc F N (k+1) m (λi hi=>by have:=d (i+1) om;rw[show k+(i+1)=k+1+i by omega] at this;exact this) (by rw[show k+1+N=k+(N+1) by omega];exact a) om
theorem Qov{σ τ R:Type}{f:σ->Option (Lp σ τ)}{s:σ}{K:τ->Option R}{n:Nat}(F:Nat->σ)(N:Nat)(t:τ)(a:∀ i,i<N->f (F i)=some (.go (F (i+1))))(d:f (F N)=some (.out t))(e:N<n)(hs:s=F 0):(loopM f n s).bind K=K t:=by rw[hs,Qvc F (t:=t) N 0 n (λi hi=>by rw[xr];exact a i hi) (by rw[xr];exact d) e,ym]
theorem Qy4{α σ τ:Type}{f:Nat->α->σ->Option (Lp σ τ)}(F:Nat->σ):∀(xs:List α) (k:Nat),(∀ i x,xs[i]?=some x->f (k+i) x (F (k+i))=some (.go (F (k+i+1))))->rangeL f xs k (F k)=some (.go (F (k+xs.length)))
 | [],_,_=>rfl
 | x::xs,k,a=>by have h0:=a 0 x rfl;simp only[xp] at h0;simp only[rangeL,h0,ym];rw[Qy4 F xs (k+1) (λi y d=>by have:=a (i+1) y (by simpa using d);rw[show k+(i+1)=k+1+i by omega] at this;exact this),oo,show k+1+xs.length=k+(xs.length+1) by omega]
theorem Y5{α σ τ R:Type}{f:Nat->α->σ->Option (Lp σ τ)}{s:σ}{K:Lp σ τ->Option R}(F:Nat->σ)(xs:List α)(a:∀ i x,xs[i]?=some x->f i x (F i)=some (.go (F (i+1))))(hs:s=F 0):(rangeL f xs 0 s).bind K=K (.go (F xs.length)):=by rw[hs,Qy4 F xs 0 (λi x d=>by rw[xr];exact a i x d),ym,xr]
theorem Qy5{α R:Type}{f:Nat->α->Unit->Option (Lp Unit R)}{r:R}(P:Nat->α->Prop):∀(xs:List α) (k:Nat),(∀ i x,xs[i]?=some x->(P (k+i) x->f (k+i) x ()=some (.go ()))/\(¬ P (k+i) x->f (k+i) x ()=some (.out r))) ->
 ((∀ i x,xs[i]?=some x->P (k+i) x)->rangeL f xs k ()=some (.go ()))/\(¬(∀ i x,xs[i]?=some x->P (k+i) x)->rangeL f xs k ()=some (.out r))
 | [],k,_=>⟨λ_=>rfl,λh=>absurd (λi x n=>by simp at n) h⟩
 | x::xs,k,l=>by
   obtain⟨g,j⟩:=l 0 x rfl;simp only[xp] at g j;obtain⟨g1,m⟩:=Qy5 P xs (k+1) (λi y a=>by have:=l (i+1) y (by simpa using a);rw[show k+(i+1)=k+1+i by omega] at this;exact this);by_cases d:P k x;have e:(∀ i y,(x::xs)[i]?=some y->P (k+i) y)↔(∀ i y,xs[i]?=some y->P (k+1+i) y):=by
    constructor;intro h i y a;have:=h (i+1) y (by simpa using a);rw[show k+(i+1)=k+1+i by omega] at this;exact this;intro h i y a;cases i with
    | zero=>simp at a;subst a;exact d
    | succ i=>rw[show k+(i+1)=k+1+i by omega];exact h i y (by simpa using a)
   rw[e];simp only[rangeL,g d,ym];exact⟨g1,m⟩;refine⟨λh=>absurd (h 0 x rfl) d,λ_=>?_⟩;simp only[rangeL,j d,ym]
open Classical in
theorem Qdw{α R:Type}{f:Nat->α->Unit->Option (Lp Unit R)}{K:Unit->Option R}{r:R}(P:Nat->α->Prop)(xs:List α)
 (d:∀ i x,xs[i]?=some x->(P i x->f i x ()=some (.go ()))/\(¬ P i x->f i x ()=some (.out r))) :
 (rangeL f xs 0 ()).bind (lpK K)=if (∀ i x,xs[i]?=some x->P i x) then K () else some r:=by
 obtain⟨g1,a⟩:=Qy5 P xs 0 (λi x e=>by rw[xr];exact d i x e);simp only[xr] at g1 a;by_cases h:∀ i x,xs[i]?=some x->P i x;rw[oj h,g1 h,ym,K7];rw[oi h,a h,ym,Qio]
theorem Q2j{R:Type}{f:Int->Option (Lp Int (Lp Unit R))}{r:R}(P:Nat->Prop):∀(N k n:Nat),(∀ i,i<k+N->k<=i->(P i->f (i:Int)=some (.go ((i+1:Nat):Int)))/\(¬ P i->f (i:Int)=some (.out (.out r))))->f ((k+N:Nat):Int)=some (.out (.go ()))->N<n ->
 ((∀ i,k<=i->i<k+N->P i)->loopM f n (k:Int)=some (.go ()))/\(¬(∀ i,k<=i->i<k+N->P i)->loopM f n (k:Int)=some (.out r))
 | 0,k,n,_,g,s=>⟨λ_=>Kv g om,λh=>absurd (λi j l=>by omega) h⟩
 | N+1,k,n,p,g,s=>by
   obtain⟨m,rfl⟩:∃ m,n=m+1:=⟨n - 1,om⟩
   obtain⟨j,l⟩:=p k om (ou _);obtain⟨g1,q⟩:=Q2j P N (k+1) m (λi hi hk=>p i om om) (by rw[show k+1+N=k+(N+1) by omega];exact g) om;by_cases d:P k;have e:(∀ i,k<=i->i<k+(N+1)->P i)↔(∀ i,k+1<=i->i<k+1+N->P i):=by constructor;intro h i a b;exact h i om om;intro h i a b;rcases Nat.eq_or_lt_of_le a with c | c;exact c ▸ d;exact h i c om
   rw[e,Qaw (j d)];exact⟨g1,q⟩;exact⟨λh=>absurd (h k (ou _) om) d,λ_=>Kv (l d) om⟩
open Classical in
theorem Qxe{R:Type}{f:Int->Option (Lp Int (Lp Unit R))}{K:Unit->Option R}{r:R}{n:Nat}(P:Nat->Prop)(N:Nat)
 (d:∀ i,i<N->(P i->f (i:Int)=some (.go ((i+1:Nat):Int)))/\(¬ P i->f (i:Int)=some (.out (.out r)))) (e:f (N:Int)=some (.out (.go ()))) (g:N<n) :
 (loopM f n 0).bind (lpK K)=if (∀ i,i<N->P i) then K () else some r:=by
 obtain⟨g1,a⟩:=Q2j (n:=n) (r:=r) P N 0 (λi hi _=>d i om) (by rw[xr];exact e) g;simp only[xr,xl,true_implies] at g1 a;by_cases h:∀ i,i<N->P i;rw[oj h];have:=g1 h;rw[show((0:Nat):Int)=0 from rfl] at this;rw[this,ym,K7];rw[oi h];have:=a h;rw[show((0:Nat):Int)=0 from rfl] at this;rw[this,ym,Qio]
theorem Zv{α β:Type}(h:α->β){l:List α}{i:Nat}{x:α}(a:l[i]?=some x):(l.take (i+1)).map h=(l.take i).map h++[h x]:=by
 rw[gq (Jg a),xu];have:l[i]'(Jg a)=x:=by have:=ot (Jg a);rw[this] at a;exact Option.some.inj a
 simp[this]
theorem Q05:∀ {a b:List Nat},Wd a->Wd b->a.length=b.length->val a=val b->a=b
 | [],[],_,_,_,_=>rfl
 | [],_::_,_,_,h,_=>by simp at h
 | _::_,[],_,_,h,_=>by simp at h
 | x::a,y::b,f,g,i,j=>by
   obtain⟨k,d⟩:=K8.1 f;obtain⟨l,e⟩:=K8.1 g;simp only[val] at j;have:x=y:=om
   subst this;rw[Q05 d e (by simpa using i) om]
theorem Qpq{x y:Nat}:cmpI x y=0↔x=y:=by unfold cmpI;split;constructor<;>intro h<;>omega;split;constructor<;>intro h<;>omega;constructor<;>intro h<;>omega
open Classical in
theorem Qpr{n:Nat}{f:Qa}(l:big<=n)(hf:Fw f):Wb n f=some (decide (f=toF (fv f))):=by
 unfold Wb;rw[Vf l hf,sbind,jn_eq];have w1:Wd (toF (fv f)).Num.A2:=Jp _;have m:Wd (toF (fv f)).Den:=Jp _;generalize toF (fv f)=g at *;obtain⟨⟨j,p⟩,k,q⟩:=hf;obtain⟨⟨s,a⟩,d⟩:=f;obtain⟨⟨t,b⟩,e⟩:=g;simp only at j p k q w1 m |-;have i:∀ {P:Prop},(P->False)->(some false:Option Bool)=some (decide P):=λh=>by rw[ol h]
 by_cases c1:s=t;subst c1;rw[show(s == s)=true by simp,bifT];by_cases c2:(a.length:Int)=(b.length:Int)
 rw[oq c2,bifT];by_cases c3:(d.length:Int)=(e.length:Int)
 rw[oq c3,bifT,Qfe l om om j w1,sbind];by_cases c4:val a=val b;rw[oq (Qpq.2 c4),bifT,Qfe l om om k m,sbind];by_cases c5:val d=val e;rw[oq (Qpq.2 c5),Q05 j w1 om c4,Q05 k m om c5,oq rfl];rw[ol λh=>c5 (Qpq.1 h)];exact i λh=>by cases h;exact c5 rfl
 rw[ol λh=>c4 (Qpq.1 h),bifF];exact i λh=>by cases h;exact c4 rfl
 rw[ol c3,bifF];exact i λh=>by cases h;exact c3 rfl
 rw[ol c2,bifF];exact i λh=>by cases h;exact c2 rfl
 rw[show(s == t)=false by simpa using c1,bifF];exact i λh=>by cases h;exact c1 rfl
def qw(q:Rat):Nat:=max (toL q.num.natAbs).length (toL q.den).length
theorem Wk{j k:Nat}{f:Qa}(h:Fk j f)(hk:j<=k):Fk k f:=⟨h.1,by have:=h.2.1;omega,h.2.2.1,by have:=h.2.2.2;omega⟩
theorem Vg{q:Rat}{k:Nat}(h:qw q<=k):Fk k (toF q):=by unfold qw at h;exact⟨Qan _,by show(toL q.num.natAbs).length<=k;omega,Jp _,by show(toL q.den).length<=k;omega⟩
theorem toL1:(toL 1).length=1:=by rw[Qag oy];simp[V6]
theorem Qsu{z:Int}{d k:Nat}(hd:d≠0)(g:(toL z.natAbs).length<=k)(i:(toL d).length<=k):qw (mkRat z d)<=k:=by obtain⟨a,e⟩:=Qdc (z:=z) hd;unfold qw;rw[a,e];have g1:=Wo (Int.natAbs_ediv_le_natAbs z (Nat.gcd z.natAbs d:Int));have f:=Wo (wd d (Nat.gcd z.natAbs d));omega
theorem Qir:qw 0=1:=by unfold qw;rw[show(0:Rat).num=0 from rfl,show(0:Rat).den=1 from rfl,toL1];simp[V6]
theorem Jjx(q:Rat):1<=qw q:=by have:=(Qwv (v:=q.den)).2 q.den_nz;unfold qw;omega
theorem qw_fv{f:Qa}{k:Nat}(h:Fk k f)(a:1<=k):qw (fv f)<=k:=by unfold fv;by_cases h0:val f.Den=0;rw[h0,Rat.mkRat_zero,Qir];exact a;refine Qsu h0 ?_ ?_;rw[Qdv];exact xn (Jv h.1) h.2.1;exact xn (Jv h.2.2.1) h.2.2.2
theorem Qmz(q:Rat):(toL q.num.natAbs).length<=qw q:=by unfold qw;omega
theorem Qvd(q:Rat):(toL q.den).length<=qw q:=by unfold qw;omega
theorem Qff{a b:Rat}{j k:Nat}(f:qw a<=j)(g:qw b<=k):qw (a*b)<=j+k:=by rw[<-Rat.mkRat_self a,<-Rat.mkRat_self b,Rat.mkRat_mul_mkRat];have i:=Qmz a;have l:=Qmz b;have d:=Qvd a;have e:=Qvd b;have:=@Qco a.num.natAbs b.num.natAbs;have:=@Qco a.den b.den;exact Qsu (wk a.den_nz b.den_nz) (by rw[Int.natAbs_mul];omega) om
theorem Qow{a b:Rat}{j k:Nat}(f:qw a<=j)(g:qw b<=k):qw (a+b)<=j+k+1:=by rw[<-Rat.mkRat_self a,<-Rat.mkRat_self b,Rat.mkRat_add_mkRat _ _ a.den_nz b.den_nz];have n:=Qmz a;have p:=Qmz b;have d:=Qvd a;have e:=Qvd b;have i:=@Qco a.num.natAbs b.den;have l:=@Qco b.num.natAbs a.den;have m:=@Qco a.den b.den;refine Qsu (wk a.den_nz b.den_nz) ?_ om;refine xn (Wo (Int.natAbs_add_le _ _)) ?_;rw[Int.natAbs_mul,Int.natAbs_mul,dy,dy];exact Qv0 om om
theorem Q06(a:Rat):(-a).num=-a.num:=rfl
theorem Q9l(a:Rat):(-a).den=a.den:=rfl
theorem Q6j(a:Rat):qw (-a)=qw a:=by unfold qw;rw[Q06,Q9l,Int.natAbs_neg]
theorem Q6k{a b:Rat}{j k:Nat}(d:qw a<=j)(e:qw b<=k):qw (a - b)<=j+k+1:=by rw[Rat.sub_eq_add_neg];exact Qow d (by rw[Q6j];exact e)
theorem Jct{a:Rat}{j:Nat}(g:qw a<=j):qw a⁻¹<=j:=by
 have i:=Qmz a;have d:=Qvd a;have p:=Jjx a;unfold qw;rw[Rat.num_inv,Rat.den_inv];have e:(toL (a.num.sign*(a.den:Int)).natAbs).length<=j:=by
  rw[Int.natAbs_mul,dy];refine xn (Wo (y:=a.den) ?_) om;have:a.num.sign.natAbs<=1:=by rw[Int.natAbs_sign];split<;>omega
  calc a.num.sign.natAbs*a.den<=1*a.den:=yh _ this
   _=a.den:=Nat.one_mul _
 have f:(toL (if a.num=0 then 1 else a.num.natAbs)).length<=j:=by
  split
  . rw[toL1];omega
  . omega
 omega
theorem Jcu{a b:Rat}{j k:Nat}(d:qw a<=j)(e:qw b<=k):qw (a / b)<=j+k:=by rw[Rat.div_def];exact Qff d (Jct e)
theorem Jcv{a:Rat}{j:Nat}(d:qw a<=j):∀ n:Nat,qw (a ^ n)<=n*j+1
 | 0=>by rw[Rat.pow_zero];unfold qw;rw[show(1:Rat).num=1 from rfl,show(1:Rat).den=1 from rfl,show(1:Int).natAbs=1 from rfl,toL1];omega
 | n+1=>by have:=Qff (Jcv d n) d;rw[Rat.pow_succ,wa];omega
theorem Jgw(x:Int):toF (x:Rat)=⟨toW x,toL 1⟩:=by unfold toF;rw[Rat.num_intCast,Rat.den_intCast]
theorem Qnc{n:Nat}{x:Int}(a:big<=n)(d:-9223372036854775808<=x)(f:x<=9223372036854775807):Qfo n x=some (toW x):=by
 unfold Qfo;rw[bifd];split;rename_i h;have e:(18446744073709551616 - Int.toNat (x%18446744073709551616))%18446744073709551616=x.natAbs:=om
 rw[sbind,e,Qa6 a om,sbind,Wx,sbind,oj rfl,show -((x.natAbs:Nat):Int)=x by omega];rename_i h;have e:Int.toNat (x%18446744073709551616)=x.natAbs:=om
 rw[e,Qa6 a om,sbind,Wx,sbind,oi oy,show((x.natAbs:Nat):Int)=x by omega]
theorem Qln{n:Nat}{x:Int}(a:big<=n)(d:-9223372036854775808<=x)(e:x<=9223372036854775807):Kb n x=some (toF (x:Rat)):=by unfold Kb;rw[Qnc a d e,sbind,Qa6 a oy,sbind,Jgw]
theorem Z0{n:Nat}(a:big<=n):Kb n 0=some (toF 0):=Qln a oy oy
theorem Qnd{n:Nat}(a:big<=n):Kb n 1=some (toF 1):=Qln a oy oy
theorem Ja3{z:Int}{d:Nat}(hd:d≠0):(mkRat z d).num.sign=z.sign:=by have:=Qro (a:=z) (b:=0) hd (e:=1) oy;rw[Rat.zero_mkRat,show mkRat z d - 0=mkRat z d by rw[Rat.sub_eq_add_neg,show(-0:Rat)=0 from rfl,Rat.add_zero]] at this;rw[<-this];simp
theorem Qfg{n k:Nat}{f:Qa}(a:big<=n)(e:1<=k)(hk:k<1099511627776)(hf:Fk k f):Wv n f=some (fv f).num.sign:=by obtain⟨w,d,a1,a2,a3,a4,a5,a6,a7⟩:=Qdd a hf e om;unfold Wv;rw[a1,sbind,Qbl a ⟨a2,om⟩,sbind,<-a7,Ja3 a6]
theorem Q6l{a b:Rat}:(a - b).num=0↔a=b:=by rw[Rat.num_eq_zero];grind
theorem Qfh{n k:Nat}{f g:Qa}(e:big<=n)(a:1<=k)(hk:k<1099511627776)(hf:Fk k f)(d:Fk k g):Xm n f g=some (decide (fv f=fv g)):=by unfold Xm;rw[X2 e a hk hf d,sbind];refine ur some (decide_eq_decide.2 ?_);rw[gj,Q6l]
def absQ(q:Rat):Rat:=if q.num<0 then -q else q
theorem Jgx(q:Rat):toF (absQ q)=⟨⟨false,(toF q).Num.A2⟩,(toF q).Den⟩:=by unfold absQ toF toW;split;rw[Q06,Q9l,Int.natAbs_neg,ol om];rw[ol om]
theorem Q3x{n k:Nat}{f:Qa}(a:big<=n)(hk:k<1099511627776)(hf:Fk k f):Qk2 n f=some (toF (absQ (fv f))):=by unfold Qk2;rw[Vf a (Fk_Fw hf om),sbind,Jgx]
def qz(q:Rat):Nat:=blen q.num.natAbs+blen q.den
theorem Q07{n k:Nat}{f:Qa}(e:big<=n)(hk:k<1099511627776)(hf:Fk k f):Wg n f=some ((blen (val f.Num.A2)+blen (val f.Den):Nat):Int):=by unfold Wg;obtain⟨a,m,d,p⟩:=hf;have g:=@Qsr (val f.Num.A2);have i:=@Qsr (val f.Den);have j:=Jv a;have l:=Jv d;rw[Qtt e om a,sbind,Qtt e om d,sbind,w64 om om];rfl
theorem Qps{n:Nat}{q:Rat}(a:big<=n)(hk:qw q<1099511627776):Wg n (toF q)=some (qz q:Int):=by rw[Q07 a hk (Vg (ou _))];unfold qz toF toW;simp only[Q5]
theorem Qy6{v b:Nat}(h:blen v<=b):(toL v).length<=b / 32+1:=by refine Xy ?_;have a:=@Qvz v;rw[Qu7];exact xj a (vf oy om)
theorem qw_qz{q:Rat}{b:Nat}(h:qz q<=b):qw q<=b / 32+1:=by unfold qz at h;have a:=@Qy6 q.num.natAbs b om;have d:=@Qy6 q.den b om;unfold qw;omega
theorem Jgy:∀ {u:Qe},wv u≠0->(wv u).sign=if u.Neg then -1 else 1
 | ⟨false,a⟩,h=>by have e:wv ⟨false,a⟩=(val a:Int):=rfl;rw[e] at h |-;rw[vh om];rfl
 | ⟨true,a⟩,h=>by have e:wv ⟨true,a⟩=-(val a:Int):=rfl;rw[e] at h |-;rw[wc om];rfl
theorem Jcw{z:Int}{d:Nat}(a:z≠0)(hd:d≠0):(mkRat z d)⁻¹=mkRat (z.sign*(d:Int)) z.natAbs:=by
 have h0:mkRat z d≠0:=λh=>a ((Rat.mkRat_eq_zero hd).1 h);have e:mkRat z d*mkRat (z.sign*(d:Int)) z.natAbs=1:=by rw[Rat.mkRat_mul_mkRat,<-Int.mul_assoc,Int.mul_sign_self,show(1:Rat)=mkRat 1 1 from rfl,Rat.mkRat_eq_iff (wk hd om) oy];simp[Int.mul_comm]
 grind
theorem Qtv{n k:Nat}{f g:Qa}(a:big<=n)(s:1<=k)(hk:k<1099511627776)(hf:Fk k f)(C:Fk k g):Qb2 n f g=some (if fv g=0 then (toF 0,false) else (toF (fv f / fv g),true)):=by
 obtain⟨w,d,a1,a2,a3,a4,a5,a6,a7⟩:=Qdd a hf s om;obtain⟨u,e,y,j,E,p,A,q,l⟩:=Qdd a C s om;unfold Qb2;rw[a1,sbind,y,sbind,Qbl a ⟨j,om⟩,sbind,bifd];have v:(wv u).sign=0↔fv g=0:=by rw[<-l,Rat.mkRat_eq_zero q,gj]
 by_cases h0:fv g=0;rw[oj (v.2 h0),oj h0,Z0 a,sbind];rw[oi (λh=>h0 (v.1 h)),oi h0,Qaf a ⟨a2,om⟩ p om,sbind,Qdb a om om a4 j,sbind];have F:=Qj5 a2 a3 (xn (Jv p) A);have G:=@Qco (val d) (val u.A2);have H:=Jv a4;have I:=Jv j;have i:wv u≠0:=λh=>h0 (by rw[<-l,h,Rat.zero_mkRat]);have m:val u.A2≠0:=by rw[<-Qdv];omega
 rw[Qax (w:=⟨(toW (wv w * ↑(val e))).Neg != u.Neg,(toW (wv w * ↑(val e))).A2⟩) a ⟨Qan (wv w * ↑(val e)),by show(toW (wv w * ↑(val e))).A2.length<_;omega⟩ (Jp _) om (by rw[Q5];exact wk a6 m),sbind,Q5];refine ur some (Prod.ext ?_ rfl);refine ur toF ?_;have B:wv (⟨((toW (wv w * ↑(val e))).Neg != u.Neg),(toW (wv w * ↑(val e))).A2⟩:Qe)=(wv w*(val e:Int))*(wv u).sign:=by
  have t:=Yf (wv w * ↑(val e));generalize toW (wv w * ↑(val e))=x at t |-;rw[<-t];have hs:=Jgy i;rw[hs];unfold wv;cases x.Neg<;>cases u.Neg<;>simp
 rw[B,<-a7,<-l,Rat.div_def];have r:=Jcw i q;rw[Qdv] at r;rw[r,Rat.mkRat_mul_mkRat];congr 1;rw[Int.mul_assoc,Int.mul_comm (val e:Int)]
theorem Qv1{v j:Nat}(h:(toL v).length<=j):∀ t,(toL (v ^ t)).length<=t*j+1
 | 0=>by rw[Nat.pow_zero,toL1];omega
 | t+1=>by have:=Qv1 h t;have:=@Qco (v ^ t) v;rw[Nat.pow_succ,wa];omega
theorem Qpt{n j t:Nat}{a:List Nat}(d:big<=n)(e:Wd a)(f:a.length<=j)(l:j<1099511627776)(m:t<=7+1):Qey n a (t:Int)=some (toL (val a ^ t)):=by unfold Qey;rw[Qa6 d oy,sbind];rw[Qov (λi=>(toL (val a ^ i),(i:Int))) t (toL (val a ^ t))];intro i hi;have g:=Qv1 (xn (Jv e) f) i;have k:i*j<=8*j:=yh _ om;simp only[bifd];rw[oj om,Qdb d om om (Jp _) e,sbind,Q5,w1 om,Nat.pow_succ];simp only[bifd];rw[oi om];unfold big at d;omega;rfl
theorem Q9m(z:Int)(t:Nat):(if (decide (z<0) && decide (t%2=1))=true then -((z.natAbs ^ t:Nat):Int) else ((z.natAbs ^ t:Nat):Int))=z ^ t:=by
 rw[Int.natCast_pow];by_cases a:z<0;have e:(z.natAbs:Int)=-z:=om
 rw[e,oq a,Bool.true_and];rcases Nat.mod_two_eq_zero_or_one t with h | h;rw[oi (by rw[h];decide)];obtain⟨m,rfl⟩:∃ m,t=2*m:=⟨t / 2,om⟩
 rw[Int.pow_mul,Int.pow_mul];congr 1;rw[wo,wo,wo,wo];simp[Int.neg_mul_neg];rw[oj (by rw[h];decide)];obtain⟨m,rfl⟩:∃ m,t=2*m+1:=⟨t / 2,om⟩
 rw[wo,wo,Int.pow_mul,Int.pow_mul];have:(-z) ^ 2=z ^ 2:=by rw[wo,wo,wo,wo];simp[Int.neg_mul_neg]
 rw[this,Int.mul_neg,Int.neg_neg];have e:(z.natAbs:Int)=z:=om
 rw[ol a,Bool.false_and,oi oy,e]
theorem Q3y{n k:Nat}{f:Qa}{e:Int}(a:big<=n)(B:1<=k)(hk:k<1099511627)(hf:Fk k f):
 Qik n f e=some (if e < -8\/8<e\/(e<0/\fv f=0) then (toF 0,false) else (toF (fv f ^ e),true)):=by
 unfold Qik;simp only[jn_eq];by_cases c1:e < -8;rw[oq c1,bifT,bifT,Z0 a,sbind,oj (.inl c1)];rw[ol c1,bifF];by_cases c2:8<e;rw[oq c2,bifT,bifT,Z0 a,sbind,oj (.inr (.inl c2))];rw[ol c2,bifF];have G:=Qfg a B om hf;have H:=qw_fv hf B;have F:Fk k (toF (fv f)):=Vg H;obtain⟨g1,A,g3,g4⟩:=F;have C:=Vf a (Fk_Fw hf om);have j:max e (wrap64 (-e))=((e.natAbs:Nat):Int):=by rw[w64 om om];omega
 have r:=Qpt (t:=e.natAbs) a g1 A om om;have s:=Qpt (t:=e.natAbs) a g3 g4 om om;have I:=Qv1 (xn (Jv g1) A) e.natAbs;have J:=Qv1 (xn (Jv g3) g4) e.natAbs;have N:e.natAbs*k<=8*k:=yh _ om;have g:decide (Int.tmod ((e.natAbs:Nat):Int) 2=1)=decide (e.natAbs%2=1):=by refine decide_eq_decide.2 ?_;rw[Int.tmod_eq_emod_of_nonneg om];omega
 have K:val (toF (fv f)).Num.A2=(fv f).num.natAbs:=Q5 _;have v2:val (toF (fv f)).Den=(fv f).den:=Q5 _;have v3:(toF (fv f)).Num.Neg=decide ((fv f).num<0):=rfl;rw[K] at r I;rw[v2] at s J
 have fin:∀(u d:Nat),(toL u).length<=8*k+1->(if (toF (fv f)).Num.Neg=true then (Z3 n (⟨decide (Int.tmod (max e (wrap64 (-e))) 2=1),toL u⟩:Qe)).bind λv=>some ((⟨v,toL d⟩:Qa),true) else (Z3 n (⟨false,toL u⟩:Qe)).bind λw=>some ((⟨w,toL d⟩:Qa),true)) =
  some (⟨toW (if (decide ((fv f).num<0) && decide (e.natAbs%2=1))=true then -(u:Int) else (u:Int)),toL d⟩,true):=by
  intro u d M;rw[j,g,v3];by_cases m:(fv f).num<0;rw[oj (oq m),Qll a ⟨Jp _,by show(toL u).length<_;omega⟩,sbind,oq m,Bool.true_and];unfold wv;simp only[Q5];rw[oi (by rw[ol m];decide),Qll a ⟨Jp _,by show(toL u).length<_;omega⟩,sbind,ol m,Bool.false_and];unfold wv;simp only[Q5]
 have bifi:∀ {α:Type}(b:Bool) (x y:α),(bif b then x else y)=if b=true then x else y:=λb x y=>by cases b<;>rfl
 by_cases c3:e<0;rw[oq c3,bifT,G,sbind];by_cases c4:fv f=0;rw[c4,show((0:Rat).num.sign)=0 from rfl,oq rfl,bifT,Z0 a,sbind,oj (.inr (.inr ⟨c3,c4 ▸ rfl⟩))];have i:(fv f).num≠0:=λh=>c4 (Rat.num_eq_zero.1 h);rw[ol (by rw[gj];exact i),bifF,C,sbind,j,r,sbind,s,sbind,bifT];rw[bifi,<-j,fin _ _ om,oi (c:=e < -8\/8<e\/(e<0/\fv f=0)) (by rintro(h | h | h);exact c1 h;exact c2 h;exact c4 h.2)];refine ur some (Prod.ext ?_ rfl);have E:e=-((e.natAbs:Nat):Int):=om
 have p:fv f ^ e=(fv f ^ e.natAbs)⁻¹:=by rw[<-Rat.zpow_natCast,<-Rat.zpow_neg,<-E]
 rw[p];unfold toF;rw[Rat.num_inv,Rat.den_inv,Rat.num_pow,Rat.den_pow];have q:(fv f).num ^ e.natAbs≠0:=Int.pow_ne_zero i;rw[oi q,Int.natAbs_pow];have hs:=Q9m (fv f).num e.natAbs;have L:0<(fv f).num.natAbs ^ e.natAbs:=Nat.pow_pos om;congr 2;rw[<-hs];by_cases l:(decide ((fv f).num<0) && decide (e.natAbs%2=1))=true;rw[oj l,oj l,wc om,Int.neg_mul,Int.one_mul];rw[oi l,oi l,vh om,Int.one_mul];rw[ol c3,bifF,bifF,C,sbind,j,r,sbind,s,sbind,bifF];rw[bifi,<-j,fin _ _ om,oi (c:=e < -8\/8<e\/(e<0/\fv f=0)) (by rintro(h | h | h);exact c1 h;exact c2 h;exact c3 h.1)];refine ur some (Prod.ext ?_ rfl);have p:fv f ^ e=fv f ^ e.natAbs:=by
  rw[<-Rat.zpow_natCast,show((e.natAbs:Nat):Int)=e by omega]
 rw[p];unfold toF;rw[Rat.num_pow,Rat.den_pow,Q9m]
theorem Jgz{a:Rat}{j:Nat}(f:qw a<=j){e:Int}(h:e.natAbs<=8):qw (a ^ e)<=8*j+1:=by
 have i:e.natAbs*j<=8*j:=yh _ om;have g:=Jcv f e.natAbs;rcases Int.lt_or_le e 0 with c | c;have d:a ^ e=(a ^ e.natAbs)⁻¹:=by rw[<-Rat.zpow_natCast,<-Rat.zpow_neg,show -((e.natAbs:Nat):Int)=e by omega]
 rw[d];exact Jct om;have d:a ^ e=a ^ e.natAbs:=by rw[<-Rat.zpow_natCast,show((e.natAbs:Nat):Int)=e by omega]
 rw[d];omega
def maxQ(a b:Rat):Rat:=if 0<(b - a).num.sign then b else a
theorem Q08{n k:Nat}{f g:Qa}(a:big<=n)(d:1<=k)(hk:k<1099511627776)(hf:Fk k f)(e:Fk k g):Qk3 n [f,g]=some (toF (maxQ (fv f) (fv g))):=by unfold Qk3;simp only[jn_eq,rangeL];have i:Fk k (toF (fv f)):=Vg (qw_fv hf d);rw[Z0 a,sbind,show decide (((0:Nat):Int)=0)=true from rfl,bifT,bifT,Vf a (Fk_Fw hf om),sbind,sbind];simp only[];rw[show decide (((0+1:Nat):Int)=0)=false from rfl,bifF,X2 a d hk e i,sbind,Kg,bifd];unfold maxQ;split;rw[Vf a (Fk_Fw e om),sbind];rfl;rfl
def rv(l:List Qa):List Rat:=l.map fv
def toR(l:List Rat):List Qa:=l.map toF
theorem Qm0(l:List Rat):rv (toR l)=l:=by
 unfold rv toR;rw[wi]
 conv=>rhs;rw[<-List.map_id l]
 exact gv λq _=>Kg q
theorem Xe(l:List Qa):(rv l).length=l.length:=by unfold rv;simp
theorem Qah(l:List Rat):(toR l).length=l.length:=by unfold toR;simp
def FR(k:Nat)(l:List Qa):Prop:=∀ x∈l,Fk k x
def QR(k:Nat)(l:List Rat):Prop:=∀ x∈l,qw x<=k
theorem Qgp{k:Nat}{l:List Rat}(h:QR k l):FR k (toR l):=λx a=>by unfold toR at a;obtain⟨q,d,rfl⟩:=xy.1 a;exact Vg (h q d)
theorem QR_rv{k:Nat}{l:List Qa}(h:FR k l)(d:1<=k):QR k (rv l):=λx a=>by unfold rv at a;obtain⟨q,e,rfl⟩:=xy.1 a;exact qw_fv (h q e) d
theorem Qbm{j k:Nat}{l:List Qa}(h:FR j l)(hk:j<=k):FR k l:=λx a=>Wk (h x a) hk
theorem Za{j k:Nat}{l:List Rat}(h:QR j l)(hk:j<=k):QR k l:=λx a=>xn (h x a) hk
theorem Q09{α:Type}{n:Nat}{a:List α}{g:α->Rat}{f:Nat->α->List Qa->Option (Lp (List Qa) (List Qa))}(_:big<=n)(j:a.length<=1000000)
 (e:∀ i x s,a[i]?=some x->f i x s=(appM 56 s [toF (g x)]).bind λy=>some (Lp.go y)):(rangeL f a 0 []).bind (lpK λs=>some s)=some (toR (a.map g)):=by
 rw[Y5 (λi=>(a.take i).map λx=>toF (g x)) a,K7,yn];unfold toR;rw[wi];rfl;intro i x d;have:=Jg d;rw[e i x _ d,Jk oh oh,sbind,Zv _ d];rfl
theorem Qtw{n k:Nat}{a:List Qa}(d:big<=n)(hk:k<1099511627776)(e:FR k a)(f:a.length<=1000000):Qk0 n a=some (toR (rv a)):=by unfold Qk0;refine Q09 (g:=fv) d f λi x s j=>?_;rw[Vf d (Fk_Fw (e x (Q3 j)) om),sbind]
theorem Qpu{n k:Nat}{a:List Qa}(f:big<=n)(hk:k<1099511627776)(d:FR k a)(e:a.length<=1000000):Qhr n a=some (toR (rv a)):=Qtw f hk d e
def scaleQ(c:Rat)(l:List Rat):List Rat:=l.map (c * ·)
theorem Ql3{n k:Nat}{c:Qa}{a:List Qa}(d:big<=n)(e:1<=k)(hk:k<1099511627776)(j:Fk k c)(f:FR k a)(l:a.length<=1000000):Xn n c a=some (toR (scaleQ (fv c) (rv a))):=by unfold Xn;rw[Q09 (g:=λx=>fv c*fv x) d l λi x s m=>?_];unfold scaleQ rv;rw[wi];rfl;rw[Qbt d e hk j (f x (Q3 m)),sbind]
theorem Qxf{j k:Nat}{c:Rat}{l:List Rat}(d:qw c<=j)(h:QR k l):QR (j+k) (scaleQ c l):=λx a=>by unfold scaleQ at a;obtain⟨q,e,rfl⟩:=xy.1 a;exact Qff d (h q e)
theorem Q2k{α β τ R:Type}{f:Nat->α->List β->Option (Lp (List β) τ)}{K:Lp (List β) τ->Option R}(g:α->β->β)(xs:List α)(s:List β)(h:xs.length=s.length)
 (l:∀ i x y s',xs[i]?=some x->s[i]?=some y->s'[i]?=some y->f i x s'=some (.go (s'.set i (g x y)))):(rangeL f xs 0 s).bind K=K (.go (List.zipWith g xs s)):=by
 have a:∀ i,i<=xs.length->(List.zipWith g (xs.take i) (s.take i)).length=i:=λi hi=>oh
 rw[Y5 (λi=>List.zipWith g (xs.take i) (s.take i)++s.drop i) xs];rw[yn,h,yn,List.drop_length,yv];intro i x d;have hi:=Jg d;have e:s[i]?=some s[i]:=ot om;have m:(List.zipWith g (xs.take i) (s.take i)++s.drop i)[i]?=some s[i]:=by rw[yy (by rw[a i om];exact ou _),a i om,gt,dr,xp,e]
 rw[l i x s[i] _ d e m];refine ur (λz=>some (Lp.go z)) ?_;have hd:s.drop i=s[i]::s.drop (i+1):=xi om;have j:xs.take (i+1)=xs.take i++[x]:=by rw[gc,d];rfl
 have k:s.take (i+1)=s.take i++[s[i]]:=by rw[gc,e];rfl
 rw[hd,List.set_append_right _ _ (by rw[a i om];exact ou _),a i om,gt,List.set_cons_zero,j,k,List.zipWith_append oh];simp;simp
def addQ(a b:List Rat):List Rat:=List.zipWith (·+·) a b
theorem Jcx{α:Type}{x:α}{l:List α}:getI (x::l) 0=some x:=rfl
theorem Qve{n k:Nat}{a b:List Qa}(j:big<=n)(f:1<=k)(hk:k<1099511627776)(g:FR k a)(l:FR k b)(m:a.length<=1000000):
 Qcg n [a,b]=some (if a.length=b.length then (toR (addQ (rv a) (rv b)),true) else ([],false)):=by
 unfold Qcg;have hs:sub [a,b] (1:Int) (([a,b]:List (List Qa)).length:Int)=some [b]:=rfl;rw[show decide ((([a,b]:List (List Qa)).length:Int)=0)=false from rfl,bifF,Jcx,sbind,Qtw j hk g m,sbind,hs,sbind];simp only[rangeL];rw[Qah,Xe];by_cases h:a.length=b.length;rw[oj h,oq (show(b.length:Int)=(a.length:Int) by omega),ow,bifF,Q2k (λ(x:Qa) (y:Qa)=>toF (fv y+fv x)) b (toR (rv a)) (by rw[Qah,Xe,h]),K7,sbind];simp only[];rw[sbind,K7];refine ur some (Prod.ext ?_ rfl);simp only[];unfold addQ toR rv;rw[List.map_zipWith,wi,List.zipWith_map_right,List.zipWith_map,List.zipWith_comm];congr 1;funext x y;simp only[Function.comp,Kg];intro i x y s' p q d;have e:Fk k y:=Qgp (QR_rv g f) y (Q3 q);rw[Wc d,sbind,Qde j f hk e (l x (Q3 p)),sbind,sbind,ue];rw[oi h,ol (show ¬(b.length:Int)=(a.length:Int) by omega),xo,bifT,sbind];rfl
theorem Q1a{α β γ:Type}{g:α->β->γ}{P:γ->Prop}:∀ {a:List α}{b:List β},(∀ x∈a,∀ y∈b,P (g x y))->∀ z∈List.zipWith g a b,P z
 | [],_,_,z,d=>by simp at d
 | _::_,[],_,z,d=>by simp at d
 | x::a,y::b,h,z,d=>by rcases xc.1 d with rfl | d;exact h x (.head _) y (.head _);exact Q1a (λi e j f=>h i (.tail _ e) j (.tail _ f)) z d
theorem Jcy{j k:Nat}{a b:List Rat}(d:QR j a)(e:QR k b):QR (j+k+1) (addQ a b):=Q1a λx f y g=>Qow (d x f) (e y g)
theorem Q6m{a b:List Rat}:(addQ a b).length=min a.length b.length:=by unfold addQ;simp
theorem Qsv{c:Rat}{a:List Rat}:(scaleQ c a).length=a.length:=by unfold scaleQ;simp
theorem Q3z{n m:Nat}(a:big<=n)(d:m<=300):Z6 n (m:Int)=some (toR (List.replicate m 0)):=by
 unfold Z6;have e:min (max (m:Int) 0) 300=(m:Int):=om
 rw[e,Qmw om om,sbind];rw[Qov (λi=>(List.replicate i (toF 0)++List.replicate (m - i) (⟨⟨false,[]⟩,[]⟩:Qa),(i:Int))) m (toR (List.replicate m 0))];intro i hi;simp only[bifd];have hd:List.replicate (m - i) (⟨⟨false,[]⟩,[]⟩:Qa)=⟨⟨false,[]⟩,[]⟩::List.replicate (m - (i+1)) ⟨⟨false,[]⟩,[]⟩:=by rw[show m - i=(m - (i+1))+1 by omega,vi]
 rw[oj om,Z0 a,sbind,hd,Wl oc,sbind,Y4 oc,w1 om];refine ur (λz=>some (Lp.go (z,_))) ?_;rw[gg,xx];rfl;simp only[bifd];rw[oi om,gt,List.replicate_zero,yv];unfold toR;rw[List.map_replicate];unfold big at a;omega;simp
def mixQ:List Rat->List (List Rat)->List Rat->List Rat
 | c::cs,a::l,z=>mixQ cs l (List.zipWith (λx o=>o+c*x) a z)
 | _,_,z=>z
theorem Q2l:∀ {cs:List Rat}{l:List (List Rat)}{z:List Rat}{c a},cs.length=l.length->mixQ (cs++[c]) (l++[a]) z=List.zipWith (λx o=>o+c*x) a (mixQ cs l z)
 | [],[],z,c,a,_=>rfl
 | [],_::_,_,_,_,h=>by simp at h
 | _::_,[],_,_,_,h=>by simp at h
 | x::cs,y::l,z,c,a,h=>by simp only[xd,mixQ];exact Q2l (by simpa using h)
theorem Qsw{m:Nat}:∀ {cs:List Rat}{l:List (List Rat)}{z:List Rat},(∀ a∈l,a.length=m)->z.length=m->(mixQ cs l z).length=m
 | [],_,z,_,h=>by simpa [mixQ] using h
 | _::_,[],z,_,h=>by simpa [mixQ] using h
 | x::cs,y::l,z,d,h=>by simp only[mixQ];exact Qsw (λa e=>d a (.tail _ e)) (by have:=d y (.head _);simp;omega)
theorem Qy7{j k:Nat}:∀ {cs:List Rat}{l:List (List Rat)}{z:List Rat}{b:Nat},QR j cs->(∀ a∈l,QR k a)->QR b z->QR (b+l.length*(j+k+1)) (mixQ cs l z)
 | [],_,z,b,_,_,h=>Za h om
 | _::_,[],z,b,_,_,h=>Za h om
 | x::cs,y::l,z,b,d,e,h=>by simp only[mixQ];have f:QR (b+(j+k)+1) (List.zipWith (λp o=>o+x*p) y z):=Q1a λu n o i=>Qow (h o i) (Qff (d x (.head _)) (e y (.head _) u n));refine Za (Qy7 (λq m=>d q (.tail _ m)) (λa g=>e a (.tail _ g)) f) ?_;rw[oo,wa];omega
theorem Q6n{m:Nat}:∀ {a z:List Rat},a.length=m->z.length=m->List.zipWith (λx o=>o+0*x) a z=z
 | [],[],_,_=>rfl
 | [],_::_,h,d=>by simp at h d;omega
 | _::_,[],h,d=>by simp at h d;omega
 | x::a,y::z,h,d=>by simp only[oo] at h d;rw[List.zipWith_cons_cons,Q6n (m:=m - 1) om om];congr 1;grind
theorem Q6o{α:Type}{l:List (List α)}{m:Nat}:(∀(i:Nat) x,l[i]?=some x->x.length=m)↔∀ a∈l,a.length=m:=by constructor;intro h a d;obtain⟨j,e⟩:=ud d;exact h j a e;intro h i x f;exact h x (Q3 f)
theorem Qxg{n:Nat}{c:List Qa}{l:List (List Qa)}{m:Int}:Qkz n c l m=Qui n c l m:=yw (yw rfl)
theorem Jg0(l:List Qa)(i:Nat):rv (l.take i)=(rv l).take i:=by unfold rv;rw[ga]
open Classical in
theorem Q6p{n j k m:Nat}{c:List Qa}{l:List (List Qa)}(w:big<=n)(B:1<=j)(J:1<=k)(W:j<1048576)(hk:k<1048576)(K:FR j c)(L:∀ a∈l,FR k a)(U:m<=300)(T:l.length<=10000):
 Qui n c l (m:Int)=some (if c.length=l.length/\∀ a∈l,a.length=m then (toR (mixQ (rv c) (l.map rv) (List.replicate m 0)),true) else ([],false)):=by
 unfold Qui;simp only[jn_eq];by_cases g1:c.length=l.length;rw[oq (show(c.length:Int)=(l.length:Int) by omega),ow,bifF,ol (show ¬(m:Int)<0 by omega),bifF,ol (show ¬(300:Int)<(m:Int) by omega),bifF];rw[Qdw (λ_ (a:List Qa)=>a.length=m) (r:=(([]:List Qa),false))];rw[Q6o];by_cases s:∀ a∈l,a.length=m;rw[oj s,oj ⟨g1,s⟩,Q3z w U,sbind];have E:=QR_rv K B;rw[Y5 (λi=>toR (mixQ (rv (c.take i)) ((l.take i).map rv) (List.replicate m 0))) l,K7,<-g1,yn,g1,yn];intro i a u;have hi:=Jg u;have g:c[i]?=some c[i]:=ot om;have e:Fk j c[i]:=K _ (yu om);have R:=L a (Q3 u);have t:=s a (Q3 u);generalize c[i]' om=ck at g e;have M:c.take (i+1)=c.take i++[ck]:=by rw[gc,g];rfl
 have N:l.take (i+1)=l.take i++[a]:=by rw[gc,u];rfl
 have O:rv (c.take (i+1))=rv (c.take i)++[fv ck]:=by unfold rv;rw[M,xu];rfl
 have P:(l.take (i+1)).map rv=(l.take i).map rv++[rv a]:=by rw[N,xu];rfl
 have Q:(rv (c.take i)).length=((l.take i).map rv).length:=by rw[Xe];simp;omega
 rw[Wc g,sbind,Qfg w B om e,sbind,bifd,O,P,Q2l Q]
 have p:(mixQ (rv (c.take i)) ((l.take i).map rv) (List.replicate m 0)).length=m:=Qsw (λb C=>by
  obtain⟨d,hd,rfl⟩:=xy.1 C
  rw[Xe];exact s d (xt hd)) oc
 have I:QR (1+(l.take i).length*(j+k+1)) (mixQ (rv (c.take i)) ((l.take i).map rv) (List.replicate m 0)):=by
  have:=Qy7 (j:=j) (k:=k) (b:=1) (cs:=rv (c.take i)) (l:=(l.take i).map rv) (z:=List.replicate m 0) (λq A=>by rw[Jg0] at A;exact E q (xt A)) (λb C=>by
   obtain⟨d,hd,rfl⟩:=xy.1 C
   exact QR_rv (L d (xt hd)) J) (λq A=>by rw[(List.mem_replicate.1 A).2,Qir];exact ou _)
  rwa [xa] at this
 have S:(l.take i).length*(j+k+1)<=10000*2097152:=vn oh om;have f:=Za I (show _<=20971520001 by omega);generalize mixQ (rv (c.take i)) ((l.take i).map rv) (List.replicate m 0)=z at p f;by_cases g3:(fv ck).num.sign=0;rw[oj g3];have h0:fv ck=0:=Rat.num_eq_zero.1 (gj.1 g3);rw[h0,Q6n (m:=m) (by rw[Xe,t]) p];rw[oi g3,Q2k (λ(x:Qa) (o:Qa)=>toF (fv o+fv ck*fv x)) a (toR z) (by rw[Qah,t,p]),K7];refine ur (λz=>some (Lp.go z)) ?_;unfold toR rv;rw[List.map_zipWith,List.zipWith_map_right,List.zipWith_map_left];congr 1;funext x y;rw[Kg];intro Y x y s' F V G;have H:Fk 20971520001 y:=Qgp f y (Q3 V);have v:=R x (Q3 F);have X:qw (fv ck*fv x)<=j+k:=Qff (qw_fv e B) (qw_fv v J);rw[Wc G,sbind,sbind,Qbt (k:=j+k) w om om (Wk e om) (Wk v om),sbind,Qde (k:=20971520001) w om om H (Vg om),sbind,sbind,ue,Kg];rfl;rw[oi s,oi (λh=>s h.2)];intro i x u;constructor;intro h;rw[oq (show(x.length:Int)=(m:Int) by omega)];rfl;intro h;rw[ol (show ¬(x.length:Int)=(m:Int) by omega)];rfl;rw[ol (show ¬(c.length:Int)=(l.length:Int) by omega),oi (λh=>g1 h.1)];rfl
theorem Q1b(l:List Qa)(i:Nat):(rv l)[i]?=(l[i]?).map fv:=by unfold rv;simp
theorem Q30{n k:Nat}{a b:List Qa}(t:big<=n)(p:1<=k)(hk:k<1099511627776)(q:FR k a)(s:FR k b):Qa0 n a b=some (decide (rv a=rv b)):=by
 classical
 unfold Qa0;by_cases h:a.length=b.length;rw[oq (show(a.length:Int)=(b.length:Int) by omega),ow,bifF];rw[Qdw (λi (x:Qa)=>∀ y,b[i]?=some y->fv x=fv y) (r:=false)];have e:(∀(i:Nat) x,a[i]?=some x->∀ y,b[i]?=some y->fv x=fv y)↔rv a=rv b:=by constructor;intro g;refine List.ext_getElem? λi=>?_;rw[Q1b,Q1b];rcases xh i a.length with hi | hi;have l:a[i]?=some a[i]:=ot hi;have d:b[i]?=some (b[i]' om):=ot om;have:=g i _ l _ d;rw[l,d];exact ur some this;rw[xe hi,xe om];intro g i x f y j;have:=ur (·[i]?) g;simp only[Q1b,f,j,Option.map_some] at this;exact Option.some.inj this
 by_cases hd:rv a=rv b;rw[oj (e.2 hd),oq hd];rw[oi (λg=>hd (e.1 g)),ol hd];intro i x f;have hi:=Jg f;have d:b[i]?=some (b[i]' om):=ot om;rw[Wc d,sbind,Qfh t p hk (q x (Q3 f)) (s _ (Q3 d)),sbind];constructor;intro g;rw[oq (g _ d)];rfl;intro g;rw[ol (λm=>g λy j=>by rw[d] at j;cases j;exact m)];rfl;rw[ol (show ¬(a.length:Int)=(b.length:Int) by omega),xo,bifT,ol];intro g;apply h;rw[<-Xe a,g,Xe]
def normQ(l:List Rat):Rat:=l.foldl (λb x=>maxQ b (absQ x)) 0
theorem Q6q(q:Rat):qw (absQ q)=qw q:=by unfold absQ;split;exact Q6j q;rfl
theorem Jcz{a b:Rat}{k:Nat}(d:qw a<=k)(e:qw b<=k):qw (maxQ a b)<=k:=by unfold maxQ;split<;>assumption
theorem Q31{n k:Nat}{a:List Qa}(g:big<=n)(f:1<=k)(hk:k<1099511627776)(m:FR k a):Qk4 n a=some (toF (normQ (rv a))):=by
 unfold Qk4;have j:∀(l:List Rat) (b:Rat),QR k l->qw b<=k->qw (l.foldl (λb x=>maxQ b (absQ x)) b)<=k:=by
  intro l
  induction l with
  | nil=>intro b _ d;exact d
  | cons x l v=>intro b p d;exact v _ (λq j=>p q (.tail _ j)) (Jcz d (by rw[Q6q];exact p x (.head _)))
 rw[Z0 g,sbind,Y5 (λi=>toF ((rv (a.take i)).foldl (λb x=>maxQ b (absQ x)) 0)) a,K7,yn];rfl;intro i x r;have s:a.take (i+1)=a.take i++[x]:=by rw[gc,r];rfl
 have t:rv (a.take (i+1))=rv (a.take i)++[fv x]:=by unfold rv;rw[s,xu];rfl
 have e:=m x (Q3 r);have d:=j (rv (a.take i)) 0 (QR_rv (λy u=>m y (xt u)) f) (by rw[Qir];exact f);rw[Q3x g hk e,sbind,Q08 g f hk (Vg d) (Vg (by rw[Q6q];exact qw_fv e f)),sbind,t,ge,Kg,Kg];rfl;rfl
theorem Qhb(x m:Int):Yj x m=some (decide (0<=x/\x<m)):=by unfold Yj;simp only[jn_eq,bifd];by_cases h:0<=x;rw[oj h];simp[h];rw[oi h];simp[h]
def rdT(i:Qu):List Int:=if i.Op=6\/i.Op=11 then [i.A] else if i.Op=7\/i.Op=8\/i.Op=9\/i.Op=10 then [i.A,i.B] else []
theorem Qy8(i:Qu):Qew i=some (rdT i):=by unfold Qew rdT;simp only[jn_eq,bifd];by_cases e:i.Op=6;simp[e];by_cases d:i.Op=11;simp[d];by_cases f:i.Op=7;simp[f];by_cases g:i.Op=8;simp[g];by_cases j:i.Op=9;simp[j];by_cases a:i.Op=10;simp[a];simp[e,f,g,j,a,d]
def TW(t:Qv):Prop:=∀ c∈t.Code,Fw c.N
def tI(x:K4):Qu:=⟨x.Op,x.A,x.B,⟨⟨x.N.Neg,x.N.N⟩,x.N.D⟩⟩
theorem Qhc(f:Qp)(k:Nat):Jd f (k:Int)=some (!decide (f.N.length<=k/\f.D.length<=k)):=by unfold Jd;simp only[jn_eq,bifd];by_cases h:(k:Int)<(f.N.length:Int);rw[oj h,ol om];rfl;rw[oi h];by_cases g:(k:Int)<(f.D.length:Int);rw[oq g,ol om];rfl;rw[ol g,oq om];rfl
theorem Qy9{n:Nat}{t:Vk}{many k:Nat}(j:big<=n)(m:many<=1000000):∃ v,Zd n t (many:Int) (k:Int)=some v/\(v=false->t.Code.length<=many/\t.Ar.length<=many/\∀ c∈t.Code,c.N.N.length<=k/\c.N.D.length<=k):=by unfold Zd;rw[Qxe (λi=>∀ c,t.Code[i]?=some c->c.N.N.length<=k/\c.N.D.length<=k) (min t.Code.length many) (r:=true)];by_cases h:∀ i,i<min t.Code.length many->∀ c,t.Code[i]?=some c->c.N.N.length<=k/\c.N.D.length<=k;rw[oj h];simp only[jn_eq,bifd];by_cases e:(many:Int)<(t.Code.length:Int);rw[oj e];exact⟨true,rfl,λh=>by cases h⟩;rw[oi e];refine⟨_,rfl,λl=>⟨om,by have:=of_decide_eq_false l;omega,λc f=>?_⟩⟩;obtain⟨i,hi⟩:=ud f;exact h i (by have:=Jg hi;omega) c hi;rw[oi h];exact⟨true,rfl,λh=>by cases h⟩;intro i hi;have a:t.Code[i]?=some t.Code[i]:=ot om;generalize t.Code[i]=c at a;simp only[jn_eq,bifd];rw[oj om,oj om,Wc a,sbind,Qhc,sbind];by_cases h:c.N.N.length<=k/\c.N.D.length<=k;rw[oq h,ow,bifF,w1 om];exact⟨λ_=>rfl,λg=>absurd (λd hd=>by rw[a] at hd;cases hd;exact h) g⟩;rw[ol h,xo,bifT];exact⟨λg=>absurd (g c a) h,λ_=>rfl⟩;simp only[jn_eq,bifd];by_cases h:min t.Code.length many<t.Code.length;rw[oj om,oi om];rw[oi om,bifF];unfold big at j;omega
theorem Q32{n:Nat}{t:Vk}(d:big<=n)(e:t.Code.length<=1000000)(f:t.Ar.length<=1000000):Z7 n t=some ⟨t.Code.map tI,t.Ar,t.Dim,t.Par⟩:=by unfold Z7;rw[Jk oh oh,sbind];rw[Qov (λi=>((t.Code.take i).map tI,(i:Int))) t.Code.length (t.Code.map tI)];rfl;intro i hi;have a:t.Code[i]?=some t.Code[i]:=ot hi;generalize t.Code[i]=p at a;simp only[bifd,J6,sbind];rw[oj om,Wc a,sbind,Jk oh oh,sbind,w1 om,Zv tI a];rfl;simp only[bifd];rw[oi om,yn];unfold big at d;omega;rfl
def tF(x:Qp):Qa:=⟨⟨x.Neg,x.N⟩,x.D⟩
theorem Qdf{n:Nat}{l:List Qp}(d:big<=n)(e:l.length<=1000000):V0 n l=some (l.map tF):=by unfold V0;rw[Qov (λi=>((l.take i).map tF,(i:Int))) l.length (l.map tF)];intro i hi;have a:l[i]?=some l[i]:=ot hi;generalize l[i]=p at a;simp only[bifd,J6,sbind];rw[oj om,Wc a,sbind,Jk oh oh,sbind,w1 om,Zv tF a];rfl;simp only[bifd];rw[oi om,yn];unfold big at d;omega;rfl
theorem Q33{n:Nat}{l:List (List Qp)}(d:big<=n)(f:l.length<=1000000)(e:∀ r∈l,r.length<=1000000):Z8 n l=some (l.map (·.map tF)):=by unfold Z8;rw[Qov (λi=>((l.take i).map (·.map tF),(i:Int))) l.length (l.map (·.map tF))];intro i hi;have a:l[i]?=some l[i]:=ot hi;generalize l[i]=p at a;simp only[bifd];rw[oj om,Wc a,sbind,Qdf d (e p (Q3 a)),sbind,Jk oh oh,sbind,w1 om,Zv (·.map tF) a];simp only[bifd];rw[oi om,yn];unfold big at d;omega;rfl
def FL(many k:Nat)(l:List Qp):Prop:=l.length<=many/\∀ x∈l,x.N.length<=k/\x.D.length<=k
theorem Qbn{n:Nat}{l:List Qp}{many k:Nat}(j:big<=n)(m:many<=1000000):∃ v,Jy n l (many:Int) (k:Int)=some v/\(v=false->FL many k l):=by unfold Jy;rw[Qxe (λi=>∀ c,l[i]?=some c->c.N.length<=k/\c.D.length<=k) (min l.length many) (r:=true)];by_cases h:∀ i,i<min l.length many->∀ c,l[i]?=some c->c.N.length<=k/\c.D.length<=k;rw[oj h];refine⟨_,rfl,λe=>⟨by have:=of_decide_eq_false e;omega,λc f=>?_⟩⟩;have:=of_decide_eq_false e;obtain⟨i,hi⟩:=ud f;exact h i (by have:=Jg hi;omega) c hi;rw[oi h];exact⟨true,rfl,λh=>by cases h⟩;intro i hi;have a:l[i]?=some l[i]:=ot om;generalize l[i]=c at a;simp only[jn_eq,bifd];rw[oj om,oj om,Wc a,sbind,Qhc,sbind];by_cases h:c.N.length<=k/\c.D.length<=k;rw[oq h,ow,bifF,w1 om];exact⟨λ_=>rfl,λg=>absurd (λd hd=>by rw[a] at hd;cases hd;exact h) g⟩;rw[ol h,xo,bifT];exact⟨λg=>absurd (g c a) h,λ_=>rfl⟩;simp only[jn_eq,bifd];by_cases h:min l.length many<l.length;rw[oj om,oi om];rw[oi om,bifF];unfold big at j;omega
theorem Qza{n:Nat}{s:K5}{many k:Nat}(j:big<=n)(m:many<=1000000):∃ v,Ze n s (many:Int) (k:Int)=some v /\
 (v=false->s.As.length<=50/\s.A.length<=many/\FL many k s.B/\FL many k s.C/\FL many k s.E/\∀ r∈s.A,FL many k r):=by
 unfold Ze;simp only[jn_eq,bifd];by_cases w:(50:Int)<(s.As.length:Int)
 . rw[oj w];exact⟨true,rfl,λh=>by cases h⟩
 rw[oi w];by_cases x:(many:Int)<(s.A.length:Int)
 . rw[oj x];exact⟨true,rfl,λh=>by cases h⟩
 rw[oi x];obtain⟨b,A,B⟩:=Qbn (l:=s.B) (k:=k) j m;rw[A,sbind];cases b
 case true=>exact⟨true,rfl,λh=>by cases h⟩
 rw[bifF];obtain⟨c,C,E⟩:=Qbn (l:=s.C) (k:=k) j m;rw[C,sbind];cases c
 case true=>exact⟨true,rfl,λh=>by cases h⟩
 rw[bifF];obtain⟨e,F,G⟩:=Qbn (l:=s.E) (k:=k) j m;rw[F,sbind];cases e
 case true=>exact⟨true,rfl,λh=>by cases h⟩
 rw[bifF];have y:∀ r,∃ v,Jy n r (many:Int) (k:Int)=some v/\(v=false->FL many k r):=λr=>Qbn j m
 have H:=Qxe (f:=λ(a:Int)=>
  if a<(s.A.length:Int) then (
   (getI s.A a).bind λt=>
   (Jy n t (many:Int) (k:Int)).bind λq=>
   bif q then (
    some (Lp.out (Lp.out (true))))
   else (
    some (Lp.go (wrap64 (a+(1:Int))))))
  else (
   some (Lp.out (Lp.go ())))) (n:=n) (K:=λ(_:Unit)=>some false) (r:=true) (λi=>∀ r,s.A[i]?=some r->Jy n r (many:Int) (k:Int)=some false) s.A.length (λi hi=>by
  have p:s.A[i]?=some s.A[i]:=ot hi;generalize s.A[i]=r at p;obtain⟨v,g1,u⟩:=y r;rw[oj om,Wc p,sbind,g1,sbind];cases v
  . rw[bifF,w1 om]
    exact⟨λ_=>rfl,λg=>absurd (λd hd=>by rw[p] at hd;cases hd;exact g1) g⟩
  . rw[bifT]
    exact⟨λg=>(by have:=g r p;rw[g1] at this;cases this),λ_=>rfl⟩) (by rw[oi om]) (by unfold big at j;omega)
 rw[H];by_cases h:∀ i,i<s.A.length->∀ r,s.A[i]?=some r->Jy n r (many:Int) (k:Int)=some false
 . rw[oj h]
   refine⟨false,rfl,λ_=>⟨om,om,B rfl,E rfl,G rfl,λr hr=>?_⟩⟩;obtain⟨i,hi⟩:=ud hr;obtain⟨v,g1,u⟩:=y r;have:=h i (Jg hi) r hi;rw[g1] at this;exact u (Option.some.inj this)
 . rw[oi h];exact⟨true,rfl,λh=>by cases h⟩
theorem Qzb{n:Nat}{p:J0}{a b k:Nat}(d:big<=n)(q:a<=1000000)(w:b<=1000000):∃ v,Zf n p (a:Int) (b:Int) (k:Int)=some v /\
 (v=false->(p.Tape.Code.length<=a/\p.Tape.Ar.length<=a/\∀ c∈p.Tape.Code,c.N.N.length<=k/\c.N.D.length<=k)/\(p.Ao.As.length<=50/\p.Ao.A.length<=b/\FL b 4 p.Ao.B/\FL b 4 p.Ao.C/\FL b 4 p.Ao.E/\∀ r∈p.Ao.A,FL b 4 r)/\FL 6 k p.P):=by
 unfold Zf;simp only[jn_eq];obtain⟨u,g,i⟩:=Qy9 (t:=p.Tape) (k:=k) d q;rw[g,sbind];cases u
 case true=>exact⟨true,rfl,λh=>by cases h⟩
 rw[bifF];obtain⟨u,e,j⟩:=Qza (s:=p.Ao) (k:=4) d w;rw[show((4:Nat):Int)=4 from rfl] at e;rw[e,sbind];cases u
 case true=>exact⟨true,rfl,λh=>by cases h⟩
 rw[bifF];obtain⟨u,f,m⟩:=Qbn (l:=p.P) (many:=6) (k:=k) d oy;rw[show((6:Nat):Int)=6 from rfl] at f;rw[f,sbind];exact⟨u,rfl,λh=>⟨i rfl,j rfl,m h⟩⟩
def tS(s:K5):Ql:=⟨s.As,s.C.map tF,s.A.map (·.map tF),s.B.map tF,s.E.map tF⟩
def tT(t:Vk):Qv:=⟨t.Code.map tI,t.Ar,t.Dim,t.Par⟩
def tP(p:J0):Qq:=⟨tT p.Tape,tS p.Ao,p.P.map tF,p.Az⟩
theorem Q34{n:Nat}{p:J0}(a:big<=n)(d:p.Tape.Code.length<=1000000)(e:p.Tape.Ar.length<=1000000)(f:p.Ao.A.length<=1000000)(g:p.Ao.B.length<=1000000)(i:p.Ao.C.length<=1000000)(j:p.Ao.E.length<=1000000)
 (k:∀ r∈p.Ao.A,r.length<=1000000) (l:p.P.length<=1000000):Z9 n p=some (tP p):=by
 unfold Z9 Qb3;rw[Q32 a d e,sbind,Qdf a i,sbind,Q33 a f k,sbind,Qdf a g,sbind,Qdf a j,sbind,sbind,Qdf a l,sbind];rfl
theorem Qox{α:Type}{l:List α}{P:α->Prop}:(∀(i:Nat) x,l[i]?=some x->P x)↔∀ a∈l,P a:=by constructor;intro h a d;obtain⟨j,e⟩:=ud d;exact h j a e;intro h i x f;exact h x (Q3 f)
noncomputable def dP(p:Prop):Bool:=@decide p (Classical.propDecidable p)
theorem decP{p:Prop}[Decidable p]:decide p=dP p:=by unfold dP;congr
theorem dP_t{p:Prop}(h:p):dP p=true:=by unfold dP;exact @decide_eq_true p (Classical.propDecidable p) h
theorem dP_f{p:Prop}(h:¬ p):dP p=false:=by unfold dP;exact @decide_eq_false p (Classical.propDecidable p) h
theorem dP_c{p q:Prop}(h:p↔q):dP p=dP q:=by rw[show p=q from propext h]
theorem Qec{p q:Prop}[Decidable p](h:p↔q):some (decide p)=some (dP q):=by rw[decP,dP_c h]
theorem Q9n{p q:Prop}(h:p↔q):some (dP p)=some (dP q):=by rw[dP_c h]
theorem Qv2{p q r:Prop}[Decidable p][Decidable q](h:p/\q↔r):(if p then some (decide q) else some false)=some (dP r):=by by_cases a:p;rw[oj a];exact Qec ⟨λd=>h.1 ⟨a,d⟩,λhr=>(h.2 hr).2⟩;rw[oi a,dP_f λhr=>a (h.2 hr).1]
theorem Jjy{p q r:Prop}[Decidable p](h:p/\q↔r):(if p then some (dP q) else some false)=some (dP r):=by by_cases a:p;rw[oj a];exact Q9n ⟨λd=>h.1 ⟨a,d⟩,λhr=>(h.2 hr).2⟩;rw[oi a,dP_f λhr=>a (h.2 hr).1]
def blankF(f:Qa):Prop:=f.Num.Neg=false/\f.Num.A2=[]/\f.Den=[]
theorem Qzc(f:Qa):Qho f=some (dP (blankF f)):=by unfold Qho blankF;obtain⟨⟨s,a⟩,d⟩:=f;simp only[jn_eq];cases s;simp only[xo,bifT,bifd];refine Qv2 ⟨λh=>⟨trivial,xg om,xg om⟩,λh=>?_⟩;obtain⟨_,rfl,rfl⟩:=h;exact⟨rfl,rfl⟩;simp only[ow,bifF];rw[dP_f λh=>by cases h.1]
theorem bifP{α:Type}(p:Prop)(a b:α):(bif dP p then a else b)=@ite _ p (Classical.propDecidable p) a b:=by by_cases h:p;rw[dP_t h,oj h];rfl;rw[dP_f h,oi h];rfl
theorem bifnP{α:Type}(p:Prop)(a b:α):(bif !dP p then a else b)=@ite _ p (Classical.propDecidable p) b a:=by by_cases h:p;rw[dP_t h,oj h];rfl;rw[dP_f h,oi h];rfl
def mayR(t:Qv)(i:Nat)(x:Qu):Prop:=
 if x.Op=1 then x.A=0/\x.B=0/\x.N=toF (fv x.N) else
 blankF x.N/\(∀ r∈rdT x,0<=r/\r<(i:Int)) /\
 if x.Op=2 then x.A=0/\x.B=0 else if x.Op=3 then (0<=x.A/\x.A<t.Dim)/\x.B=0 else if x.Op=4 then (0<=x.A/\x.A<t.Par)/\x.B=0 else
 if x.Op=6 then x.B=0 else if x.Op=11 then -8<=x.B/\x.B<=8 else (rdT x).length=2
theorem Q35{n:Nat}{t:Qv}{i:Nat}{x:Qu}(u:big<=n)(v:Fw x.N)(w:t.Code[i]?=some x):Qii n t (i:Int)=some (dP (mayR t i x)):=by
 unfold Qii mayR;rw[Wc w,sbind,bifd];by_cases e:x.Op=1
 have k:(if x.Op=1 then x.A=0/\x.B=0/\x.N=toF (fv x.N) else blankF x.N/\(∀ r∈rdT x,0<=r/\r<(i:Int)) /\
  if x.Op=2 then x.A=0/\x.B=0 else if x.Op=3 then (0<=x.A/\x.A<t.Dim)/\x.B=0 else if x.Op=4 then (0<=x.A/\x.A<t.Par)/\x.B=0 else
  if x.Op=6 then x.B=0 else if x.Op=11 then -8<=x.B/\x.B<=8 else (rdT x).length=2)=(x.A=0/\x.B=0/\x.N=toF (fv x.N)):=oj e
 simp only[k];rw[oj e];have s:=Qpr u v;simp only[jn_eq,Qke,sbind];have q:Qap (⟨x.Op,x.A,x.B⟩:Ku) ⟨1,0,0⟩=decide (x.A=0/\x.B=0):=by unfold Qap;simp only[e];by_cases a:x.A=0<;>by_cases b:x.B=0<;>simp[a,b]
 rw[q,s,sbind,bifd];rw[@decP _ (Classical.propDecidable _)];refine Jjy ⟨λh=>⟨h.1.1,h.1.2,h.2⟩,λh=>⟨⟨h.1,h.2.1⟩,h.2.2⟩⟩
 have k:(if x.Op=1 then x.A=0/\x.B=0/\x.N=toF (fv x.N) else blankF x.N/\(∀ r∈rdT x,0<=r/\r<(i:Int)) /\
  if x.Op=2 then x.A=0/\x.B=0 else if x.Op=3 then (0<=x.A/\x.A<t.Dim)/\x.B=0 else if x.Op=4 then (0<=x.A/\x.A<t.Par)/\x.B=0 else
  if x.Op=6 then x.B=0 else if x.Op=11 then -8<=x.B/\x.B<=8 else (rdT x).length=2)=(blankF x.N/\(∀ r∈rdT x,0<=r/\r<(i:Int)) /\
  if x.Op=2 then x.A=0/\x.B=0 else if x.Op=3 then (0<=x.A/\x.A<t.Dim)/\x.B=0 else if x.Op=4 then (0<=x.A/\x.A<t.Par)/\x.B=0 else
  if x.Op=6 then x.B=0 else if x.Op=11 then -8<=x.B/\x.B<=8 else (rdT x).length=2):=oi e
 simp only[k];rw[oi e,Qzc,sbind,bifnP];by_cases f:blankF x.N;rw[oj f,Qy8,sbind,Qdw (λ_ (r:Int)=>0<=r/\r<(i:Int)) (r:=false)];rw[Qox];by_cases hr:∀ r∈rdT x,0<=r/\r<(i:Int);rw[oj hr];have fin:∀ {o:Option Bool}{p:Prop},o=some (dP p)->o=some (dP (blankF x.N/\(∀ r∈rdT x,0<=r/\r<(i:Int))/\p)):=λh=>h.trans (Q9n ⟨λg=>⟨f,hr,g⟩,λg=>g.2.2⟩);refine fin ?_;simp only[jn_eq,Qke,sbind,Qhb,bifd];by_cases l:x.Op=2;simp only[oj l];refine ur some ?_;unfold Qap;simp only[l];rw[<-decP];by_cases a:x.A=0<;>by_cases b:x.B=0<;>simp[a,b];simp only[oi l];by_cases g3:x.Op=3;simp only[oj g3];exact Qv2 Iff.rfl;simp only[oi g3];by_cases g4:x.Op=4;simp only[oj g4];exact Qv2 Iff.rfl;simp only[oi g4];by_cases m:x.Op=6;simp only[oj m];exact Qec Iff.rfl;simp only[oi m];by_cases d:x.Op=11;simp only[oj d];exact Qv2 Iff.rfl;simp only[oi d];exact Qec om;rw[oi hr,dP_f λh=>hr h.2.1];intro j r _;simp only[Qhb,sbind];constructor;intro h;rw[oq h];rfl;intro h;rw[ol h];rfl;rw[oi f,dP_f λh=>f h.1]
def wholeR(t:Qv):Prop:=(1<=t.Dim/\t.Dim<=6)/\(0<=t.Par/\t.Par<=6)/\(t.Ar.length:Int)=t.Dim/\t.Code.length<=300
def tapeR(t:Qv):Prop:=wholeR t/\(∀(i:Nat) x,t.Code[i]?=some x->mayR t i x)/\∀ o∈t.Ar,0<=o/\o<(t.Code.length:Int)
theorem Qzd(t:Qv)(h:-9223372036854775808<=t.Dim/\t.Dim<=9223372036854775807):Qhn t=some (dP (wholeR t)):=by
 unfold Qhn wholeR;simp only[jn_eq,Qhb,sbind,bifd];have d:(0<=wrap64 (t.Dim - 1)/\wrap64 (t.Dim - 1)<6)↔(0<=t.Dim - 1/\t.Dim - 1<6):=by unfold wrap64;omega
 by_cases g1:0<=t.Dim - 1/\t.Dim - 1<6;rw[oj (d.2 g1)];by_cases a:0<=t.Par/\t.Par<7;rw[oj a];by_cases g3:(t.Ar.length:Int)=t.Dim;rw[oj g3];exact Qec om;rw[oi g3,dP_f om];rw[oi a,dP_f om];rw[oi (λh=>g1 (d.1 h)),dP_f om]
theorem Ja4{R:Type}{f:Nat->Qu->Unit->Option (Lp Unit R)}{K:Unit->Option R}{xs:List Qu}(P:Nat->Qu->Prop)(r:Nat->R)
 (d:∀ i x,xs[i]?=some x->(P i x->f i x ()=some (.go ()))/\(¬ P i x->f i x ()=some (.out (r i)))) :
 ((∀(i:Nat) x,xs[i]?=some x->P i x)/\(rangeL f xs 0 ()).bind (lpK K)=K ())\/(¬(∀(i:Nat) x,xs[i]?=some x->P i x)/\∃ j,(rangeL f xs 0 ()).bind (lpK K)=some (r j)):=by
 have key:∀(xs:List Qu) (k:Nat),(∀ i x,xs[i]?=some x->(P (k+i) x->f (k+i) x ()=some (.go ()))/\(¬ P (k+i) x->f (k+i) x ()=some (.out (r (k+i))))) ->
  ((∀(i:Nat) x,xs[i]?=some x->P (k+i) x)/\(rangeL f xs k ()).bind (lpK K)=K ())\/(¬(∀(i:Nat) x,xs[i]?=some x->P (k+i) x)/\∃ j,(rangeL f xs k ()).bind (lpK K)=some (r j)):=by
  intro xs
  induction xs with
  | nil=>intro k _;exact .inl ⟨λi x h=>by simp at h,rfl⟩
  | cons x xs n=>
    intro k d;have h0:=d 0 x rfl;simp only[xp] at h0;by_cases e:P k x;have:=n (k+1) (λi y a=>by have:=d (i+1) y (by simpa using a);rw[show k+(i+1)=k+1+i by omega] at this;exact this);simp only[rangeL,h0.1 e,sbind];rcases this with ⟨g,l⟩ | ⟨g,l⟩;refine .inl ⟨λi y a=>?_,l⟩;cases i with
    | zero=>simp at a;subst a;exact e
    | succ i=>rw[show k+(i+1)=k+1+i by omega];exact g i y (by simpa using a)
    refine .inr ⟨λh=>g λi y a=>?_,l⟩;have:=h (i+1) y (by simpa using a);rwa [show k+(i+1)=k+1+i by omega] at this;refine .inr ⟨λh=>e (h 0 x rfl),k,?_⟩;simp only[rangeL,h0.2 e,sbind];rfl
 have:=key xs 0 (λi x m=>by rw[xr];exact d i x m);simp only[xr] at this;exact this
theorem Qpv{n:Nat}{t:Qv}(p:big<=n)(q:TW t)(hd:-9223372036854775808<=t.Dim/\t.Dim<=9223372036854775807):Z4 n t=some (dP (tapeR t)):=by
 unfold Z4 Qkw;rw[Qzd t hd,sbind,bifnP];by_cases e:wholeR t;rw[oj e]
 have key:=Ja4 (K:=λ(_:Unit)=>(rangeL (λ(_:Nat) (l:Int) (_:Unit)=>
  (Yj l (t.Code.length:Int)).bind λk=>
  bif !k then (
   some (Lp.out ((t.Code.length:Int))))
  else (
   some (Lp.go ()))) t.Ar 0 ()).bind (lpK λ(_:Unit)=>
 some (-1:Int))) (f:=λ(a:Nat) (_:Qu) (_:Unit)=>
  (Qii n t (a:Int)).bind λg=>
  bif !g then (
   some (Lp.out ((a:Int))))
  else (
   some (Lp.go ()))) (xs:=t.Code) (λi x=>mayR t i x) (λi=>(i:Int)) (λi x m=>by
  rw[Q35 p (q x (Q3 m)) m,sbind];constructor;intro h;rw[dP_t h];rfl
  intro h;rw[dP_f h];rfl)
 rcases key with ⟨k1,k2⟩ | ⟨k1,j,k2⟩;rw[k2,Qdw (λ_ (o:Int)=>0<=o/\o<(t.Code.length:Int)) (r:=(t.Code.length:Int))];rw[Qox];by_cases d:∀ o∈t.Ar,0<=o/\o<(t.Code.length:Int);rw[oj d,sbind];exact Qec ⟨λ_=>⟨e,k1,d⟩,λ_=>rfl⟩;rw[oi d,sbind];exact Qec ⟨λh=>om,λh=>absurd h.2.2 d⟩;intro i o _;simp only[Qhb,sbind];constructor;intro h;rw[oq h];rfl;intro h;rw[ol h];rfl;rw[k2,sbind];exact Qec ⟨λh=>om,λh=>absurd h.2.1 k1⟩;rw[oi e,sbind];exact Qec ⟨λh=>om,λh=>absurd h.1 e⟩
theorem Qbh(f:Qc):Qr f f=true:=by simp[Qr]
theorem Qci{k a b c:Int}(h:k≠0):Qr ⟨k,a,b,c⟩ ⟨0,0,0,0⟩=false:=by unfold Qr;rw[show(k == 0)=false by simpa using h];rfl
def noteG(g:Qk)(q:Rat):Qk:=⟨⟨wrap64 (g.Count.Seen+1),max g.Count.Peak (qz q:Int)⟩,g.limit⟩
theorem Q2m{n:Nat}{g:Qk}{q:Rat}(a:big<=n)(d:qw q<1099511627776):Wr n g (toF q)=some (decide ((qz q:Int)<=g.limit),noteG g q):=by unfold Wr Qbi;rw[Qps a d,sbind,sbind];rfl
def fitQ(a:Int):List Rat->Nat->Option Nat
 | [],_=>none
 | q::l,i=>if (qz q:Int)<=a then fitQ a l (i+1) else some i
theorem Je2{n:Nat}{g:Qk}{l:List Rat}(s:big<=n)(e:QR 1099511627775 l):
 ∃ a,a.limit=g.limit/\W6 n g (toR l)=some (match fitQ g.limit l 0 with | none=>((l.length:Int),true,a) | some i=>((i:Int),false,a)):=by
 unfold W6
 have key:∀(l:List Rat) (i:Nat) (g:Qk) (K:Qk->Option (Int×Bool×Qk)),QR 1099511627775 l->∃ a,a.limit=g.limit /\
  (rangeL (λ(k:Nat) (r:Qa) (m:Qk)=>
   (Wr n m r).bind λd=>
   bif !d.1 then (some (Lp.out (((k:Int),false,d.2)))) else (some (Lp.go d.2))) (toR l) i g).bind (lpK K)=match fitQ g.limit l i with | none=>K a | some i=>some ((i:Int),false,a):=by
  intro l
  induction l with
  | nil=>intro i g K _;exact⟨g,rfl,rfl⟩
  | cons q l u=>
    intro i g K e;simp only[toR,xw,rangeL,fitQ];rw[Q2m s (by have:=e q (.head _);omega),sbind];simp only[];by_cases h:(qz q:Int)<=g.limit;rw[oq h,oj h,ow,bifF,sbind];obtain⟨a,f,j⟩:=u (i+1) (noteG g q) K λx t=>e x (.tail _ t);exact⟨a,f,j⟩;rw[ol h,oi h,xo,bifT,sbind];exact⟨noteG g q,rfl,rfl⟩
 obtain⟨a,f,j⟩:=key l 0 g (λp=>some (((toR l).length:Int),true,p)) e;refine⟨a,f,?_⟩;rw[j,Qah];cases fitQ g.limit l 0<;>rfl
def opQ(x:Qu)(T:Rat)(Y P done:List Rat):Option Rat:=
 if x.Op=6 then some (-done.getD x.A.toNat 0) else
 if x.Op=11 then (if x.B < -8\/8<x.B\/(x.B<0/\done.getD x.A.toNat 0=0) then none else some (done.getD x.A.toNat 0 ^ x.B)) else
 if x.Op=7 then some (done.getD x.A.toNat 0+done.getD x.B.toNat 0) else
 if x.Op=8 then some (done.getD x.A.toNat 0 - done.getD x.B.toNat 0) else
 if x.Op=9 then some (done.getD x.A.toNat 0*done.getD x.B.toNat 0) else
 if x.Op=10 then (if done.getD x.B.toNat 0=0 then none else some (done.getD x.A.toNat 0 / done.getD x.B.toNat 0)) else
 if x.Op=1 then some (fv x.N) else
 if x.Op=3 then some (Y.getD x.A.toNat 0) else
 if x.Op=4 then some (P.getD x.A.toNat 0) else some T
def runQ(a:Int)(T:Rat)(Y P:List Rat):List Qu->Nat->List Rat->(Int×Nat) ⊕ List Rat
 | [],_,done=>.inr done
 | x::c,i,done=>match opQ x T Y P done with
   | none=>.inl (3,i)
   | some q=>if (qz q:Int)<=a then runQ a T Y P c (i+1) (done++[q]) else .inl (6,i)
theorem Qoy{l:List Rat}{r:Int}(a:0<=r)(d:r<(l.length:Int)):getI (toR l) r=some (toF (l.getD r.toNat 0)):=by
 obtain⟨k,rfl⟩:∃ k:Nat,r=(k:Int):=⟨r.toNat,om⟩
 have hk:k<l.length:=om
 rw[Qh7,ue];unfold toR;rw[uo,ot hk,yz,ot hk];rfl
theorem Qnu{k:Nat}{l:List Rat}{i:Nat}(h:QR k l)(a:1<=k):qw (l.getD i 0)<=k:=by rw[yz];rcases xh i l.length with hi | hi;rw[ot hi];exact h _ (yu hi);rw[xe hi];show qw 0<=k;rw[Qir];exact a
theorem rdT_A{x:Qu}(h:x.Op=6\/x.Op=11\/x.Op=7\/x.Op=8\/x.Op=9\/x.Op=10):x.A∈rdT x:=by unfold rdT;by_cases a:x.Op=6\/x.Op=11;rw[oj a];simp;rw[oi a,oj om];simp
theorem rdT_B{x:Qu}(h:x.Op=7\/x.Op=8\/x.Op=9\/x.Op=10):x.B∈rdT x:=by unfold rdT;rw[oi om,oj om];simp
theorem Jg1{t:Qv}{i:Nat}{x:Qu}(h:mayR t i x):∀ r∈rdT x,0<=r/\r<(i:Int):=by unfold mayR at h;by_cases a:x.Op=1;intro r hr;unfold rdT at hr;rw[oi om,oi om] at hr;cases hr;rw[oi a] at h;exact h.2.1
theorem Jjz{t:Qv}{i:Nat}{x:Qu}(h:mayR t i x)(a:x.Op=3):0<=x.A/\x.A<t.Dim:=by unfold mayR at h;rw[oi om,oi om,oj a] at h;exact h.2.2.1
theorem Jj0{t:Qv}{i:Nat}{x:Qu}(h:mayR t i x)(a:x.Op=4):0<=x.A/\x.A<t.Par:=by unfold mayR at h;rw[oi om,oi om,oi om,oj a] at h;exact h.2.2.1
theorem Ja5{n k:Nat}{g:Qk}{t:Qv}{x:Qu}{T:Rat}{Y P done:List Rat}(f:big<=n)(e:1<=k)(hk:k<1048576)(p:mayR t done.length x)(w:Fk k x.N)
 (H:qw T<=k) (G:QR k Y) (F:QR k P) (u:QR k done) (K:(Y.length:Int)=t.Dim) (J:(P.length:Int)=t.Par) :
 ∃ v,Kl n g x ⟨toF T,toR Y,toR P⟩ (toR done)=some (match opQ x T Y P done with | none=>(v,false) | some q=>(toF q,true))/\∀ q,opQ x T Y P done=some q->qw q<=8*k+1:=by
 unfold Kl opQ;have m:=Jg1 p;have dA:x.Op=6\/x.Op=11\/x.Op=7\/x.Op=8\/x.Op=9\/x.Op=10->getI (toR done) x.A=some (toF (done.getD x.A.toNat 0)):=λh=>Qoy (m _ (rdT_A h)).1 (m _ (rdT_A h)).2;have dB:x.Op=7\/x.Op=8\/x.Op=9\/x.Op=10->getI (toR done) x.B=some (toF (done.getD x.B.toNat 0)):=λh=>Qoy (m _ (rdT_B h)).1 (m _ (rdT_B h)).2;have qA:qw (done.getD x.A.toNat 0)<=k:=Qnu u e;have qB:qw (done.getD x.B.toNat 0)<=k:=Qnu u e;generalize done.getD x.A.toNat 0=a at dA qA |-;generalize done.getD x.B.toNat 0=b at dB qB |-;have fA:Fk k (toF a):=Vg qA;have fB:Fk k (toF b):=Vg qB;simp only[bifd];by_cases A:x.Op=6
 . simp only[oj A]
   unfold Qeg;rw[dA om,sbind,Q3w f (Fk_Fw fA om),sbind,sbind,Kg];exact⟨toF 0,rfl,λq d=>by cases d;rw[Q6j];omega⟩
 simp only[oi A];by_cases l:x.Op=11
 . simp only[oj l]
   unfold Qeh;rw[dA om,sbind,Q3y f e om fA,sbind,Kg];refine⟨toF 0,?_,λq d=>?_⟩
   . split<;>rfl
   . split at d
     . cases d
     . rename_i I
       cases d;exact Jgz qA om
 simp only[oi l];by_cases B:x.Op=7
 . simp only[oj B]
   unfold Qei;rw[dA om,sbind,dB om,sbind,Qde f e om fA fB,sbind,sbind,Kg,Kg];exact⟨toF 0,rfl,λq d=>by cases d;have:=Qow qA qB;omega⟩
 simp only[oi B];by_cases C:x.Op=8
 . simp only[oj C]
   unfold Qej;rw[dA om,sbind,dB om,sbind,Qtu f e om fA fB,sbind,sbind,Kg,Kg];exact⟨toF 0,rfl,λq d=>by cases d;have:=Q6k qA qB;omega⟩
 simp only[oi C];by_cases E:x.Op=9
 . simp only[oj E]
   unfold Qek;rw[dA om,sbind,dB om,sbind,Qbt f e om fA fB,sbind,sbind,Kg,Kg];exact⟨toF 0,rfl,λq d=>by cases d;have:=Qff qA qB;omega⟩
 simp only[oi E];by_cases j:x.Op=10
 . simp only[oj j]
   unfold Qel;rw[dA om,sbind,dB om,sbind,Qtv f e om fA fB,sbind,Kg,Kg];refine⟨toF 0,?_,λq d=>?_⟩
   . split<;>rfl
   . split at d
     . cases d
     . cases d
       have:=Jcu qA qB;omega
 simp only[oi j];unfold V8;simp only[bifd];by_cases y:x.Op=1
 . simp only[oj y]
   unfold Qfr;rw[Vf f (Fk_Fw w om),sbind,sbind,sbind];exact⟨toF 0,rfl,λq d=>by cases d;have:=qw_fv w e;omega⟩
 simp only[oi y];by_cases r:x.Op=3
 . simp only[oj r]
   obtain⟨a1,a2⟩:=Jjz p r;rw[Qoy a1 om,sbind,sbind];exact⟨toF 0,rfl,λq d=>by cases d;have:=Qnu (i:=x.A.toNat) G e;omega⟩
 simp only[oi r];by_cases s:x.Op=4
 . simp only[oj s]
   obtain⟨a1,a2⟩:=Jj0 p s;rw[Qoy a1 om,sbind,sbind];exact⟨toF 0,rfl,λq d=>by cases d;have:=Qnu (i:=x.A.toNat) F e;omega⟩
 simp only[oi s];exact⟨toF 0,rfl,λq d=>by cases d;omega⟩
theorem Je3(l:List Rat)(q:Rat):toR l++[toF q]=toR (l++[q]):=by unfold toR;simp
theorem Je4{n k:Nat}{g:Qk}{t:Qv}{T:Rat}{Y P:List Rat}(I:big<=n)(h1:129<=k)(hk:k<1048576)(W:tapeR t)(Q:Z4 n t=some true)(w:∀ c∈t.Code,Fk k c.N)
 (R:qw T<=k) (S:QR k Y) (O:QR k P) (p:(Y.length:Int)=t.Dim) (J:(P.length:Int)=t.Par) (A:g.limit<=4096) :
 ∃ f,Vi n g t ⟨toF T,toR Y,toR P⟩=some (match runQ g.limit T Y P t.Code 0 [] with | .inl e=>([],⟨e.1,0,0,(e.2:Int)⟩,f) | .inr l=>(toR l,⟨0,0,0,0⟩,f)):=by
 unfold Vi;simp only[jn_eq,Q,sbind,ow,bifF];rw[Qah,Qah,oq p,oq J,ow,bifF,bifF]
 have key:∀(c:List Qu) (done:List Rat) (g:Qk) (K:Qk×List Qa->Option (List Qa×Qc×Qk)),(∀(j:Nat) x,c[j]?=some x->mayR t (done.length+j) x)->(∀ x∈c,Fk k x.N)->QR k done->g.limit<=4096->done.length+c.length<=300 ->
  ∃ f,(rangeL (λ(s:Nat) (E:Qu) (d:Qk×(List Qa))=>
    (Kl n d.1 E ⟨toF T,toR Y,toR P⟩ d.2).bind λi=>
    bif !i.2 then (
     some (Lp.out ((([]:List Qa),(⟨(3:Int),0,0,(s:Int)⟩:Qc),d.1))))
    else (
     (Qbc n d.1 i.1).bind λm=>
     bif !m.1 then (
      some (Lp.out ((([]:List Qa),(⟨(6:Int),0,0,(s:Int)⟩:Qc),m.2))))
     else (
      (appM 56 d.2 ([i.1]:List Qa)).bind λF=>
      some (Lp.go (m.2,F))))) c done.length (g,toR done)).bind (lpK K)=match runQ g.limit T Y P c done.length done with | .inl e=>some ([],⟨e.1,0,0,(e.2:Int)⟩,f) | .inr l=>K (f,toR l):=by
  intro c
  induction c with
  | nil=>intro done g K _ _ _ _ _;exact⟨g,rfl⟩
  | cons x c Z=>
    intro done g K H w G A B;simp only[rangeL,runQ];obtain⟨v,M,N⟩:=Ja5 (g:=g) I om hk (by have:=H 0 x rfl;rwa [xp] at this) (w x (.head _)) R S O G p J;rw[M,sbind];cases U:opQ x T Y P done with
    | none=>exact⟨g,rfl⟩
    | some q=>
      have V:=N q U;simp only[ow,bifF];unfold Qbc;rw[Q2m I om,sbind,sbind];simp only[];by_cases hf:(qz q:Int)<=g.limit
      . rw[oq hf,oj hf,ow,bifF,Jk (by rw[Qah];simp at B |-;omega) (by rw[Qah];simp at B |-;omega),sbind,sbind]
        simp only[];have C:qw q<=k:=by have:=qw_qz (q:=q) (b:=4096) om;omega
        have a:(done++[q]).length=done.length+1:=oc
        obtain⟨f,h⟩:=Z (done++[q]) (noteG g q) K (λj y p=>by
         rw[a,show done.length+1+j=done.length+(j+1) by omega];exact H (j+1) y (by simpa using p)) (λy p=>w y (.tail _ p)) (λz r=>by
         rcases xk.1 r with r | r
         . exact G z r
         . rw[xq.1 r];exact C) A (by rw[a];simp at B;omega)
        refine⟨f,?_⟩;rw[a] at h;rw[Je3];exact h
      . rw[ol hf,oi hf,xo,bifT,sbind]
        exact⟨noteG g q,rfl⟩
 obtain⟨⟨d1,d2,d3,L⟩,m1,m2⟩:=W;obtain⟨f,h⟩:=key t.Code [] g (λu=>some (u.2,(⟨0,0,0,0⟩:Qc),u.1)) (λj x X=>by rw[show([]:List Rat).length+j=j by simp];exact m1 j x X) w (λ_ h=>by cases h) A (by simpa using L);refine⟨f,?_⟩;rw[show(([]:List Rat).length)=0 from rfl,show toR []=[] from rfl] at h;rw[h];cases runQ g.limit T Y P t.Code 0 []<;>rfl
end Go.Proofs.YteejhjpdcefgfaaGreatDoor
