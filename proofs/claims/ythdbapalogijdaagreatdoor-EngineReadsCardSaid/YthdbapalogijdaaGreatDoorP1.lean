import Derived.Test.YthdbapalogijdaaGreatDoorMod
namespace Go.Proofs.YthdbapalogijdaaGreatDoor
open Go Go.RowKit
variable{x i l k n r j y c d z P u v x2 e x4 vl v3 v4 o t:Nat}{α σ ρ τ β R:Type}{b a p m X:Bf}{q:Rat}{w:Qg}{f g:Qb}
def aq:Nat:=18446744073709551616
theorem aK{x:Int}(a:-9223372036854775808<=x)(d:x<=9223372036854775807):wrap64 x=x:=by grind[wrap64]
theorem ap(p:Prop)[Decidable p](a b:α):(bif decide p then a else b)=if p then a else b:=oh
theorem bB(p:Prop)[Decidable p](a b:α):(bif !decide p then a else b)=if p then b else a:=oh
theorem aj(a b:α):(bif true then a else b)=a:=oe
theorem ak(a b:α):(bif false then a else b)=b:=oe
theorem ai(A:(σ->Option ρ)->Option ρ)(k:σ->Option ρ):jn A k=A k:=oe
theorem Vp(k:τ->Option ρ)(t:τ):aS k (.go t)=k t:=oe
theorem Yy(k:τ->Option ρ)(r:ρ):aS k (.out r)=some r:=oe
theorem aa(a:α)(f:α->Option β):(some a).bind f=f a:=oe
theorem oW(l:List α)(i:Nat):ah l (i:Int)=l[i]?:=oe
theorem Wx{l:List α}(h:i<l.length):ah l (i:Int)=some l[i]:=by grind[oW]
theorem Yr(l:Be)(i:Nat):bv l (i:Int)=(l[i]?).map (·.toNat):=oe
theorem jL{l:Be}(h:i<l.length):bv l (i:Int)=some l[i].toNat:=by grind[Yr]
theorem dn{b:Bool}(h:b=true):eQ b=some ():=by rw[h];rfl
theorem qa{l:List α}(h:k<=l.length):sub l 0 (k:Int)=some (l.take k):=by simp_all[sub]
theorem Z1{l:List α}(a:i<=k)(h:k<=l.length):sub l (i:Int) (k:Int)=some ((l.take k).drop i):=by simp_all[sub]
theorem Jv{b:Nat}{l r:List α}(h:(l.length+r.length)*b<=140737488355328)(a:l.length+r.length<=9223372036854775807):az b l r=some (l++r):=by simp_all[az]
theorem lE{b:Nat}{z:α}(h:n*b<=140737488355328)(a:n<=9223372036854775807):iW b z (n:Int)=some (List.replicate n z):=by grind[iW]
theorem Fe{l r:Be}(a:l.length+r.length<=9223372036854775807):bG l r=some (l++r):=by simp_all[bG]
theorem Ff{σ τ:Type}{f:σ->Option (Lp σ τ)}(μ:σ->Nat)(I:σ->Prop)(Q:τ->Prop)
 (d:∀ s,I s->(∃ s',f s=some (.go s')/\I s'/\μ s'<μ s)\/(∃ t,f s=some (.out t)/\Q t)):∀(n:Nat) (s:σ),I s->μ s<n->∃ t,ae f n s=some t/\Q t
 | 0,_,_,h=>om
 | n+1,s,g,l=>by rcases d s g with ⟨s',e,a,i⟩ | ⟨t,e,a⟩;obtain⟨t,j,k⟩:=Ff μ I Q d n s' a om;grind[ae];grind[ae]
theorem Ws{f:σ->Option (Lp σ τ)}{s:σ}{k:τ->Option R}{r:R}(μ:σ->Nat)(I:σ->Prop)(Q:τ->Prop)(h0:I s)(d:μ s<n)
 (a:∀ s,I s->(∃ s',f s=some (.go s')/\I s'/\μ s'<μ s)\/(∃ t,f s=some (.out t)/\Q t)) (hk:∀ t,Q t->k t=some r):(ae f n s).bind k=some r:=by
 obtain⟨t,e,g⟩:=Ff μ I Q a n s h0 d;grind
theorem oX{f:σ->Option (Lp σ τ)}{s:σ}{k:τ->Option R}{P:R->Prop}(μ:σ->Nat)(I:σ->Prop)(Q:τ->Prop)(h0:I s)(d:μ s<n)
 (a:∀ s,I s->(∃ s',f s=some (.go s')/\I s'/\μ s'<μ s)\/(∃ t,f s=some (.out t)/\Q t)) (hk:∀ t,Q t->∃ r,k t=some r/\P r):∃ r,(ae f n s).bind k=some r/\P r:=by
 obtain⟨t,e,g⟩:=Ff μ I Q a n s h0 d;grind
theorem P0{f:σ->Option (Lp σ τ)}{s:σ}{k:τ->Option R}{g:β->R}{P:β->Prop}(μ:σ->Nat)(I:σ->Prop)(Q:τ->Prop)(h0:I s)(d:μ s<n)
 (a:∀ s,I s->(∃ s',f s=some (.go s')/\I s'/\μ s'<μ s)\/(∃ t,f s=some (.out t)/\Q t)) (hk:∀ t,Q t->∃ b,k t=some (g b)/\P b):∃ b,(ae f n s).bind k=some (g b)/\P b:=by
 obtain⟨t,e,i⟩:=Ff μ I Q a n s h0 d;grind
theorem V0{f:σ->Option (Lp σ τ)}{s s':σ}(h:f s=some (.go s')):ae f (n+1) s=ae f n s':=by grind[ae]
theorem je{x y:Option α}(h:x=y)(f:α->Option β){z:Option β}(a:y.bind f=z):x.bind f=z:=h ▸ a
theorem Jn8{J:(σ->Option ρ)->Option ρ}{K:σ->Option ρ}{X:Option ρ}(h:∀ k,k=K->J k=X):jn J K=X:=h K rfl
theorem JB{F:Nat->α->σ->Option (Lp σ τ)}{l:List α}{s:σ}{k:Lp σ τ->Option β}{X:Option β}(h:∀ f,f=F->(ao f l i s).bind k=X):(ao F l i s).bind k=X:=h F rfl
theorem ww{F:σ->Option (Lp σ τ)}{s:σ}{k:τ->Option β}{X:Option β}(h:∀ f,f=F->(ae f n s).bind k=X):(ae F n s).bind k=X:=h F rfl
theorem Jp{f:σ->Option (Lp σ τ)}{s:σ}{t:τ}(h:f s=some (.out t))(a:0<n):ae f n s=some t:=by
 obtain⟨m,rfl⟩:∃ m,n=m+1:=oo
 grind[ae]
theorem JC{α σ τ:Type}{f:Nat->α->σ->Option (Lp σ τ)}(I:Nat->σ->Prop):∀(xs:List α) (i:Nat) (s:σ),I i s->(∀ j x s,xs[j]?=some x->I (i+j) s->∃ s',f (i+j) x s=some (.go s')/\I (i+j+1) s') ->
 ∃ s',ao f xs i s=some (.go s')/\I (i+xs.length) s'
 | [],i,s,h,_=>⟨s,rfl,h⟩
 | x::xs,i,s,h,d=>by
   obtain⟨s1,e,a⟩:=d 0 x s rfl h;simp only[xg] at e a
   obtain⟨n,l,m⟩:=JC I xs (i+1) s1 a (λj y t g k=>by
    have:=d (j+1) y t (by simpa using g) (by rw[show i+(j+1)=i+1+j by omega];exact k);rw[show i+(j+1)=i+1+j by omega] at this
    omega)
   grind[ao]
theorem nV{f:Nat->α->σ->Option (Lp σ τ)}{xs:List α}{s:σ}{k:Lp σ τ->Option R}{r:R}(I:Nat->σ->Prop)(h0:I 0 s)
 (d:∀ j x s,xs[j]?=some x->I j s->∃ s',f j x s=some (.go s')/\I (j+1) s') (hk:∀ t,I xs.length t->k (.go t)=some r):(ao f xs 0 s).bind k=some r:=by
 obtain⟨s',g,i⟩:=JC I xs 0 s h0 (λj x s e a=>by rw[xx] at a |-;exact d j x s e a);grind
theorem JD{f:Nat->α->σ->Option (Lp σ τ)}{xs:List α}{s:σ}{k:Lp σ τ->Option R}{P:R->Prop}(I:Nat->σ->Prop)(h0:I 0 s)
 (d:∀ j x s,xs[j]?=some x->I j s->∃ s',f j x s=some (.go s')/\I (j+1) s') (hk:∀ t,I xs.length t->∃ r,k (.go t)=some r/\P r):∃ r,(ao f xs 0 s).bind k=some r/\P r:=by
 obtain⟨s',g,i⟩:=JC I xs 0 s h0 (λj x s e a=>by rw[xx] at a |-;exact d j x s e a);grind
def val:Bf->Nat
 | []=>0
 | x::a=>x+4294967296*val a
def bp(k:Nat):Nat:=4294967296 ^ k
theorem jf:bp 0=1:=oe
theorem W8(k:Nat):bp (k+1)=bp k*4294967296:=oe
theorem cB(h:j<=k):bp j<=bp k:=by simp_all[bp,ui]
theorem P1(k:Nat):0<bp k:=by grind[bp]
theorem BI(j k:Nat):bp (j+k)=bp j*bp k:=by grind[bp]
def Wd(a:Bf):Prop:=∀ x∈a,x<4294967296
def aN:Bf->Bf
 | []=>[]
 | x::a=>if aN a=[]/\x=0 then [] else x::aN a
def ay(n:Nat):Bf:=if n=0 then [] else n%4294967296::ay (n / 4294967296)
termination_by n
decreasing_by omega
theorem Vw:Wd []:=λ_ h=>by cases h
theorem Vc{x a}:Wd (x::a)↔x<4294967296/\Wd a:=by simp[Wd]
theorem Vo{a b}:Wd (a++b)↔Wd a/\Wd b:=by constructor;intro h;exact⟨λx d=>h x ol,λx d=>h x ol⟩;rintro⟨e,f⟩ x d;rcases yz.1 d with h | h;exact e x h;exact f x h
theorem wA{a k}(h:Wd a):Wd (a.take k):=λx d=>h x ol
theorem qb{a k}(h:Wd a):Wd (a.drop k):=λx d=>h x ol
theorem oY{k x}(h:x<4294967296):Wd (List.replicate k x):=λy a=>ol
theorem gW(h:Wd a)(hi:i<a.length):a[i]<4294967296:=h _ oh
theorem W3:ay 0=[]:=by simp[ay]
theorem iJ(h:n≠0):ay n=n%4294967296::ay (n / 4294967296):=by grind[ay]
theorem Q6(n:Nat):val (ay n)=n:=by
 induction n using Nat.strongRecOn with
 | _ n a=>
   grind[W3,iJ,val]
theorem Jh(n:Nat):Wd (ay n):=by
 induction n using Nat.strongRecOn with
 | _ n a=>
   grind[W3,Vw,iJ,Vc]
theorem Ke(h:Wd a):ay (val a)=aN a:=by
 induction a with
 | nil=>simp[val,W3,aN]
 | cons x a d=>
   obtain⟨j,f⟩:=Vc.1 h;have d:=d f;simp only[val,aN];by_cases e:val a=0;rw[e,W3] at d;rw[<-d,e];by_cases i:x=0;grind;rw[oq om,iJ om];grind;have g:aN a≠[]:=by grind[iJ]
   rw[oq ol,iJ om,show(x+4294967296*val a)%4294967296=x by omega,show(x+4294967296*val a) / 4294967296=val a by omega,d]
theorem Fg(a:Bf):val (aN a)=val a:=by
 induction a with
 | nil=>rfl
 | cons x a d=>
   grind[aN,val]
theorem P2(h:Wd a):Wd (aN a):=by rw[<-Ke h];exact Jh _
theorem Wy(a:Bf):(aN a).length<=a.length:=by
 induction a with
 | nil=>simp[aN]
 | cons x a d=>grind[aN]
theorem P3(h:aN a=[]):val a=0:=by rw[<-Fg,h];rfl
theorem P4(h:Wd a):aN a=[]↔val a=0:=by grind[P3,Ke,W3]
theorem P5(n:Nat):aN (ay n)=ay n:=by grind[Ke,Jh,Q6]
theorem JE(a:Bf):aN (a++[0])=aN a:=by
 induction a with
 | nil=>rfl
 | cons x a d=>grind[aN]
theorem P6(a:Bf)(h:x≠0):aN (a++[x])=a++[x]:=by
 induction a with
 | nil=>simp[aN,h]
 | cons y a d=>simp_all[aN]
theorem Y2(a b:Bf):val (a++b)=val a+bp a.length*val b:=by
 induction a with
 | nil=>simp[val,jf]
 | cons x a d=>grind[val,bp]
theorem V9(h:Wd a):val a<bp a.length:=by
 induction a with
 | nil=>simp[val,jf]
 | cons x a d=>
   grind[Vc,val,W8]
theorem oZ(k:Nat):val (List.replicate k 0)=0:=by
 induction k with
 | zero=>rfl
 | succ k a=>grind[val]
theorem Wn(h:n<bp k):(ay n).length<=k:=by
 induction k generalizing n with
 | zero=>simp_all[jf,W3]
 | succ k a=>
   grind[iJ,W8]
theorem Kd{a:List α}(h:k<a.length):a.take (k+1)=a.take k++[a[k]]:=by simp[]
theorem Yz(f:aq<=n)(g:a.length<=4611686018427387904):Zc n a=some (aN a):=by
 unfold Zc;unfold aq at f;refine Ws (λs=>s.toNat) (λs=>∃ k:Nat,s=k/\k<=a.length/\aN a=aN (a.take k)) (λt=>∃ k:Nat,t=k/\k<=a.length/\aN a=a.take k) ⟨a.length,rfl,xe _,oh⟩ om ?_ ?_;rintro s ⟨k,rfl,hk,e⟩;simp only[ai,ap];by_cases h0:0<k;obtain⟨j,rfl⟩:∃ j,k=j+1:=oo
 rw[ot om,aK om om,show((j+1:Nat):Int) - 1=(j:Nat) by omega,Wx om,aa];rw[Kd om] at e;by_cases d:a[j]=0;left;refine⟨(j:Nat),by simp[d],⟨j,rfl,om,?_⟩,om⟩;rw[e,d,JE];right;refine⟨((j+1:Nat):Int),by simp[d],j+1,rfl,hk,?_⟩;grind[Kd,P6];right;obtain rfl:k=0:=om
 exact⟨0,oh,0,rfl,xu _,by grind[aN]⟩;simp_all[qa]
theorem Jjr:gy (List.replicate (a.length+k) 0) a=a++List.replicate k 0:=by simp[gy,xc]
theorem JF(h:a.length+k<=35184372088832):rQ a (k:Int)=some (a++List.replicate k 0):=by unfold rQ;rw[aK om om,show((a.length:Int)+(k:Int))=((a.length+k:Nat):Int) by omega,lE om om,aa,Jjr]
theorem W2(d:aq<=n)(e:a.length<=35184372088832):W9 n a=some (aN a):=by unfold W9;have f:=Wy a;rw[Yz d om,aa,show 0=((0:Nat):Int) by rfl,JF om,aa];simp
theorem wB(e:aq<=n)(d:a.length<=4611686018427387904)(f:Wd a):oO n a=some (decide (val a=0)):=by simp_all[oO,Yz,P4]
theorem Fh(e:x<4294967296)(f:y<4294967296)(a:c<4294967296)(hd:d<4294967296):x*y+c+d<18446744073709551616:=by have:x*y<=4294967295*4294967295:=uo om om;omega
theorem JG(e:x<4294967296)(f:y<4294967296)(a:c<4294967296)(hd:d<4294967296):
 oM x y c d=some ((x*y+c+d) / 4294967296,(x*y+c+d)%4294967296):=by
 have h:=Fh e f a hd;unfold oM;rw[xb (show x*y<18446744073709551616 by omega),xb (show x*y+c<18446744073709551616 by omega),xb h,aa];grind
theorem JH(a:y<4294967296):x*4294967296 ||| y=x*4294967296+y:=by have:=Nat.two_pow_add_eq_or_of_lt (i:=32) (b:=y) om x;grind
theorem P7{h:Nat}(f:h<y)(a:l<4294967296)(g:y<4294967296):
 pY h l y=some ((h*4294967296+l) / y,(h*4294967296+l)%y,true):=by
 unfold pY;rw[ap,oq om,dn ol,aa,aa];rw[show(2:Nat) ^ 32=4294967296 by rfl,xb (show h*4294967296<18446744073709551616 by omega),JH a]
 have d:(h*4294967296+l) / y<4294967296:=wc om
 have e:(h*4294967296+l)%y<y:=yo _ om;grind
theorem We{p:List α}{y:α}{r:List α}(h:p.length=k):ah (p++y::r) (k:Int)=some y:=by grind[oW]
theorem Yi{p:List α}{y z:α}{r:List α}(h:p.length=k):(p++y::r).set (k:Int).toNat z=p++z::r:=oo
theorem Wo(a:Bf)(x:Nat):val (a++[x])=val a+bp a.length*x:=by grind[Y2,val]
theorem Jhn{l:List α}(h:k<l.length):l=l.take k++l[k]::l.drop (k+1):=oh
theorem P8{q:Bf}(I:m.length=a.length)(J:p.length+m.length+1+q.length<=4611686018427387904)(A:Wd m)(w:Wd a)(C:x<4294967296)(G:c<4294967296):
 ∃ r,pX (p++m++z::q) (p.length:Int) a x c=some (p++r++q)/\r.length=a.length+1/\Wd r/\val r=val m+x*val a+c:=by
 have key:∃ r,pX (p++m++z::q) (p.length:Int) a x c=some r/\∃ n,r=p++n++q/\n.length=a.length+1/\Wd n/\val n=val m+x*val a+c:=by
  unfold pX;refine JD (λj (s:Bf×Nat)=>∃ d,s.1=p++d++(m.drop j++z::q)/\d.length=j/\j<=a.length/\Wd d/\s.2<4294967296/\val d+bp j*s.2=val (m.take j)+x*val (a.take j)+c) ⟨[],oh,rfl,xu _,Vw,G,by simp[val,jf]⟩ ?_ ?_;rintro j y ⟨o,t⟩ B ⟨d,e,u,E,F,f,v⟩;simp only at e f v;subst e;have g:j<a.length:=by rcases yx j a.length with h | h;exact h;simp[uf h] at B
  have H:a[j]=y:=by simpa [g] using B
  have l:y<4294967296:=by rw[<-H];exact gW w g
  have i:j<m.length:=om
  have k:m[j]<4294967296:=gW A i;rw[aK om om,show((p.length:Int)+(j:Int))=((p.length+j:Nat):Int) by omega,xa i,yr];rw[We oj,aa,JG C l k f,aa,aa,Yi oj];refine⟨_,rfl,d++[(x*y+m[j]+t)%4294967296],oh,by simp[u],om,by grind[Vo,Vc,Vw],by have:=Fh C l k f;simp only[];omega,?_⟩;grind[Kd,Wo,W8,Nat.div_add_mod];rintro⟨o,t⟩ ⟨d,e,u,E,F,f,v⟩;simp only at e f v;subst e;simp only[Vp];rw[aK om om,show((p.length:Int)+(a.length:Int))=((p.length+a.length:Nat):Int) by omega,xl om,xi];rw[We oj,aa,Yi oj];refine⟨_,rfl,d++[t],oh,by simp[u],by grind[Vo,Vc,Vw],?_⟩;simp_all[Wo,xc]
 grind
theorem Q6z(s:aq<=n)(l:a.length<35184372088832)(e:Wd a)(f:x<4294967296)(d:c<4294967296):zh n a x c=some (ay (val a*x+c)):=by unfold zh;rw[aK om om,show((a.length:Int)+1)=((a.length+1:Nat):Int) by omega,lE om om,aa];obtain⟨r,g,i,j,k⟩:=P8 (p:=[]) (m:=List.replicate a.length 0) (q:=[]) (a:=a) (z:=0) (x:=x) (c:=c) oh ol (by grind[oY]) e f d;grind[List.replicate_succ',W2,Ke,oZ]
theorem sA(a:aq<=n)(d:x<18446744073709551616):kH n x=some (ay x):=by
 unfold kH
 rw[show(2:Nat) ^ 32=4294967296 by rfl,Yz a oh,aa,<-Ke (by
  intro y e
  grind)]
 grind[val]
theorem P9(A:aq<=n)(C:a.length<35184372088832)(v:Wd a)(p:x≠0)(B:x<4294967296):uR n a x=some (ay (val a / x),val a%x,true):=by
 unfold uR;unfold aq at A;rw[ap,oq p,lE om om,aa]
 refine Ws (λs=>(s.2.2+1).toNat) (λs=>∃(k:Nat) (e:Bf),s.2.2=(k:Int) - 1/\k<=a.length/\s.1=List.replicate k 0++e/\e.length=a.length - k/\Wd e/\s.2.1<x/\val (a.drop k)=x*val e+s.2.1)
  (λt=>t.1.length=a.length/\Wd t.1/\t.2<x/\val a=x*val t.1+t.2) ⟨a.length,[],by grind[aK],xe _,oh,oh,Vw,ol,by simp[val]⟩ (by grind[aK]) ?_ ?_
 rintro⟨q,r,i⟩ ⟨k,e,f,g,d,l,w,u,y⟩;simp only at f d u y;subst f d;simp only[ap];by_cases h0:0<k;obtain⟨j,rfl⟩:∃ j,k=j+1:=oo
 have m:j<a.length:=om
 left;rw[ot om,show((j+1:Nat):Int) - 1=(j:Nat) by omega,Wx m,aa,P7 u (gW v m) B,aa];simp only[];rw[List.replicate_succ',ye,vg,We oh,aa,Yi oh,aK om om];refine⟨_,rfl,⟨j,((r*4294967296+a[j]) / x)::e,rfl,om,rfl,oj,Vc.2 ⟨?_,w⟩,yo _ om,?_⟩,by simp only[];omega⟩;have:=gW v m
 exact wc (by
  have:r*4294967296+4294967296<=x*4294967296:=om
  omega)
 grind[List.drop_eq_getElem_cons,val,Nat.div_add_mod];simp_all;rintro⟨q,r⟩ ⟨f,g,d,l⟩;simp only at f g d l;simp only[];rw[W2 (by grind[aq]) om,aa,<-Ke g,l,Nat.mul_add_div om,Nat.mul_add_mod,vc d,xb d,xg]
theorem Wz(i:aq<=n)(k:a.length<=35184372088832):J2 n a=some (aN a):=by
 have h:=Yz i (show a.length<=4611686018427387904 by omega);have l:=Wy a;unfold J2;unfold Zc at h
 cases hk:ae (λ(d:Int)=>
  jn (λe=>bif decide (0<d) then ((ah a (wrap64 (d - 1))).bind λg=>
    e (decide (g=0)))
   else (
    e false)) (λ(f:Bool)=>
   bif f then (some (.go (wrap64 (d - 1)))) else (some (.out d)))) n (a.length:Int) with
 | none=>grind
 | some t=>
   rw[hk] at h;rw[aa] at h |-;cases j:sub a 0 t with
   | none=>grind
   | some b=>
     rw[j,aa] at h;rw[aa];obtain rfl:b=aN a:=ol
     grind[Jv]
theorem JI(d:aq<=n)(g:a.length<=4611686018427387904):Y6 n a b=some (decide (a=b)):=by
 unfold Y6;unfold aq at d;rw[bB];by_cases i:a.length=b.length
 . rw[ot om]
   refine Ws (λs=>a.length - s.toNat) (λs=>∃ k:Nat,s=k/\k<=a.length/\a.take k=b.take k) (λt=>(t=.go ()/\a=b)\/(t=.out false/\a≠b)) ⟨0,rfl,xu _,oh⟩ om ?_ ?_
   . rintro s ⟨k,rfl,hk,f⟩
     simp only[ap,bB];by_cases h:k<a.length
     . rw[ot om,Wx h,aa,Wx om,aa]
       by_cases e:a[k]=b[k]
       . left
         rw[ot e,aK om om];refine⟨_,rfl,⟨k+1,om,om,?_⟩,om⟩;rw[Kd h,Kd om,f,e]
       grind
     grind
   . rintro t (⟨rfl,h⟩ | ⟨rfl,h⟩)
     all_goals grind[Vp,Yy]
 . rw[oq om]
   have:a≠b:=ol
   grind
theorem o4(h:Wd a)(i:Nat):a.getD i 0<4294967296:=by grind[gW]
theorem o5(a:Bf)(k:Nat):val (a.take (k+1))=val (a.take k)+bp k*a.getD k 0:=by grind[Kd,Wo,List.take_of_length_le]
theorem sB:Vy a (k:Int)=some (a.getD k 0):=by
 unfold Vy;rw[ap];by_cases h:k<a.length
 all_goals simp_all[Wx,oq]
theorem Jf8(P Q s o a d:Nat)(_:Nat)(g:o+P*s=a+d)(i:a<Q)(j:d<Q)(f:P=Q*4294967296):s=0:=by rcases wt s with h | h;exact h;exfalso;have e:P*1<=P*s:=yw _ h;omega
theorem Fi(C:aq<=n)(H:a.length<17592186044416)(I:b.length<17592186044416)(e:Wd a)(f:Wd b):Yl n a b=some (ay (val a+val b)):=by
 unfold Yl;unfold aq at C;obtain⟨l,J⟩:∃ l:Nat,l=max a.length b.length:=⟨_,rfl⟩
 have d:max (a.length:Int) (b.length:Int)=(l:Int):=om
 have p:a.length<=l:=om
 have r:b.length<=l:=om
 have B:l<17592186044416:=om
 rw[d,aK om om,show((l:Int)+1)=((l+1:Nat):Int) by omega,lE om om,aa]
 refine Ws (λs=>(l+1) - s.2.2.toNat) (λs=>∃(k:Nat) (o:Bf),s.2.2=k/\k<=l+1/\s.1=o++List.replicate (l+1 - k) 0/\o.length=k/\Wd o/\s.2.1<4294967296/\val o+bp k*s.2.1=val (a.take k)+val (b.take k))
  (λt=>t.length=l+1/\Wd t/\val t=val a+val b) ⟨0,[],rfl,om,oh,rfl,Vw,oh,oe⟩ om ?_ ?_
 rintro⟨q,s,i⟩ ⟨k,o,u,F,v,g,x,y,m⟩;simp only at u v y m;subst u v;simp only[aa,ap];by_cases hk:k<l+1;left;have K:=o4 e k;have L:=o4 f k;rw[ot om,sB,aa,sB,aa];obtain⟨j,A⟩:∃ j,l+1 - k=j+1:=⟨l - k,om⟩
 rw[A,ua,We g,aa,Yi g,aK om om];rw[xb (show a.getD k 0+b.getD k 0<18446744073709551616 by omega),xb (show s+(a.getD k 0+b.getD k 0)<18446744073709551616 by omega),Nat.mod_mod];refine⟨_,rfl,⟨k+1,o++[(s+(a.getD k 0+b.getD k 0))%4294967296],by simp only[];omega,om,?_,by simp[g],by grind[Vo,Vc,Vw],by simp only[];omega,?_⟩,by simp only[];omega⟩;simp only[];rw[show l+1 - (k+1)=j by omega];simp;grind[o5,Wo,W8,Nat.div_add_mod];right;obtain rfl:k=l+1:=om
 rw[oq om];refine⟨_,rfl,by simp[g],by simpa using x,?_⟩;rw[xc om,xc om] at m;have G:s=0:=by have g1:=V9 e;have E:=V9 f;have g3:bp a.length<=bp l:=cB p;have g4:bp b.length<=bp l:=cB r;have w:bp (l+1)=bp l*4294967296:=W8 _;exact Jf8 _ _ _ _ _ _ 0 m om om w
 grind;grind[Wz,aq,Ke]
theorem QA(L:aq<=n)(I:a.length+b.length<=35184372088832)(v:Wd a)(w:Wd b):K0 n a b=some (ay (val a*val b)):=by
 unfold K0;unfold aq at L;rw[aK om om,show((a.length:Int)+(b.length:Int))=((a.length+b.length:Nat):Int) by omega,lE om om,aa]
 refine Ws (λs=>a.length - s.2.toNat) (λs=>∃(i:Nat) (o:Bf),s.2=i/\i<=a.length/\s.1=o++List.replicate (a.length - i) 0/\o.length=i+b.length/\Wd o/\val o=val (a.take i)*val b)
  (λt=>t.length=a.length+b.length/\Wd t/\val t=val a*val b) ⟨0,List.replicate b.length 0,rfl,xu _,by simp_all[Nat.add_comm],oh,oY om,by grind[oZ,val]⟩ om ?_ ?_
 rintro⟨q,V⟩ ⟨i,o,E,P,F,Q,R,S⟩;simp only at E F;subst E F;simp only[ap];by_cases hi:i<a.length;left;have A:=gW v hi;obtain⟨j,J⟩:∃ j,a.length - i=j+1:=⟨a.length - i - 1,om⟩
 rw[ot om,J,ua];obtain⟨p,U⟩:∃ p,p=o.take i:=⟨_,rfl⟩
 obtain⟨m,T⟩:∃ m,m=o.drop i:=⟨_,rfl⟩
 have M:o=p++m:=oo
 have f:p.length=i:=ol
 have K:m.length=b.length:=ol
 have O:Wd p:=by grind[wA]
 have y:Wd m:=by grind[qb]
 have N:val o=val p+bp i*val m:=by grind[Y2]
 rw[M]
 refine P0 (λs=>b.length - s.2.2.toNat) (λs=>∃(k:Nat) (d:Bf),s.2.2=k/\k<=b.length/\s.1=p++d++(m.drop k++0::List.replicate j 0)/\d.length=k/\Wd d/\s.2.1<4294967296/\val d+bp k*s.2.1=val (m.take k)+a[i]*val (b.take k))
  (λt=>∃ d:Bf,t.1=p++d++0::List.replicate j 0/\d.length=b.length/\Wd d/\t.2<4294967296/\val d+bp b.length*t.2=val m+a[i]*val b) ⟨0,[],rfl,xu _,oh,rfl,Vw,oh,oe⟩ om ?_ ?_
 rintro⟨q,C,W⟩ ⟨k,d,g1,g,g3,g4,l,r,H⟩;simp only at g1 g3 r H;subst g1 g3;simp only[];by_cases hk:k<b.length;left;have B:=gW w hk;have e:k<m.length:=om
 have u:=gW y e;have G:=Fh A B u r;rw[ot om,Wx hi,aa,Wx hk,aa,aK (x:=(i:Int)+(k:Int)) om om,show((i:Int)+(k:Int))=((i+k:Nat):Int) by omega];rw[xa e,yr,We oj,aa,aa,aa,aa,Yi oj,aa,aK om om];rw[xb (show a[i]*b[k]<18446744073709551616 by omega),xb (show a[i]*b[k]+m[k]<18446744073709551616 by omega),xb (show C+(a[i]*b[k]+m[k])<18446744073709551616 by omega),Nat.mod_mod];refine⟨_,rfl,⟨k+1,d++[(C+(a[i]*b[k]+m[k]))%4294967296],by simp only[];omega,om,oh,by simp[g4],by grind[Vo,Vc,Vw],by simp only[];omega,?_⟩,by simp only[];omega⟩;grind[Kd,Wo,List.length_take,W8,Nat.div_add_mod];right;obtain rfl:k=b.length:=om
 rw[oq om];refine⟨_,rfl,d,by simp only[];rw[xl om];simp,g4,l,r,?_⟩;grind;rintro⟨q,c⟩ ⟨d,g1,g,g3,g4,l⟩;simp only at g1 g4 l;subst g1;rw[aK (x:=(i:Int)+(b.length:Int)) om om,show((i:Int)+(b.length:Int))=((i+b.length:Nat):Int) by omega];simp only[];rw[We oj,aa,Yi oj,aa,aK om om,xb g4];refine⟨_,rfl,⟨i+1,p++d++[c],by simp only[];omega,om,by simp only[];rw[show a.length - (i+1)=j by omega];simp,by simp[f,g];omega,by grind[Vo,Vc,Vw],?_⟩,by simp only[];omega⟩;rw[ye,Y2,Wo,f,g,Kd hi,Wo,yi,yg om];grind;right;obtain rfl:i=a.length:=om
 grind;grind[Wz,aq,Ke]
theorem wC(i:aq<=n)(f:a.length<17592186044416)(g:b.length<17592186044416)(d:Wd a)(e:Wd b):K0 n a b=some (ay (val a*val b)):=by grind[QA]
theorem Q60(w:aq<=n)(A:a.length<35184372088832)(x:Wd a):
 ∃ r,Zg n a=some (val a%10,r)/\r.length=a.length/\Wd r/\val r=val a / 10:=by
 have key:∃ r,Zg n a=some r/\(r.1=val a%10/\r.2.length=a.length/\Wd r.2/\val r.2=val a / 10):=by
  unfold Zg;unfold aq at w
  refine oX (λs=>(s.2.2+1).toNat) (λs=>∃(k:Nat) (d:Bf),s.2.2=(k:Int) - 1/\k<=a.length/\s.1=a.take k++d/\d.length=a.length - k/\Wd d/\s.2.1<10/\val (a.drop k)=10*val d+s.2.1)
   (λt=>t.1.length=a.length/\Wd t.1/\t.2<10/\val a=10*val t.1+t.2) ⟨a.length,[],by simp only[];rw[aK om om],xe _,oh,oh,Vw,oh,by simp[val]⟩ (by simp only[];rw[aK om om];omega) ?_ ?_
  rintro⟨q,r,i⟩ ⟨k,d,f,y,g,p,u,l,m⟩;simp only at f g l m;subst f g;simp only[ap];by_cases h0:0<k;obtain⟨j,rfl⟩:∃ j,k=j+1:=oo
  have e:j<a.length:=om
  have v:=gW x e;left;rw[ot om,show((j+1:Nat):Int) - 1=(j:Nat) by omega,Kd e,ye,vg,We oj,aa,aa,aa,Yi oj,aK om om];rw[xb (show r*4294967296<18446744073709551616 by omega),xb (show r*4294967296+a[j]<18446744073709551616 by omega),xb om];refine⟨_,rfl,⟨j,(r*4294967296+a[j]) / 10::d,rfl,om,rfl,oj,by grind[Vc],ol,?_⟩,by simp only[];omega⟩;rw[xa e];simp only[val];omega;right;obtain rfl:k=0:=om
  rw[oq om];exact⟨_,rfl,by simp at p |-;omega,by simpa using u,l,by simpa using m⟩;grind
 grind
def da(x y:Nat):Int:=if x<y then -1 else if y<x then 1 else 0
theorem QB(h:n≠0):bp ((ay n).length - 1)<=n:=by
 induction n using Nat.strongRecOn with
 | _ n a=>
   grind[iJ,List.length_cons,ay,bp]
theorem JJ{m n:Nat}(h:(ay m).length<(ay n).length):m<n:=by
 have a:=V9 (Jh m);rw[Q6] at a;have d:n≠0:=by rintro rfl;grind[W3]
 have e:=QB d;grind[bp,cB,Nat.le_trans]
theorem QC(a:Bf)(k:Nat):val a=val (a.take k)+bp (a.take k).length*val (a.drop k):=by grind[List.take_append_drop,Y2]
theorem Jjs{A:Nat}(f:A<P)(a:x<y)(d:u=A+P*x)(e:P*y<=v):u<v:=by have:P*(x+1)<=P*y:=yw _ a;grind
theorem Fj(i:Wd a)(l:j<a.length)(d:j<b.length)(m:a.drop (j+1)=b.drop (j+1))(h:a[j]<b[j]):val a<val b:=by have e:=QC a (j+1);have f:=QC b (j+1);rw[yi,yg om] at e f;rw[e,f,m];refine Nat.add_lt_add_right ?_ _;rw[Kd l,Kd d,Wo,Wo,yi,yi,yg om,yg om];have g:=V9 (wA (k:=j) i);rw[yi,yg om] at g;exact Jjs g h rfl oh
theorem BJ(e:aq<=n)(q:a.length<=4611686018427387904)(r:b.length<=4611686018427387904)(f:Wd a)(g:Wd b):oQ n a b=some (da (val a) (val b)):=by
 unfold oQ;rw[Yz e q,aa,Yz e r,aa,<-Ke f,<-Ke g];have v:(ay (val a)).length<=4611686018427387904:=by grind[Ke,Wy]
 have w:=Q6 (val a);have A:=Q6 (val b);have l:=Jh (val a);have m:=Jh (val b);have F:=@JJ (val a) (val b);have B:=@JJ (val b) (val a);generalize val a=x at *;generalize val b=y at *;generalize ay x=a' at *;generalize ay y=b' at *;unfold aq at e;rw[ap,ap];by_cases C:a'.length<b'.length;simp_all[da];rw[oq om];by_cases p:b'.length<a'.length;rw[ot om,da,oq om,ot (B p)];rw[oq om,aK om om];refine Ws (λs=>(s+1).toNat) (λs=>∃ k:Nat,s=(k:Int) - 1/\k<=a'.length/\a'.drop k=b'.drop k) (λt=>(t=.go ()/\a'=b')\/(t=.out (-1)/\x<y)\/(t=.out 1/\y<x)) ⟨a'.length,rfl,xe _,ol⟩ om ?_ ?_;rintro s ⟨k,rfl,hk,E⟩;simp only[ap];by_cases h0:0<k;obtain⟨j,rfl⟩:∃ j,k=j+1:=oo
 have u:j<a'.length:=om
 have d:j<b'.length:=om
 rw[ot om,show((j+1:Nat):Int) - 1=(j:Nat) by omega,Wx u,aa,Wx d,aa];by_cases g1:a'[j]<b'[j];right;rw[ot g1];refine⟨_,rfl,.inr (.inl ⟨rfl,?_⟩)⟩;grind[Fj];rw[oq g1,aa,aa];by_cases i:b'[j]<a'[j];right;rw[ot i];refine⟨_,rfl,.inr (.inr ⟨rfl,?_⟩)⟩;grind[Fj];left;rw[oq i,aK om om];refine⟨_,rfl,⟨j,rfl,om,?_⟩,om⟩;grind[List.drop_eq_getElem_cons];grind;rintro t (⟨rfl,h⟩ | ⟨rfl,h⟩ | ⟨rfl,h⟩);grind[Vp,da];rw[Yy,da,ot h];rw[Yy,da,oq om,ot h]
theorem Jho(h:v<18446744073709551616):ay v=[]\/(∃ x,ay v=[x]/\x=v)\/(∃ x y,ay v=[x,y]/\x<4294967296/\y<4294967296/\x+4294967296*y=v):=by
 have e:=Wn (n:=v) (k:=2) (by rw[W8,W8,jf];omega);have a:=Q6 v;have d:=Jh v
 match f:ay v,e with
 | [],_=>simp
 | [x],_=>simp_all[val]
 | [x,y],_=>
   rw[f] at a d;simp[val] at a;exact .inr (.inr ⟨x,y,rfl,(Vc.1 d).1,om,om⟩)
 | _::_::_::_,h=>simp at h
theorem QD(h:18446744073709551616<=v):2<(ay v).length:=by grind[ay]
theorem BK(e:aq<=n)(d:a.length<=4611686018427387904)(f:Wd a):oP n a=some (if val a<18446744073709551616 then (val a,true) else (0,false)):=by unfold oP;rw[Yz e d,aa,<-Ke f,ap];by_cases h:val a<18446744073709551616;rw[ot h];rcases Jho h with h1 | ⟨x,h1,h2⟩ | ⟨x,y,h1,h2,h3,h4⟩;have:=Q6 (val a);rw[h1] at this |-;rw[oq oc];grind[val,ao,Vp];simp_all[ao,aK,dn,Vp];rw[h1,oq oh];simp only[ao];rw[aK (x:=32*((0:Nat):Int)) om om,dn oc,aa,aa,aa,aK om om,dn oc];simp only[aa,Vp];rw[show(2:Nat) ^ min (Int.toNat (32*((0:Nat):Int))) 64=1 by rfl,show(2:Nat) ^ min (Int.toNat (32*((0+1:Nat):Int))) 64=4294967296 by rfl,Nat.mul_one,xb om,xb om,Nat.zero_or,Nat.or_comm,JH h2];grind;rw[oq h];have:=QD (v:=val a) om;grind
theorem Fl(d:x<4294967296)(e:y<4294967296)(a:c<4294967296):
 oR x y c=some ((x+y+c)%4294967296,(x+y+c) / 4294967296):=by
 unfold oR;simp only[ai,ap];grind
theorem JK(e:x<4294967296)(f:y<4294967296)(a:c<=1):
 ∃ d b,rY x y c=some (d,b)/\d<4294967296/\b<=1/\d+y+c=x+4294967296*b:=by
 unfold rY;simp only[ai,ap,aa];split<;>split<;>refine⟨_,_,rfl,?_,?_,?_⟩<;>omega
theorem QE(f:Nat->Option β):(if (k:Int)<(b.length:Int) then (ah b (k:Int)).bind f else f 0)=f (b.getD k 0):=by
 by_cases h:k<b.length
 all_goals simp_all[Wx,oq]
theorem QF(u:aq<=n)(w:a.length<17592186044416)(t:b.length<=a.length)(v:Wd a)(l:Wd b):sa n a b=some (ay (val a+val b)):=by
 unfold sa;simp only[ai,ap];rw[oq om];rw[show 1=((1:Nat):Int) by rfl,JF om,aa];refine nV (λj (s:Bf×Nat)=>∃ e,s.1=e++(List.drop j a++[0])/\e.length=j/\j<=a.length/\Wd e/\s.2<=1/\val e+bp j*s.2=val (a.take j)+val (b.take j)) ⟨[],oh,rfl,xu _,Vw,oh,oe⟩ ?_ ?_
 . rintro j y ⟨o,p⟩ x ⟨e,f,d,q,r,i,g⟩
   simp only at f i g;subst f;have k:j<a.length:=ol
   have A:a[j]=y:=ol
   have m:y<4294967296:=by grind[gW]
   rw[QE,Fl m (o4 l j) om,aa,xa k,yr,We d,aa,Yi d];refine⟨_,rfl,e++[(y+b.getD j 0+p)%4294967296],oh,by simp[d],om,by grind[Vo,Vc,Vw],?_,?_⟩
   all_goals grind[o4,o5,Wo,W8,Nat.div_add_mod]
 . rintro⟨o,p⟩ ⟨e,f,d,q,r,i,g⟩
   simp only at f i g;subst f;simp only[Vp];rw[xl oh,xi,We d,aa,Yi d,Yz u ol,aa,<-Ke (by grind[Vo,Vc,Vw]),Wo,d,g,xc oh,xc t]
theorem QG(g:aq<=n)(i:a.length<17592186044416)(f:b.length<17592186044416)(d:Wd a)(e:Wd b):sa n a b=some (ay (val a+val b)):=by by_cases j:b.length<=a.length;grind[QF];rw[Nat.add_comm,<-QF g f om e d];grind[sa]
theorem QH(d:aq<=n)(j:a.length<17592186044410)(k:b.length<17592186044410)(g:Wd a)(i:Wd b):sc n [a,b]=some (ay (val a+val b)):=by unfold sc;have e:=QG (a:=[]) (b:=ay (val a)) d oh (by grind[Wy,Ke]) Vw (Jh _);have f:=QG (a:=ay (val a)) (b:=ay (val b)) d (by grind[Wy,Ke]) (by grind[Wy,Ke]) (Jh _) (Jh _);rw[Q6] at e f;rw[Q6] at f;simp only[val,xx] at e;simp only[ao,Yz d (show a.length<=4611686018427387904 by omega),Yz d (show b.length<=4611686018427387904 by omega),aa,<-Ke g,<-Ke i,e,f,Vp]
theorem BL{l:List α}{x:α}(h:l[i]?=some x):i<l.length:=ol
theorem Zd(h:x<=y):(ay x).length<=(ay y).length:=by refine Wn ?_;grind[V9,Jh,Q6]
theorem Jjt(P c a x y d V A B:Nat)(e:d+y+c=x+4294967296*a)(h:V+B=A+P*c):V+P*d+(B+P*y)=A+P*x+P*4294967296*a:=ol
theorem QI(p:aq<=n)(N:a.length<17592186044416)(O:b.length<17592186044416)(v:Wd a)(A:Wd b):
 AF n a b=some (if val a<val b then ([],false) else (ay (val a - val b),true)):=by
 unfold AF;have I:(ay (val a)).length<17592186044416:=by grind[Ke,Wy]
 have J:(ay (val b)).length<17592186044416:=by grind[Ke,Wy]
 rw[Yz p om,aa,Yz p om,aa,<-Ke v,<-Ke A,BJ p om om (Jh _) (Jh _),aa,Q6,Q6];have t:=Q6 (val a);have u:=Q6 (val b);have F:=Jh (val a);have g:=Jh (val b);have r:=λh=>Zd (x:=val b) (y:=val a) h;generalize val a=x at *;generalize val b=y at *;generalize ay x=a' at *;generalize ay y=b' at *;rw[ap];by_cases i:x<y;simp_all[da];rw[oq (by rw[da,oq i];omega),oq i];have r:=r om;simp only[ai,ap];rw[show 0=((0:Nat):Int) by rfl,JF om,aa];refine nV (λj (s:Bf×Nat)=>∃ e,s.1=e++List.drop j a'/\e.length=j/\j<=a'.length/\Wd e/\s.2<=1/\val e+val (b'.take j)=val (a'.take j)+bp j*s.2) ⟨[],oh,rfl,xu _,Vw,oh,oe⟩ ?_ ?_;rintro j w ⟨o,C⟩ H ⟨e,f,k,G,E,l,m⟩;simp only at f l m;subst f;have q:j<a'.length:=BL H;have P:a'[j]=w:=ol
 have B:w<4294967296:=by grind[gW]
 obtain⟨d,K,g1,L,g3,g4⟩:=JK B (o4 g j) l;rw[QE,g1,aa,xa q,We k,aa,Yi k];refine⟨_,rfl,e++[d],oh,by simp[k],om,by grind[Vo,Vc,Vw],g3,?_⟩;grind[o5,Wo,W8];rintro⟨o,C⟩ ⟨e,f,k,G,E,l,m⟩;simp only at f l m;subst f;simp only[Vp];rw[xc (xe _),xc r,t,u] at m;rw[xl oh,vj,Yz p om,aa,<-Ke E];have M:C=0:=by
  grind[V9]
 grind
theorem Jby(f:aq<=n)(g:a.length<17592186044416)(i:b.length<17592186044416)(d:Wd a)(e:Wd b):
 AG n a b=some (ay (val a - val b+(val b - val a)),da (val a) (val b)):=by
 unfold AG;rw[BJ f om om d e,aa];simp only[ai,ap];by_cases h:val a<val b;rw[ot (by simp_all[da]),QI f i g e d,oq om,aa];grind;rw[oq (by rw[da,oq h];omega),QI f g i d e,oq h,aa];grind
def aP(x:Nat):Nat:=if x=0 then 0 else Nat.log2 x+1
theorem sC:aP 0=0:=oe
theorem QJ(a:2 ^ k<=x)(d:x<2 ^ (k+1)):aP x=k+1:=by grind[aP,Nat.log2_eq_iff]
theorem BM:x<2 ^ aP x:=by grind[aP,Nat.lt_log2_self]
theorem sE(h0:x≠0):2 ^ (aP x - 1)<=x:=by simp_all[aP,Nat.log2_self_le]
theorem JL(h0:x≠0):1<=aP x:=by simp_all[aP]
theorem QK{w:Nat}(h:x / 2 ^ w≠0):aP x=aP (x / 2 ^ w)+w:=by
 have a:=sE h;have d:=BM (x:=x / 2 ^ w);have e:=JL h;obtain⟨k,hk⟩:∃ k,aP (x / 2 ^ w)=k+1:=⟨_,(Nat.sub_add_cancel e).symm⟩
 rw[hk,Nat.add_sub_cancel] at a;rw[hk] at d |-;rw[show k+1+w=(k+w)+1 by omega];refine QJ ?_ ?_;grind[Nat.le_div_iff_mul_le];rw[show k+w+1=(k+1)+w by omega,vm];grind[Nat.div_lt_iff_lt_mul]
theorem QL(l:aq<=n)(m:x<4294967296):u5 n x=some (aP x:Int):=by
 unfold u5;unfold aq at l
 refine Ws (λs=>s.2.2.toNat) (λs=>∃(w k B:Nat),s.2.2=w/\s.2.1=k/\(w,B)∈[(16,4294967296),(8,65536),(4,256),(2,16),(1,4),(0,2)]/\s.1<B/\k+2*w<=32/\aP x=k+aP s.1)
  (λt=>∃ k:Nat,t.2=k/\k<=32/\t.1<2/\aP x=k+aP t.1) ⟨16,0,4294967296,rfl,rfl,oc,m,oc,oh⟩ ol ?_ ?_
 . rintro⟨y,c,w'⟩ ⟨w,k,B,a,f,d,e,q,g⟩
   simp only at a f e g;subst a f;simp only[ai,ap,bB];by_cases h0:0<w
   . left
     rw[ot om,dn oh,aa,aa,ur];have r:w<=16:=om
     have hd:Int.tdiv (w:Int) 2=((w / 2:Nat):Int):=oe
     rw[hd,yg om,aK (x:=((w / 2:Nat):Int)) om om,aK om om];have j:∃ B',(w / 2,B')∈[(16,4294967296),(8,65536),(4,256),(2,16),(1,4),(0,2)]/\B'*2 ^ w=B/\(2 ^ w<=B'):=by
      simp only[xk,List.not_mem_nil,or_false,Prod.mk.injEq] at d;rcases d with ⟨rfl,rfl⟩ | ⟨rfl,rfl⟩ | ⟨rfl,rfl⟩ | ⟨rfl,rfl⟩ | ⟨rfl,rfl⟩ | ⟨rfl,rfl⟩
      all_goals simp
     obtain⟨B',g1,p,g3⟩:=j;by_cases i:y / 2 ^ w=0
     . rw[ot i]
       refine⟨_,rfl,⟨w / 2,k,B',rfl,rfl,g1,?_,om,g⟩,by simp only[];omega⟩;grind
     . rw[oq i]
       refine⟨_,rfl,⟨w / 2,k+w,B',rfl,by simp only[];omega,g1,?_,om,?_⟩,by simp only[];omega⟩
       all_goals grind[QK]
   simp_all
 . rintro⟨y,c⟩ ⟨k,a,f,d,e⟩
   simp only at a d e;subst a;rw[e,aK om om];have:aP y=y:=by
    have:y=0\/y=1:=om
    rcases this with rfl | rfl
    all_goals rfl
   grind
theorem nW(k:Nat):bp k=2 ^ (32*k):=by unfold bp;rw[Nat.pow_mul]
theorem JM(h:ay v≠[]):∃ p x,ay v=p++[x]/\x≠0/\x<4294967296/\Wd p:=by
 have d:=Jh v;rcases wm (ay v) with h0 | ⟨p,x,h1⟩
 . grind
 . rw[List.concat_eq_append] at h1
   refine⟨p,x,h1,?_,?_,?_⟩
   . rintro rfl
     have a:=P5 v;rw[h1,JE] at a;have:=Wy p;rw[a] at this;simp at this;omega
   all_goals grind[Vc,Vo]
theorem Jhp(d:Wd p)(e:x≠0):aP (val (p++[x]))=32*p.length+aP x:=by
 have a:=V9 d;have hd:val (p++[x]) / 2 ^ (32*p.length)=x:=by rw[<-nW,Wo,we _ _ (P1 _),vc a,xx]
 grind[QK]
theorem Q9n(g:aq<=n)(r:a.length<17592186044416)(m:Wd a):p7 n a=some (aP (val a):Int):=by
 unfold p7;rw[W2 g om,aa,<-Ke m,ap];have f:(ay (val a)).length<17592186044416:=by grind[Ke,Wy]
 by_cases h:ay (val a)=[]
 rw[ot (by rw[h];rfl)];grind[Ke,P3,sC];rw[oq (by intro q;exact by simp_all)];obtain⟨p,x,d,e,k,l⟩:=JM h;have i:val a=val (p++[x]):=by rw[<-d,Q6]
 rw[i,Jhp l e];rw[i] at d f;rw[d] at f;rw[d,xo,ug] at *;rw[aK (x:=((p.length+1:Nat):Int) - 1) om om,show((p.length+1:Nat):Int) - 1=(p.length:Nat) by omega,We rfl,aa,QL g k,aa,aa];have s:aP x<=32:=by rcases yx 32 (aP x) with h | h;have g1:=sE e;have j:2 ^ 32<=2 ^ (aP x - 1):=ui oc om;rw[show(2:Nat) ^ 32=4294967296 by decide] at j;omega;exact h
 grind[aK]
theorem Fm(B:aq<=n)(E:a.length<8796093022208)(F:b.length<8796093022208)(i:Wd a)(k:Wd b):nU n a b=some (ay (val a*val b)):=by
 unfold nU;rw[aK (x:=(a.length:Int)+(b.length:Int)) om om,aK om om,show((a.length:Int)+(b.length:Int))+1=((a.length+b.length+1:Nat):Int) by omega,lE om om,aa];refine nV (λj (s:Bf)=>∃ d,s=d++List.replicate (b.length+1 - j) 0/\d.length=j+a.length/\j<=b.length/\Wd d/\val d=val a*val (b.take j)) ⟨List.replicate a.length 0,by grind[List.replicate_append_replicate],oh,xu _,oY om,by simp[val,oZ]⟩ ?_ ?_
 . rintro j x o v ⟨d,g,y,A,t,u⟩
   subst g;have e:j<b.length:=BL v;have w:b[j]=x:=by simpa [e] using v
   have l:x<4294967296:=by rw[<-w];exact gW k e
   obtain⟨r,g1,C,g3,g4⟩:=P8 (p:=d.take j) (m:=d.drop j) (q:=List.replicate (b.length - j) 0) (a:=a) (z:=0) (x:=x) (c:=0) oj oj (qb t) i l om;have f:(d.take j).length=j:=oj
   rw[f,um] at g1;rw[show b.length+1 - j=(b.length - j)+1 by omega,ua,g1,aa];refine⟨_,rfl,d.take j++r,by rw[show b.length+1 - (j+1)=b.length - j by omega],oj,om,by grind[Vo,wA],?_⟩;have G:val d=val (d.take j)+bp j*val (d.drop j):=by
    conv=>lhs;rw[<-um j d]
    rw[Y2,f]
   rw[Y2,f,o5,show b.getD j 0=x by rw[<-w];simp[e]];grind
 . rintro o ⟨d,g,y,A,t,u⟩
   subst g;simp only[Vp];rw[W2 B ol,aa,<-Ke (by grind[Vo,oY]),Y2,oZ,uj,xg,u,xc oh]
theorem qc(a:r<=32):(x*2 ^ r)%4294967296=(x%2 ^ (32 - r))*2 ^ r:=by rw[show(4294967296:Nat)=2 ^ (32 - r)*2 ^ r by rw[<-vm,show 32 - r+r=32 by omega],Nat.mul_mod_mul_right]
theorem BN(d:r<=32)(a:c<2 ^ r):c ||| (x*2 ^ r)%4294967296=c+(x*2 ^ r)%4294967296:=by grind[qc,Nat.mul_comm,Nat.two_pow_add_eq_or_of_lt]
theorem BO(a:x<4294967296):(x*2 ^ r) / 4294967296<2 ^ r:=
 wc (Nat.mul_lt_mul_of_pos_right a ol)
theorem Fn(a:r<=32):2 ^ r<=4294967296:=by have h:2 ^ r<=2 ^ 32:=ui oc a;omega
theorem BP(a:r<=32)(d:x<4294967296):x*2 ^ r<18446744073709551616:=by have h:=Fn a;have:x*2 ^ r<=4294967295*4294967296:=uo om h;omega
theorem QM(F:aq<=n)(I:a.length<8796093022208)(K:Wd a)(hk:k<=4096):rX n a (k:Int)=some (ay (val a*2 ^ k)):=by
 unfold rX;rw[show min (max (k:Int) 0) 4096=(k:Int) by omega];rw[show Int.tdiv (k:Int) 32=((k / 32:Nat):Int) by rfl,show Int.tmod (k:Int) 32=((k%32:Nat):Int) by rfl];have G:2 ^ k=bp (k / 32)*2 ^ (k%32):=by grind[nW,Nat.pow_add,Nat.div_add_mod]
 have H:k / 32<=128:=om
 have J:k%32<=31:=om
 rw[G];generalize k / 32=w at *;generalize k%32=r at *;rw[aK (x:=(w:Int)) om om,aa,aK (x:=(w:Int)+(a.length:Int)) om om,aK om om,show(w:Int)+(a.length:Int)+1=((w+a.length+1:Nat):Int) by omega,lE om om,aa];refine nV (λj (s:Bf)=>∃ e c,s=(List.replicate w 0++e)++c::List.replicate (a.length - j) 0/\e.length=j/\j<=a.length/\Wd e/\c<2 ^ r/\val e+bp j*c=val (a.take j)*2 ^ r) ⟨[],0,by rw[vj,<-ua,List.replicate_append_replicate];congr 1,rfl,xu _,Vw,ol,by simp[val]⟩ ?_ ?_;rintro j x s C ⟨e,c,i,m,A,p,q,B⟩;subst i;have E:j<a.length:=BL C;have L:a[j]=x:=ol
 have g:x<4294967296:=by grind[gW]
 have f:(List.replicate w 0++e).length=w+j:=ol
 have g1:=BP (r:=r) om g;have v:=BO (r:=r) g;have g3:=Fn (r:=r) om;have g4:=BN (x:=x) (show r<=32 by omega) q;rw[dn oh,aa,ur,yg om,xb g1,aa,aK (x:=(w:Int)+(j:Int)) om om,aa,show(w:Int)+(j:Int)=((w+j:Nat):Int) by omega];rw[We f,aa,aa,aa,Yi f,g4,show(2:Nat) ^ 32=4294967296 by rfl,xb (show x*2 ^ r / 4294967296<4294967296 by omega)];obtain⟨d,hd⟩:∃ d,a.length - j=d+1:=⟨a.length - j - 1,om⟩
 rw[aK om om,show((w+j:Nat):Int)+1=((w+j+1:Nat):Int) by omega,hd,ua];rw[show ∀(y:Nat) (l:Bf),List.replicate w 0++e++y::l=(List.replicate w 0++(e++[y]))++l by simp];have hlen2:(List.replicate w 0++(e++[c+x*2 ^ r%4294967296])).length=w+j+1:=ol
 rw[We hlen2,aa,Yi hlen2,aa];refine⟨_,rfl,e++[c+x*2 ^ r%4294967296],x*2 ^ r / 4294967296,ol,by simp[m],om,Vo.2 ⟨p,Vc.2 ⟨?_,Vw⟩⟩,v,?_⟩;rw[qc om];have t:x%2 ^ (32 - r)+1<=2 ^ (32 - r):=om
 have u:=vd (2 ^ r) t;rw[<-vm,show 32 - r+r=32 by omega,show(2:Nat) ^ 32=4294967296 by rfl,Nat.add_mul,Nat.one_mul] at u;omega;grind[o5,Wo,W8,Nat.div_add_mod];rintro s ⟨e,c,i,m,A,p,q,B⟩;subst i;simp only[Vp];have g3:=Fn (r:=r) om;rw[W2 F oj,aa,<-Ke (by grind[Vo,oY,Vc])];simp_all[Y2,oZ,val,Nat.mul_left_comm]
theorem Fo(d:Wd a)(k:Nat):val a / bp k=val (a.drop k):=by
 rcases yx k a.length with h | h;have f:val a=val (a.take k)+bp k*val (a.drop k):=by grind[List.take_append_drop,Y2]
 have e:=V9 (wA (k:=k) d);rw[yi,yg om] at e;simp_all[we,P1];rw[xl h];exact vc (xr (V9 d) (cB h))
theorem Jhq(h:k<a.length):val (a.drop k)=a[k]+4294967296*(a.getD (k+1) 0+4294967296*val (a.drop (k+2))):=by grind[List.drop_eq_getElem_cons,val,List.drop_of_length_le]
theorem Jju(a:r<=32):((v+4294967296*4294967296*z) / 2 ^ r)%4294967296=(v / 2 ^ r)%4294967296:=by
 rw[show 4294967296*4294967296*z=2 ^ r*(4294967296*(2 ^ (32 - r)*z)) by
  have:2 ^ r*2 ^ (32 - r)=4294967296:=by rw[<-vm,show r+(32 - r)=32 by omega]
  grind]
 grind[Nat.add_mul_div_left]
theorem Jjv(f:Nat->Option β)(a:Wd b)(d:x<4294967296):(if ((k:Nat):Int)<(b.length:Int) then (ah b (k:Int)).bind (λy=>f (x ||| (y*2 ^ 32)%18446744073709551616)) else f x)=f (x+4294967296*b.getD k 0):=by by_cases h:k<b.length;rw[ot om,Wx h,aa];have e:=gW a h;rw[show(2:Nat) ^ 32=4294967296 by rfl,xb om,Nat.or_comm,JH d,wj,Nat.add_comm];simp[h];grind
theorem Jjw(X P:Nat):X%P+P*(X / P%4294967296)=X%(P*4294967296):=by rw[Nat.mod_mul]
theorem Q61(u:aq<=n)(B:a.length<8796093022208)(i:Wd a)(hk:k<=4611686018427387904):zV n a (k:Int)=some (ay (val a / 2 ^ k)):=by
 unfold zV;rw[show max (k:Int) 0=(k:Int) by omega];rw[show Int.tdiv (k:Int) 32=((k / 32:Nat):Int) by rfl,show Int.tmod (k:Int) 32=((k%32:Nat):Int) by rfl];have y:2 ^ k=bp (k / 32)*2 ^ (k%32):=by grind[nW,Nat.pow_add,Nat.div_add_mod]
 have E:k%32<=31:=om
 have A:k / 32<=4611686018427387904:=om
 rw[y];generalize k / 32=w at *;generalize k%32=r at *;rw[<-yy,Fo i];rw[aK (x:=(w:Int)) om om,aa,ap];by_cases t:a.length<=w;simp_all[xl,val,W3];rw[oq om,aK (x:=(a.length:Int) - (w:Int)) om om,aa,show(a.length:Int) - (w:Int)=((a.length - w:Nat):Int) by omega,lE om om,aa];refine nV (λj (s:Bf)=>∃ e,s=e++List.replicate (a.length - w - j) 0/\e.length=j/\Wd e/\val e=(val (a.drop w) / 2 ^ r)%bp j) ⟨[],oh,rfl,Vw,by simp[val,jf,Nat.mod_one]⟩ ?_ ?_;rintro j x s C ⟨e,m,g,p,l⟩;subst m;have q:j<a.length - w:=ol
 have f:w+j<a.length:=om
 simp only[ai,ap];rw[aK (x:=(w:Int)+(j:Int)) om om,show(w:Int)+(j:Int)=((w+j:Nat):Int) by omega,aa,Wx f,aa,aa,aK (x:=((w+j:Nat):Int)+1) om om,show((w+j:Nat):Int)+1=((w+j+1:Nat):Int) by omega];simp only[aa];rw[aK (x:=((w+j:Nat):Int)+1) om om,show((w+j:Nat):Int)+1=((w+j+1:Nat):Int) by omega];rw[Jjv (β:=Lp Bf Bf) (λ(v:Nat)=>(eQ (decide (0<=(r:Int)))).bind λ_=>(ah (e++List.replicate (a.length - w - j) 0) (j:Int)).bind λ_=>some (Lp.go (List.set (e++List.replicate (a.length - w - j) 0) (Int.toNat (j:Int)) (v / 2 ^ (min (Int.toNat (r:Int)) 64)%4294967296)))) i (gW i f)];rw[dn oh,aa,ur (n:=r),yg om];obtain⟨d,hd⟩:∃ d,a.length - w - j=d+1:=⟨a.length - w - j - 1,om⟩
 rw[hd,ua,We g,aa,Yi g];refine⟨_,rfl,e++[(a[w+j]+4294967296*a.getD (w+j+1) 0) / 2 ^ r%4294967296],ol,by simp[g],by grind[Vo,Vc,Vw],?_⟩;rw[Wo,g,W8,<-Jjw,l,yy (val (a.drop w)),wj (2 ^ r) (bp j),<-yy (val (a.drop w)),Fo (qb i),ue,Jhq f,Nat.mul_add,<-Nat.add_assoc,<-uc,Jju om];rintro s ⟨e,m,g,p,l⟩;subst m;simp only[Vp];rw[List.length_replicate] at g l;rw[List.length_replicate,Nat.sub_self,List.replicate_zero,vj,W2 u om,aa,<-Ke p,l,xb];have:=V9 (qb (k:=w) i);rw[yh] at this;exact xh (vh _ _) this
theorem Jll{q a:Nat}(f:(q+1)*e+r=a*4294967296+d)(g:r*4294967296+x2<(q+1)*x4):(a*4294967296+d)*4294967296+x2<(q+1)*(e*4294967296+x4):=ol
theorem Jlm{q a:Nat}{U:Nat}(d:(q+1)*a+r=U):q*a+(r+a)=U:=ol
theorem Jln{q a:Nat}(g:q*e+r=a*4294967296+d)(k:4294967296<=r)(j:q<4294967296)(i:x4<4294967296):q*(e*4294967296+x4)<=(a*4294967296+d)*4294967296+x2:=by have f:q*x4<=4294967295*4294967295:=uo om om;grind
theorem Jn9{q a:Nat}(h:a*4294967296+d<(q+1)*e)(f:x2<4294967296):(a*4294967296+d)*4294967296+x2<(q+1)*(e*4294967296+x4):=ol
theorem QN{q0 p f:Nat}(E:aq<=n)(J:x2<4294967296)(x:d<4294967296)(w:x4<4294967296)(G:q0<4294967296)(H:p<4294967296)
 (y:q0*d+p=e*4294967296+f) (C:q0+1=4294967296\/(e*4294967296+f)*4294967296+x2<(q0+1)*(d*4294967296+x4)) :
 ∃ q,(ae (λ(a:Nat×Nat)=>
   (oM a.1 x4 0 0).bind λi=>jn (λg=>bif decide (i.1<a.2) then (
     g true)
    else (bif decide (i.1=a.2) then (
      g (decide (i.2<=x2)))
     else (
      g false))) (λ(t:Bool)=>
    bif t then (some (.out a.1)) else ((oR a.2 d 0).bind λj=>bif decide (0<j.2) then (some (.out ((a.1+4294967296 - 1)%4294967296))) else (some (.go (((a.1+4294967296 - 1)%4294967296),j.1)))))) n (q0,p)).bind (λ(u:Nat)=>some u)=some q /\
   (q<4294967296/\q*(d*4294967296+x4)<=(e*4294967296+f)*4294967296+x2/\(q+1=4294967296\/(e*4294967296+f)*4294967296+x2<(q+1)*(d*4294967296+x4))):=by
 unfold aq at E
 refine oX (λs=>s.1) (λs=>s.1<4294967296/\s.2<4294967296/\s.1*d+s.2=e*4294967296+f/\(s.1+1=4294967296\/(e*4294967296+f)*4294967296+x2<(s.1+1)*(d*4294967296+x4)))
  (λq=>q<4294967296/\q*(d*4294967296+x4)<=(e*4294967296+f)*4294967296+x2/\(q+1=4294967296\/(e*4294967296+f)*4294967296+x2<(q+1)*(d*4294967296+x4))) ⟨G,H,y,C⟩ om ?_ oh
 rintro⟨q,r⟩ ⟨g1,v,g3,g4⟩;simp only at g1 v g3 g4;simp only[ai,ap];rw[JG g1 w om om,aa];simp only[xg];have key:∀ {α:Type}(A B:α),(if q*x4 / 4294967296<r then bif true then A else B else if q*x4 / 4294967296=r then if q*x4%4294967296<=x2 then A else B else bif false then A else B)=bif decide (q*x4<=r*4294967296+x2) then A else B:=ol
 rw[key,ap];by_cases I:q*x4<=r*4294967296+x2;grind;rw[oq I,Fl v x om,aa]
 obtain⟨q',rfl⟩:∃ q',q=q'+1:=⟨q - 1,ol⟩
 have m:(q'+1+4294967296 - 1)%4294967296=q':=om
 have l:=Jll (x2:=x2) (x4:=x4) g3 om;have k:=Jlm g3;simp only[xg];rw[m];by_cases F:0<(r+d) / 4294967296;right;rw[ot F];exact⟨q',rfl,om,Jln k om om w,.inr l⟩;grind
theorem Q4x{a:Nat}(l:aq<=n)(h0:a<=d)(j:e<4294967296)(g:x2<4294967296)(f:d<4294967296)(k:x4<4294967296)(t:d≠0):
 ∃ q,u6 n a e x2 d x4=some q/\(q<4294967296/\q*(d*4294967296+x4)<=(a*4294967296+e)*4294967296+x2/\(q+1=4294967296\/(a*4294967296+e)*4294967296+x2<(q+1)*(d*4294967296+x4))):=by
 unfold u6;by_cases i:a<d;rw[P7 i j f,aa]
 have r:(a*4294967296+e) / d<4294967296:=wc om
 have s:(a*4294967296+e)%d<d:=yo _ om;exact QN l g f k r ol (by grind[Nat.div_add_mod]) (.inr (Jn9 ((Nat.div_lt_iff_lt_mul om).1 oh) g));obtain rfl:a=d:=om
 rw[show pY a e a=some (0,0,false) by simp[pY],aa];rw[ai];simp only[xn,aj];rw[Fl j f om,aa,ai,ap,oq om];simp only[xg];rw[ap];have p:4294967295*a+(e+a)=a*4294967296+e:=om
 by_cases m:0<(e+a) / 4294967296;rw[ot m];grind;rw[oq m,xb om];exact QN l g f k om om p (.inl rfl)
theorem Q62{q' v:Bf}{q:Nat}(M:m.length=v.length)(N:p.length+m.length+1+q'.length<=4611686018427387904)(A:Wd m)(B:Wd v)(L:z<4294967296)(G:q<4294967296):
 ∃ r b,p5 (p++m++z::q') (p.length:Int) v q=some (decide (0<b),p++r++q')/\r.length=v.length+1/\Wd r/\b<=1/\val r+q*val v=val (m++[z])+bp (v.length+1)*b:=by
 have key:∃ R,p5 (p++m++z::q') (p.length:Int) v q=some R/\∃ r b,R=(decide (0<b),p++r++q')/\r.length=v.length+1/\Wd r/\b<=1/\val r+q*val v=val (m++[z])+bp (v.length+1)*b:=by
  unfold p5;refine JD (λj (s:Bf×Nat×Nat)=>∃ e,s.1=p++e++(m.drop j++z::q')/\e.length=j/\j<=v.length/\Wd e/\s.2.1<4294967296/\s.2.2<=1/\val e+q*val (v.take j)=val (m.take j)+bp j*(s.2.1+s.2.2)) ⟨[],oh,rfl,xu _,Vw,oh,oh,oe⟩ ?_ ?_;rintro j y ⟨o,c,b⟩ E ⟨e,g,u,I,J,f,i,t⟩;simp only at g f i t;subst g;have k:j<v.length:=BL E;have K:v[j]=y:=by simpa [k] using E
  have n:y<4294967296:=by rw[<-K];exact gW B k
  have l:j<m.length:=om
  have w:=gW A l;have a:(p++e).length=p.length+j:=oj
  have F:=Fh G n f (show 0<4294967296 by omega);obtain⟨d,C,g1,H,g3,g4⟩:=JK (x:=m[j]) (y:=(q*y+c+0)%4294967296) (c:=b) w om i;rw[JG G n f om,aa,aK om om,show((p.length:Int)+(j:Int))=((p.length+j:Nat):Int) by omega,xa l,yr];simp only[];rw[We a,aa,g1,aa,aa,Yi a];refine⟨_,rfl,e++[d],oh,by simp[u],om,by grind[Vo,Vc,Vw],by simp only[];omega,g3,?_⟩;grind[Kd,Wo,W8,Nat.div_add_mod];rintro⟨o,c,b⟩ ⟨e,g,u,I,J,f,i,t⟩;simp only at g f i t;subst g;simp only[Vp];have a:(p++e).length=p.length+v.length:=oj
  obtain⟨d,C,g1,H,g3,g4⟩:=JK (x:=z) (y:=c) (c:=b) L f i;rw[aK om om,show((p.length:Int)+(v.length:Int))=((p.length+v.length:Nat):Int) by omega,xl om,xi,We a,aa,g1,aa,aa,Yi a];refine⟨_,rfl,e++[d],C,oh,by simp[u],by grind[Vo,Vc,Vw],g3,?_⟩;rw[xc oh,xc om] at t;grind[Wo,bp]
 grind
theorem Jhr(P M c d a y u V W:Nat)(e:4294967296*a+d=u+y+c)(h:W+P*c=M+V):W+P*d+P*4294967296*a=M+P*u+(V+P*y):=ol
theorem Q63{q' v:Bf}(A:m.length=v.length)(C:p.length+m.length+1+q'.length<=4611686018427387904)(q:Wd m)(B:Wd v)(F:z<4294967296):
 ∃ r b,rZ (p++m++z::q') (p.length:Int) v=some (p++r++q')/\r.length=v.length+1/\Wd r/\b<=1/\val r+bp (v.length+1)*b=val (m++[z])+val v:=by
 have key:∃ R,rZ (p++m++z::q') (p.length:Int) v=some R/\∃ r b,R=p++r++q'/\r.length=v.length+1/\Wd r/\b<=1/\val r+bp (v.length+1)*b=val (m++[z])+val v:=by
  unfold rZ;refine JD (λj (s:Bf×Nat)=>∃ d,s.1=p++d++(m.drop j++z::q')/\d.length=j/\j<=v.length/\Wd d/\s.2<=1/\val d+bp j*s.2=val (m.take j)+val (v.take j)) ⟨[],oh,rfl,xu _,Vw,oh,oe⟩ ?_ ?_;rintro j y ⟨o,c⟩ w ⟨d,e,f,k,u,l,g⟩;simp only at e l g;subst e;have x:j<v.length:=BL w;have E:v[j]=y:=ol
  have t:y<4294967296:=by grind[gW]
  have i:j<m.length:=om
  have n:=gW q i;have a:(p++d).length=p.length+j:=ol
  rw[aK om om,show((p.length:Int)+(j:Int))=((p.length+j:Nat):Int) by omega,xa i,yr];rw[We a,aa,Fl n t om,aa,aa,Yi a];refine⟨_,rfl,d++[(m[j]+y+c)%4294967296],oh,by simp[f],om,by grind[Vo,Vc,Vw],om,?_⟩;grind[o5,Wo,W8,Nat.div_add_mod];rintro⟨o,c⟩ ⟨d,e,f,k,u,l,g⟩;simp only at e l g;subst e;simp only[Vp];have a:(p++d).length=p.length+v.length:=ol
  rw[aK om om,show((p.length:Int)+(v.length:Int))=((p.length+v.length:Nat):Int) by omega,xl om,xi,We a,aa,aa,Yi a,aa];refine⟨_,rfl,d++[(z+c)%4294967296],(z+c) / 4294967296,oh,by simp[f],by grind[Vo,Vc,Vw],om,?_⟩;rw[xc (xe _),xc om] at g;rw[Wo,Wo,f,A,W8];have:=Jhr (bp v.length) (val m) c ((z+c)%4294967296) ((z+c) / 4294967296) 0 z (val v) (val d) om g;omega
 obtain⟨R,e,r,b,f,k⟩:=key;exact⟨r,b,ol,k⟩
theorem JN{a g q:Nat}(m:g<P)(p:q<4294967296)(n:q*(vl+P*a)<=g+P*d)(f:e+1=4294967296\/d<(e+1)*a):q<=e:=by
 rcases f with f | f;omega;have k:P*(q*a)<=q*(vl+P*a):=ol
 have i:P*(q*a)<P*(d+1):=ol
 have l:q*a<d+1:=Nat.lt_of_mul_lt_mul_left i;have j:q*a<(e+1)*a:=om
 exact Nat.le_of_lt_succ (Nat.lt_of_mul_lt_mul_right j)
theorem JO{a g:Nat}(l:vl<P)(n:d<4294967296)(m:4294967296<=a)(f:d*a<=e):d*(vl+P*a)<=(g+P*e)+(vl+P*a):=by
 have i:d*(vl+P*a)=d*vl+P*(d*a):=ol
 have j:P*(d*a)<=P*e:=yw _ f;have k:d*vl<=a*P:=uo om om;grind
theorem JP{a:Nat}(j:vl<P)(k:v4<4294967296)(l:e+P*((z*4294967296+a)*4294967296+x2)<4294967296*(vl+P*(v3*4294967296+v4))):z<=v3:=by
 have f:P*(z*4294967296*4294967296)<=P*((z*4294967296+a)*4294967296+x2):=ol
 have g:vl+P*(v3*4294967296+v4)<P*((v3+1)*4294967296):=by have:P*(v3*4294967296+v4+1)<=P*((v3+1)*4294967296):=yw _ om;grind
 have d:P*(z*4294967296*4294967296)<P*((v3+1)*4294967296*4294967296):=ol
 have i:=Nat.lt_of_mul_lt_mul_left d;omega
theorem mU{U V q:Nat}(h:r+q*V=U)(a:r<V):U / V=q/\U%V=r:=by grind[Nat.add_mul_div_right,Nat.div_eq_of_lt,Nat.add_mul_mod_self_right,Nat.mod_eq_of_lt]
theorem BQ{l:Bf}{m:Nat}(h:l.length=m+2):∃ l' a b,l=l'++[a,b]/\l'.length=m:=by refine⟨l.take m,l[m],l[m+1],?_,ol⟩;have d:=Kd (a:=l) (k:=m) om;have e:=Kd (a:=l) (k:=m+1) om;grind
theorem Jjx(p y w a V U j:Nat)(q r:Nat)(d:U=y+4294967296*w)(h:r+q*V=U):(p+j*y)+j*4294967296*(w+V*a)=p+j*(r+V*(q+4294967296*a)):=ol
theorem Jf9{w rest v:Bf}(X:aq<=n){vl i:Bf}(hv:v=vl++[v4,v3])(hw:w=i++[x2,j])(W:i.length=vl.length)
 (d:Wd v) (A:Wd w) (hz:z<4294967296) (R:v3≠0) (Y:p.length+w.length+1+rest.length<=4611686018427387904) (l:val (w++[z])<4294967296*val v) :
 ∃ r a,u6 n z j x2 v3 v4=some a/\r.length=v.length+1/\Wd r/\val r=val (w++[z])%val v/\val (w++[z]) / val v<4294967296 /\
   ((p5 (p++w++z::rest) (p.length:Int) v a=some (false,p++r++rest)/\a=val (w++[z]) / val v) \/
    (∃ M,p5 (p++w++z::rest) (p.length:Int) v a=some (true,M)/\rZ M (p.length:Int) v=some (p++r++rest)/\(a+4294967296 - 1)%4294967296=val (w++[z]) / val v)):=by
 have y:w.length=v.length:=ol
 have w1:Wd vl/\v4<4294967296/\v3<4294967296:=by grind[Vo,Vc]
 have w2:Wd i/\x2<4294967296/\j<4294967296:=by grind[Vo,Vc]
 obtain⟨w1,N,w4⟩:=w1;obtain⟨w2,w5,w6⟩:=w2;have I:val v=val vl+bp vl.length*(v3*4294967296+v4):=by grind[Y2,val]
 have J:val (w++[z])=val i+bp vl.length*((z*4294967296+j)*4294967296+x2):=by grind[Y2,val]
 have K:=V9 w1;have L:=V9 w2;rw[W] at L;have B:z<=v3:=by rw[I,J] at l;exact JP K N l
 obtain⟨a,g1,H,g3,g4⟩:=Q4x X B w6 w5 w4 N R;have g:0<val v:=om
 have u:val (w++[z]) / val v<4294967296:=(Nat.div_lt_iff_lt_mul g).2 l;have Z:val (w++[z]) / val v<=a:=by have:=Nat.div_mul_le_self (val (w++[z])) (val v);exact JN (vl:=val vl) L u ol g4
 have hqb:a*val v<=val (w++[z])+val v:=by rw[I,J];exact JO K H om g3
 have s:val (w++[z])<(a+1)*val v:=xr ((Nat.div_lt_iff_lt_mul g).1 (Nat.lt_succ_self _)) (vd _ om);obtain⟨r,b,t1,t2,t3,t4,t5⟩:=Q62 (p:=p) (m:=w) (q':=rest) (v:=v) (z:=z) (q:=a) y Y A d hz H;rw[Nat.add_mul,Nat.one_mul] at s;have hvb:=V9 d;have T:bp v.length<=bp (v.length+1):=cB om;by_cases S:b=0;subst S;rw[uj,xg] at t5;obtain⟨O,P⟩:=mU t5 om;grind;obtain rfl:b=1:=om
 rw[Nat.mul_one] at t5;have hr:=V9 t3;rw[t2] at hr;obtain⟨e,f,k⟩:∃ e f,r=e++[f]:=by rcases wm r with h | ⟨e,f,h⟩;rw[h] at t2;simp at t2;exact⟨e,f,by rw[h,List.concat_eq_append]⟩
 have Q:e.length=v.length:=by rw[k] at t2;simpa using t2
 have G:Wd e/\f<4294967296:=by rw[k] at t3;exact⟨(Vo.1 t3).1,(Vc.1 (Vo.1 t3).2).1⟩
 obtain⟨r',F,u1,u2,u3,u4,E⟩:=Q63 (p:=p) (m:=e) (q':=rest) (v:=v) (z:=f) Q om G.1 d G.2;have x:=V9 u3;rw[u2] at x;rw[<-k] at E
 obtain⟨C,rfl⟩:∃ C,a=C+1:=⟨a - 1,by
  have:a≠0:=by rintro rfl;omega
  omega⟩
 rw[Nat.add_mul,Nat.one_mul] at *;have t:F=1:=by rcases wt F with h | h;subst h;rw[uj] at E;omega;omega
 subst t;rw[Nat.mul_one] at E;obtain⟨O,P⟩:=mU (U:=val (w++[z])) (V:=val v) (q:=C) (r:=val r') om om;grind
theorem Q64{u v vl:Bf}(O:aq<=n)(P:v=vl++[v4,v3])(X:v3≠0)(g:Wd u)(q:Wd v)(hu:u.length<35184372088832)(hl:v.length<=u.length)(ht:val (u.drop (u.length - v.length))<val v):
 ∃ r,zS n u v=some r/\(r.1.length=u.length - v.length/\Wd r.1/\r.2.length=u.length/\Wd r.2/\val u=val v*val r.1+val r.2/\val r.2<val v):=by
 unfold zS;have G:=O;unfold aq at G;have hvl:v.length=vl.length+2:=ol
 rw[aK (x:=(u.length:Int) - (v.length:Int)) om om,show(u.length:Int) - (v.length:Int)=((u.length - v.length:Nat):Int) by omega,lE om om,aa]
 refine oX (λs=>(s.2.2+1).toNat) (λs=>∃(k:Nat) (p w e:Bf),s.2.2=(k:Int) - 1/\k<=u.length - v.length/\s.1=p++w/\p.length=k/\w.length=u.length - k/\Wd p/\Wd w/\val w<val v/\s.2.1=List.replicate k 0++e/\e.length=u.length - v.length - k/\Wd e/\val u=val p+bp k*(val w+val v*val e))
  (λt=>t.2.length=u.length - v.length/\Wd t.2/\t.1.length=u.length/\Wd t.1/\val u=val v*val t.2+val t.1/\val t.1<val v) ⟨u.length - v.length,u.take (u.length - v.length),u.drop (u.length - v.length),[],?_,xe _,oh,oh,oh,wA g,qb g,ht,oh,oh,Vw,?_⟩ ?_ ?_ oh
 . grind[aK]
 . simp only[val,uj,xg]
   grind[List.take_append_drop,Y2]
 . grind[aK]
 . rintro⟨uu,qq,i⟩ ⟨k,p,w,e,Q,i2,i3,i4,i5,i6,i7,i8,i9,i10,i11,H⟩
   simp only at Q i3 i9;subst Q i3 i9;simp only[ai,ap];by_cases h0:0<k
   . left
     obtain⟨j,rfl⟩:∃ j,k=j+1:=oo
     obtain⟨d,y,S⟩:∃ d y,p=d++[y]:=by
      rcases wm p with h | ⟨d,y,h⟩
      all_goals grind
     subst S;have C:d.length=j:=ol
     have T:Wd d/\y<4294967296:=by grind[Vo,Vc]
     have E:Wd (y::w):=by grind[Vc]
     have K:v.length<(y::w).length:=ol
     have L:y::w=(y::w).take v.length++(y::w)[v.length]::(y::w).drop (v.length+1):=Jhn K;have M:val ((y::w).drop (v.length+1))=0:=by rw[vo,<-Fo i7];exact vc (Nat.lt_trans i8 (V9 q))
     have U:val ((y::w).take v.length++[(y::w)[v.length]])=y+4294967296*val w:=by have:=yj val L;rw[show ∀(a b:Bf) (x:Nat),a++x::b=(a++[x])++b by simp,Y2,M,uj,xg] at this;rw[<-this];rfl
     have w1:Wd ((y::w).take v.length):=wA E;have w2:(y::w)[v.length]<4294967296:=gW E K;have w3:Wd ((y::w).drop (v.length+1)):=qb E;have w4:((y::w).take v.length).length=v.length:=ol
     have w5:((y::w).drop (v.length+1)).length=u.length - j - (v.length+1):=by rw[yh,xd];omega
     rw[show d++[y]++w=d++(y::w) by simp,L];generalize (y::w).take v.length=W at *;generalize (y::w)[v.length]=z at *;generalize (y::w).drop (v.length+1)=R at *;obtain⟨B,x2,A,F,V⟩:=BQ (l:=W) (m:=vl.length) om;obtain⟨r,I,g1,g2,g3,g4,g5,N⟩:=Jf9 (p:=d) (w:=W) (rest:=R) (v:=v) (z:=z) O P F V q w1 w2 X om om;rw[ot om,show((j+1:Nat):Int) - 1=(j:Int) by omega];rw[aK (x:=(j:Int)+(v.length:Int)) om om,show(j:Int)+(v.length:Int)=((j+vl.length+2:Nat):Int) by omega];rw[aK (x:=((j+vl.length+2:Nat):Int) - 1) om om,aK (x:=((j+vl.length+2:Nat):Int) - 2) om om,show((j+vl.length+2:Nat):Int) - 1=((j+vl.length+1:Nat):Int) by omega,show((j+vl.length+2:Nat):Int) - 2=((j+vl.length:Nat):Int) by omega];rw[aK (x:=(v.length:Int) - 1) om om,aK (x:=(v.length:Int) - 2) om om,show(v.length:Int) - 1=((vl.length+1:Nat):Int) by omega,show(v.length:Int) - 2=((vl.length:Nat):Int) by omega];have a1:ah (d++(W++z::R)) ((j+vl.length+2:Nat):Int)=some z:=by
      rw[<-ye];exact We ol
     have a2:ah (d++(W++z::R)) ((j+vl.length+1:Nat):Int)=some A:=by rw[F,show d++(B++[x2,A]++z::R)=(d++B++[x2])++A::(z::R) by simp];exact We ol
     have a3:ah (d++(W++z::R)) ((j+vl.length:Nat):Int)=some x2:=by rw[F,show d++(B++[x2,A]++z::R)=(d++B)++x2::(A::z::R) by simp];exact We ol
     have a4:ah v ((vl.length+1:Nat):Int)=some v3:=by rw[P,show vl++[v4,v3]=(vl++[v4])++v3::[] by simp];exact We oh
     have a5:ah v ((vl.length:Nat):Int)=some v4:=by simp_all[We]
     rw[a1,aa,a2,aa,a3,aa,a4,aa,a5,aa,g1,aa];have a6:∀(q':Nat),ah (List.replicate (j+1) 0++e) (j:Int)=some 0/\(List.replicate (j+1) 0++e).set (Int.toNat (j:Int)) q'=List.replicate j 0++q'::e:=by grind[List.replicate_succ',We,Yi]
     rw[C,ye] at N;have f:∀ q',q'=val (W++[z]) / val v->∃ s',(some (Lp.go (d++r++R,List.replicate j 0++q'::e,wrap64 ((j:Int) - 1))):Option (Lp (Bf×Bf×Int) (Bf×Bf)))=some (Lp.go s')/\(∃(k:Nat) (p w e:Bf),s'.2.2=(k:Int) - 1/\k<=u.length - v.length/\s'.1=p++w/\p.length=k/\w.length=u.length - k/\Wd p/\Wd w/\val w<val v/\s'.2.1=List.replicate k 0++e/\e.length=u.length - v.length - k/\Wd e/\val u=val p+bp k*(val w+val v*val e))/\(s'.2.2+1).toNat<((j:Int)+1).toNat:=by
      intro q' Z;have Y:0<val v:=om
      rw[aK om om];refine⟨_,rfl,⟨j,d,r++R,q'::e,rfl,om,oh,C,ol,T.1,by grind[Vo],?_,rfl,ol,by grind[Vc],?_⟩,oh⟩
      . simp_all[Y2,yo]
      . rw[H,Wo,C,W8,Y2,M,uj,xg]
        simp only[val];refine Jjx _ _ _ _ _ _ _ _ _ U ?_;grind[Nat.mod_add_div]
     rcases N with ⟨J,t2⟩ | ⟨r1,J,t2,t3⟩
     . rw[J,aa]
       simp only[ak];rw[(a6 I).1,aa,(a6 I).2];exact f _ t2
     . rw[J,aa]
       simp only[aj];rw[t2,aa,(a6 ((I+4294967296 - 1)%4294967296)).1,aa,(a6 _).2];exact f _ t3
   . right
     obtain rfl:k=0:=om
     obtain rfl:p=[]:=ol
     rw[oq om];refine⟨_,rfl,ol,ol,ol,ol,?_,ol⟩;grind[jf,val]
theorem Joa(d:x<4294967296):aP x<=32:=by
 rcases yx 32 (aP x) with h | h;have h0:x≠0:=by rintro rfl;rw[sC] at h;omega
 have g1:=sE h0;have a:2 ^ 32<=2 ^ (aP x - 1):=ui oc om;omega;omega
theorem Wa(d:Wd a):(ay (val a)).length<=a.length:=by grind[Ke,Wy]
theorem QO{s:Nat}(d:s<=32):(ay (v*2 ^ s)).length<=(ay v).length+1:=by refine Wn ?_;have a:=V9 (Jh v);rw[Q6] at a;rw[W8];exact xr (Nat.mul_lt_mul_of_pos_right a ol) (yw _ (Fn d))
theorem BR(h:4294967296<=v):∃ vl v4 v3,ay v=vl++[v4,v3]/\v3≠0:=by
 have h0:ay v≠[]:=by grind[iJ]
 obtain⟨p,x,a,d,e,f⟩:=JM h0;rcases wm p with h5 | ⟨p',y,h5⟩
 all_goals grind[Q6,val]
theorem Job(h:v≠0):bp ((ay v).length - 1)<=v:=by
 have h0:ay v≠[]:=by grind[iJ]
 obtain⟨p,x,a,d,e,f⟩:=JM h0;have:=Q6 v;rw[a,Wo] at this;rw[a,xo,ug,Nat.add_sub_cancel,<-this];have:bp p.length*1<=bp p.length*x:=yw _ om;omega
theorem JQ(e:aq<=n)(ha:a.length<4398046511104)(hb:b.length<4398046511104)(d:Wd a)(m:Wd b):
 p6 n a b=some (if val b=0 then ([],[],false) else (ay (val a / val b),ay (val a%val b),true)):=by
 unfold p6;have W:=Wa m;have T:=Wa d;rw[W2 e om,aa,<-Ke m,ap];by_cases h0:val b=0;simp_all[W3];have Y:ay (val b)≠[]:=by grind[iJ]
 have S:(ay (val b)).length≠0:=ol
 rw[oq om,oq h0,BJ e om om d (Jh _),aa,Q6,ap];by_cases g:val a<val b;rw[ot (by simp_all[da]),W2 e om,aa,vc g,xb g,W3,Ke d];rw[oq (by rw[da,oq g];omega),ap];by_cases N:(ay (val b)).length=1;rw[ot om];obtain⟨y,J⟩:=List.length_eq_one_iff.1 N;have H:=Q6 (val b);have I:=Jh (val b);rw[J] at H I;simp only[val,uj,xg] at H;have B:=(Vc.1 I).1;rw[J,show ah [y] 0=some y by rfl,aa,P9 e om d om B,aa];simp only[];have:=yo (val a) (show y > 0 by omega);grind[sA];rw[oq om];have j:4294967296<=val b:=by
  rcases yx (val b) 4294967296 with h | h;have:=Wn (n:=val b) (k:=1) (by rw[W8,jf];omega);omega;omega
 obtain⟨bl,C,f,K,e2⟩:=BR j;have p:=Jh (val b);have i:f<4294967296:=by grind[Vc,Vo]
 have P:(ay (val b)).length=bl.length+2:=ol
 rw[aK (x:=((ay (val b)).length:Int) - 1) om om,show((ay (val b)).length:Int) - 1=((bl.length+1:Nat):Int) by omega];rw[show ah (ay (val b)) ((bl.length+1:Nat):Int)=some f by rw[K,show bl++[C,f]=(bl++[C])++f::[] by simp];exact We oh,aa,QL e i,aa];have hs:=Joa i;rw[aK (x:=32 - (aP f:Int)) om om,show 32 - (aP f:Int)=((32 - aP f:Nat):Int) by omega];have l:32 - aP f<=32:=om
 generalize 32 - aP f=s at *;have O:=Nat.two_pow_pos s;rw[QM e om d om,aa];have l1:=QO (v:=val a) l;have l2:=QO (v:=val b) l;rw[Jv ol ol,aa,QM e om p om,aa,Q6];have Q:val b<=val b*2 ^ s:=Nat.le_mul_of_pos_right _ O;obtain⟨vl,v4,v3,L,M⟩:=BR (v:=val b*2 ^ s) om;have w:val b*2 ^ s<=val a*2 ^ s:=vd _ om;have X:=Zd w;have R:=Job (v:=val b*2 ^ s) om;have Z:(ay (val b*2 ^ s)).length=vl.length+2:=ol
 have A:Wd (ay (val a*2 ^ s)++[0]):=by grind[Vo,Jh,Vc,Vw]
 obtain⟨⟨q,r⟩,g1,E,g3,g4,F,G,t⟩:=Q64 (u:=ay (val a*2 ^ s)++[0]) (v:=ay (val b*2 ^ s)) e L M A (Jh _) ol ol (by
  rw[xo,ug,List.drop_append_of_le_length om,Wo,uj,xg,Q6];have:=V9 (qb (k:=(ay (val a*2 ^ s)).length+1 - (ay (val b*2 ^ s)).length) (Jh (val a*2 ^ s)))
  grind)
 simp only at E g3 g4 F G t;rw[Wo,uj,xg,Q6,Q6] at G;rw[Q6] at t;rw[xo,ug] at E g4;rw[g1,aa];simp only[];rw[W2 e om,aa,Q61 e om F om,aa,<-Ke g3];obtain⟨d1,d2⟩:=mU (U:=val a*2 ^ s) (V:=val b*2 ^ s) (q:=val q) (r:=val r) ol t;grind[Nat.mul_div_mul_right,Nat.mul_mod_mul_right,Nat.mul_div_cancel]
theorem Q1i(e:aq<=n)(f:y<18446744073709551616):zW n x y=some (Nat.gcd x y):=by unfold zW;unfold aq at e;refine Ws (λs=>s.2) (λs=>s.2<18446744073709551616/\Nat.gcd s.1 s.2=Nat.gcd x y) (λt=>t=Nat.gcd x y) ⟨f,rfl⟩ om ?_ oh;rintro⟨u,v⟩ ⟨a,d⟩;simp only at a d;simp only[bB];by_cases h0:v=0;grind;left;rw[oq h0,dn (by simp[h0]),aa];have:=yo u (show v > 0 by omega);exact⟨_,rfl,by grind[Nat.gcd_comm,Nat.gcd_rec],this⟩
theorem Q4y:zY (ay v)=some (decide (v=1)):=by
 unfold zY;simp only[ai,ap];by_cases h:(ay v).length=1;obtain⟨x,a⟩:=List.length_eq_one_iff.1 h;have:=Q6 v;simp_all[val,ah];rw[oq om];have:v≠1:=by rintro rfl;grind[iJ,W3]
 grind
theorem Jlo(h:v<2 ^ k):aP v<=k:=by
 rcases yx k (aP v) with a | a;have h0:v≠0:=by rintro rfl;grind[sC]
 have g1:=sE h0;have d:2 ^ k<=2 ^ (aP v - 1):=ui oc om;omega;omega
theorem Jlp(h:2*r<u):aP r<aP u:=by
 have d:=BM (x:=u);by_cases h0:r=0;grind[sC];have g1:=sE h0;have a:=JL h0;have g3:2 ^ aP r=2 ^ (aP r - 1)*2:=by grind[Nat.pow_succ,aP]
 have g4:2 ^ aP r<2 ^ aP u:=om
 grind[Nat.pow_lt_pow_iff_right]
theorem QP:aP v<=32*(ay v).length:=by refine Jlo ?_;grind[nW,V9,Jh,Q6]
theorem Jjy(h0:v≠0):aP v+aP (u%v)+(if v<u%v then 1 else 0)<aP u+aP v+(if u<v then 1 else 0):=by
 have g:=yo u (show v > 0 by omega);rw[oq om];by_cases h:u<v;rw[ot h,xb h];omega;rw[oq h];have d:2*(u%v)<u:=by
  have e:=uy u v;have a:1<=u / v:=ol
  have f:v*1<=v*(u / v):=yw _ a;omega
 have:=Jlp d;omega
theorem Q4z(d:aq<=n)(y:a.length<4398046511104)(A:b.length<4398046511104)(f:Wd a)(g:Wd b):zX n a b=some (ay (Nat.gcd (val a) (val b))):=by
 unfold zX;have p:=Wa f;have q:=Wa g;rw[W2 d om,aa,W2 d om,aa,<-Ke f,<-Ke g];have k:=d;unfold aq at k
 refine Ws (λs=>aP (val s.1)+aP (val s.2)+(if val s.1<val s.2 then 1 else 0)) (λs=>∃ u v,s=(ay u,ay v)/\Nat.gcd u v=Nat.gcd (val a) (val b)/\(ay u).length<4398046511104/\(ay v).length<4398046511104)
  (λt=>∃ u v,t=(ay u,ay v)/\Nat.gcd u v=Nat.gcd (val a) (val b)/\(ay u).length<4398046511104/\(ay v).length<=2) ⟨val a,val b,rfl,rfl,om,om⟩ ?_ ?_ ?_
 grind[Q6,QP];rintro s ⟨u,v,rfl,m,j,i⟩;simp only[ap,Q6];by_cases h0:2<(ay v).length;left;have l:v≠0:=by rintro rfl;rw[W3] at h0;simp at h0
 rw[ot om,JQ d j i (Jh _) (Jh _),aa,Q6,Q6,oq l];refine⟨_,rfl,⟨v,u%v,rfl,?_,i,?_⟩,?_⟩;rw[<-m,Nat.gcd_comm u v,Nat.gcd_rec v u,Nat.gcd_comm];exact xh (Zd (Nat.le_of_lt (yo u om))) i;simp_all[Q6,Jjy];grind;rintro t ⟨u,v,rfl,m,j,i⟩;simp only[ap];by_cases h0:v=0;simp_all[W3];have x:(ay v).length≠0:=by grind[iJ]
 have e:v<18446744073709551616:=by grind[QD]
 have w:=yo u (show v > 0 by omega);have r:=Zd (Nat.le_of_lt w);rw[oq om,JQ d j om (Jh _) (Jh _),aa,Q6,Q6,oq h0];simp only[];rw[BK d om (Jh _),aa,BK d om (Jh _),aa,Q6,Q6,ot e,ot om];grind[Q1i,sA,Nat.gcd_le_left,Nat.gcd_comm,Nat.gcd_rec]
theorem Qz8(g:aq<=n)(j:a.length<4398046511104)(k:b.length<4398046511104)(d:Wd a)(e:Wd b):
 zZ n a b=some (ay (val a / Nat.gcd (val a) (val b)),ay (val b / Nat.gcd (val a) (val b))):=by
 unfold zZ;rw[Q4z g j k d e,aa,ap];have l:Nat.gcd (val a) (val b) ∣ val a:=Nat.gcd_dvd_left _ _;have m:Nat.gcd (val a) (val b) ∣ val b:=Nat.gcd_dvd_right _ _;have p:=Wa d;have q:=Wa e;have f:Nat.gcd (val a) (val b)=0\/(ay (Nat.gcd (val a) (val b))).length<4398046511104:=by by_cases h:val a=0;grind;right;exact xh (Zd (Nat.gcd_le_left _ om)) om
 by_cases h0:Nat.gcd (val a) (val b)=0;simp_all[W3];have r:(ay (Nat.gcd (val a) (val b))).length≠0:=by grind[iJ]
 rw[oq om,Q4y,aa,ap];by_cases i:Nat.gcd (val a) (val b)=1;rw[ot i,W2 g om,aa,W2 g om,aa,i,Nat.div_one,Nat.div_one,Ke d,Ke e];have f:(ay (Nat.gcd (val a) (val b))).length<4398046511104:=om
 simp_all[oq,JQ,Jh,Q6]
def wv(w:Qg):Int:=if w.A8 then -(val w.A7:Int) else (val w.A7:Int)
def fu(z:Int):Qg:=⟨decide (z<0),ay z.natAbs⟩
theorem jV(z:Int):wv (fu z)=z:=by unfold wv fu;simp only[yq,Q6];omega
theorem wD:0<(ay v).length↔v≠0:=by constructor;rintro h rfl;rw[W3] at h;simp at h;grind[iJ]
theorem Ze{s:Bool}:Yb s (ay v)=some (fu (if s then -(v:Int) else (v:Int))):=by unfold Yb fu;rw[ai];cases s;rfl;rw[aj];congr 2;exact vt.2 (by simp only[yt];grind[wD]);simp
def Ww(w:Qg):Prop:=Wd w.A7/\w.A7.length<4398046511104
theorem Q40(a:aq<=n)(h:Ww w):z8 n w=some (fu (wv w)):=by unfold z8;rw[W2 a (by have:=h.2;omega),aa,<-Ke h.1,Ze,aa];rfl
theorem Jlq(s t:Bool)(x y:Nat):(if (s != t) then -((x*y:Nat):Int) else ((x*y:Nat):Int))=(if s then -(x:Int) else (x:Int))*(if t then -(y:Int) else (y:Int)):=ol
theorem Q65{u:Qg}(e:aq<=n)(d:Ww w)(a:Ww u):AE n w u=some (fu (wv w*wv u)):=by unfold AE;rw[Fm e (by have:=d.2;omega) (by have:=a.2;omega) d.1 a.1,aa,Ze,aa,Jlq];rfl
theorem QQ{x y:Nat}:da x y<0↔x<y:=by by_cases h:x<y;simp[da,h];rw[da,oq h];omega
theorem QS{u:Qg}(f:aq<=n)(e:Ww w)(d:Ww u):vC n w u=some (fu (wv w+wv u)):=by unfold vC;have i:=e.2;have j:=d.2;rw[QH f om om e.1 d.1,aa,Ze,aa,Jby f om om e.1 d.1,aa,ap,Ze,aa,Ze,aa];unfold wv;rcases w with ⟨s,a⟩;rcases u with ⟨t,b⟩;simp only[];generalize val a=x;generalize val b=y;have g:=@QQ x y;grind
theorem Q66(a:aq<=n)(h:Ww w):AI n w=some (fu (-wv w)):=by unfold AI;rw[W2 a (by have:=h.2;omega),aa,<-Ke h.1,Ze,aa];grind[wv]
theorem Jlr(z:Int):(fu (-z)).A7=(fu z).A7:=by grind[fu]
theorem mV(z:Int):Wd (fu z).A7:=Jh _
theorem QT(a:aq<=n)(h:Ww w):sh n w=some (Int.sign (wv w)):=by unfold sh wv;rw[wB a (by have:=h.2;omega) h.1,aa,ap];grind
theorem Fp(w:Qg):(wv w).natAbs=val w.A7:=by grind[wv]
theorem Joc(h:Ww w):Ww (fu (-wv w)):=by refine⟨mV _,?_⟩;rw[Jlr];show(ay (wv w).natAbs).length<_;rw[Fp];exact xh (Wa h.1) h.2
theorem QU{u:Qg}(a:aq<=n)(e:Ww w)(d:Ww u):vD n w u=some (fu (wv w - wv u)):=by grind[vD,Q66,QS,Joc,jV]
theorem Q67{u:Qg}(a:aq<=n)(e:Ww w)(d:Ww u)(h:Ww (fu (wv w - wv u))):AJ n w u=some (Int.sign (wv w - wv u)):=by grind[AJ,QU,QT,jV]
def fv(f:Qb):Rat:=mkRat (wv f.Num) (val f.Den)
def ce(q:Rat):Qb:=⟨fu q.num,ay q.den⟩
theorem nX(q:Rat):fv (ce q)=q:=by grind[fv,ce,jV,Q6,Rat.mkRat_self]
theorem Fq{z:Int}(hd:d≠0):(mkRat z d).num=z / (Nat.gcd z.natAbs d:Int)/\(mkRat z d).den=d / Nat.gcd z.natAbs d:=by rw[<-Rat.normalize_eq_mkRat hd,Rat.normalize_eq];simp
theorem QV(s:Bool)(x g:Nat)(h:g ∣ x):(if s then -((x / g:Nat):Int) else ((x / g:Nat):Int))=(if s then -(x:Int) else (x:Int)) / (g:Int):=by grind[Int.neg_ediv_of_dvd,Int.natCast_dvd_natCast]
theorem Fr{d:Bf}(g:aq<=n)(e:Ww w)(hd:Wd d)(l:d.length<4398046511104)(h0:val d≠0):oS n w d=some (ce (mkRat (wv w) (val d))):=by unfold oS;have f:=e.2;have k:Nat.gcd (val w.A7) (val d) ∣ val w.A7:=Nat.gcd_dvd_left _ _;have a:(ay (val w.A7 / Nat.gcd (val w.A7) (val d))).length<4398046511104:=xh (xz (Zd (vh _ _)) (Wa e.1)) f;rw[Qz8 g f l e.1 hd,aa,Q40 g ⟨Jh _,a⟩,aa];obtain⟨i,j⟩:=Fq (z:=wv w) h0;unfold ce;rw[i,j,Fp];congr 2;unfold wv;rw[Q6];congr 1;exact QV _ _ _ k
def Fw(f:Qb):Prop:=Ww f.Num/\Wd f.Den/\f.Den.length<4398046511104
theorem QW(a:aq<=n)(hf:Fw f):∃ p,Ye n f=some p/\Ww p.1/\Wd p.2/\p.2.length<=max 1 f.Den.length/\p.1.A7.length<=f.Num.A7.length/\val p.2≠0/\mkRat (wv p.1) (val p.2)=fv f:=by obtain⟨e,d,g⟩:=hf;unfold Ye fv;rw[wB a om d,aa,ap];by_cases h0:val f.Den=0;rw[ot h0,sA a om,aa];refine⟨_,rfl,⟨Vw,oh⟩,Jh _,?_,oh,by grind[Q6],?_⟩;have:=Wn (n:=1) (k:=1) (by rw[W8,jf];omega);grind;simp only[Q6,h0,Rat.mkRat_zero];rfl;rw[oq h0];grind
theorem Q68(a:aq<=n)(hf:Fw f):AD n f=some (ce (fv f)):=by obtain⟨p,d,e,g,k,l,i,j⟩:=QW a hf;unfold AD;rw[d,aa,Fr a e g (by have:=hf.2.2;omega) i,aa,j]
theorem o6{x y:Nat}:(ay (x*y)).length<=(ay x).length+(ay y).length:=by refine Wn ?_;have a:=V9 (Jh x);have d:=V9 (Jh y);simp_all[Q6,BI,Nat.mul_lt_mul'']
theorem wE(d:(ay x).length<=k)(e:(ay y).length<=k):(ay (x+y)).length<=k+1:=by refine Wn ?_;have g1:=V9 (Jh x);have a:=V9 (Jh y);rw[Q6] at g1 a;have g3:=cB d;have g4:=cB e;grind[W8]
theorem wF{d:Bf}(e:aq<=n)(f:Ww w)(hd:Wd d)(a:d.length<4398046511104):mR n w d=some (fu (wv w*(val d:Int))):=by unfold mR;rw[Q65 e f ⟨hd,a⟩,aa];rfl
def Fk(k:Nat)(f:Qb):Prop:=Wd f.Num.A7/\f.Num.A7.length<=k/\Wd f.Den/\f.Den.length<=k
theorem mW(h:Fk k f)(hk:k<4398046511104):Fw f:=⟨⟨h.1,by have:=h.2.1;omega⟩,h.2.2.1,by have:=h.2.2.2;omega⟩
theorem sF(m:aq<=n)(hf:Fk k f)(a:1<=k)(hk:k<4398046511104):∃ w d,Ye n f=some (w,d)/\Wd w.A7/\w.A7.length<=k/\Wd d/\d.length<=k/\val d≠0/\mkRat (wv w) (val d)=fv f:=by obtain⟨⟨w,d⟩,a,e,g,p,i,j,l⟩:=QW m (mW hf hk);exact⟨w,d,a,e.1,xz i hf.2.1,g,by have:=hf.2.2.2;grind,j,l⟩
theorem wG(a:Wd w.A7)(d:w.A7.length<=k)(e:(ay y).length<=j):(fu (wv w*(y:Int))).A7.length<=k+j:=by grind[fu,Int.natAbs_mul,Fp,o6,Wa]
theorem Q9o(a:aq<=n)(l:1<=k)(hk:k<1099511627776)(hf:Fk k f)(x:Fk k g):AH n f g=some (ce (fv f+fv g)):=by
 obtain⟨w,d,a1,a2,a3,a4,a5,a6,a7⟩:=sF a hf l om;obtain⟨u,e,q,j,r,i,s,t,v⟩:=sF a x l om;have m:=wG a2 a3 (xz (Wa i) s);have p:=wG j r (xz (Wa a4) a5);unfold AH;rw[a1,aa,q,aa,wF a ⟨a2,om⟩ i om,aa,wF a ⟨j,om⟩ a4 om,aa,QS a ⟨mV _,om⟩ ⟨mV _,om⟩,aa,Fm a om om a4 i,aa];have A:=@o6 (val d) (val e);have B:=Wa a4;have C:=Wa i;rw[jV,jV];have y:(fu (wv w * ↑(val e)+wv u * ↑(val d))).A7.length<=2*k+1:=by
  unfold fu at m p |-;simp only[] at m p |-;have:=Int.natAbs_add_le (wv w * ↑(val e)) (wv u * ↑(val d));exact xz (Zd this) (wE om om)
 rw[Fr a ⟨mV _,om⟩ (Jh _) om (by grind[Q6,Nat.mul_ne_zero]),aa,Q6,jV,<-a7,<-v,wo _ _ a6 t]
theorem Jm2(a:aq<=n)(l:1<=k)(hk:k<1099511627776)(hf:Fk k f)(x:Fk k g):PZ n f g=some (ce (fv f - fv g)):=by
 obtain⟨w,d,a1,a2,a3,a4,a5,a6,a7⟩:=sF a hf l om;obtain⟨u,e,q,j,r,i,s,t,v⟩:=sF a x l om;have m:=wG a2 a3 (xz (Wa i) s);have p:=wG j r (xz (Wa a4) a5);unfold PZ;rw[a1,aa,q,aa,wF a ⟨a2,om⟩ i om,aa,wF a ⟨j,om⟩ a4 om,aa,QU a ⟨mV _,om⟩ ⟨mV _,om⟩,aa,Fm a om om a4 i,aa];have A:=@o6 (val d) (val e);have B:=Wa a4;have C:=Wa i;rw[jV,jV];have y:(fu (wv w * ↑(val e) - wv u * ↑(val d))).A7.length<=2*k+1:=by
  unfold fu at m p |-;simp only[] at m p |-;have:=Int.natAbs_sub_le (wv w * ↑(val e)) (wv u * ↑(val d));exact xz (Zd this) (wE om om)
 rw[Fr a ⟨mV _,om⟩ (Jh _) om (by grind[Q6,Nat.mul_ne_zero]),aa,Q6,jV,<-a7,<-v,Rat.sub_eq_add_neg,Rat.neg_mkRat,wo _ _ a6 t,Int.neg_mul,<-Int.sub_eq_add_neg]
theorem QX{a b:Int}(hd:d≠0)(f:e≠0):Int.sign (a*(e:Int) - b*(d:Int))=Int.sign (mkRat a d - mkRat b e).num:=by
 rw[Rat.sub_eq_add_neg,Rat.neg_mkRat,wo _ _ hd f,Int.neg_mul,<-Int.sub_eq_add_neg];generalize a*(e:Int) - b*(d:Int)=z;have h0:d*e≠0:=Nat.mul_ne_zero hd f;obtain⟨i,_⟩:=Fq (z:=z) h0;rw[i];have k:(Nat.gcd z.natAbs (d*e):Int) ∣ z:=Int.dvd_natAbs.1 (Int.natCast_dvd_natCast.2 (Nat.gcd_dvd_left _ _));obtain⟨c,j⟩:=k;have l:0<Nat.gcd z.natAbs (d*e):=ol
 generalize Nat.gcd z.natAbs (d*e)=g at *;subst j;rw[Int.mul_ediv_cancel_left _ om,Int.sign_mul,Int.sign_eq_one_of_pos om,Int.one_mul]
theorem BS(a:aq<=n)(l:1<=k)(hk:k<1099511627776)(hf:Fk k f)(x:Fk k g):oT n f g=some (Int.sign (fv f - fv g).num):=by
 obtain⟨w,d,a1,a2,a3,a4,a5,a6,a7⟩:=sF a hf l om;obtain⟨u,e,q,i,r,j,s,t,v⟩:=sF a x l om;have m:=wG a2 a3 (xz (Wa j) s);have p:=wG i r (xz (Wa a4) a5);have y:(fu (wv w * ↑(val e) - wv u * ↑(val d))).A7.length<=2*k+1:=by unfold fu at m p |-;simp only[] at m p |-;have:=Int.natAbs_sub_le (wv w * ↑(val e)) (wv u * ↑(val d));exact xz (Zd this) (wE om om)
 unfold oT;rw[a1,aa,q,aa,wF a ⟨a2,om⟩ j om,aa,wF a ⟨i,om⟩ a4 om,aa,Q67 a ⟨mV _,om⟩ ⟨mV _,om⟩ (by rw[jV,jV];exact⟨mV _,om⟩),aa,jV,jV,QX a6 t,a7,v]
def aT{α β τ:Type}(g:Nat->α->β->β ⊕ τ)(e:β->τ):List α->Nat->β->τ
 | [],_,b=>e b
 | x::xs,i,b=>match g i x b with
   | .inl a=>aT g e xs (i+1) a
   | .inr t=>t
def sG{β σ τ:Type}(mk:β->Nat->σ)(i:Nat):β ⊕ τ->Lp σ τ
 | .inl b=>.go (mk b (i+1))
 | .inr t=>.out t
theorem QY{α β σ τ:Type}{f:σ->Option (Lp σ τ)}(mk:β->Nat->σ)(g:Nat->α->β->β ⊕ τ)(e:β->τ)(I:Nat->β->Prop):∀(xs:List α) (k:Nat) (b:β) (n:Nat),
 (∀ i x b,xs[i]?=some x->I (k+i) b->f (mk b (k+i))=some (sG mk (k+i) (g (k+i) x b))/\∀ a,g (k+i) x b=.inl a->I (k+i+1) a) ->
 (∀ b,I (k+xs.length) b->f (mk b (k+xs.length))=some (.out (e b)))->I k b->xs.length<n->ae f n (mk b k)=some (aT g e xs k b)
 | [],k,b,n,_,j,h0,s=>by simp only[yn,xg] at j;rw[Jp (j b h0) om];rfl
 | x::xs,k,b,n,q,j,h0,s=>by
   obtain⟨m,rfl⟩:∃ m,n=m+1:=⟨n - 1,om⟩
   obtain⟨d,p⟩:=q 0 x b rfl h0;simp only[xg] at d p;simp only[aT];cases l:g k x b with
   | inl a=>
     rw[l] at d;rw[V0 d];refine QY mk g e I xs (k+1) a m (λi y c u r=>?_) (λc r=>?_) (p a l) ol;have:=q (i+1) y c (by simpa using u);grind;grind
   | inr t=>rw[l] at d;rw[Jp d om]
theorem QZ{f:σ->Option (Lp σ τ)}(mk:β->Nat->σ)(g:Nat->α->β->β ⊕ τ)(e:β->τ)(I:Nat->β->Prop)(xs:List α){b:β}
 (j:∀ i x b,xs[i]?=some x->I i b->f (mk b i)=some (sG mk i (g i x b))/\∀ a,g i x b=.inl a->I (i+1) a)
 (k:∀ b,I xs.length b->f (mk b xs.length)=some (.out (e b))) (h0:I 0 b) (d:xs.length<n):ae f n (mk b 0)=some (aT g e xs 0 b):=
 QY mk g e I xs 0 b n ol ol h0 d
theorem wH{f:σ->Option (Lp σ τ)}{k:τ->Option R}{r:Option R}{s0:σ}(mk:β->Nat->σ)(g:Nat->α->β->β ⊕ τ)(e:β->τ)(I:Nat->β->Prop)(xs:List α)(b:β)
 (d:∀ i x b,xs[i]?=some x->I i b->f (mk b i)=some (sG mk i (g i x b))/\∀ a,g i x b=.inl a->I (i+1) a)
 (j:∀ b,I xs.length b->f (mk b xs.length)=some (.out (e b))) (h0:I 0 b) (l:xs.length<n) (hk:k (aT g e xs 0 b)=r) (m:s0=mk b 0:=by rfl):(ae f n s0).bind k=r:=by
 rw[m,QZ mk g e I xs d j h0 l,yb,hk]
def dw{β σ τ0 τ:Type}(mk:β->Nat->σ)(i:Nat):β ⊕ τ->Lp σ (Lp τ0 τ)
 | .inl b=>.go (mk b (i+1))
 | .inr t=>.out (.out t)
theorem sH{τ0:Type}{f:σ->Option (Lp σ (Lp τ0 τ))}{k:τ0->Option τ}{s0:σ}(mk:β->Nat->σ)(g:Nat->α->β->β ⊕ τ)(p:β->τ0)(e:β->τ)(I:Nat->β->Prop)(xs:List α)(b:β)
 (r:∀ i x b,xs[i]?=some x->I i b->f (mk b i)=some (dw mk i (g i x b))/\∀ a,g i x b=.inl a->I (i+1) a)
 (l:∀ b,I xs.length b->f (mk b xs.length)=some (.out (.go (p b)))) (hk:∀ b,I xs.length b->k (p b)=some (e b)) (h0:I 0 b) (u:xs.length<n) (B:s0=mk b 0:=by rfl) :
 (ae f n s0).bind (aS k)=some (aT g e xs 0 b):=by
 have key:∀(xs:List α) (j:Nat) (b:β) (n:Nat),
  (∀ i x b,xs[i]?=some x->I (j+i) b->f (mk b (j+i))=some (dw mk (j+i) (g (j+i) x b))/\∀ a,g (j+i) x b=.inl a->I (j+i+1) a) ->
  (∀ b,I (j+xs.length) b->f (mk b (j+xs.length))=some (.out (.go (p b))))->(∀ b,I (j+xs.length) b->k (p b)=some (e b))->I j b->xs.length<n->(ae f n (mk b j)).bind (aS k)=some (aT g e xs j b):=by
  intro xs
  induction xs with
  | nil=>
    intro j b n _ l hk h0 u;simp only[yn,xg] at l hk;rw[Jp (l b h0) om,yb];exact hk b h0
  | cons x xs A=>
    intro j b n r l hk h0 u;obtain⟨m,rfl⟩:∃ m,n=m+1:=⟨n - 1,om⟩
    obtain⟨d,v⟩:=r 0 x b rfl h0;simp only[xg] at d v;simp only[aT];cases s:g j x b with
    | inl a=>
      rw[s] at d;rw[V0 d];refine A (j+1) a m (λi y c w q=>?_) (λc q=>?_) (λc q=>?_) (v a s) (by simp at u;omega);have:=r (i+1) y c (by simpa using w);rw[show j+(i+1)=j+1+i by omega] at this;exact this q;have:=l c;rw[xd,show j+(xs.length+1)=j+1+xs.length by omega] at this;exact this q;grind
    | inr t=>rw[s] at d;rw[Jp d om];rfl
 grind
def iK{β τ:Type}:β ⊕ τ->Lp β τ
 | .inl b=>.go b
 | .inr t=>.out t
theorem Ra{α β τ:Type}{f:Nat->α->β->Option (Lp β τ)}(g:Nat->α->β->β ⊕ τ)(I:Nat->β->Prop):∀(xs:List α) (k:Nat) (b:β),
 (∀ i x b,xs[i]?=some x->I (k+i) b->f (k+i) x b=some (iK (g (k+i) x b))/\∀ a,g (k+i) x b=.inl a->I (k+i+1) a)->I k b ->
 ao f xs k b=some (aT (λi x b=>(g i x b).map id .out) .go xs k b)
 | [],k,b,_,h0=>rfl
 | x::xs,k,b,j,h0=>by
   obtain⟨d,e⟩:=j 0 x b rfl h0;simp only[xg] at d e;simp only[aT];cases l:g k x b with
   | inl a=>
     rw[l] at d;simp only[ao,d,iK,yb,Sum.map]
     exact Ra g I xs (k+1) a (λi y c n m=>by
      have:=j (i+1) y c ol
      grind) (e a l)
   | inr t=>grind[ao,iK]
theorem JR{α β τ ρ:Type}(h:τ->ρ)(g:Nat->α->β->β ⊕ τ)(e:β->τ):∀(xs:List α) (i:Nat) (b:β),h (aT g e xs i b)=aT (λi x b=>(g i x b).map id h) (λb=>h (e b)) xs i b
 | [],_,_=>rfl
 | x::xs,i,b=>by
   simp only[aT];cases g i x b with
   | inl a=>exact JR h g e xs (i+1) a
   | inr t=>rfl
theorem Fs{f:Nat->α->β->Option (Lp β τ)}{k:β->Option τ}(g:Nat->α->β->β ⊕ τ)(e:β->τ)(I:Nat->β->Prop)(xs:List α){b:β}
 (u:∀ i x b,xs[i]?=some x->I i b->f i x b=some (iK (g i x b))/\∀ a,g i x b=.inl a->I (i+1) a) (h0:I 0 b) (hk:∀ b,I xs.length b->k b=some (e b)) :
 (ao f xs 0 b).bind (aS k)=some (aT g e xs 0 b):=by
 rw[Ra g I xs 0 b ol h0,yb]
 have key:∀(d:List α) (i:Nat) (c:β),(∀ j x b,d[j]?=some x->I (i+j) b->∀ a,g (i+j) x b=.inl a->I (i+j+1) a)->(∀ b,I (i+d.length) b->k b=some (e b))->I i c ->
  aS k (aT (λi x b=>(g i x b).map id Lp.out) Lp.go d i c)=some (aT g e d i c):=by
  intro d
  induction d with
  | nil=>intro i c _ n l;exact n c l
  | cons y d r=>
    intro i c m n l;simp only[aT];cases p:g i y c with
    | inl a=>
      refine r (i+1) a (λj x b q s b'' hb''=>?_) ol (m 0 y c rfl l a p);have:=m (j+1) x b (by simpa using q);grind
    | inr t=>rfl
 grind
theorem Rb{α β τ:Type}{g a:Nat->α->β->β ⊕ τ}{e f:β->τ}:∀ {xs:List α}{i:Nat}{b:β},(∀ i x b,x∈xs->g i x b=a i x b)->(∀ b,e b=f b)->aT g e xs i b=aT a f xs i b
 | [],_,b,_,d=>d b
 | x::xs,i,b,h,d=>by
   simp only[aT,h i x b (.head _)];cases a i x b with
   | inl k=>exact Rb (λi y c j=>h i y c (.tail _ j)) d
   | inr t=>rfl
theorem BT{α α' β τ:Type}(h:α->α')(g:Nat->α'->β->β ⊕ τ)(e:β->τ):∀(xs:List α) (i:Nat) (b:β),aT g e (xs.map h) i b=aT (λi x b=>g i (h x) b) e xs i b
 | [],_,_=>rfl
 | x::xs,i,b=>by
   simp only[aT,xt];cases g i (h x) b with
   | inl a=>exact BT h g e xs (i+1) a
   | inr t=>rfl
theorem qd{α β:Type}(g:α->β->β):∀(xs:List α) (i:Nat) (b:β),aT (τ:=β) (λ_ x b=>.inl (g x b)) (λb=>b) xs i b=xs.foldl (λb x=>g x b) b
 | [],_,_=>rfl
 | x::xs,i,b=>by simp only[aT,vw];exact qd g xs (i+1) (g x b)
theorem wI{α β:Type}(h:α->β):∀(xs:List α) (l:List β),xs.foldl (λb x=>b++[h x]) l=l++xs.map h
 | [],l=>oh
 | x::xs,l=>by rw[vw,wI h xs];simp
theorem Ku{l:List α}{x:α}(h:l[i]?=some x):ah l (i:Int)=some x:=by rw[oW,h]
theorem Vh{l:List α}{x:α}(h:l[i]?=some x):i<l.length:=ol
theorem mt{l:List α}{x:α}(h:l[i]?=some x):x∈l:=List.mem_of_getElem? h
theorem w1(h:i<9223372036854775807):wrap64 ((i:Int)+1)=((i+1:Nat):Int):=by grind[aK]
theorem wJ{l:List α}{x:α}(h:l.length<9223372036854775807):ah (l++[x]) (wrap64 (((l++[x]).length:Int) - 1))=some x:=by rw[xo,ug,aK om om,show(((l.length+1:Nat):Int) - 1)=((l.length:Nat):Int) by omega,oW];simp
theorem JS{l:List α}{x:α}(h:l.length<9223372036854775807):sub (l++[x]) 0 (wrap64 (((l++[x]).length:Int) - 1))=some l:=by rw[xo,ug,aK om om,show(((l.length+1:Nat):Int) - 1)=((l.length:Nat):Int) by omega,qa oh];simp
theorem Jhs{l:List α}{x y:α}(h:l.length<9223372036854775807):List.set (l++[x]) (Int.toNat (wrap64 (((l++[x]).length:Int) - 1))) y=l++[y]:=by rw[xo,ug,aK om om,show(((l.length+1:Nat):Int) - 1)=((l.length:Nat):Int) by omega,ur];simp
theorem BU{σ τ:Type}{f:σ->Option (Lp σ τ)}(F:Nat->σ){t:τ}:∀(N k n:Nat),(∀ i,i<N->f (F (k+i))=some (.go (F (k+i+1))))->f (F (k+N))=some (.out t)->N<n->ae f n (F k)=some t
 | 0,k,n,_,d,e=>by grind[Jp]
 | N+1,k,n,a,d,e=>by
   obtain⟨m,rfl⟩:∃ m,n=m+1:=⟨n - 1,om⟩
   have h0:=a 0 om;simp only[xg] at h0;rw[V0 h0];exact BU F N (k+1) m ol ol om
theorem jg{f:σ->Option (Lp σ τ)}{s:σ}{K:τ->Option R}(F:Nat->σ)(N:Nat)(t:τ)(e:∀ i,i<N->f (F i)=some (.go (F (i+1))))(g:f (F N)=some (.out t))(a:N<n)(d:s=F 0):(ae f n s).bind K=K t:=by rw[d,BU F (t:=t) N 0 n ol ol a,yb]
theorem Rc{α σ τ:Type}{f:Nat->α->σ->Option (Lp σ τ)}(F:Nat->σ):∀(xs:List α) (k:Nat),(∀ i x,xs[i]?=some x->f (k+i) x (F (k+i))=some (.go (F (k+i+1))))->ao f xs k (F k)=some (.go (F (k+xs.length)))
 | [],_,_=>rfl
 | x::xs,k,a=>by have h0:=a 0 x rfl;simp only[xg] at h0;simp only[ao,h0,yb];rw[Rc F xs (k+1) (λi y d=>by have:=a (i+1) y (by simpa using d);grind),xd,show k+1+xs.length=k+(xs.length+1) by omega]
theorem wK{f:Nat->α->σ->Option (Lp σ τ)}{s:σ}{K:Lp σ τ->Option R}(F:Nat->σ)(xs:List α)(a:∀ i x,xs[i]?=some x->f i x (F i)=some (.go (F (i+1))))(d:s=F 0):(ao f xs 0 s).bind K=K (.go (F xs.length)):=by simp_all[Rc]
theorem Re{α R:Type}{f:Nat->α->Unit->Option (Lp Unit R)}{r:R}(P:Nat->α->Prop):∀(xs:List α) (k:Nat),(∀ i x,xs[i]?=some x->(P (k+i) x->f (k+i) x ()=some (.go ()))/\(¬ P (k+i) x->f (k+i) x ()=some (.out r))) ->
 ((∀ i x,xs[i]?=some x->P (k+i) x)->ao f xs k ()=some (.go ()))/\(¬(∀ i x,xs[i]?=some x->P (k+i) x)->ao f xs k ()=some (.out r))
 | [],k,_=>⟨λ_=>rfl,oh⟩
 | x::xs,k,d=>by
   obtain⟨g,j⟩:=d 0 x rfl;simp only[xg] at g j;obtain⟨g1,m⟩:=Re P xs (k+1) (λi y a=>by have:=d (i+1) y (by simpa using a);rw[show k+(i+1)=k+1+i by omega] at this;omega);by_cases l:P k x;have e:(∀ i y,(x::xs)[i]?=some y->P (k+i) y)↔(∀ i y,xs[i]?=some y->P (k+1+i) y):=by constructor;intro h i y a;have:=h (i+1) y (by simpa using a);rw[show k+(i+1)=k+1+i by omega] at this;exact this;grind
   grind[ao];refine⟨λh=>absurd (h 0 x rfl) l,λ_=>?_⟩;grind[ao]
open Classical in
theorem o7{f:Nat->α->Unit->Option (Lp Unit R)}{K:Unit->Option R}{r:R}(P:Nat->α->Prop)(xs:List α)
 (d:∀ i x,xs[i]?=some x->(P i x->f i x ()=some (.go ()))/\(¬ P i x->f i x ()=some (.out r))) :
 (ao f xs 0 ()).bind (aS K)=if (∀ i x,xs[i]?=some x->P i x) then K () else some r:=by
 obtain⟨g1,a⟩:=Re P xs 0 (λi x e=>by rw[xx];exact d i x e);simp only[xx] at g1 a;by_cases h:∀ i x,xs[i]?=some x->P i x;rw[ot h,g1 h,yb,Vp];rw[oq h,a h,yb,Yy]
theorem Rf{R:Type}{f:Int->Option (Lp Int (Lp Unit R))}{r:R}(P:Nat->Prop):∀(N k n:Nat),(∀ i,i<k+N->k<=i->(P i->f (i:Int)=some (.go ((i+1:Nat):Int)))/\(¬ P i->f (i:Int)=some (.out (.out r))))->f ((k+N:Nat):Int)=some (.out (.go ()))->N<n ->
 ((∀ i,k<=i->i<k+N->P i)->ae f n (k:Int)=some (.go ()))/\(¬(∀ i,k<=i->i<k+N->P i)->ae f n (k:Int)=some (.out r))
 | 0,k,n,_,d,e=>by grind[Jp,absurd]
 | N+1,k,n,a,d,e=>by
   obtain⟨m,rfl⟩:∃ m,n=m+1:=⟨n - 1,om⟩
   obtain⟨j,l⟩:=a k om oh;obtain⟨g1,g⟩:=Rf P N (k+1) m (λi hi hk=>a i om om) ol om;by_cases p:P k;grind[V0];exact⟨ol,by grind[Jp]⟩
open Classical in
theorem Ft{f:Int->Option (Lp Int (Lp Unit R))}{K:Unit->Option R}{r:R}(P:Nat->Prop)(N:Nat)
 (d:∀ i,i<N->(P i->f (i:Int)=some (.go ((i+1:Nat):Int)))/\(¬ P i->f (i:Int)=some (.out (.out r)))) (e:f (N:Int)=some (.out (.go ()))) (g:N<n) :
 (ae f n 0).bind (aS K)=if (∀ i,i<N->P i) then K () else some r:=by
 obtain⟨g1,a⟩:=Rf (n:=n) (r:=r) P N 0 (λi hi _=>d i om) (by rw[xx];exact e) g;simp only[xx,xu,true_implies] at g1 a;by_cases h:∀ i,i<N->P i;rw[ot h];have:=g1 h;rw[show((0:Nat):Int)=0 from rfl] at this;rw[this,yb,Vp];rw[oq h];have:=a h;rw[show((0:Nat):Int)=0 from rfl] at this;rw[this,yb,Yy]
theorem BV(h:α->β){l:List α}{x:α}(a:l[i]?=some x):(l.take (i+1)).map h=(l.take i).map h++[h x]:=by grind[List.take_succ_eq_append_getElem]
theorem JT:∀ {a b:Bf},Wd a->Wd b->a.length=b.length->val a=val b->a=b
 | [],[],_,_,_,_=>rfl
 | [],_::_,_,_,h,_=>by simp at h
 | _::_,[],_,_,h,_=>by simp at h
 | x::a,y::b,f,g,i,j=>by
   obtain⟨k,d⟩:=Vc.1 f;obtain⟨l,e⟩:=Vc.1 g;simp only[val] at j;have:x=y:=om
   subst this;rw[JT d e (by simpa using i) om]
theorem Fu:da x y=0↔x=y:=by grind[da]
open Classical in
theorem Rg(l:aq<=n)(hf:Fw f):mQ n f=some (decide (f=ce (fv f))):=by
 unfold mQ;rw[Q68 l hf,aa,ai];have w1:Wd (ce (fv f)).Num.A7:=Jh _;have w2:Wd (ce (fv f)).Den:=Jh _;generalize ce (fv f)=g at *;obtain⟨⟨j,m⟩,k,p⟩:=hf;obtain⟨⟨s,a⟩,d⟩:=f;obtain⟨⟨t,b⟩,e⟩:=g;simp only at j m k p w1 w2 |-;have i:∀ {P:Prop},(P->False)->(some false:Option Bool)=some (decide P):=λh=>by rw[ov h]
 by_cases c1:s=t;subst c1;rw[show(s == s)=true by simp,aj];by_cases c2:(a.length:Int)=(b.length:Int)
 rw[ou c2,aj];by_cases c3:(d.length:Int)=(e.length:Int)
 rw[ou c3,aj,BJ l om om j w1,aa];by_cases c4:val a=val b;rw[ou (Fu.2 c4),aj,BJ l om om k w2,aa];by_cases c5:val d=val e;rw[ou (Fu.2 c5),JT j w1 om c4,JT k w2 om c5,ou rfl];rw[ov λh=>c5 (Fu.1 h)];exact i λh=>by cases h;exact c5 rfl
 rw[ov λh=>c4 (Fu.1 h),ak];exact i λh=>by cases h;exact c4 rfl
 rw[ov c3,ak];exact i λh=>by cases h;exact c3 rfl
 rw[ov c2,ak];exact i λh=>by cases h;exact c2 rfl
 rw[show(s == t)=false by simpa using c1,ak];exact i λh=>by cases h;exact c1 rfl
def qw(q:Rat):Nat:=max (ay q.num.natAbs).length (ay q.den).length
theorem mu(h:Fk j f)(hk:j<=k):Fk k f:=⟨h.1,by have:=h.2.1;omega,h.2.2.1,by have:=h.2.2.2;omega⟩
theorem lF(h:qw q<=k):Fk k (ce q):=by unfold qw at h;exact⟨mV _,by show(ay q.num.natAbs).length<=k;omega,Jh _,by show(ay q.den).length<=k;omega⟩
theorem sI:(ay 1).length=1:=by grind[iJ,W3]
theorem Rh{z:Int}(hd:d≠0)(g:(ay z.natAbs).length<=k)(i:(ay d).length<=k):qw (mkRat z d)<=k:=by obtain⟨a,e⟩:=Fq (z:=z) hd;unfold qw;rw[a,e];have g1:=Zd (Int.natAbs_ediv_le_natAbs z (Nat.gcd z.natAbs d:Int));have f:=Zd (vh d (Nat.gcd z.natAbs d));omega
theorem qe:qw 0=1:=by simp[qw,sI,W3]
theorem jh(h:Fk k f)(a:1<=k):qw (fv f)<=k:=by unfold fv;by_cases h0:val f.Den=0;grind[Rat.mkRat_zero,qe];refine Rh h0 ?_ ?_;rw[Fp];exact xz (Wa h.1) h.2.1;exact xz (Wa h.2.2.1) h.2.2.2
theorem qf(q:Rat):(ay q.num.natAbs).length<=qw q:=by grind[qw]
theorem qg(q:Rat):(ay q.den).length<=qw q:=by grind[qw]
theorem Jod{a b:Rat}(f:qw a<=j)(g:qw b<=k):qw (a+b)<=j+k+1:=by rw[<-wg a,<-wg b,wo _ _ a.den_nz b.den_nz];have n:=qf a;have p:=qf b;have d:=qg a;have e:=qg b;have i:=@o6 a.num.natAbs b.den;have l:=@o6 b.num.natAbs a.den;have m:=@o6 a.den b.den;refine Rh (Nat.mul_ne_zero a.den_nz b.den_nz) ?_ om;refine xz (Zd (Int.natAbs_add_le _ _)) ?_;rw[Int.natAbs_mul,Int.natAbs_mul,vv,vv];exact wE om om
theorem Ri(a:Rat):(-a).num=-a.num:=rfl
theorem Jls(a:Rat):(-a).den=a.den:=rfl
theorem Joe(a:Rat):qw (-a)=qw a:=by grind[qw,Ri,Jls]
theorem Jlt(x:Int):ce (x:Rat)=⟨fu x,ay 1⟩:=oe
theorem Q9p{x:Int}(a:aq<=n)(d:-9223372036854775808<=x)(f:x<=9223372036854775807):zR n x=some (fu x):=by
 unfold zR;rw[ap];split;rename_i h;have e:(18446744073709551616 - Int.toNat (x%18446744073709551616))%18446744073709551616=x.natAbs:=om
 rw[aa,e,sA a om,aa,Ze,aa,ot rfl,show -((x.natAbs:Nat):Int)=x by omega];rename_i h;have e:Int.toNat (x%18446744073709551616)=x.natAbs:=om
 rw[e,sA a om,aa,Ze,aa,oq oc,show((x.natAbs:Nat):Int)=x by omega]
theorem Rj{x:Int}(e:aq<=n)(a:-9223372036854775808<=x)(d:x<=9223372036854775807):X6 n x=some (ce (x:Rat)):=by grind[X6,Q9p,sA,Jlt]
theorem sJ(a:aq<=n):X6 n 0=some (ce 0):=by grind[Rj]
theorem JU(a:aq<=n):X6 n 1=some (ce 1):=by grind[Rj]
theorem Jga{z:Int}(hd:d≠0):(mkRat z d).num.sign=z.sign:=by have:=QX (a:=z) (b:=0) hd (e:=1) oc;simp_all[Rat.sub_eq_add_neg,Rat.add_zero]
theorem JV(a:aq<=n)(e:1<=k)(hk:k<1099511627776)(hf:Fk k f):sq n f=some (fv f).num.sign:=by obtain⟨w,d,a1,a2,a3,a4,a5,a6,a7⟩:=sF a hf e om;unfold sq;rw[a1,aa,QT a ⟨a2,om⟩,aa,<-a7,Jga a6]
theorem Jb3{a b:Rat}:(a - b).num=0↔a=b:=by grind[Rat.num_eq_zero]
theorem JW(e:aq<=n)(a:1<=k)(hk:k<1099511627776)(hf:Fk k f)(d:Fk k g):oU n f g=some (decide (fv f=fv g)):=by unfold oU;rw[BS e a hk hf d,aa];refine yj some (vt.2 ?_);rw[Int.sign_eq_zero_iff_zero,Jb3]
def qz(q:Rat):Nat:=aP q.num.natAbs+aP q.den
theorem Q7a(i:aq<=n)(hk:k<1099511627776)(hf:Fk k f):mr n f=some ((aP (val f.Num.A7)+aP (val f.Den):Nat):Int):=by unfold mr;obtain⟨a,d,e,g⟩:=hf;grind[QP,Wa,Q9n,aK]
theorem Q45(a:aq<=n)(hk:qw q<1099511627776):mr n (ce q)=some (qz q:Int):=by rw[Q7a a hk (lF oh)];grind[qz,ce,fu,Q6]
def fP(l:Nat)(a:Bf):Bf:=a++List.replicate (l - a.length) 0
theorem Rk(h:a.length<=l):(fP l a).length=l:=by grind[fP]
theorem Rl(l:Nat)(a:Bf):val (fP l a)=val a:=by grind[fP,Y2,oZ]
theorem Rm(h:Wd a):Wd (fP l a):=Vo.2 (by grind[oY])
theorem Ro(h:j<(fP l a).length):(fP l a)[j]=a.getD j 0:=by grind[fP]
theorem JX(u:aq<=n)(x:a.length<=4611686018427387904)(y:b.length<=4611686018427387904)(i:Wd a)(m:Wd b):W5 n a b=some (da (val a) (val b)):=by
 unfold W5;obtain⟨l,A⟩:∃ l:Nat,l=max a.length b.length:=⟨_,rfl⟩
 have e:max (a.length:Int) (b.length:Int)=(l:Int):=om
 have la:=Rk (l:=l) (a:=a) om;have lb:=Rk (l:=l) (a:=b) om;have v:=Rm (l:=l) i;have w:=Rm (l:=l) m;have q:∀ j (h:j<(fP l a).length),(fP l a)[j]=a.getD j 0:=by grind[Ro]
 have r:∀ j (h:j<(fP l b).length),(fP l b)[j]=b.getD j 0:=by grind[Ro]
 rw[e,<-Rl l a,<-Rl l b];generalize fP l a=a' at *;generalize fP l b=b' at *;unfold aq at u;rw[aK om om];refine Ws (λs=>(s+1).toNat) (λs=>∃ k:Nat,s=(k:Int) - 1/\k<=l/\a'.drop k=b'.drop k) (λt=>(t=.go ()/\a'=b')\/(t=.out (-1)/\val a'<val b')\/(t=.out 1/\val b'<val a')) ⟨l,rfl,xe _,ol⟩ om ?_ ?_;rintro s ⟨k,rfl,hk,p⟩;simp only[ap];by_cases h0:0<k;obtain⟨j,rfl⟩:∃ j,k=j+1:=oo
 have g:j<a'.length:=om
 have d:j<b'.length:=om
 rw[ot om,show((j+1:Nat):Int) - 1=(j:Nat) by omega,sB,aa,sB,aa,<-q j g,<-r j d];by_cases g1:a'[j]<b'[j];right;rw[ot g1];exact⟨_,rfl,.inr (.inl ⟨rfl,Fj v g d p g1⟩)⟩;rw[oq g1];by_cases f:b'[j]<a'[j];right;rw[ot f];exact⟨_,rfl,.inr (.inr ⟨rfl,Fj w d g p.symm f⟩)⟩;left;rw[oq f,aK om om];refine⟨_,rfl,⟨j,rfl,om,?_⟩,om⟩;grind[List.drop_eq_getElem_cons];grind;rintro t (⟨rfl,h⟩ | ⟨rfl,h⟩ | ⟨rfl,h⟩);grind[Vp,da];rw[Yy,da,ot h];rw[Yy,da,oq om,ot h]
theorem Rp(f:x<4294967296)(g:y<4294967296)(e:c<=1):∃ d a,d<4294967296/\a<=1/\d+y+c=x+4294967296*a /\
 ∀ {R:Type}(k:Nat×Nat->R),(if x<(y+c)%18446744073709551616 then k (1,(x+4294967296)%18446744073709551616) else k (0,x))=k (a,x+4294967296*a)/\(x+4294967296*a+18446744073709551616 - (y+c)%18446744073709551616)%18446744073709551616%4294967296=d:=by
 rw[xb om];by_cases h:x<y+c;exact⟨x+4294967296 - (y+c),1,om,om,om,ol⟩;exact⟨x - (y+c),0,om,om,om,ol⟩
theorem Rq{s:Nat}(h:o+e=d+P*s)(f:e<=d)(g:o<P):s=0:=by rcases wt s with a | a;exact a;exfalso;have:P*1<=P*s:=yw _ a;omega
theorem Rr(G:aq<=n)(L:a.length<35184372088000)(M:b.length<35184372088000)(u:Wd a)(v:Wd b)(r:val b<=val a):Yn n a b=some (ay (val a - val b)):=by
 unfold Yn;unfold aq at G;obtain⟨l,N⟩:∃ l:Nat,l=max a.length b.length:=⟨_,rfl⟩
 have g:max (a.length:Int) (b.length:Int)=(l:Int):=om
 rw[g,lE om om,aa]
 refine Ws (λs=>l - s.2.2.toNat) (λs=>∃(k:Nat) (o:Bf),s.2.2=k/\k<=l/\s.1=o++List.replicate (l - k) 0/\o.length=k/\Wd o/\s.2.1<=1/\val o+val (b.take k)=val (a.take k)+bp k*s.2.1)
  (λt=>t.length=l/\Wd t/\val t=val a - val b) ⟨0,[],rfl,om,oh,rfl,Vw,oh,by simp[val,jf]⟩ (by simp only[];omega) ?_ ?_
 rintro⟨q,s,i⟩ ⟨k,o,w,K,x,e,p,y,f⟩;simp only at w x y f;subst w x;simp only[aa,ap,ai];by_cases hk:k<l;left;have H:=o4 u k;have I:=o4 v k;obtain⟨d,J,g1,A,g3,g4⟩:=Rp H I y;rw[ot om,sB,aa,sB,aa];have B:=(g4 (λm:Nat×Nat=>(ah (o++List.replicate (l - k) 0) (k:Int)).bind λ_=>some (Lp.go (σ:=Bf×Nat×Int) (τ:=Bf) ((o++List.replicate (l - k) 0).set (Int.toNat (k:Int)) ((m.2+18446744073709551616 - (b.getD k 0+s)%18446744073709551616)%18446744073709551616%4294967296),m.1,wrap64 ((k:Int)+1))))).1;have C:=(g4 (λ_=>())).2;rw[B];simp only[];rw[C];obtain⟨j,F⟩:∃ j,l - k=j+1:=⟨l - k - 1,om⟩
 rw[F,ua,We e,aa,Yi e,aK om om];refine⟨_,rfl,⟨k+1,o++[d],by simp only[];omega,om,?_,by simp[e],Vo.2 ⟨p,Vc.2 ⟨g1,Vw⟩⟩,A,?_⟩,by simp only[];omega⟩;simp only[];rw[show l - (k+1)=j by omega];simp;simp only[];rw[o5,o5,Wo,e,W8];exact Jjt _ _ _ _ _ _ _ _ _ g3 f;right;obtain rfl:k=l:=om
 rw[oq om];refine⟨_,rfl,by simp[e],by simpa using p,?_⟩;rw[xc om,xc om] at f;have E:s=0:=Rq f r (by rw[<-e];exact V9 p);rw[E,uj,xg] at f;simp only[Nat.sub_self,List.replicate_zero,vj];omega;grind[Wz,aq,Ke]
theorem wL(h:k<l):eQ (fO (k:Int) l)=some ():=dn (by grind[fO])
theorem Rs{q:Bf}(G:aq<=n)(M:p.length+a.length+q.length<35184372088000)(L:b.length<=a.length)(m:Wd a)(u:Wd b)(F:val b<=val a):
 ∃ r,X8 n (p++a++q) p.length a.length b=some (p++r++q)/\r.length=a.length/\Wd r/\val r=val a - val b:=by
 have key:∃ r,X8 n (p++a++q) p.length a.length b=some r/\∃ f,r=p++f++q/\f.length=a.length/\Wd f/\val f=val a - val b:=by
  unfold X8;unfold aq at G
  refine oX (λs=>a.length - s.2.2.toNat) (λs=>∃(k:Nat) (o:Bf),s.2.2=k/\k<=a.length/\s.1=p++o++(a.drop k++q)/\o.length=k/\Wd o/\s.2.1<=1/\val o+val (b.take k)=val (a.take k)+bp k*s.2.1)
   (λt=>∃ o,t=p++o++q/\o.length=a.length/\Wd o/\val o=val a - val b) ⟨0,[],rfl,om,oh,rfl,Vw,oh,by simp[val,jf]⟩ (by simp only[];omega) ?_ ?_
  rintro⟨w,s,i⟩ ⟨k,o,v,K,x,j,C,y,l⟩;simp only at v x y l;subst v x;simp only[aa,ap,ai];by_cases hk:k<a.length;left;have H:=gW m hk;have I:=o4 u k;obtain⟨d,J,g1,A,g3,g4⟩:=Rp H I y;rw[ot om,wL hk,aa,show((p.length:Int)+(k:Int))=((p.length+k:Nat):Int) by omega,xa hk,yr,We oj,aa,sB,aa];have g:=(g4 (λe:Nat×Nat=>(ah (p++o++a[k]::(a.drop (k+1)++q)) ((p.length+k:Nat):Int)).bind λ_=>some (Lp.go (σ:=Bf×Nat×Int) (τ:=Bf) ((p++o++a[k]::(a.drop (k+1)++q)).set (Int.toNat ((p.length+k:Nat):Int)) ((e.2+18446744073709551616 - (b.getD k 0+s)%18446744073709551616)%18446744073709551616%4294967296),e.1,wrap64 ((k:Int)+1))))).1;have B:=(g4 (λ_=>())).2;rw[We oj] at g;simp only[aa] at g |-;rw[g,B,Yi oj,aK om om];refine⟨_,rfl,⟨k+1,o++[d],by simp only[];omega,om,oh,by simp[j],by grind[Vo,Vc,Vw],A,?_⟩,by simp only[];omega⟩;simp only[];rw[o5,Kd hk,Wo,Wo,yi,yg om,j,W8];exact by grind
  right;obtain rfl:k=a.length:=om
  rw[oq om];refine⟨_,rfl,o,oh,j,C,?_⟩;rw[xc om,xc om] at l;have E:s=0:=by grind[Rq,V9]
  rw[E,uj,xg] at l;omega;simp
 grind
theorem Jjz(P y c a d V A m:Nat)(e:d+4294967296*a=2*y+c)(h:V+P*c=2*A+m):V+P*d+P*4294967296*a=2*(A+P*y)+m:=ol
theorem Rt{b:Bool}(v:aq<=n)(y:a.length<35184372088000)(j:Wd a):
 ∃ r c,Yg n a b=some r/\r.length=a.length/\Wd r/\val r+bp a.length*c=2*val a+b.toNat:=by
 have key:∃ r,Yg n a b=some r/\∃ c,r.length=a.length/\Wd r/\val r+bp a.length*c=2*val a+b.toNat:=by
  unfold Yg;unfold aq at v;have e:∀ k:Nat->Option Bf,jn (λ(p:(Nat)->Option _)=>bif b then (p 1) else (p 0)) k=k b.toNat:=by intro k;cases b<;>rfl
  rw[e]
  refine oX (λs=>a.length - s.2.2.toNat) (λs=>∃(k:Nat) (o:Bf),s.2.2=k/\k<=a.length/\s.1=o++a.drop k/\o.length=k/\Wd o/\s.2.1<=1/\val o+bp k*s.2.1=2*val (a.take k)+b.toNat)
   (λt=>∃ c,t.length=a.length/\Wd t/\val t+bp a.length*c=2*val a+b.toNat) ⟨0,[],rfl,om,oh,rfl,Vw,by simp only[];cases b<;>decide,by simp[val,jf]⟩ (by simp only[];omega) ?_ ?_
  rintro⟨w,s,i⟩ ⟨k,o,l,x,m,f,q,u,g⟩;simp only at l m u g;subst l m;simp only[aa,ap];have d:(o++a.drop k).length=a.length:=oj
  by_cases hk:k<a.length;left;have A:=gW j hk;rw[ot (by rw[d];omega),xa hk,We f,aa,aa,aa,Yi f,aK om om];refine⟨_,rfl,⟨k+1,o++[(a[k]*2%4294967296+s)%4294967296],by simp only[];omega,om,oh,by simp[f],by grind[Vo,Vc,Vw],by simp only[];omega,?_⟩,by simp only[];omega⟩;simp only[];rw[Kd hk,Wo,Wo,yi,yg om,f,W8];exact Jjz _ _ _ _ _ _ _ _ om g;right;obtain rfl:k=a.length:=om
  rw[oq (by rw[d];omega)];rw[xc om] at g;exact⟨_,rfl,s,oj,by simpa using q,by simpa using g⟩;simp
 grind
theorem Jj0(w t r:Nat)(a:r<32):(w+4294967296*t) / 2 ^ r%2=w / 2 ^ r%2:=by
 have e:(4294967296:Nat)=2 ^ r*(2*2 ^ (31 - r)):=by rw[<-uc,wj (2 ^ r) 2,uc,<-vm,show r+(31 - r)=31 by omega]
 grind[Nat.mul_assoc,Nat.add_mul_div_left]
theorem Ru(d:Wd a)(q r:Nat)(e:r<32):val a / 2 ^ (32*q+r)%2=a.getD q 0 / 2 ^ r%2:=by rw[vm,<-nW,<-yy,Fo d];by_cases h:q<a.length;rw[xa h];simp_all[val,Jj0];grind[List.drop_of_length_le,val]
theorem Q7b(g:aq<=n)(hi:i<4611686018427387904)(f:Wd a):Bn n a (i:Int)=some (decide (val a / 2 ^ i%2=1)):=by
 unfold Bn;have hd:Int.tdiv (i:Int) 32=((i / 32:Nat):Int):=rfl;have e:Int.tmod (i:Int) 32=((i%32:Nat):Int):=rfl;have d:=Ru f (i / 32) (i%32) (yo _ oc);rw[show 32*(i / 32)+i%32=i by omega] at d;rw[hd,e,aK om om,d];simp only[ai,ap];rw[oq om];by_cases h:i / 32<a.length
 . rw[oq om,Wx h,aa]
   rw[jg (λk=>(a[i / 32] / 2 ^ k,(k:Int))) (i%32) (a[i / 32] / 2 ^ (i%32))]
   . simp[h]
   . intro k hk
     simp only[];rw[ot om,yy,<-Nat.pow_succ,w1 om]
   . simp
   all_goals grind[aq]
 . rw[ot om]
   simp_all
theorem Rv(i:aq<=n)(q:a.length<35184372088000)(l:Wd a):Zf n a=some (aP (val a):Int):=by
 unfold Zf;rw[aK om om];have h0:val a<2 ^ (32*a.length):=by grind[nW,V9]
 refine Ws (λs=>s.toNat) (λs=>∃ k:Nat,s=k/\k<=32*a.length/\val a<2 ^ k) (λt=>t=(aP (val a):Int)) ⟨32*a.length,om,xe _,h0⟩ (by grind[aq]) ?_ ?_;rintro s ⟨k,rfl,hk,e⟩;simp only[ai,ap];by_cases h:0<k;obtain⟨j,rfl⟩:∃ j,k=j+1:=oo
 rw[ot om,aK om om,show((j+1:Nat):Int) - 1=(j:Nat) by omega,Q7b i om l,aa];by_cases d:val a / 2 ^ j%2=1;right;rw[ou d,ow,ak];refine⟨_,rfl,?_⟩;have f:2 ^ j<=val a:=by rcases yx (val a) (2 ^ j) with g | g;rw[vc g] at d;cases d;exact g
 rw[QJ f e];left;rw[ov d,xn,aj];refine⟨_,rfl,⟨j,rfl,om,?_⟩,om⟩;have m:val a / 2 ^ j<2:=by simp_all[wc,Nat.pow_succ]
 have p:val a / 2 ^ j=0:=by clear e h0;generalize val a / 2 ^ j=z at *;omega
 rcases yx (val a) (2 ^ j) with g | g;exact g;have:=Nat.div_pos g om;omega;simp_all[sC];simp
theorem Rw(h:P*c<=x)(d:x<P):c=0:=by rcases wt c with a | a;exact a;exfalso;have:P*1<=P*c:=yw _ a;omega
theorem Jj1(x j:Nat):x / 2 ^ j=2*(x / 2 ^ (j+1))+x / 2 ^ j%2:=by rw[Nat.pow_succ,<-yy];omega
theorem Jht{a b q:Nat}(h:a=q*b+r)(d:r<b):q=a / b/\r=a%b:=by
 have h0:0<b:=om
 simp_all[wj,Nat.mul_add_div,xb]
theorem Jhu{A g q a f b:Nat}(e:A=2*g+t)(h:g=q*b+r)(k:i=2*q)(l:a=2*r+t)(m:j=i+1)(n:f=a - b)(p:b<=a):A=j*b+f:=by
 obtain⟨d,rfl⟩:∃ d,a=b+d:=⟨a - b,om⟩
 have:f=d:=om
 grind
theorem Rx:0<=da x y↔y<=x:=by grind[da]
theorem Ry(h:k<32):(1*2 ^ min (Int.toNat (k:Int)) 32)%4294967296=2 ^ k:=by rw[ur,yg om,Nat.one_mul];exact xb (xr (Nat.pow_lt_pow_right oc h) oc)
theorem Rz(f:Wd a):aP (val a)<=32*a.length:=by by_cases h:val a=0;grind[sC];have e:=sE h;have d:=V9 f;rw[nW] at d;have g:=(wk oh).1 (xh e d);omega
theorem Q7c(u:aq<=n)(ha:a.length<35184372087990)(hb:b.length<35184372087990)(d:Wd a)(l:Wd b)(h0:val b≠0):
 Bo n a b=some (ay (val a / val b),ay (val a%val b)):=by
 unfold Bo;have U:=Rz d;have T:=V9 l;have hva:=V9 d;rw[aK (x:=(b.length:Int)+1) om om,show((b.length:Int)+1)=((b.length+1:Nat):Int) by omega,lE om om,aa,lE om om,aa,Rv u om d,aa,aK om om]
 refine Ws (λs=>(s.2.2+1).toNat) (λs=>∃ k:Nat,s.2.2=(k:Int) - 1/\k<=aP (val a)/\s.1.length=a.length/\s.2.1.length=b.length+1/\Wd s.1/\Wd s.2.1/\val s.2.1<val b/\val a / 2 ^ k=val s.1*val b+val s.2.1)
  (λt=>t.1.length=a.length/\t.2.length=b.length+1/\Wd t.1/\Wd t.2/\val t.2<val b/\val a=val t.1*val b+val t.2) ⟨aP (val a),rfl,xe _,oh,oh,oY oc,oY oc,by grind[oZ],by grind[oZ,Nat.div_eq_of_lt,BM]⟩ (by grind[aq]) ?_ ?_
 rintro⟨q,r,i⟩ ⟨k,F,h2,y,G,H,I,R,J⟩;simp only at F y G H I R J;subst F;simp only[ai,aa];by_cases hk:0<k;left;obtain⟨j,rfl⟩:∃ j,k=j+1:=oo
 have hd:Int.tdiv (j:Int) 32=((j / 32:Nat):Int):=rfl;have V:Int.tmod (j:Int) 32=((j%32:Nat):Int):=rfl;have M:j / 32<a.length:=om
 have W:(1*2 ^ min (Int.toNat ((j%32:Nat):Int)) 32)%4294967296=2 ^ (j%32):=by grind[Ry,Nat.mod_lt]
 have e:=Ru d (j / 32) (j%32) (yo _ oc);rw[show 32*(j / 32)+j%32=j by omega,show a.getD (j / 32) 0=a[j / 32] by simp[M]] at e;have X:0<2 ^ (j%32):=ol
 obtain⟨r2,c1,O,d2,w,v⟩:=Rt (b:=decide (a[j / 32] / 2 ^ (j%32)%2=1)) u om I;obtain⟨q2,c2,Q,C,E,m⟩:=Rt (b:=false) u om H;have B:=Jj1 (val a) j;have Z:(decide (a[j / 32] / 2 ^ (j%32)%2=1)).toNat=val a / 2 ^ j%2:=by rw[e];generalize a[j / 32] / 2 ^ (j%32)=z;by_cases g:z%2=1;rw[ou g,g];rfl;rw[ov g];simp only[Bool.toNat_false];omega
 rw[Z] at v;have ht2:val a / 2 ^ j%2<2:=om
 have L:val a / 2 ^ j<=val a:=vh _ _;generalize K:val a / 2 ^ j=A at *;generalize S:val a / 2 ^ (j+1)=A2 at *;generalize A%2=t at *;have Y:val q<=val q*val b:=Nat.le_mul_of_pos_right _ om;have c1z:c1=0:=by rw[G,W8] at v;refine Rw (P:=bp b.length*4294967296) (x:=2*val r+t) om ?_;omega
 have c2z:c2=0:=by rw[y] at m;refine Rw (P:=bp a.length) (x:=2*val q+0) (by simp only[Bool.toNat_false] at m;omega) om
 subst c1z c2z;simp only[uj,xg,Bool.toNat_false] at v m;simp only[show((j+1:Nat):Int) - 1=(j:Nat) by omega,hd,V,aK (x:=((j / 32:Nat):Int)) om om,W];rw[ou oh,aj,Wx M,aa,dn oe,aa,dn oh,aa,O,aa,Q,aa,JX u om om w l,aa,ap];by_cases f:val b<=val r2;rw[ot (Rx.2 f)];obtain⟨r3,N,l2,l3,l4⟩:=Rs (p:=[]) (q:=[]) u oj om w l f;simp only[xi,vj,yn] at N;rw[N,aa];cases q2 with
 | nil=>simp at C;omega
 | cons x t2=>
   obtain⟨x1,x2⟩:=Vc.1 E;have hv:val (x::t2)=x+4294967296*val t2:=rfl;rw[hv] at m;rw[show ah (x::t2) 0=some x from rfl,aa,aa,show(x::t2).set (Int.toNat 0) ((x+1)%4294967296)=(x+1)%4294967296::t2 from rfl,aK om om];have hx:(x+1)%4294967296=x+1:=om
   rw[hx];refine⟨_,rfl,⟨j,rfl,om,by simpa [y] using C,by simp only[];omega,by grind[Vc],l3,by simp only[];omega,?_⟩,by simp only[];omega⟩;simp only[];rw[K];exact Jhu B J m v (by simp only[val];omega) l4 f
 rw[oq (by grind[Rx]),aK om om];refine⟨_,rfl,⟨j,rfl,om,by simp only[];omega,by simp only[];omega,E,w,by simp only[];omega,?_⟩,by simp only[];omega⟩;simp only[];rw[K];exact by grind
 simp_all;grind[Jht,Wz,Ke]
theorem Jj2(h:x=2 ^ c*y)(a:y%2=0):x=2 ^ (c+1)*(y / 2):=by rw[Nat.pow_succ,uc,h];congr 1;omega
theorem Jhv(h:x=2 ^ c*y)(h0:y≠0)(d:x<2 ^ k):c<k:=by have a:2 ^ c*1<=2 ^ c*y:=yw _ om;exact(wk oh).1 (show 2 ^ c<2 ^ k by omega)
theorem Q2s(j:aq<=n)(h0:x≠0)(k:x<4294967296):∃ z o:Nat,Zv n x=some (z:Int)/\z<32/\x=2 ^ z*o/\o%2=1:=by
 have d:x<2 ^ 32:=k;have key:∃ r:Int,Zv n x=some r/\∃ z o:Nat,r=z/\z<32/\x=2 ^ z*o/\o%2=1:=by unfold Zv;rw[ap,oq h0];refine oX (λs=>s.1) (λs=>∃ c:Nat,s.2=c/\x=2 ^ c*s.1/\s.1≠0) (λt=>∃ z o:Nat,t=z/\z<32/\x=2 ^ z*o/\o%2=1) ⟨0,rfl,oh,h0⟩ (by simp only[];unfold aq at j;omega) ?_ ?_;rintro⟨y,i⟩ ⟨c,e,a,f⟩;simp only at e a f;subst e;have g:=Jhv a f d;simp only[ap];by_cases h:y%2=0;left;rw[ot h,w1 om];exact⟨_,rfl,⟨c+1,rfl,Jj2 a h,by simp only[];omega⟩,by simp only[];omega⟩;right;rw[oq h];exact⟨_,rfl,c,y,rfl,g,a,om⟩;simp
 grind
theorem RA(a:Bf):vT a=some (decide (a=[1])):=by
 unfold vT;simp only[ai,ap]
 match a with
 | []=>rfl
 | [x]=>rw[ot oe];exact yj some oh
 | x::y::t=>rw[oq ol];simp
theorem JY(l:List α)(x y:α)(r:List α):l++x::y::r=(l++[x])++y::r:=oh
theorem Jhw{a V:Nat}(l:z<32)(k:a<4294967296)(f:d<4294967296):
 (a+4294967296*(d+4294967296*V)) / 2 ^ z=((d*4294967296)%18446744073709551616+a)%18446744073709551616 / 2 ^ (min z 64)%4294967296+4294967296*((d+4294967296*V) / 2 ^ z):=by
 rw[xb (show d*4294967296<18446744073709551616 by omega),xb (show d*4294967296+a<18446744073709551616 by omega),yg om];have i:(a+4294967296*(d+4294967296*V)) / 2 ^ z / 4294967296=(d+4294967296*V) / 2 ^ z:=by rw[yy,wj (2 ^ z) 4294967296,<-yy];grind
 have j:(a+4294967296*(d+4294967296*V)) / 2 ^ z%4294967296=(d*4294967296+a) / 2 ^ z%4294967296:=by
  have e:(4294967296:Nat)=2 ^ z*2 ^ (32 - z):=by rw[<-vm,show z+(32 - z)=32 by omega]
  have g:a+4294967296*(d+4294967296*V)=(d*4294967296+a)+2 ^ z*(4294967296*(2 ^ (32 - z)*V)):=by rw[Nat.mul_left_comm (2 ^ z),<-uc (2 ^ z),<-e];omega
  grind[Nat.add_mul_div_left]
 omega
theorem JZ(h:k<a.length):val (a.drop k)=a[k]+4294967296*val (a.drop (k+1)):=by rw[xa h];rfl
theorem Q9q:val (a.drop k)=a.getD k 0+4294967296*val (a.drop (k+1)):=by grind[JZ,List.drop_of_length_le,val]
theorem Jhx(P w d V a A:Nat)(e:V=w+4294967296*d)(h:a+P*V=A):a+P*w+P*4294967296*d=A:=ol
theorem Q46{q:Bf}(O:aq<=n)(N:p.length+a.length+q.length<35184372088000)(l:Wd a)(L:z<32):
 ∃ r k,vU n (p++a++q) p.length a.length (z:Int)=some (p.length,k,p++r++q)/\r.length=a.length/\Wd r/\k<=r.length/\r.take k=ay (val a / 2 ^ z):=by
 have key:∃ w,vU n (p++a++q) p.length a.length (z:Int)=some w/\∃ r k,w=(p.length,k,p++r++q)/\r.length=a.length/\Wd r/\k<=r.length/\r.take k=ay (val a / 2 ^ z):=by
  unfold vU
  refine oX (λs=>a.length - s.2.toNat) (λs=>∃(k:Nat) (o:Bf),s.2=k/\k<=a.length/\s.1=p++o++(a.drop k++q)/\o.length=k/\Wd o/\val o+bp k*(val (a.drop k) / 2 ^ z)=val a / 2 ^ z)
   (λt=>∃ o,t=p++o++q/\o.length=a.length/\Wd o/\val o=val a / 2 ^ z) ⟨0,[],rfl,om,oh,rfl,Vw,by simp[val,jf]⟩ (by grind[aq]) ?_ ?_
  rintro⟨w,i⟩ ⟨k,o,m,E,v,F,M,G⟩;simp only at m v G;subst m v;simp only[ap,ai,aa];by_cases hk:k<a.length;left;have I:=gW l hk;have J:=o4 l (k+1);have x:=Jhw (V:=val (a.drop (k+1+1))) L I J;have g:∀(K:Nat->Option (Lp (Bf×Int) Bf)),(if wrap64 ((k:Int)+1)<(a.length:Int) then (eQ (fO (wrap64 ((k:Int)+1)) a.length)).bind λ_=>(ah (p++o++(a.drop k++q)) ((p.length:Int)+wrap64 ((k:Int)+1))).bind λB=>K B else K 0)=K (a.getD (k+1) 0):=by
   intro K;rw[w1 om];by_cases e:k+1<a.length;rw[ot om,wL e,aa,show((p.length:Int)+((k+1:Nat):Int))=((p.length+k+1:Nat):Int) by omega,xa hk,xa e,yr,yr,JY,We oj,aa];simp[e];rw[oq om];simp[uf (show a.length<=k+1 by omega)]
  rw[ot om,g (λA=>(eQ (fO (k:Int) a.length)).bind λ_=>(ah (p++o++(a.drop k++q)) ((p.length:Int)+(k:Int))).bind λC=>(eQ (decide (0<=(z:Int)))).bind λ_=>(eQ (fO (k:Int) a.length)).bind λ_=>(ah (p++o++(a.drop k++q)) ((p.length:Int)+(k:Int))).bind λ_=>some (Lp.go ((p++o++(a.drop k++q)).set (Int.toNat ((p.length:Int)+(k:Int))) (((A*4294967296)%18446744073709551616+C)%18446744073709551616 / 2 ^ (min (Int.toNat (z:Int)) 64)%4294967296),wrap64 ((k:Int)+1))))];rw[wL hk,aa,show((p.length:Int)+(k:Int))=((p.length+k:Nat):Int) by omega,xa hk,yr,We oj,aa,dn oe,aa,aa,aa,Yi oj,w1 om,ur];have y:(a.getD (k+1) 0*4294967296%18446744073709551616+a[k])%18446744073709551616 / 2 ^ min z 64%4294967296<4294967296:=om
  generalize (a.getD (k+1) 0*4294967296%18446744073709551616+a[k])%18446744073709551616 / 2 ^ min z 64%4294967296=w at x y |-;refine⟨_,rfl,⟨k+1,o++[w],rfl,om,oh,by simp[F],by grind[Vo,Vc,Vw],?_⟩,by simp only[];omega⟩;rw[Wo,F,W8];refine Jhx _ _ _ _ _ _ ?_ G;grind[Q9q];right;obtain rfl:k=a.length:=om
  simp_all[val];rintro t ⟨o,rfl,m,E,v⟩;refine oX (λs=>s.2) (λs=>s.1=p.length/\s.2<=o.length/\aN o=aN (o.take s.2)) (λt=>t.1=p.length/\t.2<=o.length/\aN o=o.take t.2) ⟨rfl,om,ol⟩ (by grind[aq]) ?_ ?_;rintro⟨s1,k⟩ ⟨rfl,f,g3⟩;simp only at f g3;simp only[ai,ap];by_cases h0:0<k;obtain⟨j,rfl⟩:∃ j,k=j+1:=oo
  have u:j<o.length:=om
  rw[Kd u] at g3;rw[ot om,aK om om,show((j+1:Nat):Int) - 1=(j:Nat) by omega,wL om,aa,show((p.length:Int)+(j:Int))=((p.length+j:Nat):Int) by omega];have H:ah (p++o++q) ((p.length+j:Nat):Int)=some o[j]:=by rw[oW,ye,xw om,ud,wz u,xm u]
  rw[H,aa];by_cases d:o[j]=0;left;rw[ot d,dn (by unfold mn;simp;omega),aa];exact⟨_,rfl,⟨oh,by simp only[];omega,by simp only[];rw[g3,d,JE];simp⟩,by simp only[];omega⟩;right;rw[oq d];exact⟨_,rfl,rfl,f,by simp only[];rw[g3,Kd u,P6 _ d]⟩;simp_all[aN];rintro⟨s1,k⟩ ⟨rfl,f,g3⟩;simp only at f g3;exact⟨_,rfl,o,k,rfl,m,E,f,by grind[Ke]⟩
 grind
def kJ(X:Bf)(o l:Nat)(b:Bf):Prop:=∃ p q,X=p++b++q/\p.length=o/\b.length=l
theorem Fv(h:kJ X o l b):gz X o l=some b:=by obtain⟨p,q,rfl,rfl,rfl⟩:=h;simp[gz]
theorem RB(b:Bf):kJ b 0 b.length b:=⟨[],[],oh,rfl,rfl⟩
theorem KA{w R:Nat}(g:z<32)(e:w=2 ^ z*o)(f:o%2=1):(w+4294967296*R) / 2 ^ z%2=1/\w+4294967296*R=2 ^ z*((w+4294967296*R) / 2 ^ z):=by
 have a:(4294967296:Nat)=2 ^ z*(2*2 ^ (31 - z)):=by rw[<-uc,wj (2 ^ z) 2,uc,<-vm,show z+(31 - z)=31 by omega]
 have d:w+4294967296*R=2 ^ z*(o+2*(2 ^ (31 - z)*R)):=ol
 simp_all[Nat.two_pow_pos]
theorem KB(C:aq<=n)(F:X.length<35184372088000)(G:kJ X o l a)(g:Wd a)(h0:val a≠0):
 ∃ i l' t X',Xq n X o l=some (i,l',((t:Nat):Int),X')/\X'.length=X.length/\∃ u,val a=2 ^ t*u/\u%2=1/\kJ X' i l' (ay u)/\t<=32*a.length:=by
 obtain⟨p,q,rfl,rfl,rfl⟩:=G;have key:∃ w,Xq n (p++a++q) p.length a.length=some w/\∃ i l' t X',w=(i,l',((t:Nat):Int),X')/\X'.length=(p++a++q).length/\∃ u,val a=2 ^ t*u/\u%2=1/\kJ X' i l' (ay u)/\t<=32*a.length:=by
  unfold Xq;simp only[xo] at F;have e:∀ j,val a=bp j*val (a.drop j)->j<a.length:=by grind[List.drop_of_length_le,val]
  refine oX (λs=>s.2.1) (λs=>∃ j:Nat,s.1=p.length+j/\s.2.1=a.length - j/\s.2.2=((32*j:Nat):Int)/\val a=bp j*val (a.drop j))
   (λs=>∃ j:Nat,s.1=p.length+j/\s.2.1=a.length - j/\s.2.2=((32*j:Nat):Int)/\val a=bp j*val (a.drop j)/\a.getD j 0≠0) ⟨0,rfl,rfl,rfl,by grind[jf]⟩ (by grind[aq]) ?_ ?_
  . rintro⟨s1,I,J⟩ ⟨j,rfl,rfl,rfl,m⟩
    have d:=e j m;have x:ah (p++a++q) (((p.length+j:Nat):Int)+0)=some a[j]:=by rw[show(((p.length+j:Nat):Int)+0)=((p.length+j:Nat):Int) by omega,oW,ye,xw om,ud,wz d,xm d]
    simp only[ap];rw[show 0=((0:Nat):Int) from rfl,wL om,aa,show((0:Nat):Int)=0 from rfl,x,aa];by_cases E:a[j]=0
    . left
      rw[ot E,dn (by unfold mn;simp;omega),aa,aK om om];refine⟨_,rfl,⟨j+1,by simp only[];omega,by simp only[];omega,by simp only[];omega,?_⟩,by simp only[];omega⟩;rw[m,JZ d,E,W8,xx,uc]
    simp_all
  . rintro⟨s1,I,J⟩ ⟨j,rfl,rfl,rfl,m,P⟩
    have d:=e j m;have x:ah (p++a++q) (((p.length+j:Nat):Int)+0)=some a[j]:=by rw[show(((p.length+j:Nat):Int)+0)=((p.length+j:Nat):Int) by omega,oW,ye,xw om,ud,wz d,xm d]
    have H:=gW g d;have A:a[j]≠0:=ol
    obtain⟨z,Q,K,z2,z3,z4⟩:=Q2s C A H;simp only[];rw[show 0=((0:Nat):Int) from rfl,wL om,aa,show((0:Nat):Int)=0 from rfl,x,aa,K,aa];have y:p++a++q=(p++a.take j)++a.drop j++q:=oh
    have f:(p++a.take j).length=p.length+j:=ol
    have v:(a.drop j).length=a.length - j:=oh
    obtain⟨r,k,B,L,M,N,O⟩:=Q46 (p:=p++a.take j) (a:=a.drop j) (q:=q) C om (qb g) z2;rw[f,v,<-y] at B;rw[B,aa,aK om om];obtain⟨w1,w2⟩:=KA (R:=val (a.drop (j+1))) z2 z3 z4;rw[<-JZ d] at w1 w2;refine⟨_,rfl,p.length+j,k,32*j+z,p++a.take j++r++q,oh,ol,val (a.drop j) / 2 ^ z,?_,w1,?_,om⟩
    . grind[nW]
    . refine⟨p++a.take j,r.drop k++q,?_,f,?_⟩
      all_goals grind[List.take_append_drop]
 grind
theorem Q1j(e:aq<=n)(j:t / 32+a.length<35184372088830)(k:t<4611686018427387904)(g:Wd a):Bl n a (t:Int)=some (ay (2 ^ t*val a)):=by
 unfold Bl;have hd:Int.tdiv (t:Int) 32=((t / 32:Nat):Int):=rfl;have d:Int.tmod (t:Int) 32=((t%32:Nat):Int):=rfl;have f:(1*2 ^ min (Int.toNat ((t%32:Nat):Int)) 32)%4294967296=2 ^ (t%32):=by grind[Ry,Nat.mod_lt]
 have i:2 ^ (t%32)<4294967296:=om
 rw[hd,d,aK om om,lE om om,aa,Jv ol ol,aa,dn oe,aa,f,aa,QA e ol (by grind[Vo,oY]) (by grind[Vc,Vw]),aa,Y2,oZ,List.length_replicate,nW,xx];congr 2;simp only[val,uj,xg];rw[uc,wj (val a),<-uc,<-vm,show 32*(t / 32)+t%32=t by omega]
theorem KC(h:u%2=1):Nat.Coprime (2 ^ t) u:=by grind[Nat.Coprime.pow_left,Nat.gcd]
theorem Jlu{m:Nat}(a:u%2=1)(d:v%2=1):Nat.gcd (2 ^ m*u) (2 ^ k*v)=2 ^ (min m k)*Nat.gcd u v:=by by_cases h:m<=k;rw[yg h,show k=m+(k - m) by omega,vm,uc,Nat.gcd_mul_left,Nat.Coprime.gcd_mul_left_cancel_right _ (KC a)];rw[Nat.min_eq_right om,show m=k+(m - k) by omega,vm,uc,Nat.gcd_mul_left,Nat.Coprime.gcd_mul_left_cancel _ (KC d)]
theorem RC(h:x<2 ^ k):aP x<=k:=by by_cases h0:x=0;grind[sC];have a:=sE h0;have:=(wk oh).1 (xh a h);omega
theorem Jhy(h:x=2 ^ t*y)(g:t≠0)(h0:x≠0):aP y<aP x:=by
 have a:=BM (x:=x);have e:=JL h0;obtain⟨k,hk⟩:∃ k,aP x=k+1:=⟨_,(Nat.sub_add_cancel e).symm⟩
 rw[hk] at a |-;have d:y<2 ^ k:=by
  obtain⟨s,rfl⟩:∃ s,t=s+1:=⟨t - 1,om⟩
  rw[Nat.pow_succ] at h a;have f:1*y<=2 ^ s*y:=vd _ ol;grind
 have:=RC d;omega
theorem Jhz(h:x<=y):aP x<=aP y:=RC (xh h BM)
theorem KD{v:Nat}:aP v<=32*(ay v).length:=by grind[Rz,Jh,Q6]
theorem BW(h:kJ X o l b):b.length<=X.length/\b.length=l:=by obtain⟨p,q,rfl,rfl,rfl⟩:=h;grind
def lG(X:Bf)(o l:Nat):Nat:=val ((gz X o l).getD [])
theorem wM(h:kJ X o l (ay u)):lG X o l=u:=by unfold lG;rw[Fv h,ut,Q6]
theorem Jlv(a:u%2=1)(d:v%2=1)(h:v<u):(u - v)≠0/\(u - v)%2=0:=om
theorem Fx(d:Wd a):(aN a).length=0↔val a=0:=by grind[P4]
set_option maxHeartbeats 1000000 in
theorem Q7e(f:aq<=n)(ha:a.length<35184372087900)(hb:b.length<35184372087900)(d:Wd a)(g:Wd b):Bm n a b=some (ay (Nat.gcd (val a) (val b))):=by
 unfold Bm;have la:=Wy a;have lb:=Wy b;rw[Wz f om,aa,Wz f om,aa];by_cases h0:val a=0;have:=(Fx d).2 h0;rw[ou om,aj,h0,Nat.gcd_zero_left,Ke g];rw[ov (λh=>h0 ((Fx d).1 om)),ak];by_cases e:val b=0;have:=(Fx g).2 e;rw[ou om,aj,e,Nat.gcd_zero_right,Ke d];rw[ov (λh=>e ((Fx g).1 om)),ak];obtain⟨o1,l1,i,X1,U,e2,u,G,O,H,e6⟩:=KB f (show(aN a).length<_ by omega) (RB _) (P2 d) (by rw[Fg];exact h0);obtain⟨o2,l2,t2,X2,V,f2,v,f3,P,I,f6⟩:=KB f (show(aN b).length<_ by omega) (RB _) (P2 g) (by rw[Fg];exact e);rw[Fg] at G f3;rw[U,aa,V,aa,G,f3,Jlu O P];simp only[];have i1:=BW H;have i2:=BW I;have j1:=@KD u;have j2:=@KD v;have k1:=wD (v:=u)
 refine Ws (λs=>aP (lG s.1 s.2.1 s.2.2.1)+aP (lG s.2.2.2.1 s.2.2.2.2.1 s.2.2.2.2.2))
  (λs=>∃ x y:Nat,kJ s.1 s.2.1 s.2.2.1 (ay x)/\kJ s.2.2.2.1 s.2.2.2.2.1 s.2.2.2.2.2 (ay y)/\x%2=1/\y%2=1/\Nat.gcd x y=Nat.gcd u v/\s.1.length<35184372087900/\s.2.2.2.1.length<35184372087900)
  (λt=>kJ t.1 t.2.1 t.2.2 (ay (Nat.gcd u v))/\t.1.length<35184372087900) ⟨u,v,H,I,O,P,rfl,by simp only[];omega,by simp only[];omega⟩ (by simp only[];rw[wM H,wM I];unfold aq at f;omega) ?_ ?_
 have round:∀(X:Bf) (o l:Nat) (Y:Bf) (j l' x y:Nat),kJ X o l (ay x)->kJ Y j l' (ay y)->x%2=1->y%2=1->Nat.gcd x y=Nat.gcd u v->X.length<35184372087900->Y.length<35184372087900->y<x ->
  ∃ s':Bf×Nat×Nat×Bf×Nat×Nat,((some (ay y)).bind λN=>(X8 n X o l N).bind λM=>(Xq n M o l).bind λm=>some (Lp.go (σ:=Bf×Nat×Nat×Bf×Nat×Nat) (τ:=Bf×Nat×Nat) (m.2.2.2,m.1,m.2.1,Y,j,l')))=some (.go s') /\
    (∃ x y:Nat,kJ s'.1 s'.2.1 s'.2.2.1 (ay x)/\kJ s'.2.2.2.1 s'.2.2.2.2.1 s'.2.2.2.2.2 (ay y)/\x%2=1/\y%2=1/\Nat.gcd x y=Nat.gcd u v/\s'.1.length<35184372087900/\s'.2.2.2.1.length<35184372087900) /\
    aP (lG s'.1 s'.2.1 s'.2.2.1)+aP (lG s'.2.2.2.1 s'.2.2.2.2.1 s'.2.2.2.2.2)<aP x+aP y:=by
  intro X o l Y j l' x y hX R F A B lX lY L;obtain⟨p,q,rfl,rfl,rfl⟩:=hX;obtain⟨r,g1,J,g3,g4⟩:=Rs (p:=p) (a:=ay x) (q:=q) (b:=ay y) f (by simp at lX;omega) (Zd om) (Jh _) (Jh _) (by rw[Q6,Q6];omega);rw[Q6,Q6] at g4;obtain⟨s1,s2⟩:=Jlv F A L;obtain⟨o3,l3,t3,T,W,Z,w,E,h4,Q,h6⟩:=KB (X:=p++r++q) (o:=p.length) (l:=(ay x).length) (a:=r) f (by simp[J];simp at lX;omega) ⟨p,q,rfl,rfl,J⟩ g3 (by rw[g4];exact s1);rw[g4] at E;have ht:t3≠0:=by rintro rfl;rw[Nat.pow_zero,Nat.one_mul] at E;omega
  refine⟨(T,o3,l3,Y,j,l'),by rw[aa,g1,aa,W,aa],⟨w,y,Q,R,h4,A,?_,?_,lY⟩,?_⟩;rw[<-B,<-Nat.Coprime.gcd_mul_left_cancel (k:=2 ^ t3) w (KC A),<-E,Nat.gcd_sub_self_left om];rw[Z];simp[J];simp at lX;omega;simp only[];rw[wM Q,wM R];have c1:=Jhy E ht s1;have c2:=Jhz (Nat.sub_le x y);omega
 rintro⟨X,o,l,Y,j,l'⟩ ⟨x,y,w1,w2,F,A,B,lX,lY⟩;simp only at w1 w2 lX lY;have i3:=BW w1;have i4:=BW w2;simp only[ai];rw[Fv w1,aa,Fv w2,aa,JX f om om (Jh _) (Jh _),aa,Q6,Q6,wM w1,wM w2,ap,ap];unfold da;by_cases c1:x<y;left;rw[ot c1,oq oc,ot oc];obtain⟨s',r1,r2,r3⟩:=round Y j l' X o l y x w2 w1 A F (by rw[Nat.gcd_comm];exact B) lY lX c1;exact⟨s',r1,r2,om⟩;rw[oq c1];by_cases c2:y<x;left;rw[ot c2,oq oc,oq oc];exact round X o l Y j l' x y w1 w2 F A B lX lY c2;right;rw[oq c2,ot rfl];obtain rfl:x=y:=om
 refine⟨_,rfl,?_,lX⟩;rw[<-B,Nat.gcd_self];exact w1;rintro⟨X,o,l⟩ ⟨w1,lX⟩;simp only at w1 lX;have i3:=BW w1;simp only[];have C:min (i:Int) (t2:Int)=((min i t2:Nat):Int):=om
 have hG:Nat.gcd u v≠0:=by have:=Nat.gcd_pos_of_pos_left v (show 0<u by omega);omega
 have K:2 ^ min i t2*Nat.gcd u v<=val a:=by rw[G];exact uo (ui oc (Nat.min_le_left _ _)) (Nat.gcd_le_left _ om)
 have S:min i t2 / 32+(ay (Nat.gcd u v)).length<=a.length+1:=by
  have q1:=QB hG;have q2:=V9 d;have q3:bp (min i t2 / 32)<=2 ^ min i t2:=by rw[nW];exact ui oc om
  have q4:bp (min i t2 / 32+((ay (Nat.gcd u v)).length - 1))<=val a:=by rw[BI];exact xz (uo q3 q1) K
  rcases yx (min i t2 / 32+((ay (Nat.gcd u v)).length - 1)) a.length with h | h;omega;have:=cB h;omega
 rw[Fv w1,aa,C,Q1j f om om (Jh _),aa,Q6]
theorem RD{g:Bf}(j:aq<=n)(f:a.length<35184372087900)(i:g.length<35184372087900)(d:Wd a)(e:Wd g)(h0:val g≠0):vV n a g=some (ay (val a / val g)):=by unfold vV;rw[RA,aa,ap];grind[Wz,Ke,val,Q7c]
def wy(w:Jf):Int:=if w.A8 then -(val w.A7:Int) else (val w.A7:Int)
def rW(z:Int):Jf:=⟨decide (z<0),ay z.natAbs⟩
theorem qh(z:Int):wy (rW z)=z:=by grind[wy,rW,Q6]
theorem Fy{w:Jf}(d:aq<=n)(e:Wd w.A7)(a:w.A7.length<=35184372088832):Vt n w=some (rW (wy w)):=by unfold Vt rW wy;rw[Wz d a,aa,<-Ke e,ai];cases w.A8;rfl;rw[aj,ot rfl,Int.natAbs_neg,vv];have:=wD (v:=val w.A7);refine yj (λb=>some (⟨b,_⟩:Jf)) (vt.2 ?_);omega
theorem Q7f{w u:Jf}(p:aq<=n)(l:Wd w.A7)(j:Wd u.A7)(y:w.A7.length<17592186044410)(q:u.A7.length<17592186044410):Bp n w u=some (rW (wy w+wy u)):=by
 unfold Bp;have g1:=Wa l;have x:=Wa j;have len:∀ z,z<=val w.A7+val u.A7->(ay z).length<=35184372088832:=λz v=>xz (Zd v) (xz (wE (k:=17592186044410) om om) oc);rw[Fi p om om l j,aa,JX p om om l j,aa,ap];obtain⟨s,a⟩:=w;obtain⟨t,b⟩:=u;simp only at *;have e:∀ s,Vt n ⟨s,ay (val a+val b)⟩=some (rW (if s then -((val a+val b:Nat):Int) else ((val a+val b:Nat):Int))):=by grind[Fy,Jh,wy,Q6]
 have f:∀ s,val b<=val a->(Yn n a b).bind (λr=>(Vt n ⟨s,r⟩).bind λd=>some d)=some (rW (if s then -((val a - val b:Nat):Int) else ((val a - val b:Nat):Int))):=by grind[Rr,Fy,Jh,wy,Q6]
 have i:∀ s,val a<=val b->(Yn n b a).bind (λr=>(Vt n ⟨s,r⟩).bind λd=>some d)=some (rW (if s then -((val b - val a:Nat):Int) else ((val b - val a:Nat):Int))):=by grind[Rr,Fy,Jh,wy,Q6]
 have m:=@QQ (val a) (val b);unfold wy;simp only[e,aa];by_cases h:val a<val b;rw[ot (m.2 h),i t om];grind;rw[oq (λg=>h (m.1 g)),f s om];grind
def rF(q:Rat):Qa:=⟨decide (q.num<0),ay q.num.natAbs,ay q.den⟩
def fr(f:Qa):Rat:=mkRat (if f.A8 then -(val f.N:Int) else (val f.N:Int)) (val f.D)
theorem Jlw(z:Int):(if decide (z<0) then -(z.natAbs:Int) else (z.natAbs:Int))=z:=ol
theorem BX(q:Rat):fr (rF q)=q:=by grind[fr,rF,Q6,Rat.mkRat_self]
theorem RE{p:Rat}(h:rF p=rF q):p=q:=by grind[BX]
theorem Jlx:ay 1=[1]:=by simp[iJ,W3]
theorem RF:rF 0=⟨false,[],[1]⟩:=by simp[rF,Jlx,W3]
theorem BY{s:Bool}(f:x≠0)(hd:d≠0):rF (mkRat (if s then -(x:Int) else (x:Int)) d)=⟨s,ay (x / Nat.gcd x d),ay (d / Nat.gcd x d)⟩:=by
 obtain⟨a,g⟩:=Fq (z:=if s then -(x:Int) else (x:Int)) hd;have i:(if s then -(x:Int) else (x:Int)).natAbs=x:=by cases s<;>simp
 have e:Nat.gcd x d ∣ x:=Nat.gcd_dvd_left _ _;have j:x / Nat.gcd x d≠0:=by have:=Nat.div_pos (Nat.le_of_dvd (Nat.pos_of_ne_zero f) e) (Nat.gcd_pos_of_pos_left d (Nat.pos_of_ne_zero f));omega
 rw[i] at a g;rw[<-QV s x _ e] at a;grind[rF]
theorem o8{f:Qa}(a:aq<=n)(g:Wd f.N)(e:Wd f.D)(lN:f.N.length<35184372087850)(lD:f.D.length<35184372087850):J9 n f=some (rF (fr f)):=by
 unfold J9;have g1:=Wa g;have j:=Wa e;rw[Wz a om,aa,Wz a om,aa,<-Ke g,<-Ke e];simp only[ai,ap];have m:=wD (v:=val f.N);have z2:=wD (v:=val f.D);unfold fr;by_cases hd:val f.D=0;simp_all[RF];rw[oq om];by_cases i:val f.N=0;simp_all[RF];rw[oq om,BY i hd,RA,aa];have k:Nat.gcd (val f.N) (val f.D)≠0:=ol
 have l:(ay (Nat.gcd (val f.N) (val f.D))).length<35184372087850:=xh (Zd (Nat.gcd_le_left _ om)) om;by_cases d:ay (val f.D)=[1]
 rw[ou d,ow,ak];have:val f.D=1:=by grind[Q6,val]
 simp_all;rw[ov d,xn,aj,Q7e a om om (Jh _) (Jh _),aa,Q6,Q6,RD a om om (Jh _) (Jh _) (by grind[Q6]),aa,RD a om om (Jh _) (Jh _) (by grind[Q6]),aa,Q6,Q6,Q6]
theorem qi(z:Int)(d:Nat):wy ⟨decide (z<0),ay (z.natAbs*d)⟩=z*(d:Int):=by unfold wy;simp only[Q6,Int.natCast_mul];grind
theorem RG{p:Rat}(a:aq<=n)(hk:k<274877906944)(g:qw p<=k)(i:qw q<=k):vX n (rF p) (rF q)=some (rF (p+q)):=by
 have s:=qf p;have t:=qf q;have d:=qg p;have f:=qg q;have l:=@o6 p.num.natAbs q.den;have m:=@o6 q.num.natAbs p.den;have r:=@o6 p.den q.den;unfold vX rF;simp only[];rw[wC a om om (Jh _) (Jh _),aa,wC a om om (Jh _) (Jh _),aa,Q6,Q6,Q6,Q6,Q7f a (Jh _) (Jh _) ol ol,aa,qi,qi,wC a om om (Jh _) (Jh _),aa,Q6,Q6];have j:(ay (p.num*(q.den:Int)+q.num*(p.den:Int)).natAbs).length<=2*k+1:=by
  refine xz (Zd (Int.natAbs_add_le _ _)) ?_;rw[Int.natAbs_mul,Int.natAbs_mul,vv,vv];exact wE om om
 rw[o8 a (Jh _) (Jh _) (by grind[rW]) ol,aa];have e:fr ⟨(rW (p.num*(q.den:Int)+q.num*(p.den:Int))).A8,(rW (p.num*(q.den:Int)+q.num*(p.den:Int))).A7,ay (p.den*q.den)⟩=p+q:=by unfold fr rW;simp only[Q6];rw[Jlw,<-wo _ _ p.den_nz q.den_nz,wg,wg]
 rw[e];rfl
theorem Q7g(a:aq<=n)(hk:k<274877906944)(f:qw q<=k):Bz n (rF q)=some (rF (-q)):=by
 have g:=qf q;have d:=qg q;unfold Bz rF;simp only[];rw[o8 a (Jh _) (Jh _) ol ol,aa];have e:fr ⟨!decide (q.num<0),ay q.num.natAbs,ay q.den⟩=-q:=by grind[fr,Q6,Rat.neg_mkRat,Rat.mkRat_self]
 rw[e];rfl
theorem Q7h{p:Rat}(a:aq<=n)(hk:k<274877906944)(d:qw p<=k)(e:qw q<=k):BA n (rF p) (rF q)=some (rF (p - q)):=by grind[BA,Q7g,RG,Joe]
def rv(l:List Qb):List Rat:=l.map fv
def dV(l:List Rat):List Qb:=l.map ce
theorem KE(l:List Qb):(rv l).length=l.length:=by grind[rv]
theorem RH(l:List Rat):(dV l).length=l.length:=by grind[dV]
def FR(k:Nat)(l:List Qb):Prop:=∀ x∈l,Fk k x
def QR(k:Nat)(l:List Rat):Prop:=∀ x∈l,qw x<=k
theorem BZ{l:List Rat}(h:QR k l):FR k (dV l):=λx a=>by unfold dV at a;obtain⟨q,d,rfl⟩:=xv.1 a;exact lF (h q d)
theorem mX{l:List Qb}(h:FR k l)(d:1<=k):QR k (rv l):=λx a=>by unfold rv at a;obtain⟨q,e,rfl⟩:=xv.1 a;exact jh (h q e) d
theorem nY{l:List Qb}(h:FR j l)(hk:j<=k):FR k l:=λx a=>mu (h x a) hk
theorem RI:((ay v).length:Int)=0↔v=0:=by grind[wD]
theorem wN(q:Rat):Kw (rF q)=some q.num.sign:=by unfold Kw rF;simp only[ap];by_cases h:q.num=0;rw[ot (by grind[RI]),h];rfl;rw[oq (by grind[RI])];grind
theorem Fz{p:Rat}(a:aq<=n)(hk:k<274877906944)(d:qw p<=k)(e:qw q<=k):V5 n (rF p) (rF q)=some (Int.sign (p - q).num):=by grind[V5,Q7h,wN]
open Classical in
theorem KF{f g:Qa}(i:aq<=n)(j:f.N.length<=4611686018427387904)(k:f.D.length<=4611686018427387904):Jx n f g=some (decide (f=g)):=by unfold Jx;simp only[ai];obtain⟨s,a,d⟩:=f;obtain⟨t,b,e⟩:=g;simp only at *;by_cases c1:s=t;subst c1;rw[show(s == s)=true by simp,aj,JI i j,aa];by_cases c2:a=b;subst c2;rw[ou rfl,aj,JI i k,aa];exact yj some (vt.2 ⟨λh=>by rw[h],λh=>by cases h;rfl⟩);rw[ov c2,ak,ov (λh=>by cases h;exact c2 rfl)];rw[show(s == t)=false by simpa using c1,ak,ov (λh=>by cases h;exact c1 rfl)]
theorem FA{p:Rat}(a:aq<=n)(hk:k<274877906944)(e:qw p<=k):Jx n (rF p) (rF q)=some (decide (p=q)):=by have f:=qf p;have d:=qg p;rw[KF a (by show(ay p.num.natAbs).length<=_;omega) (by show(ay p.den).length<=_;omega)];exact yj some (vt.2 (by grind[RE]))
theorem RJ(d:aq<=n)(hk:k<274877906944)(e:qw q<=k):vW n (rF q)=some (qz q:Int):=by have f:=qf q;have a:=qg q;grind[KD,vW,rF,qz,Rv,Jh,Q6,aK]
theorem RK(a:aq<=n)(f:x<18446744073709551616):vS n x=some (ay x):=by
 unfold vS;have e:Wd [x%4294967296%4294967296,x / 4294967296%4294967296]:=by grind[Vc,Vw]
 have d:val [x%4294967296%4294967296,x / 4294967296%4294967296]=x:=by grind[val]
 grind[Wz,Ke]
theorem RL{x:Int}(d:aq<=n)(j:-9223372036854775808<=x)(k:x<=9223372036854775807):Jy n x=some (rF (x:Rat)):=by
 unfold Jy;have a:Wd [1]:=by grind[Vc,Vw]
 have i:val [1]=1:=rfl;have g:∀ z,z<18446744073709551616->(ay z).length<=2:=by simp_all[Wn,W8,jf]
 rw[ap];by_cases h:x<0;have e:Int.toNat (wrap64 (-(wrap64 (x+1)))%18446744073709551616)=x.natAbs - 1:=by grind[aK]
 have l:=g (x.natAbs - 1) om;have f:=g x.natAbs om;rw[ot h,aa,e,RK d om,aa,Fi d om oh (Jh _) a,aa,Q6,i,show x.natAbs - 1+1=x.natAbs by omega,o8 d (Jh _) a ol oh,aa];congr 2;unfold fr;simp only[Q6,i];rw[ot trivial,show -((x.natAbs:Nat):Int)=x by omega,<-Rat.mkRat_one];have e:Int.toNat (x%18446744073709551616)=x.natAbs:=om
 have f:=g x.natAbs om;rw[oq h,e,RK d om,aa,o8 d (Jh _) a ol oh,aa];congr 2;unfold fr;simp only[Q6,i];rw[oq oc,show((x.natAbs:Nat):Int)=x by omega,<-Rat.mkRat_one]
theorem B0(a:aq<=n):Jy n 0=some (rF 0):=by grind[RL]
theorem KG(a:aq<=n):Jy n 1=some (rF 1):=by grind[RL]
theorem FC(x m:Int):mT x m=some (decide (0<=x/\x<m)):=by unfold mT;simp only[ai,ap];grind
def lH(i:Jk):List Int:=if i.Op=6\/i.Op=11 then [i.A] else if i.Op=7\/i.Op=8\/i.Op=9\/i.Op=10 then [i.A,i.B] else []
theorem Q47(i:Jk):vH i=some (lH i):=by unfold vH lH;simp only[ai,ap];grind
def TW(t:Jq):Prop:=∀ c∈t.Code,Fw c.N
def tI(x:Qw):Jk:=⟨x.Op,x.A,x.B,⟨⟨x.N.A8,x.N.N⟩,x.N.D⟩⟩
theorem Q9r{t:Qr}(f:aq<=n)(d:t.Code.length<=1000000)(e:t.Ax.length<=1000000):BF n t=some ⟨t.Code.map tI,t.Ax,t.Bc,t.Par⟩:=by
 unfold BF;rw[Jv ol ol,aa];rw[jg (λi=>((t.Code.take i).map tI,(i:Int))) t.Code.length (t.Code.map tI)]
 . rfl
 . intro i hi
   have a:t.Code[i]?=some t.Code[i]:=xm hi;generalize t.Code[i]=p at a;simp only[ap,v8,aa];rw[ot om,Ku a,aa,Jv ol ol,aa,w1 om,BV tI a];rfl
 . simp
 all_goals grind[aq]
def tF(x:Qa):Qb:=⟨⟨x.A8,x.N⟩,x.D⟩
theorem B1{l:List Qa}(e:aq<=n)(d:l.length<=1000000):X0 n l=some (l.map tF):=by
 unfold X0;rw[jg (λi=>((l.take i).map tF,(i:Int))) l.length (l.map tF)]
 . intro i hi
   have a:l[i]?=some l[i]:=xm hi;generalize l[i]=p at a;simp only[ap,v8,aa];rw[ot om,Ku a,aa,Jv ol ol,aa,w1 om,BV tF a];rfl
 . simp
 all_goals grind[aq]
theorem Q9s{l:List (List Qa)}(d:aq<=n)(e:l.length<=1000000)(f:∀ r∈l,r.length<=1000000):BG n l=some (l.map (·.map tF)):=by
 unfold BG;rw[jg (λi=>((l.take i).map (·.map tF),(i:Int))) l.length (l.map (·.map tF))]
 . intro i hi
   have a:l[i]?=some l[i]:=xm hi;generalize l[i]=p at a;simp only[ap];rw[ot om,Ku a,aa,B1 d ol,aa,Jv ol ol,aa,w1 om,BV (·.map tF) a]
 . simp
 all_goals grind[aq]
def tS(s:Ql):Q5:=⟨s.A0,s.C.map tF,s.A.map (·.map tF),s.B.map tF,s.E.map tF⟩
def tT(t:Qr):Jq:=⟨t.Code.map tI,t.Ax,t.Bc,t.Par⟩
def tP(p:Qs):Jw:=⟨tT p.Tape,tS p.A3,p.P.map tF,p.Bits⟩
theorem Q9t{p:Qs}(a:aq<=n)(d:p.Tape.Code.length<=1000000)(e:p.Tape.Ax.length<=1000000)(f:p.A3.A.length<=1000000)(g:p.A3.B.length<=1000000)(i:p.A3.C.length<=1000000)(j:p.A3.E.length<=1000000)
 (k:∀ r∈p.A3.A,r.length<=1000000) (l:p.P.length<=1000000):wa n p=some (tP p):=by
 unfold wa Fd;rw[Q9r a d e,aa,B1 a i,aa,Q9s a f k,aa,B1 a g,aa,B1 a j,aa,aa,B1 a l,aa];rfl
def rR(l:List Rat):List Qa:=l.map rF
theorem mY(l:List Rat):(rR l).length=l.length:=by grind[rR]
theorem Jof{l:List Rat}(h:l[i]?=some q):(rR l)[i]?=some (rF q):=by grind[rR]
theorem Jog{a b:List Rat}(h:rR a=rR b):a=b:=by
 unfold rR at h
 induction a generalizing b with
 | nil=>simp_all
 | cons x a d=>cases b with
   | nil=>cases h
   | cons y b=>
     grind[RE]
theorem KH(l:List Rat)(q:Rat):rR (l++[q])=rR l++[rF q]:=by grind[rR]
theorem Jh1{l:List α}{x:α}(h:l[i]?=some x):l.take (i+1)=l.take i++[x]:=by grind[List.take_add_one]
def FRr(k:Nat)(l:List Qa):Prop:=∀ f∈l,Wd f.N/\Wd f.D/\f.N.length<=k/\f.D.length<=k
def iZ(l:List Qa):List Rat:=l.map fr
theorem RM(l:List Qa):(iZ l).length=l.length:=by grind[iZ]
theorem kK(f:Qa):fv (tF f)=fr f:=rfl
theorem FD(l:List Qa):rv (l.map tF)=iZ l:=by unfold rv iZ;rw[va];rfl
theorem gZ{f:Qa}(h:Wd f.N/\Wd f.D/\f.N.length<=k/\f.D.length<=k)(a:1<=k):qw (fr f)<=k:=by rw[<-kK];exact jh ⟨h.1,h.2.2.1,h.2.1,h.2.2.2⟩ a
theorem Joh{l:List Qa}(h:FRr k l)(a:1<=k):QR k (iZ l):=λq d=>by obtain⟨f,hf,rfl⟩:=xv.1 d;exact gZ (h f hf) a
open Classical in
theorem Q49{a b:List Qa}(l:aq<=n)(m:a.length<=1000000)(h:∀ f∈a,f.N.length<=4611686018427387904/\f.D.length<=4611686018427387904):wb n a b=some (decide (a=b)):=by
 unfold wb;by_cases j:a.length=b.length;rw[ou (show(a.length:Int)=(b.length:Int) by omega),ow,ak];rw[Ft (λi=>a[i]?=b[i]?) a.length (r:=false)];have e:(∀ i,i<a.length->a[i]?=b[i]?)↔a=b:=by constructor;intro g;refine List.ext_getElem? λi=>?_;rcases yx i a.length with hi | hi;exact g i hi;rw[uf hi,uf om];rintro rfl i _;rfl
 by_cases g:a=b;rw[ot (e.2 g),ou g];rw[oq (λh=>g (e.1 h)),ov g];intro i hi;have k:a[i]?=some a[i]:=xm hi;have d:b[i]?=some (b[i]' om):=xm om;have hf:=h a[i] (uz hi);generalize a[i]=x at k hf;generalize b[i]' om=y at d;simp only[ap];rw[ot om,Ku k,aa,Ku d,aa,KF l hf.1 hf.2,aa,k,d,w1 om];constructor;intro g;rw[ou (Option.some.inj g)];rfl;intro g;rw[ov (λh=>g (by rw[h]))];rfl;simp only[ap];rw[oq om];unfold aq at l;omega;rw[ov (show ¬(a.length:Int)=(b.length:Int) by omega),xn,aj,ov];intro g;exact j (by rw[g])
theorem RN(h:qw q<=k):(rF q).N.length<=k/\(rF q).D.length<=k:=by have:=qf q;have:=qg q;exact⟨by show(ay q.num.natAbs).length<=k;omega,by show(ay q.den).length<=k;omega⟩
theorem Q2t{a b:List Rat}(d:aq<=n)(g:a.length<=1000000)(hk:k<274877906944)(h:QR k a):wb n (rR a) (rR b)=some (decide (a=b)):=by
 classical
 rw[Q49 d (by grind[mY]) (λf hf=>by
  obtain⟨q,e,rfl⟩:=xv.1 hf;have:=RN (h q e)
  omega)]
 exact yj some (vt.2 (by grind[Jog]))
def oF(x:Qb):Qa:=⟨x.Num.A8,x.Num.A7,x.Den⟩
theorem Joi(q:Rat):oF (ce q)=rF q:=rfl
theorem Joj(l:List Rat):(dV l).map oF=rR l:=by unfold dV rR;rw[va];rfl
theorem RO(x:Qb):Xi x=some (oF x):=rfl
theorem Q9u{l:List Qb}(e:aq<=n)(d:l.length<=1000000):BH n l=some (l.map oF):=by
 unfold BH;rw[jg (λi=>((l.take i).map oF,(i:Int))) l.length (l.map oF)]
 . intro i hi
   have a:l[i]?=some l[i]:=xm hi;generalize l[i]=p at a;simp only[ap,RO,aa];rw[ot om,Ku a,aa,Jv ol ol,aa,w1 om,BV oF a]
 . simp
 all_goals grind[aq]
theorem Q7j{p:Rat}(a:aq<=n)(hk:k<274877906944)(d:qw p<=k):Vz n (ce p) (rF q)=some (decide (p=q)):=by grind[Vz,RO,Joi,FA]
theorem Q7k{a b:List Rat}(e:aq<=n)(d:a.length<=1000000)(hk:k<274877906944)(h:QR k a):Ky n (dV a) (rR b)=some (decide (a=b)):=by grind[Ky,Q9u,RH,Joj,Q2t]
theorem B2{l:List α}{P:α->Prop}:(∀(i:Nat) x,l[i]?=some x->P x)↔∀ a∈l,P a:=by grind[List.getElem?_of_mem]
noncomputable def dP(p:Prop):Bool:=@decide p (Classical.propDecidable p)
theorem mZ{p:Prop}[Decidable p]:decide p=dP p:=by grind[dP]
theorem cq{p:Prop}(h:p):dP p=true:=by grind[dP]
theorem aL{p:Prop}(h:¬ p):dP p=false:=by grind[dP]
theorem B3{p q:Prop}(h:p↔q):dP p=dP q:=ol
theorem RP{p:Prop}:dP p=true↔p:=by grind[aL,cq]
theorem m3{p q:Prop}[Decidable p](h:p↔q):some (decide p)=some (dP q):=by rw[mZ,B3 h]
theorem nZ{p q r:Prop}[Decidable p][Decidable q](h:p/\q↔r):(if p then some (decide q) else some false)=some (dP r):=by by_cases a:p;rw[ot a];grind[m3];simp_all[aL]
theorem Jok{p q r:Prop}[Decidable p](h:p/\q↔r):(if p then some (dP q) else some false)=some (dP r):=by grind[aL]
def dy(f:Qb):Prop:=f.Num.A8=false/\f.Num.A7=[]/\f.Den=[]
theorem Q5a(f:Qb):AR f=some (dP (dy f)):=by
 unfold AR dy;obtain⟨⟨s,a⟩,d⟩:=f;simp only[ai];cases s;simp only[xn,aj,ap];refine nZ ⟨oh,λh=>?_⟩;obtain⟨_,rfl,rfl⟩:=h;exact by simp
 simp[aL]
theorem lI(p:Prop)(a b:α):(bif dP p then a else b)=@ite _ p (Classical.propDecidable p) a b:=by grind[cq,aL]
theorem fC(p:Prop)(a b:α):(bif !dP p then a else b)=@ite _ p (Classical.propDecidable p) b a:=by grind[cq,aL]
def ji(t:Jq)(i:Nat)(x:Jk):Prop:=
 if x.Op=1 then x.A=0/\x.B=0/\x.N=ce (fv x.N) else
 dy x.N/\(∀ r∈lH x,0<=r/\r<(i:Int)) /\
 if x.Op=2 then x.A=0/\x.B=0 else if x.Op=3 then (0<=x.A/\x.A<t.Bc)/\x.B=0 else if x.Op=4 then (0<=x.A/\x.A<t.Par)/\x.B=0 else
 if x.Op=6 then x.B=0 else if x.Op=11 then -8<=x.B/\x.B<=8 else (lH x).length=2
theorem Q9v{t:Jq}{x:Jk}(s:aq<=n)(u:Fw x.N)(v:t.Code[i]?=some x):vI n t (i:Int)=some (dP (ji t i x)):=by
 unfold vI ji;rw[Ku v,aa,ap];by_cases e:x.Op=1
 have f:(if x.Op=1 then x.A=0/\x.B=0/\x.N=ce (fv x.N) else dy x.N/\(∀ r∈lH x,0<=r/\r<(i:Int)) /\
  if x.Op=2 then x.A=0/\x.B=0 else if x.Op=3 then (0<=x.A/\x.A<t.Bc)/\x.B=0 else if x.Op=4 then (0<=x.A/\x.A<t.Par)/\x.B=0 else
  if x.Op=6 then x.B=0 else if x.Op=11 then -8<=x.B/\x.B<=8 else (lH x).length=2)=(x.A=0/\x.B=0/\x.N=ce (fv x.N)):=ot e
 simp only[f];rw[ot e];have m:=Rg s u;simp only[ai,oV,aa];have l:Z2 (⟨x.Op,x.A,x.B⟩:Kz) ⟨1,0,0⟩=decide (x.A=0/\x.B=0):=by grind[Z2]
 rw[l,m,aa,ap];rw[@mZ _ (Classical.propDecidable _)];refine Jok ol
 have f:(if x.Op=1 then x.A=0/\x.B=0/\x.N=ce (fv x.N) else dy x.N/\(∀ r∈lH x,0<=r/\r<(i:Int)) /\
  if x.Op=2 then x.A=0/\x.B=0 else if x.Op=3 then (0<=x.A/\x.A<t.Bc)/\x.B=0 else if x.Op=4 then (0<=x.A/\x.A<t.Par)/\x.B=0 else
  if x.Op=6 then x.B=0 else if x.Op=11 then -8<=x.B/\x.B<=8 else (lH x).length=2)=(dy x.N/\(∀ r∈lH x,0<=r/\r<(i:Int)) /\
  if x.Op=2 then x.A=0/\x.B=0 else if x.Op=3 then (0<=x.A/\x.A<t.Bc)/\x.B=0 else if x.Op=4 then (0<=x.A/\x.A<t.Par)/\x.B=0 else
  if x.Op=6 then x.B=0 else if x.Op=11 then -8<=x.B/\x.B<=8 else (lH x).length=2):=oq e
 simp only[f];rw[oq e,Q5a,aa,fC];by_cases q:dy x.N;rw[ot q,Q47,aa,o7 (λ_ (r:Int)=>0<=r/\r<(i:Int)) (r:=false)];rw[B2];by_cases k:∀ r∈lH x,0<=r/\r<(i:Int);rw[ot k];have eG:∀ {o:Option Bool}{p:Prop},o=some (dP p)->o=some (dP (dy x.N/\(∀ r∈lH x,0<=r/\r<(i:Int))/\p)):=ol
 refine eG ?_;simp only[ai,oV,aa,FC,ap];by_cases g:x.Op=2;simp only[ot g];refine yj some ?_;unfold Z2;simp only[g];rw[<-mZ];by_cases a:x.A=0<;>by_cases b:x.B=0<;>simp[a,b];simp only[oq g];by_cases g3:x.Op=3;simp only[ot g3];exact nZ Iff.rfl;simp only[oq g3];by_cases g4:x.Op=4;simp only[ot g4];exact nZ Iff.rfl;simp only[oq g4];by_cases j:x.Op=6;simp only[ot j];exact m3 Iff.rfl;simp only[oq j];by_cases d:x.Op=11;simp only[ot d];exact nZ Iff.rfl;simp only[oq d];exact m3 om;rw[oq k,aL ol];grind[FC];simp_all[aL]
def fK(t:Jq):Prop:=(1<=t.Bc/\t.Bc<=6)/\(0<=t.Par/\t.Par<=6)/\(t.Ax.length:Int)=t.Bc/\t.Code.length<=300
def iy(t:Jq):Prop:=fK t/\(∀(i:Nat) x,t.Code[i]?=some x->ji t i x)/\∀ o∈t.Ax,0<=o/\o<(t.Code.length:Int)
theorem Q5b(t:Jq)(h:-9223372036854775808<=t.Bc/\t.Bc<=9223372036854775807):AQ t=some (dP (fK t)):=by
 unfold AQ fK;simp only[ai,FC,aa,ap];have d:(0<=wrap64 (t.Bc - 1)/\wrap64 (t.Bc - 1)<6)↔(0<=t.Bc - 1/\t.Bc - 1<6):=by grind[wrap64]
 by_cases g1:0<=t.Bc - 1/\t.Bc - 1<6;rw[ot (d.2 g1)];by_cases a:0<=t.Par/\t.Par<7;rw[ot a];by_cases g3:(t.Ax.length:Int)=t.Bc;rw[ot g3];grind[m3];simp_all[aL];rw[oq a,aL om];rw[oq om,aL om]
theorem Jgb{f:Nat->Jk->Unit->Option (Lp Unit R)}{K:Unit->Option R}{xs:List Jk}(P:Nat->Jk->Prop)(r:Nat->R)
 (a:∀ i x,xs[i]?=some x->(P i x->f i x ()=some (.go ()))/\(¬ P i x->f i x ()=some (.out (r i)))) :
 ((∀(i:Nat) x,xs[i]?=some x->P i x)/\(ao f xs 0 ()).bind (aS K)=K ())\/(¬(∀(i:Nat) x,xs[i]?=some x->P i x)/\∃ j,(ao f xs 0 ()).bind (aS K)=some (r j)):=by
 have key:∀(xs:List Jk) (k:Nat),(∀ i x,xs[i]?=some x->(P (k+i) x->f (k+i) x ()=some (.go ()))/\(¬ P (k+i) x->f (k+i) x ()=some (.out (r (k+i))))) ->
  ((∀(i:Nat) x,xs[i]?=some x->P (k+i) x)/\(ao f xs k ()).bind (aS K)=K ())\/(¬(∀(i:Nat) x,xs[i]?=some x->P (k+i) x)/\∃ j,(ao f xs k ()).bind (aS K)=some (r j)):=by
  intro xs
  induction xs with
  | nil=>intro k _;exact .inl ⟨oh,rfl⟩
  | cons x xs m=>
    intro k a;have h0:=a 0 x rfl;simp only[xg] at h0;by_cases d:P k x;have:=m (k+1) (λi y e=>by have:=a (i+1) y (by simpa using e);grind);simp only[ao,h0.1 d,aa];rcases this with ⟨g,l⟩ | ⟨g,l⟩;grind;refine .inr ⟨λh=>g λi y e=>?_,l⟩;have:=h (i+1) y (by simpa using e);grind;refine .inr ⟨λh=>d (h 0 x rfl),k,?_⟩;simp only[ao,h0.2 d,aa];rfl
 grind
theorem RQ{t:Jq}(q:aq<=n)(s:TW t)(hd:-9223372036854775808<=t.Bc/\t.Bc<=9223372036854775807):vJ n t=some (dP (iy t)):=by
 unfold vJ E7;rw[Q5b t hd,aa,fC];by_cases e:fK t;rw[ot e]
 have key:=Jgb (K:=λ(_:Unit)=>(ao (λ(_:Nat) (p:Int) (_:Unit)=>
  (mT p (t.Code.length:Int)).bind λm=>bif !m then (some (.out ((t.Code.length:Int)))) else (some (.go ()))) t.Ax 0 ()).bind (aS λ(_:Unit)=>
 some (-1))) (f:=λ(a:Nat) (_:Jk) (_:Unit)=>
  (vI n t (a:Int)).bind λl=>bif !l then (some (.out ((a:Int)))) else (
   some (Lp.go ()))) (xs:=t.Code) (λi x=>ji t i x) (λi=>(i:Int)) (λi x u=>by
  rw[Q9v q (s x ol) u,aa]
  grind[cq,aL])
 rcases key with ⟨g,k⟩ | ⟨g,j,k⟩;rw[k,o7 (λ_ (o:Int)=>0<=o/\o<(t.Code.length:Int)) (r:=(t.Code.length:Int))];rw[B2];by_cases d:∀ o∈t.Ax,0<=o/\o<(t.Code.length:Int);rw[ot d,aa];exact m3 ⟨λ_=>⟨e,g,d⟩,λ_=>rfl⟩;rw[oq d,aa];exact m3 ⟨oh,λh=>absurd h.2.2 d⟩;grind[FC];rw[k,aa];exact m3 ⟨oh,λh=>absurd h.2.1 g⟩;rw[oq e,aa];exact m3 ⟨oh,λh=>absurd h.1 e⟩
theorem RR(f:Qc):Ji f f=true:=by simp[Ji]
theorem RS(l:List Rat)(q:Rat):dV l++[ce q]=dV (l++[q]):=by grind[dV]
end Go.Proofs.YthdbapalogijdaaGreatDoor
