import Derived.Test.YtjmfkenegjhohaaGreatDoorModa
import Derived.Test.YtjmfkenegjhohaaGreatDoorP2
namespace Go.Proofs.YtjmfkenegjhohaaGreatDoor
open Go Go.RowKit
theorem Jkr{l r:List UInt8}(a:l.length+r.length<=9223372036854775807):catS l r=some (l++r):=by unfold catS;rw[oq a]
theorem Jfg{σ τ R β:Type}{f:σ->Option (Lp σ τ)}{n:Nat}{s:σ}{k:τ->Option R}{g:β->R}{P:β->Prop}(μ:σ->Nat)(I:σ->Prop)(Q:τ->Prop)(h0:I s)(hn:μ s<n)
 (hb:∀ s,I s->(∃ s',f s=some (.go s')/\I s'/\μ s'<μ s)\/(∃ t,f s=some (.out t)/\Q t)) (hk:∀ t,Q t->∃ b,k t=some (g b)/\P b):∃ b,(loopM f n s).bind k=some (g b)/\P b:=by
 obtain⟨t,a,d⟩:=Qxv μ I Q hb n s h0 hn;rw[a,xq];exact hk t d
theorem Jg3{α:Type}{l:List α}{x y:α}(h:l.length<9223372036854775807):List.set (l++[x]) (Int.toNat (wrap64 (((l++[x]).length:Int) - 1))) y=l++[y]:=by rw[yd,vm,w64 om om,show(((l.length+1:Nat):Int) - 1)=((l.length:Nat):Int) by omega,yh];simp
theorem Jbu{a:List Nat}(h:Wd a):Wd (trimZ a):=by rw[<-K1 h];exact Js _
theorem Yv{n:Nat}{a:List Nat}(hn:big<=n)(i:a.length<=35184372088832):Kr n a=some (trimZ a):=by
 have h:=Zi hn (show a.length<=4611686018427387904 by omega);have j:=Qaa a;unfold Kr;unfold Zy at h
 cases hk:loopM (λ(d:Int)=>
  jn (λ(e:(Bool)->Option _)=>
   bif decide ((0:Int)<d) then (
    (getI a (wrap64 (d - (1:Int)))).bind λg=>
    e (decide (g=0)))
   else (
    e false)) (λ(f:Bool)=>
   bif f then (
    some (Lp.go (wrap64 (d - (1:Int)))))
   else (
    some (Lp.out d)))) n (a.length:Int) with
 | none=>rw[hk] at h;cases h
 | some t=>
   rw[hk] at h;rw[sbind] at h |-;cases hs:sub a (0:Int) t with
   | none=>rw[hs] at h;cases h
   | some b=>
     rw[hs,sbind] at h;rw[sbind];obtain rfl:b=trimZ a:=by simpa using h
     rw[J9 oh oh,sbind,yw]
theorem Quu{n:Nat}{a b:List Nat}(hn:big<=n)(g:a.length<=4611686018427387904):Qa3 n a b=some (decide (a=b)):=by unfold Qa3;unfold big at hn;rw[bifnd];by_cases f:a.length=b.length;rw[oq om];refine Qb0 (λs=>a.length - s.toNat) (λs=>∃ k:Nat,s=k/\k<=a.length/\a.take k=b.take k) (λt=>(t=.go ()/\a=b)\/(t=.out false/\a≠b)) ⟨0,rfl,yb _,oc⟩ om ?_ ?_;rintro s ⟨k,rfl,hk,d⟩;simp only[bifd,bifnd];by_cases h:k<a.length;rw[oq om,Qbz h,sbind,Qbz (show k<b.length by omega),sbind];by_cases e:a[k]=b[k];left;rw[oq e,w64 om om];refine⟨_,rfl,⟨k+1,om,om,?_⟩,om⟩;rw[We h,We (show k<b.length by omega),d,e];right;rw[ol e];exact⟨_,rfl,.inr ⟨rfl,λh=>e (by simp[h])⟩⟩;right;rw[ol om];refine⟨_,rfl,.inl ⟨rfl,?_⟩⟩;rw[xb om,xb om] at d;exact d;rintro t (⟨rfl,h⟩ | ⟨rfl,h⟩);rw[Wv];simp[h];rw[Qap];simp[h];rw[ol om];have:a≠b:=λh=>f (by rw[h]);simp[this]
theorem Qfr{a:List Nat}{k:Nat}:Xb a (k:Int)=some (a.getD k 0):=by unfold Xb;rw[bifd];by_cases h:k<a.length;rw[oq om,Qbz h,sbind];simp[h];rw[ol om];simp[xz (show a.length<=k by omega)]
theorem Jiy(P s x y u v V A C:Nat)(e:4294967296*u+v=s+(x+y))(h:V+P*s=A+C):V+P*v+P*4294967296*u=A+P*x+(C+P*y):=by grind
theorem Jfh(P Q s o a d:Nat)(_:Nat)(g:o+P*s=a+d)(i:a<Q)(hb:d<Q)(f:P=Q*4294967296):s=0:=by rcases wo s with h | h;exact h;exfalso;have e:P*1<=P*s:=uq _ h;omega
theorem Qwy{n:Nat}{a b:List Nat}(hn:big<=n)(G:a.length<17592186044416)(hb:b.length<17592186044416)(g:Wd a)(m:Wd b):Qbl n a b=some (toL (val a+val b)):=by
 unfold Qbl;unfold big at hn;obtain⟨l,H⟩:∃ l:Nat,l=max a.length b.length:=⟨_,rfl⟩
 have f:max (a.length:Int) (b.length:Int)=(l:Int):=om
 have u:a.length<=l:=om
 have v:b.length<=l:=om
 have F:l<17592186044416:=om
 rw[f,w64 om om,show((l:Int)+1)=((l+1:Nat):Int) by omega,Qfd om om,sbind]
 refine Qb0 (λs=>(l+1) - s.2.2.toNat) (λs=>∃(k:Nat) (o:List Nat),s.2.2=k/\k<=l+1/\s.1=o++List.replicate (l+1 - k) 0/\o.length=k/\Wd o/\s.2.1<4294967296/\val o+bp k*s.2.1=val (a.take k)+val (b.take k))
  (λt=>t.length=l+1/\Wd t/\val t=val a+val b) ⟨0,[],rfl,om,oc,rfl,W3,oc,by simp[val,Qbd]⟩ (by simp only[];omega) ?_ ?_
 rintro⟨q,s,i⟩ ⟨k,o,r,w,p,e,x,B,d⟩;simp only at r p B d;subst r p;simp only[sbind,bifd];by_cases hk:k<l+1;left;have I:=Qmd g k;have J:=Qmd m k;rw[oq om,Qfr,sbind,Qfr,sbind];obtain⟨j,E⟩:∃ j,l+1 - k=j+1:=⟨l - k,om⟩
 rw[E,vg,Wq e,sbind,Zf e,w64 om om];rw[xw (show a.getD k 0+b.getD k 0<18446744073709551616 by omega),xw (show s+(a.getD k 0+b.getD k 0)<18446744073709551616 by omega),Nat.mod_mod];refine⟨_,rfl,⟨k+1,o++[(s+(a.getD k 0+b.getD k 0))%4294967296],by simp only[];omega,om,?_,by simp[e],Kt.2 ⟨x,K0.2 ⟨om,W3⟩⟩,by simp only[];omega,?_⟩,by simp only[];omega⟩;simp only[];rw[show l+1 - (k+1)=j by omega];simp;simp only[];rw[Yr,Yr,Vm,e,Wx];exact Jiy _ _ _ _ _ _ _ _ _ (wm (s+(a.getD k 0+b.getD k 0)) 4294967296) d;right;obtain rfl:k=l+1:=om
 rw[ol om];refine⟨_,rfl,by simp[e],by simpa using x,?_⟩;rw[xb om,xb om] at d;have C:s=0:=by have g1:=Zb g;have y:=Zb m;have g3:bp a.length<=bp l:=bp_le u;have g4:bp b.length<=bp l:=bp_le v;have A:bp (l+1)=bp l*4294967296:=Wx _;exact Jfh _ _ _ _ _ _ 0 d (xv g1 g3) (xv y g4) A
 rw[C,vo,xp] at d
 simpa using d
 rintro t ⟨r,w,p⟩;rw[Yv (by unfold big;exact hn) om,sbind,<-K1 w,p]
theorem Jiz(P x y m a u v V M A:Nat)(e:4294967296*u+v=a+(x*y+m))(d:V+P*a=M+x*A):V+P*v+P*4294967296*u=M+P*m+x*(A+P*y):=by grind
theorem Jks(P Q A x b O R c p _ M z:Nat)(a:O=p+P*M)(d:R+Q*c=M+x*b)(e:O=A*b)(f:z=p+P*(R+Q*c)):z=(A+P*x)*b:=by grind
theorem Qdx{n:Nat}{a b:List Nat}(hn:big<=n)(S:a.length<17592186044416)(hb:b.length<17592186044416)(F:Wd a)(G:Wd b):Wc n a b=some (toL (val a*val b)):=by
 unfold Wc;unfold big at hn;rw[w64 om om,show((a.length:Int)+(b.length:Int))=((a.length+b.length:Nat):Int) by omega,Qfd om om,sbind]
 refine Qb0 (λs=>a.length - s.2.toNat) (λs=>∃(i:Nat) (o:List Nat),s.2=i/\i<=a.length/\s.1=o++List.replicate (a.length - i) 0/\o.length=i+b.length/\Wd o/\val o=val (a.take i)*val b)
  (λt=>t.length=a.length+b.length/\Wd t/\val t=val a*val b) ⟨0,List.replicate b.length 0,rfl,yb _,by simp only[Nat.sub_zero,List.replicate_append_replicate];rw[Nat.add_comm],oc,Qpj om,by rw[Qif];simp[val]⟩ (by simp only[];omega) ?_ ?_
 rintro⟨q,T⟩ ⟨i,o,y,L,r,P,A,M⟩;simp only at y r;subst y r;simp only[bifd];by_cases hi:i<a.length;left;have J:=Qb1 F hi;obtain⟨j,Q⟩:∃ j,a.length - i=j+1:=⟨a.length - i - 1,om⟩
 rw[oq om,Q,vg];obtain⟨p,hp⟩:∃ p,p=o.take i:=⟨_,rfl⟩
 obtain⟨m,B⟩:∃ m,m=o.drop i:=⟨_,rfl⟩
 have O:o=p++m:=by rw[hp,B,uc]
 have f:p.length=i:=by rw[hp,xi];omega
 have R:m.length=b.length:=by rw[B,uz];omega
 have I:Wd p:=by rw[hp];exact Qsa A
 have H:Wd m:=by rw[B];exact Qof A
 have E:val o=val p+bp i*val m:=by rw[O,Y0,f]
 rw[O]
 refine Jfg (λs=>b.length - s.2.2.toNat) (λs=>∃(k:Nat) (d:List Nat),s.2.2=k/\k<=b.length/\s.1=p++d++(m.drop k++0::List.replicate j 0)/\d.length=k/\Wd d/\s.2.1<4294967296/\val d+bp k*s.2.1=val (m.take k)+a[i]*val (b.take k))
  (λt=>∃ d:List Nat,t.1=p++d++0::List.replicate j 0/\d.length=b.length/\Wd d/\t.2<4294967296/\val d+bp b.length*t.2=val m+a[i]*val b) ⟨0,[],rfl,yb _,oc,rfl,W3,oc,by simp[val]⟩ (by simp only[];omega) ?_ ?_
 rintro⟨q,u,U⟩ ⟨k,d,g1,v,g3,g4,g,w,l⟩;simp only at g1 g3 w l;subst g1 g3;simp only[];by_cases hk:k<b.length;left;have K:=Qb1 G hk;have e:k<m.length:=om
 have C:=Qb1 H e;have N:=Qxw J K C w;rw[oq om,Qbz hi,sbind,Qbz hk,sbind,w64 (x:=(i:Int)+(k:Int)) om om,show((i:Int)+(k:Int))=((i+k:Nat):Int) by omega];rw[xe e,yj,Wq oh,sbind,sbind,sbind,sbind,Zf oh,sbind,w64 om om];rw[xw (show a[i]*b[k]<18446744073709551616 by omega),xw (show a[i]*b[k]+m[k]<18446744073709551616 by omega),xw (show u+(a[i]*b[k]+m[k])<18446744073709551616 by omega),Nat.mod_mod];refine⟨_,rfl,⟨k+1,d++[(u+(a[i]*b[k]+m[k]))%4294967296],by simp only[];omega,om,oc,by simp[g4],Kt.2 ⟨g,K0.2 ⟨om,W3⟩⟩,by simp only[];omega,?_⟩,by simp only[];omega⟩;simp only[];rw[We e,We hk,Vm,Vm,Vm,g4,xi,xi,yy om,yy om,Wx];exact Jiz _ _ _ _ _ _ _ _ _ _ (wm (u+(a[i]*b[k]+m[k])) 4294967296) l;right;obtain rfl:k=b.length:=om
 rw[ol om];refine⟨_,rfl,d,by simp only[];rw[xl om];simp,g4,g,w,?_⟩;rw[xb om,xb om] at l;exact l;rintro⟨q,c⟩ ⟨d,g1,v,g3,g4,g⟩;simp only at g1 g4 g;subst g1;rw[w64 (x:=(i:Int)+(b.length:Int)) om om,show((i:Int)+(b.length:Int))=((i+b.length:Nat):Int) by omega];simp only[];rw[Wq oh,sbind,Zf oh,sbind,w64 om om,xw g4];refine⟨_,rfl,⟨i+1,p++d++[c],by simp only[];omega,om,by simp only[];rw[show a.length - (i+1)=j by omega];simp,by simp[f,v];omega,Kt.2 ⟨Kt.2 ⟨I,g3⟩,K0.2 ⟨g4,W3⟩⟩,?_⟩,by simp only[];omega⟩;rw[xf,Y0,Vm,f,v,We hi,Vm,xi,yy om];exact Jks _ _ _ _ _ _ _ _ _ 0 _ _ E g M rfl;right;obtain rfl:i=a.length:=om
 rw[ol om];exact⟨_,rfl,by simp[P],by simpa using A,by simpa using M⟩;rintro t ⟨y,L,r⟩;rw[Yv (by unfold big;exact hn) om,sbind,<-K1 L,r]
theorem Jg4{p:Prop}:dP p=true↔p:=⟨λh=>by by_cases hp:p;exact hp;rw[dP_f hp] at h;exact absurd h oz,dP_t⟩
theorem Qwz{α:Type}(p:α->Bool)(l:List α):(l.takeWhile p)=l.take (l.takeWhile p).length:=by
 induction l with
 | nil=>rfl
 | cons x l a=>
   rw[vh];cases p x with
   | true=>simp only[ya,xn,vp];rw[<-a]
   | false=>rfl
theorem Qtj(c:Nat):Ya c=some (digB c):=by unfold Ya digB;simp only[jn_eq,bifd];grind
theorem Qrt(c:Nat):Yy c=some (letB c):=by unfold Yy letB;simp only[jn_eq,bifd];grind
theorem Q44(k:Int)(c:Nat):Qc2 k c=some (goC k c):=by unfold Qc2 goC;simp only[jn_eq,Qtj,Qrt,sbind,bifd];by_cases a:k=1;subst a;cases digB c<;>simp;by_cases d:k=2;subst d;cases letB c<;>cases digB c<;>simp;simp[a,d]
theorem Q45(k:Int):Qc4 k=some (mostC k:Int):=by unfold Qc4 mostC;simp only[bifd];grind
theorem Q46{n c:Nat}(hn:big<=n):Qc3 n c=some (kindC c):=by
 unfold Qc3 kindC;rw[Qtj,sbind];cases digB c with
 | true=>rfl
 | false=>
   rw[bifF,Qrt,sbind];cases letB c with
   | true=>rfl
   | false=>
     rw[bifF];unfold big at hn;have e:(if sgnB c=true then (3:Int) else 0)=runG (τ:=Int) (λ_ (x:UInt8) (_:Unit)=>if x.toNat=c then .inr 3 else .inl ()) (λ_=>0) sgnL 0 ():=by
      unfold sgnB;have:∀(l:List UInt8) (i:Nat),(if l.any (λx=>decide (x.toNat=c))=true then (3:Int) else 0)=runG (τ:=Int) (λ_ (x:UInt8) (_:Unit)=>if x.toNat=c then .inr 3 else .inl ()) (λ_=>0) l i ():=by
       intro l
       induction l with
       | nil=>intro i;rfl
       | cons x l g=>
         intro i;simp only[List.any_cons,runG];by_cases h:x.toNat=c;simp[h];simp only[oj h,ol h,Bool.false_or];exact g (i+1)
      exact this _ 0
     simp only[wx,yo];rw[e];refine Q2u (λ_ i=>(i:Int)) (λ_ (x:UInt8) (_:Unit)=>if x.toNat=c then .inr (3:Int) else .inl ()) (λ_=>()) _ (λ_ _=>True) sgnL () (λi x b d _=>⟨?_,λ_ _=>trivial⟩) (λb _=>by simp[bifd,sgnL]) (λb _=>rfl) trivial (by simp[sgnL];omega);have hi:=J8 d;have a:i<([43,45,42,47,94,40,41,91,93,44,59,61]:List UInt8).length:=hi;have f:getS [43,45,42,47,94,40,41,91,93,44,59,61] (i:Int)=some x.toNat:=by
      rw[Qz5];have:([43,45,42,47,94,40,41,91,93,44,59,61]:List UInt8)[i]?=some x:=d;rw[this];rfl
     simp only[bifd,sbind,oq (show(i:Int)<(([43,45,42,47,94,40,41,91,93,44,59,61]:List UInt8).length:Int) by omega),f];by_cases h:x.toNat=c;rw[oq h,oq h];rfl;rw[ol h,ol h,w1 (by simp at a;omega)];rfl
def padL(l:Nat)(a:List Nat):List Nat:=a++List.replicate (l - a.length) 0
theorem Jbv{l:Nat}{a:List Nat}(h:a.length<=l):(padL l a).length=l:=by unfold padL;simp;omega
theorem Jbw(l:Nat)(a:List Nat):val (padL l a)=val a:=by unfold padL;rw[Y0,Qif];simp
theorem Jdy{l:Nat}{a:List Nat}(h:Wd a):Wd (padL l a):=Kt.2 ⟨h,Qpj om⟩
theorem Jbx{l:Nat}{a:List Nat}{j:Nat}(h:j<(padL l a).length):(padL l a)[j]=a.getD j 0:=by unfold padL at h |-;by_cases d:j<a.length;rw[List.getElem_append_left d];simp[d];rw[List.getElem_append_right om,List.getElem_replicate];simp[xz (show a.length<=j by omega)]
theorem Qqg{n:Nat}{a b:List Nat}(hn:big<=n)(w:a.length<=4611686018427387904)(hb:b.length<=4611686018427387904)(m:Wd a)(p:Wd b):Z5 n a b=some (cmpI (val a) (val b)):=by
 unfold Z5;obtain⟨l,x⟩:∃ l:Nat,l=max a.length b.length:=⟨_,rfl⟩
 have e:max (a.length:Int) (b.length:Int)=(l:Int):=om
 have la:=Jbv (l:=l) (a:=a) om;have lb:=Jbv (l:=l) (a:=b) om;have u:=Jdy (l:=l) m;have v:=Jdy (l:=l) p;have q:∀ j (h:j<(padL l a).length),(padL l a)[j]=a.getD j 0:=λj h=>Jbx h;have r:∀ j (h:j<(padL l b).length),(padL l b)[j]=b.getD j 0:=λj h=>Jbx h;rw[e,<-Jbw l a,<-Jbw l b];generalize padL l a=a' at *;generalize padL l b=b' at *;unfold big at hn;rw[w64 om om];refine Qb0 (λs=>(s+1).toNat) (λs=>∃ k:Nat,s=(k:Int) - 1/\k<=l/\a'.drop k=b'.drop k) (λt=>(t=.go ()/\a'=b')\/(t=.out (-1)/\val a'<val b')\/(t=.out 1/\val b'<val a')) ⟨l,rfl,xm _,by rw[xl om,xl om]⟩ om ?_ ?_;rintro s ⟨k,rfl,hk,g⟩;simp only[bifd];by_cases h0:0<k;obtain⟨j,rfl⟩:∃ j,k=j+1:=⟨k - 1,om⟩
 have f:j<a'.length:=om
 have d:j<b'.length:=om
 rw[oq om,show((j+1:Nat):Int) - 1=(j:Nat) by omega,Qfr,sbind,Qfr,sbind,<-q j f,<-r j d];by_cases g1:a'[j]<b'[j];right;rw[oq g1];exact⟨_,rfl,.inr (.inl ⟨rfl,Q09 u f d g g1⟩)⟩;rw[ol g1];by_cases i:b'[j]<a'[j];right;rw[oq i];exact⟨_,rfl,.inr (.inr ⟨rfl,Q09 v d f g.symm i⟩)⟩;left;rw[ol i,w64 om om];refine⟨_,rfl,⟨j,rfl,om,?_⟩,om⟩;rw[xe f,xe d,g,show a'[j]=b'[j] by omega];right;obtain rfl:k=0:=om
 rw[ol om];exact⟨_,rfl,.inl ⟨rfl,by simpa using g⟩⟩;rintro t (⟨rfl,h⟩ | ⟨rfl,h⟩ | ⟨rfl,h⟩);rw[Wv,h];simp[cmpI];rw[Qap,cmpI,oq h];rw[Qap,cmpI,ol om,oq h]
theorem Jby{x y c:Nat}(f:x<4294967296)(g:y<4294967296)(e:c<=1):∃ d a,d<4294967296/\a<=1/\d+y+c=x+4294967296*a /\
 ∀ {R:Type}(k:Nat×Nat->R),(if x<(y+c)%18446744073709551616 then k (1,(x+4294967296)%18446744073709551616) else k (0,x))=k (a,x+4294967296*a)/\(x+4294967296*a+18446744073709551616 - (y+c)%18446744073709551616)%18446744073709551616%4294967296=d:=by
 rw[xw (show y+c<18446744073709551616 by omega)];by_cases h:x<y+c;exact⟨x+4294967296 - (y+c),1,om,om,om,λk=>⟨by rw[oq h,xw om],om⟩⟩;exact⟨x - (y+c),0,om,om,om,λk=>⟨by rw[ol h];rfl,om⟩⟩
theorem Q8c{P s o d e:Nat}(h:o+e=d+P*s)(f:e<=d)(g:o<P):s=0:=by rcases wo s with a | a;exact a;exfalso;have:P*1<=P*s:=uq _ a;omega
theorem Qw0{n:Nat}{a b:List Nat}(hn:big<=n)(K:a.length<17592186044416)(hb:b.length<17592186044416)(w:Wd a)(x:Wd b)(v:val b<=val a):Y4 n a b=some (toL (val a - val b)):=by
 unfold Y4;unfold big at hn;obtain⟨l,L⟩:∃ l:Nat,l=max a.length b.length:=⟨_,rfl⟩
 have g:max (a.length:Int) (b.length:Int)=(l:Int):=om
 rw[g,Qfd om om,sbind]
 refine Qb0 (λs=>l - s.2.2.toNat) (λs=>∃(k:Nat) (o:List Nat),s.2.2=k/\k<=l/\s.1=o++List.replicate (l - k) 0/\o.length=k/\Wd o/\s.2.1<=1/\val o+val (b.take k)=val (a.take k)+bp k*s.2.1)
  (λt=>t.length=l/\Wd t/\val t=val a - val b) ⟨0,[],rfl,om,oc,rfl,W3,oc,by simp[val,Qbd]⟩ (by simp only[];omega) ?_ ?_
 rintro⟨q,s,i⟩ ⟨k,o,r,y,p,e,u,A,f⟩;simp only at r p A f;subst r p;simp only[sbind,bifd,jn_eq];by_cases hk:k<l;left;have H:=Qmd w k;have I:=Qmd x k;obtain⟨d,J,g1,B,g3,g4⟩:=Jby H I A;rw[oq om,Qfr,sbind,Qfr,sbind];have C:=(g4 (λm:Nat×Nat=>(getI (o++List.replicate (l - k) 0) (k:Int)).bind λ_=>some (Lp.go (σ:=List Nat×Nat×Int) (τ:=List Nat) ((o++List.replicate (l - k) 0).set (Int.toNat (k:Int)) ((m.2+18446744073709551616 - (b.getD k 0+s)%18446744073709551616)%18446744073709551616%4294967296),m.1,wrap64 ((k:Int)+1))))).1;have E:=(g4 (λ_=>())).2;rw[C];simp only[];rw[E];obtain⟨j,G⟩:∃ j,l - k=j+1:=⟨l - k - 1,om⟩
 rw[G,vg,Wq e,sbind,Zf e,w64 om om];refine⟨_,rfl,⟨k+1,o++[d],by simp only[];omega,om,?_,by simp[e],Kt.2 ⟨u,K0.2 ⟨g1,W3⟩⟩,B,?_⟩,by simp only[];omega⟩;simp only[];rw[show l - (k+1)=j by omega];simp;simp only[];rw[Yr,Yr,Vm,e,Wx];exact Q2v _ _ _ _ _ _ _ _ _ g3 f;right;obtain rfl:k=l:=om
 rw[ol om];refine⟨_,rfl,by simp[e],by simpa using u,?_⟩;rw[xb om,xb om] at f;have F:s=0:=Q8c f v (by rw[<-e];exact Zb u);rw[F,vo,xp] at f;simp only[gc,List.replicate_zero,ua];omega;rintro t ⟨r,y,p⟩;rw[Yv (by unfold big;exact hn) om,sbind,<-K1 y,p]
theorem Qqh{k l:Nat}(h:k<l):grd (winS (k:Int) l)=some ():=grd_t (by unfold winS;simp;omega)
theorem Quv{n:Nat}{p a q b:List Nat}(hn:big<=n)(K:p.length+a.length+q.length<17592186044416)(hb:b.length<=a.length)(A:Wd a)(B:Wd b)(y:val b<=val a):
 ∃ r,Yh n (p++a++q) p.length a.length b=some (p++r++q)/\r.length=a.length/\Wd r/\val r=val a - val b:=by
 have key:∃ r,Yh n (p++a++q) p.length a.length b=some r/\∃ j,r=p++j++q/\j.length=a.length/\Wd j/\val j=val a - val b:=by
  unfold Yh;unfold big at hn
  refine Qhy (λs=>a.length - s.2.2.toNat) (λs=>∃(k:Nat) (o:List Nat),s.2.2=k/\k<=a.length/\s.1=p++o++(a.drop k++q)/\o.length=k/\Wd o/\s.2.1<=1/\val o+val (b.take k)=val (a.take k)+bp k*s.2.1)
   (λt=>∃ o,t=p++o++q/\o.length=a.length/\Wd o/\val o=val a - val b) ⟨0,[],rfl,om,oc,rfl,W3,oc,by simp[val,Qbd]⟩ (by simp only[];omega) ?_ ?_
  rintro⟨w,s,i⟩ ⟨k,o,e,v,f,g,l,C,m⟩;simp only at e f C m;subst e f;simp only[sbind,bifd,jn_eq];by_cases hk:k<a.length;left;have H:=Qb1 A hk;have I:=Qmd B k;obtain⟨d,J,g1,E,g3,g4⟩:=Jby H I C;rw[oq om,Qqh hk,sbind,show((p.length:Int)+(k:Int))=((p.length+k:Nat):Int) by omega,xe hk,yj,Wq oh,sbind,Qfr,sbind];have x:=(g4 (λu:Nat×Nat=>(getI (p++o++a[k]::(a.drop (k+1)++q)) ((p.length+k:Nat):Int)).bind λ_=>some (Lp.go (σ:=List Nat×Nat×Int) (τ:=List Nat) ((p++o++a[k]::(a.drop (k+1)++q)).set (Int.toNat ((p.length+k:Nat):Int)) ((u.2+18446744073709551616 - (b.getD k 0+s)%18446744073709551616)%18446744073709551616%4294967296),u.1,wrap64 ((k:Int)+1))))).1;have F:=(g4 (λ_=>())).2;rw[Wq oh] at x;simp only[sbind] at x |-;rw[x,F,Zf oh,w64 om om];refine⟨_,rfl,⟨k+1,o++[d],by simp only[];omega,om,oc,by simp[g],Kt.2 ⟨l,K0.2 ⟨g1,W3⟩⟩,E,?_⟩,by simp only[];omega⟩;simp only[];rw[Yr,We hk,Vm,Vm,xi,yy om,g,Wx];exact Q2v _ _ _ _ _ _ _ _ _ g3 m;right;obtain rfl:k=a.length:=om
  rw[ol om];refine⟨_,rfl,o,oc,g,l,?_⟩;rw[xb om,xb om] at m;have G:s=0:=Q8c m y (by rw[<-g];exact Zb l);rw[G,vo,xp] at m;omega;rintro t ⟨o,rfl,e,v,f⟩;exact⟨_,rfl,o,rfl,e,v,f⟩
 obtain⟨r,e,j,v,f,g,l⟩:=key;exact⟨j,by rw[e,v],f,g,l⟩
theorem Ji0(P y c a d V A m:Nat)(e:d+4294967296*a=2*y+c)(h:V+P*c=2*A+m):V+P*d+P*4294967296*a=2*(A+P*y)+m:=by grind
theorem Qru{n:Nat}{a:List Nat}{b:Bool}(hn:big<=n)(x:a.length<17592186044416)(p:Wd a):
 ∃ r c,Yx n a b=some r/\r.length=a.length/\Wd r/\val r+bp a.length*c=2*val a+b.toNat:=by
 have key:∃ r,Yx n a b=some r/\∃ c,r.length=a.length/\Wd r/\val r+bp a.length*c=2*val a+b.toNat:=by
  unfold Yx;unfold big at hn;have e:∀ k:Nat->Option (List Nat),jn (λ(u:(Nat)->Option _)=>bif b then (u 1) else (u 0)) k=k b.toNat:=by intro k;cases b<;>rfl
  rw[e]
  refine Qhy (λs=>a.length - s.2.2.toNat) (λs=>∃(k:Nat) (o:List Nat),s.2.2=k/\k<=a.length/\s.1=o++a.drop k/\o.length=k/\Wd o/\s.2.1<=1/\val o+bp k*s.2.1=2*val (a.take k)+b.toNat)
   (λt=>∃ c,t.length=a.length/\Wd t/\val t+bp a.length*c=2*val a+b.toNat) ⟨0,[],rfl,om,oc,rfl,W3,by simp only[];cases b<;>decide,by simp[val,Qbd]⟩ (by simp only[];omega) ?_ ?_
  rintro⟨w,s,i⟩ ⟨k,o,d,g,j,l,q,v,m⟩;simp only at d j v m;subst d j;simp only[sbind,bifd];have f:(o++a.drop k).length=a.length:=oh
  by_cases hk:k<a.length;left;have y:=Qb1 p hk;rw[oq (by rw[f];omega),xe hk,Wq l,sbind,sbind,sbind,Zf l,w64 om om];refine⟨_,rfl,⟨k+1,o++[(a[k]*2%4294967296+s)%4294967296],by simp only[];omega,om,oc,by simp[l],Kt.2 ⟨q,K0.2 ⟨om,W3⟩⟩,by simp only[];omega,?_⟩,by simp only[];omega⟩;simp only[];rw[We hk,Vm,Vm,xi,yy om,l,Wx];exact Ji0 _ _ _ _ _ _ _ _ om m;right;obtain rfl:k=a.length:=om
  rw[ol (by rw[f];omega)];rw[xb om] at m;exact⟨_,rfl,s,oh,by simpa using q,by simpa using m⟩;rintro t ⟨c,d,g,j⟩;exact⟨_,rfl,c,d,g,j⟩
 obtain⟨r,d,c,g⟩:=key;exact⟨r,c,d,g⟩
theorem Ji1(w t r:Nat)(hr:r<32):(w+4294967296*t) / 2 ^ r%2=w / 2 ^ r%2:=by
 have e:(4294967296:Nat)=2 ^ r*(2*2 ^ (31 - r)):=by rw[<-uo,vu (2 ^ r) 2,uo,<-wc,show r+(31 - r)=31 by omega]
 rw[e,uo,jo _ _ (uv r),uo 2,Nat.add_mul_mod_self_left]
theorem Jdz{a:List Nat}(d:Wd a)(q r:Nat)(hr:r<32):val a / 2 ^ (32*q+r)%2=a.getD q 0 / 2 ^ r%2:=by rw[wc,<-Qnk,<-we,Que d];by_cases h:q<a.length;rw[xe h];simp only[val];rw[Ji1 _ _ _ hr];simp[h];rw[xl om];simp[val,xz (show a.length<=q by omega)]
theorem Q6y{n i:Nat}{a:List Nat}(hn:big<=n)(hi:i<4611686018427387904)(e:Wd a):Qdl n a (i:Int)=some (decide (val a / 2 ^ i%2=1)):=by unfold Qdl;have hd:Int.tdiv (i:Int) 32=((i / 32:Nat):Int):=rfl;have d:Int.tmod (i:Int) 32=((i%32:Nat):Int):=rfl;have hb:=Jdz e (i / 32) (i%32) (vn _ oz);rw[show 32*(i / 32)+i%32=i by omega] at hb;rw[hd,d,w64 om om,hb];simp only[jn_eq,bifd];rw[ol om];by_cases h:i / 32<a.length;rw[ol om,Qbz h,sbind];rw[V3 (λk=>(a[i / 32] / 2 ^ k,(k:Int))) (i%32) (a[i / 32] / 2 ^ (i%32))];simp[h];intro k hk;simp only[];rw[oq om,we,<-jd,w1 om];simp only[];rw[ol om];unfold big at hn;omega;simp;rw[oq om];simp[xz (show a.length<=i / 32 by omega)]
theorem Qqi{n:Nat}{a:List Nat}(hn:big<=n)(m:a.length<17592186044416)(e:Wd a):Z6 n a=some (blen (val a):Int):=by
 unfold Z6;rw[w64 om om];have h0:val a<2 ^ (32*a.length):=by rw[<-Qnk];exact Zb e
 refine Qb0 (λs=>s.toNat) (λs=>∃ k:Nat,s=k/\k<=32*a.length/\val a<2 ^ k) (λt=>t=(blen (val a):Int)) ⟨32*a.length,om,xm _,h0⟩ (by unfold big at hn;omega) ?_ ?_;rintro s ⟨k,rfl,hk,d⟩;simp only[jn_eq,bifd];by_cases h:0<k;obtain⟨j,rfl⟩:∃ j,k=j+1:=⟨k - 1,om⟩
 rw[oq om,w64 om om,show((j+1:Nat):Int) - 1=(j:Nat) by omega,Q6y hn om e,sbind];by_cases hb:val a / 2 ^ j%2=1;right;rw[oo hb,ov,bifF];refine⟨_,rfl,?_⟩;have f:2 ^ j<=val a:=by rcases xt (val a) (2 ^ j) with g | g;rw[ww g] at hb;cases hb;exact g
 rw[Q6h f d];left;rw[oj hb,ow,bifT];refine⟨_,rfl,⟨j,rfl,om,?_⟩,om⟩;have i:val a / 2 ^ j<2:=dl (by rw[<-jd];exact d);have l:val a / 2 ^ j=0:=by clear d h0;generalize val a / 2 ^ j=z at *;omega
 rcases xt (val a) (2 ^ j) with g | g;exact g;have:=Nat.div_pos g (uv j);omega;right;obtain rfl:k=0:=om
 rw[ol om,bifF];refine⟨_,rfl,?_⟩;have:val a=0:=by simpa using d
 rw[this,Qjp];rintro t rfl;rfl
theorem Q8d{P c x:Nat}(h:P*c<=x)(d:x<P):c=0:=by rcases wo c with a | a;exact a;exfalso;have:P*1<=P*c:=uq _ a;omega
theorem Ji2(x j:Nat):x / 2 ^ j=2*(x / 2 ^ (j+1))+x / 2 ^ j%2:=by rw[jd,<-we];generalize x / 2 ^ j=z;omega
theorem Jg5{a b q r:Nat}(h:a=q*b+r)(hr:r<b):q=a / b/\r=a%b:=by
 have h0:0<b:=om
 rw[h,vu q b,Nat.mul_add_div h0,Nat.mul_add_mod,ww hr,xw hr];exact⟨om,rfl⟩
theorem Jg6{A a q d r f b t:Nat}(e:A=2*a+t)(h:a=q*b+r)(g:d=2*q)(i:f=2*r+t):A=d*b+f:=by subst g i;grind
theorem Jg7{A g q i j r a f b t:Nat}(e:A=2*g+t)(h:g=q*b+r)(k:i=2*q)(m:a=2*r+t)(l:j=i+1)(n:f=a - b)(p:b<=a):A=j*b+f:=by
 obtain⟨d,rfl⟩:∃ d,a=b+d:=⟨a - b,om⟩
 have:f=d:=om
 subst this l k;grind
theorem Jd0{x y:Nat}:0<=cmpI x y↔y<=x:=by unfold cmpI;split;constructor<;>intro h<;>omega;split<;>constructor<;>intro h<;>omega
theorem Jbz{k:Nat}(h:k<32):(1*2 ^ min (Int.toNat (k:Int)) 32)%4294967296=2 ^ k:=by rw[yh,yy om,Nat.one_mul];exact xw (xv (Nat.pow_lt_pow_right oz h) oz)
theorem Qyu{a:List Nat}(f:Wd a):blen (val a)<=32*a.length:=by by_cases h:val a=0;rw[h,Qjp];omega;have e:=Qqb h;have d:=Zb f;rw[Qnk] at d;have g:=(jq (show 1<2 by decide)).1 (yu e d);omega
theorem Q6z{n:Nat}{a b:List Nat}(hn:big<=n)(ha:a.length<17592186044410)(hb:b.length<17592186044410)(e:Wd a)(m:Wd b)(h0:val b≠0):
 Qdm n a b=some (toL (val a / val b),toL (val a%val b)):=by
 unfold Qdm;have X:=Qyu e;have W:=Zb m;have hva:=Zb e;rw[w64 (x:=(b.length:Int)+1) om om,show((b.length:Int)+1)=((b.length+1:Nat):Int) by omega,Qfd om om,sbind,Qfd om om,sbind,Qqi hn om e,sbind,w64 om om]
 refine Qb0 (λs=>(s.2.2+1).toNat) (λs=>∃ k:Nat,s.2.2=(k:Int) - 1/\k<=blen (val a)/\s.1.length=a.length/\s.2.1.length=b.length+1/\Wd s.1/\Wd s.2.1/\val s.2.1<val b/\val a / 2 ^ k=val s.1*val b+val s.2.1)
  (λt=>t.1.length=a.length/\t.2.length=b.length+1/\Wd t.1/\Wd t.2/\val t.2<val b/\val a=val t.1*val b+val t.2) ⟨blen (val a),rfl,xm _,oc,oc,Qpj oz,Qpj oz,by simp only[];rw[Qif];omega,by simp only[];rw[Qif,Qif,ww Qsb];simp⟩ (by simp only[];unfold big at hn;omega) ?_ ?_
 rintro⟨q,r,i⟩ ⟨k,H,L,l,v,w,y,M,C⟩;simp only at H l v w y M C;subst H;simp only[jn_eq,sbind];by_cases hk:0<k;left;obtain⟨j,rfl⟩:∃ j,k=j+1:=⟨k - 1,om⟩
 have hd:Int.tdiv (j:Int) 32=((j / 32:Nat):Int):=rfl;have Y:Int.tmod (j:Int) 32=((j%32:Nat):Int):=rfl;have Q:j / 32<a.length:=om
 have hp:(1*2 ^ min (Int.toNat ((j%32:Nat):Int)) 32)%4294967296=2 ^ (j%32):=Jbz (vn _ oz);have f:=Jdz e (j / 32) (j%32) (vn _ oz);rw[show 32*(j / 32)+j%32=j by omega,show a.getD (j / 32) 0=a[j / 32] by simp[Q]] at f;have Z:0<2 ^ (j%32):=uv _;obtain⟨S,c1,U,d2,I,B⟩:=Qru (b:=decide (a[j / 32] / 2 ^ (j%32)%2=1)) hn (show r.length<17592186044416 by omega) y;obtain⟨q2,T,J,G,K,u⟩:=Qru (b:=false) hn (show q.length<17592186044416 by omega) w;have E:=Ji2 (val a) j;have ht:(decide (a[j / 32] / 2 ^ (j%32)%2=1)).toNat=val a / 2 ^ j%2:=by
  rw[f];generalize a[j / 32] / 2 ^ (j%32)=z;by_cases g:z%2=1;rw[oo g,g];rfl;rw[oj g];simp only[Bool.toNat_false];omega
 rw[ht] at B;have ht2:val a / 2 ^ j%2<2:=vn _ oz;have O:val a / 2 ^ j<=val a:=ja _ _;generalize N:val a / 2 ^ j=A at *;generalize V:val a / 2 ^ (j+1)=A2 at *;generalize A%2=t at *;have hqb:val q<=val q*val b:=Nat.le_mul_of_pos_right _ om;have c1z:c1=0:=by rw[v,Wx] at B;refine Q8d (P:=bp b.length*4294967296) (x:=2*val r+t) om ?_;omega
 have c2z:T=0:=by rw[l] at u;refine Q8d (P:=bp a.length) (x:=2*val q+0) (by simp only[Bool.toNat_false] at u;omega) om
 subst c1z c2z;simp only[vo,xp,Bool.toNat_false] at B u;simp only[show((j+1:Nat):Int) - 1=(j:Nat) by omega,hd,Y,w64 (x:=((j / 32:Nat):Int)) om om,hp];rw[oo (show(0:Int)<=(j:Int) by omega),bifT,Qbz Q,sbind,grd_t (oo (dr _)),sbind,grd_t (bne_iff_ne.2 om),sbind,U,sbind,J,sbind,Qqg hn om om I m,sbind,bifd];by_cases d:val b<=val S;rw[oq (Jd0.2 d)];obtain⟨r3,R,l2,l3,l4⟩:=Quv (p:=[]) (q:=[]) hn oh (show b.length<=S.length by omega) I m d;simp only[yw,ua,ye] at R;rw[R,sbind];cases q2 with
 | nil=>simp at G;omega
 | cons x F=>
   obtain⟨x1,x2⟩:=K0.1 K;have hv:val (x::F)=x+4294967296*val F:=rfl;rw[hv] at u;rw[show getI (x::F) 0=some x from rfl,sbind,sbind,show(x::F).set (Int.toNat 0) ((x+1)%4294967296)=(x+1)%4294967296::F from rfl,w64 om om];have hx:(x+1)%4294967296=x+1:=om
   rw[hx];refine⟨_,rfl,⟨j,rfl,om,by simpa [l] using G,by simp only[];omega,K0.2 ⟨om,x2⟩,l3,by simp only[];omega,?_⟩,by simp only[];omega⟩;simp only[];rw[N];exact Jg7 E C u B (by simp only[val];omega) l4 d
 rw[ol (λh=>d (Jd0.1 h)),w64 om om];refine⟨_,rfl,⟨j,rfl,om,by simp only[];omega,by simp only[];omega,K,I,by simp only[];omega,?_⟩,by simp only[];omega⟩;simp only[];rw[N];exact Jg6 E C u B;right;obtain rfl:k=0:=om
 rw[oj om,bifF];rw[Nat.pow_zero,Nat.div_one] at C;exact⟨_,rfl,l,v,w,y,M,C⟩;rintro⟨q,r⟩ ⟨H,L,l,v,w,y⟩;simp only at H L l v w y;obtain⟨J,G⟩:=Jg5 y w;simp only[];rw[Yv hn om,sbind,Yv hn om,sbind,<-K1 l,<-K1 v,<-J,<-G]
theorem Ji3{x c y:Nat}(h:x=2 ^ c*y)(a:y%2=0):x=2 ^ (c+1)*(y / 2):=by rw[jd,uo,h];congr 1;omega
theorem Jg8{x c y k:Nat}(h:x=2 ^ c*y)(h0:y≠0)(d:x<2 ^ k):c<k:=by have a:2 ^ c*1<=2 ^ c*y:=uq _ om;exact(jq (show 1<2 by decide)).1 (show 2 ^ c<2 ^ k by omega)
theorem Q27{n x:Nat}(hn:big<=n)(h0:x≠0)(k:x<4294967296):∃ z o:Nat,Qaj n x=some (z:Int)/\z<32/\x=2 ^ z*o/\o%2=1:=by
 have f:x<2 ^ 32:=k;have key:∃ r:Int,Qaj n x=some r/\∃ z o:Nat,r=z/\z<32/\x=2 ^ z*o/\o%2=1:=by unfold Qaj;rw[bifd,ol h0];refine Qhy (λs=>s.1) (λs=>∃ c:Nat,s.2=c/\x=2 ^ c*s.1/\s.1≠0) (λt=>∃ z o:Nat,t=z/\z<32/\x=2 ^ z*o/\o%2=1) ⟨0,rfl,oc,h0⟩ (by simp only[];unfold big at hn;omega) ?_ ?_;rintro⟨y,i⟩ ⟨c,d,a,e⟩;simp only at d a e;subst d;have j:=Jg8 a e f;simp only[bifd];by_cases h:y%2=0;left;rw[oq h,w1 om];exact⟨_,rfl,⟨c+1,rfl,Ji3 a h,by simp only[];omega⟩,by simp only[];omega⟩;right;rw[ol h];exact⟨_,rfl,c,y,rfl,j,a,om⟩;rintro t ⟨z,o,rfl,d,a,e⟩;exact⟨_,rfl,z,o,rfl,d,a,e⟩
 obtain⟨r,d,z,o,rfl,a,e,g⟩:=key;exact⟨z,o,d,a,e,g⟩
theorem Qw1(a:List Nat):Qbj a=some (decide (a=[1])):=by
 unfold Qbj;simp only[jn_eq,bifd]
 match a with
 | []=>rfl
 | [x]=>rw[oq (show(([x]:List Nat).length:Int)=1 from rfl)];exact um some (gm.2 oc)
 | x::y::t=>rw[ol oh];simp
theorem mid2{α:Type}(l:List α)(x y:α)(r:List α):l++x::y::r=(l++[x])++y::r:=oc
theorem Jg9{a d V z:Nat}(l:z<32)(k:a<4294967296)(j:d<4294967296):
 (a+4294967296*(d+4294967296*V)) / 2 ^ z=((d*4294967296)%18446744073709551616+a)%18446744073709551616 / 2 ^ (min z 64)%4294967296+4294967296*((d+4294967296*V) / 2 ^ z):=by
 rw[xw (show d*4294967296<18446744073709551616 by omega),xw (show d*4294967296+a<18446744073709551616 by omega),yy om];have g:(a+4294967296*(d+4294967296*V)) / 2 ^ z / 4294967296=(d+4294967296*V) / 2 ^ z:=by rw[we,vu (2 ^ z) 4294967296,<-we];congr 1;omega
 have i:(a+4294967296*(d+4294967296*V)) / 2 ^ z%4294967296=(d*4294967296+a) / 2 ^ z%4294967296:=by
  have e:(4294967296:Nat)=2 ^ z*2 ^ (32 - z):=by rw[<-wc,show z+(32 - z)=32 by omega]
  have f:a+4294967296*(d+4294967296*V)=(d*4294967296+a)+2 ^ z*(4294967296*(2 ^ (32 - z)*V)):=by rw[Nat.mul_left_comm (2 ^ z),<-uo (2 ^ z),<-e];omega
  rw[f,jo _ _ (uv z),Nat.add_mul_mod_self_left]
 rw[<-g,<-i];omega
theorem Qnx{a:List Nat}{k:Nat}(h:k<a.length):val (a.drop k)=a[k]+4294967296*val (a.drop (k+1)):=by rw[xe h];rfl
theorem Q9g{a:List Nat}{k:Nat}:val (a.drop k)=a.getD k 0+4294967296*val (a.drop (k+1)):=by by_cases h:k<a.length;rw[Qnx h];simp[h];rw[xl om,xl om];simp[val,xz (show a.length<=k by omega)]
theorem Jha(P w d V a A:Nat)(e:V=w+4294967296*d)(h:a+P*V=A):a+P*w+P*4294967296*d=A:=by grind
theorem Q47{n z:Nat}{p a q:List Nat}(hn:big<=n)(N:p.length+a.length+q.length<17592186044416)(v:Wd a)(M:z<32):
 ∃ r k,Qa4 n (p++a++q) p.length a.length (z:Int)=some (p.length,k,p++r++q)/\r.length=a.length/\Wd r/\k<=r.length/\r.take k=toL (val a / 2 ^ z):=by
 have key:∃ w,Qa4 n (p++a++q) p.length a.length (z:Int)=some w/\∃ r k,w=(p.length,k,p++r++q)/\r.length=a.length/\Wd r/\k<=r.length/\r.take k=toL (val a / 2 ^ z):=by
  unfold Qa4
  refine Qhy (λs=>a.length - s.2.toNat) (λs=>∃(k:Nat) (o:List Nat),s.2=k/\k<=a.length/\s.1=p++o++(a.drop k++q)/\o.length=k/\Wd o/\val o+bp k*(val (a.drop k) / 2 ^ z)=val a / 2 ^ z)
   (λt=>∃ o,t=p++o++q/\o.length=a.length/\Wd o/\val o=val a / 2 ^ z) ⟨0,[],rfl,om,oc,rfl,W3,by simp[val,Qbd]⟩ (by simp only[];unfold big at hn;omega) ?_ ?_
  rintro⟨w,i⟩ ⟨k,o,e,l,y,C,H,A⟩;simp only at e y A;subst e y;simp only[bifd,jn_eq,sbind];by_cases hk:k<a.length;left;have J:=Qb1 v hk;have L:=Qmd v (k+1);have m:=Jg9 (V:=val (a.drop (k+1+1))) M J L;have u:∀(K:Nat->Option (Lp (List Nat×Int) (List Nat))),(if wrap64 ((k:Int)+1)<(a.length:Int) then (grd (winS (wrap64 ((k:Int)+1)) a.length)).bind λ_=>(getI (p++o++(a.drop k++q)) ((p.length:Int)+wrap64 ((k:Int)+1))).bind λF=>K F else K 0)=K (a.getD (k+1) 0):=by
   intro K;rw[w1 om];by_cases f:k+1<a.length;rw[oq om,Qqh f,sbind,show((p.length:Int)+((k+1:Nat):Int))=((p.length+k+1:Nat):Int) by omega,xe hk,xe f,yj,yj,mid2,Wq oh,sbind];simp[f];rw[ol om];simp[xz (show a.length<=k+1 by omega)]
  rw[oq om,u (λE=>(grd (winS (k:Int) a.length)).bind λ_=>(getI (p++o++(a.drop k++q)) ((p.length:Int)+(k:Int))).bind λG=>(grd (decide (0<=(z:Int)))).bind λ_=>(grd (winS (k:Int) a.length)).bind λ_=>(getI (p++o++(a.drop k++q)) ((p.length:Int)+(k:Int))).bind λ_=>some (Lp.go ((p++o++(a.drop k++q)).set (Int.toNat ((p.length:Int)+(k:Int))) (((E*4294967296)%18446744073709551616+G)%18446744073709551616 / 2 ^ (min (Int.toNat (z:Int)) 64)%4294967296),wrap64 ((k:Int)+1))))];rw[Qqh hk,sbind,show((p.length:Int)+(k:Int))=((p.length+k:Nat):Int) by omega,xe hk,yj,Wq oh,sbind,grd_t (oo (dr _)),sbind,sbind,sbind,Zf oh,w1 om,yh];have x:(a.getD (k+1) 0*4294967296%18446744073709551616+a[k])%18446744073709551616 / 2 ^ min z 64%4294967296<4294967296:=vn _ oz;generalize (a.getD (k+1) 0*4294967296%18446744073709551616+a[k])%18446744073709551616 / 2 ^ min z 64%4294967296=w at m x |-;refine⟨_,rfl,⟨k+1,o++[w],rfl,om,oc,by simp[C],Kt.2 ⟨H,K0.2 ⟨x,W3⟩⟩,?_⟩,by simp only[];omega⟩;rw[Vm,C,Wx];refine Jha _ _ _ _ _ _ ?_ A;rw[Qnx hk,Q9g (k:=k+1)];exact m;right;obtain rfl:k=a.length:=om
  rw[ol om];rw[xl (xm _)] at A;exact⟨_,rfl,o,oc,C,H,by simpa [val] using A⟩;rintro t ⟨o,rfl,e,l,y⟩;refine Qhy (λs=>s.2) (λs=>s.1=p.length/\s.2<=o.length/\trimZ o=trimZ (o.take s.2)) (λt=>t.1=p.length/\t.2<=o.length/\trimZ o=o.take t.2) ⟨rfl,by simp only[];omega,by simp only[];rw[<-e,xh]⟩ (by simp only[];unfold big at hn;omega) ?_ ?_;rintro⟨s1,k⟩ ⟨rfl,g,g3⟩;simp only at g g3;simp only[jn_eq,bifd];by_cases h0:0<k;obtain⟨j,rfl⟩:∃ j,k=j+1:=⟨k - 1,om⟩
  have B:j<o.length:=om
  rw[We B] at g3;rw[oq om,w64 om om,show((j+1:Nat):Int) - 1=(j:Nat) by omega,Qqh om,sbind,show((p.length:Int)+(j:Int))=((p.length+j:Nat):Int) by omega];have I:getI (p++o++q) ((p.length+j:Nat):Int)=some o[j]:=by rw[Qgf,xf,yg om,wt,yp B,oi B]
  rw[I,sbind];by_cases d:o[j]=0;left;rw[oq d,grd_t (by unfold winC;simp;omega),sbind];exact⟨_,rfl,⟨oc,by simp only[];omega,by simp only[];rw[g3,d,Qvq];simp⟩,by simp only[];omega⟩;right;rw[ol d];exact⟨_,rfl,rfl,g,by simp only[];rw[g3,We B,Q4m _ d]⟩;right;obtain rfl:k=0:=om
  rw[ol om,bifF];exact⟨_,rfl,rfl,by simp only[];omega,by simp only[];rw[g3];simp[trimZ]⟩;rintro⟨s1,k⟩ ⟨rfl,g,g3⟩;simp only at g g3;exact⟨_,rfl,o,k,rfl,e,l,g,by rw[<-g3,<-K1 l,y]⟩
 obtain⟨w,e,r,k,rfl,l⟩:=key;exact⟨r,k,e,l⟩
def Win(X:List Nat)(o l:Nat)(b:List Nat):Prop:=∃ p q,X=p++b++q/\p.length=o/\b.length=l
theorem Q1d{X:List Nat}{o l:Nat}{b:List Nat}(h:Win X o l b):subW X o l=some b:=by obtain⟨p,q,rfl,rfl,rfl⟩:=h;unfold subW;rw[oq oc];simp
theorem Jd1(b:List Nat):Win b 0 b.length b:=⟨[],[],oc,rfl,rfl⟩
theorem oddw{w z o R:Nat}(g:z<32)(e:w=2 ^ z*o)(f:o%2=1):(w+4294967296*R) / 2 ^ z%2=1/\w+4294967296*R=2 ^ z*((w+4294967296*R) / 2 ^ z):=by
 have a:(4294967296:Nat)=2 ^ z*(2*2 ^ (31 - z)):=by rw[<-uo,vu (2 ^ z) 2,uo,<-wc,show z+(31 - z)=31 by omega]
 have d:w+4294967296*R=2 ^ z*(o+2*(2 ^ (31 - z)*R)):=by rw[gt,<-e,<-uo 2,<-uo (2 ^ z),<-a]
 rw[d,Nat.mul_div_cancel_left _ (uv z)];exact⟨om,rfl⟩
theorem Qqj{n o l:Nat}{X a:List Nat}(hn:big<=n)(K:X.length<17592186044416)(L:Win X o l a)(v:Wd a)(h0:val a≠0):
 ∃ f l' t X',X0 n X o l=some (f,l',((t:Nat):Int),X')/\X'.length=X.length/\∃ u,val a=2 ^ t*u/\u%2=1/\Win X' f l' (toL u)/\t<=32*a.length:=by
 obtain⟨p,q,rfl,rfl,rfl⟩:=L;have key:∃ w,X0 n (p++a++q) p.length a.length=some w/\∃ f l' t X',w=(f,l',((t:Nat):Int),X')/\X'.length=(p++a++q).length/\∃ u,val a=2 ^ t*u/\u%2=1/\Win X' f l' (toL u)/\t<=32*a.length:=by
  unfold X0;simp only[yd] at K;have m:∀ j,val a=bp j*val (a.drop j)->j<a.length:=by intro j d;rcases xt j a.length with h | h;exact h;rw[xl h] at d;exact absurd d (by simpa [val] using h0)
  refine Qhy (λs=>s.2.1) (λs=>∃ j:Nat,s.1=p.length+j/\s.2.1=a.length - j/\s.2.2=((32*j:Nat):Int)/\val a=bp j*val (a.drop j))
   (λs=>∃ j:Nat,s.1=p.length+j/\s.2.1=a.length - j/\s.2.2=((32*j:Nat):Int)/\val a=bp j*val (a.drop j)/\a.getD j 0≠0) ⟨0,rfl,rfl,rfl,by rw[Qbd];simp⟩ (by simp only[];unfold big at hn;omega) ?_ ?_
  rintro⟨s1,N,O⟩ ⟨j,rfl,rfl,rfl,g⟩;have d:=m j g;have y:getI (p++a++q) (((p.length+j:Nat):Int)+0)=some a[j]:=by rw[show(((p.length+j:Nat):Int)+0)=((p.length+j:Nat):Int) by omega,Qgf,xf,yg om,wt,yp d,oi d]
  simp only[bifd];rw[show(0:Int)=((0:Nat):Int) from rfl,Qqh om,sbind,show((0:Nat):Int)=0 from rfl,y,sbind];by_cases x:a[j]=0;left;rw[oq x,grd_t (by unfold winC;simp;omega),sbind,w64 om om];refine⟨_,rfl,⟨j+1,by simp only[];omega,by simp only[];omega,by simp only[];omega,?_⟩,by simp only[];omega⟩;rw[g,Qnx d,x,Wx,xg,uo];right;rw[ol x];exact⟨_,rfl,j,rfl,rfl,rfl,g,by simpa [d] using x⟩;rintro⟨s1,N,O⟩ ⟨j,rfl,rfl,rfl,g,J⟩;have d:=m j g;have y:getI (p++a++q) (((p.length+j:Nat):Int)+0)=some a[j]:=by
   rw[show(((p.length+j:Nat):Int)+0)=((p.length+j:Nat):Int) by omega,Qgf,xf,yg om,wt,yp d,oi d]
  have M:=Qb1 v d;have B:a[j]≠0:=by simpa [d] using J
  obtain⟨z,U,P,G,z3,z4⟩:=Q27 hn B M;simp only[];rw[show(0:Int)=((0:Nat):Int) from rfl,Qqh om,sbind,show((0:Nat):Int)=0 from rfl,y,sbind,P,sbind];have A:p++a++q=(p++a.take j)++a.drop j++q:=oc
  have e:(p++a.take j).length=p.length+j:=oh
  have i:(a.drop j).length=a.length - j:=oc
  obtain⟨r,k,C,Q,S,T,E⟩:=Q47 (p:=p++a.take j) (a:=a.drop j) (q:=q) hn (by rw[e,i];omega) (Qof v) G;rw[e,i,<-A] at C;rw[C,sbind,w64 om om];obtain⟨w1,F⟩:=oddw (R:=val (a.drop (j+1))) G z3 z4;rw[<-Qnx d] at w1 F;refine⟨_,rfl,p.length+j,k,32*j+z,p++a.take j++r++q,oc,oh,val (a.drop j) / 2 ^ z,?_,w1,?_,om⟩;rw[wc,<-Qnk,uo,<-F];exact g;refine⟨p++a.take j,r.drop k++q,?_,e,?_⟩;rw[<-E];simp only[xf];rw[<-xf (r.take k),uc];rw[<-E,xi,yy om]
 obtain⟨w,H,f,l',t,X',rfl,I⟩:=key;exact⟨f,l',t,X',H,I⟩
theorem Q1r{n t:Nat}{a:List Nat}(hn:big<=n)(f:a.length<1099511627776)(g:t<35184372088832)(d:Wd a):Qbv n a (t:Int)=some (toL (2 ^ t*val a)):=by unfold Qbv;have hd:Int.tdiv (t:Int) 32=((t / 32:Nat):Int):=rfl;have e:Int.tmod (t:Int) 32=((t%32:Nat):Int):=rfl;have hp:(1*2 ^ min (Int.toNat ((t%32:Nat):Int)) 32)%4294967296=2 ^ (t%32):=Jbz (vn _ oz);have hb:2 ^ (t%32)<4294967296:=xv (Nat.pow_lt_pow_right oz (vn t (show 0<32 by decide))) oz;rw[hd,e,w64 om om,Qfd om om,sbind,J9 oh oh,sbind,grd_t (oo (dr _)),sbind,hp,sbind,Qdx hn oh oc (Kt.2 ⟨Qpj oz,d⟩) (K0.2 ⟨hb,W3⟩),sbind,Y0,Qif,ue,Qnk,xg];congr 2;simp only[val,vo,xp];rw[uo,vu (val a),<-uo,<-wc,show 32*(t / 32)+t%32=t by omega]
theorem Q60{u t:Nat}(h:u%2=1):Nat.Coprime (2 ^ t) u:=Nat.Coprime.pow_left t (by
 have:Nat.gcd 2 u=1:=by rw[Nat.gcd_rec,h];rfl
 exact this)
theorem Jkt{m k u v:Nat}(a:u%2=1)(d:v%2=1):Nat.gcd (2 ^ m*u) (2 ^ k*v)=2 ^ (min m k)*Nat.gcd u v:=by by_cases h:m<=k;rw[yy h,show k=m+(k - m) by omega,wc,uo,Nat.gcd_mul_left,Nat.Coprime.gcd_mul_left_cancel_right _ (Q60 a)];rw[Nat.min_eq_right om,show m=k+(m - k) by omega,wc,uo,Nat.gcd_mul_left,Nat.Coprime.gcd_mul_left_cancel _ (Q60 d)]
theorem Q2d{x k:Nat}(h:x<2 ^ k):blen x<=k:=by by_cases h0:x=0;rw[h0,Qjp];omega;have a:=Qqb h0;have:=(jq (show 1<2 by decide)).1 (yu a h);omega
theorem Jhb{x y t:Nat}(h:x=2 ^ t*y)(g:t≠0)(h0:x≠0):blen y<blen x:=by
 have a:=Qsb (x:=x);have hp:=Qxx h0;obtain⟨k,hk⟩:∃ k,blen x=k+1:=⟨_,(Nat.sub_add_cancel hp).symm⟩
 rw[hk] at a |-;have d:y<2 ^ k:=by
  obtain⟨s,rfl⟩:∃ s,t=s+1:=⟨t - 1,om⟩
  rw[jd] at h a;have e:1*y<=2 ^ s*y:=xc _ (uv s);have f:x=2*(2 ^ s*y):=by rw[h,vu (2 ^ s) 2,uo]
  omega
 have:=Q2d d;omega
theorem Jhc{x y:Nat}(h:x<=y):blen x<=blen y:=Q2d (yu h Qsb)
theorem Quw{v:Nat}:blen v<=32*(toL v).length:=by have:=Qyu (Js v);rwa [Je] at this
theorem Qw2{X:List Nat}{o l:Nat}{b:List Nat}(h:Win X o l b):b.length<=X.length/\b.length=l:=by obtain⟨p,q,rfl,rfl,rfl⟩:=h;exact⟨oh,rfl⟩
def wval(X:List Nat)(o l:Nat):Nat:=val ((subW X o l).getD [])
theorem Qsg{X:List Nat}{o l u:Nat}(h:Win X o l (toL u)):wval X o l=u:=by unfold wval;rw[Q1d h,ut,Je]
theorem Jku{u v:Nat}(a:u%2=1)(d:v%2=1)(h:v<u):(u - v)≠0/\(u - v)%2=0:=om
theorem Qpu{a:List Nat}(d:Wd a):(trimZ a).length=0↔val a=0:=by rw[<-Qz6 d];constructor;intro h;exact xd h;intro h;rw[h];rfl
set_option maxHeartbeats 1000000 in
theorem Q61{n:Nat}{a b:List Nat}(hn:big<=n)(ha:a.length<1099511627776)(hb:b.length<1099511627776)(e:Wd a)(f:Wd b):Qdk n a b=some (toL (Nat.gcd (val a) (val b))):=by
 unfold Qdk;have la:=Qaa a;have lb:=Qaa b;rw[Yv hn om,sbind,Yv hn om,sbind];by_cases h0:val a=0;have:=(Qpu e).2 h0;rw[oo om,bifT,h0,Nat.gcd_zero_left,K1 f];rw[oj (λh=>h0 ((Qpu e).1 om)),bifF];by_cases d:val b=0;have:=(Qpu f).2 d;rw[oo om,bifT,d,Nat.gcd_zero_right,K1 e];rw[oj (λh=>d ((Qpu f).1 om)),bifF];obtain⟨o1,l1,P,X1,S,e2,u,L,M,G,e6⟩:=Qqj hn (show(trimZ a).length<_ by omega) (Jd1 _) (Jbu e) (by rw[Qud];exact h0);obtain⟨o2,l2,Q,X2,T,f2,v,f3,f4,f5,f6⟩:=Qqj hn (show(trimZ b).length<_ by omega) (Jd1 _) (Jbu f) (by rw[Qud];exact d);rw[Qud] at L f3;rw[S,sbind,T,sbind,L,f3,Jkt M f4];simp only[];have i1:=Qw2 G;have i2:=Qw2 f5;have j1:=@Quw u;have j2:=@Quw v;have k1:=Qih (v:=u)
 refine Qb0 (λs=>blen (wval s.1 s.2.1 s.2.2.1)+blen (wval s.2.2.2.1 s.2.2.2.2.1 s.2.2.2.2.2))
  (λs=>∃ x y:Nat,Win s.1 s.2.1 s.2.2.1 (toL x)/\Win s.2.2.2.1 s.2.2.2.2.1 s.2.2.2.2.2 (toL y)/\x%2=1/\y%2=1/\Nat.gcd x y=Nat.gcd u v/\s.1.length<1099511627776/\s.2.2.2.1.length<1099511627776)
  (λt=>Win t.1 t.2.1 t.2.2 (toL (Nat.gcd u v))/\t.1.length<1099511627776) ⟨u,v,G,f5,M,f4,rfl,by simp only[];omega,by simp only[];omega⟩ (by simp only[];rw[Qsg G,Qsg f5];unfold big at hn;omega) ?_ ?_
 have round:∀(X:List Nat) (o l:Nat) (Y:List Nat) (g l' x y:Nat),Win X o l (toL x)->Win Y g l' (toL y)->x%2=1->y%2=1->Nat.gcd x y=Nat.gcd u v->X.length<1099511627776->Y.length<1099511627776->y<x ->
  ∃ s':List Nat×Nat×Nat×List Nat×Nat×Nat,((some (toL y)).bind λK=>(Yh n X o l K).bind λJ=>(X0 n J o l).bind λi=>some (Lp.go (σ:=List Nat×Nat×Nat×List Nat×Nat×Nat) (τ:=List Nat×Nat×Nat) (i.2.2.2,i.1,i.2.1,Y,g,l')))=some (.go s') /\
    (∃ x y:Nat,Win s'.1 s'.2.1 s'.2.2.1 (toL x)/\Win s'.2.2.2.1 s'.2.2.2.2.1 s'.2.2.2.2.2 (toL y)/\x%2=1/\y%2=1/\Nat.gcd x y=Nat.gcd u v/\s'.1.length<1099511627776/\s'.2.2.2.1.length<1099511627776) /\
    blen (wval s'.1 s'.2.1 s'.2.2.1)+blen (wval s'.2.2.2.1 s'.2.2.2.2.1 s'.2.2.2.2.2)<blen x+blen y:=by
  intro X o l Y g l' x y Z O F j A lX lY I;obtain⟨p,q,rfl,rfl,rfl⟩:=Z;obtain⟨r,g1,H,g3,g4⟩:=Quv (p:=p) (a:=toL x) (q:=q) (b:=toL y) hn (by simp at lX;omega) (Y1 om) (Js _) (Js _) (by rw[Je,Je];omega);rw[Je,Je] at g4;obtain⟨s1,s2⟩:=Jku F j I;obtain⟨o3,l3,t3,R,U,V,w,E,W,N,h6⟩:=Qqj (X:=p++r++q) (o:=p.length) (l:=(toL x).length) (a:=r) hn (by simp[H];simp at lX;omega) ⟨p,q,rfl,rfl,H⟩ g3 (by rw[g4];exact s1);rw[g4] at E;have ht:t3≠0:=by rintro rfl;rw[Nat.pow_zero,Nat.one_mul] at E;omega
  refine⟨(R,o3,l3,Y,g,l'),by rw[sbind,g1,sbind,U,sbind],⟨w,y,N,O,W,j,?_,?_,lY⟩,?_⟩;rw[<-A,<-Nat.Coprime.gcd_mul_left_cancel (k:=2 ^ t3) w (Q60 j),<-E,Nat.gcd_sub_self_left om];rw[V];simp[H];simp at lX;omega;simp only[];rw[Qsg N,Qsg O];have c1:=Jhb E ht s1;have C:=Jhc (Nat.sub_le x y);omega
 rintro⟨X,o,l,Y,g,l'⟩ ⟨x,y,w1,m,F,j,A,lX,lY⟩;simp only at w1 m lX lY;have i3:=Qw2 w1;have i4:=Qw2 m;simp only[jn_eq];rw[Q1d w1,sbind,Q1d m,sbind,Qqg hn om om (Js _) (Js _),sbind,Je,Je,Qsg w1,Qsg m,bifd,bifd];unfold cmpI;by_cases c1:x<y;left;rw[oq c1,ol oz,oq oz];obtain⟨s',r1,r2,r3⟩:=round Y g l' X o l y x m w1 j F (by rw[Nat.gcd_comm];exact A) lY lX c1;exact⟨s',r1,r2,om⟩;rw[ol c1];by_cases C:y<x;left;rw[oq C,ol oz,ol oz];exact round X o l Y g l' x y w1 m F j A lX lY C;right;rw[ol C,oq rfl];obtain rfl:x=y:=om
 refine⟨_,rfl,?_,lX⟩;rw[<-A,Nat.gcd_self];exact w1;rintro⟨X,o,l⟩ ⟨w1,lX⟩;simp only at w1 lX;have i3:=Qw2 w1;simp only[];have B:min (P:Int) (Q:Int)=((min P Q:Nat):Int):=om
 rw[Q1d w1,sbind,B,Q1r hn om om (Js _),sbind,Je]
theorem Qux{n:Nat}{a g:List Nat}(hn:big<=n)(f:a.length<1099511627776)(hb:g.length<1099511627776)(d:Wd a)(e:Wd g)(h0:val g≠0):Qa5 n a g=some (toL (val a / val g)):=by unfold Qa5;rw[Qw1,sbind,bifd];split;rename_i h;rw[h,Yv hn om,sbind,<-K1 d];simp[val];rw[Q6z hn om om d e h0,sbind]
def wy(w:Jy):Int:=if w.Neg then -(val w.A3:Int) else (val w.A3:Int)
def rW(z:Int):Jy:=⟨decide (z<0),toL z.natAbs⟩
theorem wy_rW(z:Int):wy (rW z)=z:=by unfold wy rW;simp only[Je];by_cases h:z<0;rw[oo h,oq rfl];omega;rw[oj h,ol oz];omega
theorem Qpv{n:Nat}{w:Jy}(hn:big<=n)(d:Wd w.A3)(a:w.A3.length<=35184372088832):W6 n w=some (rW (wy w)):=by unfold W6 rW wy;rw[Yv hn a,sbind,<-K1 d,jn_eq];cases w.Neg;rw[bifF,ol oz,oj om,wz];rw[bifT,oq rfl,Int.natAbs_neg,wz];have:=Qih (v:=val w.A3);refine um (λb=>some (⟨b,_⟩:Jy)) (gm.2 ?_);omega
theorem Q62{n:Nat}{w u:Jy}(hn:big<=n)(i:Wd w.A3)(f:Wd u.A3)(x:w.A3.length<17592186044410)(p:u.A3.length<17592186044410):Qdn n w u=some (rW (wy w+wy u)):=by
 unfold Qdn;have g1:=Kk i;have v:=Kk f;have len:∀ z,z<=val w.A3+val u.A3->(toL z).length<=35184372088832:=λz q=>xo (Y1 q) (xo (Qsc (k:=17592186044410) om om) oz);rw[Qwy hn om om i f,sbind,Qqg hn om om i f,sbind,bifd];obtain⟨s,a⟩:=w;obtain⟨t,b⟩:=u;simp only at *
 have e:∀ s,W6 n ⟨s,toL (val a+val b)⟩=some (rW (if s then -((val a+val b:Nat):Int) else ((val a+val b:Nat):Int))):=λs=>by rw[Qpv hn (Js _) (len _ (xm _))];unfold wy;simp only[Je]
 have j:∀ s,val b<=val a->(Y4 n a b).bind (λr=>(W6 n ⟨s,r⟩).bind λd=>some d)=some (rW (if s then -((val a - val b:Nat):Int) else ((val a - val b:Nat):Int))):=λs h=>by rw[Qw0 hn om om i f h,sbind,Qpv hn (Js _) (len _ om),sbind];unfold wy;simp only[Je]
 have l:∀ s,val a<=val b->(Y4 n b a).bind (λr=>(W6 n ⟨s,r⟩).bind λd=>some d)=some (rW (if s then -((val b - val a:Nat):Int) else ((val b - val a:Nat):Int))):=λs h=>by rw[Qw0 hn om om f i h,sbind,Qpv hn (Js _) (len _ om),sbind];unfold wy;simp only[Je]
 have m:=@Jba (val a) (val b);unfold wy;simp only[e,sbind];by_cases h:val a<val b;rw[oq (m.2 h),l t om];cases s<;>cases t<;>simp only[beq_self_eq_true,bifT,bifF,wx,ya,yo,show(false == true)=false by rfl,show(true == false)=false by rfl]<;>congr 2<;>omega;rw[ol (λg=>h (m.1 g)),j s om];cases s<;>cases t<;>simp only[beq_self_eq_true,bifT,bifF,wx,ya,yo,show(false == true)=false by rfl,show(true == false)=false by rfl]<;>congr 2<;>omega
def rF(q:Rat):Qb:=⟨decide (q.num<0),toL q.num.natAbs,toL q.den⟩
def fr(f:Qb):Rat:=mkRat (if f.Neg then -(val f.N:Int) else (val f.N:Int)) (val f.D)
theorem Qw3(z:Int):(if decide (z<0) then -(z.natAbs:Int) else (z.natAbs:Int))=z:=by by_cases h:z<0;rw[oo h,oq rfl];omega;rw[oj h,ol oz];omega
theorem fr_rF(q:Rat):fr (rF q)=q:=by unfold fr rF;simp only[Je];rw[Qw3];exact wd q
theorem Jhd{p q:Rat}(h:rF p=rF q):p=q:=by rw[<-fr_rF p,h,fr_rF]
theorem Jkv:toL 1=[1]:=by rw[Qdt oz];rw[show(1:Nat)%4294967296=1 from rfl,show(1:Nat) / 4294967296=0 from rfl,X7]
theorem Jd2:rF 0=⟨false,[],[1]⟩:=by unfold rF;rw[show(0:Rat).num=0 from rfl,show(0:Rat).den=1 from rfl,Jkv,show(0:Int).natAbs=0 from rfl,X7];rfl
theorem rF_mk{s:Bool}{x d:Nat}(g:x≠0)(hd:d≠0):rF (mkRat (if s then -(x:Int) else (x:Int)) d)=⟨s,toL (x / Nat.gcd x d),toL (d / Nat.gcd x d)⟩:=by
 obtain⟨a,e⟩:=Qkf (z:=if s then -(x:Int) else (x:Int)) hd;have i:(if s then -(x:Int) else (x:Int)).natAbs=x:=by cases s<;>simp
 have f:Nat.gcd x d ∣ x:=Nat.gcd_dvd_left _ _;have hp:x / Nat.gcd x d≠0:=by have:=Nat.div_pos (Nat.le_of_dvd (Nat.pos_of_ne_zero g) f) (Nat.gcd_pos_of_pos_left d (Nat.pos_of_ne_zero g));omega
 rw[i] at a e;rw[<-Jdr s x _ f] at a;unfold rF;rw[a,e];generalize x / Nat.gcd x d=y at hp;cases s;rw[ol oz,oj om,wz];rw[oq rfl,oo om,Int.natAbs_neg,wz]
theorem Qcu{n:Nat}{f:Qb}(hn:big<=n)(g:Wd f.N)(e:Wd f.D)(lN:f.N.length<1099511627776)(lD:f.D.length<1099511627776):K5 n f=some (rF (fr f)):=by
 unfold K5;have g1:=Kk g;have k:=Kk e;rw[Yv hn om,sbind,Yv hn om,sbind,<-K1 g,<-K1 e];simp only[jn_eq,bifd];have l:=Qih (v:=val f.N);have m:=Qih (v:=val f.D);unfold fr;by_cases hd:val f.D=0;rw[oq om,hd,Rat.mkRat_zero,Jd2];rfl;rw[ol om];by_cases a:val f.N=0;rw[oq om,a];have:(if f.Neg=true then -((0:Nat):Int) else ((0:Nat):Int))=0:=by split<;>rfl
 rw[this,Rat.zero_mkRat,Jd2];rw[ol om,rF_mk a hd,Qw1,sbind];have i:Nat.gcd (val f.N) (val f.D)≠0:=by have:=Nat.gcd_pos_of_pos_left (val f.D) (Nat.pos_of_ne_zero a);omega
 have j:(toL (Nat.gcd (val f.N) (val f.D))).length<1099511627776:=yu (Y1 (Nat.gcd_le_left _ (Nat.pos_of_ne_zero a))) om;by_cases d:toL (val f.D)=[1]
 rw[oo d,ov,bifF];have:val f.D=1:=by rw[<-Je (val f.D),d];rfl
 rw[this,Nat.gcd_one_right,Nat.div_one,Nat.div_one];rw[oj d,ow,bifT,Q61 hn om om (Js _) (Js _),sbind,Je,Je,Qux hn om j (Js _) (Js _) (by rw[Je];exact i),sbind,Qux hn om j (Js _) (Js _) (by rw[Je];exact i),sbind,Je,Je,Je]
theorem wy_mk(z:Int)(d:Nat):wy ⟨decide (z<0),toL (z.natAbs*d)⟩=z*(d:Int):=by unfold wy;simp only[Je,Int.natCast_mul];by_cases h:z<0;rw[oo h,oq rfl,<-Int.neg_mul];congr 1;omega;rw[oj h,ol oz];congr 1;omega
theorem Xd{n k:Nat}{p q:Rat}(hn:big<=n)(hk:k<274877906944)(hp:qw p<=k)(f:qw q<=k):Q3 n (rF p) (rF q)=some (rF (p+q)):=by
 have l:=Qgt p;have m:=Qgt q;have a:=Qgu p;have d:=Qgu q;have g:=@Qce p.num.natAbs q.den;have i:=@Qce q.num.natAbs p.den;have j:=@Qce p.den q.den;unfold Q3 rF;simp only[];rw[Qdx hn om om (Js _) (Js _),sbind,Qdx hn om om (Js _) (Js _),sbind,Je,Je,Je,Je,Q62 hn (Js _) (Js _) (by simp only[];omega) (by simp only[];omega),sbind,wy_mk,wy_mk,Qdx hn om om (Js _) (Js _),sbind,Je,Je];have hs:(toL (p.num*(q.den:Int)+q.num*(p.den:Int)).natAbs).length<=2*k+1:=by
  refine xo (Y1 (Int.natAbs_add_le _ _)) ?_;rw[js,js,wz,wz];exact Qsc om om
 rw[Qcu hn (Js _) (Js _) (by unfold rW;simp only[];omega) (by simp only[];omega),sbind];have e:fr ⟨(rW (p.num*(q.den:Int)+q.num*(p.den:Int))).Neg,(rW (p.num*(q.den:Int)+q.num*(p.den:Int))).A3,toL (p.den*q.den)⟩=p+q:=by unfold fr rW;simp only[Je];rw[Qw3,<-jt _ _ p.den_nz q.den_nz,wd,wd]
 rw[e];rfl
theorem Jne(z:Int)(_:z≠0):(if (!decide (z<0)) then -(z.natAbs:Int) else (z.natAbs:Int))=-z:=by by_cases h:z<0;rw[oo h,ov,ol oz];omega;rw[oj h,ow,oq rfl];omega
theorem Qqk{n k:Nat}{q:Rat}(hn:big<=n)(hk:k<274877906944)(d:qw q<=k):Vo n (rF q)=some (rF (-q)):=by
 have f:=Qgt q;have a:=Qgu q;unfold Vo rF;simp only[];rw[Qcu hn (Js _) (Js _) (by simp only[];omega) (by simp only[];omega),sbind];have e:fr ⟨!decide (q.num<0),toL q.num.natAbs,toL q.den⟩=-q:=by unfold fr;simp only[Je];by_cases h0:q.num=0;rw[h0];have:q=0:=jg.1 h0;subst this;rfl;rw[Jne _ h0,<-Rat.neg_mkRat,wd]
 rw[e];rfl
theorem Qql{n k:Nat}{p q:Rat}(hn:big<=n)(hk:k<274877906944)(hp:qw p<=k)(a:qw q<=k):Z7 n (rF p) (rF q)=some (rF (p - q)):=by unfold Z7;rw[Qqk hn hk a,sbind,Xd hn hk hp (by rw[Qjk];exact a),sbind,tm]
theorem Ji4(z u:Int):(if (decide (z<0) != decide (u<0)) then -((z.natAbs*u.natAbs:Nat):Int) else ((z.natAbs*u.natAbs:Nat):Int))=z*u:=by rw[Jdq,Qw3,Qw3]
theorem Qac{n k:Nat}{p q:Rat}(hn:big<=n)(hk:k<274877906944)(hp:qw p<=k)(f:qw q<=k):Jh n (rF p) (rF q)=some (rF (p*q)):=by
 have j:=Qgt p;have l:=Qgt q;have a:=Qgu p;have d:=Qgu q;have g:=@Qce p.num.natAbs q.num.natAbs;have i:=@Qce p.den q.den;unfold Jh rF;simp only[];rw[Qdx hn om om (Js _) (Js _),sbind,Qdx hn om om (Js _) (Js _),sbind,Je,Je,Je,Je,Qcu hn (Js _) (Js _) (by simp only[];omega) (by simp only[];omega),sbind];have e:fr ⟨decide (p.num<0) != decide (q.num<0),toL (p.num.natAbs*q.num.natAbs),toL (p.den*q.den)⟩=p*q:=by
  unfold fr;simp only[Je];rw[Ji4,<-jm,wd,wd]
 rw[e];rfl
theorem Ji5{z u:Int}{d:Nat}(f:u≠0):(if (decide (z<0) != decide (u<0)) then -((z.natAbs*d:Nat):Int) else ((z.natAbs*d:Nat):Int))=z*(u.sign*(d:Int)):=by rw[<-Int.mul_assoc,Int.natCast_mul];have e:=Qw3 z;by_cases h:u<0;rw[oo h,gv h] at *;by_cases a:z<0;rw[oo a] at *;simp only[bne_self_eq_false,wx,yo,ya] at *;rw[show z * -1=(z.natAbs:Int) by omega];rw[oj a] at *;simp only[show(false != true)=true from rfl,ya,wx,yo] at *;rw[show z * -1=-(z.natAbs:Int) by omega,Int.neg_mul];rw[oj h,gu om] at *;by_cases a:z<0;rw[oo a] at *;simp only[show(true != false)=true from rfl,ya] at *;rw[show z*1=-(z.natAbs:Int) by omega,Int.neg_mul];rw[oj a] at *;simp only[bne_self_eq_false,wx,yo] at *;rw[show z*1=(z.natAbs:Int) by omega]
theorem Qmk{n k:Nat}{p q:Rat}(hn:big<=n)(hk:k<274877906944)(hp:qw p<=k)(g:qw q<=k):Vp n (rF p) (rF q)=some (rF (p / q)):=by
 have l:=Qgt p;have m:=Qgt q;have d:=Qgu p;have f:=Qgu q;have i:=@Qce p.num.natAbs q.den;have j:=@Qce p.den q.num.natAbs;unfold Vp rF;simp only[];rw[Qdx hn om om (Js _) (Js _),sbind,Qdx hn om om (Js _) (Js _),sbind,Je,Je,Je,Je,Qcu hn (Js _) (Js _) (by simp only[];omega) (by simp only[];omega),sbind];have e:fr ⟨decide (p.num<0) != decide (q.num<0),toL (p.num.natAbs*q.den),toL (p.den*q.num.natAbs)⟩=p / q:=by
  unfold fr;simp only[Je];by_cases h0:q.num=0
  . rw[h0,show(0:Int).natAbs=0 from rfl,vo,Rat.mkRat_zero,jg.1 h0];grind
  . rw[Ji5 h0,da]
    have a:=Q72 h0 q.den_nz;rw[wd] at a;rw[a]
    conv=>rhs;rw[<-wd p]
    rw[jm]
 rw[e];rfl
theorem Q28{v:Nat}:((toL v).length:Int)=0↔v=0:=by have:=Qih (v:=v);omega
theorem Qk2(q:Rat):Wj (rF q)=some q.num.sign:=by unfold Wj rF;simp only[bifd];by_cases h:q.num=0;rw[oq (Q28.2 om),h];rfl;rw[ol (λg=>h (by have:=Q28.1 g;omega))];by_cases a:q.num<0;rw[oq a,gv a];rw[ol a,gu om]
theorem Qh1(q:Rat):Yi (rF q)=some (decide (q=0)):=by unfold Yi rF;refine um some (gm.2 ?_);simp only[Q28];rw[<-jg];omega
theorem Q63{n k:Nat}{p q:Rat}(hn:big<=n)(hk:k<274877906944)(hp:qw p<=k)(a:qw q<=k):Qbn n (rF p) (rF q)=some (Int.sign (p - q).num):=by unfold Qbn;rw[Qql hn hk hp a,sbind,Qk2,sbind]
open Classical in
theorem Qpw{n:Nat}{f g:Qb}(hn:big<=n)(j:f.N.length<=4611686018427387904)(k:f.D.length<=4611686018427387904):Ki n f g=some (decide (f=g)):=by unfold Ki;simp only[jn_eq];obtain⟨s,a,d⟩:=f;obtain⟨t,b,e⟩:=g;simp only at *;by_cases c1:s=t;subst c1;rw[show(s == s)=true by simp,bifT,Quu hn j,sbind];by_cases i:a=b;subst i;rw[oo rfl,bifT,Quu hn k,sbind];exact um some (gm.2 ⟨λh=>by rw[h],λh=>by cases h;rfl⟩);rw[oj i,bifF,oj (λh=>by cases h;exact i rfl)];rw[show(s == t)=false by simpa using c1,bifF,oj (λh=>by cases h;exact c1 rfl)]
theorem Qtk{n k:Nat}{p q:Rat}(hn:big<=n)(hk:k<274877906944)(hp:qw p<=k):Ki n (rF p) (rF q)=some (decide (p=q)):=by have d:=Qgt p;have a:=Qgu p;rw[Qpw hn (by show(toL p.num.natAbs).length<=_;omega) (by show(toL p.den).length<=_;omega)];exact um some (gm.2 ⟨Jhd,λh=>by rw[h]⟩)
theorem Qk3{n k:Nat}{q:Rat}(hn:big<=n)(hk:k<274877906944)(f:qw q<=k):Qa7 n (rF q)=some (qz q:Int):=by have g:=Qgt q;have e:=Qgu q;have a:=@Quw q.num.natAbs;have d:=@Quw q.den;unfold Qa7 rF qz;simp only[];rw[Qqi hn om (Js _),sbind,Qqi hn om (Js _),sbind,Je,Je,w64 om om];rfl
theorem Q0l{n x:Nat}(hn:big<=n)(e:x<18446744073709551616):Qcb n x=some (toL x):=by
 unfold Qcb;have d:Wd [x%4294967296%4294967296,x / 4294967296%4294967296]:=K0.2 ⟨om,K0.2 ⟨om,W3⟩⟩;have a:val [x%4294967296%4294967296,x / 4294967296%4294967296]=x:=by simp only[val];omega
 rw[sbind,Yv hn oc,sbind,<-K1 d,a]
theorem Qpx{n:Nat}{x:Int}(hn:big<=n)(i:-9223372036854775808<=x)(j:x<=9223372036854775807):Ko n x=some (rF (x:Rat)):=by
 unfold Ko;have a:Wd [1]:=K0.2 ⟨oz,W3⟩;have g:val [1]=1:=rfl;have f:∀ z,z<18446744073709551616->(toL z).length<=2:=λz l=>Qeb (by rw[Wx,Wx,Qbd];omega);rw[bifd];by_cases h:x<0;have e:Int.toNat (wrap64 (-(wrap64 (x+1)))%18446744073709551616)=x.natAbs - 1:=by rw[w64 (x:=x+1) om om,w64 om om];omega
 have k:=f (x.natAbs - 1) om;have d:=f x.natAbs om;rw[oq h,sbind,e,Q0l hn om,sbind,Qwy hn om oc (Js _) a,sbind,Je,g,show x.natAbs - 1+1=x.natAbs by omega,Qcu hn (Js _) a (by simp only[];omega) oc,sbind];congr 2;unfold fr;simp only[Je,g];rw[oq trivial,show -((x.natAbs:Nat):Int)=x by omega,<-Rat.mkRat_one];have e:Int.toNat (x%18446744073709551616)=x.natAbs:=om
 have d:=f x.natAbs om;rw[ol h,e,Q0l hn om,sbind,Qcu hn (Js _) a (by simp only[];omega) oc,sbind];congr 2;unfold fr;simp only[Je,g];rw[ol oz,show((x.natAbs:Nat):Int)=x by omega,<-Rat.mkRat_one]
theorem Qdf{n:Nat}(hn:big<=n):Ko n 0=some (rF 0):=Qpx hn oz oz
theorem Quy{n:Nat}(hn:big<=n):Ko n 1=some (rF 1):=Qpx hn oz oz
theorem Q8e{q:Rat}(m:Nat):q⁻¹ ^ m / q=q⁻¹ ^ (m+1):=by rw[jy,da]
theorem Q64{n k:Nat}{q:Rat}{e:Int}(hn:big<=n)(hk:k<1073741824)(j:qw q<=k):
 Qdo n (rF q) e=some (if e < -8\/8<e\/(e<0/\q=0) then (rF 0,false) else (rF (q ^ e),true)):=by
 have x:=Q4s q;unfold Qdo;simp only[jn_eq,bifd];rw[Qdf hn,sbind,Quy hn,sbind];by_cases c1:e < -8;rw[oq c1,bifT,oq (.inl c1)];rw[ol c1];by_cases f:8<e;rw[oq f,bifT,oq (.inr (.inl f))];rw[ol f]
 have bnd:∀ m:Nat,m<=8->∀ q:Rat,qw q<=k->qw (q ^ m)<=9*k:=λm u q j=>by have:=Q4t j m;have y:m*k<=8*k:=xc _ u;have:=xo (Q4s q) j;omega
 have main:∀(l:¬(e<0/\q=0)),((loopM (λ(a:Qb×Int)=>
  if a.2<e then (
   (Jh n a.1 (rF q)).bind λp=>
   some (Lp.go (p,wrap64 (a.2+(1:Int)))))
  else (
   some (Lp.out a.1))) n (rF 1,(0:Int))).bind λ(s:Qb)=>
  (loopM (λ(d:Qb×Int)=>
   if e<d.2 then (
    (Vp n d.1 (rF q)).bind λr=>
    some (Lp.go (r,wrap64 (d.2 - (1:Int)))))
   else (
    some (Lp.out d.1))) n (s,(0:Int))).bind λ(t:Qb)=>
  some (t,true))=some (rF (q ^ e),true):=by
  intro l;by_cases h:e<0;obtain⟨m,rfl⟩:∃ m:Nat,e=-(m:Int):=⟨e.natAbs,om⟩
  rw[V3 (λ_=>(rF 1,(0:Int))) 0 (rF 1) (λi hi=>absurd hi (dg _)) (by rw[ol om]) (by unfold big at hn;omega) rfl];have v:q≠0:=λg=>l ⟨h,g⟩;rw[V3 (λi=>(rF (q⁻¹ ^ i),-(i:Int))) m (rF (q⁻¹ ^ m))];rw[Rat.zpow_neg,dm];congr 3;clear bnd l c1 f h
  induction m with
  | zero=>rw[jx,jx];grind
  | succ m w=>rw[jy,jy,w];grind
  intro i hi;rw[oq om,Qmk (k:=9*k) hn om (bnd i om _ (Q0b j)) om,sbind,Q8e,w64 om om];congr 3;omega;rw[ol om];unfold big at hn;omega;rw[jx];rfl;obtain⟨m,rfl⟩:∃ m:Nat,e=(m:Int):=⟨e.natAbs,om⟩
  rw[V3 (λi=>(rF (q ^ i),(i:Int))) m (rF (q ^ m))];rw[V3 (λ_=>(rF (q ^ m),(0:Int))) 0 (rF (q ^ m)) (λi hi=>absurd hi (dg _)) (by rw[ol om]) (by unfold big at hn;omega) rfl,dm];intro i hi;rw[oq om,Qac (k:=9*k) hn om (bnd i om _ j) om,sbind,<-jy,w1 om];rw[ol om];unfold big at hn;omega;rw[jx];rfl
 by_cases h:e<0;rw[oq h,Qh1,sbind,bifd];by_cases h0:q=0;rw[oq h0,oq (.inr (.inr ⟨h,h0⟩))];rw[ol h0,main (λg=>h0 g.2),ol (by rintro(g | g | g);exact c1 g;exact f g;exact h0 g.2)];rw[ol h,bifF,main (λg=>h g.1),ol (by rintro(g | g | g);exact c1 g;exact f g;exact h g.1)]
def rR(l:List Rat):List Qb:=l.map rF
theorem Kn(l:List Rat):(rR l).length=l.length:=by unfold rR;simp
theorem Qh2{l:List Rat}{i:Nat}{q:Rat}(h:l[i]?=some q):(rR l)[i]?=some (rF q):=by unfold rR;rw[xr,h];rfl
theorem Jnf{a b:List Rat}(h:rR a=rR b):a=b:=by
 unfold rR at h
 induction a generalizing b with
 | nil=>cases b with
   | nil=>rfl
   | cons y b=>cases h
 | cons x a f=>cases b with
   | nil=>cases h
   | cons y b=>
     rw[yz,yz] at h;obtain⟨d,e⟩:=List.cons.inj h;rw[Jhd d,f e]
theorem Qoh(l:List Rat)(q:Rat):rR (l++[q])=rR l++[rF q]:=by unfold rR;simp
def FRr(k:Nat)(l:List Qb):Prop:=∀ f∈l,Wd f.N/\Wd f.D/\f.N.length<=k/\f.D.length<=k
def rvr(l:List Qb):List Rat:=l.map fr
theorem Qeg(l:List Qb):(rvr l).length=l.length:=by unfold rvr;simp
theorem fr_tF(f:Qb):fv (tF f)=fr f:=rfl
theorem Qef(l:List Qb):rv (l.map tF)=rvr l:=by unfold rv rvr;rw[yt];rfl
theorem qw_fr{f:Qb}{k:Nat}(h:Wd f.N/\Wd f.D/\f.N.length<=k/\f.D.length<=k)(a:1<=k):qw (fr f)<=k:=by rw[<-fr_tF];exact qw_fv ⟨h.1,h.2.2.1,h.2.1,h.2.2.2⟩ a
theorem Qnl{k:Nat}{l:List Qb}(h:FRr k l)(a:1<=k):QR k (rvr l):=λq e=>by obtain⟨f,d,rfl⟩:=xy.1 e;exact qw_fr (h f d) a
theorem Qka{n k:Nat}{l:List Qb}(hn:big<=n)(hk:k<1099511627776)(h:FRr k l)(d:l.length<=1000000):Xh n l=some (rR (rvr l)):=by
 unfold Xh;rw[V3 (λi=>(rR (rvr (l.take i)),(i:Int))) l.length (rR (rvr l))];intro i hi;have hp:l[i]?=some l[i]:=oi hi;have a:=h l[i] (xa hi);generalize l[i]=p at hp a;simp only[bifd];have e:rvr (l.take (i+1))=rvr (l.take i)++[fr p]:=by rw[Yn hp];unfold rvr;simp
 rw[oq om,Jd hp,sbind,Qcu hn a.1 a.2.1 om om,sbind,J9 (by simp[Kn,Qeg];omega) (by simp[Kn,Qeg];omega),sbind,w1 om,e,Qoh];simp only[bifd];rw[ol om,xh];unfold big at hn;omega;rfl
open Classical in
theorem Quz{n:Nat}{a b:List Qb}(hn:big<=n)(l:a.length<=1000000)(h:∀ f∈a,f.N.length<=4611686018427387904/\f.D.length<=4611686018427387904):W5 n a b=some (decide (a=b)):=by
 unfold W5;by_cases j:a.length=b.length;rw[oo (show(a.length:Int)=(b.length:Int) by omega),ov,bifF];rw[Qj7 (λi=>a[i]?=b[i]?) a.length (r:=false)];have e:(∀ i,i<a.length->a[i]?=b[i]?)↔a=b:=by constructor;intro g;refine List.ext_getElem? λi=>?_;rcases xt i a.length with hi | hi;exact g i hi;rw[xz hi,xz om];rintro rfl i _;rfl
 by_cases g:a=b;rw[oq (e.2 g),oo g];rw[ol (λh=>g (e.1 h)),oj g];intro i hi;have hp:a[i]?=some a[i]:=oi hi;have d:b[i]?=some (b[i]' om):=oi om;have k:=h a[i] (xa hi);generalize a[i]=x at hp k;generalize b[i]' om=y at d;simp only[bifd];rw[oq om,Jd hp,sbind,Jd d,sbind,Qpw hn k.1 k.2,sbind,hp,d,w1 om];constructor;intro g;rw[oo (Option.some.inj g)];rfl;intro g;rw[oj (λh=>g (by rw[h]))];rfl;simp only[bifd];rw[ol om];unfold big at hn;omega;rw[oj (show ¬(a.length:Int)=(b.length:Int) by omega),ow,bifT,oj];intro g;exact j (by rw[g])
theorem Q65{q:Rat}{k:Nat}(h:qw q<=k):(rF q).N.length<=k/\(rF q).D.length<=k:=by have:=Qgt q;have:=Qgu q;exact⟨by show(toL q.num.natAbs).length<=k;omega,by show(toL q.den).length<=k;omega⟩
theorem Qn5{n k:Nat}{a b:List Rat}(hn:big<=n)(e:a.length<=1000000)(hk:k<274877906944)(h:QR k a):W5 n (rR a) (rR b)=some (decide (a=b)):=by
 classical
 rw[Quz hn (by rw[Kn];exact e) (λf d=>by
  obtain⟨q,g,rfl⟩:=xy.1 d;have:=Q65 (h q g)
  exact⟨om,om⟩)]
 exact um some (gm.2 ⟨Jnf,λh=>by rw[h]⟩)
def oF(x:Qa):Qb:=⟨x.Num.Neg,x.Num.A3,x.Den⟩
theorem Jhe(l:List Rat):(toR l).map oF=rR l:=by unfold toR rR;rw[yt];rfl
theorem Q9h(x:Qa):Qf1 x=some (oF x):=rfl
theorem Qyv{n:Nat}{l:List Qa}(hn:big<=n)(a:l.length<=1000000):Qca n l=some (l.map oF):=by unfold Qca;rw[V3 (λi=>((l.take i).map oF,(i:Int))) l.length (l.map oF)];intro i hi;have hp:l[i]?=some l[i]:=oi hi;generalize l[i]=p at hp;simp only[bifd,Q9h,sbind];rw[oq om,Jd hp,sbind,J9 oh oh,sbind,w1 om,Xe oF hp];simp only[bifd];rw[ol om,xh];unfold big at hn;omega;rfl
theorem Jhf{many k:Nat}{l:List Qb}(d:Kc l)(h:FL many k l):FRr k l:=λx a=>by have hb:=d.2 x a;have:=h.2 x a;exact⟨hb.2.1.2,hb.2.2.1.2,this.1,this.2⟩
theorem Qml{n k:Nat}{a b:List Rat}(hn:big<=n)(hk:k<274877906944)(j:QR k a)(hb:QR k b)(l:a.length=b.length)(m:a.length<=1000000):Vq n (rR a) (rR b)=some (rR (addQ a b)):=by
 unfold Vq;rw[V3 (λi=>(rR (addQ (a.take i) (b.take i)),(i:Int))) a.length (rR (addQ a b))];intro i hi;have hp:a[i]?=some a[i]:=oi hi;have d:b[i]?=some (b[i]' om):=oi om;have f:=j a[i] (xa hi);have g:=hb (b[i]' om) (xa om);generalize a[i]=x at hp f;generalize b[i]' om=y at d g;simp only[bifd];have e:addQ (a.take (i+1)) (b.take (i+1))=addQ (a.take i) (b.take i)++[x+y]:=by
  rw[Yn hp,Yn d];unfold addQ;rw[List.zipWith_append oh];rfl
 rw[oq (by rw[Kn];omega),Jd (Qh2 hp),sbind,Jd (Qh2 d),sbind,Xd hn hk f g,sbind,J9 (by simp[Kn,Zu];omega) (by simp[Kn,Zu];omega),sbind,w1 om,e,Qoh];simp only[bifd];rw[ol (by rw[Kn];omega),xh,l,xh];unfold big at hn;omega;rfl
def blkB(c:Nat):Bool:=decide (c=32\/c=9\/c=10\/c=13)
theorem Ql3{α:Type}(p:α->Bool):∀(l:List α),(l.dropWhile p).length<=l.length
 | []=>xm _
 | x::l=>by rw[List.dropWhile_cons];split;exact Nat.le_succ_of_le (Ql3 p l);exact xm _
def wcons(w:Qo):List Qo ⊕ Nat->List Qo ⊕ Nat
 | .inl l=>.inl (w::l)
 | .inr p=>.inr p
def tailK(k:Int)(r:List UInt8):List UInt8:=r.takeWhile (λb=>goC k b.toNat)
def scanS:List UInt8->Nat->List Qo ⊕ Nat
 | [],_=>.inl []
 | c::r,i=>
   if blkB c.toNat then scanS r (i+1)
   else if c.toNat=35 then scanS (r.dropWhile (λb=>b.toNat≠10)) (i+1+(r.takeWhile (λb=>b.toNat≠10)).length)
   else if kindC c.toNat=0 then .inr i
   else if mostC (kindC c.toNat)<1+(tailK (kindC c.toNat) r).length then .inr (i+mostC (kindC c.toNat))
   else wcons ⟨kindC c.toNat,c::tailK (kindC c.toNat) r,i⟩ (scanS (r.drop (tailK (kindC c.toNat) r).length) (i+1+(tailK (kindC c.toNat) r).length))
termination_by s=>s.length
decreasing_by
 all_goals simp only[xn,uz]
 . omega
 . have:=Ql3 (λb:UInt8=>decide (b.toNat≠10)) r;omega
 . omega
theorem Qq4(i:Nat):scanS [] i=.inl []:=by rw[scanS]
theorem Qpy(c:UInt8)(r:List UInt8)(i:Nat):scanS (c::r) i =
 if blkB c.toNat then scanS r (i+1)
 else if c.toNat=35 then scanS (r.dropWhile (λb=>b.toNat≠10)) (i+1+(r.takeWhile (λb=>b.toNat≠10)).length)
 else if kindC c.toNat=0 then .inr i
 else if mostC (kindC c.toNat)<1+(tailK (kindC c.toNat) r).length then .inr (i+mostC (kindC c.toNat))
 else wcons ⟨kindC c.toNat,c::tailK (kindC c.toNat) r,i⟩ (scanS (r.drop (tailK (kindC c.toNat) r).length) (i+1+(tailK (kindC c.toNat) r).length)):=by rw[scanS]
def rstep(i:Nat)(c:UInt8)(b:List Qo×Bool):(List Qo×Bool) ⊕ (List Qo×Int):=
 let note:=if c.toNat=35 then true else if c.toNat=10 then false else b.2
 if note || blkB c.toNat then .inl (b.1,note)
 else match b.1.getLast? with
  | some w=>if w.At+w.A5.length=i/\goC w.Au c.toNat=true then
   (if w.Au=0\/mostC w.Au<w.A5.length+1 then .inr ([],(i:Int)) else .inl (b.1.dropLast++[⟨w.Au,w.A5++[c],w.At⟩],note))
    else if kindC c.toNat=0 then .inr ([],(i:Int)) else .inl (b.1++[⟨kindC c.toNat,[c],i⟩],note)
  | none=>if kindC c.toNat=0 then .inr ([],(i:Int)) else .inl (b.1++[⟨kindC c.toNat,[c],i⟩],note)
def rscan(s:List UInt8)(i:Nat)(b:List Qo×Bool):List Qo×Int:=runG rstep (λb=>(b.1,(-1:Int))) s i b
theorem Q29(k:Int):1<=mostC k/\mostC k<=60:=by unfold mostC;grind
theorem Jkw{α:Type}{s:List α}{i:Nat}{x:α}(h:s[i]?=some x)(hs:s.length<=4611686018427387904):sub s (i:Int) (wrap64 ((i:Int)+1))=some [x]:=by
 have hi:=J8 h;rw[w1 om,Q6e om om,We hi];have:s[i]=x:=by have:=oi hi;rw[h] at this;exact(Option.some.inj this).symm
 rw[this,List.drop_append_of_le_length oh,xl oh];rfl
theorem Q48{n:Nat}{s:List UInt8}(hn:big<=n):Qa6 n s=some (if 4000<s.length then ([],4000) else rscan s 0 ([],false)):=by
 unfold Qa6;simp only[bifd];by_cases hs:4000<s.length;rw[oq om,oq hs];rw[ol om,ol hs];have x:=hn;unfold big at hn;unfold rscan;refine Q2u (λb i=>(b.1,b.2,(i:Int))) rstep (λb=>b.1) _ (λi b=>b.1.length<=i/\∀ w∈b.1,0<=w.At/\w.At+w.A5.length<=i) s ([],false) (λi c b y hI=>?_) (λb _=>by simp) (λb _=>rfl) oc om;obtain⟨r,j⟩:=hI;have hi:=J8 y;have t:=Jkw y om;have E:getS s (i:Int)=some c.toNat:=by rw[Qz5,y];rfl
 obtain⟨out,note⟩:=b;simp only at r j;simp only[oq (show(i:Int)<(s.length:Int) by omega),jn_eq,E,sbind,t,Q46 x,Q44,Q45];have f:wrap64 ((i:Int)+1)=((i+1:Nat):Int):=w1 om;have hkeep:∀ B:Bool,rstep i c (out,note)=.inl (out,B)->∀ g:List Qo×Bool,rstep i c (out,note)=.inl g->g.1.length<=i+1/\∀ w∈g.1,0<=w.At/\w.At+w.A5.length<=((i+1:Nat):Int):=by intro B h g a;rw[h] at a;cases a;exact⟨by simp only[];omega,λw u=>by have:=j w u;omega⟩
 by_cases e:c.toNat=35;have hr:rstep i c (out,note)=.inl (out,true):=by simp[rstep,e]
 refine⟨?_,hkeep true hr⟩;rw[hr];simp[e,f,toLpp];by_cases d:c.toNat=10;have hr:rstep i c (out,note)=.inl (out,false):=by simp[rstep,d,blkB]
 refine⟨?_,hkeep false hr⟩;rw[hr];simp[d,f,toLpp];cases note with
 | true=>
   have hr:rstep i c (out,true)=.inl (out,true):=by simp[rstep,d,e]
   refine⟨?_,hkeep true hr⟩;rw[hr];simp[d,e,f,toLpp]
 | false=>
   by_cases hb:blkB c.toNat=true;have hr:rstep i c (out,false)=.inl (out,false):=by simp[rstep,d,e,hb]
   refine⟨?_,hkeep false hr⟩;rw[hr];simp only[blkB,gr,d,false_or] at hb;rcases hb with h | h | h<;>simp[h,f,toLpp];have a:blkB c.toNat=false:=by simpa using hb
   have g1:c.toNat≠32:=λh=>hb (by simp[blkB,h]);have C:c.toNat≠9:=λh=>hb (by simp[blkB,h]);have g3:c.toNat≠13:=λh=>hb (by simp[blkB,h]);simp only[ol e,ol d,ol g1,ol C,bifF,oj g3]
   have m:((appM 32 out [(⟨kindC c.toNat,[c],(i:Int)⟩:Qo)]).bind λy596=>
    (getI y596 (wrap64 ((y596.length:Int) - 1))).bind λy598=>
     if y598.Au=0 then bif true then some (Lp.out (Lp.out (([]:List Qo),(i:Int)))) else some (Lp.go (y596,false,wrap64 ((i:Int)+1)))
     else bif decide ((mostC y598.Au:Int)<(y598.A5.length:Int)) then some (Lp.out (Lp.out (([]:List Qo),(i:Int)))) else some (Lp.go (y596,false,wrap64 ((i:Int)+1)))) =
    some (toLpp (τ0:=List Qo) (λ(b:List Qo×Bool) i=>(b.1,b.2,(i:Int))) i (if kindC c.toNat=0 then .inr ([],(i:Int)) else .inl (out++[⟨kindC c.toNat,[c],i⟩],false))):=by
    rw[J9 oh oh,sbind,Qr8 om,sbind];by_cases h0:kindC c.toNat=0;simp only[h0,ya,bifT,toLpp];simp only[ol h0];rw[oj (by have:=(Q29 (kindC c.toNat)).1;simp;omega),f];rfl
   have k:∀ g:List Qo×Bool,(if kindC c.toNat=0 then (.inr ([],(i:Int)):(List Qo×Bool) ⊕ (List Qo×Int)) else .inl (out++[⟨kindC c.toNat,[c],i⟩],false))=.inl g ->
    g.1.length<=i+1/\∀ w∈g.1,0<=w.At/\w.At+w.A5.length<=((i+1:Nat):Int):=by
    intro g h;by_cases h0:kindC c.toNat=0;rw[oq h0] at h;cases h;rw[ol h0] at h;cases h;refine⟨oh,λw u=>?_⟩;rcases yr.1 u with h | h;have:=j w h;omega;rw[xj.1 h];simp
   rcases je out with rfl | ⟨l,w,rfl⟩;have hr:rstep i c ([],false)=(if kindC c.toNat=0 then .inr ([],(i:Int)) else .inl ([]++[⟨kindC c.toNat,[c],i⟩],false)):=by simp[rstep,d,e,a]
   rw[hr];refine⟨?_,k⟩;rw[ol oc];exact m;rw[jf] at *;have u:=j w oc;have F:l.length+1<=i:=by simpa using r
   have hlast:getI (l++[w]) (wrap64 (((l++[w]).length:Int) - 1))=some w:=Qr8 om
   have hr:rstep i c (l++[w],false)=(if w.At+w.A5.length=i/\goC w.Au c.toNat=true then
    (if w.Au=0\/mostC w.Au<w.A5.length+1 then .inr ([],(i:Int)) else .inl (l++[⟨w.Au,w.A5++[c],w.At⟩],false))
    else if kindC c.toNat=0 then .inr ([],(i:Int)) else .inl (l++[w]++[⟨kindC c.toNat,[c],i⟩],false)):=by simp[rstep,d,e,a]
   rw[hr];rw[oq (show 0<((l++[w]).length:Int) by rw[yd,vm];omega)];simp only[hlast,sbind];rw[w64 om om];by_cases p:w.At+w.A5.length=i;rw[oq p];by_cases q:goC w.Au c.toNat=true;rw[oq ⟨p,q⟩];simp only[q,bifT];rw[Jkr oh,sbind,Jg3 om,Qr8 om,sbind];by_cases h0:w.Au=0;simp only[h0,ya,true_or,toLpp];exact⟨trivial,λg a=>by cases a⟩;by_cases A:mostC w.Au<w.A5.length+1;have hd:decide ((mostC w.Au:Int)<((w.A5++[c]).length:Int))=true:=oo oh;simp only[h0,yo,hd,bifT,false_or,oq A];exact⟨rfl,λg a=>by cases a⟩;have hd:decide ((mostC w.Au:Int)<((w.A5++[c]).length:Int))=false:=oj oh;simp only[h0,yo,hd,bifF,false_or,ol A,f];refine⟨rfl,λg a=>?_⟩;cases a;refine⟨oh,λv G=>?_⟩;rcases yr.1 G with h | h;have:=j v (by simp[h]);omega;rw[xj.1 h];simp;omega;rw[ol (λh=>q h.2)];simp only[show goC w.Au c.toNat=false by simpa using q,bifF];exact⟨m,k⟩;rw[ol p,ol (λh=>p h.1)];exact⟨m,k⟩
def wsR(out:List Qo):List Qo ⊕ Nat->List Qo×Int
 | .inl a=>(out++a,-1)
 | .inr p=>([],(p:Int))
theorem Jkx(out ws):wsR out (.inl ws)=(out++ws,-1):=vw (vw rfl)
theorem Jky(out p):wsR out (.inr p)=([],(p:Int)):=vw (vw rfl)
theorem Q8f(i b):rscan [] i b=(b.1,(-1:Int)):=vw (vw rfl)
theorem Qoi{c r i b a}(h:rstep i c b=.inl a):rscan (c::r) i b=rscan r (i+1) a:=by unfold rscan;simp only[runG,h]
theorem Q8g{c r i b t}(h:rstep i c b=.inr t):rscan (c::r) i b=t:=by unfold rscan;simp only[runG,h]
theorem Jb0{c:Nat}(h:kindC c≠0):blkB c=false/\c≠35:=by
 constructor;cases hb:blkB c with
 | false=>rfl
 | true=>
   exfalso;apply h;simp only[blkB,gr] at hb;rcases hb with rfl | rfl | rfl | rfl<;>decide
 rintro rfl;exact h oz
theorem Jkz{k:Int}{c:Nat}(h:goC k c=true):kindC c≠0:=by unfold goC at h;unfold kindC;simp only[Bool.or_eq_true,ug] at h;rcases h with ⟨_,h⟩ | ⟨_,h | h⟩;rw[oq h];decide;rw[oq h];split<;>decide;rw[oq h];decide
theorem blk10:blkB 10=true:=oz
theorem Jb1:∀(s:List UInt8) (i:Nat) (out),rscan s i (out,true)=rscan (s.dropWhile (λb=>b.toNat≠10)) (i+(s.takeWhile (λb=>b.toNat≠10)).length) (out,true)
 | [],i,out=>rfl
 | c::s,i,out=>by
   rw[List.dropWhile_cons,vh];by_cases h:c.toNat=10;simp[h];simp only[ne_eq,h,not_false_eq_true,vt,ya,xn];have hr:rstep i c (out,true)=.inl (out,true):=by unfold rstep;simp only[h,yo];split<;>simp
   rw[Qoi hr,Jb1 s (i+1) out];rw[show i+((s.takeWhile (λb=>decide (b.toNat≠10))).length+1)=i+1+(s.takeWhile (λb=>decide (b.toNat≠10))).length by omega]
theorem Q8h(l:List Qo)(w):(l++[w]).getLast?=some w:=oc
theorem Jfi{i:Nat}{c:UInt8}{l}{k:Int}{t:List UInt8}{a:Nat}(d:goC k c.toNat=true)(f:a+t.length=i)(hk:k≠0):
 rstep i c (l++[⟨k,t,a⟩],false)=if mostC k<t.length+1 then .inr ([],(i:Int)) else .inl (l++[⟨k,t++[c],a⟩],false):=by
 obtain⟨g1,e⟩:=Jb0 (Jkz d);have g3:c.toNat≠10:=λh=>by rw[h,blk10] at g1;cases g1
 unfold rstep;simp only[ol e,ol g3,g1,Bool.or_self,wx,yo,Q8h];rw[oq ⟨om,d⟩];simp only[hk,false_or,List.dropLast_concat]
theorem Jb2:∀(p s:List UInt8) (i:Nat) (l:List Qo) (k:Int) (t:List UInt8) (a:Nat),(∀ b∈p,goC k b.toNat=true)->a+t.length=i->k≠0->t.length<=mostC k ->
 rscan (p++s) i (l++[⟨k,t,a⟩],false)=if mostC k<t.length+p.length then ([],((a+mostC k:Nat):Int)) else rscan s (i+p.length) (l++[⟨k,t++p,a⟩],false)
 | [],s,i,l,k,t,a,_,_,_,f=>by rw[ol oh];simp
 | c::p,s,i,l,k,t,a,hp,e,hk,f=>by have hs:=Jfi (l:=l) (hp c (.head _)) e hk;rw[yj];by_cases d:mostC k<t.length+1;rw[oq d] at hs;rw[Q8g hs,oq oh];rw[show i=a+mostC k by omega];rw[ol d] at hs;rw[Qoi hs,Jb2 p s (i+1) l k (t++[c]) a (λb hb=>hp b (.tail _ hb)) oh hk oh];simp only[yd,xn,xf,jb,ye];rw[show t.length+(0+1)+p.length=t.length+(p.length+1) by omega,show i+1+p.length=i+(p.length+1) by omega]
theorem Q8i{out:List Qo}{i j:Nat}{s s'}(h:fresh out i s)(f:i<j):fresh out j s':=λw a=>by obtain⟨d,_⟩:=h w a;exact⟨om,λc r _ e=>om⟩
theorem Jc8{i:Nat}{c:UInt8}{r out}(e:fresh out i (c::r))(a:blkB c.toNat=false)(d:c.toNat≠35):
 rstep i c (out,false)=if kindC c.toNat=0 then .inr ([],(i:Int)) else .inl (out++[⟨kindC c.toNat,[c],i⟩],false):=by
 have g3:c.toNat≠10:=λh=>by rw[h,blk10] at a;cases a
 unfold rstep;simp only[ol d,ol g3,a,Bool.or_self,wx,yo];cases f:out.getLast? with
 | none=>rfl
 | some w=>
   obtain⟨k1,k2⟩:=e w f;simp only[];rw[ol (λh=>by have:=k2 c r rfl h.1;rw[h.2] at this;cases this)]
theorem Jhg(out w x):wsR out (wcons w x)=wsR (out++[w]) x:=by cases x<;>simp[wsR,wcons]
theorem Q1e:∀(m:Nat) (s:List UInt8) (i:Nat) (out),s.length<=m->fresh out i s->rscan s i (out,false)=wsR out (scanS s i)
 | _,[],i,out,_,_=>by rw[Q8f,Qq4];simp[wsR]
 | 0,_::_,_,_,h,_=>by simp at h
 | m+1,c::r,i,out,F,v=>by
   rw[Qpy];have x:r.length<=m:=by simp at F;omega
   by_cases hb:blkB c.toNat=true
   . rw[oq hb]
     have a:c.toNat≠35:=λh=>by rw[h] at hb;exact absurd hb oz
     have hs:rstep i c (out,false)=.inl (out,false):=by unfold rstep;simp only[ol a,hb,Bool.or_true,ya];split<;>rfl
     rw[Qoi hs];exact Q1e m r (i+1) out x (Q8i v om)
   . rw[ol hb]
     have u:blkB c.toNat=false:=by simpa using hb
     by_cases a:c.toNat=35
     . rw[oq a]
       have hs:rstep i c (out,false)=.inl (out,true):=by unfold rstep;simp only[oq a,Bool.true_or,ya]
       rw[Qoi hs,Jb1];have hd:=Ql3 (λb:UInt8=>decide (b.toNat≠10)) r;generalize G:i+1+(r.takeWhile (λb=>decide (b.toNat≠10))).length=j;have E:i<j:=om
       cases t:r.dropWhile (λb=>decide (b.toNat≠10)) with
       | nil=>rw[Q8f,Qq4];simp[wsR]
       | cons d q=>
         have f:d.toNat=10:=by have:=List.head?_dropWhile_not (λb:UInt8=>decide (b.toNat≠10)) r;rw[t] at this;simpa using this
         have y:rstep j d (out,true)=.inl (out,false):=by unfold rstep;simp[f,blkB]
         rw[Qoi y,Qpy,oq (by rw[f];decide)];rw[t] at hd;exact Q1e m q (j+1) out (by simp at hd;omega) (Q8i v om)
     . rw[ol a]
       have hs:=Jc8 v u a;by_cases h0:kindC c.toNat=0
       . rw[oq h0] at hs |-
         rw[Q8g hs];rfl
       . rw[ol h0] at hs |-
         rw[Qoi hs];generalize hk:kindC c.toNat=k at *
         have n:∀ b∈tailK k r,goC k b.toNat=true:=λb hb=>by have:=List.all_takeWhile (p:=λb:UInt8=>goC k b.toNat) (l:=r);exact(jr.1 this) b hb
         have hsplit:r=tailK k r++r.drop (tailK k r).length:=by
          have B:=Qwz (λb:UInt8=>goC k b.toNat) r;have C:tailK k r=r.take (tailK k r).length:=B
          conv=>lhs;rw[<-uc (tailK k r).length r]
          rw[<-C]
         have g:=Jb2 (tailK k r) (r.drop (tailK k r).length) (i+1) out k [c] i n oc h0 (Q29 k).1;rw[<-hsplit] at g;rw[g];simp only[vm,jb];by_cases e:mostC k<1+(tailK k r).length
         . rw[oq e,oq e];rfl
         . rw[ol e,ol e,Jhg]
           refine Q1e m _ _ _ (by rw[uz];omega) ?_;intro w A;rw[Q8h] at A;cases A;refine⟨oh,λd q t _=>?_⟩;have:r[(tailK k r).length]?=some d:=by
            have:=um (λl=>l[0]?) t
            simpa using this
           exact Qrp (p:=λb:UInt8=>goC k b.toNat) this
theorem Q1s{n:Nat}{s:List UInt8}(hn:big<=n):Qa6 n s=some (if 4000<s.length then ([],4000) else wsR [] (scanS s 0)):=by rw[Q48 hn,Q1e s.length s 0 [] (xm _) (λw h=>by cases h)]
theorem Qq5:∀(m:Nat) (s:List UInt8) (i:Nat) (a),s.length<=m->scanS s i=.inl a->∀ w∈a,w.A5.length<=s.length
 | _,[],i,a,_,h=>by rw[Qq4] at h;cases h;simp
 | 0,_::_,_,_,h,_=>by simp at h
 | m+1,c::r,i,a,n,h=>by
   have g:r.length<=m:=by simp at n;omega
   rw[Qpy] at h;intro w j;rw[xn];by_cases hb:blkB c.toNat=true;rw[oq hb] at h;have:=Qq5 m r _ a g h w j;omega;rw[ol hb] at h;by_cases d:c.toNat=35;rw[oq d] at h;have hd:=Ql3 (λb:UInt8=>decide (b.toNat≠10)) r;have:=Qq5 m _ _ a om h w j;omega;rw[ol d] at h;by_cases h0:kindC c.toNat=0;rw[oq h0] at h;cases h;rw[ol h0] at h;by_cases e:mostC (kindC c.toNat)<1+(tailK (kindC c.toNat) r).length;rw[oq e] at h;cases h;rw[ol e] at h;cases f:scanS (r.drop (tailK (kindC c.toNat) r).length) (i+1+(tailK (kindC c.toNat) r).length) with
   | inr p=>rw[f] at h;cases h
   | inl l=>
     rw[f] at h;cases h;rcases xu.1 j with rfl | k;simp only[xn];have:(tailK (kindC c.toNat) r).length<=r.length:=Qte _ _;omega;have:=Qq5 m _ _ l (by rw[uz];omega) f w k;rw[uz] at this;omega
theorem Q3a(k:Int)(c:UInt8)(r:List UInt8):wdB k (c::r)=true↔k≠0/\kindC c.toNat=k/\r.all (λb=>goC k b.toNat)=true/\r.length+1<=mostC k:=by simp[wdB]
theorem Jhh{k:Int}{r:List UInt8}(h:r.all (λb=>goC k b.toNat)=true):tailK k r=r:=by have a:=Qnw.2 h;have d:=Qwz (λb:UInt8=>goC k b.toNat) r;unfold tailK;rw[d,a,xh]
theorem Ji6{k:Int}{t:List UInt8}(h:wdB k t=true)(i:Nat):scanS t i=.inl [⟨k,t,i⟩]:=by
 cases t with
 | nil=>cases h
 | cons c r=>
   obtain⟨a,d,f,g⟩:=(Q3a k c r).1 h;obtain⟨g1,e⟩:=Jb0 (c:=c.toNat) (by rw[d];exact a);rw[Qpy,ol (by rw[g1];decide),ol e,d,ol a,Jhh f,ol om,List.drop_length,Qq4];rfl
theorem Q3b{n:Nat}{w:Qo}(hn:big<=n):Qci n w=some (wdB w.Au w.A5):=by
 unfold Qci;rw[Q1s hn,sbind];by_cases g:4000<w.A5.length;rw[oq g];have:wdB w.Au w.A5=false:=by
  cases i:w.A5 with
  | nil=>rfl
  | cons c r=>
    rw[i] at g;cases hb:wdB w.Au (c::r) with
    | false=>rfl
    | true=>have:=((Q3a _ c r).1 hb).2.2.2;have:=(Q29 w.Au).2;simp at g;omega
 rw[this];rfl;rw[ol g];cases hb:wdB w.Au w.A5 with
 | true=>rw[Ji6 hb];simp[wsR,jn_eq,getI]
 | false=>
   cases hs:scanS w.A5 0 with
   | inr p=>rw[Jky];simp only[jn_eq,bifd];rw[ol om]
   | inl k=>
     rw[Jkx,yw];simp only[jn_eq,bifd];rw[oq oz]
     match k,hs with
     | [],_=>rfl
     | [v],hs=>
       simp only[show(([v].length:Nat):Int)=1 by rfl,ya,show getI [v] (0:Int)=some v by rfl,sbind];by_cases hk:v.Au=w.Au;rw[oq hk];by_cases d:v.A5=w.A5;exfalso;cases i:w.A5 with
       | nil=>rw[i,Qq4] at hs;cases hs
       | cons c r=>
         rw[i] at hs hb d;rw[Qpy] at hs;by_cases g1:blkB c.toNat=true;rw[oq g1] at hs;have:=Qq5 r.length r _ _ (xm _) hs v oc;rw[d] at this;simp at this;omega;rw[ol g1] at hs;by_cases e:c.toNat=35;rw[oq e] at hs;have hd:=Ql3 (λb:UInt8=>decide (b.toNat≠10)) r;have:=Qq5 _ _ _ _ (xm _) hs v oc;rw[d] at this;simp at this;simp at hd;omega;rw[ol e] at hs;by_cases h0:kindC c.toNat=0;rw[oq h0] at hs;cases hs;rw[ol h0] at hs;by_cases a:mostC (kindC c.toNat)<1+(tailK (kindC c.toNat) r).length;rw[oq a] at hs;cases hs;rw[ol a] at hs;cases j:scanS (r.drop (tailK (kindC c.toNat) r).length) (0+1+(tailK (kindC c.toNat) r).length) with
         | inr p=>rw[j] at hs;cases hs
         | inl l=>
           rw[j] at hs;simp only[wcons,Sum.inl.injEq,List.cons.injEq] at hs;obtain⟨rfl,_⟩:=hs;simp only at d hk;have f:tailK (kindC c.toNat) r=r:=(List.cons.inj d).2;have:wdB w.Au (c::r)=true:=by rw[Q3a,<-hk];refine⟨h0,rfl,?_,by rw[f] at a;omega⟩;exact Qnw.1 (by have:=um List.length f;exact this)
           rw[this] at hb;cases hb
       simp[d];rw[ol hk]
     | v::u::l,_=>rw[ol oh]
theorem Q3c{R:Type}{f:Int->Option (Lp Int (Lp Unit R))}{K:Unit->Option R}{n:Nat}(P:Nat->Prop)(r:Nat->R)(N:Nat)
 (hb:∀ i,i<N->(P i->f (i:Int)=some (.go ((i+1:Nat):Int)))/\(¬ P i->f (i:Int)=some (.out (.out (r i))))) (p:f (N:Int)=some (.out (.go ()))) (hn:N<n) :
 ((∀ i,i<N->P i)/\(loopM f n 0).bind (lpK K)=K ())\/(¬(∀ i,i<N->P i)/\∃ j,(loopM f n 0).bind (lpK K)=some (r j)):=by
 have key:∀(m k n:Nat),k+m=N->m<n->((∀ i,k<=i->i<N->P i)/\(loopM f n (k:Int)).bind (lpK K)=K ())\/(¬(∀ i,k<=i->i<N->P i)/\∃ j,(loopM f n (k:Int)).bind (lpK K)=some (r j)):=by
  intro m
  induction m with
  | zero=>
    intro k n hk hn;obtain rfl:k=N:=om
    exact .inl ⟨λi g l=>om,by rw[Vv p om,xq,Wv]⟩
  | succ m q=>
    intro k n hk hn;obtain⟨e,rfl⟩:∃ e,n=e+1:=⟨n - 1,om⟩
    obtain⟨g,l⟩:=hb k om;by_cases hp:P k;rw[Qbp (g hp)];rcases q (k+1) e om om with ⟨g1,d⟩ | ⟨g1,d⟩;refine .inl ⟨λi a b=>?_,d⟩;rcases jv a with c | c;exact c ▸ hp;exact g1 i c b;exact .inr ⟨λh=>g1 λi a b=>h i om b,d⟩;exact .inr ⟨λh=>hp (h k (xm _) om),k,by rw[Vv (l hp) om,xq,Qap]⟩
 have:=key N 0 n om hn;simp only[yb,true_implies] at this;exact this
theorem Qrv(x a b:Int):Km x a b=some (decide (a<=x/\x<=b)):=by unfold Km;simp only[jn_eq,bifd];by_cases h:a<=x;rw[oq h];simp[h];rw[ol h];simp[h]
theorem Jng{a b:Qb}(h:tF a=tF b):a=b:=by obtain⟨s,x,d⟩:=a;obtain⟨t,y,e⟩:=b;unfold tF at h;simp only[] at h;cases h;rfl
theorem Jnh(q:Rat):tF (rF q)=toF q:=rfl
theorem Qdy{f:Qb}:rF (fr f)=f↔tF f=toF (fv (tF f)):=by rw[fr_tF,<-Jnh];exact⟨λh=>by rw[h],λh=>(Jng h).symm⟩
theorem Fk_wd{k:Nat}{f:Qb}(h:Fk k (tF f)):Wd f.N/\Wd f.D/\f.N.length<=k/\f.D.length<=k:=⟨h.1,h.2.2.1,h.2.1,h.2.2.2⟩
theorem Jb3{n k:Nat}{f:Qb}{β:Type}(g:Bool->Option β)(hn:big<=n)(hk:k<274877906944)(a:1<=k)(h:Fk k (tF f)):((K5 n f).bind λr=>(Ki n r f).bind g)=g (dP (tF f=toF (fv (tF f)))):=by obtain⟨w1,e,j,l⟩:=Fk_wd h;have d:=qw_fr (Fk_wd h) a;have i:=Q65 d;rw[Qcu hn w1 e om om,sbind,Qpw hn om om,sbind,@decP _ (Classical.propDecidable _),dP_c Qdy]
theorem Q66{n k i:Nat}{t:Jf}{x:Ju}(hn:big<=n)(hk:k<274877906944)(y:1<=k)(C:Fk k (tF x.N))(hi:i<1000000)
 (hd:-9223372036854775807<=t.Ax) (A:t.Ax<=9223372036854775807) (hp:-9223372036854775807<=t.A1) (B:t.A1<=9223372036854775807):Qbk n x (i:Int) t.Ax t.A1=some (dP (mayR (tT t) i (tI x))):=by
 unfold Qbk mayR;have eN:(tI x).N=tF x.N:=rfl;have eO:(tI x).Op=x.Op:=rfl;have eA:(tI x).A=x.A:=rfl;have eB:(tI x).B=x.B:=rfl;have eD:(tT t).Ax=t.Ax:=rfl;have eP:(tT t).A1=t.A1:=rfl;simp only[eN,eO,eA,eB,eD,eP];rw[bifd];by_cases c1:x.Op=1;rw[oq c1];simp only[oq c1,jn_eq,bifd];by_cases a:x.A=0;rw[oq a];by_cases b:x.B=0;rw[oq b,Jb3 (λr=>some r) hn hk y C];exact Q1c ⟨λh=>⟨a,b,h⟩,λh=>h.2.2⟩;rw[ol b,dP_f λh=>b h.2.1];rw[ol a,dP_f λh=>a h.1];rw[ol c1];simp only[ol c1,jn_eq];have hb:blankF (tF x.N)↔x.N.Neg=false/\x.N.N.length=0/\x.N.D.length=0:=by
  unfold blankF tF;exact⟨λh=>⟨h.1,um List.length h.2.1,um List.length h.2.2⟩,λh=>⟨h.1,xd h.2.1,xd h.2.2⟩⟩
 by_cases g:x.N.Neg=true;rw[g,bifT,bifT,dP_f λh=>by have:=(hb.1 h.1).1;rw[g] at this;cases this];have f:x.N.Neg=false:=by simpa using g
 rw[f,bifF];simp only[bifd];by_cases s:(0:Int)<(x.N.N.length:Int);rw[oq s,bifT,dP_f λh=>by have:=(hb.1 h.1).2.1;omega];rw[ol s];by_cases u:(0:Int)<(x.N.D.length:Int);rw[oq u,dP_f λh=>by have:=(hb.1 h.1).2.2;omega];rw[ol u];have d:blankF (tF x.N):=hb.2 ⟨f,om,om⟩;simp only[Qrv,sbind,bifd];have eR:rdT (tI x)=if x.Op=6\/x.Op=11 then [x.A] else if x.Op=7\/x.Op=8\/x.Op=9\/x.Op=10 then [x.A,x.B] else []:=rfl
 have w1:wrap64 (t.Ax - 1)=t.Ax - 1:=w64 om om;have v:wrap64 (t.A1 - 1)=t.A1 - 1:=w64 om om;have w:wrap64 ((i:Int) - 1)=(i:Int) - 1:=w64 om om;rw[eR,w1,v,w];clear w1 v w;by_cases j:x.Op=2;simp only[oq j];rw[ol (show ¬(x.Op=6\/x.Op=11) by omega),ol (show ¬(x.Op=7\/x.Op=8\/x.Op=9\/x.Op=10) by omega)];exact Qks ⟨λh=>⟨d,λr hr=>(by cases hr),h⟩,λh=>h.2.2⟩;simp only[ol j];by_cases l:x.Op=3;simp only[oq l];rw[ol (show ¬(x.Op=6\/x.Op=11) by omega),ol (show ¬(x.Op=7\/x.Op=8\/x.Op=9\/x.Op=10) by omega)];exact Qks ⟨λh=>⟨d,λr hr=>(by cases hr),om⟩,λh=>by have:=h.2.2;omega⟩;simp only[ol l];by_cases m:x.Op=4;simp only[oq m];rw[ol (show ¬(x.Op=6\/x.Op=11) by omega),ol (show ¬(x.Op=7\/x.Op=8\/x.Op=9\/x.Op=10) by omega)];exact Qks ⟨λh=>⟨d,λr hr=>(by cases hr),om⟩,λh=>by have:=h.2.2;omega⟩;simp only[ol m];by_cases p:x.Op=6;simp only[oq p];rw[oq (show x.Op=6\/x.Op=11 by omega)];exact Qks ⟨λh=>⟨d,λr hr=>(by rw[xj.1 hr];omega),h.2⟩,λh=>⟨by have:=h.2.1 x.A oc;omega,h.2.2⟩⟩;simp only[ol p];by_cases e:x.Op=11;simp only[oq e];rw[oq (show x.Op=6\/x.Op=11 by omega)];exact Qks ⟨λh=>⟨d,λr hr=>(by rw[xj.1 hr];omega),h.2⟩,λh=>⟨by have:=h.2.1 x.A oc;omega,h.2.2⟩⟩;simp only[ol e];rw[ol (show ¬(x.Op=6\/x.Op=11) by omega)];by_cases q:7<=x.Op/\x.Op<=10;rw[oq q,oq (show x.Op=7\/x.Op=8\/x.Op=9\/x.Op=10 by omega)]
 exact Qks ⟨λh=>⟨d,λr hr=>(by
  rcases xu.1 hr with rfl | hr;omega
  rw[xj.1 hr];omega),rfl⟩,λh=>⟨by have:=h.2.1 x.A oc;omega,by have:=h.2.1 x.B oc;omega⟩⟩
 rw[ol q,ol (show ¬(x.Op=7\/x.Op=8\/x.Op=9\/x.Op=10) by omega),dP_f λh=>by have:=h.2.2;simp at this]
theorem Qcw{α β:Type}(f:α->β){l:List α}{i:Nat}{x:α}(h:l[i]?=some x):(l.map f)[i]?=some (f x):=by rw[xr,h];rfl
theorem Q3d{n k:Nat}{t:Jf}(hn:big<=n)(hk:k<274877906944)(H:1<=k)(l:∀ x∈t.Code,Fk k (tF x.N))(_:t.Aw.length<=1000000):
 ∃ v,Qch n t=some v/\(v=-1↔tapeR (tT t)):=by
 unfold Qch;simp only[jn_eq,Qrv,sbind,bifnd];have p:wholeR (tT t)↔((1<=t.Ax/\t.Ax<=6)/\(0<=t.A1/\t.A1<=6)/\(t.Aw.length:Int)=t.Ax/\t.Code.length<=300):=by unfold wholeR tT;simp only[ot]
 by_cases c1:1<=t.Ax/\t.Ax<=6
 case neg=>rw[ol c1];exact⟨-2,rfl,λh=>om,λh=>absurd (p.1 h.1).1 c1⟩
 rw[oq c1];by_cases s:0<=t.A1/\t.A1<=6
 case neg=>rw[ol s];exact⟨-2,rfl,λh=>om,λh=>absurd (p.1 h.1).2.1 s⟩
 rw[oq s];by_cases u:(t.Aw.length:Int)=t.Ax
 case neg=>rw[ol u];exact⟨-2,rfl,λh=>om,λh=>absurd (p.1 h.1).2.2.1 u⟩
 rw[oq u];by_cases G:(300:Int)<(t.Code.length:Int)
 . rw[oo G,bifT];exact⟨-2,rfl,λh=>om,λh=>by have:=(p.1 h.1).2.2.2;omega⟩
 rw[oj G,bifF];have C:wholeR (tT t):=p.2 ⟨c1,s,u,om⟩
 rcases Q3c (f:=λ(d:Int)=>
  bif decide (d<(t.Code.length:Int)) then (
   (getI t.Code d).bind λF=>
   (Qbk n F d t.Ax t.A1).bind λE=>
   bif !E then (
    some (Lp.out (Lp.out (d))))
   else (
    some (Lp.go (wrap64 (d+(1:Int))))))
  else (
   some (Lp.out (Lp.go ())))) (n:=n) (K:=λ(_:Unit)=>
  (loopM (λ(a:Int)=>
   bif decide (a<(t.Aw.length:Int)) then (
    (getI t.Aw a).bind λe=>
    if (0<=e/\e<=(wrap64 ((t.Code.length:Int) - (1:Int)))) then (
     some (Lp.go (wrap64 (a+(1:Int)))))
    else (
     some (Lp.out (Lp.out ((t.Code.length:Int))))))
   else (
    some (Lp.out (Lp.go ())))) n (0:Int)).bind (lpK λ(_:Unit)=>
  some (-1:Int))) (λi=>∀ x,t.Code[i]?=some x->mayR (tT t) i (tI x)) (λi=>(i:Int)) t.Code.length (λi hi=>by
  have hp:t.Code[i]?=some t.Code[i]:=oi hi;have q:=l t.Code[i] (xa hi);generalize t.Code[i]=x at hp q;rw[oo om,bifT,Jd hp,sbind,Q66 hn hk H q om om om om om,sbind,w1 om]
  exact⟨λh=>by rw[dP_t (h x hp)];rfl,λh=>by rw[dP_f λg=>h λy r=>by rw[hp] at r;cases r;exact g];rfl⟩) (by rw[oj om];rfl) (by unfold big at hn;omega) with ⟨g1,A⟩ | ⟨g1,j,A⟩
 . have m:∀(i:Nat) x,(tT t).Code[i]?=some x->mayR (tT t) i x:=by
    intro i x l;unfold tT at l;simp only[xr] at l;cases w:t.Code[i]? with
    | none=>rw[w] at l;cases l
    | some y=>rw[w] at l;cases l;exact g1 i (J8 w) y w
   rw[A]
   rcases Q3c (f:=λ(a:Int)=>
    bif decide (a<(t.Aw.length:Int)) then (
     (getI t.Aw a).bind λe=>
     if (0<=e/\e<=(wrap64 ((t.Code.length:Int) - (1:Int)))) then (
      some (Lp.go (wrap64 (a+(1:Int)))))
     else (
      some (Lp.out (Lp.out ((t.Code.length:Int))))))
    else (
     some (Lp.out (Lp.go ())))) (n:=n) (K:=λ(_:Unit)=>some (-1:Int)) (λi=>∀ o,t.Aw[i]?=some o->0<=o/\o<(t.Code.length:Int)) (λ_=>(t.Code.length:Int)) t.Aw.length (λi hi=>by
    have hp:t.Aw[i]?=some t.Aw[i]:=oi hi;generalize t.Aw[i]=x at hp;rw[oo om,bifT,Jd hp,sbind,w1 om,w64 om om]
    exact⟨λh=>by rw[oq (by have:=h x hp;omega)],λh=>by rw[ol (λg=>h λy r=>by rw[hp] at r;cases r;omega)]⟩) (by rw[oj om];rfl) (by unfold big at hn;omega) with ⟨g3,g4⟩ | ⟨g3,j,g4⟩
   . refine⟨-1,g4,λ_=>⟨C,m,λo B=>?_⟩,λ_=>rfl⟩
     obtain⟨i,hi⟩:=vc B;have:=g3 i (J8 hi) o hi;unfold tT;simp only[ot];exact this
   . refine⟨_,g4,λh=>om,λh=>absurd (λi hi o B=>?_) g3⟩
     have:=h.2.2 o (Jw B);unfold tT at this;simp only[ot] at this;exact this
 . refine⟨_,A,λh=>om,λh=>absurd (λi hi x l=>?_) g1⟩
   exact h.2.1 i (tI x) (Qcw tI l)
theorem Qsh{f:Qb}(h:numR (tF f)):rF (fr f)=f:=Qdy.2 h.1
theorem Qmm{n k:Nat}{l:List Qb}(hn:big<=n)(hk:k<274877906944)(j:1<=k)(h:FKs k l)(s:l.length<=1000000):Y3 n l=some (!dP (∀ f∈l,numR (tF f))):=by
 unfold Y3;rw[Qj7 (λi=>∀ f,l[i]?=some f->numR (tF f)) l.length (r:=true)];have e:(∀ i,i<l.length->∀ f,l[i]?=some f->numR (tF f))↔∀ f∈l,numR (tF f):=by constructor;intro g f a;obtain⟨i,hi⟩:=vc a;exact g i (J8 hi) f hi;intro g i _ f a;exact g f (Jw a)
 by_cases g:∀ f∈l,numR (tF f);rw[oq (e.2 g),dP_t g];rfl;rw[ol (λh=>g (e.1 h)),dP_f g];rfl;intro i hi;have hp:l[i]?=some l[i]:=oi hi;have a:=h l[i] (xa hi);generalize l[i]=f at hp a;have p:(∀ g,l[i]?=some g->numR (tF g))↔numR (tF f):=⟨λg=>g f hp,λg y m=>by rw[hp] at m;cases m;exact g⟩
 rw[p,oo (show(i:Int)<(l.length:Int) by omega),bifT];simp only[jn_eq,Jd hp,sbind];rw[Jb3 _ hn hk j a,bifnP];unfold numR;by_cases c:tF f=toF (fv (tF f));rw[oq c];have hr:rF (fr f)=f:=Qdy.2 c;have hs:=Qk3 (q:=fr f) hn hk (qw_fr (Fk_wd a) j);rw[hr] at hs;rw[hs,sbind,fr_tF,w1 om];by_cases d:qz (fr f)<=190;exact⟨λ_=>by rw[oj om,bifF],λg=>absurd ⟨c,d⟩ g⟩;exact⟨λg=>absurd g.2 d,λ_=>by rw[oo om,bifT]⟩;rw[ol c];exact⟨λg=>absurd g.1 c,λ_=>rfl⟩;rw[oj om];rfl;unfold big at hn;omega
theorem Q67{n k:Nat}{a:List Rat}(hn:big<=n)(j:1<=k)(hk:k<1048576)(d:QR k a)(p:a.length<=1000):Y5 n (rR a)=some (rF (sumQ a)):=by
 unfold Y5;rw[Qdf hn,sbind];rw[V3 (λi=>(rF (sumQ (a.take i)),(i:Int))) a.length (rF (sumQ a))];intro i hi;have hp:a[i]?=some a[i]:=oi hi;have g:=d a[i] (xa hi);generalize a[i]=x at hp g;have e:sumQ (a.take (i+1))=sumQ (a.take i)+x:=by rw[Yn hp];unfold sumQ;rw[jj];rfl
 have hb:=Qse (l:=a.take i) (b:=1) (z:=0) (λq f=>d q (ym f)) (by rw[Y8];exact xm _);have m:(a.take i).length*(k+1)<=1000*1048576:=gi oh om;rw[Kn,oo (show(i:Int)<(a.length:Int) by omega),bifT,Jd (Qh2 hp),sbind,Xd (k:=2000000000) hn om (by unfold sumQ;omega) om,sbind,e,w1 om];rw[Kn,oj (show ¬(a.length:Int)<(a.length:Int) by omega),bifF,xh];unfold big at hn;omega;rfl
theorem Qq6{l:List Qb}(h:∀ f∈l,numR (tF f)):rR (rvr l)=l:=by
 unfold rR rvr;rw[yt]
 conv=>rhs;rw[<-List.map_id l]
 exact wg λf a=>Qsh (h f a)
theorem Jb4{n k:Nat}{l:List Qb}{q:Rat}{β:Type}(g:Bool->Option β)(hn:big<=n)(d:1<=k)(hk:k<1048576)(h:FKs k l)(m:l.length<=8)(hr:∀ f∈l,numR (tF f)):
 ((Y5 n l).bind λr=>(Ki n r (rF q)).bind g)=g (decide (sumQ (rvr l)=q)):=by
 have i:QR k (rvr l):=Qnl (λf j=>Fk_wd (h f j)) d;have hb:=Qse (l:=rvr l) (b:=1) (z:=0) i (by rw[Y8];exact xm _);have p:(rvr l).length*(k+1)<=8*1048576:=gi (by rw[Qeg];exact m) om;have e:=Q67 (a:=rvr l) hn d hk i (by rw[Qeg];omega);rw[Qq6 hr] at e;rw[e,sbind,Qtk (k:=10000000) hn om (by unfold sumQ;omega),sbind]
theorem Qha{l:List Qb}:(∀ x∈l.map tF,numR x)↔∀ f∈l,numR (tF f):=
 ⟨λh f a=>h (tF f) (ur a),λh x d=>by obtain⟨f,a,rfl⟩:=xy.1 d;exact h f a⟩
theorem Jb5{σ ρ:Type}{A:(σ->Option ρ)->Option ρ}{k:σ->Option ρ}{Q:ρ->Prop}(b:σ)(d:∀ a,A a=a b)(hk:∃ v,k b=some v/\Q v):∃ v,jn A k=some v/\Q v:=by rw[jn_eq,d];exact hk
theorem Q0m{R:Type}{f:Int->Option (Lp Int (Lp Unit R))}{K:Unit->Option R}{n:Nat}{Q:R->Prop}(P:Nat->Prop)(r:R)(N:Nat)
 (hb:∀ i,i<N->(P i->f (i:Int)=some (.go ((i+1:Nat):Int)))/\(¬ P i->f (i:Int)=some (.out (.out r)))) (e:f (N:Int)=some (.out (.go ()))) (hn:N<n)
 (d:(∀ i,i<N->P i)->∃ v,K ()=some v/\Q v) (hr:¬(∀ i,i<N->P i)->Q r):∃ v,(loopM f n 0).bind (lpK K)=some v/\Q v:=by
 rcases Q3c (K:=K) P (λ_=>r) N hb e hn with ⟨g1,a⟩ | ⟨g1,j,a⟩;rw[a];exact d g1;exact⟨r,a,hr g1⟩
theorem bifExN{ρ:Type}{b:Bool}{x:ρ}{y:Option ρ}{Q:ρ->Prop}(a:b=false->Q x)(d:b=true->∃ v,y=some v/\Q v):∃ v,(bif !b then some x else y)=some v/\Q v:=by cases b;exact⟨x,rfl,a rfl⟩;exact d rfl
theorem Ql4{s:Jz}:shapeR (tS s)↔((1<=s.B.length/\s.B.length<=8)/\s.C.length=s.B.length/\s.A.length=s.B.length/\(s.E.length=s.B.length\/s.E.length=0))/\∀ i,i<s.B.length->∀ r,s.A[i]?=some r->r.length=i:=by
 have eB:(tS s).B=s.B.map tF:=rfl;have eC:(tS s).C=s.C.map tF:=rfl;have eE:(tS s).E=s.E.map tF:=rfl;have eA:(tS s).A=s.A.map (·.map tF):=rfl;unfold shapeR;rw[eB,eC,eE,eA];simp only[ot];refine⟨λh=>⟨⟨h.1,h.2.1,h.2.2.1,h.2.2.2.1⟩,λi _ r hr=>?_⟩,λh=>⟨h.1.1,h.1.2.1,h.1.2.2.1,h.1.2.2.2,λi r hr=>?_⟩⟩;have:=h.2.2.2.2 i (r.map tF) (Qcw _ hr);simpa using this;rw[xr] at hr;cases a:s.A[i]? with
 | none=>rw[a] at hr;cases hr
 | some y=>
   rw[a] at hr;cases hr;have:=h.2 i (by have:=J8 a;have:=h.1.2.2.1;omega) y a
   simpa using this
theorem Q3e{n k:Nat}{s:Jz}(hn:big<=n)(u:1<=k)(hk:k<1048576)(hs:SchWr k s):∃ v,Qcj n s=some v/\(v=0↔schR (tS s)):=by
 unfold Qcj;rw[Q3b hn,sbind];simp only[];unfold schR;have eNm:(tS s).A6=s.A6:=rfl;have eB:(tS s).B=s.B.map tF:=rfl;have eC:(tS s).C=s.C.map tF:=rfl;have eE:(tS s).E=s.E.map tF:=rfl;have eA:(tS s).A=s.A.map (·.map tF):=rfl;rw[eNm];refine bifExN (λT=>⟨λh=>om,λh=>by rw[T] at h;exact absurd h.1 oz⟩) λT=>?_;refine Jb5 (!decide ((1<=s.B.length/\s.B.length<=8)/\s.C.length=s.B.length/\s.A.length=s.B.length/\(s.E.length=s.B.length\/s.E.length=0))) (λN=>?_) ?_
 . simp only[bifd,bifnd]
   have I:∀ {P:Prop}[Decidable P],¬ P->N true=N (!decide P):=λh=>by rw[oj h];rfl
   by_cases c1:(s.B.length:Int)<1
   . rw[oq c1];exact I om
   rw[ol c1];by_cases U:(8:Int)<(s.B.length:Int)
   . rw[oq U];exact I om
   rw[ol U];by_cases V:(s.C.length:Int)=(s.B.length:Int)
   case neg=>rw[ol V];exact I om
   rw[oq V];by_cases W:(s.A.length:Int)=(s.B.length:Int)
   case neg=>rw[ol W];exact I om
   rw[oq W];by_cases X:(s.E.length:Int)=0
   . rw[oq X,oo om];rfl
   rw[ol X];by_cases Y:(s.E.length:Int)=(s.B.length:Int)
   . rw[oo Y,oo om]
   . rw[oj Y];exact I om
 refine bifExN (λp=>⟨λh=>om,λh=>absurd (Ql4.1 h.2.1).1 (jz p)⟩) λp=>?_;have p:=uf p;obtain⟨⟨b1,b2⟩,b3,b4,b5⟩:=p;have B:∀ i,i<s.B.length->∃ r,s.A[i]?=some r/\r∈s.A:=λi hi=>⟨s.A[i]' om,oi om,xa om⟩
 have G:∀ i,i<s.B.length->∃ r,s.C[i]?=some r/\r∈s.C:=λi hi=>⟨s.C[i]' om,oi om,xa om⟩
 have A:s.B.length<n:=by unfold big at hn;omega
 refine Q0m (λi=>∀ r,s.A[i]?=some r->r.length=i) 2 s.B.length (λi hi=>?_) ?_ A (λa=>?_) (λa=>⟨λh=>om,λh=>absurd (Ql4.1 h.2.1).2 a⟩)
 . obtain⟨r,hr,_⟩:=B i hi
   rw[oo (show(i:Int)<(s.B.length:Int) by omega),bifT,Jd hr,sbind,w1 om];exact⟨λh=>by rw[oo (show(r.length:Int)=(i:Int) by have:=h r hr;omega)];rfl,λh=>by rw[oj (λg=>h λy t=>by rw[hr] at t;cases t;omega)];rfl⟩
 . rw[oj om];rfl
 have hShape:shapeR (tS s):=Ql4.2 ⟨⟨⟨b1,b2⟩,b3,b4,b5⟩,a⟩;refine Q0m (λi=>∀ r,s.A[i]?=some r->∀ f∈r,numR (tF f)) 3 s.B.length (λi hi=>?_) ?_ A (λj=>?_) (λj=>⟨λh=>om,λh=>absurd (λi hi r hr=>Qha.1 (h.2.2.1.1 (r.map tF) (by rw[eA];exact ur (Jw hr)))) j⟩)
 . obtain⟨r,hr,H⟩:=B i hi
   rw[oo (show(i:Int)<(s.B.length:Int) by omega),bifT,Jd hr,sbind,Qmm hn om u (hs.a r H) (hs.al r H),sbind,w1 om];exact⟨λh=>by rw[dP_t (h r hr)];rfl,λh=>by rw[dP_f (λg=>h λy t=>by rw[hr] at t;cases t;exact g)];rfl⟩
 . rw[oj om];rfl
 refine Jb5 (!dP ((∀ f∈s.B,numR (tF f))/\(∀ f∈s.C,numR (tF f))/\∀ f∈s.E,numR (tF f))) (λN=>?_) ?_
 . rw[Qmm hn om u hs.b hs.bl,sbind]
   by_cases J:∀ f∈s.B,numR (tF f)
   case neg=>rw[dP_f J,dP_f (λh=>J h.1)];rfl
   rw[dP_t J,ov,bifF,Qmm hn om u hs.c hs.cl,sbind];by_cases K:∀ f∈s.C,numR (tF f)
   case neg=>rw[dP_f K,dP_f (λh=>K h.2.1)];rfl
   rw[dP_t K,ov,bifF,Qmm hn om u hs.e hs.el,sbind];by_cases L:∀ f∈s.E,numR (tF f)
   . rw[dP_t L,dP_t ⟨J,K,L⟩]
   . rw[dP_f L,dP_f (λh=>L h.2.2)]
 have Z:∀ r∈s.A,∀ f∈r,numR (tF f):=λr hr=>by obtain⟨i,hi⟩:=vc hr;exact j i (by have:=J8 hi;omega) r hi
 have O:∀ r∈(tS s).A,∀ x∈r,numR x:=λr hr=>by rw[eA] at hr;obtain⟨l,hl,rfl⟩:=xy.1 hr;exact Qha.2 (Z l hl)
 refine bifExN (λC=>⟨λh=>om,λh=>?_⟩) λC=>?_
 . exfalso
   have M:=h.2.2.1.2;rw[eB,eC,eE] at M;rw[dP_t ⟨Qha.1 (M _ oc),Qha.1 (M _ oc),Qha.1 (M _ oc)⟩] at C;cases C
 have C:=Jg4.1 C;obtain⟨n1,n2,n3⟩:=C
 have Q:∀ r∈[(tS s).B,(tS s).C,(tS s).E],∀ x∈r,numR x:=λr hr=>by
  rw[eB,eC,eE] at hr;rcases xu.1 hr with rfl | hr
  . exact Qha.2 n1
  rcases xu.1 hr with rfl | hr
  . exact Qha.2 n2
  rcases xu.1 hr with rfl | hr
  . exact Qha.2 n3
  cases hr
 have eRows:rowsR (tS s)↔∀ i,i<s.B.length->∀ r c,s.A[i]?=some r->s.C[i]?=some c->sumQ (rvr r)=fr c:=by
  unfold rowsR;rw[eA,eC];constructor
  . intro h i _ r c hr d
    have:=h i (r.map tF) (Qcw _ hr);rw[Qef,ou,Qcw _ d] at this;exact this
  . intro h i r hr
    rw[xr] at hr;cases d:s.A[i]? with
    | none=>rw[d] at hr;cases hr
    | some y=>
      rw[d] at hr;cases hr;obtain⟨c,F,_⟩:=G i (by have:=J8 d;omega);rw[Qef,ou,Qcw _ F];exact h i (by have:=J8 d;omega) y c d F
 refine Q0m (λi=>∀ r c,s.A[i]?=some r->s.C[i]?=some c->sumQ (rvr r)=fr c) 4 s.B.length (λi hi=>?_) ?_ A (λm=>?_) (λm=>⟨λh=>om,λh=>absurd (eRows.1 h.2.2.2.1) m⟩)
 . obtain⟨r,hr,H⟩:=B i hi
   obtain⟨c,d,R⟩:=G i hi;have S:=Qsh (n2 c R);have e:=λ(g:Bool->Option (Lp Int (Lp Unit Int)))=>Jb4 (q:=fr c) g hn u hk (hs.a r H) (by have:=a i hi r hr;omega) (Z r H);rw[S] at e;rw[oo (show(i:Int)<(s.B.length:Int) by omega),bifT,Jd hr,sbind];simp only[Jd d,sbind];rw[e,w1 om];exact⟨λh=>by rw[oo (h r c hr d)];rfl,λh=>by rw[oj (λg=>h λy z t hz=>by rw[hr] at t;cases t;rw[d] at hz;cases hz;exact g)];rfl⟩
 . rw[oj om];rfl
 have hRows:=eRows.2 m;rw[Quy hn,sbind,Jb4 _ hn u hk hs.b om n1];have rB:rv (tS s).B=rvr s.B:=by rw[eB,Qef]
 have rE:rv (tS s).E=rvr s.E:=by rw[eE,Qef]
 have eE0:(tS s).E≠[]↔s.E≠[]:=by rw[eE];simp
 rw[rB,rE,eE0];refine bifExN (λE=>⟨λh=>om,λh=>absurd h.2.2.2.2.1 (jz E)⟩) λE=>?_;have E:=uf E;refine Jb5 (!dP (s.E≠[]->sumQ (rvr s.E)=1)) (λN=>?_) ?_
 . by_cases w:s.E=[]
   . rw[w]
     rw[dP_t (λh=>absurd rfl h)];rfl
   . have:s.E.length≠0:=λh=>w (xd h)
     rw[oo (show(0:Int)<(s.E.length:Int) by omega),bifT,Jb4 _ hn u hk hs.e om n3];by_cases g:sumQ (rvr s.E)=1
     . rw[oo g,dP_t (λ_=>g)]
     . rw[oj g,dP_f (λh=>g (h w))]
 cases w:dP (s.E≠[]->sumQ (rvr s.E)=1)
 . rw[ow,bifT]
   exact⟨6,rfl,λh=>om,λh=>by rw[dP_t h.2.2.2.2.2] at w;cases w⟩
 . rw[ov,bifF]
   exact⟨0,rfl,λ_=>⟨T,hShape,⟨O,Q⟩,hRows,E,Jg4.1 w⟩,λ_=>rfl⟩
theorem Q3f{n k:Nat}{p:Qt}(hn:big<=n)(f:1<=k)(hk:k<1048576)(hp:PrbWr k p):Qck n p=some (dP (prbR (tP p))):=by
 unfold Qck prbR;simp only[jn_eq];obtain⟨v,g,d⟩:=Q3d hn (show k<274877906944 by omega) f hp.t hp.o;obtain⟨u,i,e⟩:=Q3e hn f hk hp.s;have eT:(tP p).Tape=tT p.Tape:=rfl;have eS:(tP p).Aq=tS p.Aq:=rfl;have eP:((tP p).P.length:Int)=(p.P.length:Int):=by unfold tP;simp
 have eR:(tT p.Tape).A1=p.Tape.A1:=rfl;rw[g,sbind,eT,eS,eP,eR,bifd];by_cases c1:v=-1;rw[oq c1,i,sbind,bifd];by_cases a:u=0;rw[oq a];exact Qed ⟨λh=>⟨d.1 c1,e.1 a,h⟩,λh=>h.2.2⟩;rw[ol a,dP_f λh=>a (e.2 h.2.1)];rw[ol c1,dP_f λh=>c1 (d.2 h.1)]
theorem Qkt{l:List Rat}{r:Int}(a:0<=r)(d:r<(l.length:Int)):getI (rR l) r=some (rF (l.getD r.toNat 0)):=by
 obtain⟨k,rfl⟩:∃ k:Nat,r=(k:Int):=⟨r.toNat,om⟩
 have hk:k<l.length:=om
 rw[Qgf,yh,Qh2 (oi hk),ou,oi hk];rfl
theorem Jd3{t:Qp}{i:Nat}{x:Q2}(h:mayR t i x):x.Op=1\/x.Op=2\/x.Op=3\/x.Op=4\/x.Op=6\/x.Op=11\/x.Op=7\/x.Op=8\/x.Op=9\/x.Op=10:=by unfold mayR at h;by_cases c1:x.Op=1;exact .inl c1;rw[ol c1] at h;by_cases d:x.Op=2;omega;rw[ol d] at h;by_cases e:x.Op=3;omega;rw[ol e] at h;by_cases f:x.Op=4;omega;rw[ol f] at h;by_cases g:x.Op=6;omega;rw[ol g] at h;by_cases a:x.Op=11;omega;rw[ol a] at h;have:=h.2.2;unfold rdT at this;rw[ol om] at this;by_cases j:x.Op=7\/x.Op=8\/x.Op=9\/x.Op=10;omega;rw[ol j] at this;simp at this
theorem Jni{t:Qp}{i:Nat}{x:Q2}(h:mayR t i x)(a:x.Op=1):x.N=toF (fv x.N):=by unfold mayR at h;rw[oq a] at h;exact h.2.2
theorem Q49{n k:Nat}{t:Jf}{x:Ju}{T:Rat}{Y P done:List Rat}(hn:big<=n)(j:1<=k)(hk:k<1048576)(m:mayR (tT t) done.length (tI x))(w:Fk k (tF x.N))
 (B:qw T<=k) (A:QR k Y) (y:QR k P) (u:QR k done) (E:(Y.length:Int)=t.Ax) (hp:(P.length:Int)=t.A1) :
 ∃ v,Qa8 n x ⟨rF T,rR Y,rR P⟩ (rR done)=some (match opQ (tI x) T Y P done with | none=>(v,false) | some q=>(rF q,true))/\∀ q,opQ (tI x) T Y P done=some q->qw q<=8*k+1:=by
 unfold Qa8 opQ Qd6;have eN:(tI x).N=tF x.N:=rfl;have eO:(tI x).Op=x.Op:=rfl;have eA:(tI x).A=x.A:=rfl;have eB:(tI x).B=x.B:=rfl;have p:=Qmf m;have dA:x.Op=6\/x.Op=11\/x.Op=7\/x.Op=8\/x.Op=9\/x.Op=10->getI (rR done) x.A=some (rF (done.getD x.A.toNat 0)):=λh=>Qkt (p _ (rdT_A (x:=tI x) h)).1 (p _ (rdT_A (x:=tI x) h)).2;have dB:x.Op=7\/x.Op=8\/x.Op=9\/x.Op=10->getI (rR done) x.B=some (rF (done.getD x.B.toNat 0)):=λh=>Qkt (p _ (rdT_B (x:=tI x) h)).1 (p _ (rdT_B (x:=tI x) h)).2;have qA:qw (done.getD x.A.toNat 0)<=k:=Vt u j;have qB:qw (done.getD x.B.toNat 0)<=k:=Vt u j;have l:=Jd3 m;rw[eO] at l;simp only[eN,eO,eA,eB,jn_eq];generalize done.getD x.A.toNat 0=a at dA qA |-;generalize done.getD x.B.toNat 0=b at dB qB |-;rcases l with h | h | h | h | h | h | h | h | h | h
 . simp only[h,Int.reduceEq,vt,ui,bifT,bifF,ya,yo]
   have hr:rF (fr x.N)=x.N:=Qdy.2 (Jni m h);have d:=qw_fr (Fk_wd w) j;refine⟨rF 0,by rw[fr_tF,hr],λq s=>?_⟩;have:q=fv (tF x.N):=(Option.some.inj s).symm;rw[this,fr_tF];omega
 . simp only[h,Int.reduceEq,vt,ui,bifT,bifF,yo]
   exact⟨rF 0,(by first | rfl | trivial),λq d=>by have:q=T:=(Option.some.inj d).symm;rw[this];omega⟩
 . obtain⟨a1,a2⟩:=Qwr m h
   have g:0<=x.A:=a1;have r:x.A<t.Ax:=a2;have e:getI (rR Y) x.A=some (rF (Y.getD x.A.toNat 0)):=Qkt g om;simp only[h,Int.reduceEq,vt,ui,bifT,bifF,ya,yo,e,sbind];exact⟨rF 0,(by first | rfl | trivial),λq d=>by have:q=Y.getD x.A.toNat 0:=(Option.some.inj d).symm;rw[this];have:=Vt (i:=x.A.toNat) A j;omega⟩
 . obtain⟨a1,a2⟩:=Qws m h
   have g:0<=x.A:=a1;have r:x.A<t.A1:=a2;have e:getI (rR P) x.A=some (rF (P.getD x.A.toNat 0)):=Qkt g om;simp only[h,Int.reduceEq,vt,ui,bifT,bifF,ya,yo,e,sbind];exact⟨rF 0,(by first | rfl | trivial),λq d=>by have:q=P.getD x.A.toNat 0:=(Option.some.inj d).symm;rw[this];have:=Vt (i:=x.A.toNat) y j;omega⟩
 . have e:=dA om
   simp only[h,Int.reduceEq,vt,ui,bifT,bifF,ya,yo,e,sbind,Qqk hn (show k<274877906944 by omega) qA];exact⟨rF 0,(by first | rfl | trivial),λq d=>by have:q=-a:=(Option.some.inj d).symm;rw[this,Qjk];omega⟩
 . have e:=dA om
   simp only[h,Int.reduceEq,vt,ui,bifT,bifF,ya,yo,e,sbind,Q64 hn (show k<1073741824 by omega) qA];refine⟨rF 0,?_,λq d=>?_⟩
   . split<;>rfl
   . split at d
     . cases d
     . rename_i C
       cases d;exact Qwq qA om
 . have e:=dA om
   have f:=dB om;simp only[h,Int.reduceEq,vt,ui,bifT,bifF,ya,yo,e,f,sbind,Xd hn (show k<274877906944 by omega) qA qB];exact⟨rF 0,(by first | rfl | trivial),λq d=>by have:q=a+b:=(Option.some.inj d).symm;rw[this];have:=Yz qA qB;omega⟩
 . have e:=dA om
   have f:=dB om;simp only[h,Int.reduceEq,vt,ui,bifT,bifF,ya,yo,e,f,sbind,Qql hn (show k<274877906944 by omega) qA qB];exact⟨rF 0,(by first | rfl | trivial),λq d=>by have:q=a - b:=(Option.some.inj d).symm;rw[this];have:=Q0a qA qB;omega⟩
 . have e:=dA om
   have f:=dB om;simp only[h,Int.reduceEq,vt,ui,bifT,bifF,ya,yo,e,f,sbind,Qac hn (show k<274877906944 by omega) qA qB];exact⟨rF 0,(by first | rfl | trivial),λq d=>by have:q=a*b:=(Option.some.inj d).symm;rw[this];have:=Xl qA qB;omega⟩
 . have e:=dA om
   have f:=dB om;simp only[h,Int.reduceEq,ui,bifT,bifF,ya,yo,e,f,sbind,Qh1,Qmk hn (show k<274877906944 by omega) qA qB];by_cases h0:b=0
   . rw[oo h0,bifT,oq h0]
     exact⟨rF b,(by first | rfl | trivial),λq d=>by cases d⟩
   . rw[oj h0,bifF,ol h0]
     exact⟨rF b,(by first | rfl | trivial),λq d=>by have:q=a / b:=(Option.some.inj d).symm;rw[this];have:=Qpn qA qB;omega⟩
theorem Qu0{n k:Nat}{t:Jf}{T:Rat}{Y P:List Rat}{lim:Int}(hn:big<=n)(Z:129<=k)(hk:k<1048576)(R:tapeR (tT t))(M:∀ c∈t.Code,Fk k (tF c.N))
 (O:qw T<=k) (Q:QR k Y) (N:QR k P) (S:(Y.length:Int)=t.Ax) (hp:(P.length:Int)=t.A1) (hg:lim<=4096) :
 Yj n t ⟨rF T,rR Y,rR P⟩ lim=some (match runQ lim T Y P (tT t).Code 0 [] with | .inl e=>([],e.1,(e.2:Int)) | .inr l=>(rR l,0,0)):=by
 obtain⟨⟨c1,W,X,I⟩,V,m2⟩:=R;have K:t.Code.length<=300:=by unfold tT at I;simpa using I
 have eC:(tT t).Code=t.Code.map tI:=rfl;unfold Yj
 have key:∀(m i f:Nat) (done:List Rat),i+m=t.Code.length->m<f->done.length=i->QR k done ->
  (loopM (λ(a:(List Qb)×Int)=>
  bif decide (a.2<(t.Code.length:Int)) then (
   (getI t.Code a.2).bind λG=>
   (Qa8 n G ⟨rF T,rR Y,rR P⟩ a.1).bind λd=>
   bif !d.2 then (
    some (Lp.out (Lp.out ((([]:List Qb),(3:Int),a.2)))))
   else (
    (K6 n d.1 lim).bind λE=>
    bif !E then (
     some (Lp.out (Lp.out ((([]:List Qb),(6:Int),a.2)))))
    else (
     (appM 56 a.1 ([d.1]:List Qb)).bind λH=>
     some (Lp.go (H,wrap64 (a.2+(1:Int)))))))
  else (
   some (Lp.out (Lp.go a.1)))) f (rR done,(i:Int))).bind (lpK λ(F:(List Qb))=>some (F,(0:Int),(0:Int)))=some (match runQ lim T Y P ((tT t).Code.drop i) i done with | .inl e=>([],e.1,(e.2:Int)) | .inr l=>(rR l,0,0)):=by
  intro m
  induction m with
  | zero=>
    intro i f done hi w hd A;rw[Vv (t:=Lp.go (rR done)) (by simp only[];rw[oj om];rfl) om,xq,Wv,eC,xl oh];rfl
  | succ m U=>
    intro i f done hi w hd A;obtain⟨n'',rfl⟩:∃ n'',f=n''+1:=⟨f - 1,om⟩
    have r:t.Code[i]?=some (t.Code[i]' om):=oi om;have j:=M (t.Code[i]' om) (xa om);generalize t.Code[i]' om=x at r j;have s:(tT t).Code[i]?=some (tI x):=by rw[eC];exact Qcw tI r
    have p:=V i (tI x) s;obtain⟨v,g,L⟩:=Q49 (T:=T) (Y:=Y) (P:=P) (done:=done) hn om hk (by rw[hd];exact p) j O Q N A S hp;rw[Qtf s];simp only[runQ];cases y:opQ (tI x) T Y P done with
    | none=>
      rw[y] at g
      rw[Vv (t:=Lp.out ([],3,(i:Int))) (by
       simp only[]
       rw[oo (show(i:Int)<(t.Code.length:Int) by omega),bifT,Jd r,sbind,g,sbind];rfl) om,xq,Qap]
    | some q=>
      rw[y] at g;have B:=L q y;have J:K6 n (rF q) lim=some (decide ((qz q:Int)<=lim)):=by unfold K6;rw[Qk3 (k:=8*k+1) hn om B,sbind]
      by_cases u:(qz q:Int)<=lim
      . have hq129:qw q<=129:=by have:=qw_qz (q:=q) (b:=4096) om;omega
        rw[Qbp (s':=(rR (done++[q]),((i+1:Nat):Int))) (by
         simp only[];rw[oo (show(i:Int)<(t.Code.length:Int) by omega),bifT,Jd r,sbind,g,sbind];simp only[]
         rw[ov,bifF,J,sbind,oo u,ov,bifF,J9 (by simp[Kn];omega) (by simp[Kn];omega),sbind,w1 om,Qoh])]
        rw[U (i+1) n'' (done++[q]) om om oh (λz C=>by
         rcases yr.1 C with h | h
         . exact A z h
         . rw[xj.1 h];omega)]
        simp only[];rw[oq u]
      . rw[Vv (t:=Lp.out ([],6,(i:Int))) (by
         simp only[];rw[oo (show(i:Int)<(t.Code.length:Int) by omega),bifT,Jd r,sbind,g,sbind];simp only[]
         rw[ov,bifF,J,sbind,oj u,ow,bifT]) om,xq,Qap]
        simp only[];rw[ol u]
 have:=key t.Code.length 0 n [] om (by unfold big at hn;omega) rfl (λ_ h=>by cases h);rw[dy] at this;exact this
theorem Q5a{n:Nat}{t:Jf}{l:List Rat}(hn:big<=n)(d:t.Aw.length<=1000000)(a:∀ o∈t.Aw,0<=o/\o<(l.length:Int)):Qa9 n t (rR l)=some (rR (t.Aw.map λo=>l.getD o.toNat 0)):=by unfold Qa9;rw[V3 (λi=>(rR ((t.Aw.take i).map λo=>l.getD o.toNat 0),(i:Int))) t.Aw.length (rR (t.Aw.map λo=>l.getD o.toNat 0))];intro i hi;have hp:t.Aw[i]?=some t.Aw[i]:=oi hi;have hb:=a t.Aw[i] (xa hi);generalize t.Aw[i]=o at hp hb;rw[oo (show(i:Int)<(t.Aw.length:Int) by omega),bifT,Jd hp,sbind,Qkt hb.1 hb.2,sbind,J9 (by simp[Kn];omega) (by simp[Kn];omega),sbind,w1 om,Yn hp,yx,List.map_singleton,Qoh];rw[oj om,bifF,xh];unfold big at hn;omega;rfl
theorem Qdz{n k:Nat}{l:List Rat}{lim:Int}(hn:big<=n)(hk:k<274877906944)(v:QR k l)(w:l.length<=1000000):
 Ke n (rR l) lim=some (match fitQ lim l 0 with | none=>(l.length:Int) | some j=>(j:Int)):=by
 unfold Ke
 have key:∀(m i d:Nat),i+m=l.length->m<d->(loopM (λ(a:Int)=>
  bif decide (a<((rR l).length:Int)) then (
   (getI (rR l) a).bind λr=>
   (K6 n r lim).bind λp=>
   bif !p then (
    some (Lp.out (Lp.out (a))))
   else (
    some (Lp.go (wrap64 (a+(1:Int))))))
  else (
   some (Lp.out (Lp.go ())))) d (i:Int)).bind (lpK λ(_:Unit)=>some ((rR l).length:Int))=some (match fitQ lim (l.drop i) i with | none=>(l.length:Int) | some j=>(j:Int)):=by
  intro m
  induction m with
  | zero=>
    intro i d hi g;rw[Vv (t:=Lp.go ()) (by simp only[Kn];rw[oj om];rfl) om,xq,Wv,xl om,Kn];rfl
  | succ m x=>
    intro i d hi g;obtain⟨n'',rfl⟩:∃ n'',d=n''+1:=⟨d - 1,om⟩
    have e:l[i]?=some (l[i]' om):=oi om;have u:=v (l[i]' om) (xa om);generalize l[i]' om=q at e u;have s:K6 n (rF q) lim=some (decide ((qz q:Int)<=lim)):=by unfold K6;rw[Qk3 (k:=k) hn om u,sbind]
    rw[Qtf e];simp only[fitQ];by_cases f:(qz q:Int)<=lim
    rw[Qbp (s':=((i+1:Nat):Int)) (by
     simp only[Kn]
     rw[oo (show(i:Int)<(l.length:Int) by omega),bifT,Jd (Qh2 e),sbind,s,sbind,oo f,ov,bifF,w1 om]),x (i+1) n'' om om,oq f]
    rw[Vv (t:=Lp.out (i:Int)) (by
     simp only[Kn]
     rw[oo (show(i:Int)<(l.length:Int) by omega),bifT,Jd (Qh2 e),sbind,s,sbind,oj f,ow,bifT]) om,xq,Qap,ol f]
 have:=key l.length 0 n om (by unfold big at hn;omega);rw[dy] at this;exact this
def mixI:List Rat->List (List Rat)->Nat->Rat->Rat
 | c::cs,a::l,i,z=>mixI cs l i (z+c*a.getD i 0)
 | _,_,_,z=>z
theorem Q0n:∀ {cs:List Rat}{l:List (List Rat)}{i:Nat}{z:Rat}{c a},cs.length=l.length->mixI (cs++[c]) (l++[a]) i z=mixI cs l i z+c*a.getD i 0
 | [],[],i,z,c,a,_=>rfl
 | [],_::_,_,_,_,_,h=>by simp at h
 | _::_,[],_,_,_,_,h=>by simp at h
 | x::cs,y::l,i,z,c,a,h=>by simp only[yj,mixI];exact Q0n (by simpa using h)
theorem Qoj{l:List Rat}{i:Nat}{x:Rat}(h:l[i]?=some x):l.getD i 0=x:=by rw[ou,h];rfl
theorem Ji7{g:Rat->Rat->Rat}{a z:List Rat}{i m:Nat}(f:a.length=m)(j:z.length=m)(hi:i<m):(List.zipWith g a z).getD i 0=g (a.getD i 0) (z.getD i 0):=by have d:a[i]?=some a[i]:=oi om;have e:z[i]?=some z[i]:=oi om;rw[Qoj d,Qoj e,ou,jh,d,e];rfl
theorem Q3g{m i:Nat}(hi:i<m):∀ {cs:List Rat}{l:List (List Rat)}{z:List Rat},(∀ a∈l,a.length=m)->z.length=m->(mixQ cs l z).getD i 0=mixI cs l i (z.getD i 0)
 | [],_,z,_,_=>by simp only[mixQ,mixI]
 | _::_,[],z,_,_=>by simp only[mixQ,mixI]
 | c::cs,a::l,z,d,f=>by simp only[mixQ,mixI];have e:=d a (.head _);rw[Q3g hi (λb hb=>d b (.tail _ hb)) oh,Ji7 e f hi]
theorem Qsi{j k:Nat}:∀ {cs:List Rat}{l:List (List Rat)}{i:Nat}{z:Rat}{b:Nat},1<=k->QR j cs->(∀ a∈l,QR k a)->qw z<=b->qw (mixI cs l i z)<=b+l.length*(j+k+1)
 | [],_,i,z,b,_,_,_,h=>by simp only[mixI];omega
 | _::_,[],i,z,b,_,_,_,h=>by simp only[mixI];omega
 | x::cs,y::l,i,z,b,d,e,f,h=>by simp only[mixI];have g:=Yz h (Xl (e x (.head _)) (Vt (i:=i) (f y (.head _)) d));have:=Qsi (i:=i) d (λq n=>e q (.tail _ n)) (λa m=>f a (.tail _ m)) g;rw[xn,ud];omega
theorem Ji8{H:Rat}{Y c:List Rat}{kss:List (List Rat)}{i:Nat}{y:Rat}(hk:∀ a∈kss,a.length=Y.length)(e:Y[i]?=some y):(fromQ H Y c kss)[i]?=some (y+H*mixI c kss i 0):=by
 have hi:=J8 e;have f:(mixQ c kss (List.replicate Y.length 0)).length=Y.length:=Qgv hk oc;have d:(mixQ c kss (List.replicate Y.length 0))[i]?=some (mixI c kss i 0):=by have:=Q3g (cs:=c) hi hk (show(List.replicate Y.length (0:Rat)).length=Y.length by simp);rw[Qoj (l:=List.replicate Y.length (0:Rat)) (x:=0) (by simp[hi])] at this;rw[<-this,ou,oi om];rfl
 unfold fromQ towQ addQ scaleQ;rw[jh,e,xr,d];rfl
def rRR(l:List (List Rat)):List (List Qb):=l.map rR
theorem Qw4(l:List (List Rat)):(rRR l).length=l.length:=by unfold rRR;simp
theorem Jb6(l:List (List Rat))(a:List Rat):rRR (l++[a])=rRR l++[rR a]:=by unfold rRR;simp
theorem Q68{l:List (List Rat)}{i:Nat}{a:List Rat}(h:l[i]?=some a):(rRR l)[i]?=some (rR a):=by unfold rRR;exact Qcw rR h
theorem Q69{n k i m:Nat}{H:Rat}{c:List Rat}{kss:List (List Rat)}(hn:big<=n)(h0:129<=k)(hk:k<16384)(E:qw H<=k)(p:QR k c)(f:∀ a∈kss,QR 129 a)(A:kss.length<=8)(r:c.length=kss.length)(s:∀ a∈kss,a.length=m)(hi:i<m):
 Qbw n (rR c) (rRR kss) (i:Int) (rF H)=some (rF (H*mixI c kss i 0)):=by
 unfold Qbw;rw[Qdf hn,sbind];rw[V3 (λj=>(rF (mixI (c.take j) (kss.take j) i 0),(j:Int))) c.length (rF (mixI c kss i 0))];have B:=Qsi (i:=i) (z:=0) (b:=1) om p f (by rw[Y8];exact xm _);have y:kss.length*(k+129+1)<=8*(k+129+1):=xc _ A;rw[Qac (k:=20*k) hn om om om,sbind];intro j v;have d:c[j]?=some c[j]:=oi v;have e:kss[j]?=some (kss[j]' om):=oi om;have u:=p c[j] (xa v);have w:=f (kss[j]' om) (xa om);have C:=s (kss[j]' om) (xa om);generalize c[j]=x at d u;generalize kss[j]' om=a at e w C;have g:=Vt (i:=i) w om;have F:=Xl u g;have B:=Qsi (i:=i) (z:=0) (b:=1) (cs:=c.take j) (l:=kss.take j) (j:=k) (k:=129) om (λq h=>p q (ym h)) (λa h=>f a (ym h)) (by rw[Y8];exact xm _);have y:(kss.take j).length*(k+129+1)<=8*(k+129+1):=xc _ oh;rw[Yn d,Yn e,Q0n oh];simp only[jn_eq];rw[Kn,oo (show(j:Int)<(c.length:Int) by omega),bifT,Jd (Qh2 d),sbind,Qh1,sbind];by_cases t:x=0;rw[oo t,ov,bifF,w1 om,t,Rat.zero_mul,ve];rw[oj t,ow,bifT,sbind,Jd (Q68 e),sbind,Qkt om om,sbind,yh,Qac (k:=k) hn om u om,sbind,Xd (k:=20*k) hn om om om,sbind,w1 om];rw[Kn,oj om,bifF,xh,r,xh];unfold big at hn;omega;rfl
theorem Qpz{n k:Nat}{H:Rat}{Y c:List Rat}{kss:List (List Rat)}(hn:big<=n)(h0:129<=k)(hk:k<16384)(r:qw H<=k)(u:QR k Y)(s:QR k c)(f:∀ a∈kss,QR 129 a)(t:kss.length<=8)(g:c.length=kss.length)(d:∀ a∈kss,a.length=Y.length)(B:Y.length<=1000):
 V9 n (rR Y) (rR c) (rRR kss) (rF H)=some (rR (fromQ H Y c kss)):=by
 unfold V9;have m:=Qik (H:=H) (Y:=Y) (c:=c) d;have q:=λi=>Qsi (i:=i) (z:=0) (b:=1) (cs:=c) (l:=kss) (j:=k) (k:=129) om s f (by rw[Y8];exact xm _);have A:kss.length*(k+129+1)<=8*(k+129+1):=xc _ t;rw[V3 (λi=>(rR ((fromQ H Y c kss).take i),(i:Int))) Y.length (rR (fromQ H Y c kss))];intro i hi;have e:Y[i]?=some Y[i]:=oi hi;have x:=u Y[i] (xa hi);generalize Y[i]=y at e x;have v:=Ji8 (H:=H) (c:=c) d e;have p:=q i;have w:=Xl r p;rw[Kn,oo (show(i:Int)<(Y.length:Int) by omega),bifT,Jd (Qh2 e),sbind,Q69 hn h0 hk r s f t g d hi,sbind,Xd (k:=22*k) hn om om om,sbind,J9 (by simp[Kn];omega) (by simp[Kn];omega),sbind,w1 om,Yn v,Qoh];rw[Kn,oj om,bifF,<-m,xh];unfold big at hn;omega;rfl
theorem Q7a{n k:Nat}{s:Jz}(hn:big<=n)(m:1<=k)(hk:k<1048576)(hs:SchWr k s)(u:∀ f∈s.B,numR (tF f))(v:∀ f∈s.E,numR (tF f))(g:s.E.length=s.B.length)(p:s.B.length<=8)(l:s.E≠[]):
 Qbm n s=some (rR (gapQ (tS s))):=by
 have eE0:(tS s).E≠[]:=by show s.E.map tF≠[];simpa using l
 have eB:rv (tS s).B=rvr s.B:=Qef s.B;have eE:rv (tS s).E=rvr s.E:=Qef s.E;have t:gapQ (tS s)=List.zipWith (λb e=>b - e) (rvr s.B) (rvr s.E):=by unfold gapQ addQ scaleQ;rw[ol eE0,eB,eE,tx];congr 1;funext b e;grind
 have qB:QR k (rvr s.B):=Qnl (λf j=>Fk_wd (hs.b f j)) m;have qE:QR k (rvr s.E):=Qnl (λf j=>Fk_wd (hs.e f j)) m;have rB:=Qq6 u;have rE:=Qq6 v;have lB:=Qeg s.B;have lE:=Qeg s.E;unfold Qbm;rw[t];generalize rvr s.B=b at *;generalize rvr s.E=e at *;rw[<-rB,<-rE];rw[<-rB] at lB p g;rw[<-rE] at lE g;rw[Kn] at p g;rw[Kn] at g;rw[V3 (λi=>(rR ((List.zipWith (λb e=>b - e) b e).take i),(i:Int))) b.length (rR (List.zipWith (λb e=>b - e) b e))];intro i hi;have a:b[i]?=some b[i]:=oi hi;have d:e[i]?=some (e[i]' om):=oi om;have q:=qB b[i] (xa hi);have r:=qE (e[i]' om) (xa om);generalize b[i]=x at a q;generalize e[i]' om=y at d r;have w:(List.zipWith (λb e=>b - e) b e)[i]?=some (x - y):=by rw[jh,a,d]
 simp only[jn_eq,Kn];rw[oo (show(i:Int)<(e.length:Int) by omega),bifT,oo (show(i:Int)<(b.length:Int) by omega),bifT,Jd (Qh2 a),sbind,Jd (Qh2 d),sbind,Qql (k:=k) hn om q r,sbind,J9 (by simp[Kn];omega) (by simp[Kn];omega),sbind,w1 om,Yn w,Qoh];simp only[jn_eq,Kn];rw[oj (show ¬(b.length:Int)<(e.length:Int) by omega),bifF,bifF];have:(List.zipWith (λb e=>b - e) b e).length=b.length:=oh
 rw[<-this,xh];unfold big at hn;omega;rfl
theorem Qfl{n m:Nat}(hn:big<=n)(a:m<=300):Ve n (m:Int)=some (rR (List.replicate m 0)):=by unfold Ve;rw[V3 (λi=>(rR (List.replicate i 0),(i:Int))) m (rR (List.replicate m 0))];intro i hi;simp only[jn_eq];rw[oo (show(i:Int)<(m:Int) by omega),bifT,oo (show(i:Int)<300 by omega),bifT,Qdf hn,sbind,J9 (by simp[Kn];omega) (by simp[Kn];omega),sbind,w1 om,jl,Qoh];simp only[jn_eq];rw[oj om,bifF,bifF];unfold big at hn;omega;rfl
theorem Q5b{t:Qp}{lim:Int}{T H:Rat}{Y P:List Rat}(d:lim<=4096):∀ {r:List (List Rat×Rat)}{i:Nat}{yss kss:List (List Rat)}{z}{j:Nat},(∀ a∈kss,QR 129 a)->kss.length=j->yss.length=j->stagesQ t lim T H Y P r i yss kss=.inr z ->
 (∀ a∈z.2,QR 129 a)/\z.2.length=j+r.length/\z.1.length=j+r.length
 | [],i,yss,kss,z,j,l,n,p,h=>by simp only[stagesQ] at h;cases h;exact⟨l,n,p⟩
 | x::r,i,yss,kss,z,j,l,n,p,h=>by
   simp only[stagesQ] at h;cases hs:stageQ t lim T H Y P x.1 x.2 i kss with
   | inl f=>rw[hs] at h;cases h
   | inr w=>
     rw[hs] at h;have s:QR 129 w.2:=by
      unfold stageQ at hs;split at hs;cases hs;cases m:fieldQ t lim (T+H*x.2) (fromQ H Y x.1 kss) P with
      | inl e=>rw[m] at hs;cases hs
      | inr k=>rw[m] at hs;cases hs;exact(Q0e d m).2
     obtain⟨g1,q,g3⟩:=Q5b d (j:=j+1) (λa g=>by
      rcases yr.1 g with g | g;exact l a g
      rw[xj.1 g];exact s) oh oh h
     exact⟨g1,by rw[q,xn];omega,by rw[g3,xn];omega⟩
def noMr:J7:=⟨[],[],[],[]⟩
def toMr(z:MadeQ):J7:=⟨rRR z.ys,rRR z.ks,rR z.next,rR z.err⟩
theorem Q7b{s:Jz}(h:schR (tS s)):(∀ r∈s.A,∀ f∈r,numR (tF f))/\(∀ f∈s.B,numR (tF f))/\(∀ f∈s.C,numR (tF f))/\∀ f∈s.E,numR (tF f):=by obtain⟨d,a⟩:=h.2.2.1;have eB:(tS s).B=s.B.map tF:=rfl;have eC:(tS s).C=s.C.map tF:=rfl;have eE:(tS s).E=s.E.map tF:=rfl;have eA:(tS s).A=s.A.map (·.map tF):=rfl;rw[eA] at d;rw[eB,eC,eE] at a;exact⟨λr hr=>Qha.1 (d (r.map tF) (ur hr)),Qha.1 (a _ oc),Qha.1 (a _ oc),Qha.1 (a _ oc)⟩
theorem Jd4{s:Jz}(h:schR (tS s)):gapQ (tS s)=[]↔s.E=[]:=by obtain⟨⟨⟨g1,e⟩,g3,g4,f⟩,g⟩:=Ql4.1 h.2.1;have eE:(tS s).E=s.E.map tF:=rfl;have eB:(tS s).B=s.B.map tF:=rfl;constructor;intro d;unfold gapQ at d;split at d;rename_i a;rw[eE] at a;simpa using a;have:=um List.length d;rw[Zu,Z1,Jn,Jn,eE,eB] at this;simp only[ot,ye] at this;exact xd om;intro a;unfold gapQ;rw[oq (by rw[eE,a];rfl)]
theorem Q9i{n k:Nat}{p:Qt}{T H:Rat}{Y:List Rat}(hn:big<=n)(h0:129<=k)(hk:k<8000)(hp:PrbWr k p)(hr:prbR (tP p))(hT:qw T<=k)(V:qw H<=k)(hY:QR k Y)(hl:(Y.length:Int)=p.Tape.Ax):
 Qcc n p (rF T) (rF H) (rR Y)=some (match doQ (tT p.Tape) (tS p.Aq) (limQ p.Av) T H Y (rvr p.P) with | .inl f=>(noMr,⟨f.Au,f.A0,f.At⟩) | .inr z=>(toMr z,⟨0,0,0⟩)):=by
 obtain⟨hta,hsc,hpl⟩:=hr;have B:tapeR (tT p.Tape):=hta;have w:schR (tS p.Aq):=hsc;have hpl':(p.P.length:Int)=p.Tape.A1:=by
  have e:((tP p).P.length:Int)=(p.P.length:Int):=by unfold tP;simp
  rw[<-e];exact hpl
 obtain⟨nA,nB,nC,nE⟩:=Q7b w;obtain⟨⟨⟨g1,g2⟩,g3,g4,g5⟩,g6⟩:=Ql4.1 w.2.1;obtain⟨⟨d1,d2⟩,⟨d3,d4⟩,d5,d6⟩:=B.1;have d1':1<=p.Tape.Ax:=d1;have d2':p.Tape.Ax<=6:=d2
 have hoc:∀ o∈p.Tape.Aw,0<=o/\o<(p.Tape.Code.length:Int):=λo ho=>by
  have:=B.2.2 o ho;have e:(tT p.Tape).Code.length=p.Tape.Code.length:=by unfold tT;simp
  rw[e] at this;exact this
 have hol:(p.Tape.Aw.length:Int)=p.Tape.Ax:=d5;have hPq:QR k (rvr p.P):=Qnl (λf A=>Fk_wd (hp.pk f A)) om;have hPl:((rvr p.P).length:Int)=p.Tape.A1:=by rw[Qeg];exact hpl'
 have hNorm:Xh n p.P=some (rR (rvr p.P)):=Qka hn om (λf A=>Fk_wd (hp.pk f A)) hp.pl;obtain⟨lim,v⟩:∃ lim,lim=limQ p.Av:=⟨_,rfl⟩
 have hlim4:lim<=4096:=by rw[v];unfold limQ;omega
 have eL:Zd p.Av=some lim:=by rw[v];rfl
 unfold Qcc;rw[eL,sbind,<-v];clear eL v
 have key:∀(m i X:Nat) (yss kss:List (List Rat)) (K:(List (List Qb))×(List (List Qb))->Option (J7×J3)),i+m=p.Aq.B.length->m<X->yss.length=i->kss.length=i->(∀ a∈kss,QR 129 a)->(∀ a∈kss,a.length=Y.length) ->
  (loopM (λ(g:(List (List Qb))×(List (List Qb))×Int)=>
  bif decide (g.2.2<(p.Aq.B.length:Int)) then (
   (getI p.Aq.A g.2.2).bind λy44=>
   (V9 n (rR Y) y44 g.2.1 (rF H)).bind λI=>
   (Ke n I lim).bind λr48=>
   bif decide (r48<(I.length:Int)) then (
    some (Lp.out (Lp.out (((⟨[],[],[],[]⟩:J7),(⟨(6:Int),g.2.2,wrap64 ((300:Int)+r48)⟩:J3))))))
   else (
    (Wi n p (rF T) (rF H) g.2.2).bind λr50=>
    (Wr n p r50 I).bind λr52=>
    (Yj n p.Tape r52 lim).bind λJ=>
    bif !decide (J.2.1=(0:Int)) then (
     some (Lp.out (Lp.out (((⟨[],[],[],[]⟩:J7),(⟨J.2.1,g.2.2,J.2.2⟩:J3))))))
    else (
     (appM 24 g.1 ([I]:List (List Qb))).bind λy56=>
     (Qa9 n p.Tape J.1).bind λr58=>
     (appM 24 g.2.1 ([r58]:List (List Qb))).bind λy60=>
     some (Lp.go (y56,y60,wrap64 (g.2.2+(1:Int)))))))
  else (
   some (Lp.out (Lp.go (g.1,g.2.1))))) X (rRR yss,rRR kss,(i:Int))).bind (lpK K)=match stagesQ (tT p.Tape) lim T H Y (rvr p.P) ((pairQ (tS p.Aq)).drop i) i yss kss with | .inl f=>some (noMr,⟨f.Au,f.A0,f.At⟩) | .inr z=>K (rRR z.1,rRR z.2):=by
  intro m
  induction m with
  | zero=>
    intro i X yss kss K hi hn' hy1 hk1 hq E;have he:(pairQ (tS p.Aq)).drop i=[]:=by apply td;unfold pairQ tS;rw[gz,Jn,ot,ot,ot];omega
    rw[Vv (t:=Lp.go (rRR yss,rRR kss)) (by simp only[];rw[oj om];rfl) om,xq,Wv,he];rfl
  | succ m ih=>
    intro i X yss kss K hi hn' hy1 hk1 hq E;obtain⟨n'',rfl⟩:∃ n'',X=n''+1:=⟨X - 1,om⟩
    have W:p.Aq.A[i]?=some (p.Aq.A[i]' om):=oi om;have hc:p.Aq.C[i]?=some (p.Aq.C[i]' om):=oi om;have O:=xa (l:=p.Aq.A) (n:=i) om;have Q:=xa (l:=p.Aq.C) (n:=i) om;generalize p.Aq.A[i]' om=a at W O;generalize p.Aq.C[i]' om=c at hc Q;have hal:=g6 i om a W;have hra:=Qq6 (nA a O);have hrc:=Qsh (nC c Q);have haq:QR k (rvr a):=Qnl (λf A=>Fk_wd (hp.s.a a O f A)) om;have hcq:qw (fr c)<=k:=qw_fr (Fk_wd (hp.s.c c Q)) om;have hpd:=Q77 (s:=tS p.Aq) (i:=i) (a:=a.map tF) (c:=tF c) (Qcw _ W) (Qcw _ hc);rw[Qef,fr_tF] at hpd;rw[hpd];simp only[stagesQ];have N:=Qpz (c:=rvr a) hn h0 om V hY haq hq om (by rw[Qeg];omega) E om;rw[hra] at N;have C:=Qqc hY V haq hq om h0;have hfl:=Qik (H:=H) (Y:=Y) (c:=rvr a) E;have d:=Qdz (lim:=lim) hn (show 22*k<274877906944 by omega) C om;unfold stageQ;cases A:fitQ lim (fromQ H Y (rvr a) kss) 0 with
    | some j=>
      rw[A] at d;have hj:=Qjl A;simp only[] at d |-
      rw[Vv (t:=Lp.out (noMr,⟨6,(i:Int),300+(j:Int)⟩)) (by
       simp only[]
       rw[oo (show(i:Int)<(p.Aq.B.length:Int) by omega),bifT,Jd W,sbind,N,sbind,d,sbind,Kn,oo om,bifT,w64 om om];rfl) om,xq,Qap]
    | none=>
      rw[A] at d;simp only[] at d |-;have hmul:=Xl V hcq;have hadd:=Yz hT hmul;have hMo:Wi n p (rF T) (rF H) (i:Int)=some (rF (T+H*fr c)):=by unfold Wi;rw[Jd hc,sbind,<-hrc,Qac (k:=k) hn om V hcq,sbind,fr_rF,Xd (k:=4*k) hn om om om,sbind]
      have hPo:Wr n p (rF (T+H*fr c)) (rR (fromQ H Y (rvr a) kss))=some ⟨rF (T+H*fr c),rR (fromQ H Y (rvr a) kss),rR (rvr p.P)⟩:=by unfold Wr;rw[hNorm,sbind]
      have y:=Qu0 (k:=22*k) (t:=p.Tape) (T:=T+H*fr c) (Y:=fromQ H Y (rvr a) kss) (P:=rvr p.P) (lim:=lim) hn om om B (λx G=>Wf (hp.t x G) om) om C (Q8 hPq om) (by rw[hfl];exact hl) hPl hlim4;unfold fieldQ;cases F:runQ lim (T+H*fr c) (fromQ H Y (rvr a) kss) (rvr p.P) (tT p.Tape).Code 0 [] with
      | inl e=>
        rw[F] at y;have hkd:=Ql2 F;simp only[] at y |-
        rw[Vv (t:=Lp.out (noMr,⟨e.1,(i:Int),(e.2:Int)⟩)) (by
         simp only[];rw[oo (show(i:Int)<(p.Aq.B.length:Int) by omega),bifT,Jd W,sbind,N,sbind,d,sbind,Kn,oj om,bifF,hMo,sbind,hPo,sbind,y,sbind];simp only[]
         rw[oj (show ¬ e.1=0 by omega),ow,bifT];rfl) om,xq,Qap]
      | inr l=>
        rw[F] at y;obtain⟨l1,l2⟩:=Qsd hlim4 (λ_ h=>by cases h) F;have l1':l.length=p.Tape.Code.length:=by rw[l1];unfold tT;simp
        have hOu:=Q5a (t:=p.Tape) (l:=l) hn hp.o (by rw[l1'];exact hoc);simp only[] at y |-;have hoe:(tT p.Tape).Aw=p.Tape.Aw:=rfl;rw[hoe]
        rw[Qbp (s':=(rRR (yss++[fromQ H Y (rvr a) kss]),rRR (kss++[p.Tape.Aw.map λo=>l.getD o.toNat 0]),((i+1:Nat):Int))) (by
         simp only[];rw[oo (show(i:Int)<(p.Aq.B.length:Int) by omega),bifT,Jd W,sbind,N,sbind,d,sbind,Kn,oj om,bifF,hMo,sbind,hPo,sbind,y,sbind];simp only[]
         rw[oo trivial,ov,bifF,J9 (by simp[Qw4];omega) (by simp[Qw4];omega),sbind,hOu,sbind,J9 (by simp[Qw4];omega) (by simp[Qw4];omega),sbind,w1 om,Jb6,Jb6])]
        exact ih (i+1) n'' _ _ K om om oh oh (λb hb=>by
         rcases yr.1 hb with h | h;exact hq b h;rw[xj.1 h];intro q hq';obtain⟨o,_,rfl⟩:=xy.1 hq';exact Vt l2 om) (λb hb=>by
         rcases yr.1 hb with h | h;exact E b h
         rw[xj.1 h];simp;omega)
 have M:=key p.Aq.B.length 0 n [] [] (λ(L:(List (List Qb))×(List (List Qb)))=>
 (V9 n (rR Y) p.Aq.B L.2 (rF H)).bind λR=>
 (Ke n R lim).bind λr64=>
 bif decide (r64<(R.length:Int)) then (
  some ((⟨[],[],[],[]⟩:J7),(⟨(6:Int),(p.Aq.B.length:Int),wrap64 ((300:Int)+r64)⟩:J3)))
 else (
  jn (λ(j76:((List Qb))->Option _)=>
   bif decide ((0:Int)<(p.Aq.E.length:Int)) then (
    (Ve n ((rR Y).length:Int)).bind λr79=>
    (Qbm n p.Aq).bind λr81=>
    (V9 n r79 r81 L.2 (rF H)).bind λr83=>
    j76 r83)
   else (
    j76 [])) (λ(S:(List Qb))=>
   (Ke n S lim).bind λr85=>
   bif decide (r85<(S.length:Int)) then (
    some ((⟨[],[],[],[]⟩:J7),(⟨(6:Int),wrap64 ((p.Aq.B.length:Int)+(1:Int)),wrap64 ((300:Int)+r85)⟩:J3)))
   else (
    some ((⟨L.1,L.2,R,S⟩:J7),(⟨0,0,0⟩:J3)))))) om (by unfold big at hn;omega) rfl rfl (λ_ h=>by cases h) (λ_ h=>by cases h)
 refine M.trans ?_;clear M key;rw[dy];unfold doQ;have epair:List.zip ((tS p.Aq).A.map rv) (rv (tS p.Aq).C)=pairQ (tS p.Aq):=rfl;rw[epair];cases hst:stagesQ (tT p.Tape) lim T H Y (rvr p.P) (pairQ (tS p.Aq)) 0 [] [] with
 | inl f=>rfl
 | inr z=>
   simp only[];obtain⟨z1,z2,z3,z4⟩:=Qun (m:=Y.length) hlim4 (by have e:((tT p.Tape).Aw.length:Int)=p.Tape.Ax:=hol;omega) rfl (λ_ h=>by cases h) (λ_ h=>by cases h) hst;obtain⟨y1,y2,y3⟩:=Q5b hlim4 (λ_ h=>by cases h) rfl rfl hst;have hzl:z.2.length=p.Aq.B.length:=by rw[y2];show 0+(pairQ (tS p.Aq)).length=_;unfold pairQ tS;rw[gz,Jn,ot,ot,ot];omega
   have hrB:=Qq6 nB;have hBq:QR k (rvr p.Aq.B):=Qnl (λf A=>Fk_wd (hp.s.b f A)) om;have N:=Qpz (c:=rvr p.Aq.B) hn h0 om V hY hBq y1 om (by rw[Qeg];omega) z1 om;rw[hrB] at N;have C:=Qqc hY V hBq y1 om h0;have hfl:=Qik (H:=H) (Y:=Y) (c:=rvr p.Aq.B) z1;have d:=Qdz (lim:=lim) hn (show 22*k<274877906944 by omega) C om;have eB:rv (tS p.Aq).B=rvr p.Aq.B:=Qef _;have eBl:((tS p.Aq).B.length:Int)=(p.Aq.B.length:Int):=by unfold tS;simp
   unfold endQ;rw[eB,eBl,N,sbind,d,sbind];cases A:fitQ lim (fromQ H Y (rvr p.Aq.B) z.2) 0 with
   | some j=>
     have hj:=Qjl A;simp only[];rw[Kn,oo om,bifT,w64 om om];rfl
   | none=>
     simp only[];rw[Kn,oj om,bifF,jn_eq];by_cases U:p.Aq.E=[]
     have hg:=(Jd4 w).2 U;rw[U,oq hg];have h00:=Qdz (k:=1) (l:=[]) (lim:=lim) hn oz (λ_ h=>by cases h) oc;have Z:Ke n [] lim=some 0:=h00;rw[oj oc,bifF];simp only[];rw[Z,sbind,oj oc,bifF];rfl;have hg:gapQ (tS p.Aq)≠[]:=λh=>U ((Jd4 w).1 h);have hEl:p.Aq.E.length≠0:=λh=>U (xd h);have hgapl:(gapQ (tS p.Aq)).length=p.Aq.B.length:=by
      have eE:(tS p.Aq).E=p.Aq.E.map tF:=rfl;have eB2:(tS p.Aq).B=p.Aq.B.map tF:=rfl;unfold gapQ;rw[ol (by rw[eE];simpa using U),Zu,Z1,Jn,Jn,eE,eB2];simp;omega
     have hgq:QR (2*k+2) (gapQ (tS p.Aq)):=by
      have hs:SchW k (tS p.Aq):=⟨λr hr=>by
       have eA:(tS p.Aq).A=p.Aq.A.map (·.map tF):=rfl;rw[eA] at hr;obtain⟨l,hl',rfl⟩:=xy.1 hr;intro x G;obtain⟨f,u,rfl⟩:=xy.1 G;exact hp.s.a l hl' f u,λx G=>by
       obtain⟨f,u,rfl⟩:=xy.1 G;exact hp.s.b f u,λx G=>by
       obtain⟨f,u,rfl⟩:=xy.1 G;exact hp.s.c f u,λx G=>by
       obtain⟨f,u,rfl⟩:=xy.1 G;exact hp.s.e f u,by
       have:=hp.s.nl;show p.Aq.A6.length<=_
       omega⟩
      exact Jbf om hs
     have hGap:=Q7a hn (show 1<=k by omega) om hp.s nB nE om g2 U;have hF2:=Qpz (k:=2*k+2) (Y:=List.replicate Y.length 0) (c:=gapQ (tS p.Aq)) hn om om (show qw H<=2*k+2 by omega) (Q8 (Qpo _) om) hgq y1 om om (by simpa using z1) oh;have e0:fromQ H (List.replicate Y.length 0) (gapQ (tS p.Aq)) z.2=towQ H Y.length (gapQ (tS p.Aq)) z.2:=by
      unfold fromQ;rw[ue,Q0h (Qqd z1)]
     rw[e0] at hF2;have htl:=Qqd (H:=H) (c:=gapQ (tS p.Aq)) z1;have htb:=Qsf (m:=Y.length) (show qw H<=2*k+2 by omega) hgq y1 om om;have hRow2:=Qdz (lim:=lim) hn (show 20*(2*k+2)<274877906944 by omega) htb om;rw[ol hg,oo (show(0:Int)<(p.Aq.E.length:Int) by omega),bifT,Kn Y,Qfl hn om,sbind,hGap,sbind,hF2,sbind];simp only[];rw[hRow2,sbind];cases hf2:fitQ lim (towQ H Y.length (gapQ (tS p.Aq)) z.2) 0 with
     | some j=>
       have hj:=Qjl hf2;simp only[];rw[Kn,oo om,bifT,w64 (x:=300+(j:Int)) om om,w1 om];rfl
     | none=>
       simp only[];rw[Kn,oj om,bifF];rfl
theorem Jhi{a:Rat}{m:Nat}(h:a≠0):a ^ (-((m:Nat):Int)) / a=a⁻¹ ^ (m+1):=by
 rw[Rat.zpow_neg,dm,da,jy];congr 1
 induction m with
 | zero=>rw[jx,jx];grind
 | succ m d=>rw[jy,jy,<-d];grind
theorem Q3h{n k:Nat}{a:Rat}{b:Int}(hn:big<=n)(hk:k<1048576)(f:qw a<=k)(hb:-8<=b/\b<=8)(h0:¬(b<0/\a=0)):
 Qak n (rF a) b=some (rF ((b:Rat)*turnQ a (a ^ b) b))/\qw ((b:Rat)*turnQ a (a ^ b) b)<=9*k+2:=by
 have v:=Q4s a;have u:=Q20 (z:=b) om
 have bnd:∀ m:Nat,m<=9->∀ q:Rat,qw q<=k->qw ((b:Rat)*q ^ m)<=9*k+2:=λm j q s=>by have r:=Q4t s m;have w:m*k<=9*k:=xc _ j;have:=Xl u r;omega
 unfold Qak;simp only[jn_eq,bifd];rw[Qpx hn om om,sbind];by_cases hp:0<b;obtain⟨m,j⟩:∃ m:Nat,b=((m+1:Nat):Int):=⟨(b - 1).toNat,om⟩
 have e:turnQ a (a ^ b) b=a ^ m:=by unfold turnQ;rw[oq hp,show b - 1=(m:Int) by omega,dm]
 rw[e];refine⟨?_,bnd m om a f⟩;rw[V3 (λi=>(rF ((b:Rat)*a ^ i),((i+1:Nat):Int))) m (rF ((b:Rat)*a ^ m))];rw[V3 (λ_=>(rF ((b:Rat)*a ^ m),(1:Int))) 0 (rF ((b:Rat)*a ^ m)) (λi hi=>absurd hi (dg _)) (by simp only[];rw[ol om,bifF]) (by unfold big at hn;omega) rfl];intro i hi;simp only[];rw[oq om,Qac (k:=9*k+2) hn om (bnd i om _ f) om,sbind,w1 om,Rat.mul_assoc,<-jy];simp only[];rw[ol om];unfold big at hn;omega;rw[jx,Rat.mul_one];rfl;rw[V3 (λ_=>(rF (b:Rat),(1:Int))) 0 (rF (b:Rat)) (λi hi=>absurd hi (dg _)) (by simp only[];rw[ol om]) (by unfold big at hn;omega) rfl];by_cases t:b=0;subst t;have e:((0:Int):Rat)*turnQ a (a ^ (0:Int)) 0=((0:Int):Rat):=by rw[show((0:Int):Rat)=0 from rfl,Rat.zero_mul]
 rw[e];refine⟨?_,by rw[show((0:Int):Rat)=0 from rfl,Y8];omega⟩;rw[V3 (λ_=>(rF ((0:Int):Rat),(1:Int))) 0 (rF ((0:Int):Rat)) (λi hi=>absurd hi (dg _)) (by simp only[];rw[oq oz,ol oz]) (by unfold big at hn;omega) rfl];have d:b<0:=om
 have l:a≠0:=λg=>h0 ⟨d,g⟩;obtain⟨m,j⟩:∃ m:Nat,b=-((m:Nat):Int):=⟨b.natAbs,om⟩
 have e:turnQ a (a ^ b) b=a⁻¹ ^ (m+1):=by unfold turnQ;rw[ol hp,oq d,j,Jhi l]
 rw[e];refine⟨?_,bnd (m+1) om _ (Q0b f)⟩;rw[V3 (λi=>(rF ((b:Rat)*a⁻¹ ^ i),1 - (i:Int))) (m+1) (rF ((b:Rat)*a⁻¹ ^ (m+1)))];intro i hi;simp only[];rw[oq om,oq d,Qmk (k:=9*k+2) hn om (bnd i om _ (Q0b f)) om,sbind,w64 om om];have p:(b:Rat)*a⁻¹ ^ i / a=(b:Rat)*a⁻¹ ^ (i+1):=by rw[<-Q8e];grind
 rw[p];congr 3;omega;simp only[];rw[ol om,bifF];unfold big at hn;omega;rw[jx,Rat.mul_one];rfl
set_option maxRecDepth 100000
theorem Ji9{p:Qt}{T H:Rat}{Y:List Rat}(hr:prbR (tP p))(a:(Y.length:Int)=p.Tape.Ax):stepQ (tP p) T H Y=doQ (tT p.Tape) (tS p.Aq) (limQ p.Av) T H Y (rvr p.P):=by unfold stepQ;rw[oq ⟨hr,a⟩,show rv (tP p).P=rvr p.P from Qef p.P];rfl
theorem Jja{a b k:Nat}{p:Qt}(y:Xm p)(hk:k<=129)(B:a<=1000000)(hb:b<=1000000)
 (h:(p.Tape.Code.length<=a/\p.Tape.Aw.length<=a/\∀ c∈p.Tape.Code,c.N.N.length<=k/\c.N.D.length<=k)/\(p.Aq.A6.length<=50/\p.Aq.A.length<=b/\FL b 4 p.Aq.B/\FL b 4 p.Aq.C/\FL b 4 p.Aq.E/\∀ r∈p.Aq.A,FL b 4 r)/\FL 6 k p.P) :
 PrbWr 129 p:=by
 obtain⟨t,d,bp,_⟩:=y;obtain⟨⟨E,F,t3⟩,⟨s1,C,i,n,q,s⟩,g⟩:=h;have mk:∀ {m j:Nat}{l:List Qb},Kc l->FL m j l->j<=129->FKs 129 l:=λu v w f A=>Wf (FR_tF u v (tF f) (ur A)) w;refine⟨λx e=>Wf (Fk_tF (t.1.2 x e).2.2.2.1 (t3 x e)) hk,om,⟨λr hr=>mk (d.2.2.1.2 r hr) (s r hr) om,λr hr=>by have:=(s r hr).1;omega,mk d.2.2.2.1 i om,by have:=i.1;omega,mk d.2.1 n om,by have:=n.1;omega,mk d.2.2.2.2.1 q om,by have:=q.1;omega,om⟩,mk bp g hk,by have:=g.1;omega⟩
theorem Jk0{t:Qp}{lim:Int}{T H:Rat}{Y P a:List Rat}{c:Rat}{i:Nat}{kss:List (List Rat)}{f}(h:stageQ t lim T H Y P a c i kss=.inl f):(f.Au=3\/f.Au=6)/\f.Step=0:=by
 unfold stageQ at h;split at h;cases h;exact⟨.inr rfl,rfl⟩;cases d:fieldQ t lim (T+H*c) (fromQ H Y a kss) P with
 | inl e=>rw[d] at h;cases h;exact⟨Qvr d,rfl⟩
 | inr k=>rw[d] at h;cases h
theorem Jb7{t:Qp}{lim:Int}{T H:Rat}{Y P:List Rat}:∀ {r:List (List Rat×Rat)}{i:Nat}{yss kss:List (List Rat)}{f},stagesQ t lim T H Y P r i yss kss=.inl f->(f.Au=3\/f.Au=6)/\f.Step=0
 | [],i,yss,kss,f,h=>by simp only[stagesQ] at h;cases h
 | x::r,i,yss,kss,f,h=>by
   simp only[stagesQ] at h;cases hs:stageQ t lim T H Y P x.1 x.2 i kss with
   | inl g=>rw[hs] at h;cases h;exact Jk0 hs
   | inr w=>rw[hs] at h;exact Jb7 h
theorem doQ_f{t:Qp}{s:Q1}{lim:Int}{T H:Rat}{Y P:List Rat}{f}(h:doQ t s lim T H Y P=.inl f):(f.Au=3\/f.Au=6)/\f.Step=0:=by
 unfold doQ at h;cases a:stagesQ t lim T H Y P (List.zip (s.A.map rv) (rv s.C)) 0 [] [] with
 | inl g=>rw[a] at h;cases h;exact Jb7 a
 | inr z=>
   rw[a] at h;simp only[] at h;unfold endQ at h;split at h;cases h;exact⟨.inr rfl,rfl⟩;split at h;cases h;exact⟨.inr rfl,rfl⟩;cases h
set_option maxRecDepth 100000
theorem Jb8{j k:Nat}{l:List Qb}(h:FRr j l)(hk:j<=k):FRr k l:=λf e=>by obtain⟨a,b,c,d⟩:=h f e;exact⟨a,b,om,om⟩
set_option maxRecDepth 100000
def FTr(k:Nat)(t:Q9):Prop:=FRr k [t.T,t.Az,t.H,t.A4]/\FRr k t.Y/\t.Y.length<=1000000
theorem Jk1(l:List Q9):okT (l.map tTry)=(okR l).map tTry:=by unfold okT okR;rw[List.filter_map];rfl
theorem Q0o:∀ {l:List Qb},rR (rvr l)=l↔∀ f∈l,canF (tF f)
 | []=>⟨λ_ _ h=>(by cases h),λ_=>rfl⟩
 | x::l=>by
   have g:=Q0o (l:=l);have e:rR (rvr (x::l))=rF (fr x)::rR (rvr l):=rfl;rw[e];constructor;intro h f a;have d:=(List.cons.inj h)
   rcases xu.1 a with rfl | a;exact Qdy.1 d.1;exact g.1 d.2 f a;intro h;rw[Qdy.2 (h x (.head _)),g.2 λf a=>h f (.tail _ a)]
theorem Qmn{n k:Nat}{l:List Qb}(hn:big<=n)(d:1<=k)(hk:k<274877906944)(h:FRr k l)(a:l.length<=1000000):Y6 n l=some (!dP (∀ f∈l,canF (tF f))):=by
 unfold Y6
 rw[Qka hn (show k<1099511627776 by omega) h a,sbind,Quz hn (by rw[Kn,Qeg];exact a) (λf g=>by
  obtain⟨q,j,rfl⟩:=xy.1 g;have:=Q65 (Qnl h d q j)
  omega),sbind]
 have e:∀ i:Decidable (rR (rvr l)=l),@decide _ i=dP (∀ f∈l,canF (tF f)):=λi=>by rw[@decP _ i,dP_c Q0o]
 rw[e]
def nxR(h:Qv)(i:Nat):Q9:=match h.Ar[i+1]? with | some u=>u | none=>⟨h.T,⟨false,[],[]⟩,⟨false,[],[]⟩,⟨false,[],[]⟩,h.Y,false⟩
def P1(t:Q9):Prop:=(∀ f∈t.Y,canF (tF f))/\∀ f∈[t.T,t.Az,t.H,t.A4],canF (tF f)
def S1(t:Q9):Prop:=0<fr t.Az/\0<fr t.H/\fr t.H<=fr t.Az/\0<=fr t.A4
def C1(h:Qv)(i:Nat)(t:Q9):Prop:=(t.Ok=true->fr (nxR h i).T=fr t.T+fr t.H)/\(t.Ok=false->fr (nxR h i).T=fr t.T/\rvr (nxR h i).Y=rvr t.Y)
theorem Jd5(h:Qv)(i:Nat):nextT (tHis h) i=tF (nxR h i).T:=by
 unfold nextT nxR;have e:(tHis h).Ar[i+1]?=(h.Ar[i+1]?).map tTry:=by unfold tHis;rw[xr]
 rw[e];cases h.Ar[i+1]?<;>rfl
theorem Jd6(h:Qv)(i:Nat):nextY (tHis h) i=(nxR h i).Y.map tF:=by
 unfold nextY nxR;have e:(tHis h).Ar[i+1]?=(h.Ar[i+1]?).map tTry:=by unfold tHis;rw[xr]
 rw[e];cases h.Ar[i+1]?<;>rfl
theorem mapCan{l:List Qb}:(∀ x∈l.map tF,canF x)↔∀ f∈l,canF (tF f):=⟨λh f a=>h _ (ur a),λh x d=>by
 obtain⟨f,a,rfl⟩:=xy.1 d
 exact h f a⟩
theorem Q5c{h:Qv}:Qee (tHis h)↔((∀ f∈h.Y,canF (tF f))/\∀ f∈[h.T],canF (tF f))/\(∀ t∈h.Ar,P1 t/\t.Y.length=h.Y.length)/\(1<=h.Y.length/\h.Y.length<=6)/\h.Ar.length<=200/\(∀(i:Nat) t,h.Ar[i]?=some t->S1 t/\C1 h i t):=by
 have eY:(tHis h).Y=h.Y.map tF:=rfl;have eT:(tHis h).Ar=h.Ar.map tTry:=rfl;have eE:(tHis h).T=tF h.T:=rfl;constructor;rintro⟨⟨c1,g⟩,⟨w,y,A⟩,m,s,B⟩;rw[eT] at c1 w m s B;rw[eY] at g w y A;rw[eE] at g;refine⟨⟨mapCan.1 (g _ oc),λf q=>?_⟩,λt a=>⟨⟨?_,λf q=>?_⟩,?_⟩,⟨by simpa using y,by simpa using A⟩,by simpa using m,λi t hi=>⟨?_,?_⟩⟩;rw[xj.1 q];exact g [tF h.T] oc _ oc;exact mapCan.1 (c1 _ (ur a) (t.Y.map tF) (by show _∈[_,t.Y.map tF];simp));have:=c1 _ (ur a) ([t.T,t.Az,t.H,t.A4].map tF) (by show _∈[[tF t.T,tF t.Az,tF t.H,tF t.A4],_];simp);exact mapCan.1 this f q;have:=w _ (ur a);have e:(tTry t).Y=t.Y.map tF:=rfl;rw[e] at this;simpa using this;have:=s (tTry t) (ur (Jw hi));unfold S1;rw[<-fr_tF,<-fr_tF,<-fr_tF];exact this;have:=B i (tTry t) (Qcw tTry hi);rw[Jd5,Jd6,Qef,fr_tF] at this;have j:fv (tTry t).T=fr t.T:=fr_tF _;have k:fv (tTry t).H=fr t.H:=fr_tF _;have n:rv (tTry t).Y=rvr t.Y:=Qef _;rw[j,k,n] at this;exact this;rintro⟨⟨c1,g⟩,p,l,m,s⟩
 have u:∀ x∈(tHis h).Ar,∃ t∈h.Ar,x=tTry t:=λx d=>by rw[eT] at d;obtain⟨t,a,rfl⟩:=xy.1 d;exact⟨t,a,rfl⟩
 refine⟨⟨λx d r hr=>?_,λr hr=>?_⟩,⟨λx d=>?_,by rw[eY];simpa using l.1,by rw[eY];simpa using l.2⟩,by rw[eT];simpa using m,λx d=>?_,λi x d=>?_⟩;obtain⟨t,a,rfl⟩:=u x d;obtain⟨⟨C,E⟩,_⟩:=p t a;have:r=[t.T,t.Az,t.H,t.A4].map tF\/r=t.Y.map tF:=by have e:[[(tTry t).T,(tTry t).Az,(tTry t).H,(tTry t).A4],(tTry t).Y]=[[t.T,t.Az,t.H,t.A4].map tF,t.Y.map tF]:=rfl;rw[e] at hr;simpa using hr
 rcases this with rfl | rfl;exact mapCan.2 E;exact mapCan.2 C;have:r=[h.T].map tF\/r=h.Y.map tF:=by have e:[[(tHis h).T],(tHis h).Y]=[[h.T].map tF,h.Y.map tF]:=rfl;rw[e] at hr;simpa using hr
 rcases this with rfl | rfl;exact mapCan.2 g;exact mapCan.2 c1;obtain⟨t,a,rfl⟩:=u x d;have:=(p t a).2;rw[eY];show(t.Y.map tF).length=_
 simpa using this
 obtain⟨t,a,rfl⟩:=u x d;obtain⟨i,hi,rfl⟩:=List.getElem_of_mem a;have:=(s i _ (oi hi)).1;unfold S1 at this;rw[<-fr_tF,<-fr_tF,<-fr_tF] at this;exact this;rw[eT,xr] at d;cases a:h.Ar[i]? with
 | none=>rw[a] at d;cases d
 | some t=>
   rw[a] at d;have v:tTry t=x:=Option.some.inj d;subst v;have:=(s i t a).2;unfold C1 at this;rw[Jd5,Jd6,Qef,fr_tF];have j:fv (tTry t).T=fr t.T:=fr_tF _;have k:fv (tTry t).H=fr t.H:=fr_tF _;have n:rv (tTry t).Y=rvr t.Y:=Qef _;rw[j,k,n];exact this
theorem Jb9{q:Rat}:q.num.sign<0↔¬ 0<=q:=by rw[Int.sign_neg_iff,<-Int.not_le,Rat.num_nonneg]
theorem Jd7{p q:Rat}:0<(p - q).num.sign↔¬ p<=q:=by
 have h:=Qqe (q:=p - q);have e:¬ 0<p - q↔p<=q:=by grind
 rw[<-e,<-h];omega
theorem Q8j{β R:Type}{f:β×Int->Option (Lp (β×Int) (Lp β R))}{K:β->Option R}{n:Nat}{Q:R->Prop}(a:Nat->β->Prop)(N:Nat)(w0:β)(h0:a 0 w0)
 (hb:∀ i w,i<N->a i w->(∃ w',f (w,(i:Int))=some (.go (w',((i+1:Nat):Int)))/\a (i+1) w')\/(∃ r,f (w,(i:Int))=some (.out (.out r))/\Q r))
 (p:∀ w,a N w->f (w,(N:Int))=some (.out (.go w))) (hn:N<n) (l:∀ w,a N w->∃ v,K w=some v/\Q v):∃ v,(loopM f n (w0,0)).bind (lpK K)=some v/\Q v:=by
 have key:∀(m i d:Nat) (w:β),i+m=N->m<d->a i w->∃ v,(loopM f d (w,(i:Int))).bind (lpK K)=some v/\Q v:=by
  intro m
  induction m with
  | zero=>
    intro i d w hi j g;have e:i=N:=om
    subst e;rw[Vv (p w g) om,xq,Wv];exact l w g
  | succ m q=>
    intro i d w hi j g;obtain⟨n'',rfl⟩:∃ n'',d=n''+1:=⟨d - 1,om⟩
    rcases hb i w om g with ⟨w',e,k⟩ | ⟨r,e,hr⟩;rw[Qbp e];exact q (i+1) n'' w' om om k;rw[Vv e om,xq,Qap];exact⟨r,rfl,hr⟩
 exact key N 0 n w0 om hn h0
theorem Jk2{h:Qv}{i:Nat}{β:Type}(g:Q9->Option β)(a:h.Ar.length<=1000000)(hi:i<h.Ar.length):
 (bif decide (wrap64 ((i:Int)+1)<(h.Ar.length:Int)) then (getI h.Ar (wrap64 ((i:Int)+1))).bind g else g ⟨h.T,⟨false,[],[]⟩,⟨false,[],[]⟩,⟨false,[],[]⟩,h.Y,false⟩)=g (nxR h i):=by
 rw[w1 om];unfold nxR;by_cases c:i+1<h.Ar.length;rw[oo om,bifT,Qbz c,sbind,oi c];rw[oj om,bifF,xz om]
theorem Qtl{n k:Nat}{h:Qv}(hn:big<=n)(E:1<=k)(hk:k<100000000)(hl:h.Ar.length<=1000000)(d:∀ t∈h.Ar,FTr k t)(hT:FRr k [h.T])(hY:FRr k h.Y)(K:h.Y.length<=1000000):
 ∃ v,Qal n h=some v/\(v=0↔Qee (tHis h)):=by
 simp only[Q5c];unfold Qal;simp only[jn_eq];have I:∀ {r:Int}{A:Prop},r≠0->¬ A->∃ v,some r=some v/\(v=0↔A):=λhr hA=>⟨_,rfl,λe=>absurd e hr,λa=>absurd a hA⟩
 rw[Qmn hn E om hY K,sbind];by_cases a1:∀ f∈h.Y,canF (tF f)
 case neg=>rw[dP_f a1,ow,bifT,bifT];exact I oz λp=>a1 p.1.1
 rw[dP_t a1,ov,bifF,Qmn hn E om hT oc,sbind];by_cases a2:∀ f∈[h.T],canF (tF f)
 case neg=>rw[dP_f a2,ow,bifT];exact I oz λp=>a2 p.1.2
 rw[dP_t a2,ov,bifF];refine Q8j (λi w=>(w=0\/w=2)/\(∀ t∈h.Ar.take i,P1 t)/\(w=0↔∀ t∈h.Ar.take i,t.Y.length=h.Y.length)) h.Ar.length 0 ⟨.inl rfl,λt d=>by simp at d,λ_ t d=>by simp at d,λ_=>rfl⟩ ?_ ?_ (by unfold big at hn;omega) ?_
 . intro i w hi H
   obtain⟨m,J,B⟩:=H;have s:h.Ar[i]?=some h.Ar[i]:=oi hi;have G:=xa hi;generalize h.Ar[i]=x at s G;obtain⟨N,x2,x3⟩:=d x G;have eN:Yd x=some [x.T,x.Az,x.H,x.A4]:=rfl;simp only[];rw[oo (show(i:Int)<(h.Ar.length:Int) by omega),bifT,Jd s,sbind,Qmn hn E om x2 x3,sbind];by_cases O:∀ f∈x.Y,canF (tF f)
   case neg=>rw[dP_f O,ow,bifT,bifT];exact .inr ⟨1,rfl,λe=>absurd e oz,λp=>absurd (p.2.1 x G).1.1 O⟩
   rw[dP_t O,ov,bifF,sbind,eN,sbind,Qmn hn E om N oc,sbind];by_cases P:∀ f∈[x.T,x.Az,x.H,x.A4],canF (tF f)
   case neg=>rw[dP_f P,ow,bifT];exact .inr ⟨1,rfl,λe=>absurd e oz,λp=>absurd (p.2.1 x G).1.2 P⟩
   rw[dP_t P,ov,bifF,sbind,w1 om]
   have hP:∀ t∈h.Ar.take (i+1),P1 t:=λt d=>by
    rw[Yn s] at d;rcases yr.1 d with d | d
    . exact J t d
    . rw[xj.1 d];exact⟨O,P⟩
   by_cases b3:x.Y.length=h.Y.length
   . rw[oo (show(x.Y.length:Int)=(h.Y.length:Int) by omega),ov,bifF]
     refine .inl ⟨w,rfl,m,hP,B.trans ⟨λq t d=>?_,λq t d=>q t ?_⟩⟩
     . rw[Yn s] at d
       rcases yr.1 d with d | d
       . exact q t d
       . rw[xj.1 d];exact b3
     . rw[Yn s];exact yn _ d
   . rw[oj (show ¬(x.Y.length:Int)=(h.Y.length:Int) by omega),ow,bifT]
     exact .inl ⟨2,rfl,.inr rfl,hP,λe=>absurd e oz,λq=>absurd (q x (by rw[Yn s];simp)) b3⟩
 . intro w _
   simp only[];rw[oj om,bifF]
 intro w H;obtain⟨m,J,B⟩:=H;rw[xh] at J B;by_cases c1:w=2
 . rw[oo c1,bifT,bifT]
   refine I oz λp=>?_;have:=B.2 λt d=>(p.2.1 t d).2;omega
 have w0:w=0:=om
 have hL:=B.1 w0;rw[oj c1,bifF];by_cases c2:h.Y.length<1
 . rw[oo (show(h.Y.length:Int)<1 by omega),bifT,bifT]
   exact I oz λp=>by have:=p.2.2.1.1;omega
 rw[oj (show ¬(h.Y.length:Int)<1 by omega),bifF];by_cases c3:6<h.Y.length
 . rw[oo (show(6:Int)<(h.Y.length:Int) by omega),bifT]
   exact I oz λp=>by have:=p.2.2.1.2;omega
 rw[oj (show ¬(6:Int)<(h.Y.length:Int) by omega),bifF];by_cases c4:200<h.Ar.length
 . rw[oo (show(200:Int)<(h.Ar.length:Int) by omega),bifT]
   exact I oz λp=>by have:=p.2.2.2.1;omega
 rw[oj (show ¬(200:Int)<(h.Ar.length:Int) by omega),bifF];subst w0;clear m B c1;refine Q8j (λi w=>(∀ j t,j<i->h.Ar[j]?=some t->S1 t)/\(w=0↔∀ j t,j<i->h.Ar[j]?=some t->C1 h j t)) h.Ar.length 0 ⟨λj t F=>absurd F (dg _),λ_ j t F=>absurd F (dg _),λ_=>rfl⟩ ?_ ?_ (by unfold big at hn;omega) ?_
 . intro i w hi H
   obtain⟨m,B⟩:=H;have s:h.Ar[i]?=some h.Ar[i]:=oi hi;have G:=xa hi;generalize h.Ar[i]=x at s G;obtain⟨N,x2,x3⟩:=d x G;obtain⟨p1,V⟩:=J x G;have eT:rF (fr x.T)=x.T:=Qdy.2 (V _ oc);have eW:rF (fr x.Az)=x.Az:=Qdy.2 (V _ oc);have eH:rF (fr x.H)=x.H:=Qdy.2 (V _ oc);have eE:rF (fr x.A4)=x.A4:=Qdy.2 (V _ oc);have eY:rR (rvr x.Y)=x.Y:=Q0o.2 p1;have qT:qw (fr x.T)<=k:=qw_fr (N _ oc) E;have qW:qw (fr x.Az)<=k:=qw_fr (N _ oc) E;have qH:qw (fr x.H)<=k:=qw_fr (N _ oc) E;have sW:Wj x.Az=some (fr x.Az).num.sign:=by have:=Qk2 (fr x.Az);rwa [eW] at this
   have sH:Wj x.H=some (fr x.H).num.sign:=by have:=Qk2 (fr x.H);rwa [eH] at this
   have sE:Wj x.A4=some (fr x.A4).num.sign:=by have:=Qk2 (fr x.A4);rwa [eE] at this
   have sC:Qbn n x.H x.Az=some (fr x.H - fr x.Az).num.sign:=by have:=Q63 (p:=fr x.H) (q:=fr x.Az) hn om qH qW;rwa [eH,eW] at this
   have sA:Q3 n x.T x.H=some (rF (fr x.T+fr x.H)):=by have:=Xd (p:=fr x.T) (q:=fr x.H) hn om qT qH;rwa [eT,eH] at this
   simp only[];rw[oo (show(i:Int)<(h.Ar.length:Int) by omega),bifT,Jd s,sbind,sW,sbind];have stop:¬ S1 x->(∃ r:Int,some (Lp.out (Lp.out (4:Int)):Lp (Int×Int) (Lp Int Int))=some (Lp.out (Lp.out r))/\(r=0↔(((∀ f∈h.Y,canF (tF f))/\∀ f∈[h.T],canF (tF f))/\(∀ t∈h.Ar,P1 t/\t.Y.length=h.Y.length)/\(1<=h.Y.length/\h.Y.length<=6)/\h.Ar.length<=200/\(∀(i:Nat) t,h.Ar[i]?=some t->S1 t/\C1 h i t)))):=λW=>⟨4,rfl,λe=>absurd e oz,λp=>absurd (p.2.2.2.2 i x s).1 W⟩
   by_cases Q:(fr x.Az).num.sign<=0
   . rw[oo Q,bifT,bifT];exact .inr (stop λp=>Qqe.1 Q p.1)
   rw[oj Q,bifF,sH,sbind];by_cases R:(fr x.H).num.sign<=0
   . rw[oo R,bifT,bifT];exact .inr (stop λp=>Qqe.1 R p.2.1)
   rw[oj R,bifF,sC,sbind];by_cases S:0<(fr x.H - fr x.Az).num.sign
   . rw[oo S,bifT,bifT];exact .inr (stop λp=>Jd7.1 S p.2.2.1)
   rw[oj S,bifF,sE,sbind];by_cases T:(fr x.A4).num.sign<0
   . rw[oo T,bifT];exact .inr (stop λp=>Jb9.1 T p.2.2.2)
   rw[oj T,bifF,Jk2 _ hl hi,w1 om];clear stop;have W:S1 x:=⟨Classical.not_not.1 λg=>Q (Qqe.2 g),Classical.not_not.1 λg=>R (Qqe.2 g),Classical.not_not.1 λg=>S (Jd7.2 g),Classical.not_not.1 λg=>T (Jb9.2 g)⟩
   have hu:(∀ f∈[(nxR h i).T],canF (tF f))/\(∀ f∈(nxR h i).Y,canF (tF f))/\FRr k [(nxR h i).T]/\FRr k (nxR h i).Y/\(nxR h i).Y.length<=1000000:=by
    unfold nxR;cases X:h.Ar[i+1]? with
    | none=>exact⟨a2,a1,hT,hY,K⟩
    | some u=>
      have M:=Jw X;obtain⟨Z,u2,u3⟩:=d u M;obtain⟨v1,v2⟩:=J u M;exact⟨λf L=>v2 f (by simp at L;simp[L]),v1,λf L=>Z f (by simp at L;simp[L]),u2,u3⟩
   have hstep:∀ w':Int,(w'=0↔w=0/\C1 h i x)->(∀ j t,j<i+1->h.Ar[j]?=some t->S1 t)/\(w'=0↔∀ j t,j<i+1->h.Ar[j]?=some t->C1 h j t):=λw' Y=>by
    refine⟨λj t F l=>?_,Y.trans ⟨λq j t F l=>?_,λq=>⟨B.2 λj t F=>q j t om,q i x om s⟩⟩⟩
    . by_cases e:j=i
      . subst e;rw[s] at l;cases l;exact W
      . exact m j t om l
    . by_cases e:j=i
      . subst e;rw[s] at l;cases l;exact q.2
      . exact B.1 q.1 j t om l
   unfold C1 at hstep;generalize nxR h i=u at hu hstep |-;obtain⟨Z,u2,u3,u4,u5⟩:=hu;have euT:rF (fr u.T)=u.T:=Qdy.2 (Z _ oc);have euY:rR (rvr u.Y)=u.Y:=Q0o.2 u2;have quT:qw (fr u.T)<=k:=qw_fr (u3 _ oc) E;have quY:QR k (rvr u.Y):=Qnl u4 E
   have same:∀ q:Rat,Ki n u.T (rF q)=some (decide (fr u.T=q)):=λq=>by have:=Qtk (p:=fr u.T) (q:=q) hn om quT;rwa [euT] at this
   have sameT:Ki n u.T x.T=some (decide (fr u.T=fr x.T)):=by have:=same (fr x.T);rwa [eT] at this
   have sameY:W5 n u.Y x.Y=some (decide (rvr u.Y=rvr x.Y)):=by have:=Qn5 (a:=rvr u.Y) (b:=rvr x.Y) hn (by rw[Qeg];exact u5) (show k<274877906944 by omega) quY;rwa [euY,eY] at this
   left;cases y:x.Ok with
   | true=>
     rw[bifT,sA,sbind,same,sbind,ov,bifF,bifF];by_cases C:fr u.T=fr x.T+fr x.H
     . rw[oo C,ov,bifF,bifF]
       exact⟨w,rfl,hstep w ⟨λq=>⟨q,λ_=>C,λg=>by rw[y] at g;cases g⟩,λq=>q.1⟩⟩
     . rw[oj C,ow,bifT]
       exact⟨5,rfl,hstep 5 ⟨λq=>absurd q oz,λq=>absurd (q.2.1 y) C⟩⟩
   | false=>
     rw[bifF,bifF,ow,bifT,sameT,sbind];by_cases C:fr u.T=fr x.T
     . rw[oo C,ov,bifF,sameY,sbind]
       by_cases U:rvr u.Y=rvr x.Y
       . rw[oo U,ov,bifF]
         exact⟨w,rfl,hstep w ⟨λq=>⟨q,λg=>(by rw[y] at g;cases g),λ_=>⟨C,U⟩⟩,λq=>q.1⟩⟩
       . rw[oj U,ow,bifT]
         exact⟨5,rfl,hstep 5 ⟨λq=>absurd q oz,λq=>absurd (q.2.2 y).2 U⟩⟩
     . rw[oj C,ow,bifT,bifT]
       exact⟨5,rfl,hstep 5 ⟨λq=>absurd q oz,λq=>absurd (q.2.2 y).1 C⟩⟩
 . intro w _
   simp only[];rw[oj om,bifF]
 . intro w H
   obtain⟨m,B⟩:=H;refine⟨w,rfl,B.trans ⟨λq=>⟨⟨a1,a2⟩,λt d=>⟨J t d,hL t d⟩,⟨om,om⟩,om,λi t hi=>⟨m i t (J8 hi) hi,q i t (J8 hi) hi⟩⟩,λp j t _ F=>(p.2.2.2.2 j t F).2⟩⟩
set_option maxRecDepth 100000
theorem Q3i{n k:Nat}{p:Qt}{h:Qv}(hn:big<=n)(f:1<=k)(hk:k<1048576)(hp:PrbWr k p)(m:h.Ar.length<=1000000)(q:∀ t∈h.Ar,FTr k t)(j:FRr k [h.T])(l:FRr k h.Y)(d:h.Y.length<=1000000):
 Qcl n p h=some (dP (AlR (tP p) (tHis h))):=by
 unfold Qcl AlR;simp only[jn_eq];have eY:((tHis h).Y.length:Int)=(h.Y.length:Int):=by show((h.Y.map tF).length:Int)=_;simp
 have eD:(tP p).Tape.Ax=p.Tape.Ax:=rfl;rw[Q3f hn f hk hp,sbind,eY,eD];by_cases c1:prbR (tP p)
 case neg=>rw[dP_f c1,bifF,dP_f λg=>c1 g.1]
 obtain⟨v,i,e⟩:=Qtl hn f om m q j l d;rw[dP_t c1,bifT,i,sbind];by_cases a:v=0
 case neg=>rw[oj a,bifF,dP_f λg=>a (e.2 g.2.1)]
 rw[oo a,bifT];exact Qed ⟨λg=>⟨c1,e.1 a,g⟩,λg=>g.2.2⟩
set_option maxRecDepth 100000
theorem Q9j{α β:Type}{a:List α}{b:List β}{i:Nat}{x:α}{y:β}(d:a[i]?=some x)(e:b[i]?=some y):(List.zip a b).take (i+1)=(List.zip a b).take i++[(x,y)]:=by
 have:(List.zip a b)[i]?=some (x,y):=by rw[gy];exact⟨d,e⟩
 rw[vj,this];rfl
end Go.Proofs.YtjmfkenegjhohaaGreatDoor
