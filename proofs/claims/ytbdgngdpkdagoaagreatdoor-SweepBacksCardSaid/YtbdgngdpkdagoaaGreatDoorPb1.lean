import Derived.Test.YtbdgngdpkdagoaaGreatDoorModb
import Derived.Test.YtbdgngdpkdagoaaGreatDoorP2
namespace Go.Proofs.YtbdgngdpkdagoaaGreatDoor
open Go Go.RowKit
theorem Jn5{l r:List UInt8}(a:l.length+r.length<=9223372036854775807):catS l r=some (l++r):=by unfold catS;rw[oq a]
theorem Jh5{σ τ R β:Type}{f:σ->Option (Lp σ τ)}{n:Nat}{s:σ}{k:τ->Option R}{g:β->R}{P:β->Prop}(μ:σ->Nat)(I:σ->Prop)(Q:τ->Prop)(h0:I s)(hn:μ s<n)
 (hb:∀ s,I s->(∃ s',f s=some (.go s')/\I s'/\μ s'<μ s)\/(∃ t,f s=some (.out t)/\Q t)) (hk:∀ t,Q t->∃ b,k t=some (g b)/\P b):∃ b,(loopM f n s).bind k=some (g b)/\P b:=by
 obtain⟨t,a,d⟩:=Qyz μ I Q hb n s h0 hn;rw[a,xq];exact hk t d
theorem Jke{α:Type}{l:List α}{x y:α}(h:l.length<9223372036854775807):List.set (l++[x]) (Int.toNat (wrap64 (((l++[x]).length:Int) - 1))) y=l++[y]:=by rw[yn,uy,w64 om om,show(((l.length+1:Nat):Int) - 1)=((l.length:Nat):Int) by omega,ya];simp
theorem Q6q(x:Int):Ze x=some ((cutI x:Nat):Int):=by unfold Ze;rw[Jcx]
theorem Jl9{c i:Nat}(a:1<=c):cnt (i+1) c=i / c+1:=by unfold cnt;rw[show i+1+c - 1=i+c by omega,Nat.add_div_right _ om]
theorem Jn6{c i:Nat}(a:1<=c)(h:i%c=0):cnt i c=i / c:=by
 have f:=vj i c
 have k:¬ i / c<cnt i c:=λg=>by have:=(Qf7 a).1 g;rw[uv] at this;omega
 have d:∀ j,j<i / c->j<cnt i c:=λj e=>(Qf7 a).2 (by
  have:(j+1)*c<=i / c*c:=xh _ e
  rw[uz,uv (i / c)] at this;omega)
 rcases xl (cnt i c) (i / c) with g | g;have:=d _ g;omega;omega
theorem Jma{c i:Nat}(a:1<=c)(h:i%c≠0):cnt i c=i / c+1:=by
 have d:=vj i c;have e:i / c<cnt i c:=(Qf7 a).2 (by rw[uv];omega)
 have f:¬ i / c+1<cnt i c:=λg=>by have:=(Qf7 a).1 g;have j:=uw i (show 0<c by omega);rw[uz,uv] at this;omega
 omega
theorem Q1y{n N:Nat}{x:Int}(hn:big<=n)(w:N<=200):Qar n (N:Int) x=some (iL (mrk N (cutI x))):=by
 obtain⟨c1,q⟩:=cut_b x;unfold Qar;simp only[jn_eq];rw[Jcz];generalize g:cutI x=c at c1 q
 have l:∀(m i f:Nat),i+m=N->m<f->(loopM (λ(a:(List Int)×Int)=>
  bif decide (a.2<(N:Int)) then (
   bif decide ((N:Int)<=(200:Int)) then (
    (Ze x).bind λd=>
    (grd (d != 0)).bind λ_=>
    bif decide ((Int.tmod a.2 d)=(0:Int)) then (
     (appM 8 a.1 ([a.2]:List Int)).bind λe=>
     some (Lp.go (e,wrap64 (a.2+(1:Int)))))
    else (
     some (Lp.go (a.1,wrap64 (a.2+(1:Int))))))
   else (
    some (Lp.out a.1)))
  else (
   bif false then (
    (Ze x).bind λd=>
    (grd (d != 0)).bind λ_=>
    bif decide ((Int.tmod a.2 d)=(0:Int)) then (
     (appM 8 a.1 ([a.2]:List Int)).bind λe=>
     some (Lp.go (e,wrap64 (a.2+(1:Int)))))
    else (
     some (Lp.go (a.1,wrap64 (a.2+(1:Int))))))
   else (
    some (Lp.out a.1)))) f (mk0 c (cnt i c),(i:Int)))=some (mk0 c (cnt N c)):=by
  intro m
  induction m with
  | zero=>
    intro i f hi k;obtain rfl:i=N:=om
    rw[Kz (t:=mk0 c (cnt i c)) (by simp only[];rw[oo (show ¬(i:Int)<(i:Int) by omega),bifF,bifF]) om]
  | succ m u=>
    intro i f hi k;obtain⟨n'',rfl⟩:∃ n'',f=n''+1:=⟨f - 1,om⟩
    have r:=Qp6 (n:=i) c1;have s:Int.tmod (i:Int) ((c:Nat):Int)=((i%c:Nat):Int):=by rw[Int.tmod_eq_emod_of_nonneg om];rfl
    rw[Qau (s':=(mk0 c (cnt (i+1) c),((i+1:Nat):Int))) (by
     simp only[];rw[ol (show(i:Int)<(N:Int) by omega),bifT,ol (show(N:Int)<=200 by omega),bifT,Q6q,sbind,g,show grd (((c:Nat):Int) != 0)=some () by unfold grd;rw[show(((c:Nat):Int) != 0)=true by simp;omega];rfl,sbind,s,w1 om,Jl9 c1];by_cases j:i%c=0;have v:=vj i c;rw[j,ol oa,bifT,J5 (by rw[Qxg];simp;omega) (by rw[Qxg];simp;omega),sbind,Jn6 c1 j,Jcy,uv (i / c),show c*(i / c)=i by omega]
     rw[oo (show ¬((i%c:Nat):Int)=0 by omega),bifF,Jma c1 j])]
    exact u (i+1) n'' om om
 have p:=l N 0 n om (by unfold big at hn;omega);rw[cnt_0 c1] at p;rw[show(([]:List Int),(0:Int))=(mk0 c 0,((0:Nat):Int)) from rfl,p];rfl
theorem Jd1{a:List Nat}(h:Wd a):Wd (trimZ a):=by rw[<-K1 h];exact Jo _
theorem Y3{n:Nat}{a:List Nat}(hn:big<=n)(i:a.length<=35184372088832):Ku n a=some (trimZ a):=by
 have h:=Zn hn (show a.length<=4611686018427387904 by omega);have j:=Qag a;unfold Ku;unfold Z4 at h
 cases hk:loopM (λ(d:Int)=>
  jn (λ(e:(Bool)->Option _)=>
   bif decide ((0:Int)<d) then (
    (getI a (wrap64 (d - (1:Int)))).bind λg=>
    e (decide (g=0)))
   else (
    e false)) (λ(f:Bool)=>
   bif f then (
    some (Lp.go (wrap64 (d - (1:Int)))))
   else (
    some (Lp.out d)))) n (a.length:Int) with
 | none=>rw[hk] at h;cases h
 | some t=>
   rw[hk] at h;rw[sbind] at h |-;cases hs:sub a (0:Int) t with
   | none=>rw[hs] at h;cases h
   | some b=>
     rw[hs,sbind] at h;rw[sbind];obtain rfl:b=trimZ a:=by simpa using h
     rw[J5 oh oh,sbind,yw]
theorem Qvr{n:Nat}{a b:List Nat}(hn:big<=n)(g:a.length<=4611686018427387904):Qbe n a b=some (decide (a=b)):=by unfold Qbe;unfold big at hn;rw[bifnd];by_cases f:a.length=b.length;rw[oq om];refine Qb9 (λs=>a.length - s.toNat) (λs=>∃ k:Nat,s=k/\k<=a.length/\a.take k=b.take k) (λt=>(t=.go ()/\a=b)\/(t=.out false/\a≠b)) ⟨0,rfl,yx _,oc⟩ om ?_ ?_;rintro s ⟨k,rfl,hk,d⟩;simp only[bifd,bifnd];by_cases h:k<a.length;rw[oq om,Qb8 h,sbind,Qb8 (show k<b.length by omega),sbind];by_cases e:a[k]=b[k];left;rw[oq e,w64 om om];refine⟨_,rfl,⟨k+1,om,om,?_⟩,om⟩;rw[We h,We (show k<b.length by omega),d,e];right;rw[oj e];exact⟨_,rfl,.inr ⟨rfl,λh=>e (by simp[h])⟩⟩;right;rw[oj om];refine⟨_,rfl,.inl ⟨rfl,?_⟩⟩;rw[xb om,xb om] at d;exact d;rintro t (⟨rfl,h⟩ | ⟨rfl,h⟩);rw[Vn];simp[h];rw[Yz];simp[h];rw[oj om];have:a≠b:=λh=>f (by rw[h]);simp[this]
theorem Qf2{a:List Nat}{k:Nat}:Xh a (k:Int)=some (a.getD k 0):=by unfold Xh;rw[bifd];by_cases h:k<a.length;rw[oq om,Qb8 h,sbind];simp[h];rw[oj om];simp[xd (show a.length<=k by omega)]
theorem Jmb(P s x y u v V A C:Nat)(e:4294967296*u+v=s+(x+y))(h:V+P*s=A+C):V+P*v+P*4294967296*u=A+P*x+(C+P*y):=by grind
theorem Jh6(P Q s o a d:Nat)(_:Nat)(g:o+P*s=a+d)(i:a<Q)(hb:d<Q)(f:P=Q*4294967296):s=0:=by rcases gn s with h | h;exact h;exfalso;have e:P*1<=P*s:=ut _ h;omega
theorem Qx0{n:Nat}{a b:List Nat}(hn:big<=n)(G:a.length<17592186044416)(hb:b.length<17592186044416)(g:Wd a)(m:Wd b):Qbw n a b=some (toL (val a+val b)):=by
 unfold Qbw;unfold big at hn;obtain⟨l,H⟩:∃ l:Nat,l=max a.length b.length:=⟨_,rfl⟩
 have f:max (a.length:Int) (b.length:Int)=(l:Int):=om
 have u:a.length<=l:=om
 have v:b.length<=l:=om
 have F:l<17592186044416:=om
 rw[f,w64 om om,show((l:Int)+1)=((l+1:Nat):Int) by omega,Qev om om,sbind]
 refine Qb9 (λs=>(l+1) - s.2.2.toNat) (λs=>∃(k:Nat) (o:List Nat),s.2.2=k/\k<=l+1/\s.1=o++List.replicate (l+1 - k) 0/\o.length=k/\Wd o/\s.2.1<4294967296/\val o+bp k*s.2.1=val (a.take k)+val (b.take k))
  (λt=>t.length=l+1/\Wd t/\val t=val a+val b) ⟨0,[],rfl,om,oc,rfl,W9,oc,by simp[val,Qbn]⟩ (by simp only[];omega) ?_ ?_
 rintro⟨q,s,i⟩ ⟨k,o,r,w,p,e,x,B,d⟩;simp only at r p B d;subst r p;simp only[sbind,bifd];by_cases hk:k<l+1;left;have I:=Qmp g k;have J:=Qmp m k;rw[oq om,Qf2,sbind,Qf2,sbind];obtain⟨j,E⟩:∃ j,l+1 - k=j+1:=⟨l - k,om⟩
 rw[E,uq,Ws e,sbind,Zk e,w64 om om];rw[xv (show a.getD k 0+b.getD k 0<18446744073709551616 by omega),xv (show s+(a.getD k 0+b.getD k 0)<18446744073709551616 by omega),Nat.mod_mod];refine⟨_,rfl,⟨k+1,o++[(s+(a.getD k 0+b.getD k 0))%4294967296],by simp only[];omega,om,?_,by simp[e],Kv.2 ⟨x,K0.2 ⟨om,W9⟩⟩,by simp only[];omega,?_⟩,by simp only[];omega⟩;simp only[];rw[show l+1 - (k+1)=j by omega];simp;simp only[];rw[Y2,Y2,Vh,e,W0];exact Jmb _ _ _ _ _ _ _ _ _ (vj (s+(a.getD k 0+b.getD k 0)) 4294967296) d;right;obtain rfl:k=l+1:=om
 rw[oj om];refine⟨_,rfl,by simp[e],by simpa using x,?_⟩;rw[xb om,xb om] at d;have C:s=0:=by have g1:=Zh g;have y:=Zh m;have g3:bp a.length<=bp l:=bp_le u;have g4:bp b.length<=bp l:=bp_le v;have A:bp (l+1)=bp l*4294967296:=W0 _;exact Jh6 _ _ _ _ _ _ 0 d (xt g1 g3) (xt y g4) A
 rw[C,vv,xp] at d
 simpa using d
 rintro t ⟨r,w,p⟩;rw[Y3 (by unfold big;exact hn) om,sbind,<-K1 w,p]
theorem Jmc(P x y m a u v V M A:Nat)(e:4294967296*u+v=a+(x*y+m))(d:V+P*a=M+x*A):V+P*v+P*4294967296*u=M+P*m+x*(A+P*y):=by grind
theorem Jn7(P Q A x b O R c p _ M z:Nat)(a:O=p+P*M)(d:R+Q*c=M+x*b)(e:O=A*b)(f:z=p+P*(R+Q*c)):z=(A+P*x)*b:=by grind
theorem Qd1{n:Nat}{a b:List Nat}(hn:big<=n)(S:a.length<17592186044416)(hb:b.length<17592186044416)(F:Wd a)(G:Wd b):Wb n a b=some (toL (val a*val b)):=by
 unfold Wb;unfold big at hn;rw[w64 om om,show((a.length:Int)+(b.length:Int))=((a.length+b.length:Nat):Int) by omega,Qev om om,sbind]
 refine Qb9 (λs=>a.length - s.2.toNat) (λs=>∃(i:Nat) (o:List Nat),s.2=i/\i<=a.length/\s.1=o++List.replicate (a.length - i) 0/\o.length=i+b.length/\Wd o/\val o=val (a.take i)*val b)
  (λt=>t.length=a.length+b.length/\Wd t/\val t=val a*val b) ⟨0,List.replicate b.length 0,rfl,yx _,by simp only[Nat.sub_zero,List.replicate_append_replicate];rw[Nat.add_comm],oc,Qp7 om,by rw[Qiq];simp[val]⟩ (by simp only[];omega) ?_ ?_
 rintro⟨q,T⟩ ⟨i,o,y,L,r,P,A,M⟩;simp only at y r;subst y r;simp only[bifd];by_cases hi:i<a.length;left;have J:=Qca F hi;obtain⟨j,Q⟩:∃ j,a.length - i=j+1:=⟨a.length - i - 1,om⟩
 rw[oq om,Q,uq];obtain⟨p,hp⟩:∃ p,p=o.take i:=⟨_,rfl⟩
 obtain⟨m,B⟩:∃ m,m=o.drop i:=⟨_,rfl⟩
 have O:o=p++m:=by rw[hp,B,ue]
 have f:p.length=i:=by rw[hp,xa];omega
 have R:m.length=b.length:=by rw[B,uc];omega
 have I:Wd p:=by rw[hp];exact Qs8 A
 have H:Wd m:=by rw[B];exact Qox A
 have E:val o=val p+bp i*val m:=by rw[O,Y8,f]
 rw[O]
 refine Jh5 (λs=>b.length - s.2.2.toNat) (λs=>∃(k:Nat) (d:List Nat),s.2.2=k/\k<=b.length/\s.1=p++d++(m.drop k++0::List.replicate j 0)/\d.length=k/\Wd d/\s.2.1<4294967296/\val d+bp k*s.2.1=val (m.take k)+a[i]*val (b.take k))
  (λt=>∃ d:List Nat,t.1=p++d++0::List.replicate j 0/\d.length=b.length/\Wd d/\t.2<4294967296/\val d+bp b.length*t.2=val m+a[i]*val b) ⟨0,[],rfl,yx _,oc,rfl,W9,oc,by simp[val]⟩ (by simp only[];omega) ?_ ?_
 rintro⟨q,u,U⟩ ⟨k,d,g1,v,g3,g4,g,w,l⟩;simp only at g1 g3 w l;subst g1 g3;simp only[];by_cases hk:k<b.length;left;have K:=Qca G hk;have e:k<m.length:=om
 have C:=Qca H e;have N:=Qy2 J K C w;rw[oq om,Qb8 hi,sbind,Qb8 hk,sbind,w64 (x:=(i:Int)+(k:Int)) om om,show((i:Int)+(k:Int))=((i+k:Nat):Int) by omega];rw[xe e,yu,Ws oh,sbind,sbind,sbind,sbind,Zk oh,sbind,w64 om om];rw[xv (show a[i]*b[k]<18446744073709551616 by omega),xv (show a[i]*b[k]+m[k]<18446744073709551616 by omega),xv (show u+(a[i]*b[k]+m[k])<18446744073709551616 by omega),Nat.mod_mod];refine⟨_,rfl,⟨k+1,d++[(u+(a[i]*b[k]+m[k]))%4294967296],by simp only[];omega,om,oc,by simp[g4],Kv.2 ⟨g,K0.2 ⟨om,W9⟩⟩,by simp only[];omega,?_⟩,by simp only[];omega⟩;simp only[];rw[We e,We hk,Vh,Vh,Vh,g4,xa,xa,ye om,ye om,W0];exact Jmc _ _ _ _ _ _ _ _ _ _ (vj (u+(a[i]*b[k]+m[k])) 4294967296) l;right;obtain rfl:k=b.length:=om
 rw[oj om];refine⟨_,rfl,d,by simp only[];rw[xj om];simp,g4,g,w,?_⟩;rw[xb om,xb om] at l;exact l;rintro⟨q,c⟩ ⟨d,g1,v,g3,g4,g⟩;simp only at g1 g4 g;subst g1;rw[w64 (x:=(i:Int)+(b.length:Int)) om om,show((i:Int)+(b.length:Int))=((i+b.length:Nat):Int) by omega];simp only[];rw[Ws oh,sbind,Zk oh,sbind,w64 om om,xv g4];refine⟨_,rfl,⟨i+1,p++d++[c],by simp only[];omega,om,by simp only[];rw[show a.length - (i+1)=j by omega];simp,by simp[f,v];omega,Kv.2 ⟨Kv.2 ⟨I,g3⟩,K0.2 ⟨g4,W9⟩⟩,?_⟩,by simp only[];omega⟩;rw[xf,Y8,Vh,f,v,We hi,Vh,xa,ye om];exact Jn7 _ _ _ _ _ _ _ _ _ 0 _ _ E g M rfl;right;obtain rfl:i=a.length:=om
 rw[oj om];exact⟨_,rfl,by simp[P],by simpa using A,by simpa using M⟩;rintro t ⟨y,L,r⟩;rw[Y3 (by unfold big;exact hn) om,sbind,<-K1 L,r]
theorem Jkf{p:Prop}:dP p=true↔p:=⟨λh=>by by_cases hp:p;exact hp;rw[dP_f hp] at h;exact absurd h oz,dP_t⟩
theorem Qx1{α:Type}(p:α->Bool)(l:List α):(l.takeWhile p)=l.take (l.takeWhile p).length:=by
 induction l with
 | nil=>rfl
 | cons x l a=>
   rw[vp];cases p x with
   | true=>simp only[yf,xn,wn];rw[<-a]
   | false=>rfl
theorem Qup(c:Nat):Yd c=some (digB c):=by unfold Yd digB;simp only[jn_eq,bifd];grind
theorem Qsn(c:Nat):Y6 c=some (letB c):=by unfold Y6 letB;simp only[jn_eq,bifd];grind
theorem Q6r(k:Int)(c:Nat):Qc5 k c=some (goC k c):=by unfold Qc5 goC;simp only[jn_eq,Qup,Qsn,sbind,bifd];by_cases a:k=1;subst a;cases digB c<;>simp;by_cases d:k=2;subst d;cases letB c<;>cases digB c<;>simp;simp[a,d]
theorem Q6s(k:Int):Qc7 k=some (mostC k:Int):=by unfold Qc7 mostC;simp only[bifd];grind
theorem Q6t{n c:Nat}(hn:big<=n):Qc6 n c=some (kindC c):=by
 unfold Qc6 kindC;rw[Qup,sbind];cases digB c with
 | true=>rfl
 | false=>
   rw[bifF,Qsn,sbind];cases letB c with
   | true=>rfl
   | false=>
     rw[bifF];unfold big at hn;have e:(if sgnB c=true then (3:Int) else 0)=runG (τ:=Int) (λ_ (x:UInt8) (_:Unit)=>if x.toNat=c then .inr 3 else .inl ()) (λ_=>0) sgnL 0 ():=by
      unfold sgnB;have:∀(l:List UInt8) (i:Nat),(if l.any (λx=>decide (x.toNat=c))=true then (3:Int) else 0)=runG (τ:=Int) (λ_ (x:UInt8) (_:Unit)=>if x.toNat=c then .inr 3 else .inl ()) (λ_=>0) l i ():=by
       intro l
       induction l with
       | nil=>intro i;rfl
       | cons x l g=>
         intro i;simp only[List.any_cons,runG];by_cases h:x.toNat=c;simp[h];simp only[oo h,oj h,Bool.false_or];exact g (i+1)
      exact this _ 0
     simp only[wg,yv];rw[e];refine Q32 (λ_ i=>(i:Int)) (λ_ (x:UInt8) (_:Unit)=>if x.toNat=c then .inr (3:Int) else .inl ()) (λ_=>()) _ (λ_ _=>True) sgnL () (λi x b d _=>⟨?_,λ_ _=>trivial⟩) (λb _=>by simp[bifd,sgnL]) (λb _=>rfl) trivial (by simp[sgnL];omega);have hi:=Kc d;have a:i<([43,45,42,47,94,40,41,91,93,44,59,61]:List UInt8).length:=hi;have f:getS [43,45,42,47,94,40,41,91,93,44,59,61] (i:Int)=some x.toNat:=by
      rw[Q08];have:([43,45,42,47,94,40,41,91,93,44,59,61]:List UInt8)[i]?=some x:=d;rw[this];rfl
     simp only[bifd,sbind,oq (show(i:Int)<(([43,45,42,47,94,40,41,91,93,44,59,61]:List UInt8).length:Int) by omega),f];by_cases h:x.toNat=c;rw[oq h,oq h];rfl;rw[oj h,oj h,w1 (by simp at a;omega)];rfl
def padL(l:Nat)(a:List Nat):List Nat:=a++List.replicate (l - a.length) 0
theorem Jd2{l:Nat}{a:List Nat}(h:a.length<=l):(padL l a).length=l:=by unfold padL;simp;omega
theorem Jd3(l:Nat)(a:List Nat):val (padL l a)=val a:=by unfold padL;rw[Y8,Qiq];simp
theorem Jgc{l:Nat}{a:List Nat}(h:Wd a):Wd (padL l a):=Kv.2 ⟨h,Qp7 om⟩
theorem Jd4{l:Nat}{a:List Nat}{j:Nat}(h:j<(padL l a).length):(padL l a)[j]=a.getD j 0:=by unfold padL at h |-;by_cases d:j<a.length;rw[List.getElem_append_left d];simp[d];rw[List.getElem_append_right om,List.getElem_replicate];simp[xd (show a.length<=j by omega)]
theorem Qq6{n:Nat}{a b:List Nat}(hn:big<=n)(w:a.length<=4611686018427387904)(hb:b.length<=4611686018427387904)(m:Wd a)(p:Wd b):Qab n a b=some (cmpI (val a) (val b)):=by
 unfold Qab;obtain⟨l,x⟩:∃ l:Nat,l=max a.length b.length:=⟨_,rfl⟩
 have e:max (a.length:Int) (b.length:Int)=(l:Int):=om
 have la:=Jd2 (l:=l) (a:=a) om;have lb:=Jd2 (l:=l) (a:=b) om;have u:=Jgc (l:=l) m;have v:=Jgc (l:=l) p;have q:∀ j (h:j<(padL l a).length),(padL l a)[j]=a.getD j 0:=λj h=>Jd4 h;have r:∀ j (h:j<(padL l b).length),(padL l b)[j]=b.getD j 0:=λj h=>Jd4 h;rw[e,<-Jd3 l a,<-Jd3 l b];generalize padL l a=a' at *;generalize padL l b=b' at *;unfold big at hn;rw[w64 om om];refine Qb9 (λs=>(s+1).toNat) (λs=>∃ k:Nat,s=(k:Int) - 1/\k<=l/\a'.drop k=b'.drop k) (λt=>(t=.go ()/\a'=b')\/(t=.out (-1)/\val a'<val b')\/(t=.out 1/\val b'<val a')) ⟨l,rfl,xr _,by rw[xj om,xj om]⟩ om ?_ ?_;rintro s ⟨k,rfl,hk,g⟩;simp only[bifd];by_cases h0:0<k;obtain⟨j,rfl⟩:∃ j,k=j+1:=⟨k - 1,om⟩
 have f:j<a'.length:=om
 have d:j<b'.length:=om
 rw[oq om,show((j+1:Nat):Int) - 1=(j:Nat) by omega,Qf2,sbind,Qf2,sbind,<-q j f,<-r j d];by_cases g1:a'[j]<b'[j];right;rw[oq g1];exact⟨_,rfl,.inr (.inl ⟨rfl,Q2h u f d g g1⟩)⟩;rw[oj g1];by_cases i:b'[j]<a'[j];right;rw[oq i];exact⟨_,rfl,.inr (.inr ⟨rfl,Q2h v d f g.symm i⟩)⟩;left;rw[oj i,w64 om om];refine⟨_,rfl,⟨j,rfl,om,?_⟩,om⟩;rw[xe f,xe d,g,show a'[j]=b'[j] by omega];right;obtain rfl:k=0:=om
 rw[oj om];exact⟨_,rfl,.inl ⟨rfl,by simpa using g⟩⟩;rintro t (⟨rfl,h⟩ | ⟨rfl,h⟩ | ⟨rfl,h⟩);rw[Vn,h];simp[cmpI];rw[Yz,cmpI,oq h];rw[Yz,cmpI,oj om,oq h]
theorem Jd5{x y c:Nat}(f:x<4294967296)(g:y<4294967296)(e:c<=1):∃ d a,d<4294967296/\a<=1/\d+y+c=x+4294967296*a /\
 ∀ {R:Type}(k:Nat×Nat->R),(if x<(y+c)%18446744073709551616 then k (1,(x+4294967296)%18446744073709551616) else k (0,x))=k (a,x+4294967296*a)/\(x+4294967296*a+18446744073709551616 - (y+c)%18446744073709551616)%18446744073709551616%4294967296=d:=by
 rw[xv (show y+c<18446744073709551616 by omega)];by_cases h:x<y+c;exact⟨x+4294967296 - (y+c),1,om,om,om,λk=>⟨by rw[oq h,xv om],om⟩⟩;exact⟨x - (y+c),0,om,om,om,λk=>⟨by rw[oj h];rfl,om⟩⟩
theorem Jaa{P s o d e:Nat}(h:o+e=d+P*s)(f:e<=d)(g:o<P):s=0:=by rcases gn s with a | a;exact a;exfalso;have:P*1<=P*s:=ut _ a;omega
theorem Qx2{n:Nat}{a b:List Nat}(hn:big<=n)(K:a.length<17592186044416)(hb:b.length<17592186044416)(w:Wd a)(x:Wd b)(v:val b<=val a):Zb n a b=some (toL (val a - val b)):=by
 unfold Zb;unfold big at hn;obtain⟨l,L⟩:∃ l:Nat,l=max a.length b.length:=⟨_,rfl⟩
 have g:max (a.length:Int) (b.length:Int)=(l:Int):=om
 rw[g,Qev om om,sbind]
 refine Qb9 (λs=>l - s.2.2.toNat) (λs=>∃(k:Nat) (o:List Nat),s.2.2=k/\k<=l/\s.1=o++List.replicate (l - k) 0/\o.length=k/\Wd o/\s.2.1<=1/\val o+val (b.take k)=val (a.take k)+bp k*s.2.1)
  (λt=>t.length=l/\Wd t/\val t=val a - val b) ⟨0,[],rfl,om,oc,rfl,W9,oc,by simp[val,Qbn]⟩ (by simp only[];omega) ?_ ?_
 rintro⟨q,s,i⟩ ⟨k,o,r,y,p,e,u,A,f⟩;simp only at r p A f;subst r p;simp only[sbind,bifd,jn_eq];by_cases hk:k<l;left;have H:=Qmp w k;have I:=Qmp x k;obtain⟨d,J,g1,B,g3,g4⟩:=Jd5 H I A;rw[oq om,Qf2,sbind,Qf2,sbind];have C:=(g4 (λm:Nat×Nat=>(getI (o++List.replicate (l - k) 0) (k:Int)).bind λ_=>some (Lp.go (σ:=List Nat×Nat×Int) (τ:=List Nat) ((o++List.replicate (l - k) 0).set (Int.toNat (k:Int)) ((m.2+18446744073709551616 - (b.getD k 0+s)%18446744073709551616)%18446744073709551616%4294967296),m.1,wrap64 ((k:Int)+1))))).1;have E:=(g4 (λ_=>())).2;rw[C];simp only[];rw[E];obtain⟨j,G⟩:∃ j,l - k=j+1:=⟨l - k - 1,om⟩
 rw[G,uq,Ws e,sbind,Zk e,w64 om om];refine⟨_,rfl,⟨k+1,o++[d],by simp only[];omega,om,?_,by simp[e],Kv.2 ⟨u,K0.2 ⟨g1,W9⟩⟩,B,?_⟩,by simp only[];omega⟩;simp only[];rw[show l - (k+1)=j by omega];simp;simp only[];rw[Y2,Y2,Vh,e,W0];exact Q33 _ _ _ _ _ _ _ _ _ g3 f;right;obtain rfl:k=l:=om
 rw[oj om];refine⟨_,rfl,by simp[e],by simpa using u,?_⟩;rw[xb om,xb om] at f;have F:s=0:=Jaa f v (by rw[<-e];exact Zh u);rw[F,vv,xp] at f;simp only[gh,List.replicate_zero,uh];omega;rintro t ⟨r,y,p⟩;rw[Y3 (by unfold big;exact hn) om,sbind,<-K1 y,p]
theorem Qq7{k l:Nat}(h:k<l):grd (winS (k:Int) l)=some ():=grd_t (by unfold winS;simp;omega)
theorem Qvs{n:Nat}{p a q b:List Nat}(hn:big<=n)(L:p.length+a.length+q.length<17592186044416)(hb:b.length<=a.length)(A:Wd a)(B:Wd b)(y:val b<=val a):
 ∃ r,Yq n (p++a++q) p.length a.length b=some (p++r++q)/\r.length=a.length/\Wd r/\val r=val a - val b:=by
 have C:∃ r,Yq n (p++a++q) p.length a.length b=some r/\∃ j,r=p++j++q/\j.length=a.length/\Wd j/\val j=val a - val b:=by
  unfold Yq;unfold big at hn
  refine Qib (λs=>a.length - s.2.2.toNat) (λs=>∃(k:Nat) (o:List Nat),s.2.2=k/\k<=a.length/\s.1=p++o++(a.drop k++q)/\o.length=k/\Wd o/\s.2.1<=1/\val o+val (b.take k)=val (a.take k)+bp k*s.2.1)
   (λt=>∃ o,t=p++o++q/\o.length=a.length/\Wd o/\val o=val a - val b) ⟨0,[],rfl,om,oc,rfl,W9,oc,by simp[val,Qbn]⟩ (by simp only[];omega) ?_ ?_
  rintro⟨w,s,i⟩ ⟨k,o,e,v,f,g,l,E,m⟩;simp only at e f E m;subst e f;simp only[sbind,bifd,jn_eq];by_cases hk:k<a.length;left;have I:=Qca A hk;have J:=Qmp B k;obtain⟨d,K,g1,F,g3,g4⟩:=Jd5 I J E;rw[oq om,Qq7 hk,sbind,show((p.length:Int)+(k:Int))=((p.length+k:Nat):Int) by omega,xe hk,yu,Ws oh,sbind,Qf2,sbind];have x:=(g4 (λu:Nat×Nat=>(getI (p++o++a[k]::(a.drop (k+1)++q)) ((p.length+k:Nat):Int)).bind λ_=>some (Lp.go (σ:=List Nat×Nat×Int) (τ:=List Nat) ((p++o++a[k]::(a.drop (k+1)++q)).set (Int.toNat ((p.length+k:Nat):Int)) ((u.2+18446744073709551616 - (b.getD k 0+s)%18446744073709551616)%18446744073709551616%4294967296),u.1,wrap64 ((k:Int)+1))))).1;have G:=(g4 (λ_=>())).2;rw[Ws oh] at x;simp only[sbind] at x |-;rw[x,G,Zk oh,w64 om om];refine⟨_,rfl,⟨k+1,o++[d],by simp only[];omega,om,oc,by simp[g],Kv.2 ⟨l,K0.2 ⟨g1,W9⟩⟩,F,?_⟩,by simp only[];omega⟩;simp only[];rw[Y2,We hk,Vh,Vh,xa,ye om,g,W0];exact Q33 _ _ _ _ _ _ _ _ _ g3 m;right;obtain rfl:k=a.length:=om
  rw[oj om];refine⟨_,rfl,o,oc,g,l,?_⟩;rw[xb om,xb om] at m;have H:s=0:=Jaa m y (by rw[<-g];exact Zh l);rw[H,vv,xp] at m;omega;rintro t ⟨o,rfl,e,v,f⟩;exact⟨_,rfl,o,rfl,e,v,f⟩
 obtain⟨r,e,j,v,f,g,l⟩:=C;exact⟨j,by rw[e,v],f,g,l⟩
theorem Jmd(P y c a d V A m:Nat)(e:d+4294967296*a=2*y+c)(h:V+P*c=2*A+m):V+P*d+P*4294967296*a=2*(A+P*y)+m:=by grind
theorem Qso{n:Nat}{a:List Nat}{b:Bool}(hn:big<=n)(y:a.length<17592186044416)(p:Wd a):
 ∃ r c,Y5 n a b=some r/\r.length=a.length/\Wd r/\val r+bp a.length*c=2*val a+b.toNat:=by
 have q:∃ r,Y5 n a b=some r/\∃ c,r.length=a.length/\Wd r/\val r+bp a.length*c=2*val a+b.toNat:=by
  unfold Y5;unfold big at hn;have e:∀ k:Nat->Option (List Nat),jn (λ(v:(Nat)->Option _)=>bif b then (v 1) else (v 0)) k=k b.toNat:=by intro k;cases b<;>rfl
  rw[e]
  refine Qib (λs=>a.length - s.2.2.toNat) (λs=>∃(k:Nat) (o:List Nat),s.2.2=k/\k<=a.length/\s.1=o++a.drop k/\o.length=k/\Wd o/\s.2.1<=1/\val o+bp k*s.2.1=2*val (a.take k)+b.toNat)
   (λt=>∃ c,t.length=a.length/\Wd t/\val t+bp a.length*c=2*val a+b.toNat) ⟨0,[],rfl,om,oc,rfl,W9,by simp only[];cases b<;>decide,by simp[val,Qbn]⟩ (by simp only[];omega) ?_ ?_
  rintro⟨w,s,i⟩ ⟨k,o,d,g,j,l,u,x,m⟩;simp only at d j x m;subst d j;simp only[sbind,bifd];have f:(o++a.drop k).length=a.length:=oh
  by_cases hk:k<a.length;left;have A:=Qca p hk;rw[oq (by rw[f];omega),xe hk,Ws l,sbind,sbind,sbind,Zk l,w64 om om];refine⟨_,rfl,⟨k+1,o++[(a[k]*2%4294967296+s)%4294967296],by simp only[];omega,om,oc,by simp[l],Kv.2 ⟨u,K0.2 ⟨om,W9⟩⟩,by simp only[];omega,?_⟩,by simp only[];omega⟩;simp only[];rw[We hk,Vh,Vh,xa,ye om,l,W0];exact Jmd _ _ _ _ _ _ _ _ om m;right;obtain rfl:k=a.length:=om
  rw[oj (by rw[f];omega)];rw[xb om] at m;exact⟨_,rfl,s,oh,by simpa using u,by simpa using m⟩;rintro t ⟨c,d,g,j⟩;exact⟨_,rfl,c,d,g,j⟩
 obtain⟨r,d,c,g⟩:=q;exact⟨r,c,d,g⟩
theorem Jme(w t r:Nat)(hr:r<32):(w+4294967296*t) / 2 ^ r%2=w / 2 ^ r%2:=by
 have e:(4294967296:Nat)=2 ^ r*(2*2 ^ (31 - r)):=by rw[<-uo,uv (2 ^ r) 2,uo,<-wj,show r+(31 - r)=31 by omega]
 rw[e,uo,jv _ _ (vr r),uo 2,Nat.add_mul_mod_self_left]
theorem Jgd{a:List Nat}(d:Wd a)(q r:Nat)(hr:r<32):val a / 2 ^ (32*q+r)%2=a.getD q 0 / 2 ^ r%2:=by rw[wj,<-Qnz,<-wk,Qve d];by_cases h:q<a.length;rw[xe h];simp only[val];rw[Jme _ _ _ hr];simp[h];rw[xj om];simp[val,xd (show a.length<=q by omega)]
theorem Q8p{n i:Nat}{a:List Nat}(hn:big<=n)(hi:i<4611686018427387904)(e:Wd a):Qdo n a (i:Int)=some (decide (val a / 2 ^ i%2=1)):=by unfold Qdo;have hd:Int.tdiv (i:Int) 32=((i / 32:Nat):Int):=rfl;have d:Int.tmod (i:Int) 32=((i%32:Nat):Int):=rfl;have hb:=Jgd e (i / 32) (i%32) (uw _ oz);rw[show 32*(i / 32)+i%32=i by omega] at hb;rw[hd,d,w64 om om,hb];simp only[jn_eq,bifd];rw[oj om];by_cases h:i / 32<a.length;rw[oj om,Qb8 h,sbind];rw[Wr (λk=>(a[i / 32] / 2 ^ k,(k:Int))) (i%32) (a[i / 32] / 2 ^ (i%32))];simp[h];intro k hk;simp only[];rw[oq om,wk,<-ji,w1 om];simp only[];rw[oj om];unfold big at hn;omega;simp;rw[oq om];simp[xd (show a.length<=i / 32 by omega)]
theorem Qq8{n:Nat}{a:List Nat}(hn:big<=n)(m:a.length<17592186044416)(e:Wd a):Qac n a=some (blen (val a):Int):=by
 unfold Qac;rw[w64 om om];have h0:val a<2 ^ (32*a.length):=by rw[<-Qnz];exact Zh e
 refine Qb9 (λs=>s.toNat) (λs=>∃ k:Nat,s=k/\k<=32*a.length/\val a<2 ^ k) (λt=>t=(blen (val a):Int)) ⟨32*a.length,om,xr _,h0⟩ (by unfold big at hn;omega) ?_ ?_;rintro s ⟨k,rfl,hk,d⟩;simp only[jn_eq,bifd];by_cases h:0<k;obtain⟨j,rfl⟩:∃ j,k=j+1:=⟨k - 1,om⟩
 rw[oq om,w64 om om,show((j+1:Nat):Int) - 1=(j:Nat) by omega,Q8p hn om e,sbind];by_cases hb:val a / 2 ^ j%2=1;right;rw[ol hb,ou,bifF];refine⟨_,rfl,?_⟩;have f:2 ^ j<=val a:=by rcases xl (val a) (2 ^ j) with g | g;rw[ge g] at hb;cases hb;exact g
 rw[Q7w f d];left;rw[oo hb,ow,bifT];refine⟨_,rfl,⟨j,rfl,om,?_⟩,om⟩;have i:val a / 2 ^ j<2:=jr (by rw[<-ji];exact d);have l:val a / 2 ^ j=0:=by clear d h0;generalize val a / 2 ^ j=z at *;omega
 rcases xl (val a) (2 ^ j) with g | g;exact g;have:=Nat.div_pos g (vr j);omega;right;obtain rfl:k=0:=om
 rw[oj om,bifF];refine⟨_,rfl,?_⟩;have:val a=0:=by simpa using d
 rw[this,Qj3];rintro t rfl;rfl
theorem Jab{P c x:Nat}(h:P*c<=x)(d:x<P):c=0:=by rcases gn c with a | a;exact a;exfalso;have:P*1<=P*c:=ut _ a;omega
theorem Jmf(x j:Nat):x / 2 ^ j=2*(x / 2 ^ (j+1))+x / 2 ^ j%2:=by rw[ji,<-wk];generalize x / 2 ^ j=z;omega
theorem Jkg{a b q r:Nat}(h:a=q*b+r)(hr:r<b):q=a / b/\r=a%b:=by
 have h0:0<b:=om
 rw[h,uv q b,Nat.mul_add_div h0,Nat.mul_add_mod,ge hr,xv hr];exact⟨om,rfl⟩
theorem Jkh{A a q d r f b t:Nat}(e:A=2*a+t)(h:a=q*b+r)(g:d=2*q)(i:f=2*r+t):A=d*b+f:=by subst g i;grind
theorem Jki{A g q i j r a f b t:Nat}(e:A=2*g+t)(h:g=q*b+r)(k:i=2*q)(m:a=2*r+t)(l:j=i+1)(n:f=a - b)(p:b<=a):A=j*b+f:=by
 obtain⟨d,rfl⟩:∃ d,a=b+d:=⟨a - b,om⟩
 have:f=d:=om
 subst this l k;grind
theorem Jge{x y:Nat}:0<=cmpI x y↔y<=x:=by unfold cmpI;split;constructor<;>intro h<;>omega;split<;>constructor<;>intro h<;>omega
theorem Jd6{k:Nat}(h:k<32):(1*2 ^ min (Int.toNat (k:Int)) 32)%4294967296=2 ^ k:=by rw[ya,ye om,Nat.one_mul];exact xv (xt (Nat.pow_lt_pow_right oz h) oz)
theorem Qzz{a:List Nat}(f:Wd a):blen (val a)<=32*a.length:=by by_cases h:val a=0;rw[h,Qj3];omega;have e:=Qq0 h;have d:=Zh f;rw[Qnz] at d;have g:=(tm (show 1<2 by decide)).1 (um e d);omega
theorem Q8q{n:Nat}{a b:List Nat}(hn:big<=n)(ha:a.length<17592186044410)(hb:b.length<17592186044410)(e:Wd a)(m:Wd b)(h0:val b≠0):
 Qdp n a b=some (toL (val a / val b),toL (val a%val b)):=by
 unfold Qdp;have W:=Qzz e;have V:=Zh m;have hva:=Zh e;rw[w64 (x:=(b.length:Int)+1) om om,show((b.length:Int)+1)=((b.length+1:Nat):Int) by omega,Qev om om,sbind,Qev om om,sbind,Qq8 hn om e,sbind,w64 om om]
 refine Qb9 (λs=>(s.2.2+1).toNat) (λs=>∃ k:Nat,s.2.2=(k:Int) - 1/\k<=blen (val a)/\s.1.length=a.length/\s.2.1.length=b.length+1/\Wd s.1/\Wd s.2.1/\val s.2.1<val b/\val a / 2 ^ k=val s.1*val b+val s.2.1)
  (λt=>t.1.length=a.length/\t.2.length=b.length+1/\Wd t.1/\Wd t.2/\val t.2<val b/\val a=val t.1*val b+val t.2) ⟨blen (val a),rfl,xr _,oc,oc,Qp7 oz,Qp7 oz,by simp only[];rw[Qiq];omega,by simp only[];rw[Qiq,Qiq,ge Qs9];simp⟩ (by simp only[];unfold big at hn;omega) ?_ ?_
 rintro⟨q,r,i⟩ ⟨k,H,L,l,v,w,y,M,C⟩;simp only at H l v w y M C;subst H;simp only[jn_eq,sbind];by_cases hk:0<k;left;obtain⟨j,rfl⟩:∃ j,k=j+1:=⟨k - 1,om⟩
 have hd:Int.tdiv (j:Int) 32=((j / 32:Nat):Int):=rfl;have X:Int.tmod (j:Int) 32=((j%32:Nat):Int):=rfl;have Q:j / 32<a.length:=om
 have hp:(1*2 ^ min (Int.toNat ((j%32:Nat):Int)) 32)%4294967296=2 ^ (j%32):=Jd6 (uw _ oz);have f:=Jgd e (j / 32) (j%32) (uw _ oz);rw[show 32*(j / 32)+j%32=j by omega,show a.getD (j / 32) 0=a[j / 32] by simp[Q]] at f;have Y:0<2 ^ (j%32):=vr _;obtain⟨R,c1,T,d2,I,B⟩:=Qso (b:=decide (a[j / 32] / 2 ^ (j%32)%2=1)) hn (show r.length<17592186044416 by omega) y;obtain⟨q2,S,J,G,K,u⟩:=Qso (b:=false) hn (show q.length<17592186044416 by omega) w;have E:=Jmf (val a) j;have ht:(decide (a[j / 32] / 2 ^ (j%32)%2=1)).toNat=val a / 2 ^ j%2:=by
  rw[f];generalize a[j / 32] / 2 ^ (j%32)=z;by_cases g:z%2=1;rw[ol g,g];rfl;rw[oo g];simp only[Bool.toNat_false];omega
 rw[ht] at B;have ht2:val a / 2 ^ j%2<2:=uw _ oz;have O:val a / 2 ^ j<=val a:=jl _ _;generalize N:val a / 2 ^ j=A at *;generalize U:val a / 2 ^ (j+1)=A2 at *;generalize A%2=t at *;have Z:val q<=val q*val b:=Nat.le_mul_of_pos_right _ om;have c1z:c1=0:=by rw[v,W0] at B;refine Jab (P:=bp b.length*4294967296) (x:=2*val r+t) om ?_;omega
 have c2z:S=0:=by rw[l] at u;refine Jab (P:=bp a.length) (x:=2*val q+0) (by simp only[Bool.toNat_false] at u;omega) om
 subst c1z c2z;simp only[vv,xp,Bool.toNat_false] at B u;simp only[show((j+1:Nat):Int) - 1=(j:Nat) by omega,hd,X,w64 (x:=((j / 32:Nat):Int)) om om,hp];rw[ol (show(0:Int)<=(j:Int) by omega),bifT,Qb8 Q,sbind,grd_t (ol (dp _)),sbind,grd_t (bne_iff_ne.2 om),sbind,T,sbind,J,sbind,Qq6 hn om om I m,sbind,bifd];by_cases d:val b<=val R;rw[oq (Jge.2 d)];obtain⟨r3,l1,l2,l3,l4⟩:=Qvs (p:=[]) (q:=[]) hn oh (show b.length<=R.length by omega) I m d;simp only[yw,uh,yr] at l1;rw[l1,sbind];cases q2 with
 | nil=>simp at G;omega
 | cons x F=>
   obtain⟨x1,x2⟩:=K0.1 K;have hv:val (x::F)=x+4294967296*val F:=rfl;rw[hv] at u;rw[show getI (x::F) 0=some x from rfl,sbind,sbind,show(x::F).set (Int.toNat 0) ((x+1)%4294967296)=(x+1)%4294967296::F from rfl,w64 om om];have hx:(x+1)%4294967296=x+1:=om
   rw[hx];refine⟨_,rfl,⟨j,rfl,om,by simpa [l] using G,by simp only[];omega,K0.2 ⟨om,x2⟩,l3,by simp only[];omega,?_⟩,by simp only[];omega⟩;simp only[];rw[N];exact Jki E C u B (by simp only[val];omega) l4 d
 rw[oj (λh=>d (Jge.1 h)),w64 om om];refine⟨_,rfl,⟨j,rfl,om,by simp only[];omega,by simp only[];omega,K,I,by simp only[];omega,?_⟩,by simp only[];omega⟩;simp only[];rw[N];exact Jkh E C u B;right;obtain rfl:k=0:=om
 rw[oo om,bifF];rw[Nat.pow_zero,Nat.div_one] at C;exact⟨_,rfl,l,v,w,y,M,C⟩;rintro⟨q,r⟩ ⟨H,L,l,v,w,y⟩;simp only at H L l v w y;obtain⟨J,G⟩:=Jkg y w;simp only[];rw[Y3 hn om,sbind,Y3 hn om,sbind,<-K1 l,<-K1 v,<-J,<-G]
theorem Jmg{x c y:Nat}(h:x=2 ^ c*y)(a:y%2=0):x=2 ^ (c+1)*(y / 2):=by rw[ji,uo,h];congr 1;omega
theorem Jkj{x c y k:Nat}(h:x=2 ^ c*y)(h0:y≠0)(d:x<2 ^ k):c<k:=by have a:2 ^ c*1<=2 ^ c*y:=ut _ om;exact(tm (show 1<2 by decide)).1 (show 2 ^ c<2 ^ k by omega)
theorem Q4l{n x:Nat}(hn:big<=n)(h0:x≠0)(l:x<4294967296):∃ z o:Nat,Qam n x=some (z:Int)/\z<32/\x=2 ^ z*o/\o%2=1:=by
 have f:x<2 ^ 32:=l;have g:∃ r:Int,Qam n x=some r/\∃ z o:Nat,r=z/\z<32/\x=2 ^ z*o/\o%2=1:=by unfold Qam;rw[bifd,oj h0];refine Qib (λs=>s.1) (λs=>∃ c:Nat,s.2=c/\x=2 ^ c*s.1/\s.1≠0) (λt=>∃ z o:Nat,t=z/\z<32/\x=2 ^ z*o/\o%2=1) ⟨0,rfl,oc,h0⟩ (by simp only[];unfold big at hn;omega) ?_ ?_;rintro⟨y,i⟩ ⟨c,d,a,e⟩;simp only at d a e;subst d;have k:=Jkj a e f;simp only[bifd];by_cases h:y%2=0;left;rw[oq h,w1 om];exact⟨_,rfl,⟨c+1,rfl,Jmg a h,by simp only[];omega⟩,by simp only[];omega⟩;right;rw[oj h];exact⟨_,rfl,c,y,rfl,k,a,om⟩;rintro t ⟨z,o,rfl,d,a,e⟩;exact⟨_,rfl,z,o,rfl,d,a,e⟩
 obtain⟨r,d,z,o,rfl,a,e,j⟩:=g;exact⟨z,o,d,a,e,j⟩
theorem Qx3(a:List Nat):Qbu a=some (decide (a=[1])):=by
 unfold Qbu;simp only[jn_eq,bifd]
 match a with
 | []=>rfl
 | [x]=>rw[oq (show(([x]:List Nat).length:Int)=1 from rfl)];exact yj some (gg.2 oc)
 | x::y::t=>rw[oj oh];simp
theorem mid2{α:Type}(l:List α)(x y:α)(r:List α):l++x::y::r=(l++[x])++y::r:=oc
theorem Jkk{a d V z:Nat}(l:z<32)(k:a<4294967296)(j:d<4294967296):
 (a+4294967296*(d+4294967296*V)) / 2 ^ z=((d*4294967296)%18446744073709551616+a)%18446744073709551616 / 2 ^ (min z 64)%4294967296+4294967296*((d+4294967296*V) / 2 ^ z):=by
 rw[xv (show d*4294967296<18446744073709551616 by omega),xv (show d*4294967296+a<18446744073709551616 by omega),ye om];have g:(a+4294967296*(d+4294967296*V)) / 2 ^ z / 4294967296=(d+4294967296*V) / 2 ^ z:=by rw[wk,uv (2 ^ z) 4294967296,<-wk];congr 1;omega
 have i:(a+4294967296*(d+4294967296*V)) / 2 ^ z%4294967296=(d*4294967296+a) / 2 ^ z%4294967296:=by
  have e:(4294967296:Nat)=2 ^ z*2 ^ (32 - z):=by rw[<-wj,show z+(32 - z)=32 by omega]
  have f:a+4294967296*(d+4294967296*V)=(d*4294967296+a)+2 ^ z*(4294967296*(2 ^ (32 - z)*V)):=by rw[Nat.mul_left_comm (2 ^ z),<-uo (2 ^ z),<-e];omega
  rw[f,jv _ _ (vr z),Nat.add_mul_mod_self_left]
 rw[<-g,<-i];omega
theorem Qoe{a:List Nat}{k:Nat}(h:k<a.length):val (a.drop k)=a[k]+4294967296*val (a.drop (k+1)):=by rw[xe h];rfl
theorem Jba{a:List Nat}{k:Nat}:val (a.drop k)=a.getD k 0+4294967296*val (a.drop (k+1)):=by by_cases h:k<a.length;rw[Qoe h];simp[h];rw[xj om,xj om];simp[val,xd (show a.length<=k by omega)]
theorem Jkl(P w V2 V V1 A:Nat)(e:V=w+4294967296*V2)(h:V1+P*V=A):V1+P*w+P*4294967296*V2=A:=by grind
theorem Q6u{n z:Nat}{p a q:List Nat}(hn:big<=n)(O:p.length+a.length+q.length<17592186044416)(v:Wd a)(N:z<32):
 ∃ r k,Qbf n (p++a++q) p.length a.length (z:Int)=some (p.length,k,p++r++q)/\r.length=a.length/\Wd r/\k<=r.length/\r.take k=toL (val a / 2 ^ z):=by
 have E:∃ w,Qbf n (p++a++q) p.length a.length (z:Int)=some w/\∃ r k,w=(p.length,k,p++r++q)/\r.length=a.length/\Wd r/\k<=r.length/\r.take k=toL (val a / 2 ^ z):=by
  unfold Qbf
  refine Qib (λs=>a.length - s.2.toNat) (λs=>∃(k:Nat) (o:List Nat),s.2=k/\k<=a.length/\s.1=p++o++(a.drop k++q)/\o.length=k/\Wd o/\val o+bp k*(val (a.drop k) / 2 ^ z)=val a / 2 ^ z)
   (λt=>∃ o,t=p++o++q/\o.length=a.length/\Wd o/\val o=val a / 2 ^ z) ⟨0,[],rfl,om,oc,rfl,W9,by simp[val,Qbn]⟩ (by simp only[];unfold big at hn;omega) ?_ ?_
  rintro⟨w,i⟩ ⟨k,o,e,l,y,C,I,A⟩;simp only at e y A;subst e y;simp only[bifd,jn_eq,sbind];by_cases hk:k<a.length;left;have L:=Qca v hk;have M:=Qmp v (k+1);have m:=Jkk (V:=val (a.drop (k+1+1))) N L M;have u:∀(K:Nat->Option (Lp (List Nat×Int) (List Nat))),(if wrap64 ((k:Int)+1)<(a.length:Int) then (grd (winS (wrap64 ((k:Int)+1)) a.length)).bind λ_=>(getI (p++o++(a.drop k++q)) ((p.length:Int)+wrap64 ((k:Int)+1))).bind λG=>K G else K 0)=K (a.getD (k+1) 0):=by
   intro K;rw[w1 om];by_cases f:k+1<a.length;rw[oq om,Qq7 f,sbind,show((p.length:Int)+((k+1:Nat):Int))=((p.length+k+1:Nat):Int) by omega,xe hk,xe f,yu,yu,mid2,Ws oh,sbind];simp[f];rw[oj om];simp[xd (show a.length<=k+1 by omega)]
  rw[oq om,u (λF=>(grd (winS (k:Int) a.length)).bind λ_=>(getI (p++o++(a.drop k++q)) ((p.length:Int)+(k:Int))).bind λH=>(grd (decide (0<=(z:Int)))).bind λ_=>(grd (winS (k:Int) a.length)).bind λ_=>(getI (p++o++(a.drop k++q)) ((p.length:Int)+(k:Int))).bind λ_=>some (Lp.go ((p++o++(a.drop k++q)).set (Int.toNat ((p.length:Int)+(k:Int))) (((F*4294967296)%18446744073709551616+H)%18446744073709551616 / 2 ^ (min (Int.toNat (z:Int)) 64)%4294967296),wrap64 ((k:Int)+1))))];rw[Qq7 hk,sbind,show((p.length:Int)+(k:Int))=((p.length+k:Nat):Int) by omega,xe hk,yu,Ws oh,sbind,grd_t (ol (dp _)),sbind,sbind,sbind,Zk oh,w1 om,ya];have x:(a.getD (k+1) 0*4294967296%18446744073709551616+a[k])%18446744073709551616 / 2 ^ min z 64%4294967296<4294967296:=uw _ oz;generalize (a.getD (k+1) 0*4294967296%18446744073709551616+a[k])%18446744073709551616 / 2 ^ min z 64%4294967296=w at m x |-;refine⟨_,rfl,⟨k+1,o++[w],rfl,om,oc,by simp[C],Kv.2 ⟨I,K0.2 ⟨x,W9⟩⟩,?_⟩,by simp only[];omega⟩;rw[Vh,C,W0];refine Jkl _ _ _ _ _ _ ?_ A;rw[Qoe hk,Jba (k:=k+1)];exact m;right;obtain rfl:k=a.length:=om
  rw[oj om];rw[xj (xr _)] at A;exact⟨_,rfl,o,oc,C,I,by simpa [val] using A⟩;rintro t ⟨o,rfl,e,l,y⟩;refine Qib (λs=>s.2) (λs=>s.1=p.length/\s.2<=o.length/\trimZ o=trimZ (o.take s.2)) (λt=>t.1=p.length/\t.2<=o.length/\trimZ o=o.take t.2) ⟨rfl,by simp only[];omega,by simp only[];rw[<-e,xc]⟩ (by simp only[];unfold big at hn;omega) ?_ ?_;rintro⟨s1,k⟩ ⟨rfl,g,g3⟩;simp only at g g3;simp only[jn_eq,bifd];by_cases h0:0<k;obtain⟨j,rfl⟩:∃ j,k=j+1:=⟨k - 1,om⟩
  have B:j<o.length:=om
  rw[We B] at g3;rw[oq om,w64 om om,show((j+1:Nat):Int) - 1=(j:Nat) by omega,Qq7 om,sbind,show((p.length:Int)+(j:Int))=((p.length+j:Nat):Int) by omega];have J:getI (p++o++q) ((p.length+j:Nat):Int)=some o[j]:=by rw[Qfh,xf,yz om,wz,yh B,oi B]
  rw[J,sbind];by_cases d:o[j]=0;left;rw[oq d,grd_t (by unfold winC;simp;omega),sbind];exact⟨_,rfl,⟨oc,by simp only[];omega,by simp only[];rw[g3,d,Qwn];simp⟩,by simp only[];omega⟩;right;rw[oj d];exact⟨_,rfl,rfl,g,by simp only[];rw[g3,We B,Q5t _ d]⟩;right;obtain rfl:k=0:=om
  rw[oj om,bifF];exact⟨_,rfl,rfl,by simp only[];omega,by simp only[];rw[g3];simp[trimZ]⟩;rintro⟨s1,k⟩ ⟨rfl,g,g3⟩;simp only at g g3;exact⟨_,rfl,o,k,rfl,e,l,g,by rw[<-g3,<-K1 l,y]⟩
 obtain⟨w,e,r,k,rfl,l⟩:=E;exact⟨r,k,e,l⟩
def Win(X:List Nat)(o l:Nat)(b:List Nat):Prop:=∃ p q,X=p++b++q/\p.length=o/\b.length=l
theorem Q2n{X:List Nat}{o l:Nat}{b:List Nat}(h:Win X o l b):subW X o l=some b:=by obtain⟨p,q,rfl,rfl,rfl⟩:=h;unfold subW;rw[oq oc];simp
theorem Jgf(b:List Nat):Win b 0 b.length b:=⟨[],[],oc,rfl,rfl⟩
theorem oddw{w z o R:Nat}(g:z<32)(e:w=2 ^ z*o)(f:o%2=1):(w+4294967296*R) / 2 ^ z%2=1/\w+4294967296*R=2 ^ z*((w+4294967296*R) / 2 ^ z):=by
 have a:(4294967296:Nat)=2 ^ z*(2*2 ^ (31 - z)):=by rw[<-uo,uv (2 ^ z) 2,uo,<-wj,show z+(31 - z)=31 by omega]
 have d:w+4294967296*R=2 ^ z*(o+2*(2 ^ (31 - z)*R)):=by rw[dz,<-e,<-uo 2,<-uo (2 ^ z),<-a]
 rw[d,Nat.mul_div_cancel_left _ (vr z)];exact⟨om,rfl⟩
theorem Qq9{n o l:Nat}{X a:List Nat}(hn:big<=n)(L:X.length<17592186044416)(M:Win X o l a)(v:Wd a)(h0:val a≠0):
 ∃ f l' t X',X8 n X o l=some (f,l',((t:Nat):Int),X')/\X'.length=X.length/\∃ u,val a=2 ^ t*u/\u%2=1/\Win X' f l' (toL u)/\t<=32*a.length:=by
 obtain⟨p,q,rfl,rfl,rfl⟩:=M;have C:∃ w,X8 n (p++a++q) p.length a.length=some w/\∃ f l' t X',w=(f,l',((t:Nat):Int),X')/\X'.length=(p++a++q).length/\∃ u,val a=2 ^ t*u/\u%2=1/\Win X' f l' (toL u)/\t<=32*a.length:=by
  unfold X8;simp only[yn] at L;have m:∀ j,val a=bp j*val (a.drop j)->j<a.length:=by intro j d;rcases xl j a.length with h | h;exact h;rw[xj h] at d;exact absurd d (by simpa [val] using h0)
  refine Qib (λs=>s.2.1) (λs=>∃ j:Nat,s.1=p.length+j/\s.2.1=a.length - j/\s.2.2=((32*j:Nat):Int)/\val a=bp j*val (a.drop j))
   (λs=>∃ j:Nat,s.1=p.length+j/\s.2.1=a.length - j/\s.2.2=((32*j:Nat):Int)/\val a=bp j*val (a.drop j)/\a.getD j 0≠0) ⟨0,rfl,rfl,rfl,by rw[Qbn];simp⟩ (by simp only[];unfold big at hn;omega) ?_ ?_
  rintro⟨s1,O,P⟩ ⟨j,rfl,rfl,rfl,g⟩;have d:=m j g;have y:getI (p++a++q) (((p.length+j:Nat):Int)+0)=some a[j]:=by rw[show(((p.length+j:Nat):Int)+0)=((p.length+j:Nat):Int) by omega,Qfh,xf,yz om,wz,yh d,oi d]
  simp only[bifd];rw[show(0:Int)=((0:Nat):Int) from rfl,Qq7 om,sbind,show((0:Nat):Int)=0 from rfl,y,sbind];by_cases x:a[j]=0;left;rw[oq x,grd_t (by unfold winC;simp;omega),sbind,w64 om om];refine⟨_,rfl,⟨j+1,by simp only[];omega,by simp only[];omega,by simp only[];omega,?_⟩,by simp only[];omega⟩;rw[g,Qoe d,x,W0,xg,uo];right;rw[oj x];exact⟨_,rfl,j,rfl,rfl,rfl,g,by simpa [d] using x⟩;rintro⟨s1,O,P⟩ ⟨j,rfl,rfl,rfl,g,K⟩;have d:=m j g;have y:getI (p++a++q) (((p.length+j:Nat):Int)+0)=some a[j]:=by
   rw[show(((p.length+j:Nat):Int)+0)=((p.length+j:Nat):Int) by omega,Qfh,xf,yz om,wz,yh d,oi d]
  have N:=Qca v d;have B:a[j]≠0:=by simpa [d] using K
  obtain⟨z,V,Q,H,z3,z4⟩:=Q4l hn B N;simp only[];rw[show(0:Int)=((0:Nat):Int) from rfl,Qq7 om,sbind,show((0:Nat):Int)=0 from rfl,y,sbind,Q,sbind];have A:p++a++q=(p++a.take j)++a.drop j++q:=oc
  have e:(p++a.take j).length=p.length+j:=oh
  have i:(a.drop j).length=a.length - j:=oc
  obtain⟨r,k,E,S,T,U,F⟩:=Q6u (p:=p++a.take j) (a:=a.drop j) (q:=q) hn (by rw[e,i];omega) (Qox v) H;rw[e,i,<-A] at E;rw[E,sbind,w64 om om];obtain⟨w1,G⟩:=oddw (R:=val (a.drop (j+1))) H z3 z4;rw[<-Qoe d] at w1 G;refine⟨_,rfl,p.length+j,k,32*j+z,p++a.take j++r++q,oc,oh,val (a.drop j) / 2 ^ z,?_,w1,?_,om⟩;rw[wj,<-Qnz,uo,<-G];exact g;refine⟨p++a.take j,r.drop k++q,?_,e,?_⟩;rw[<-F];simp only[xf];rw[<-xf (r.take k),ue];rw[<-F,xa,ye om]
 obtain⟨w,I,f,l',t,X',rfl,J⟩:=C;exact⟨f,l',t,X',I,J⟩
theorem Q21{n t:Nat}{a:List Nat}(hn:big<=n)(f:a.length<1099511627776)(g:t<35184372088832)(d:Wd a):Qb4 n a (t:Int)=some (toL (2 ^ t*val a)):=by unfold Qb4;have hd:Int.tdiv (t:Int) 32=((t / 32:Nat):Int):=rfl;have e:Int.tmod (t:Int) 32=((t%32:Nat):Int):=rfl;have hp:(1*2 ^ min (Int.toNat ((t%32:Nat):Int)) 32)%4294967296=2 ^ (t%32):=Jd6 (uw _ oz);have hb:2 ^ (t%32)<4294967296:=xt (Nat.pow_lt_pow_right oz (uw t (show 0<32 by decide))) oz;rw[hd,e,w64 om om,Qev om om,sbind,J5 oh oh,sbind,grd_t (ol (dp _)),sbind,hp,sbind,Qd1 hn oh oc (Kv.2 ⟨Qp7 oz,d⟩) (K0.2 ⟨hb,W9⟩),sbind,Y8,Qiq,yt,Qnz,xg];congr 2;simp only[val,vv,xp];rw[uo,uv (val a),<-uo,<-wj,show 32*(t / 32)+t%32=t by omega]
theorem Q8r{u t:Nat}(h:u%2=1):Nat.Coprime (2 ^ t) u:=Nat.Coprime.pow_left t (by
 have:Nat.gcd 2 u=1:=by rw[Nat.gcd_rec,h];rfl
 exact this)
theorem Jn8{m k u v:Nat}(a:u%2=1)(d:v%2=1):Nat.gcd (2 ^ m*u) (2 ^ k*v)=2 ^ (min m k)*Nat.gcd u v:=by by_cases h:m<=k;rw[ye h,show k=m+(k - m) by omega,wj,uo,Nat.gcd_mul_left,Nat.Coprime.gcd_mul_left_cancel_right _ (Q8r a)];rw[Nat.min_eq_right om,show m=k+(m - k) by omega,wj,uo,Nat.gcd_mul_left,Nat.Coprime.gcd_mul_left_cancel _ (Q8r d)]
theorem Q3t{x k:Nat}(h:x<2 ^ k):blen x<=k:=by by_cases h0:x=0;rw[h0,Qj3];omega;have a:=Qq0 h0;have:=(tm (show 1<2 by decide)).1 (um a h);omega
theorem Jkm{x y t:Nat}(h:x=2 ^ t*y)(g:t≠0)(h0:x≠0):blen y<blen x:=by
 have a:=Qs9 (x:=x);have hp:=Qy3 h0;obtain⟨k,hk⟩:∃ k,blen x=k+1:=⟨_,(Nat.sub_add_cancel hp).symm⟩
 rw[hk] at a |-;have d:y<2 ^ k:=by
  obtain⟨s,rfl⟩:∃ s,t=s+1:=⟨t - 1,om⟩
  rw[ji] at h a;have e:1*y<=2 ^ s*y:=xh _ (vr s);have f:x=2*(2 ^ s*y):=by rw[h,uv (2 ^ s) 2,uo]
  omega
 have:=Q3t d;omega
theorem Jkn{x y:Nat}(h:x<=y):blen x<=blen y:=Q3t (um h Qs9)
theorem Qvt{v:Nat}:blen v<=32*(toL v).length:=by have:=Qzz (Jo v);rwa [Q8] at this
theorem Qx4{X:List Nat}{o l:Nat}{b:List Nat}(h:Win X o l b):b.length<=X.length/\b.length=l:=by obtain⟨p,q,rfl,rfl,rfl⟩:=h;exact⟨oh,rfl⟩
def wval(X:List Nat)(o l:Nat):Nat:=val ((subW X o l).getD [])
theorem Qth{X:List Nat}{o l u:Nat}(h:Win X o l (toL u)):wval X o l=u:=by unfold wval;rw[Q2n h,gz,Q8]
theorem Jn9{u v:Nat}(a:u%2=1)(d:v%2=1)(h:v<u):(u - v)≠0/\(u - v)%2=0:=om
theorem Qqf{a:List Nat}(d:Wd a):(trimZ a).length=0↔val a=0:=by rw[<-Q1a d];constructor;intro h;exact xx h;intro h;rw[h];rfl
set_option maxHeartbeats 1000000 in
theorem Q8s{n:Nat}{a b:List Nat}(hn:big<=n)(ha:a.length<1099511627776)(hb:b.length<1099511627776)(e:Wd a)(f:Wd b):Qdn n a b=some (toL (Nat.gcd (val a) (val b))):=by
 unfold Qdn;have la:=Qag a;have lb:=Qag b;rw[Y3 hn om,sbind,Y3 hn om,sbind];by_cases h0:val a=0;have:=(Qqf e).2 h0;rw[ol om,bifT,h0,Nat.gcd_zero_left,K1 f];rw[oo (λh=>h0 ((Qqf e).1 om)),bifF];by_cases d:val b=0;have:=(Qqf f).2 d;rw[ol om,bifT,d,Nat.gcd_zero_right,K1 e];rw[oo (λh=>d ((Qqf f).1 om)),bifF];obtain⟨o1,l1,P,X1,S,e2,u,L,M,G,e6⟩:=Qq9 hn (show(trimZ a).length<_ by omega) (Jgf _) (Jd1 e) (by rw[Qvd];exact h0);obtain⟨o2,l2,Q,X2,T,f2,v,f3,f4,f5,f6⟩:=Qq9 hn (show(trimZ b).length<_ by omega) (Jgf _) (Jd1 f) (by rw[Qvd];exact d);rw[Qvd] at L f3;rw[S,sbind,T,sbind,L,f3,Jn8 M f4];simp only[];have i1:=Qx4 G;have i2:=Qx4 f5;have j1:=@Qvt u;have j2:=@Qvt v;have k1:=Qis (v:=u)
 refine Qb9 (λs=>blen (wval s.1 s.2.1 s.2.2.1)+blen (wval s.2.2.2.1 s.2.2.2.2.1 s.2.2.2.2.2))
  (λs=>∃ x y:Nat,Win s.1 s.2.1 s.2.2.1 (toL x)/\Win s.2.2.2.1 s.2.2.2.2.1 s.2.2.2.2.2 (toL y)/\x%2=1/\y%2=1/\Nat.gcd x y=Nat.gcd u v/\s.1.length<1099511627776/\s.2.2.2.1.length<1099511627776)
  (λt=>Win t.1 t.2.1 t.2.2 (toL (Nat.gcd u v))/\t.1.length<1099511627776) ⟨u,v,G,f5,M,f4,rfl,by simp only[];omega,by simp only[];omega⟩ (by simp only[];rw[Qth G,Qth f5];unfold big at hn;omega) ?_ ?_
 have round:∀(X:List Nat) (o l:Nat) (Y:List Nat) (g l' x y:Nat),Win X o l (toL x)->Win Y g l' (toL y)->x%2=1->y%2=1->Nat.gcd x y=Nat.gcd u v->X.length<1099511627776->Y.length<1099511627776->y<x ->
  ∃ s':List Nat×Nat×Nat×List Nat×Nat×Nat,((some (toL y)).bind λK=>(Yq n X o l K).bind λJ=>(X8 n J o l).bind λi=>some (Lp.go (σ:=List Nat×Nat×Nat×List Nat×Nat×Nat) (τ:=List Nat×Nat×Nat) (i.2.2.2,i.1,i.2.1,Y,g,l')))=some (.go s') /\
    (∃ x y:Nat,Win s'.1 s'.2.1 s'.2.2.1 (toL x)/\Win s'.2.2.2.1 s'.2.2.2.2.1 s'.2.2.2.2.2 (toL y)/\x%2=1/\y%2=1/\Nat.gcd x y=Nat.gcd u v/\s'.1.length<1099511627776/\s'.2.2.2.1.length<1099511627776) /\
    blen (wval s'.1 s'.2.1 s'.2.2.1)+blen (wval s'.2.2.2.1 s'.2.2.2.2.1 s'.2.2.2.2.2)<blen x+blen y:=by
  intro X o l Y g l' x y Z O F j A lX lY I;obtain⟨p,q,rfl,rfl,rfl⟩:=Z;obtain⟨r,g1,H,g3,g4⟩:=Qvs (p:=p) (a:=toL x) (q:=q) (b:=toL y) hn (by simp at lX;omega) (Y9 om) (Jo _) (Jo _) (by rw[Q8,Q8];omega);rw[Q8,Q8] at g4;obtain⟨s1,s2⟩:=Jn9 F j I;obtain⟨o3,l3,t3,R,U,V,w,E,W,N,h6⟩:=Qq9 (X:=p++r++q) (o:=p.length) (l:=(toL x).length) (a:=r) hn (by simp[H];simp at lX;omega) ⟨p,q,rfl,rfl,H⟩ g3 (by rw[g4];exact s1);rw[g4] at E;have ht:t3≠0:=by rintro rfl;rw[Nat.pow_zero,Nat.one_mul] at E;omega
  refine⟨(R,o3,l3,Y,g,l'),by rw[sbind,g1,sbind,U,sbind],⟨w,y,N,O,W,j,?_,?_,lY⟩,?_⟩;rw[<-A,<-Nat.Coprime.gcd_mul_left_cancel (k:=2 ^ t3) w (Q8r j),<-E,Nat.gcd_sub_self_left om];rw[V];simp[H];simp at lX;omega;simp only[];rw[Qth N,Qth O];have c1:=Jkm E ht s1;have C:=Jkn (Nat.sub_le x y);omega
 rintro⟨X,o,l,Y,g,l'⟩ ⟨x,y,w1,m,F,j,A,lX,lY⟩;simp only at w1 m lX lY;have i3:=Qx4 w1;have i4:=Qx4 m;simp only[jn_eq];rw[Q2n w1,sbind,Q2n m,sbind,Qq6 hn om om (Jo _) (Jo _),sbind,Q8,Q8,Qth w1,Qth m,bifd,bifd];unfold cmpI;by_cases c1:x<y;left;rw[oq c1,oj oz,oq oz];obtain⟨s',r1,r2,r3⟩:=round Y g l' X o l y x m w1 j F (by rw[Nat.gcd_comm];exact A) lY lX c1;exact⟨s',r1,r2,om⟩;rw[oj c1];by_cases C:y<x;left;rw[oq C,oj oz,oj oz];exact round X o l Y g l' x y w1 m F j A lX lY C;right;rw[oj C,oq rfl];obtain rfl:x=y:=om
 refine⟨_,rfl,?_,lX⟩;rw[<-A,Nat.gcd_self];exact w1;rintro⟨X,o,l⟩ ⟨w1,lX⟩;simp only at w1 lX;have i3:=Qx4 w1;simp only[];have B:min (P:Int) (Q:Int)=((min P Q:Nat):Int):=om
 rw[Q2n w1,sbind,B,Q21 hn om om (Jo _),sbind,Q8]
theorem Qvu{n:Nat}{a g:List Nat}(hn:big<=n)(f:a.length<1099511627776)(hb:g.length<1099511627776)(d:Wd a)(e:Wd g)(h0:val g≠0):Qbg n a g=some (toL (val a / val g)):=by unfold Qbg;rw[Qx3,sbind,bifd];split;rename_i h;rw[h,Y3 hn om,sbind,<-K1 d];simp[val];rw[Q8q hn om om d e h0,sbind]
def wy(w:Js):Int:=if w.Neg then -(val w.A6:Int) else (val w.A6:Int)
def rW(z:Int):Js:=⟨decide (z<0),toL z.natAbs⟩
theorem wy_rW(z:Int):wy (rW z)=z:=by unfold wy rW;simp only[Q8];by_cases h:z<0;rw[ol h,oq rfl];omega;rw[oo h,oj oz];omega
theorem Qqg{n:Nat}{w:Js}(hn:big<=n)(d:Wd w.A6)(a:w.A6.length<=35184372088832):Xd n w=some (rW (wy w)):=by unfold Xd rW wy;rw[Y3 hn a,sbind,<-K1 d,jn_eq];cases w.Neg;rw[bifF,oj oz,oo om,wh];rw[bifT,oq rfl,Int.natAbs_neg,wh];have:=Qis (v:=val w.A6);refine yj (λb=>some (⟨b,_⟩:Js)) (gg.2 ?_);omega
theorem Q8t{n:Nat}{w u:Js}(hn:big<=n)(i:Wd w.A6)(f:Wd u.A6)(x:w.A6.length<17592186044410)(p:u.A6.length<17592186044410):Qdq n w u=some (rW (wy w+wy u)):=by
 unfold Qdq;have g1:=Km i;have v:=Km f;have len:∀ z,z<=val w.A6+val u.A6->(toL z).length<=35184372088832:=λz q=>xo (Y9 q) (xo (Qta (k:=17592186044410) om om) oz);rw[Qx0 hn om om i f,sbind,Qq6 hn om om i f,sbind,bifd];obtain⟨s,a⟩:=w;obtain⟨t,b⟩:=u;simp only at *
 have e:∀ s,Xd n ⟨s,toL (val a+val b)⟩=some (rW (if s then -((val a+val b:Nat):Int) else ((val a+val b:Nat):Int))):=λs=>by rw[Qqg hn (Jo _) (len _ (xr _))];unfold wy;simp only[Q8]
 have j:∀ s,val b<=val a->(Zb n a b).bind (λr=>(Xd n ⟨s,r⟩).bind λd=>some d)=some (rW (if s then -((val a - val b:Nat):Int) else ((val a - val b:Nat):Int))):=λs h=>by rw[Qx2 hn om om i f h,sbind,Qqg hn (Jo _) (len _ om),sbind];unfold wy;simp only[Q8]
 have l:∀ s,val a<=val b->(Zb n b a).bind (λr=>(Xd n ⟨s,r⟩).bind λd=>some d)=some (rW (if s then -((val b - val a:Nat):Int) else ((val b - val a:Nat):Int))):=λs h=>by rw[Qx2 hn om om f i h,sbind,Qqg hn (Jo _) (len _ om),sbind];unfold wy;simp only[Q8]
 have m:=@Jc4 (val a) (val b);unfold wy;simp only[e,sbind];by_cases h:val a<val b;rw[oq (m.2 h),l t om];cases s<;>cases t<;>simp only[beq_self_eq_true,bifT,bifF,wg,yf,yv,show(false == true)=false by rfl,show(true == false)=false by rfl]<;>congr 2<;>omega;rw[oj (λg=>h (m.1 g)),j s om];cases s<;>cases t<;>simp only[beq_self_eq_true,bifT,bifF,wg,yf,yv,show(false == true)=false by rfl,show(true == false)=false by rfl]<;>congr 2<;>omega
def rF(q:Rat):Qb:=⟨decide (q.num<0),toL q.num.natAbs,toL q.den⟩
def fr(f:Qb):Rat:=mkRat (if f.Neg then -(val f.N:Int) else (val f.N:Int)) (val f.D)
theorem Qx5(z:Int):(if decide (z<0) then -(z.natAbs:Int) else (z.natAbs:Int))=z:=by by_cases h:z<0;rw[ol h,oq rfl];omega;rw[oo h,oj oz];omega
theorem fr_rF(q:Rat):fr (rF q)=q:=by unfold fr rF;simp only[Q8];rw[Qx5];exact we q
theorem Jko{p q:Rat}(h:rF p=rF q):p=q:=by rw[<-fr_rF p,h,fr_rF]
theorem Joa:toL 1=[1]:=by rw[Qdx oz];rw[show(1:Nat)%4294967296=1 from rfl,show(1:Nat) / 4294967296=0 from rfl,Yb]
theorem Jgg:rF 0=⟨false,[],[1]⟩:=by unfold rF;rw[show(0:Rat).num=0 from rfl,show(0:Rat).den=1 from rfl,Joa,show(0:Int).natAbs=0 from rfl,Yb];rfl
theorem rF_mk{s:Bool}{x d:Nat}(g:x≠0)(hd:d≠0):rF (mkRat (if s then -(x:Int) else (x:Int)) d)=⟨s,toL (x / Nat.gcd x d),toL (d / Nat.gcd x d)⟩:=by
 obtain⟨a,e⟩:=Qkq (z:=if s then -(x:Int) else (x:Int)) hd;have i:(if s then -(x:Int) else (x:Int)).natAbs=x:=by cases s<;>simp
 have f:Nat.gcd x d ∣ x:=Nat.gcd_dvd_left _ _;have hp:x / Nat.gcd x d≠0:=by have:=Nat.div_pos (Nat.le_of_dvd (Nat.pos_of_ne_zero g) f) (Nat.gcd_pos_of_pos_left d (Nat.pos_of_ne_zero g));omega
 rw[i] at a e;rw[<-Jfu s x _ f] at a;unfold rF;rw[a,e];generalize x / Nat.gcd x d=y at hp;cases s;rw[oj oz,oo om,wh];rw[oq rfl,ol om,Int.natAbs_neg,wh]
theorem Qbs{n:Nat}{f:Qb}(hn:big<=n)(g:Wd f.N)(e:Wd f.D)(lN:f.N.length<1099511627776)(lD:f.D.length<1099511627776):Kg n f=some (rF (fr f)):=by
 unfold Kg;have g1:=Km g;have k:=Km e;rw[Y3 hn om,sbind,Y3 hn om,sbind,<-K1 g,<-K1 e];simp only[jn_eq,bifd];have l:=Qis (v:=val f.N);have m:=Qis (v:=val f.D);unfold fr;by_cases hd:val f.D=0;rw[oq om,hd,Rat.mkRat_zero,Jgg];rfl;rw[oj om];by_cases a:val f.N=0;rw[oq om,a];have:(if f.Neg=true then -((0:Nat):Int) else ((0:Nat):Int))=0:=by split<;>rfl
 rw[this,Rat.zero_mkRat,Jgg];rw[oj om,rF_mk a hd,Qx3,sbind];have i:Nat.gcd (val f.N) (val f.D)≠0:=by have:=Nat.gcd_pos_of_pos_left (val f.D) (Nat.pos_of_ne_zero a);omega
 have j:(toL (Nat.gcd (val f.N) (val f.D))).length<1099511627776:=um (Y9 (Nat.gcd_le_left _ (Nat.pos_of_ne_zero a))) om;by_cases d:toL (val f.D)=[1]
 rw[ol d,ou,bifF];have:val f.D=1:=by rw[<-Q8 (val f.D),d];rfl
 rw[this,Nat.gcd_one_right,Nat.div_one,Nat.div_one];rw[oo d,ow,bifT,Q8s hn om om (Jo _) (Jo _),sbind,Q8,Q8,Qvu hn om j (Jo _) (Jo _) (by rw[Q8];exact i),sbind,Qvu hn om j (Jo _) (Jo _) (by rw[Q8];exact i),sbind,Q8,Q8,Q8]
theorem wy_mk(z:Int)(d:Nat):wy ⟨decide (z<0),toL (z.natAbs*d)⟩=z*(d:Int):=by unfold wy;simp only[Q8,Int.natCast_mul];by_cases h:z<0;rw[ol h,oq rfl,<-Int.neg_mul];congr 1;omega;rw[oo h,oj oz];congr 1;omega
theorem W3{n k:Nat}{p q:Rat}(hn:big<=n)(hk:k<274877906944)(hp:qw p<=k)(f:qw q<=k):Qz n (rF p) (rF q)=some (rF (p+q)):=by
 have l:=Qf9 p;have m:=Qf9 q;have a:=Qga p;have d:=Qga q;have g:=@Qck p.num.natAbs q.den;have i:=@Qck q.num.natAbs p.den;have j:=@Qck p.den q.den;unfold Qz rF;simp only[];rw[Qd1 hn om om (Jo _) (Jo _),sbind,Qd1 hn om om (Jo _) (Jo _),sbind,Q8,Q8,Q8,Q8,Q8t hn (Jo _) (Jo _) (by simp only[];omega) (by simp only[];omega),sbind,wy_mk,wy_mk,Qd1 hn om om (Jo _) (Jo _),sbind,Q8,Q8];have hs:(toL (p.num*(q.den:Int)+q.num*(p.den:Int)).natAbs).length<=2*k+1:=by
  refine xo (Y9 (Int.natAbs_add_le _ _)) ?_;rw[jg,jg,wh,wh];exact Qta om om
 rw[Qbs hn (Jo _) (Jo _) (by unfold rW;simp only[];omega) (by simp only[];omega),sbind];have e:fr ⟨(rW (p.num*(q.den:Int)+q.num*(p.den:Int))).Neg,(rW (p.num*(q.den:Int)+q.num*(p.den:Int))).A6,toL (p.den*q.den)⟩=p+q:=by unfold fr rW;simp only[Q8];rw[Qx5,<-ts _ _ p.den_nz q.den_nz,we,we]
 rw[e];rfl
theorem Jqx(z:Int)(_:z≠0):(if (!decide (z<0)) then -(z.natAbs:Int) else (z.natAbs:Int))=-z:=by by_cases h:z<0;rw[ol h,ou,oj oz];omega;rw[oo h,ow,oq rfl];omega
theorem Qra{n k:Nat}{q:Rat}(hn:big<=n)(hk:k<274877906944)(d:qw q<=k):Vk n (rF q)=some (rF (-q)):=by
 have f:=Qf9 q;have a:=Qga q;unfold Vk rF;simp only[];rw[Qbs hn (Jo _) (Jo _) (by simp only[];omega) (by simp only[];omega),sbind];have e:fr ⟨!decide (q.num<0),toL q.num.natAbs,toL q.den⟩=-q:=by unfold fr;simp only[Q8];by_cases h0:q.num=0;rw[h0];have:q=0:=jt.1 h0;subst this;rfl;rw[Jqx _ h0,<-Rat.neg_mkRat,we]
 rw[e];rfl
theorem Qrb{n k:Nat}{p q:Rat}(hn:big<=n)(hk:k<274877906944)(hp:qw p<=k)(a:qw q<=k):Qad n (rF p) (rF q)=some (rF (p - q)):=by unfold Qad;rw[Qra hn hk a,sbind,W3 hn hk hp (by rw[Qjz];exact a),sbind,te]
theorem Jmh(z u:Int):(if (decide (z<0) != decide (u<0)) then -((z.natAbs*u.natAbs:Nat):Int) else ((z.natAbs*u.natAbs:Nat):Int))=z*u:=by rw[Jft,Qx5,Qx5]
theorem Qah{n k:Nat}{p q:Rat}(hn:big<=n)(hk:k<274877906944)(hp:qw p<=k)(f:qw q<=k):Jc n (rF p) (rF q)=some (rF (p*q)):=by
 have j:=Qf9 p;have l:=Qf9 q;have a:=Qga p;have d:=Qga q;have g:=@Qck p.num.natAbs q.num.natAbs;have i:=@Qck p.den q.den;unfold Jc rF;simp only[];rw[Qd1 hn om om (Jo _) (Jo _),sbind,Qd1 hn om om (Jo _) (Jo _),sbind,Q8,Q8,Q8,Q8,Qbs hn (Jo _) (Jo _) (by simp only[];omega) (by simp only[];omega),sbind];have e:fr ⟨decide (p.num<0) != decide (q.num<0),toL (p.num.natAbs*q.num.natAbs),toL (p.den*q.den)⟩=p*q:=by
  unfold fr;simp only[Q8];rw[Jmh,<-je,we,we]
 rw[e];rfl
theorem Jmi{z u:Int}{d:Nat}(f:u≠0):(if (decide (z<0) != decide (u<0)) then -((z.natAbs*d:Nat):Int) else ((z.natAbs*d:Nat):Int))=z*(u.sign*(d:Int)):=by rw[<-Int.mul_assoc,Int.natCast_mul];have e:=Qx5 z;by_cases h:u<0;rw[ol h,dh h] at *;by_cases a:z<0;rw[ol a] at *;simp only[bne_self_eq_false,wg,yv,yf] at *;rw[show z * -1=(z.natAbs:Int) by omega];rw[oo a] at *;simp only[show(false != true)=true from rfl,yf,wg,yv] at *;rw[show z * -1=-(z.natAbs:Int) by omega,Int.neg_mul];rw[oo h,da om] at *;by_cases a:z<0;rw[ol a] at *;simp only[show(true != false)=true from rfl,yf] at *;rw[show z*1=-(z.natAbs:Int) by omega,Int.neg_mul];rw[oo a] at *;simp only[bne_self_eq_false,wg,yv] at *;rw[show z*1=(z.natAbs:Int) by omega]
theorem Qmv{n k:Nat}{p q:Rat}(hn:big<=n)(hk:k<274877906944)(hp:qw p<=k)(g:qw q<=k):Vl n (rF p) (rF q)=some (rF (p / q)):=by
 have l:=Qf9 p;have m:=Qf9 q;have d:=Qga p;have f:=Qga q;have i:=@Qck p.num.natAbs q.den;have j:=@Qck p.den q.num.natAbs;unfold Vl rF;simp only[];rw[Qd1 hn om om (Jo _) (Jo _),sbind,Qd1 hn om om (Jo _) (Jo _),sbind,Q8,Q8,Q8,Q8,Qbs hn (Jo _) (Jo _) (by simp only[];omega) (by simp only[];omega),sbind];have e:fr ⟨decide (p.num<0) != decide (q.num<0),toL (p.num.natAbs*q.den),toL (p.den*q.num.natAbs)⟩=p / q:=by
  unfold fr;simp only[Q8];by_cases h0:q.num=0
  . rw[h0,show(0:Int).natAbs=0 from rfl,vv,Rat.mkRat_zero,jt.1 h0];grind
  . rw[Jmi h0,db]
    have a:=Q9n h0 q.den_nz;rw[we] at a;rw[a]
    conv=>rhs;rw[<-we p]
    rw[je]
 rw[e];rfl
theorem Q4m{v:Nat}:((toL v).length:Int)=0↔v=0:=by have:=Qis (v:=v);omega
theorem Qle(q:Rat):Wl (rF q)=some q.num.sign:=by unfold Wl rF;simp only[bifd];by_cases h:q.num=0;rw[oq (Q4m.2 om),h];rfl;rw[oj (λg=>h (by have:=Q4m.1 g;omega))];by_cases a:q.num<0;rw[oq a,dh a];rw[oj a,da om]
theorem Qig(q:Rat):Yr (rF q)=some (decide (q=0)):=by unfold Yr rF;refine yj some (gg.2 ?_);simp only[Q4m];rw[<-jt];omega
theorem Q8u{n k:Nat}{p q:Rat}(hn:big<=n)(hk:k<274877906944)(hp:qw p<=k)(a:qw q<=k):Qby n (rF p) (rF q)=some (Int.sign (p - q).num):=by
 unfold Qby
 rw[Qrb hn hk hp a,sbind,Qle,sbind]
open Classical in
theorem Qqh{n:Nat}{f g:Qb}(hn:big<=n)(j:f.N.length<=4611686018427387904)(k:f.D.length<=4611686018427387904):Kj n f g=some (decide (f=g)):=by unfold Kj;simp only[jn_eq];obtain⟨s,a,d⟩:=f;obtain⟨t,b,e⟩:=g;simp only at *;by_cases c1:s=t;subst c1;rw[show(s == s)=true by simp,bifT,Qvr hn j,sbind];by_cases i:a=b;subst i;rw[ol rfl,bifT,Qvr hn k,sbind];exact yj some (gg.2 ⟨λh=>by rw[h],λh=>by cases h;rfl⟩);rw[oo i,bifF,oo (λh=>by cases h;exact i rfl)];rw[show(s == t)=false by simpa using c1,bifF,oo (λh=>by cases h;exact c1 rfl)]
theorem Quq{n k:Nat}{p q:Rat}(hn:big<=n)(hk:k<274877906944)(hp:qw p<=k):Kj n (rF p) (rF q)=some (decide (p=q)):=by have d:=Qf9 p;have a:=Qga p;rw[Qqh hn (by show(toL p.num.natAbs).length<=_;omega) (by show(toL p.den).length<=_;omega)];exact yj some (gg.2 ⟨Jko,λh=>by rw[h]⟩)
theorem Qlf{n k:Nat}{q:Rat}(hn:big<=n)(hk:k<274877906944)(f:qw q<=k):Qbi n (rF q)=some (qz q:Int):=by have g:=Qf9 q;have e:=Qga q;have a:=@Qvt q.num.natAbs;have d:=@Qvt q.den;unfold Qbi rF qz;simp only[];rw[Qq8 hn om (Jo _),sbind,Qq8 hn om (Jo _),sbind,Q8,Q8,w64 om om];rfl
theorem Q1z{n x:Nat}(hn:big<=n)(e:x<18446744073709551616):Qci n x=some (toL x):=by
 unfold Qci;have d:Wd [x%4294967296%4294967296,x / 4294967296%4294967296]:=K0.2 ⟨om,K0.2 ⟨om,W9⟩⟩;have a:val [x%4294967296%4294967296,x / 4294967296%4294967296]=x:=by simp only[val];omega
 rw[sbind,Y3 hn oc,sbind,<-K1 d,a]
theorem Qqi{n:Nat}{x:Int}(hn:big<=n)(i:-9223372036854775808<=x)(j:x<=9223372036854775807):Kq n x=some (rF (x:Rat)):=by
 unfold Kq;have a:Wd [1]:=K0.2 ⟨oz,W9⟩;have g:val [1]=1:=rfl;have f:∀ z,z<18446744073709551616->(toL z).length<=2:=λz l=>Qeh (by rw[W0,W0,Qbn];omega);rw[bifd];by_cases h:x<0;have e:Int.toNat (wrap64 (-(wrap64 (x+1)))%18446744073709551616)=x.natAbs - 1:=by rw[w64 (x:=x+1) om om,w64 om om];omega
 have k:=f (x.natAbs - 1) om;have d:=f x.natAbs om;rw[oq h,sbind,e,Q1z hn om,sbind,Qx0 hn om oc (Jo _) a,sbind,Q8,g,show x.natAbs - 1+1=x.natAbs by omega,Qbs hn (Jo _) a (by simp only[];omega) oc,sbind];congr 2;unfold fr;simp only[Q8,g];rw[oq trivial,show -((x.natAbs:Nat):Int)=x by omega,<-Rat.mkRat_one];have e:Int.toNat (x%18446744073709551616)=x.natAbs:=om
 have d:=f x.natAbs om;rw[oj h,e,Q1z hn om,sbind,Qbs hn (Jo _) a (by simp only[];omega) oc,sbind];congr 2;unfold fr;simp only[Q8,g];rw[oj oz,show((x.natAbs:Nat):Int)=x by omega,<-Rat.mkRat_one]
theorem Qdl{n:Nat}(hn:big<=n):Kq n 0=some (rF 0):=Qqi hn oz oz
theorem Qvv{n:Nat}(hn:big<=n):Kq n 1=some (rF 1):=Qqi hn oz oz
theorem Jac{q:Rat}(m:Nat):q⁻¹ ^ m / q=q⁻¹ ^ (m+1):=by rw[jk,db]
theorem Q8v{n k:Nat}{q:Rat}{e:Int}(hn:big<=n)(hk:k<1073741824)(j:qw q<=k):
 Qdr n (rF q) e=some (if e < -8\/8<e\/(e<0/\q=0) then (rF 0,false) else (rF (q ^ e),true)):=by
 have x:=Q5z q;unfold Qdr;simp only[jn_eq,bifd];rw[Qdl hn,sbind,Qvv hn,sbind];by_cases c1:e < -8;rw[oq c1,bifT,oq (.inl c1)];rw[oj c1];by_cases f:8<e;rw[oq f,bifT,oq (.inr (.inl f))];rw[oj f]
 have bnd:∀ m:Nat,m<=8->∀ q:Rat,qw q<=k->qw (q ^ m)<=9*k:=λm u q j=>by have:=Q50 j m;have y:m*k<=8*k:=xh _ u;have:=xo (Q5z q) j;omega
 have main:∀(l:¬(e<0/\q=0)),((loopM (λ(a:Qb×Int)=>
  if a.2<e then (
   (Jc n a.1 (rF q)).bind λp=>
   some (Lp.go (p,wrap64 (a.2+(1:Int)))))
  else (
   some (Lp.out a.1))) n (rF 1,(0:Int))).bind λ(s:Qb)=>
  (loopM (λ(d:Qb×Int)=>
   if e<d.2 then (
    (Vl n d.1 (rF q)).bind λr=>
    some (Lp.go (r,wrap64 (d.2 - (1:Int)))))
   else (
    some (Lp.out d.1))) n (s,(0:Int))).bind λ(t:Qb)=>
  some (t,true))=some (rF (q ^ e),true):=by
  intro l;by_cases h:e<0;obtain⟨m,rfl⟩:∃ m:Nat,e=-(m:Int):=⟨e.natAbs,om⟩
  rw[Wr (λ_=>(rF 1,(0:Int))) 0 (rF 1) (λi hi=>absurd hi (ww _)) (by rw[oj om]) (by unfold big at hn;omega) rfl];have v:q≠0:=λg=>l ⟨h,g⟩;rw[Wr (λi=>(rF (q⁻¹ ^ i),-(i:Int))) m (rF (q⁻¹ ^ m))];rw[Rat.zpow_neg,dl];congr 3;clear bnd l c1 f h
  induction m with
  | zero=>rw[jj,jj];grind
  | succ m w=>rw[jk,jk,w];grind
  intro i hi;rw[oq om,Qmv (k:=9*k) hn om (bnd i om _ (Q1f j)) om,sbind,Jac,w64 om om];congr 3;omega;rw[oj om];unfold big at hn;omega;rw[jj];rfl;obtain⟨m,rfl⟩:∃ m:Nat,e=(m:Int):=⟨e.natAbs,om⟩
  rw[Wr (λi=>(rF (q ^ i),(i:Int))) m (rF (q ^ m))];rw[Wr (λ_=>(rF (q ^ m),(0:Int))) 0 (rF (q ^ m)) (λi hi=>absurd hi (ww _)) (by rw[oj om]) (by unfold big at hn;omega) rfl,dl];intro i hi;rw[oq om,Qah (k:=9*k) hn om (bnd i om _ j) om,sbind,<-jk,w1 om];rw[oj om];unfold big at hn;omega;rw[jj];rfl
 by_cases h:e<0;rw[oq h,Qig,sbind,bifd];by_cases h0:q=0;rw[oq h0,oq (.inr (.inr ⟨h,h0⟩))];rw[oj h0,main (λg=>h0 g.2),oj (by rintro(g | g | g);exact c1 g;exact f g;exact h0 g.2)];rw[oj h,bifF,main (λg=>h g.1),oj (by rintro(g | g | g);exact c1 g;exact f g;exact h g.1)]
def rR(l:List Rat):List Qb:=l.map rF
theorem Kf(l:List Rat):(rR l).length=l.length:=by unfold rR;simp
theorem Qih{l:List Rat}{i:Nat}{q:Rat}(h:l[i]?=some q):(rR l)[i]?=some (rF q):=by unfold rR;rw[xm,h];rfl
theorem Jqy{a b:List Rat}(h:rR a=rR b):a=b:=by
 unfold rR at h
 induction a generalizing b with
 | nil=>cases b with
   | nil=>rfl
   | cons y b=>cases h
 | cons x a f=>cases b with
   | nil=>cases h
   | cons y b=>
     rw[yy,yy] at h;obtain⟨d,e⟩:=List.cons.inj h;rw[Jko d,f e]
theorem Qo0(l:List Rat)(q:Rat):rR (l++[q])=rR l++[rF q]:=by unfold rR;simp
def rvr(l:List Qb):List Rat:=l.map fr
theorem Qel(l:List Qb):(rvr l).length=l.length:=by unfold rvr;simp
theorem fr_tF(f:Qb):fv (tF f)=fr f:=rfl
theorem Qek(l:List Qb):rv (l.map tF)=rvr l:=by unfold rv rvr;rw[yo];rfl
theorem Jqz(l:List Rat):rvr (rR l)=l:=by
 unfold rvr rR;rw[yo]
 conv=>rhs;rw[<-List.map_id l]
 exact vt λq _=>fr_rF q
theorem qw_fr{f:Qb}{k:Nat}(h:Wd f.N/\Wd f.D/\f.N.length<=k/\f.D.length<=k)(a:1<=k):qw (fr f)<=k:=by rw[<-fr_tF];exact qw_fv ⟨h.1,h.2.2.1,h.2.1,h.2.2.2⟩ a
theorem Qn3{k:Nat}{l:List Qb}(h:FRr k l)(a:1<=k):QR k (rvr l):=λq e=>by obtain⟨f,d,rfl⟩:=xz.1 e;exact qw_fr (h f d) a
theorem Qg9{n k:Nat}{l:List Qb}(hn:big<=n)(hk:k<1099511627776)(h:FRr k l)(d:l.length<=1000000):V5 n l=some (rR (rvr l)):=by
 unfold V5;rw[Wr (λi=>(rR (rvr (l.take i)),(i:Int))) l.length (rR (rvr l))];intro i hi;have hp:l[i]?=some l[i]:=oi hi;have a:=h l[i] (xi hi);generalize l[i]=p at hp a;simp only[bifd];have e:rvr (l.take (i+1))=rvr (l.take i)++[fr p]:=by rw[X4 hp];unfold rvr;simp
 rw[oq om,Q7 hp,sbind,Qbs hn a.1 a.2.1 om om,sbind,J5 (by simp[Kf,Qel];omega) (by simp[Kf,Qel];omega),sbind,w1 om,e,Qo0];simp only[bifd];rw[oj om,xc];unfold big at hn;omega;rfl
open Classical in
theorem Qvw{n:Nat}{a b:List Qb}(hn:big<=n)(l:a.length<=1000000)(h:∀ f∈a,f.N.length<=4611686018427387904/\f.D.length<=4611686018427387904):Xc n a b=some (decide (a=b)):=by
 unfold Xc;by_cases j:a.length=b.length;rw[ol (show(a.length:Int)=(b.length:Int) by omega),ou,bifF];rw[Qoi (λi=>a[i]?=b[i]?) a.length (r:=false)];have e:(∀ i,i<a.length->a[i]?=b[i]?)↔a=b:=by constructor;intro g;refine List.ext_getElem? λi=>?_;rcases xl i a.length with hi | hi;exact g i hi;rw[xd hi,xd om];rintro rfl i _;rfl
 by_cases g:a=b;rw[oq (e.2 g),ol g];rw[oj (λh=>g (e.1 h)),oo g];intro i hi;have hp:a[i]?=some a[i]:=oi hi;have d:b[i]?=some (b[i]' om):=oi om;have k:=h a[i] (xi hi);generalize a[i]=x at hp k;generalize b[i]' om=y at d;simp only[bifd];rw[oq om,Q7 hp,sbind,Q7 d,sbind,Qqh hn k.1 k.2,sbind,hp,d,w1 om];constructor;intro g;rw[ol (Option.some.inj g)];rfl;intro g;rw[oo (λh=>g (by rw[h]))];rfl;simp only[bifd];rw[oj om];unfold big at hn;omega;rw[oo (show ¬(a.length:Int)=(b.length:Int) by omega),ow,bifT,oo];intro g;exact j (by rw[g])
theorem Q8w{q:Rat}{k:Nat}(h:qw q<=k):(rF q).N.length<=k/\(rF q).D.length<=k:=by have:=Qf9 q;have:=Qga q;exact⟨by show(toL q.num.natAbs).length<=k;omega,by show(toL q.den).length<=k;omega⟩
theorem Qol{n k:Nat}{a b:List Rat}(hn:big<=n)(e:a.length<=1000000)(hk:k<274877906944)(h:QR k a):Xc n (rR a) (rR b)=some (decide (a=b)):=by
 classical
 rw[Qvw hn (by rw[Kf];exact e) (λf d=>by
  obtain⟨q,g,rfl⟩:=xz.1 d;have:=Q8w (h q g)
  exact⟨om,om⟩)]
 exact yj some (gg.2 ⟨Jqy,λh=>by rw[h]⟩)
def oF(x:Qa):Qb:=⟨x.Num.Neg,x.Num.A6,x.Den⟩
theorem Jkp(l:List Rat):(toR l).map oF=rR l:=by unfold toR rR;rw[yo];rfl
theorem Jbb(x:Qa):Qgh x=some (oF x):=rfl
theorem Qz0{n:Nat}{l:List Qa}(hn:big<=n)(a:l.length<=1000000):Qch n l=some (l.map oF):=by unfold Qch;rw[Wr (λi=>((l.take i).map oF,(i:Int))) l.length (l.map oF)];intro i hi;have hp:l[i]?=some l[i]:=oi hi;generalize l[i]=p at hp;simp only[bifd,Jbb,sbind];rw[oq om,Q7 hp,sbind,J5 oh oh,sbind,w1 om,Qdi oF hp];simp only[bifd];rw[oj om,xc];unfold big at hn;omega;rfl
theorem Qrc{n k:Nat}{a b:List Rat}(hn:big<=n)(hk:k<274877906944)(j:QR k a)(hb:QR k b)(l:a.length=b.length)(m:a.length<=1000000):Wz n (rR a) (rR b)=some (rR (addQ a b)):=by
 unfold Wz;rw[Wr (λi=>(rR (addQ (a.take i) (b.take i)),(i:Int))) a.length (rR (addQ a b))];intro i hi;have hp:a[i]?=some a[i]:=oi hi;have d:b[i]?=some (b[i]' om):=oi om;have f:=j a[i] (xi hi);have g:=hb (b[i]' om) (xi om);generalize a[i]=x at hp f;generalize b[i]' om=y at d g;simp only[bifd];have e:addQ (a.take (i+1)) (b.take (i+1))=addQ (a.take i) (b.take i)++[x+y]:=by
  rw[X4 hp,X4 d];unfold addQ;rw[List.zipWith_append oh];rfl
 rw[oq (by rw[Kf];omega),Q7 (Qih hp),sbind,Q7 (Qih d),sbind,W3 hn hk f g,sbind,J5 (by simp[Kf,Zl];omega) (by simp[Kf,Zl];omega),sbind,w1 om,e,Qo0];simp only[bifd];rw[oj (by rw[Kf];omega),xc,l,xc];unfold big at hn;omega;rfl
def blkB(c:Nat):Bool:=decide (c=32\/c=9\/c=10\/c=13)
theorem Qmf{α:Type}(p:α->Bool):∀(l:List α),(l.dropWhile p).length<=l.length
 | []=>xr _
 | x::l=>by rw[List.dropWhile_cons];split;exact Nat.le_succ_of_le (Qmf p l);exact xr _
def wcons(w:Qq):List Qq ⊕ Nat->List Qq ⊕ Nat
 | .inl l=>.inl (w::l)
 | .inr p=>.inr p
def tailK(k:Int)(r:List UInt8):List UInt8:=r.takeWhile (λb=>goC k b.toNat)
def scanS:List UInt8->Nat->List Qq ⊕ Nat
 | [],_=>.inl []
 | c::r,i=>
   if blkB c.toNat then scanS r (i+1)
   else if c.toNat=35 then scanS (r.dropWhile (λb=>b.toNat≠10)) (i+1+(r.takeWhile (λb=>b.toNat≠10)).length)
   else if kindC c.toNat=0 then .inr i
   else if mostC (kindC c.toNat)<1+(tailK (kindC c.toNat) r).length then .inr (i+mostC (kindC c.toNat))
   else wcons ⟨kindC c.toNat,c::tailK (kindC c.toNat) r,i⟩ (scanS (r.drop (tailK (kindC c.toNat) r).length) (i+1+(tailK (kindC c.toNat) r).length))
termination_by s=>s.length
decreasing_by
 all_goals simp only[xn,uc]
 . omega
 . have:=Qmf (λb:UInt8=>decide (b.toNat≠10)) r;omega
 . omega
theorem Qru(i:Nat):scanS [] i=.inl []:=by rw[scanS]
theorem Qqj(c:UInt8)(r:List UInt8)(i:Nat):scanS (c::r) i =
 if blkB c.toNat then scanS r (i+1)
 else if c.toNat=35 then scanS (r.dropWhile (λb=>b.toNat≠10)) (i+1+(r.takeWhile (λb=>b.toNat≠10)).length)
 else if kindC c.toNat=0 then .inr i
 else if mostC (kindC c.toNat)<1+(tailK (kindC c.toNat) r).length then .inr (i+mostC (kindC c.toNat))
 else wcons ⟨kindC c.toNat,c::tailK (kindC c.toNat) r,i⟩ (scanS (r.drop (tailK (kindC c.toNat) r).length) (i+1+(tailK (kindC c.toNat) r).length)):=by rw[scanS]
def rstep(i:Nat)(c:UInt8)(b:List Qq×Bool):(List Qq×Bool) ⊕ (List Qq×Int):=
 let note:=if c.toNat=35 then true else if c.toNat=10 then false else b.2
 if note || blkB c.toNat then .inl (b.1,note)
 else match b.1.getLast? with
  | some w=>if w.At+w.A7.length=i/\goC w.Ax c.toNat=true then
   (if w.Ax=0\/mostC w.Ax<w.A7.length+1 then .inr ([],(i:Int)) else .inl (b.1.dropLast++[⟨w.Ax,w.A7++[c],w.At⟩],note))
    else if kindC c.toNat=0 then .inr ([],(i:Int)) else .inl (b.1++[⟨kindC c.toNat,[c],i⟩],note)
  | none=>if kindC c.toNat=0 then .inr ([],(i:Int)) else .inl (b.1++[⟨kindC c.toNat,[c],i⟩],note)
def rscan(s:List UInt8)(i:Nat)(b:List Qq×Bool):List Qq×Int:=runG rstep (λb=>(b.1,(-1:Int))) s i b
theorem Q4n(k:Int):1<=mostC k/\mostC k<=60:=by unfold mostC;grind
theorem Job{α:Type}{s:List α}{i:Nat}{x:α}(h:s[i]?=some x)(hs:s.length<=4611686018427387904):sub s (i:Int) (wrap64 ((i:Int)+1))=some [x]:=by
 have hi:=Kc h;rw[w1 om,Qs7 om om,We hi];have:s[i]=x:=by have:=oi hi;rw[h] at this;exact(Option.some.inj this).symm
 rw[this,List.drop_append_of_le_length oh,xj oh];rfl
theorem Q6v{n:Nat}{s:List UInt8}(hn:big<=n):Qbh n s=some (if 4000<s.length then ([],4000) else rscan s 0 ([],false)):=by
 unfold Qbh;simp only[bifd];by_cases hs:4000<s.length;rw[oq om,oq hs];rw[oj om,oj hs];have x:=hn;unfold big at hn;unfold rscan;refine Q32 (λb i=>(b.1,b.2,(i:Int))) rstep (λb=>b.1) _ (λi b=>b.1.length<=i/\∀ w∈b.1,0<=w.At/\w.At+w.A7.length<=i) s ([],false) (λi c b y hI=>?_) (λb _=>by simp) (λb _=>rfl) oc om;obtain⟨r,j⟩:=hI;have hi:=Kc y;have t:=Job y om;have E:getS s (i:Int)=some c.toNat:=by rw[Q08,y];rfl
 obtain⟨out,note⟩:=b;simp only at r j;simp only[oq (show(i:Int)<(s.length:Int) by omega),jn_eq,E,sbind,t,Q6t x,Q6r,Q6s];have f:wrap64 ((i:Int)+1)=((i+1:Nat):Int):=w1 om;have hkeep:∀ B:Bool,rstep i c (out,note)=.inl (out,B)->∀ g:List Qq×Bool,rstep i c (out,note)=.inl g->g.1.length<=i+1/\∀ w∈g.1,0<=w.At/\w.At+w.A7.length<=((i+1:Nat):Int):=by intro B h g a;rw[h] at a;cases a;exact⟨by simp only[];omega,λw u=>by have:=j w u;omega⟩
 by_cases e:c.toNat=35;have hr:rstep i c (out,note)=.inl (out,true):=by simp[rstep,e]
 refine⟨?_,hkeep true hr⟩;rw[hr];simp[e,f,toLpp];by_cases d:c.toNat=10;have hr:rstep i c (out,note)=.inl (out,false):=by simp[rstep,d,blkB]
 refine⟨?_,hkeep false hr⟩;rw[hr];simp[d,f,toLpp];cases note with
 | true=>
   have hr:rstep i c (out,true)=.inl (out,true):=by simp[rstep,d,e]
   refine⟨?_,hkeep true hr⟩;rw[hr];simp[d,e,f,toLpp]
 | false=>
   by_cases hb:blkB c.toNat=true;have hr:rstep i c (out,false)=.inl (out,false):=by simp[rstep,d,e,hb]
   refine⟨?_,hkeep false hr⟩;rw[hr];simp only[blkB,gj,d,false_or] at hb;rcases hb with h | h | h<;>simp[h,f,toLpp];have a:blkB c.toNat=false:=by simpa using hb
   have g1:c.toNat≠32:=λh=>hb (by simp[blkB,h]);have C:c.toNat≠9:=λh=>hb (by simp[blkB,h]);have g3:c.toNat≠13:=λh=>hb (by simp[blkB,h]);simp only[oj e,oj d,oj g1,oj C,bifF,oo g3]
   have m:((appM 32 out [(⟨kindC c.toNat,[c],(i:Int)⟩:Qq)]).bind λy596=>
    (getI y596 (wrap64 ((y596.length:Int) - 1))).bind λy598=>
     if y598.Ax=0 then bif true then some (Lp.out (Lp.out (([]:List Qq),(i:Int)))) else some (Lp.go (y596,false,wrap64 ((i:Int)+1)))
     else bif decide ((mostC y598.Ax:Int)<(y598.A7.length:Int)) then some (Lp.out (Lp.out (([]:List Qq),(i:Int)))) else some (Lp.go (y596,false,wrap64 ((i:Int)+1)))) =
    some (toLpp (τ0:=List Qq) (λ(b:List Qq×Bool) i=>(b.1,b.2,(i:Int))) i (if kindC c.toNat=0 then .inr ([],(i:Int)) else .inl (out++[⟨kindC c.toNat,[c],i⟩],false))):=by
    rw[J5 oh oh,sbind,Qs3 om,sbind];by_cases h0:kindC c.toNat=0;simp only[h0,yf,bifT,toLpp];simp only[oj h0];rw[oo (by have:=(Q4n (kindC c.toNat)).1;simp;omega),f];rfl
   have k:∀ g:List Qq×Bool,(if kindC c.toNat=0 then (.inr ([],(i:Int)):(List Qq×Bool) ⊕ (List Qq×Int)) else .inl (out++[⟨kindC c.toNat,[c],i⟩],false))=.inl g ->
    g.1.length<=i+1/\∀ w∈g.1,0<=w.At/\w.At+w.A7.length<=((i+1:Nat):Int):=by
    intro g h;by_cases h0:kindC c.toNat=0;rw[oq h0] at h;cases h;rw[oj h0] at h;cases h;refine⟨oh,λw u=>?_⟩;rcases yd.1 u with h | h;have:=j w h;omega;rw[xk.1 h];simp
   rcases jp out with rfl | ⟨l,w,rfl⟩;have hr:rstep i c ([],false)=(if kindC c.toNat=0 then .inr ([],(i:Int)) else .inl ([]++[⟨kindC c.toNat,[c],i⟩],false)):=by simp[rstep,d,e,a]
   rw[hr];refine⟨?_,k⟩;rw[oj oc];exact m;rw[jq] at *;have u:=j w oc;have F:l.length+1<=i:=by simpa using r
   have hlast:getI (l++[w]) (wrap64 (((l++[w]).length:Int) - 1))=some w:=Qs3 om
   have hr:rstep i c (l++[w],false)=(if w.At+w.A7.length=i/\goC w.Ax c.toNat=true then
    (if w.Ax=0\/mostC w.Ax<w.A7.length+1 then .inr ([],(i:Int)) else .inl (l++[⟨w.Ax,w.A7++[c],w.At⟩],false))
    else if kindC c.toNat=0 then .inr ([],(i:Int)) else .inl (l++[w]++[⟨kindC c.toNat,[c],i⟩],false)):=by simp[rstep,d,e,a]
   rw[hr];rw[oq (show 0<((l++[w]).length:Int) by rw[yn,uy];omega)];simp only[hlast,sbind];rw[w64 om om];by_cases p:w.At+w.A7.length=i;rw[oq p];by_cases q:goC w.Ax c.toNat=true;rw[oq ⟨p,q⟩];simp only[q,bifT];rw[Jn5 oh,sbind,Jke om,Qs3 om,sbind];by_cases h0:w.Ax=0;simp only[h0,yf,true_or,toLpp];exact⟨trivial,λg a=>by cases a⟩;by_cases A:mostC w.Ax<w.A7.length+1;have hd:decide ((mostC w.Ax:Int)<((w.A7++[c]).length:Int))=true:=ol oh;simp only[h0,yv,hd,bifT,false_or,oq A];exact⟨rfl,λg a=>by cases a⟩;have hd:decide ((mostC w.Ax:Int)<((w.A7++[c]).length:Int))=false:=oo oh;simp only[h0,yv,hd,bifF,false_or,oj A,f];refine⟨rfl,λg a=>?_⟩;cases a;refine⟨oh,λv G=>?_⟩;rcases yd.1 G with h | h;have:=j v (by simp[h]);omega;rw[xk.1 h];simp;omega;rw[oj (λh=>q h.2)];simp only[show goC w.Ax c.toNat=false by simpa using q,bifF];exact⟨m,k⟩;rw[oj p,oj (λh=>p h.1)];exact⟨m,k⟩
def wsR(out:List Qq):List Qq ⊕ Nat->List Qq×Int
 | .inl a=>(out++a,-1)
 | .inr p=>([],(p:Int))
theorem Joc(out ws):wsR out (.inl ws)=(out++ws,-1):=wm (wm rfl)
theorem Jod(out p):wsR out (.inr p)=([],(p:Int)):=wm (wm rfl)
theorem Jad(i b):rscan [] i b=(b.1,(-1:Int)):=wm (wm rfl)
theorem Qo1{c r i b a}(h:rstep i c b=.inl a):rscan (c::r) i b=rscan r (i+1) a:=by unfold rscan;simp only[runG,h]
theorem Jae{c r i b t}(h:rstep i c b=.inr t):rscan (c::r) i b=t:=by unfold rscan;simp only[runG,h]
theorem Jd7{c:Nat}(h:kindC c≠0):blkB c=false/\c≠35:=by
 constructor;cases hb:blkB c with
 | false=>rfl
 | true=>
   exfalso;apply h;simp only[blkB,gj] at hb;rcases hb with rfl | rfl | rfl | rfl<;>decide
 rintro rfl;exact h oz
theorem Joe{k:Int}{c:Nat}(h:goC k c=true):kindC c≠0:=by unfold goC at h;unfold kindC;simp only[Bool.or_eq_true,ua] at h;rcases h with ⟨_,h⟩ | ⟨_,h | h⟩;rw[oq h];decide;rw[oq h];split<;>decide;rw[oq h];decide
theorem blk10:blkB 10=true:=oz
theorem Jd8:∀(s:List UInt8) (i:Nat) (out),rscan s i (out,true)=rscan (s.dropWhile (λb=>b.toNat≠10)) (i+(s.takeWhile (λb=>b.toNat≠10)).length) (out,true)
 | [],i,out=>rfl
 | c::s,i,out=>by
   rw[List.dropWhile_cons,vp];by_cases h:c.toNat=10;simp[h];simp only[ne_eq,h,not_false_eq_true,wx,yf,xn];have hr:rstep i c (out,true)=.inl (out,true):=by unfold rstep;simp only[h,yv];split<;>simp
   rw[Qo1 hr,Jd8 s (i+1) out];rw[show i+((s.takeWhile (λb=>decide (b.toNat≠10))).length+1)=i+1+(s.takeWhile (λb=>decide (b.toNat≠10))).length by omega]
theorem Jaf(l:List Qq)(w):(l++[w]).getLast?=some w:=oc
theorem Jh7{i:Nat}{c:UInt8}{l}{k:Int}{t:List UInt8}{a:Nat}(d:goC k c.toNat=true)(f:a+t.length=i)(hk:k≠0):
 rstep i c (l++[⟨k,t,a⟩],false)=if mostC k<t.length+1 then .inr ([],(i:Int)) else .inl (l++[⟨k,t++[c],a⟩],false):=by
 obtain⟨g1,e⟩:=Jd7 (Joe d);have g3:c.toNat≠10:=λh=>by rw[h,blk10] at g1;cases g1
 unfold rstep;simp only[oj e,oj g3,g1,Bool.or_self,wg,yv,Jaf];rw[oq ⟨om,d⟩];simp only[hk,false_or,List.dropLast_concat]
theorem Jd9:∀(p s:List UInt8) (i:Nat) (l:List Qq) (k:Int) (t:List UInt8) (a:Nat),(∀ b∈p,goC k b.toNat=true)->a+t.length=i->k≠0->t.length<=mostC k ->
 rscan (p++s) i (l++[⟨k,t,a⟩],false)=if mostC k<t.length+p.length then ([],((a+mostC k:Nat):Int)) else rscan s (i+p.length) (l++[⟨k,t++p,a⟩],false)
 | [],s,i,l,k,t,a,_,_,_,f=>by rw[oj oh];simp
 | c::p,s,i,l,k,t,a,hp,e,hk,f=>by have hs:=Jh7 (l:=l) (hp c (.head _)) e hk;rw[yu];by_cases d:mostC k<t.length+1;rw[oq d] at hs;rw[Jae hs,oq oh];rw[show i=a+mostC k by omega];rw[oj d] at hs;rw[Qo1 hs,Jd9 p s (i+1) l k (t++[c]) a (λb hb=>hp b (.tail _ hb)) oh hk oh];simp only[yn,xn,xf,dq,yr];rw[show t.length+(0+1)+p.length=t.length+(p.length+1) by omega,show i+1+p.length=i+(p.length+1) by omega]
theorem Jag{out:List Qq}{i j:Nat}{s s'}(h:fresh out i s)(f:i<j):fresh out j s':=λw a=>by obtain⟨d,_⟩:=h w a;exact⟨om,λc r _ e=>om⟩
theorem Jfe{i:Nat}{c:UInt8}{r out}(e:fresh out i (c::r))(a:blkB c.toNat=false)(d:c.toNat≠35):
 rstep i c (out,false)=if kindC c.toNat=0 then .inr ([],(i:Int)) else .inl (out++[⟨kindC c.toNat,[c],i⟩],false):=by
 have g3:c.toNat≠10:=λh=>by rw[h,blk10] at a;cases a
 unfold rstep;simp only[oj d,oj g3,a,Bool.or_self,wg,yv];cases f:out.getLast? with
 | none=>rfl
 | some w=>
   obtain⟨k1,k2⟩:=e w f;simp only[];rw[oj (λh=>by have:=k2 c r rfl h.1;rw[h.2] at this;cases this)]
theorem Jkq(out w x):wsR out (wcons w x)=wsR (out++[w]) x:=by cases x<;>simp[wsR,wcons]
theorem Q2o:∀(m:Nat) (s:List UInt8) (i:Nat) (out),s.length<=m->fresh out i s->rscan s i (out,false)=wsR out (scanS s i)
 | _,[],i,out,_,_=>by rw[Jad,Qru];simp[wsR]
 | 0,_::_,_,_,h,_=>by simp at h
 | m+1,c::r,i,out,F,v=>by
   rw[Qqj];have x:r.length<=m:=by simp at F;omega
   by_cases hb:blkB c.toNat=true
   . rw[oq hb]
     have a:c.toNat≠35:=λh=>by rw[h] at hb;exact absurd hb oz
     have hs:rstep i c (out,false)=.inl (out,false):=by unfold rstep;simp only[oj a,hb,Bool.or_true,yf];split<;>rfl
     rw[Qo1 hs];exact Q2o m r (i+1) out x (Jag v om)
   . rw[oj hb]
     have u:blkB c.toNat=false:=by simpa using hb
     by_cases a:c.toNat=35
     . rw[oq a]
       have hs:rstep i c (out,false)=.inl (out,true):=by unfold rstep;simp only[oq a,Bool.true_or,yf]
       rw[Qo1 hs,Jd8];have hd:=Qmf (λb:UInt8=>decide (b.toNat≠10)) r;generalize G:i+1+(r.takeWhile (λb=>decide (b.toNat≠10))).length=j;have E:i<j:=om
       cases t:r.dropWhile (λb=>decide (b.toNat≠10)) with
       | nil=>rw[Jad,Qru];simp[wsR]
       | cons d q=>
         have f:d.toNat=10:=by have:=List.head?_dropWhile_not (λb:UInt8=>decide (b.toNat≠10)) r;rw[t] at this;simpa using this
         have y:rstep j d (out,true)=.inl (out,false):=by unfold rstep;simp[f,blkB]
         rw[Qo1 y,Qqj,oq (by rw[f];decide)];rw[t] at hd;exact Q2o m q (j+1) out (by simp at hd;omega) (Jag v om)
     . rw[oj a]
       have hs:=Jfe v u a;by_cases h0:kindC c.toNat=0
       . rw[oq h0] at hs |-
         rw[Jae hs];rfl
       . rw[oj h0] at hs |-
         rw[Qo1 hs];generalize hk:kindC c.toNat=k at *
         have n:∀ b∈tailK k r,goC k b.toNat=true:=λb hb=>by have:=List.all_takeWhile (p:=λb:UInt8=>goC k b.toNat) (l:=r);exact(jf.1 this) b hb
         have hsplit:r=tailK k r++r.drop (tailK k r).length:=by
          have B:=Qx1 (λb:UInt8=>goC k b.toNat) r;have C:tailK k r=r.take (tailK k r).length:=B
          conv=>lhs;rw[<-ue (tailK k r).length r]
          rw[<-C]
         have g:=Jd9 (tailK k r) (r.drop (tailK k r).length) (i+1) out k [c] i n oc h0 (Q4n k).1;rw[<-hsplit] at g;rw[g];simp only[uy,dq];by_cases e:mostC k<1+(tailK k r).length
         . rw[oq e,oq e];rfl
         . rw[oj e,oj e,Jkq]
           refine Q2o m _ _ _ (by rw[uc];omega) ?_;intro w A;rw[Jaf] at A;cases A;refine⟨oh,λd q t _=>?_⟩;have:r[(tailK k r).length]?=some d:=by
            have:=yj (λl=>l[0]?) t
            simpa using this
           exact Qsi (p:=λb:UInt8=>goC k b.toNat) this
theorem Q22{n:Nat}{s:List UInt8}(hn:big<=n):Qbh n s=some (if 4000<s.length then ([],4000) else wsR [] (scanS s 0)):=by rw[Q6v hn,Q2o s.length s 0 [] (xr _) (λw h=>by cases h)]
theorem Qrv:∀(m:Nat) (s:List UInt8) (i:Nat) (a),s.length<=m->scanS s i=.inl a->∀ w∈a,w.A7.length<=s.length
 | _,[],i,a,_,h=>by rw[Qru] at h;cases h;simp
 | 0,_::_,_,_,h,_=>by simp at h
 | m+1,c::r,i,a,n,h=>by
   have g:r.length<=m:=by simp at n;omega
   rw[Qqj] at h;intro w j;rw[xn];by_cases hb:blkB c.toNat=true;rw[oq hb] at h;have:=Qrv m r _ a g h w j;omega;rw[oj hb] at h;by_cases d:c.toNat=35;rw[oq d] at h;have hd:=Qmf (λb:UInt8=>decide (b.toNat≠10)) r;have:=Qrv m _ _ a om h w j;omega;rw[oj d] at h;by_cases h0:kindC c.toNat=0;rw[oq h0] at h;cases h;rw[oj h0] at h;by_cases e:mostC (kindC c.toNat)<1+(tailK (kindC c.toNat) r).length;rw[oq e] at h;cases h;rw[oj e] at h;cases f:scanS (r.drop (tailK (kindC c.toNat) r).length) (i+1+(tailK (kindC c.toNat) r).length) with
   | inr p=>rw[f] at h;cases h
   | inl l=>
     rw[f] at h;cases h;rcases xu.1 j with rfl | k;simp only[xn];have:(tailK (kindC c.toNat) r).length<=r.length:=Qua _ _;omega;have:=Qrv m _ _ l (by rw[uc];omega) f w k;rw[uc] at this;omega
theorem Q4o(k:Int)(c:UInt8)(r:List UInt8):wdB k (c::r)=true↔k≠0/\kindC c.toNat=k/\r.all (λb=>goC k b.toNat)=true/\r.length+1<=mostC k:=by simp[wdB]
theorem Jkr{k:Int}{r:List UInt8}(h:r.all (λb=>goC k b.toNat)=true):tailK k r=r:=by have a:=Qoc.2 h;have d:=Qx1 (λb:UInt8=>goC k b.toNat) r;unfold tailK;rw[d,a,xc]
theorem Jmj{k:Int}{t:List UInt8}(h:wdB k t=true)(i:Nat):scanS t i=.inl [⟨k,t,i⟩]:=by
 cases t with
 | nil=>cases h
 | cons c r=>
   obtain⟨a,d,f,g⟩:=(Q4o k c r).1 h;obtain⟨g1,e⟩:=Jd7 (c:=c.toNat) (by rw[d];exact a);rw[Qqj,oj (by rw[g1];decide),oj e,d,oj a,Jkr f,oj om,List.drop_length,Qru];rfl
theorem Q4p{n:Nat}{w:Qq}(hn:big<=n):Qco n w=some (wdB w.Ax w.A7):=by
 unfold Qco;rw[Q22 hn,sbind];by_cases g:4000<w.A7.length;rw[oq g];have:wdB w.Ax w.A7=false:=by
  cases i:w.A7 with
  | nil=>rfl
  | cons c r=>
    rw[i] at g;cases hb:wdB w.Ax (c::r) with
    | false=>rfl
    | true=>have:=((Q4o _ c r).1 hb).2.2.2;have:=(Q4n w.Ax).2;simp at g;omega
 rw[this];rfl;rw[oj g];cases hb:wdB w.Ax w.A7 with
 | true=>rw[Jmj hb];simp[wsR,jn_eq,getI]
 | false=>
   cases hs:scanS w.A7 0 with
   | inr p=>rw[Jod];simp only[jn_eq,bifd];rw[oj om]
   | inl k=>
     rw[Joc,yw];simp only[jn_eq,bifd];rw[oq oz]
     match k,hs with
     | [],_=>rfl
     | [v],hs=>
       simp only[show(([v].length:Nat):Int)=1 by rfl,yf,show getI [v] (0:Int)=some v by rfl,sbind];by_cases hk:v.Ax=w.Ax;rw[oq hk];by_cases d:v.A7=w.A7;exfalso;cases i:w.A7 with
       | nil=>rw[i,Qru] at hs;cases hs
       | cons c r=>
         rw[i] at hs hb d;rw[Qqj] at hs;by_cases g1:blkB c.toNat=true;rw[oq g1] at hs;have:=Qrv r.length r _ _ (xr _) hs v oc;rw[d] at this;simp at this;omega;rw[oj g1] at hs;by_cases e:c.toNat=35;rw[oq e] at hs;have hd:=Qmf (λb:UInt8=>decide (b.toNat≠10)) r;have:=Qrv _ _ _ _ (xr _) hs v oc;rw[d] at this;simp at this;simp at hd;omega;rw[oj e] at hs;by_cases h0:kindC c.toNat=0;rw[oq h0] at hs;cases hs;rw[oj h0] at hs;by_cases a:mostC (kindC c.toNat)<1+(tailK (kindC c.toNat) r).length;rw[oq a] at hs;cases hs;rw[oj a] at hs;cases j:scanS (r.drop (tailK (kindC c.toNat) r).length) (0+1+(tailK (kindC c.toNat) r).length) with
         | inr p=>rw[j] at hs;cases hs
         | inl l=>
           rw[j] at hs;simp only[wcons,Sum.inl.injEq,List.cons.injEq] at hs;obtain⟨rfl,_⟩:=hs;simp only at d hk;have f:tailK (kindC c.toNat) r=r:=(List.cons.inj d).2;have:wdB w.Ax (c::r)=true:=by rw[Q4o,<-hk];refine⟨h0,rfl,?_,by rw[f] at a;omega⟩;exact Qoc.1 (by have:=yj List.length f;exact this)
           rw[this] at hb;cases hb
       simp[d];rw[oj hk]
     | v::u::l,_=>rw[oj oh]
theorem Q4q{R:Type}{f:Int->Option (Lp Int (Lp Unit R))}{K:Unit->Option R}{n:Nat}(P:Nat->Prop)(r:Nat->R)(N:Nat)
 (hb:∀ i,i<N->(P i->f (i:Int)=some (.go ((i+1:Nat):Int)))/\(¬ P i->f (i:Int)=some (.out (.out (r i))))) (q:f (N:Int)=some (.out (.go ()))) (hn:N<n) :
 ((∀ i,i<N->P i)/\(loopM f n 0).bind (lpK K)=K ())\/(¬(∀ i,i<N->P i)/\∃ j,(loopM f n 0).bind (lpK K)=some (r j)):=by
 have e:∀(m k n:Nat),k+m=N->m<n->((∀ i,k<=i->i<N->P i)/\(loopM f n (k:Int)).bind (lpK K)=K ())\/(¬(∀ i,k<=i->i<N->P i)/\∃ j,(loopM f n (k:Int)).bind (lpK K)=some (r j)):=by
  intro m
  induction m with
  | zero=>
    intro k n hk hn;obtain rfl:k=N:=om
    exact .inl ⟨λi l p=>om,by rw[Kz q om,xq,Vn]⟩
  | succ m s=>
    intro k n hk hn;obtain⟨g,rfl⟩:∃ g,n=g+1:=⟨n - 1,om⟩
    obtain⟨l,p⟩:=hb k om;by_cases hp:P k;rw[Qau (l hp)];rcases s (k+1) g om om with ⟨g1,d⟩ | ⟨g1,d⟩;refine .inl ⟨λi a b=>?_,d⟩;rcases ta a with c | c;exact c ▸ hp;exact g1 i c b;exact .inr ⟨λh=>g1 λi a b=>h i om b,d⟩;exact .inr ⟨λh=>hp (h k (xr _) om),k,by rw[Kz (p hp) om,xq,Yz]⟩
 have:=e N 0 n om hn;simp only[yx,true_implies] at this;exact this
theorem Qsp(x a b:Int):Kn x a b=some (decide (a<=x/\x<=b)):=by unfold Kn;simp only[jn_eq,bifd];by_cases h:a<=x;rw[oq h];simp[h];rw[oj h];simp[h]
theorem Jq0{a b:Qb}(h:tF a=tF b):a=b:=by obtain⟨s,x,d⟩:=a;obtain⟨t,y,e⟩:=b;unfold tF at h;simp only[] at h;cases h;rfl
theorem Jq1(q:Rat):tF (rF q)=toF q:=rfl
theorem Qd2{f:Qb}:rF (fr f)=f↔tF f=toF (fv (tF f)):=by rw[fr_tF,<-Jq1];exact⟨λh=>by rw[h],λh=>(Jq0 h).symm⟩
theorem Jea{n k:Nat}{f:Qb}{β:Type}(g:Bool->Option β)(hn:big<=n)(hk:k<274877906944)(a:1<=k)(h:Fk k (tF f)):((Kg n f).bind λr=>(Kj n r f).bind g)=g (dP (tF f=toF (fv (tF f)))):=by obtain⟨w1,e,j,l⟩:=Fk_wd h;have d:=qw_fr (Fk_wd h) a;have i:=Q8w d;rw[Qbs hn w1 e om om,sbind,Qqh hn om om,sbind,@decP _ (Classical.propDecidable _),dP_c Qd2]
theorem Q8x{n k i:Nat}{t:Ja}{x:Jp}(hn:big<=n)(hk:k<274877906944)(w:1<=k)(B:Fk k (tF x.N))(hi:i<1000000)
 (hd:-9223372036854775807<=t.A0) (y:t.A0<=9223372036854775807) (hp:-9223372036854775807<=t.A3) (A:t.A3<=9223372036854775807):Qbv n x (i:Int) t.A0 t.A3=some (dP (mayR (tT t) i (tI x))):=by
 unfold Qbv mayR;have eN:(tI x).N=tF x.N:=rfl;have eO:(tI x).Op=x.Op:=rfl;have eA:(tI x).A=x.A:=rfl;have eB:(tI x).B=x.B:=rfl;have eD:(tT t).A0=t.A0:=rfl;have eP:(tT t).A3=t.A3:=rfl;simp only[eN,eO,eA,eB,eD,eP];rw[bifd];by_cases c1:x.Op=1;rw[oq c1];simp only[oq c1,jn_eq,bifd];by_cases a:x.A=0;rw[oq a];by_cases b:x.B=0;rw[oq b,Jea (λr=>some r) hn hk w B];exact Q2k ⟨λh=>⟨a,b,h⟩,λh=>h.2.2⟩;rw[oj b,dP_f λh=>b h.2.1];rw[oj a,dP_f λh=>a h.1];rw[oj c1];simp only[oj c1,jn_eq];have hb:blankF (tF x.N)↔x.N.Neg=false/\x.N.N.length=0/\x.N.D.length=0:=by
  unfold blankF tF;exact⟨λh=>⟨h.1,yj List.length h.2.1,yj List.length h.2.2⟩,λh=>⟨h.1,xx h.2.1,xx h.2.2⟩⟩
 by_cases g:x.N.Neg=true;rw[g,bifT,bifT,dP_f λh=>by have:=(hb.1 h.1).1;rw[g] at this;cases this];have f:x.N.Neg=false:=by simpa using g
 rw[f,bifF];simp only[bifd];by_cases l1:(0:Int)<(x.N.N.length:Int);rw[oq l1,bifT,dP_f λh=>by have:=(hb.1 h.1).2.1;omega];rw[oj l1];by_cases s:(0:Int)<(x.N.D.length:Int);rw[oq s,dP_f λh=>by have:=(hb.1 h.1).2.2;omega];rw[oj s];have d:blankF (tF x.N):=hb.2 ⟨f,om,om⟩;simp only[Qsp,sbind,bifd];have eR:rdT (tI x)=if x.Op=6\/x.Op=11 then [x.A] else if x.Op=7\/x.Op=8\/x.Op=9\/x.Op=10 then [x.A,x.B] else []:=rfl
 have w1:wrap64 (t.A0 - 1)=t.A0 - 1:=w64 om om;have u:wrap64 (t.A3 - 1)=t.A3 - 1:=w64 om om;have v:wrap64 ((i:Int) - 1)=(i:Int) - 1:=w64 om om;rw[eR,w1,u,v];clear w1 u v;by_cases j:x.Op=2;simp only[oq j];rw[oj (show ¬(x.Op=6\/x.Op=11) by omega),oj (show ¬(x.Op=7\/x.Op=8\/x.Op=9\/x.Op=10) by omega)];exact Qk5 ⟨λh=>⟨d,λr hr=>(by cases hr),h⟩,λh=>h.2.2⟩;simp only[oj j];by_cases l:x.Op=3;simp only[oq l];rw[oj (show ¬(x.Op=6\/x.Op=11) by omega),oj (show ¬(x.Op=7\/x.Op=8\/x.Op=9\/x.Op=10) by omega)];exact Qk5 ⟨λh=>⟨d,λr hr=>(by cases hr),om⟩,λh=>by have:=h.2.2;omega⟩;simp only[oj l];by_cases m:x.Op=4;simp only[oq m];rw[oj (show ¬(x.Op=6\/x.Op=11) by omega),oj (show ¬(x.Op=7\/x.Op=8\/x.Op=9\/x.Op=10) by omega)];exact Qk5 ⟨λh=>⟨d,λr hr=>(by cases hr),om⟩,λh=>by have:=h.2.2;omega⟩;simp only[oj m];by_cases p:x.Op=6;simp only[oq p];rw[oq (show x.Op=6\/x.Op=11 by omega)];exact Qk5 ⟨λh=>⟨d,λr hr=>(by rw[xk.1 hr];omega),h.2⟩,λh=>⟨by have:=h.2.1 x.A oc;omega,h.2.2⟩⟩;simp only[oj p];by_cases e:x.Op=11;simp only[oq e];rw[oq (show x.Op=6\/x.Op=11 by omega)];exact Qk5 ⟨λh=>⟨d,λr hr=>(by rw[xk.1 hr];omega),h.2⟩,λh=>⟨by have:=h.2.1 x.A oc;omega,h.2.2⟩⟩;simp only[oj e];rw[oj (show ¬(x.Op=6\/x.Op=11) by omega)];by_cases q:7<=x.Op/\x.Op<=10;rw[oq q,oq (show x.Op=7\/x.Op=8\/x.Op=9\/x.Op=10 by omega)]
 exact Qk5 ⟨λh=>⟨d,λr hr=>(by
  rcases xu.1 hr with rfl | hr;omega
  rw[xk.1 hr];omega),rfl⟩,λh=>⟨by have:=h.2.1 x.A oc;omega,by have:=h.2.1 x.B oc;omega⟩⟩
 rw[oj q,oj (show ¬(x.Op=7\/x.Op=8\/x.Op=9\/x.Op=10) by omega),dP_f λh=>by have:=h.2.2;simp at this]
theorem Q4r{n k:Nat}{t:Ja}(hn:big<=n)(hk:k<274877906944)(H:1<=k)(l:∀ x∈t.Code,Fk k (tF x.N))(_:t.Az.length<=1000000):
 ∃ v,Qcn n t=some v/\(v=-1↔tapeR (tT t)):=by
 unfold Qcn;simp only[jn_eq,Qsp,sbind,bifnd];have p:wholeR (tT t)↔((1<=t.A0/\t.A0<=6)/\(0<=t.A3/\t.A3<=6)/\(t.Az.length:Int)=t.A0/\t.Code.length<=300):=by unfold wholeR tT;simp only[ov]
 by_cases c1:1<=t.A0/\t.A0<=6
 case neg=>rw[oj c1];exact⟨-2,rfl,λh=>om,λh=>absurd (p.1 h.1).1 c1⟩
 rw[oq c1];by_cases s:0<=t.A3/\t.A3<=6
 case neg=>rw[oj s];exact⟨-2,rfl,λh=>om,λh=>absurd (p.1 h.1).2.1 s⟩
 rw[oq s];by_cases u:(t.Az.length:Int)=t.A0
 case neg=>rw[oj u];exact⟨-2,rfl,λh=>om,λh=>absurd (p.1 h.1).2.2.1 u⟩
 rw[oq u];by_cases G:(300:Int)<(t.Code.length:Int)
 . rw[ol G,bifT];exact⟨-2,rfl,λh=>om,λh=>by have:=(p.1 h.1).2.2.2;omega⟩
 rw[oo G,bifF];have C:wholeR (tT t):=p.2 ⟨c1,s,u,om⟩
 rcases Q4q (f:=λ(d:Int)=>
  bif decide (d<(t.Code.length:Int)) then (
   (getI t.Code d).bind λF=>
   (Qbv n F d t.A0 t.A3).bind λE=>
   bif !E then (
    some (Lp.out (Lp.out (d))))
   else (
    some (Lp.go (wrap64 (d+(1:Int))))))
  else (
   some (Lp.out (Lp.go ())))) (n:=n) (K:=λ(_:Unit)=>
  (loopM (λ(a:Int)=>
   bif decide (a<(t.Az.length:Int)) then (
    (getI t.Az a).bind λe=>
    if (0<=e/\e<=(wrap64 ((t.Code.length:Int) - (1:Int)))) then (
     some (Lp.go (wrap64 (a+(1:Int)))))
    else (
     some (Lp.out (Lp.out ((t.Code.length:Int))))))
   else (
    some (Lp.out (Lp.go ())))) n (0:Int)).bind (lpK λ(_:Unit)=>
  some (-1:Int))) (λi=>∀ x,t.Code[i]?=some x->mayR (tT t) i (tI x)) (λi=>(i:Int)) t.Code.length (λi hi=>by
  have hp:t.Code[i]?=some t.Code[i]:=oi hi;have q:=l t.Code[i] (xi hi);generalize t.Code[i]=x at hp q;rw[ol om,bifT,Q7 hp,sbind,Q8x hn hk H q om om om om om,sbind,w1 om]
  exact⟨λh=>by rw[dP_t (h x hp)];rfl,λh=>by rw[dP_f λg=>h λy r=>by rw[hp] at r;cases r;exact g];rfl⟩) (by rw[oo om];rfl) (by unfold big at hn;omega) with ⟨g1,A⟩ | ⟨g1,j,A⟩
 . have m:∀(i:Nat) x,(tT t).Code[i]?=some x->mayR (tT t) i x:=by
    intro i x l;unfold tT at l;simp only[xm] at l;cases w:t.Code[i]? with
    | none=>rw[w] at l;cases l
    | some y=>rw[w] at l;cases l;exact g1 i (Kc w) y w
   rw[A]
   rcases Q4q (f:=λ(a:Int)=>
    bif decide (a<(t.Az.length:Int)) then (
     (getI t.Az a).bind λe=>
     if (0<=e/\e<=(wrap64 ((t.Code.length:Int) - (1:Int)))) then (
      some (Lp.go (wrap64 (a+(1:Int)))))
     else (
      some (Lp.out (Lp.out ((t.Code.length:Int))))))
    else (
     some (Lp.out (Lp.go ())))) (n:=n) (K:=λ(_:Unit)=>some (-1:Int)) (λi=>∀ o,t.Az[i]?=some o->0<=o/\o<(t.Code.length:Int)) (λ_=>(t.Code.length:Int)) t.Az.length (λi hi=>by
    have hp:t.Az[i]?=some t.Az[i]:=oi hi;generalize t.Az[i]=x at hp;rw[ol om,bifT,Q7 hp,sbind,w1 om,w64 om om]
    exact⟨λh=>by rw[oq (by have:=h x hp;omega)],λh=>by rw[oj (λg=>h λy r=>by rw[hp] at r;cases r;omega)]⟩) (by rw[oo om];rfl) (by unfold big at hn;omega) with ⟨g3,g4⟩ | ⟨g3,j,g4⟩
   . refine⟨-1,g4,λ_=>⟨C,m,λo B=>?_⟩,λ_=>rfl⟩
     obtain⟨i,hi⟩:=yg B;have:=g3 i (Kc hi) o hi;unfold tT;simp only[ov];exact this
   . refine⟨_,g4,λh=>om,λh=>absurd (λi hi o B=>?_) g3⟩
     have:=h.2.2 o (Jm B);unfold tT at this;simp only[ov] at this;exact this
 . refine⟨_,A,λh=>om,λh=>absurd (λi hi x l=>?_) g1⟩
   exact h.2.1 i (tI x) (Qav tI l)
theorem Qti{f:Qb}(h:numR (tF f)):rF (fr f)=f:=Qd2.2 h.1
theorem Qmw{n k:Nat}{l:List Qb}(hn:big<=n)(hk:k<274877906944)(j:1<=k)(h:FKs k l)(s:l.length<=1000000):Za n l=some (!dP (∀ f∈l,numR (tF f))):=by
 unfold Za;rw[Qoi (λi=>∀ f,l[i]?=some f->numR (tF f)) l.length (r:=true)];have e:(∀ i,i<l.length->∀ f,l[i]?=some f->numR (tF f))↔∀ f∈l,numR (tF f):=by constructor;intro g f a;obtain⟨i,hi⟩:=yg a;exact g i (Kc hi) f hi;intro g i _ f a;exact g f (Jm a)
 by_cases g:∀ f∈l,numR (tF f);rw[oq (e.2 g),dP_t g];rfl;rw[oj (λh=>g (e.1 h)),dP_f g];rfl;intro i hi;have hp:l[i]?=some l[i]:=oi hi;have a:=h l[i] (xi hi);generalize l[i]=f at hp a;have p:(∀ g,l[i]?=some g->numR (tF g))↔numR (tF f):=⟨λg=>g f hp,λg y m=>by rw[hp] at m;cases m;exact g⟩
 rw[p,ol (show(i:Int)<(l.length:Int) by omega),bifT];simp only[jn_eq,Q7 hp,sbind];rw[Jea _ hn hk j a,bifnP];unfold numR;by_cases c:tF f=toF (fv (tF f));rw[oq c];have hr:rF (fr f)=f:=Qd2.2 c;have hs:=Qlf (q:=fr f) hn hk (qw_fr (Fk_wd a) j);rw[hr] at hs;rw[hs,sbind,fr_tF,w1 om];by_cases d:qz (fr f)<=190;exact⟨λ_=>by rw[oo om,bifF],λg=>absurd ⟨c,d⟩ g⟩;exact⟨λg=>absurd g.2 d,λ_=>by rw[ol om,bifT]⟩;rw[oj c];exact⟨λg=>absurd g.1 c,λ_=>rfl⟩;rw[oo om];rfl;unfold big at hn;omega
theorem Q8y{n k:Nat}{a:List Rat}(hn:big<=n)(j:1<=k)(hk:k<1048576)(d:QR k a)(p:a.length<=1000):Zc n (rR a)=some (rF (sumQ a)):=by
 unfold Zc;rw[Qdl hn,sbind];rw[Wr (λi=>(rF (sumQ (a.take i)),(i:Int))) a.length (rF (sumQ a))];intro i hi;have hp:a[i]?=some a[i]:=oi hi;have g:=d a[i] (xi hi);generalize a[i]=x at hp g;have e:sumQ (a.take (i+1))=sumQ (a.take i)+x:=by rw[X4 hp];unfold sumQ;rw[List.foldl_append];rfl
 have hb:=Qtc (l:=a.take i) (b:=1) (z:=0) (λq f=>d q (ym f)) (by rw[Zo];exact xr _);have m:(a.take i).length*(k+1)<=1000*1048576:=gv oh om;rw[Kf,ol (show(i:Int)<(a.length:Int) by omega),bifT,Q7 (Qih hp),sbind,W3 (k:=2000000000) hn om (by unfold sumQ;omega) om,sbind,e,w1 om];rw[Kf,oo (show ¬(a.length:Int)<(a.length:Int) by omega),bifF,xc];unfold big at hn;omega;rfl
theorem Qrw{l:List Qb}(h:∀ f∈l,numR (tF f)):rR (rvr l)=l:=by
 unfold rR rvr;rw[yo]
 conv=>rhs;rw[<-List.map_id l]
 exact vt λf a=>Qti (h f a)
theorem Jeb{n k:Nat}{l:List Qb}{q:Rat}{β:Type}(g:Bool->Option β)(hn:big<=n)(d:1<=k)(hk:k<1048576)(h:FKs k l)(m:l.length<=8)(hr:∀ f∈l,numR (tF f)):
 ((Zc n l).bind λr=>(Kj n r (rF q)).bind g)=g (decide (sumQ (rvr l)=q)):=by
 have i:QR k (rvr l):=Qn3 (λf j=>Fk_wd (h f j)) d;have hb:=Qtc (l:=rvr l) (b:=1) (z:=0) i (by rw[Zo];exact xr _);have p:(rvr l).length*(k+1)<=8*1048576:=gv (by rw[Qel];exact m) om;have e:=Q8y (a:=rvr l) hn d hk i (by rw[Qel];omega);rw[Qrw hr] at e;rw[e,sbind,Quq (k:=10000000) hn om (by unfold sumQ;omega),sbind]
theorem Qhp{l:List Qb}:(∀ x∈l.map tF,numR x)↔∀ f∈l,numR (tF f):=
 ⟨λh f a=>h (tF f) (vf a),λh x d=>by obtain⟨f,a,rfl⟩:=xz.1 d;exact h f a⟩
theorem Jec{σ ρ:Type}{A:(σ->Option ρ)->Option ρ}{k:σ->Option ρ}{Q:ρ->Prop}(b:σ)(d:∀ a,A a=a b)(hk:∃ v,k b=some v/\Q v):∃ v,jn A k=some v/\Q v:=by rw[jn_eq,d];exact hk
theorem Q10{R:Type}{f:Int->Option (Lp Int (Lp Unit R))}{K:Unit->Option R}{n:Nat}{Q:R->Prop}(P:Nat->Prop)(r:R)(N:Nat)
 (hb:∀ i,i<N->(P i->f (i:Int)=some (.go ((i+1:Nat):Int)))/\(¬ P i->f (i:Int)=some (.out (.out r)))) (e:f (N:Int)=some (.out (.go ()))) (hn:N<n)
 (d:(∀ i,i<N->P i)->∃ v,K ()=some v/\Q v) (hr:¬(∀ i,i<N->P i)->Q r):∃ v,(loopM f n 0).bind (lpK K)=some v/\Q v:=by
 rcases Q4q (K:=K) P (λ_=>r) N hb e hn with ⟨g1,a⟩ | ⟨g1,j,a⟩;rw[a];exact d g1;exact⟨r,a,hr g1⟩
theorem bifExN{ρ:Type}{b:Bool}{x:ρ}{y:Option ρ}{Q:ρ->Prop}(a:b=false->Q x)(d:b=true->∃ v,y=some v/\Q v):∃ v,(bif !b then some x else y)=some v/\Q v:=by cases b;exact⟨x,rfl,a rfl⟩;exact d rfl
theorem Qmg{s:Jt}:shapeR (tS s)↔((1<=s.B.length/\s.B.length<=8)/\s.C.length=s.B.length/\s.A.length=s.B.length/\(s.E.length=s.B.length\/s.E.length=0))/\∀ i,i<s.B.length->∀ r,s.A[i]?=some r->r.length=i:=by
 have eB:(tS s).B=s.B.map tF:=rfl;have eC:(tS s).C=s.C.map tF:=rfl;have eE:(tS s).E=s.E.map tF:=rfl;have eA:(tS s).A=s.A.map (·.map tF):=rfl;unfold shapeR;rw[eB,eC,eE,eA];simp only[ov];refine⟨λh=>⟨⟨h.1,h.2.1,h.2.2.1,h.2.2.2.1⟩,λi _ r hr=>?_⟩,λh=>⟨h.1.1,h.1.2.1,h.1.2.2.1,h.1.2.2.2,λi r hr=>?_⟩⟩;have:=h.2.2.2.2 i (r.map tF) (Qav _ hr);simpa using this;rw[xm] at hr;cases a:s.A[i]? with
 | none=>rw[a] at hr;cases hr
 | some y=>
   rw[a] at hr;cases hr;have:=h.2 i (by have:=Kc a;have:=h.1.2.2.1;omega) y a
   simpa using this
theorem Q4s{n k:Nat}{s:Jt}(hn:big<=n)(u:1<=k)(hk:k<1048576)(hs:SchWr k s):∃ v,Qcp n s=some v/\(v=0↔schR (tS s)):=by
 unfold Qcp;rw[Q4p hn,sbind];simp only[];unfold schR;have eNm:(tS s).Bb=s.Bb:=rfl;have eB:(tS s).B=s.B.map tF:=rfl;have eC:(tS s).C=s.C.map tF:=rfl;have eE:(tS s).E=s.E.map tF:=rfl;have eA:(tS s).A=s.A.map (·.map tF):=rfl;rw[eNm];refine bifExN (λS=>⟨λh=>om,λh=>by rw[S] at h;exact absurd h.1 oz⟩) λS=>?_;refine Jec (!decide ((1<=s.B.length/\s.B.length<=8)/\s.C.length=s.B.length/\s.A.length=s.B.length/\(s.E.length=s.B.length\/s.E.length=0))) (λM=>?_) ?_
 . simp only[bifd,bifnd]
   have tr:∀ {P:Prop}[Decidable P],¬ P->M true=M (!decide P):=λh=>by rw[oo h];rfl
   by_cases c1:(s.B.length:Int)<1
   . rw[oq c1];exact tr om
   rw[oj c1];by_cases T:(8:Int)<(s.B.length:Int)
   . rw[oq T];exact tr om
   rw[oj T];by_cases U:(s.C.length:Int)=(s.B.length:Int)
   case neg=>rw[oj U];exact tr om
   rw[oq U];by_cases V:(s.A.length:Int)=(s.B.length:Int)
   case neg=>rw[oj V];exact tr om
   rw[oq V];by_cases W:(s.E.length:Int)=0
   . rw[oq W,ol om];rfl
   rw[oj W];by_cases X:(s.E.length:Int)=(s.B.length:Int)
   . rw[ol X,ol om]
   . rw[oo X];exact tr om
 refine bifExN (λp=>⟨λh=>om,λh=>absurd (Qmg.1 h.2.1).1 (tf p)⟩) λp=>?_;have p:=vm p;obtain⟨⟨b1,b2⟩,b3,b4,b5⟩:=p;have B:∀ i,i<s.B.length->∃ r,s.A[i]?=some r/\r∈s.A:=λi hi=>⟨s.A[i]' om,oi om,xi om⟩
 have G:∀ i,i<s.B.length->∃ r,s.C[i]?=some r/\r∈s.C:=λi hi=>⟨s.C[i]' om,oi om,xi om⟩
 have A:s.B.length<n:=by unfold big at hn;omega
 refine Q10 (λi=>∀ r,s.A[i]?=some r->r.length=i) 2 s.B.length (λi hi=>?_) ?_ A (λa=>?_) (λa=>⟨λh=>om,λh=>absurd (Qmg.1 h.2.1).2 a⟩)
 . obtain⟨r,hr,_⟩:=B i hi
   rw[ol (show(i:Int)<(s.B.length:Int) by omega),bifT,Q7 hr,sbind,w1 om];exact⟨λh=>by rw[ol (show(r.length:Int)=(i:Int) by have:=h r hr;omega)];rfl,λh=>by rw[oo (λg=>h λy t=>by rw[hr] at t;cases t;omega)];rfl⟩
 . rw[oo om];rfl
 have hShape:shapeR (tS s):=Qmg.2 ⟨⟨⟨b1,b2⟩,b3,b4,b5⟩,a⟩;refine Q10 (λi=>∀ r,s.A[i]?=some r->∀ f∈r,numR (tF f)) 3 s.B.length (λi hi=>?_) ?_ A (λj=>?_) (λj=>⟨λh=>om,λh=>absurd (λi hi r hr=>Qhp.1 (h.2.2.1.1 (r.map tF) (by rw[eA];exact vf (Jm hr)))) j⟩)
 . obtain⟨r,hr,H⟩:=B i hi
   rw[ol (show(i:Int)<(s.B.length:Int) by omega),bifT,Q7 hr,sbind,Qmw hn om u (hs.a r H) (hs.al r H),sbind,w1 om];exact⟨λh=>by rw[dP_t (h r hr)];rfl,λh=>by rw[dP_f (λg=>h λy t=>by rw[hr] at t;cases t;exact g)];rfl⟩
 . rw[oo om];rfl
 refine Jec (!dP ((∀ f∈s.B,numR (tF f))/\(∀ f∈s.C,numR (tF f))/\∀ f∈s.E,numR (tF f))) (λM=>?_) ?_
 . rw[Qmw hn om u hs.b hs.bl,sbind]
   by_cases I:∀ f∈s.B,numR (tF f)
   case neg=>rw[dP_f I,dP_f (λh=>I h.1)];rfl
   rw[dP_t I,ou,bifF,Qmw hn om u hs.c hs.cl,sbind];by_cases J:∀ f∈s.C,numR (tF f)
   case neg=>rw[dP_f J,dP_f (λh=>J h.2.1)];rfl
   rw[dP_t J,ou,bifF,Qmw hn om u hs.e hs.el,sbind];by_cases K:∀ f∈s.E,numR (tF f)
   . rw[dP_t K,dP_t ⟨I,J,K⟩]
   . rw[dP_f K,dP_f (λh=>K h.2.2)]
 have Y:∀ r∈s.A,∀ f∈r,numR (tF f):=λr hr=>by obtain⟨i,hi⟩:=yg hr;exact j i (by have:=Kc hi;omega) r hi
 have N:∀ r∈(tS s).A,∀ x∈r,numR x:=λr hr=>by rw[eA] at hr;obtain⟨l,hl,rfl⟩:=xz.1 hr;exact Qhp.2 (Y l hl)
 refine bifExN (λC=>⟨λh=>om,λh=>?_⟩) λC=>?_
 . exfalso
   have L:=h.2.2.1.2;rw[eB,eC,eE] at L;rw[dP_t ⟨Qhp.1 (L _ oc),Qhp.1 (L _ oc),Qhp.1 (L _ oc)⟩] at C;cases C
 have C:=Jkf.1 C;obtain⟨n1,n2,n3⟩:=C
 have O:∀ r∈[(tS s).B,(tS s).C,(tS s).E],∀ x∈r,numR x:=λr hr=>by
  rw[eB,eC,eE] at hr;rcases xu.1 hr with rfl | hr
  . exact Qhp.2 n1
  rcases xu.1 hr with rfl | hr
  . exact Qhp.2 n2
  rcases xu.1 hr with rfl | hr
  . exact Qhp.2 n3
  cases hr
 have eRows:rowsR (tS s)↔∀ i,i<s.B.length->∀ r c,s.A[i]?=some r->s.C[i]?=some c->sumQ (rvr r)=fr c:=by
  unfold rowsR;rw[eA,eC];constructor
  . intro h i _ r c hr d
    have:=h i (r.map tF) (Qav _ hr);rw[Qek,ot,Qav _ d] at this;exact this
  . intro h i r hr
    rw[xm] at hr;cases d:s.A[i]? with
    | none=>rw[d] at hr;cases hr
    | some y=>
      rw[d] at hr;cases hr;obtain⟨c,F,_⟩:=G i (by have:=Kc d;omega);rw[Qek,ot,Qav _ F];exact h i (by have:=Kc d;omega) y c d F
 refine Q10 (λi=>∀ r c,s.A[i]?=some r->s.C[i]?=some c->sumQ (rvr r)=fr c) 4 s.B.length (λi hi=>?_) ?_ A (λm=>?_) (λm=>⟨λh=>om,λh=>absurd (eRows.1 h.2.2.2.1) m⟩)
 . obtain⟨r,hr,H⟩:=B i hi
   obtain⟨c,d,Q⟩:=G i hi;have R:=Qti (n2 c Q);have e:=λ(g:Bool->Option (Lp Int (Lp Unit Int)))=>Jeb (q:=fr c) g hn u hk (hs.a r H) (by have:=a i hi r hr;omega) (Y r H);rw[R] at e;rw[ol (show(i:Int)<(s.B.length:Int) by omega),bifT,Q7 hr,sbind];simp only[Q7 d,sbind];rw[e,w1 om];exact⟨λh=>by rw[ol (h r c hr d)];rfl,λh=>by rw[oo (λg=>h λy z t Z=>by rw[hr] at t;cases t;rw[d] at Z;cases Z;exact g)];rfl⟩
 . rw[oo om];rfl
 have hRows:=eRows.2 m;rw[Qvv hn,sbind,Jeb _ hn u hk hs.b om n1];have rB:rv (tS s).B=rvr s.B:=by rw[eB,Qek]
 have rE:rv (tS s).E=rvr s.E:=by rw[eE,Qek]
 have eE0:(tS s).E≠[]↔s.E≠[]:=by rw[eE];simp
 rw[rB,rE,eE0];refine bifExN (λE=>⟨λh=>om,λh=>absurd h.2.2.2.2.1 (tf E)⟩) λE=>?_;have E:=vm E;refine Jec (!dP (s.E≠[]->sumQ (rvr s.E)=1)) (λM=>?_) ?_
 . by_cases w:s.E=[]
   . rw[w]
     rw[dP_t (λh=>absurd rfl h)];rfl
   . have:s.E.length≠0:=λh=>w (xx h)
     rw[ol (show(0:Int)<(s.E.length:Int) by omega),bifT,Jeb _ hn u hk hs.e om n3];by_cases g:sumQ (rvr s.E)=1
     . rw[ol g,dP_t (λ_=>g)]
     . rw[oo g,dP_f (λh=>g (h w))]
 cases w:dP (s.E≠[]->sumQ (rvr s.E)=1)
 . rw[ow,bifT]
   exact⟨6,rfl,λh=>om,λh=>by rw[dP_t h.2.2.2.2.2] at w;cases w⟩
 . rw[ou,bifF]
   exact⟨0,rfl,λ_=>⟨S,hShape,⟨N,O⟩,hRows,E,Jkf.1 w⟩,λ_=>rfl⟩
theorem Q4t{n k:Nat}{p:Qu}(hn:big<=n)(f:1<=k)(hk:k<1048576)(hp:PrbWr k p):Qcq n p=some (dP (prbR (tP p))):=by
 unfold Qcq prbR;simp only[jn_eq];obtain⟨v,g,d⟩:=Q4r hn (show k<274877906944 by omega) f hp.t hp.o;obtain⟨u,i,e⟩:=Q4s hn f hk hp.s;have eT:(tP p).Tape=tT p.Tape:=rfl;have eS:(tP p).Av=tS p.Av:=rfl;have eP:((tP p).P.length:Int)=(p.P.length:Int):=by unfold tP;simp
 have eR:(tT p.Tape).A3=p.Tape.A3:=rfl;rw[g,sbind,eT,eS,eP,eR,bifd];by_cases c1:v=-1;rw[oq c1,i,sbind,bifd];by_cases a:u=0;rw[oq a];exact Qej ⟨λh=>⟨d.1 c1,e.1 a,h⟩,λh=>h.2.2⟩;rw[oj a,dP_f λh=>a (e.2 h.2.1)];rw[oj c1,dP_f λh=>c1 (d.2 h.1)]
theorem Qk7{l:List Rat}{r:Int}(a:0<=r)(d:r<(l.length:Int)):getI (rR l) r=some (rF (l.getD r.toNat 0)):=by
 obtain⟨k,rfl⟩:∃ k:Nat,r=(k:Int):=⟨r.toNat,om⟩
 have hk:k<l.length:=om
 rw[Qfh,ya,Qih (oi hk),ot,oi hk];rfl
theorem Jgh{t:Qm}{i:Nat}{x:Qv}(h:mayR t i x):x.Op=1\/x.Op=2\/x.Op=3\/x.Op=4\/x.Op=6\/x.Op=11\/x.Op=7\/x.Op=8\/x.Op=9\/x.Op=10:=by unfold mayR at h;by_cases c1:x.Op=1;exact .inl c1;rw[oj c1] at h;by_cases d:x.Op=2;omega;rw[oj d] at h;by_cases e:x.Op=3;omega;rw[oj e] at h;by_cases f:x.Op=4;omega;rw[oj f] at h;by_cases g:x.Op=6;omega;rw[oj g] at h;by_cases a:x.Op=11;omega;rw[oj a] at h;have:=h.2.2;unfold rdT at this;rw[oj om] at this;by_cases j:x.Op=7\/x.Op=8\/x.Op=9\/x.Op=10;omega;rw[oj j] at this;simp at this
theorem Jq2{t:Qm}{i:Nat}{x:Qv}(h:mayR t i x)(a:x.Op=1):x.N=toF (fv x.N):=by unfold mayR at h;rw[oq a] at h;exact h.2.2
theorem Q6w{n k:Nat}{t:Ja}{x:Jp}{T:Rat}{Y P done:List Rat}(hn:big<=n)(j:1<=k)(hk:k<1048576)(m:mayR (tT t) done.length (tI x))(w:Fk k (tF x.N))
 (B:qw T<=k) (A:QR k Y) (y:QR k P) (u:QR k done) (E:(Y.length:Int)=t.A0) (hp:(P.length:Int)=t.A3) :
 ∃ v,Qbj n x ⟨rF T,rR Y,rR P⟩ (rR done)=some (match opQ (tI x) T Y P done with | none=>(v,false) | some q=>(rF q,true))/\∀ q,opQ (tI x) T Y P done=some q->qw q<=8*k+1:=by
 unfold Qbj opQ Qeb;have eN:(tI x).N=tF x.N:=rfl;have eO:(tI x).Op=x.Op:=rfl;have eA:(tI x).A=x.A:=rfl;have eB:(tI x).B=x.B:=rfl;have p:=Qmr m;have dA:x.Op=6\/x.Op=11\/x.Op=7\/x.Op=8\/x.Op=9\/x.Op=10->getI (rR done) x.A=some (rF (done.getD x.A.toNat 0)):=λh=>Qk7 (p _ (rdT_A (x:=tI x) h)).1 (p _ (rdT_A (x:=tI x) h)).2;have dB:x.Op=7\/x.Op=8\/x.Op=9\/x.Op=10->getI (rR done) x.B=some (rF (done.getD x.B.toNat 0)):=λh=>Qk7 (p _ (rdT_B (x:=tI x) h)).1 (p _ (rdT_B (x:=tI x) h)).2;have qA:qw (done.getD x.A.toNat 0)<=k:=Vp u j;have qB:qw (done.getD x.B.toNat 0)<=k:=Vp u j;have l:=Jgh m;rw[eO] at l;simp only[eN,eO,eA,eB,jn_eq];generalize done.getD x.A.toNat 0=a at dA qA |-;generalize done.getD x.B.toNat 0=b at dB qB |-;rcases l with h | h | h | h | h | h | h | h | h | h
 . simp only[h,Int.reduceEq,wx,vk,bifT,bifF,yf,yv]
   have hr:rF (fr x.N)=x.N:=Qd2.2 (Jq2 m h);have d:=qw_fr (Fk_wd w) j;refine⟨rF 0,by rw[fr_tF,hr],λq s=>?_⟩;have:q=fv (tF x.N):=(Option.some.inj s).symm;rw[this,fr_tF];omega
 . simp only[h,Int.reduceEq,wx,vk,bifT,bifF,yv]
   exact⟨rF 0,(by first | rfl | trivial),λq d=>by have:q=T:=(Option.some.inj d).symm;rw[this];omega⟩
 . obtain⟨a1,a2⟩:=Qxp m h
   have g:0<=x.A:=a1;have r:x.A<t.A0:=a2;have e:getI (rR Y) x.A=some (rF (Y.getD x.A.toNat 0)):=Qk7 g om;simp only[h,Int.reduceEq,wx,vk,bifT,bifF,yf,yv,e,sbind];exact⟨rF 0,(by first | rfl | trivial),λq d=>by have:q=Y.getD x.A.toNat 0:=(Option.some.inj d).symm;rw[this];have:=Vp (i:=x.A.toNat) A j;omega⟩
 . obtain⟨a1,a2⟩:=Qxq m h
   have g:0<=x.A:=a1;have r:x.A<t.A3:=a2;have e:getI (rR P) x.A=some (rF (P.getD x.A.toNat 0)):=Qk7 g om;simp only[h,Int.reduceEq,wx,vk,bifT,bifF,yf,yv,e,sbind];exact⟨rF 0,(by first | rfl | trivial),λq d=>by have:q=P.getD x.A.toNat 0:=(Option.some.inj d).symm;rw[this];have:=Vp (i:=x.A.toNat) y j;omega⟩
 . have e:=dA om
   simp only[h,Int.reduceEq,wx,vk,bifT,bifF,yf,yv,e,sbind,Qra hn (show k<274877906944 by omega) qA];exact⟨rF 0,(by first | rfl | trivial),λq d=>by have:q=-a:=(Option.some.inj d).symm;rw[this,Qjz];omega⟩
 . have e:=dA om
   simp only[h,Int.reduceEq,wx,vk,bifT,bifF,yf,yv,e,sbind,Q8v hn (show k<1073741824 by omega) qA];refine⟨rF 0,?_,λq d=>?_⟩
   . split<;>rfl
   . split at d
     . cases d
     . rename_i C
       cases d;exact Qxn qA om
 . have e:=dA om
   have f:=dB om;simp only[h,Int.reduceEq,wx,vk,bifT,bifF,yf,yv,e,f,sbind,W3 hn (show k<274877906944 by omega) qA qB];exact⟨rF 0,(by first | rfl | trivial),λq d=>by have:q=a+b:=(Option.some.inj d).symm;rw[this];have:=Zx qA qB;omega⟩
 . have e:=dA om
   have f:=dB om;simp only[h,Int.reduceEq,wx,vk,bifT,bifF,yf,yv,e,f,sbind,Qrb hn (show k<274877906944 by omega) qA qB];exact⟨rF 0,(by first | rfl | trivial),λq d=>by have:q=a - b:=(Option.some.inj d).symm;rw[this];have:=Q1e qA qB;omega⟩
 . have e:=dA om
   have f:=dB om;simp only[h,Int.reduceEq,wx,vk,bifT,bifF,yf,yv,e,f,sbind,Qah hn (show k<274877906944 by omega) qA qB];exact⟨rF 0,(by first | rfl | trivial),λq d=>by have:q=a*b:=(Option.some.inj d).symm;rw[this];have:=X0 qA qB;omega⟩
 . have e:=dA om
   have f:=dB om;simp only[h,Int.reduceEq,vk,bifT,bifF,yf,yv,e,f,sbind,Qig,Qmv hn (show k<274877906944 by omega) qA qB];by_cases h0:b=0
   . rw[ol h0,bifT,oq h0]
     exact⟨rF b,(by first | rfl | trivial),λq d=>by cases d⟩
   . rw[oo h0,bifF,oj h0]
     exact⟨rF b,(by first | rfl | trivial),λq d=>by have:q=a / b:=(Option.some.inj d).symm;rw[this];have:=Qqb qA qB;omega⟩
theorem Qvx{n k:Nat}{t:Ja}{T:Rat}{Y P:List Rat}{lim:Int}(hn:big<=n)(h1:129<=k)(hk:k<1048576)(S:tapeR (tT t))(N:∀ c∈t.Code,Fk k (tF c.N))
 (Q:qw T<=k) (R:QR k Y) (O:QR k P) (U:(Y.length:Int)=t.A0) (hp:(P.length:Int)=t.A3) (hg:lim<=4096) :
 Yt n t ⟨rF T,rR Y,rR P⟩ lim=some (match runQ lim T Y P (tT t).Code 0 [] with | .inl e=>([],e.1,(e.2:Int)) | .inr l=>(rR l,0,0)):=by
 obtain⟨⟨c1,X,Z,J⟩,W,m2⟩:=S;have L:t.Code.length<=300:=by unfold tT at J;simpa using J
 have eC:(tT t).Code=t.Code.map tI:=rfl;unfold Yt
 have E:∀(m i f:Nat) (done:List Rat),i+m=t.Code.length->m<f->done.length=i->QR k done ->
  (loopM (λ(a:(List Qb)×Int)=>
  bif decide (a.2<(t.Code.length:Int)) then (
   (getI t.Code a.2).bind λH=>
   (Qbj n H ⟨rF T,rR Y,rR P⟩ a.1).bind λd=>
   bif !d.2 then (
    some (Lp.out (Lp.out ((([]:List Qb),(3:Int),a.2)))))
   else (
    (K5 n d.1 lim).bind λF=>
    bif !F then (
     some (Lp.out (Lp.out ((([]:List Qb),(6:Int),a.2)))))
    else (
     (appM 56 a.1 ([d.1]:List Qb)).bind λI=>
     some (Lp.go (I,wrap64 (a.2+(1:Int)))))))
  else (
   some (Lp.out (Lp.go a.1)))) f (rR done,(i:Int))).bind (lpK λ(G:(List Qb))=>some (G,(0:Int),(0:Int)))=some (match runQ lim T Y P ((tT t).Code.drop i) i done with | .inl e=>([],e.1,(e.2:Int)) | .inr l=>(rR l,0,0)):=by
  intro m
  induction m with
  | zero=>
    intro i f done hi w hd A;rw[Kz (t:=Lp.go (rR done)) (by simp only[];rw[oo om];rfl) om,xq,Vn,eC,xj oh];rfl
  | succ m V=>
    intro i f done hi w hd A;obtain⟨n'',rfl⟩:∃ n'',f=n''+1:=⟨f - 1,om⟩
    have r:t.Code[i]?=some (t.Code[i]' om):=oi om;have j:=N (t.Code[i]' om) (xi om);generalize t.Code[i]' om=x at r j;have s:(tT t).Code[i]?=some (tI x):=by rw[eC];exact Qav tI r
    have p:=W i (tI x) s;obtain⟨v,g,M⟩:=Q6w (T:=T) (Y:=Y) (P:=P) (done:=done) hn om hk (by rw[hd];exact p) j Q R O A U hp;rw[Qub s];simp only[runQ];cases y:opQ (tI x) T Y P done with
    | none=>
      rw[y] at g
      rw[Kz (t:=Lp.out ([],3,(i:Int))) (by
       simp only[]
       rw[ol (show(i:Int)<(t.Code.length:Int) by omega),bifT,Q7 r,sbind,g,sbind];rfl) om,xq,Yz]
    | some q=>
      rw[y] at g;have B:=M q y;have K:K5 n (rF q) lim=some (decide ((qz q:Int)<=lim)):=by unfold K5;rw[Qlf (k:=8*k+1) hn om B,sbind]
      by_cases u:(qz q:Int)<=lim
      . have hq129:qw q<=129:=by have:=qw_qz (q:=q) (b:=4096) om;omega
        rw[Qau (s':=(rR (done++[q]),((i+1:Nat):Int))) (by
         simp only[];rw[ol (show(i:Int)<(t.Code.length:Int) by omega),bifT,Q7 r,sbind,g,sbind];simp only[]
         rw[ou,bifF,K,sbind,ol u,ou,bifF,J5 (by simp[Kf];omega) (by simp[Kf];omega),sbind,w1 om,Qo0])]
        rw[V (i+1) n'' (done++[q]) om om oh (λz C=>by
         rcases yd.1 C with h | h
         . exact A z h
         . rw[xk.1 h];omega)]
        simp only[];rw[oq u]
      . rw[Kz (t:=Lp.out ([],6,(i:Int))) (by
         simp only[];rw[ol (show(i:Int)<(t.Code.length:Int) by omega),bifT,Q7 r,sbind,g,sbind];simp only[]
         rw[ou,bifF,K,sbind,oo u,ow,bifT]) om,xq,Yz]
        simp only[];rw[oj u]
 have:=E t.Code.length 0 n [] om (by unfold big at hn;omega) rfl (λ_ h=>by cases h);rw[dt] at this;exact this
theorem Q6x{n:Nat}{t:Ja}{l:List Rat}(hn:big<=n)(d:t.Az.length<=1000000)(a:∀ o∈t.Az,0<=o/\o<(l.length:Int)):Qbk n t (rR l)=some (rR (t.Az.map λo=>l.getD o.toNat 0)):=by unfold Qbk;rw[Wr (λi=>(rR ((t.Az.take i).map λo=>l.getD o.toNat 0),(i:Int))) t.Az.length (rR (t.Az.map λo=>l.getD o.toNat 0))];intro i hi;have hp:t.Az[i]?=some t.Az[i]:=oi hi;have hb:=a t.Az[i] (xi hi);generalize t.Az[i]=o at hp hb;rw[ol (show(i:Int)<(t.Az.length:Int) by omega),bifT,Q7 hp,sbind,Qk7 hb.1 hb.2,sbind,J5 (by simp[Kf];omega) (by simp[Kf];omega),sbind,w1 om,X4 hp,xw,List.map_singleton,Qo0];rw[oo om,bifF,xc];unfold big at hn;omega;rfl
theorem Qcl{n k:Nat}{l:List Rat}{lim:Int}(hn:big<=n)(hk:k<274877906944)(w:QR k l)(x:l.length<=1000000):
 J0 n (rR l) lim=some (match fitQ lim l 0 with | none=>(l.length:Int) | some j=>(j:Int)):=by
 unfold J0
 have p:∀(m i d:Nat),i+m=l.length->m<d->(loopM (λ(a:Int)=>
  bif decide (a<((rR l).length:Int)) then (
   (getI (rR l) a).bind λs=>
   (K5 n s lim).bind λr=>
   bif !r then (
    some (Lp.out (Lp.out (a))))
   else (
    some (Lp.go (wrap64 (a+(1:Int))))))
  else (
   some (Lp.out (Lp.go ())))) d (i:Int)).bind (lpK λ(_:Unit)=>some ((rR l).length:Int))=some (match fitQ lim (l.drop i) i with | none=>(l.length:Int) | some j=>(j:Int)):=by
  intro m
  induction m with
  | zero=>
    intro i d hi g;rw[Kz (t:=Lp.go ()) (by simp only[Kf];rw[oo om];rfl) om,xq,Vn,xj om,Kf];rfl
  | succ m y=>
    intro i d hi g;obtain⟨n'',rfl⟩:∃ n'',d=n''+1:=⟨d - 1,om⟩
    have e:l[i]?=some (l[i]' om):=oi om;have v:=w (l[i]' om) (xi om);generalize l[i]' om=q at e v;have u:K5 n (rF q) lim=some (decide ((qz q:Int)<=lim)):=by unfold K5;rw[Qlf (k:=k) hn om v,sbind]
    rw[Qub e];simp only[fitQ];by_cases f:(qz q:Int)<=lim
    rw[Qau (s':=((i+1:Nat):Int)) (by
     simp only[Kf]
     rw[ol (show(i:Int)<(l.length:Int) by omega),bifT,Q7 (Qih e),sbind,u,sbind,ol f,ou,bifF,w1 om]),y (i+1) n'' om om,oq f]
    rw[Kz (t:=Lp.out (i:Int)) (by
     simp only[Kf]
     rw[ol (show(i:Int)<(l.length:Int) by omega),bifT,Q7 (Qih e),sbind,u,sbind,oo f,ow,bifT]) om,xq,Yz,oj f]
 have:=p l.length 0 n om (by unfold big at hn;omega);rw[dt] at this;exact this
def mixI:List Rat->List (List Rat)->Nat->Rat->Rat
 | c::cs,a::l,i,z=>mixI cs l i (z+c*a.getD i 0)
 | _,_,_,z=>z
theorem Q11:∀ {cs:List Rat}{l:List (List Rat)}{i:Nat}{z:Rat}{c a},cs.length=l.length->mixI (cs++[c]) (l++[a]) i z=mixI cs l i z+c*a.getD i 0
 | [],[],i,z,c,a,_=>rfl
 | [],_::_,_,_,_,_,h=>by simp at h
 | _::_,[],_,_,_,_,h=>by simp at h
 | x::cs,y::l,i,z,c,a,h=>by simp only[yu,mixI];exact Q11 (by simpa using h)
theorem Qo2{l:List Rat}{i:Nat}{x:Rat}(h:l[i]?=some x):l.getD i 0=x:=by rw[ot,h];rfl
theorem Jmk{g:Rat->Rat->Rat}{a z:List Rat}{i m:Nat}(f:a.length=m)(j:z.length=m)(hi:i<m):(List.zipWith g a z).getD i 0=g (a.getD i 0) (z.getD i 0):=by have d:a[i]?=some a[i]:=oi om;have e:z[i]?=some z[i]:=oi om;rw[Qo2 d,Qo2 e,ot,wu,d,e];rfl
theorem Q4u{m i:Nat}(hi:i<m):∀ {cs:List Rat}{l:List (List Rat)}{z:List Rat},(∀ a∈l,a.length=m)->z.length=m->(mixQ cs l z).getD i 0=mixI cs l i (z.getD i 0)
 | [],_,z,_,_=>by simp only[mixQ,mixI]
 | _::_,[],z,_,_=>by simp only[mixQ,mixI]
 | c::cs,a::l,z,d,f=>by simp only[mixQ,mixI];have e:=d a (.head _);rw[Q4u hi (λb hb=>d b (.tail _ hb)) oh,Jmk e f hi]
theorem Qtj{j k:Nat}:∀ {cs:List Rat}{l:List (List Rat)}{i:Nat}{z:Rat}{b:Nat},1<=k->QR j cs->(∀ a∈l,QR k a)->qw z<=b->qw (mixI cs l i z)<=b+l.length*(j+k+1)
 | [],_,i,z,b,_,_,_,h=>by simp only[mixI];omega
 | _::_,[],i,z,b,_,_,_,h=>by simp only[mixI];omega
 | x::cs,y::l,i,z,b,d,e,f,h=>by simp only[mixI];have g:=Zx h (X0 (e x (.head _)) (Vp (i:=i) (f y (.head _)) d));have:=Qtj (i:=i) d (λq n=>e q (.tail _ n)) (λa m=>f a (.tail _ m)) g;rw[xn,uz];omega
theorem Jml{H:Rat}{Y c:List Rat}{kss:List (List Rat)}{i:Nat}{y:Rat}(hk:∀ a∈kss,a.length=Y.length)(e:Y[i]?=some y):(fromQ H Y c kss)[i]?=some (y+H*mixI c kss i 0):=by
 have hi:=Kc e;have f:(mixQ c kss (List.replicate Y.length 0)).length=Y.length:=Qg7 hk oc;have d:(mixQ c kss (List.replicate Y.length 0))[i]?=some (mixI c kss i 0):=by have:=Q4u (cs:=c) hi hk (show(List.replicate Y.length (0:Rat)).length=Y.length by simp);rw[Qo2 (l:=List.replicate Y.length (0:Rat)) (x:=0) (by simp[hi])] at this;rw[<-this,ot,oi om];rfl
 unfold fromQ towQ addQ scaleQ;rw[wu,e,xm,d];rfl
def rRR(l:List (List Rat)):List (List Qb):=l.map rR
theorem Qmx(l:List (List Rat)):(rRR l).length=l.length:=by unfold rRR;simp
theorem Jed(l:List (List Rat))(a:List Rat):rRR (l++[a])=rRR l++[rR a]:=by unfold rRR;simp
theorem Q8z{l:List (List Rat)}{i:Nat}{a:List Rat}(h:l[i]?=some a):(rRR l)[i]?=some (rR a):=by unfold rRR;exact Qav rR h
theorem Q80{n k i m:Nat}{H:Rat}{c:List Rat}{kss:List (List Rat)}(hn:big<=n)(h0:129<=k)(hk:k<16384)(E:qw H<=k)(p:QR k c)(f:∀ a∈kss,QR 129 a)(A:kss.length<=8)(r:c.length=kss.length)(s:∀ a∈kss,a.length=m)(hi:i<m):
 Qb5 n (rR c) (rRR kss) (i:Int) (rF H)=some (rF (H*mixI c kss i 0)):=by
 unfold Qb5;rw[Qdl hn,sbind];rw[Wr (λj=>(rF (mixI (c.take j) (kss.take j) i 0),(j:Int))) c.length (rF (mixI c kss i 0))];have B:=Qtj (i:=i) (z:=0) (b:=1) om p f (by rw[Zo];exact xr _);have y:kss.length*(k+129+1)<=8*(k+129+1):=xh _ A;rw[Qah (k:=20*k) hn om om om,sbind];intro j v;have d:c[j]?=some c[j]:=oi v;have e:kss[j]?=some (kss[j]' om):=oi om;have u:=p c[j] (xi v);have w:=f (kss[j]' om) (xi om);have C:=s (kss[j]' om) (xi om);generalize c[j]=x at d u;generalize kss[j]' om=a at e w C;have g:=Vp (i:=i) w om;have F:=X0 u g;have B:=Qtj (i:=i) (z:=0) (b:=1) (cs:=c.take j) (l:=kss.take j) (j:=k) (k:=129) om (λq h=>p q (ym h)) (λa h=>f a (ym h)) (by rw[Zo];exact xr _);have y:(kss.take j).length*(k+129+1)<=8*(k+129+1):=xh _ oh;rw[X4 d,X4 e,Q11 oh];simp only[jn_eq];rw[Kf,ol (show(j:Int)<(c.length:Int) by omega),bifT,Q7 (Qih d),sbind,Qig,sbind];by_cases t:x=0;rw[ol t,ou,bifF,w1 om,t,Rat.zero_mul,ui];rw[oo t,ow,bifT,sbind,Q7 (Q8z e),sbind,Qk7 om om,sbind,ya,Qah (k:=k) hn om u om,sbind,W3 (k:=20*k) hn om om om,sbind,w1 om];rw[Kf,oo om,bifF,xc,r,xc];unfold big at hn;omega;rfl
theorem Qqk{n k:Nat}{H:Rat}{Y c:List Rat}{kss:List (List Rat)}(hn:big<=n)(h0:129<=k)(hk:k<16384)(r:qw H<=k)(u:QR k Y)(s:QR k c)(f:∀ a∈kss,QR 129 a)(t:kss.length<=8)(g:c.length=kss.length)(d:∀ a∈kss,a.length=Y.length)(B:Y.length<=1000):
 V9 n (rR Y) (rR c) (rRR kss) (rF H)=some (rR (fromQ H Y c kss)):=by
 unfold V9;have m:=Qiv (H:=H) (Y:=Y) (c:=c) d;have q:=λi=>Qtj (i:=i) (z:=0) (b:=1) (cs:=c) (l:=kss) (j:=k) (k:=129) om s f (by rw[Zo];exact xr _);have A:kss.length*(k+129+1)<=8*(k+129+1):=xh _ t;rw[Wr (λi=>(rR ((fromQ H Y c kss).take i),(i:Int))) Y.length (rR (fromQ H Y c kss))];intro i hi;have e:Y[i]?=some Y[i]:=oi hi;have x:=u Y[i] (xi hi);generalize Y[i]=y at e x;have v:=Jml (H:=H) (c:=c) d e;have p:=q i;have w:=X0 r p;rw[Kf,ol (show(i:Int)<(Y.length:Int) by omega),bifT,Q7 (Qih e),sbind,Q80 hn h0 hk r s f t g d hi,sbind,W3 (k:=22*k) hn om om om,sbind,J5 (by simp[Kf];omega) (by simp[Kf];omega),sbind,w1 om,X4 v,Qo0];rw[Kf,oo om,bifF,<-m,xc];unfold big at hn;omega;rfl
theorem Q81{n k:Nat}{s:Jt}(hn:big<=n)(m:1<=k)(hk:k<1048576)(hs:SchWr k s)(u:∀ f∈s.B,numR (tF f))(v:∀ f∈s.E,numR (tF f))(g:s.E.length=s.B.length)(p:s.B.length<=8)(l:s.E≠[]):
 Qbx n s=some (rR (gapQ (tS s))):=by
 have eE0:(tS s).E≠[]:=by show s.E.map tF≠[];simpa using l
 have eB:rv (tS s).B=rvr s.B:=Qek s.B;have eE:rv (tS s).E=rvr s.E:=Qek s.E;have t:gapQ (tS s)=List.zipWith (λb e=>b - e) (rvr s.B) (rvr s.E):=by unfold gapQ addQ scaleQ;rw[oj eE0,eB,eE,dc];congr 1;funext b e;grind
 have qB:QR k (rvr s.B):=Qn3 (λf j=>Fk_wd (hs.b f j)) m;have qE:QR k (rvr s.E):=Qn3 (λf j=>Fk_wd (hs.e f j)) m;have rB:=Qrw u;have rE:=Qrw v;have lB:=Qel s.B;have lE:=Qel s.E;unfold Qbx;rw[t];generalize rvr s.B=b at *;generalize rvr s.E=e at *;rw[<-rB,<-rE];rw[<-rB] at lB p g;rw[<-rE] at lE g;rw[Kf] at p g;rw[Kf] at g;rw[Wr (λi=>(rR ((List.zipWith (λb e=>b - e) b e).take i),(i:Int))) b.length (rR (List.zipWith (λb e=>b - e) b e))];intro i hi;have a:b[i]?=some b[i]:=oi hi;have d:e[i]?=some (e[i]' om):=oi om;have q:=qB b[i] (xi hi);have r:=qE (e[i]' om) (xi om);generalize b[i]=x at a q;generalize e[i]' om=y at d r;have w:(List.zipWith (λb e=>b - e) b e)[i]?=some (x - y):=by rw[wu,a,d]
 simp only[jn_eq,Kf];rw[ol (show(i:Int)<(e.length:Int) by omega),bifT,ol (show(i:Int)<(b.length:Int) by omega),bifT,Q7 (Qih a),sbind,Q7 (Qih d),sbind,Qrb (k:=k) hn om q r,sbind,J5 (by simp[Kf];omega) (by simp[Kf];omega),sbind,w1 om,X4 w,Qo0];simp only[jn_eq,Kf];rw[oo (show ¬(b.length:Int)<(e.length:Int) by omega),bifF,bifF];have:(List.zipWith (λb e=>b - e) b e).length=b.length:=oh
 rw[<-this,xc];unfold big at hn;omega;rfl
theorem Qii{n m:Nat}(hn:big<=n)(a:m<=300):Vs n (m:Int)=some (rR (List.replicate m 0)):=by unfold Vs;rw[Wr (λi=>(rR (List.replicate i 0),(i:Int))) m (rR (List.replicate m 0))];intro i hi;simp only[jn_eq];rw[ol (show(i:Int)<(m:Int) by omega),bifT,ol (show(i:Int)<300 by omega),bifT,Qdl hn,sbind,J5 (by simp[Kf];omega) (by simp[Kf];omega),sbind,w1 om,ju,Qo0];simp only[jn_eq];rw[oo om,bifF,bifF];unfold big at hn;omega;rfl
theorem Jah:∀ {Y:List Rat}{m:Nat},Y.length=m->addQ (List.replicate m 0) Y=Y
 | [],m,h=>by unfold addQ;simp
 | x::Y,m,h=>by
   obtain⟨j,rfl⟩:∃ j,m=j+1:=⟨m - 1,by simp at h;omega⟩
   have:=Jah (Y:=Y) (m:=j) (by simpa using h);unfold addQ at this |-;rw[uq,jh,this];congr 1;grind
theorem Q6y{t:Qm}{lim:Int}{T H:Rat}{Y P:List Rat}(d:lim<=4096):∀ {r:List (List Rat×Rat)}{i:Nat}{yss kss:List (List Rat)}{z}{j:Nat},(∀ a∈kss,QR 129 a)->kss.length=j->yss.length=j->stagesQ t lim T H Y P r i yss kss=.inr z ->
 (∀ a∈z.2,QR 129 a)/\z.2.length=j+r.length/\z.1.length=j+r.length
 | [],i,yss,kss,z,j,l,n,p,h=>by simp only[stagesQ] at h;cases h;exact⟨l,n,p⟩
 | x::r,i,yss,kss,z,j,l,n,p,h=>by
   simp only[stagesQ] at h;cases hs:stageQ t lim T H Y P x.1 x.2 i kss with
   | inl f=>rw[hs] at h;cases h
   | inr w=>
     rw[hs] at h;have s:QR 129 w.2:=by
      unfold stageQ at hs;split at hs;cases hs;cases m:fieldQ t lim (T+H*x.2) (fromQ H Y x.1 kss) P with
      | inl e=>rw[m] at hs;cases hs
      | inr k=>rw[m] at hs;cases hs;exact(Q1j d m).2
     obtain⟨g1,q,g3⟩:=Q6y d (j:=j+1) (λa g=>by
      rcases yd.1 g with g | g;exact l a g
      rw[xk.1 g];exact s) oh oh h
     exact⟨g1,by rw[q,xn];omega,by rw[g3,xn];omega⟩
def noMr:J4:=⟨[],[],[],[]⟩
def toMr(z:MadeQ):J4:=⟨rRR z.ys,rRR z.ks,rR z.next,rR z.err⟩
theorem Q82{s:Jt}(h:schR (tS s)):(∀ r∈s.A,∀ f∈r,numR (tF f))/\(∀ f∈s.B,numR (tF f))/\(∀ f∈s.C,numR (tF f))/\∀ f∈s.E,numR (tF f):=by obtain⟨d,a⟩:=h.2.2.1;have eB:(tS s).B=s.B.map tF:=rfl;have eC:(tS s).C=s.C.map tF:=rfl;have eE:(tS s).E=s.E.map tF:=rfl;have eA:(tS s).A=s.A.map (·.map tF):=rfl;rw[eA] at d;rw[eB,eC,eE] at a;exact⟨λr hr=>Qhp.1 (d (r.map tF) (vf hr)),Qhp.1 (a _ oc),Qhp.1 (a _ oc),Qhp.1 (a _ oc)⟩
theorem Jgi{s:Jt}(h:schR (tS s)):gapQ (tS s)=[]↔s.E=[]:=by obtain⟨⟨⟨g1,e⟩,g3,g4,f⟩,g⟩:=Qmg.1 h.2.1;have eE:(tS s).E=s.E.map tF:=rfl;have eB:(tS s).B=s.B.map tF:=rfl;constructor;intro d;unfold gapQ at d;split at d;rename_i a;rw[eE] at a;simpa using a;have:=yj List.length d;rw[Zl,W6,Ji,Ji,eE,eB] at this;simp only[ov,yr] at this;exact xx om;intro a;unfold gapQ;rw[oq (by rw[eE,a];rfl)]
theorem Qz1{n k:Nat}{p:Qu}{T H:Rat}{Y:List Rat}(hn:big<=n)(h0:129<=k)(hk:k<8000)(hp:PrbWr k p)(hr:prbR (tP p))(hT:qw T<=k)(V:qw H<=k)(hY:QR k Y)(hl:(Y.length:Int)=p.Tape.A0):
 Zs n p (rF T) (rF H) (rR Y)=some (match doQ (tT p.Tape) (tS p.Av) (limQ p.Ay) T H Y (rvr p.P) with | .inl f=>(noMr,⟨f.Ax,f.A4,f.At⟩) | .inr z=>(toMr z,⟨0,0,0⟩)):=by
 obtain⟨hta,hsc,hpl⟩:=hr;have B:tapeR (tT p.Tape):=hta;have w:schR (tS p.Av):=hsc;have hpl':(p.P.length:Int)=p.Tape.A3:=by
  have e:((tP p).P.length:Int)=(p.P.length:Int):=by unfold tP;simp
  rw[<-e];exact hpl
 obtain⟨nA,nB,nC,nE⟩:=Q82 w;obtain⟨⟨⟨g1,g2⟩,g3,g4,g5⟩,g6⟩:=Qmg.1 w.2.1;obtain⟨⟨d1,d2⟩,⟨d3,d4⟩,d5,d6⟩:=B.1;have d1':1<=p.Tape.A0:=d1;have d2':p.Tape.A0<=6:=d2
 have hoc:∀ o∈p.Tape.Az,0<=o/\o<(p.Tape.Code.length:Int):=λo ho=>by
  have:=B.2.2 o ho;have e:(tT p.Tape).Code.length=p.Tape.Code.length:=by unfold tT;simp
  rw[e] at this;exact this
 have hol:(p.Tape.Az.length:Int)=p.Tape.A0:=d5;have hPq:QR k (rvr p.P):=Qn3 (λf A=>Fk_wd (hp.pk f A)) om;have hPl:((rvr p.P).length:Int)=p.Tape.A3:=by rw[Qel];exact hpl'
 have hNorm:V5 n p.P=some (rR (rvr p.P)):=Qg9 hn om (λf A=>Fk_wd (hp.pk f A)) hp.pl;obtain⟨lim,v⟩:∃ lim,lim=limQ p.Ay:=⟨_,rfl⟩
 have hlim4:lim<=4096:=by rw[v];unfold limQ;omega
 have eL:Vg p.Ay=some lim:=by rw[v];rfl
 unfold Zs;rw[eL,sbind,<-v];clear eL v
 have key:∀(m i X:Nat) (yss kss:List (List Rat)) (K:(List (List Qb))×(List (List Qb))->Option (J4×Jz)),i+m=p.Av.B.length->m<X->yss.length=i->kss.length=i->(∀ a∈kss,QR 129 a)->(∀ a∈kss,a.length=Y.length) ->
  (loopM (λ(g:(List (List Qb))×(List (List Qb))×Int)=>
  bif decide (g.2.2<(p.Av.B.length:Int)) then (
   (getI p.Av.A g.2.2).bind λy44=>
   (V9 n (rR Y) y44 g.2.1 (rF H)).bind λI=>
   (J0 n I lim).bind λr48=>
   bif decide (r48<(I.length:Int)) then (
    some (Lp.out (Lp.out (((⟨[],[],[],[]⟩:J4),(⟨(6:Int),g.2.2,wrap64 ((300:Int)+r48)⟩:Jz))))))
   else (
    (Wk n p (rF T) (rF H) g.2.2).bind λr50=>
    (Wt n p r50 I).bind λr52=>
    (Yt n p.Tape r52 lim).bind λJ=>
    bif !decide (J.2.1=(0:Int)) then (
     some (Lp.out (Lp.out (((⟨[],[],[],[]⟩:J4),(⟨J.2.1,g.2.2,J.2.2⟩:Jz))))))
    else (
     (appM 24 g.1 ([I]:List (List Qb))).bind λy56=>
     (Qbk n p.Tape J.1).bind λr58=>
     (appM 24 g.2.1 ([r58]:List (List Qb))).bind λy60=>
     some (Lp.go (y56,y60,wrap64 (g.2.2+(1:Int)))))))
  else (
   some (Lp.out (Lp.go (g.1,g.2.1))))) X (rRR yss,rRR kss,(i:Int))).bind (lpK K)=match stagesQ (tT p.Tape) lim T H Y (rvr p.P) ((pairQ (tS p.Av)).drop i) i yss kss with | .inl f=>some (noMr,⟨f.Ax,f.A4,f.At⟩) | .inr z=>K (rRR z.1,rRR z.2):=by
  intro m
  induction m with
  | zero=>
    intro i X yss kss K hi hn' hy1 hk1 hq E;have he:(pairQ (tS p.Av)).drop i=[]:=by apply tg;unfold pairQ tS;rw[gp,Ji,ov,ov,ov];omega
    rw[Kz (t:=Lp.go (rRR yss,rRR kss)) (by simp only[];rw[oo om];rfl) om,xq,Vn,he];rfl
  | succ m ih=>
    intro i X yss kss K hi hn' hy1 hk1 hq E;obtain⟨n'',rfl⟩:∃ n'',X=n''+1:=⟨X - 1,om⟩
    have W:p.Av.A[i]?=some (p.Av.A[i]' om):=oi om;have hc:p.Av.C[i]?=some (p.Av.C[i]' om):=oi om;have O:=xi (l:=p.Av.A) (n:=i) om;have Q:=xi (l:=p.Av.C) (n:=i) om;generalize p.Av.A[i]' om=a at W O;generalize p.Av.C[i]' om=c at hc Q;have hal:=g6 i om a W;have hra:=Qrw (nA a O);have hrc:=Qti (nC c Q);have haq:QR k (rvr a):=Qn3 (λf A=>Fk_wd (hp.s.a a O f A)) om;have hcq:qw (fr c)<=k:=qw_fr (Fk_wd (hp.s.c c Q)) om;have hpd:=Q9r (s:=tS p.Av) (i:=i) (a:=a.map tF) (c:=tF c) (Qav _ W) (Qav _ hc);rw[Qek,fr_tF] at hpd;rw[hpd];simp only[stagesQ];have N:=Qqk (c:=rvr a) hn h0 om V hY haq hq om (by rw[Qel];omega) E om;rw[hra] at N;have C:=Qq1 hY V haq hq om h0;have hfl:=Qiv (H:=H) (Y:=Y) (c:=rvr a) E;have d:=Qcl (lim:=lim) hn (show 22*k<274877906944 by omega) C om;unfold stageQ;cases A:fitQ lim (fromQ H Y (rvr a) kss) 0 with
    | some j=>
      rw[A] at d;have hj:=Qj1 A;simp only[] at d |-
      rw[Kz (t:=Lp.out (noMr,⟨6,(i:Int),300+(j:Int)⟩)) (by
       simp only[]
       rw[ol (show(i:Int)<(p.Av.B.length:Int) by omega),bifT,Q7 W,sbind,N,sbind,d,sbind,Kf,ol om,bifT,w64 om om];rfl) om,xq,Yz]
    | none=>
      rw[A] at d;simp only[] at d |-;have hmul:=X0 V hcq;have hadd:=Zx hT hmul;have hMo:Wk n p (rF T) (rF H) (i:Int)=some (rF (T+H*fr c)):=by unfold Wk;rw[Q7 hc,sbind,<-hrc,Qah (k:=k) hn om V hcq,sbind,fr_rF,W3 (k:=4*k) hn om om om,sbind]
      have hPo:Wt n p (rF (T+H*fr c)) (rR (fromQ H Y (rvr a) kss))=some ⟨rF (T+H*fr c),rR (fromQ H Y (rvr a) kss),rR (rvr p.P)⟩:=by unfold Wt;rw[hNorm,sbind]
      have y:=Qvx (k:=22*k) (t:=p.Tape) (T:=T+H*fr c) (Y:=fromQ H Y (rvr a) kss) (P:=rvr p.P) (lim:=lim) hn om om B (λx G=>Wg (hp.t x G) om) om C (Jb hPq om) (by rw[hfl];exact hl) hPl hlim4;unfold fieldQ;cases F:runQ lim (T+H*fr c) (fromQ H Y (rvr a) kss) (rvr p.P) (tT p.Tape).Code 0 [] with
      | inl e=>
        rw[F] at y;have hkd:=Qoz F;simp only[] at y |-
        rw[Kz (t:=Lp.out (noMr,⟨e.1,(i:Int),(e.2:Int)⟩)) (by
         simp only[];rw[ol (show(i:Int)<(p.Av.B.length:Int) by omega),bifT,Q7 W,sbind,N,sbind,d,sbind,Kf,oo om,bifF,hMo,sbind,hPo,sbind,y,sbind];simp only[]
         rw[oo (show ¬ e.1=0 by omega),ow,bifT];rfl) om,xq,Yz]
      | inr l=>
        rw[F] at y;obtain⟨l1,l2⟩:=Qtb hlim4 (λ_ h=>by cases h) F;have l1':l.length=p.Tape.Code.length:=by rw[l1];unfold tT;simp
        have hOu:=Q6x (t:=p.Tape) (l:=l) hn hp.o (by rw[l1'];exact hoc);simp only[] at y |-;have hoe:(tT p.Tape).Az=p.Tape.Az:=rfl;rw[hoe]
        rw[Qau (s':=(rRR (yss++[fromQ H Y (rvr a) kss]),rRR (kss++[p.Tape.Az.map λo=>l.getD o.toNat 0]),((i+1:Nat):Int))) (by
         simp only[];rw[ol (show(i:Int)<(p.Av.B.length:Int) by omega),bifT,Q7 W,sbind,N,sbind,d,sbind,Kf,oo om,bifF,hMo,sbind,hPo,sbind,y,sbind];simp only[]
         rw[ol trivial,ou,bifF,J5 (by simp[Qmx];omega) (by simp[Qmx];omega),sbind,hOu,sbind,J5 (by simp[Qmx];omega) (by simp[Qmx];omega),sbind,w1 om,Jed,Jed])]
        exact ih (i+1) n'' _ _ K om om oh oh (λb hb=>by
         rcases yd.1 hb with h | h;exact hq b h;rw[xk.1 h];intro q hq';obtain⟨o,_,rfl⟩:=xz.1 hq';exact Vp l2 om) (λb hb=>by
         rcases yd.1 hb with h | h;exact E b h
         rw[xk.1 h];simp;omega)
 have M:=key p.Av.B.length 0 n [] [] (λ(L:(List (List Qb))×(List (List Qb)))=>
 (V9 n (rR Y) p.Av.B L.2 (rF H)).bind λR=>
 (J0 n R lim).bind λr64=>
 bif decide (r64<(R.length:Int)) then (
  some ((⟨[],[],[],[]⟩:J4),(⟨(6:Int),(p.Av.B.length:Int),wrap64 ((300:Int)+r64)⟩:Jz)))
 else (
  jn (λ(j76:((List Qb))->Option _)=>
   bif decide ((0:Int)<(p.Av.E.length:Int)) then (
    (Vs n ((rR Y).length:Int)).bind λr79=>
    (Qbx n p.Av).bind λr81=>
    (V9 n r79 r81 L.2 (rF H)).bind λr83=>
    j76 r83)
   else (
    j76 [])) (λ(S:(List Qb))=>
   (J0 n S lim).bind λr85=>
   bif decide (r85<(S.length:Int)) then (
    some ((⟨[],[],[],[]⟩:J4),(⟨(6:Int),wrap64 ((p.Av.B.length:Int)+(1:Int)),wrap64 ((300:Int)+r85)⟩:Jz)))
   else (
    some ((⟨L.1,L.2,R,S⟩:J4),(⟨0,0,0⟩:Jz)))))) om (by unfold big at hn;omega) rfl rfl (λ_ h=>by cases h) (λ_ h=>by cases h)
 refine M.trans ?_;clear M key;rw[dt];unfold doQ;have epair:List.zip ((tS p.Av).A.map rv) (rv (tS p.Av).C)=pairQ (tS p.Av):=rfl;rw[epair];cases hst:stagesQ (tT p.Tape) lim T H Y (rvr p.P) (pairQ (tS p.Av)) 0 [] [] with
 | inl f=>rfl
 | inr z=>
   simp only[];obtain⟨z1,z2,z3,z4⟩:=Qvn (m:=Y.length) hlim4 (by have e:((tT p.Tape).Az.length:Int)=p.Tape.A0:=hol;omega) rfl (λ_ h=>by cases h) (λ_ h=>by cases h) hst;obtain⟨y1,y2,y3⟩:=Q6y hlim4 (λ_ h=>by cases h) rfl rfl hst;have hzl:z.2.length=p.Av.B.length:=by rw[y2];show 0+(pairQ (tS p.Av)).length=_;unfold pairQ tS;rw[gp,Ji,ov,ov,ov];omega
   have hrB:=Qrw nB;have hBq:QR k (rvr p.Av.B):=Qn3 (λf A=>Fk_wd (hp.s.b f A)) om;have N:=Qqk (c:=rvr p.Av.B) hn h0 om V hY hBq y1 om (by rw[Qel];omega) z1 om;rw[hrB] at N;have C:=Qq1 hY V hBq y1 om h0;have hfl:=Qiv (H:=H) (Y:=Y) (c:=rvr p.Av.B) z1;have d:=Qcl (lim:=lim) hn (show 22*k<274877906944 by omega) C om;have eB:rv (tS p.Av).B=rvr p.Av.B:=Qek _;have eBl:((tS p.Av).B.length:Int)=(p.Av.B.length:Int):=by unfold tS;simp
   unfold endQ;rw[eB,eBl,N,sbind,d,sbind];cases A:fitQ lim (fromQ H Y (rvr p.Av.B) z.2) 0 with
   | some j=>
     have hj:=Qj1 A;simp only[];rw[Kf,ol om,bifT,w64 om om];rfl
   | none=>
     simp only[];rw[Kf,oo om,bifF,jn_eq];by_cases U:p.Av.E=[]
     have hg:=(Jgi w).2 U;rw[U,oq hg];have h00:=Qcl (k:=1) (l:=[]) (lim:=lim) hn oz (λ_ h=>by cases h) oc;have Z:J0 n [] lim=some 0:=h00;rw[oo oc,bifF];simp only[];rw[Z,sbind,oo oc,bifF];rfl;have hg:gapQ (tS p.Av)≠[]:=λh=>U ((Jgi w).1 h);have hEl:p.Av.E.length≠0:=λh=>U (xx h);have hgapl:(gapQ (tS p.Av)).length=p.Av.B.length:=by
      have eE:(tS p.Av).E=p.Av.E.map tF:=rfl;have eB2:(tS p.Av).B=p.Av.B.map tF:=rfl;unfold gapQ;rw[oj (by rw[eE];simpa using U),Zl,W6,Ji,Ji,eE,eB2];simp;omega
     have hgq:QR (2*k+2) (gapQ (tS p.Av)):=by
      have hs:SchW k (tS p.Av):=⟨λr hr=>by
       have eA:(tS p.Av).A=p.Av.A.map (·.map tF):=rfl;rw[eA] at hr;obtain⟨l,hl',rfl⟩:=xz.1 hr;intro x G;obtain⟨f,u,rfl⟩:=xz.1 G;exact hp.s.a l hl' f u,λx G=>by
       obtain⟨f,u,rfl⟩:=xz.1 G;exact hp.s.b f u,λx G=>by
       obtain⟨f,u,rfl⟩:=xz.1 G;exact hp.s.c f u,λx G=>by
       obtain⟨f,u,rfl⟩:=xz.1 G;exact hp.s.e f u,by
       have:=hp.s.nl;show p.Av.Bb.length<=_
       omega⟩
      exact Jc9 om hs
     have hGap:=Q81 hn (show 1<=k by omega) om hp.s nB nE om g2 U;have hF2:=Qqk (k:=2*k+2) (Y:=List.replicate Y.length 0) (c:=gapQ (tS p.Av)) hn om om (show qw H<=2*k+2 by omega) (Jb (Qmb _) om) hgq y1 om om (by simpa using z1) oh;have e0:fromQ H (List.replicate Y.length 0) (gapQ (tS p.Av)) z.2=towQ H Y.length (gapQ (tS p.Av)) z.2:=by
      unfold fromQ;rw[yt,Jah (Qq2 z1)]
     rw[e0] at hF2;have htl:=Qq2 (H:=H) (c:=gapQ (tS p.Av)) z1;have htb:=Qtd (m:=Y.length) (show qw H<=2*k+2 by omega) hgq y1 om om;have hRow2:=Qcl (lim:=lim) hn (show 20*(2*k+2)<274877906944 by omega) htb om;rw[oj hg,ol (show(0:Int)<(p.Av.E.length:Int) by omega),bifT,Kf Y,Qii hn om,sbind,hGap,sbind,hF2,sbind];simp only[];rw[hRow2,sbind];cases hf2:fitQ lim (towQ H Y.length (gapQ (tS p.Av)) z.2) 0 with
     | some j=>
       have hj:=Qj1 hf2;simp only[];rw[Kf,ol om,bifT,w64 (x:=300+(j:Int)) om om,w1 om];rfl
     | none=>
       simp only[];rw[Kf,oo om,bifF];rfl
theorem Jks{a:Rat}{m:Nat}(h:a≠0):a ^ (-((m:Nat):Int)) / a=a⁻¹ ^ (m+1):=by
 rw[Rat.zpow_neg,dl,db,jk];congr 1
 induction m with
 | zero=>rw[jj,jj];grind
 | succ m d=>rw[jk,jk,<-d];grind
theorem Q4v{n k:Nat}{a:Rat}{b:Int}(hn:big<=n)(hk:k<1048576)(f:qw a<=k)(hb:-8<=b/\b<=8)(h0:¬(b<0/\a=0)):
 Qan n (rF a) b=some (rF ((b:Rat)*turnQ a (a ^ b) b))/\qw ((b:Rat)*turnQ a (a ^ b) b)<=9*k+2:=by
 have v:=Q5z a;have u:=Q38 (z:=b) om
 have bnd:∀ m:Nat,m<=9->∀ q:Rat,qw q<=k->qw ((b:Rat)*q ^ m)<=9*k+2:=λm j q s=>by have r:=Q50 s m;have w:m*k<=9*k:=xh _ j;have:=X0 u r;omega
 unfold Qan;simp only[jn_eq,bifd];rw[Qqi hn om om,sbind];by_cases hp:0<b;obtain⟨m,j⟩:∃ m:Nat,b=((m+1:Nat):Int):=⟨(b - 1).toNat,om⟩
 have e:turnQ a (a ^ b) b=a ^ m:=by unfold turnQ;rw[oq hp,show b - 1=(m:Int) by omega,dl]
 rw[e];refine⟨?_,bnd m om a f⟩;rw[Wr (λi=>(rF ((b:Rat)*a ^ i),((i+1:Nat):Int))) m (rF ((b:Rat)*a ^ m))];rw[Wr (λ_=>(rF ((b:Rat)*a ^ m),(1:Int))) 0 (rF ((b:Rat)*a ^ m)) (λi hi=>absurd hi (ww _)) (by simp only[];rw[oj om,bifF]) (by unfold big at hn;omega) rfl];intro i hi;simp only[];rw[oq om,Qah (k:=9*k+2) hn om (bnd i om _ f) om,sbind,w1 om,Rat.mul_assoc,<-jk];simp only[];rw[oj om];unfold big at hn;omega;rw[jj,Rat.mul_one];rfl;rw[Wr (λ_=>(rF (b:Rat),(1:Int))) 0 (rF (b:Rat)) (λi hi=>absurd hi (ww _)) (by simp only[];rw[oj om]) (by unfold big at hn;omega) rfl];by_cases t:b=0;subst t;have e:((0:Int):Rat)*turnQ a (a ^ (0:Int)) 0=((0:Int):Rat):=by rw[show((0:Int):Rat)=0 from rfl,Rat.zero_mul]
 rw[e];refine⟨?_,by rw[show((0:Int):Rat)=0 from rfl,Zo];omega⟩;rw[Wr (λ_=>(rF ((0:Int):Rat),(1:Int))) 0 (rF ((0:Int):Rat)) (λi hi=>absurd hi (ww _)) (by simp only[];rw[oq oz,oj oz]) (by unfold big at hn;omega) rfl];have d:b<0:=om
 have l:a≠0:=λg=>h0 ⟨d,g⟩;obtain⟨m,j⟩:∃ m:Nat,b=-((m:Nat):Int):=⟨b.natAbs,om⟩
 have e:turnQ a (a ^ b) b=a⁻¹ ^ (m+1):=by unfold turnQ;rw[oj hp,oq d,j,Jks l]
 rw[e];refine⟨?_,bnd (m+1) om _ (Q1f f)⟩;rw[Wr (λi=>(rF ((b:Rat)*a⁻¹ ^ i),1 - (i:Int))) (m+1) (rF ((b:Rat)*a⁻¹ ^ (m+1)))];intro i hi;simp only[];rw[oq om,oq d,Qmv (k:=9*k+2) hn om (bnd i om _ (Q1f f)) om,sbind,w64 om om];have p:(b:Rat)*a⁻¹ ^ i / a=(b:Rat)*a⁻¹ ^ (i+1):=by rw[<-Jac];grind
 rw[p];congr 3;omega;simp only[];rw[oj om,bifF];unfold big at hn;omega;rw[jj,Rat.mul_one];rfl
set_option maxRecDepth 100000
theorem Jee{p:Qu}{T H:Rat}{Y:List Rat}(hr:prbR (tP p))(a:(Y.length:Int)=p.Tape.A0):stepQ (tP p) T H Y=doQ (tT p.Tape) (tS p.Av) (limQ p.Ay) T H Y (rvr p.P):=by unfold stepQ;rw[oq ⟨hr,a⟩,show rv (tP p).P=rvr p.P from Qek p.P];rfl
theorem Jmm{a b k:Nat}{p:Qu}(y:Yh p)(hk:k<=129)(B:a<=1000000)(hb:b<=1000000)
 (h:(p.Tape.Code.length<=a/\p.Tape.Az.length<=a/\∀ c∈p.Tape.Code,c.N.N.length<=k/\c.N.D.length<=k)/\(p.Av.Bb.length<=50/\p.Av.A.length<=b/\FL b 4 p.Av.B/\FL b 4 p.Av.C/\FL b 4 p.Av.E/\∀ r∈p.Av.A,FL b 4 r)/\FL 6 k p.P) :
 PrbWr 129 p:=by
 obtain⟨t,d,bp,_⟩:=y;obtain⟨⟨E,F,t3⟩,⟨s1,C,i,n,q,s⟩,g⟩:=h;have mk:∀ {m j:Nat}{l:List Qb},Ka l->FL m j l->j<=129->FKs 129 l:=λu v w f A=>Wg (FR_tF u v (tF f) (vf A)) w;refine⟨λx e=>Wg (Fk_tF (t.1.2 x e).2.2.2.1 (t3 x e)) hk,om,⟨λr hr=>mk (d.2.2.1.2 r hr) (s r hr) om,λr hr=>by have:=(s r hr).1;omega,mk d.2.2.2.1 i om,by have:=i.1;omega,mk d.2.1 n om,by have:=n.1;omega,mk d.2.2.2.2.1 q om,by have:=q.1;omega,om⟩,mk bp g hk,by have:=g.1;omega⟩
theorem Jof{t:Qm}{lim:Int}{T H:Rat}{Y P a:List Rat}{c:Rat}{i:Nat}{kss:List (List Rat)}{f}(h:stageQ t lim T H Y P a c i kss=.inl f):(f.Ax=3\/f.Ax=6)/\f.Ba=0:=by
 unfold stageQ at h;split at h;cases h;exact⟨.inr rfl,rfl⟩;cases d:fieldQ t lim (T+H*c) (fromQ H Y a kss) P with
 | inl e=>rw[d] at h;cases h;exact⟨Qwo d,rfl⟩
 | inr k=>rw[d] at h;cases h
theorem Jef{t:Qm}{lim:Int}{T H:Rat}{Y P:List Rat}:∀ {r:List (List Rat×Rat)}{i:Nat}{yss kss:List (List Rat)}{f},stagesQ t lim T H Y P r i yss kss=.inl f->(f.Ax=3\/f.Ax=6)/\f.Ba=0
 | [],i,yss,kss,f,h=>by simp only[stagesQ] at h;cases h
 | x::r,i,yss,kss,f,h=>by
   simp only[stagesQ] at h;cases hs:stageQ t lim T H Y P x.1 x.2 i kss with
   | inl g=>rw[hs] at h;cases h;exact Jof hs
   | inr w=>rw[hs] at h;exact Jef h
theorem doQ_f{t:Qm}{s:Qw}{lim:Int}{T H:Rat}{Y P:List Rat}{f}(h:doQ t s lim T H Y P=.inl f):(f.Ax=3\/f.Ax=6)/\f.Ba=0:=by
 unfold doQ at h;cases a:stagesQ t lim T H Y P (List.zip (s.A.map rv) (rv s.C)) 0 [] [] with
 | inl g=>rw[a] at h;cases h;exact Jef a
 | inr z=>
   rw[a] at h;simp only[] at h;unfold endQ at h;split at h;cases h;exact⟨.inr rfl,rfl⟩;split at h;cases h;exact⟨.inr rfl,rfl⟩;cases h
set_option maxRecDepth 100000
def tTry(t:Jg):Q9:=⟨tF t.T,tF t.A1,tF t.H,tF t.A8,t.Y.map tF,t.Ok⟩
def tHis(h:Q2):Qt:=⟨h.Aw.map tTry,tF h.T,h.Y.map tF⟩
theorem Jbc{n:Nat}{h:Q2}(hn:big<=n)(f:h.Aw.length<=1000000)(d:h.Y.length<=1000000)(e:∀ t∈h.Aw,t.Y.length<=1000000):Qec n h=some (tHis h):=by unfold Qec Kw;rw[sbind,Z8 hn d,sbind];rw[Wr (λi=>((h.Aw.take i).map tTry,(i:Int))) h.Aw.length (h.Aw.map tTry)];rfl;intro i hi;have hp:h.Aw[i]?=some h.Aw[i]:=oi hi;have a:=e h.Aw[i] (xi hi);generalize h.Aw[i]=t at hp a;rw[ol (show(i:Int)<(h.Aw.length:Int) by omega),bifT,Q7 hp,sbind,sbind,sbind,sbind,sbind,Z8 hn a,sbind,J5 oh oh,sbind,w1 om,Qdi tTry hp];rfl;rw[oo om,bifF,xc];unfold big at hn;omega;rfl
def SmaT(t:Jg):Prop:=FL 4 2 [t.T,t.A1,t.H,t.A8]/\FL 8 2 t.Y
theorem Jmt{n:Nat}{h:Q2}(hn:big<=n):∃ v,Z2 n h 3 2=some v/\(v=false->h.Aw.length<=3/\(h.T.N.length<=2/\h.T.D.length<=2)/\FL 8 2 h.Y/\∀ t∈h.Aw,SmaT t):=by
 unfold Z2 Yl;simp only[jn_eq,bifd];by_cases C:(3:Int)<(h.Aw.length:Int)
 . rw[oq C];exact⟨true,rfl,λh=>by cases h⟩
 have B:=Qie h.T 2;rw[show((2:Nat):Int)=2 from rfl] at B;rw[oj C,B,sbind];by_cases q:h.T.N.length<=2/\h.T.D.length<=2
 case neg=>rw[oo q];exact⟨true,rfl,λh=>by cases h⟩
 rw[ol q,ou,bifF];have m:∀ l,∃ v,Q3 n l 4 2=some v/\(v=false->FL 4 2 l):=λl=>Xi (many:=4) (k:=2) hn oz;have j:∀ l,∃ v,Q3 n l 8 2=some v/\(v=false->FL 8 2 l):=λl=>Xi (many:=8) (k:=2) hn oz;obtain⟨v,g1,F⟩:=j h.Y;rw[g1,sbind];cases v
 case true=>exact⟨true,rfl,λh=>by cases h⟩
 rw[bifF]
 have G:=Qoi (f:=λ(a:Int)=>
  if a<(h.Aw.length:Int) then (
   (getI h.Aw a).bind λe=>
   (some ([e.T,e.A1,e.H,e.A8]:List Qb)).bind λu=>
   (Q3 n u 4 2).bind λx=>
   bif x then (bif true then some (Lp.out (Lp.out true)) else some (Lp.go (wrap64 (a+(1:Int)))))
   else (
    (getI h.Aw a).bind λA=>
    (Q3 n A.Y 8 2).bind λy=>
    bif y then some (Lp.out (Lp.out true)) else some (Lp.go (wrap64 (a+(1:Int))))))
  else (
   some (Lp.out (Lp.go ())))) (n:=n) (K:=λ(_:Unit)=>some false) (r:=true) (λi=>∀ t,h.Aw[i]?=some t->Q3 n [t.T,t.A1,t.H,t.A8] 4 2=some false/\Q3 n t.Y 8 2=some false) h.Aw.length (λi hi=>by
  have hp:h.Aw[i]?=some h.Aw[i]:=oi hi;generalize h.Aw[i]=t at hp;obtain⟨v,k1,k2⟩:=m [t.T,t.A1,t.H,t.A8];obtain⟨w,p,E⟩:=j t.Y;rw[oq om,Q7 hp,sbind,sbind,k1,sbind,sbind,p,sbind];cases v
  . cases w
    . rw[bifF,bifF,w1 om]
      exact⟨λ_=>rfl,λg=>absurd (λd hd=>by rw[hp] at hd;cases hd;exact⟨k1,p⟩) g⟩
    . exact⟨λg=>(by have:=(g t hp).2;rw[p] at this;cases this),λ_=>rfl⟩
  . exact⟨λg=>(by have:=(g t hp).1;rw[k1] at this;cases this),λ_=>rfl⟩) (by rw[oj om]) (by unfold big at hn;omega)
 rw[G];by_cases s:∀ i,i<h.Aw.length->∀ t,h.Aw[i]?=some t->Q3 n [t.T,t.A1,t.H,t.A8] 4 2=some false/\Q3 n t.Y 8 2=some false
 . rw[oq s]
   refine⟨false,rfl,λ_=>⟨om,q,F rfl,λt H=>?_⟩⟩;obtain⟨i,hi⟩:=yg H;obtain⟨v,k1,k2⟩:=m [t.T,t.A1,t.H,t.A8];obtain⟨w,p,E⟩:=j t.Y;obtain⟨a1,a2⟩:=s i (Kc hi) t hi;rw[k1] at a1;rw[p] at a2;exact⟨k2 (Option.some.inj a1),E (Option.some.inj a2)⟩
 . rw[oj s];exact⟨true,rfl,λh=>by cases h⟩
def okR(l:List Jg):List Jg:=l.filter (·.Ok)
def FTr(k:Nat)(t:Jg):Prop:=FRr k [t.T,t.A1,t.H,t.A8]/\FRr k t.Y/\t.Y.length<=1000000
theorem Jeg(l:List Jg):(okR l).length<=l.length:=List.length_filter_le _ _
theorem Jog(l:List Jg):okT (l.map tTry)=(okR l).map tTry:=by unfold okT okR;rw[List.filter_map];rfl
theorem Jeh(l:List Jg)(x:Jg):okR (l++[x])=if x.Ok=true then okR l++[x] else okR l:=by have e:okR (l++[x])=okR l++okR [x]:=List.filter_append _ _;rw[e];cases a:x.Ok;rw[oj oz,show okR [x]=[] from by unfold okR;simp[a],uh];rw[oq rfl,show okR [x]=[x] from by unfold okR;simp[a]]
theorem Qur{n:Nat}{h:Q2}(hn:big<=n)(d:h.Aw.length<=1000000):Qao n h=some ((okR h.Aw).map (·.T)++[h.T],(okR h.Aw).map (·.Y)++[h.Y]):=by unfold Qao;have a:=Jeg h.Aw;rw[Wr (λi=>((okR (h.Aw.take i)).map (·.T),(okR (h.Aw.take i)).map (·.Y),(i:Int))) h.Aw.length ((okR h.Aw).map (·.T),(okR h.Aw).map (·.Y))];rw[J5 oh oh,sbind,J5 oh oh,sbind];intro i hi;have hp:h.Aw[i]?=some h.Aw[i]:=oi hi;generalize h.Aw[i]=t at hp;have a:=Jeg (h.Aw.take i);rw[xa] at a;simp only[jn_eq];rw[ol (show(i:Int)<(h.Aw.length:Int) by omega),bifT,Q7 hp,sbind,X4 hp,Jeh,w1 om];cases t.Ok;rw[bifF,oj oz];rw[bifT,oq rfl,sbind,J5 oh oh,sbind,sbind,J5 oh oh,sbind,xw,xw];rfl;rw[oo (show ¬(h.Aw.length:Int)<(h.Aw.length:Int) by omega),bifF,xc];unfold big at hn;omega;rfl
theorem Qus{n:Nat}{h:Q2}(hn:big<=n)(d:h.Aw.length<=1000000):Qap n h=some ((okR h.Aw).map (·.H)):=by unfold Qap;rw[Wr (λi=>((okR (h.Aw.take i)).map (·.H),(i:Int))) h.Aw.length ((okR h.Aw).map (·.H))];intro i hi;have hp:h.Aw[i]?=some h.Aw[i]:=oi hi;generalize h.Aw[i]=t at hp;have a:=Jeg (h.Aw.take i);rw[xa] at a;simp only[jn_eq];rw[ol (show(i:Int)<(h.Aw.length:Int) by omega),bifT,Q7 hp,sbind,X4 hp,Jeh,w1 om];cases t.Ok;rw[bifF,oj oz];rw[bifT,oq rfl,sbind,J5 oh oh,sbind,xw];rfl;rw[oo om,bifF,xc];unfold big at hn;omega;rfl
set_option maxRecDepth 100000
def SmaK(k:Nat)(t:Jg):Prop:=FL 4 k [t.T,t.A1,t.H,t.A8]/\FL 8 k t.Y
theorem Q4w{n a k:Nat}{h:Q2}(hn:big<=n)(J:a<=1000)(_:k<=1000):∃ v,Z2 n h (a:Int) (k:Int)=some v/\(v=false->h.Aw.length<=a/\(h.T.N.length<=k/\h.T.D.length<=k)/\FL 8 k h.Y/\∀ t∈h.Aw,SmaK k t):=by
 unfold Z2 Yl;simp only[jn_eq,bifd];by_cases C:(a:Int)<(h.Aw.length:Int)
 . rw[oq C];exact⟨true,rfl,λh=>by cases h⟩
 have F:=Qie h.T k;rw[oj C,F,sbind];by_cases s:h.T.N.length<=k/\h.T.D.length<=k
 case neg=>rw[oo s];exact⟨true,rfl,λh=>by cases h⟩
 rw[ol s,ou,bifF];have p:∀ l,∃ v,Q3 n l 4 (k:Int)=some v/\(v=false->FL 4 k l):=λl=>Xi (many:=4) (k:=k) hn oz;have m:∀ l,∃ v,Q3 n l 8 (k:Int)=some v/\(v=false->FL 8 k l):=λl=>Xi (many:=8) (k:=k) hn oz;obtain⟨v,g1,G⟩:=m h.Y;rw[g1,sbind];cases v
 case true=>exact⟨true,rfl,λh=>by cases h⟩
 rw[bifF]
 have H:=Qoi (f:=λ(e:Int)=>
  if e<(h.Aw.length:Int) then (
   (getI h.Aw e).bind λj=>
   (some ([j.T,j.A1,j.H,j.A8]:List Qb)).bind λx=>
   (Q3 n x 4 (k:Int)).bind λy=>
   bif y then (bif true then some (Lp.out (Lp.out true)) else some (Lp.go (wrap64 (e+(1:Int)))))
   else (
    (getI h.Aw e).bind λB=>
    (Q3 n B.Y 8 (k:Int)).bind λA=>
    bif A then some (Lp.out (Lp.out true)) else some (Lp.go (wrap64 (e+(1:Int))))))
  else (
   some (Lp.out (Lp.go ())))) (n:=n) (K:=λ(_:Unit)=>some false) (r:=true) (λi=>∀ t,h.Aw[i]?=some t->Q3 n [t.T,t.A1,t.H,t.A8] 4 (k:Int)=some false/\Q3 n t.Y 8 (k:Int)=some false) h.Aw.length (λi hi=>by
  have hp:h.Aw[i]?=some h.Aw[i]:=oi hi;generalize h.Aw[i]=t at hp;obtain⟨v,k1,k2⟩:=p [t.T,t.A1,t.H,t.A8];obtain⟨w,q,E⟩:=m t.Y;rw[oq om,Q7 hp,sbind,sbind,k1,sbind,sbind,q,sbind];cases v
  . cases w
    . rw[bifF,bifF,w1 om]
      exact⟨λ_=>rfl,λg=>absurd (λd hd=>by rw[hp] at hd;cases hd;exact⟨k1,q⟩) g⟩
    . exact⟨λg=>(by have:=(g t hp).2;rw[q] at this;cases this),λ_=>rfl⟩
  . exact⟨λg=>(by have:=(g t hp).1;rw[k1] at this;cases this),λ_=>rfl⟩) (by rw[oj om]) (by unfold big at hn;omega)
 rw[H];by_cases u:∀ i,i<h.Aw.length->∀ t,h.Aw[i]?=some t->Q3 n [t.T,t.A1,t.H,t.A8] 4 (k:Int)=some false/\Q3 n t.Y 8 (k:Int)=some false
 . rw[oq u]
   refine⟨false,rfl,λ_=>⟨om,s,G rfl,λt I=>?_⟩⟩;obtain⟨i,hi⟩:=yg I;obtain⟨v,k1,k2⟩:=p [t.T,t.A1,t.H,t.A8];obtain⟨w,q,E⟩:=m t.Y;obtain⟨a1,a2⟩:=u i (Kc hi) t hi;rw[k1] at a1;rw[q] at a2;exact⟨k2 (Option.some.inj a1),E (Option.some.inj a2)⟩
 . rw[oj u];exact⟨true,rfl,λh=>by cases h⟩
theorem Jmn{k:Nat}{t:Jg}(m:Qjl t)(h:SmaK k t):FT k (tTry t):=by obtain⟨e,f,g,i,j,_⟩:=m;obtain⟨s1,d⟩:=h;have g1:=s1.2 t.T oc;have l:=s1.2 t.A1 oc;have g3:=s1.2 t.H oc;have g4:=s1.2 t.A8 oc;have yl:=d.1;refine⟨λx a=>?_,FR_tF j d,by show(t.Y.map tF).length<=_;rw[ov];omega⟩;rcases xu.1 a with rfl | a;exact Fk_tF e g1;rcases xu.1 a with rfl | a;exact Fk_tF f l;rcases xu.1 a with rfl | a;exact Fk_tF g g3;rw[xk.1 a];exact Fk_tF i g4
set_option maxRecDepth 100000
theorem Jgj{j k:Nat}{t:Q9}(h:FT j t)(hk:j<=k):FT k t:=⟨Vf h.1 hk,Vf h.2.1 hk,h.2.2⟩
set_option maxRecDepth 100000
theorem Q6z{n:Nat}{p:Qu}{h:Q2}(hn:big<=n):∃ v,Qc8 n p h=some v/\(v=false->((p.Tape.Code.length<=10/\p.Tape.Az.length<=10/\∀ c∈p.Tape.Code,c.N.N.length<=2/\c.N.D.length<=2)/\(p.Av.Bb.length<=50/\p.Av.A.length<=4/\FL 4 4 p.Av.B/\FL 4 4 p.Av.C/\FL 4 4 p.Av.E/\∀ r∈p.Av.A,FL 4 4 r)/\FL 6 2 p.P)/\p.Ay<=400/\h.Aw.length<=5/\(h.T.N.length<=6/\h.T.D.length<=6)/\FL 8 6 h.Y/\∀ t∈h.Aw,SmaK 6 t):=by
 unfold Qc8;simp only[jn_eq];obtain⟨v,f,i⟩:=Qqc (p:=p) (a:=10) (b:=4) (k:=2) hn oz oz;rw[show((10:Nat):Int)=10 from rfl,show((4:Nat):Int)=4 from rfl,show((2:Nat):Int)=2 from rfl] at f;rw[f,sbind];cases v
 case true=>exact⟨true,rfl,λh=>by cases h⟩
 rw[bifF];by_cases c1:(3:Int)<(p.Av.B.length:Int)
 . rw[ol c1];exact⟨true,rfl,λh=>by cases h⟩
 rw[oo c1,bifF];by_cases d:(400:Int)<p.Ay
 . rw[ol d];exact⟨true,rfl,λh=>by cases h⟩
 rw[oo d,bifF];obtain⟨v,g,j⟩:=Q4w (a:=5) (k:=6) (h:=h) hn oz oz;rw[show((5:Nat):Int)=5 from rfl,show((6:Nat):Int)=6 from rfl] at g;rw[g,sbind];cases v
 case true=>exact⟨true,rfl,λh=>by cases h⟩
 obtain⟨g1,l,g3,g4⟩:=j rfl;rw[bifF];by_cases e:(4:Int)<(h.Y.length:Int)
 . rw[ol e];exact⟨true,rfl,λh=>by cases h⟩
 rw[oo e,bifF,Qus hn om,sbind];exact⟨_,rfl,λ_=>⟨i rfl,om,g1,l,g3,g4⟩⟩
end Go.Proofs.YtbdgngdpkdagoaaGreatDoor
