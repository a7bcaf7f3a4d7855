import Derived.Test.YtlfphifbmoccgaaGreatDoorLibM
import Derived.Test.YtlfphifbmoccgaaGreatDoorMod
import Derived.Test.YtlfphifbmoccgaaGreatDoorModc
import Derived.Test.YtlfphifbmoccgaaGreatDoorP1
import Derived.Test.YtlfphifbmoccgaaGreatDoorP2
namespace Go.Proofs.YtlfphifbmoccgaaGreatDoor
open Go Go.RowKit
theorem Q7g{σ τ R β:Type}{f:σ->Option (Lp σ τ)}{n:Nat}{s:σ}{k:τ->Option R}{g:β->R}{P:β->Prop}(μ:σ->Nat)(I:σ->Prop)(Q:τ->Prop)(h0:I s)(hn:μ s<n)
 (hb:∀ s,I s->(∃ s',f s=some (.go s')∧I s'∧μ s'<μ s)∨(∃ t,f s=some (.out t)∧Q t)) (hk:∀ t,Q t->∃ b,k t=some (g b)∧P b):∃ b,(loopM f n s).bind k=some (g b)∧P b:=by
 obtain⟨t,h1,h2⟩:=Qsp μ I Q hb n s h0 hn;rw[h1,Option.bind_some];exact hk t h2
theorem Q4q{a:List Nat}(h:Wd a):Wd (trimZ a):=by rw[←Kh h];exact Je _
theorem Xk{n:Nat}{a:List Nat}(hn:big≤n)(ha:a.length≤35184372088832):Ka n a=some (trimZ a):=by
 have h:=Xz hn (show a.length≤4611686018427387904 by omega);have hl:=Yw a;unfold Ka;unfold Yi at h
 cases hk:loopM (λ(s19:Int)=>
  jn (λ(j22:(Bool)->Option _)=>
   bif decide ((0:Int)<s19) then (
    (getI a (wrap64 (s19 - (1:Int)))).bind λy25=>
    j22 (decide (y25=0)))
   else (
    j22 false)) (λ(s24:Bool)=>
   bif s24 then (
    some (Lp.go (wrap64 (s19 - (1:Int)))))
   else (
    some (Lp.out s19)))) n (a.length:Int) with
 | none=>rw[hk] at h;cases h
 | some t=>
   rw[hk] at h;rw[sbind] at h ⊢;cases hs:sub a (0:Int) t with
   | none=>rw[hs] at h;cases h
   | some b=>
     rw[hs,sbind] at h;rw[sbind];obtain rfl:b=trimZ a:=by simpa using h
     rw[Wr (by simp;omega) (by simp;omega),sbind,List.nil_append]
theorem Qqn{n:Nat}{a b:List Nat}(hn:big≤n)(ha:a.length≤4611686018427387904):Zl n a b=some (decide (a=b)):=by unfold Zl;unfold big at hn;rw[bifnd];by_cases hl:a.length=b.length;rw[if_pos (by omega)];refine Qac (λs=>a.length - s.toNat) (λs=>∃ k:Nat,s=k∧k≤a.length∧a.take k=b.take k) (λt=>(t=.go ()∧a=b)∨(t=.out false∧a≠b)) ⟨0,rfl,Nat.zero_le _,by simp⟩ (by omega) ?_ ?_;rintro s ⟨k,rfl,hk,ht⟩;simp only[bifd,bifnd];by_cases h:k<a.length;rw[if_pos (by omega),Qau h,sbind,Qau (show k<b.length by omega),sbind];by_cases e:a[k]=b[k];left;rw[if_pos e,w64 (by omega) (by omega)];refine⟨_,rfl,⟨k+1,by omega,by omega,?_⟩,by omega⟩;rw[Vl h,Vl (show k<b.length by omega),ht,e];right;rw[if_neg e];exact⟨_,rfl,.inr ⟨rfl,λh=>e (by simp[h])⟩⟩;right;rw[if_neg (by omega)];refine⟨_,rfl,.inl ⟨rfl,?_⟩⟩;rw[List.take_of_length_le (by omega),List.take_of_length_le (by omega)] at ht;exact ht;rintro t (⟨rfl,h⟩ | ⟨rfl,h⟩);rw[Yv];simp[h];rw[Qkq];simp[h];rw[if_neg (by omega)];have:a≠b:=λh=>hl (by rw[h]);simp[this]
theorem Qc1{a:List Nat}{k:Nat}:V6 a (k:Int)=some (a.getD k 0):=by unfold V6;rw[bifd];by_cases h:k<a.length;rw[if_pos (by omega),Qau h,sbind];simp[h];rw[if_neg (by omega)];simp[List.getElem?_eq_none (show a.length≤k by omega)]
theorem Jaw(P s x y u v V A C:Nat)(e:4294967296*u+v=s+(x+y))(h:V+P*s=A+C):V+P*v+P*4294967296*u=A+P*x+(C+P*y):=by grind
theorem Q7h(P Q s o av bv:Nat)(_:Nat)(h7:o+P*s=av+bv)(ha:av<Q)(hb:bv<Q)(h5:P=Q*4294967296):s=0:=by rcases Nat.eq_zero_or_pos s with h | h;exact h;exfalso;have g6:P*1≤P*s:=Nat.mul_le_mul_left _ h;omega
theorem Qr2{n:Nat}{a b:List Nat}(hn:big≤n)(ha:a.length<17592186044416)(hb:b.length<17592186044416)(hwa:Wd a)(hwb:Wd b):Zx n a b=some (toL (val a+val b)):=by
 unfold Zx;unfold big at hn;obtain⟨l,hl⟩:∃ l:Nat,l=max a.length b.length:=⟨_,rfl⟩
 have hmax:max (a.length:Int) (b.length:Int)=(l:Int):=by omega
 have hla:a.length≤l:=by omega
 have hlb:b.length≤l:=by omega
 have hll:l<17592186044416:=by omega
 rw[hmax,w64 (by omega) (by omega),show((l:Int)+1)=((l+1:Nat):Int) by omega,Qdt (by omega) (by omega),sbind]
 refine Qac (λs=>(l+1) - s.2.2.toNat) (λs=>∃(k:Nat) (o:List Nat),s.2.2=k∧k≤l+1∧s.1=o++List.replicate (l+1 - k) 0∧o.length=k∧Wd o∧s.2.1<4294967296∧val o+bp k*s.2.1=val (a.take k)+val (b.take k))
  (λt=>t.length=l+1∧Wd t∧val t=val a+val b) ⟨0,[],rfl,by omega,by simp,rfl,V0,by simp,by simp[val,Zp]⟩ (by simp only[];omega) ?_ ?_
 rintro⟨q,s,i⟩ ⟨k,o,h1,h2,h3,h4,h5,h6,h7⟩;simp only at h1 h3 h6 h7;subst h1 h3;simp only[sbind,bifd];by_cases hk:k<l+1;left;have hx:=Qiz hwa k;have hy:=Qiz hwb k;rw[if_pos (by omega),Qc1,sbind,Qc1,sbind];obtain⟨j,hj⟩:∃ j,l+1 - k=j+1:=⟨l - k,by omega⟩
 rw[hj,List.replicate_succ,Vo h4,sbind,Xx h4,w64 (by omega) (by omega)];rw[Nat.mod_eq_of_lt (show a.getD k 0+b.getD k 0<18446744073709551616 by omega),Nat.mod_eq_of_lt (show s+(a.getD k 0+b.getD k 0)<18446744073709551616 by omega),Nat.mod_mod];refine⟨_,rfl,⟨k+1,o++[(s+(a.getD k 0+b.getD k 0))%4294967296],by simp only[];omega,by omega,?_,by simp[h4],Kc.2 ⟨h5,Kg.2 ⟨by omega,V0⟩⟩,by simp only[];omega,?_⟩,by simp only[];omega⟩;simp only[];rw[show l+1 - (k+1)=j by omega];simp;simp only[];rw[Xj,Xj,Kw,h4,Vu];exact Jaw _ _ _ _ _ _ _ _ _ (Nat.div_add_mod (s+(a.getD k 0+b.getD k 0)) 4294967296) h7;right;obtain rfl:k=l+1:=by omega
 rw[if_neg (by omega)];refine⟨_,rfl,by simp[h4],by simpa using h5,?_⟩;rw[List.take_of_length_le (by omega),List.take_of_length_le (by omega)] at h7;have h8:s=0:=by have g1:=Xv hwa;have g2:=Xv hwb;have g3:bp a.length≤bp l:=bp_le hla;have g4:bp b.length≤bp l:=bp_le hlb;have g5:bp (l+1)=bp l*4294967296:=Vu _;exact Q7h _ _ _ _ _ _ 0 h7 (Nat.lt_of_lt_of_le g1 g3) (Nat.lt_of_lt_of_le g2 g4) g5
 rw[h8,Nat.mul_zero,Nat.add_zero] at h7
 simpa using h7
 rintro t ⟨h1,h2,h3⟩;rw[Xk (by unfold big;exact hn) (by omega),sbind,←Kh h2,h3]
theorem Jax(P x y m cy u v V M A:Nat)(e:4294967296*u+v=cy+(x*y+m))(h6:V+P*cy=M+x*A):V+P*v+P*4294967296*u=M+P*m+x*(A+P*y):=by grind
theorem Jb9(P Q A x b O R c p _ M z:Nat)(h1:O=p+P*M)(h2:R+Q*c=M+x*b)(h3:O=A*b)(h4:z=p+P*(R+Q*c)):z=(A+P*x)*b:=by grind
theorem Qdn{n:Nat}{a b:List Nat}(hn:big≤n)(ha:a.length<17592186044416)(hb:b.length<17592186044416)(hwa:Wd a)(hwb:Wd b):We n a b=some (toL (val a*val b)):=by
 unfold We;unfold big at hn;rw[w64 (by omega) (by omega),show((a.length:Int)+(b.length:Int))=((a.length+b.length:Nat):Int) by omega,Qdt (by omega) (by omega),sbind]
 refine Qac (λs=>a.length - s.2.toNat) (λs=>∃(i:Nat) (o:List Nat),s.2=i∧i≤a.length∧s.1=o++List.replicate (a.length - i) 0∧o.length=i+b.length∧Wd o∧val o=val (a.take i)*val b)
  (λt=>t.length=a.length+b.length∧Wd t∧val t=val a*val b) ⟨0,List.replicate b.length 0,rfl,Nat.zero_le _,by simp only[Nat.sub_zero,List.replicate_append_replicate];rw[Nat.add_comm],by simp,Qlw (by omega),by rw[Qfh];simp[val]⟩ (by simp only[];omega) ?_ ?_
 rintro⟨q,i'⟩ ⟨i,o,h1,h2,h3,h4,h5,h6⟩;simp only at h1 h3;subst h1 h3;simp only[bifd];by_cases hi:i<a.length;left;have hxw:=Qad hwa hi;obtain⟨j,hj⟩:∃ j,a.length - i=j+1:=⟨a.length - i - 1,by omega⟩
 rw[if_pos (by omega),hj,List.replicate_succ];obtain⟨p,hp⟩:∃ p,p=o.take i:=⟨_,rfl⟩
 obtain⟨m,hm⟩:∃ m,m=o.drop i:=⟨_,rfl⟩
 have ho:o=p++m:=by rw[hp,hm,List.take_append_drop]
 have hpl:p.length=i:=by rw[hp,List.length_take];omega
 have hml:m.length=b.length:=by rw[hm,List.length_drop];omega
 have hwp:Wd p:=by rw[hp];exact Qok h5
 have hwm:Wd m:=by rw[hm];exact Qkr h5
 have hov:val o=val p+bp i*val m:=by rw[ho,Xn,hpl]
 rw[ho]
 refine Q7g (λs=>b.length - s.2.2.toNat) (λs=>∃(k:Nat) (m1:List Nat),s.2.2=k∧k≤b.length∧s.1=p++m1++(m.drop k++0::List.replicate j 0)∧m1.length=k∧Wd m1∧s.2.1<4294967296∧val m1+bp k*s.2.1=val (m.take k)+a[i]*val (b.take k))
  (λt=>∃ m1:List Nat,t.1=p++m1++0::List.replicate j 0∧m1.length=b.length∧Wd m1∧t.2<4294967296∧val m1+bp b.length*t.2=val m+a[i]*val b) ⟨0,[],rfl,Nat.zero_le _,by simp,rfl,V0,by simp,by simp[val]⟩ (by simp only[];omega) ?_ ?_
 rintro⟨q,cy,k'⟩ ⟨k,m1,g1,g2,g3,g4,g5,g6,g7⟩;simp only at g1 g3 g6 g7;subst g1 g3;simp only[];by_cases hk:k<b.length;left;have hyw:=Qad hwb hk;have hmk:k<m.length:=by omega
 have hmw:=Qad hwm hmk;have hmul:=Qsq hxw hyw hmw g6;rw[if_pos (by omega),Qau hi,sbind,Qau hk,sbind,w64 (x:=(i:Int)+(k:Int)) (by omega) (by omega),show((i:Int)+(k:Int))=((i+k:Nat):Int) by omega];rw[List.drop_eq_getElem_cons hmk,List.cons_append,Vo (by simp;omega),sbind,sbind,sbind,sbind,Xx (by simp;omega),sbind,w64 (by omega) (by omega)];rw[Nat.mod_eq_of_lt (show a[i]*b[k]<18446744073709551616 by omega),Nat.mod_eq_of_lt (show a[i]*b[k]+m[k]<18446744073709551616 by omega),Nat.mod_eq_of_lt (show cy+(a[i]*b[k]+m[k])<18446744073709551616 by omega),Nat.mod_mod];refine⟨_,rfl,⟨k+1,m1++[(cy+(a[i]*b[k]+m[k]))%4294967296],by simp only[];omega,by omega,by simp,by simp[g4],Kc.2 ⟨g5,Kg.2 ⟨by omega,V0⟩⟩,by simp only[];omega,?_⟩,by simp only[];omega⟩;simp only[];rw[Vl hmk,Vl hk,Kw,Kw,Kw,g4,List.length_take,List.length_take,Nat.min_eq_left (by omega),Nat.min_eq_left (by omega),Vu];exact Jax _ _ _ _ _ _ _ _ _ _ (Nat.div_add_mod (cy+(a[i]*b[k]+m[k])) 4294967296) g7;right;obtain rfl:k=b.length:=by omega
 rw[if_neg (by omega)];refine⟨_,rfl,m1,by simp only[];rw[List.drop_of_length_le (by omega)];simp,g4,g5,g6,?_⟩;rw[List.take_of_length_le (by omega),List.take_of_length_le (by omega)] at g7;exact g7;rintro⟨q,c⟩ ⟨m1,g1,g2,g3,g4,g5⟩;simp only at g1 g4 g5;subst g1;rw[w64 (x:=(i:Int)+(b.length:Int)) (by omega) (by omega),show((i:Int)+(b.length:Int))=((i+b.length:Nat):Int) by omega];simp only[];rw[Vo (by simp;omega),sbind,Xx (by simp;omega),sbind,w64 (by omega) (by omega),Nat.mod_eq_of_lt g4];refine⟨_,rfl,⟨i+1,p++m1++[c],by simp only[];omega,by omega,by simp only[];rw[show a.length - (i+1)=j by omega];simp,by simp[hpl,g2];omega,Kc.2 ⟨Kc.2 ⟨hwp,g3⟩,Kg.2 ⟨g4,V0⟩⟩,?_⟩,by simp only[];omega⟩;rw[List.append_assoc,Xn,Kw,hpl,g2,Vl hi,Kw,List.length_take,Nat.min_eq_left (by omega)];exact Jb9 _ _ _ _ _ _ _ _ _ 0 _ _ hov g5 h6 rfl;right;obtain rfl:i=a.length:=by omega
 rw[if_neg (by omega)];exact⟨_,rfl,by simp[h4],by simpa using h5,by simpa using h6⟩;rintro t ⟨h1,h2,h3⟩;rw[Xk (by unfold big;exact hn) (by omega),sbind,←Kh h2,h3]
def padL(l:Nat)(a:List Nat):List Nat:=a++List.replicate (l - a.length) 0
theorem Q4r{l:Nat}{a:List Nat}(h:a.length≤l):(padL l a).length=l:=by unfold padL;simp;omega
theorem Q4s(l:Nat)(a:List Nat):val (padL l a)=val a:=by unfold padL;rw[Xn,Qfh];simp
theorem Q54{l:Nat}{a:List Nat}(h:Wd a):Wd (padL l a):=Kc.2 ⟨h,Qlw (by omega)⟩
theorem Q4t{l:Nat}{a:List Nat}{j:Nat}(h:j<(padL l a).length):(padL l a)[j]=a.getD j 0:=by unfold padL at h ⊢;by_cases hj:j<a.length;rw[List.getElem_append_left hj];simp[hj];rw[List.getElem_append_right (by omega),List.getElem_replicate];simp[List.getElem?_eq_none (show a.length≤j by omega)]
theorem Qmr{n:Nat}{a b:List Nat}(hn:big≤n)(ha:a.length≤4611686018427387904)(hb:b.length≤4611686018427387904)(hwa:Wd a)(hwb:Wd b):Yr n a b=some (cmpI (val a) (val b)):=by
 unfold Yr;obtain⟨l,hl⟩:∃ l:Nat,l=max a.length b.length:=⟨_,rfl⟩
 have hmax:max (a.length:Int) (b.length:Int)=(l:Int):=by omega
 have la:=Q4r (l:=l) (a:=a) (by omega);have lb:=Q4r (l:=l) (a:=b) (by omega);have wa:=Q54 (l:=l) hwa;have wb:=Q54 (l:=l) hwb;have ga:∀ j (h:j<(padL l a).length),(padL l a)[j]=a.getD j 0:=λj h=>Q4t h;have gb:∀ j (h:j<(padL l b).length),(padL l b)[j]=b.getD j 0:=λj h=>Q4t h;rw[hmax,←Q4s l a,←Q4s l b];generalize padL l a=a' at *;generalize padL l b=b' at *;unfold big at hn;rw[w64 (by omega) (by omega)];refine Qac (λs=>(s+1).toNat) (λs=>∃ k:Nat,s=(k:Int) - 1∧k≤l∧a'.drop k=b'.drop k) (λt=>(t=.go ()∧a'=b')∨(t=.out (-1)∧val a'<val b')∨(t=.out 1∧val b'<val a')) ⟨l,rfl,Nat.le_refl _,by rw[List.drop_of_length_le (by omega),List.drop_of_length_le (by omega)]⟩ (by omega) ?_ ?_;rintro s ⟨k,rfl,hk,ht⟩;simp only[bifd];by_cases h0:0<k;obtain⟨j,rfl⟩:∃ j,k=j+1:=⟨k - 1,by omega⟩
 have hj:j<a'.length:=by omega
 have hj':j<b'.length:=by omega
 rw[if_pos (by omega),show((j+1:Nat):Int) - 1=(j:Nat) by omega,Qc1,sbind,Qc1,sbind,←ga j hj,←gb j hj'];by_cases g1:a'[j]<b'[j];right;rw[if_pos g1];exact⟨_,rfl,.inr (.inl ⟨rfl,Qvh wa hj hj' ht g1⟩)⟩;rw[if_neg g1];by_cases g2:b'[j]<a'[j];right;rw[if_pos g2];exact⟨_,rfl,.inr (.inr ⟨rfl,Qvh wb hj' hj ht.symm g2⟩)⟩;left;rw[if_neg g2,w64 (by omega) (by omega)];refine⟨_,rfl,⟨j,rfl,by omega,?_⟩,by omega⟩;rw[List.drop_eq_getElem_cons hj,List.drop_eq_getElem_cons hj',ht,show a'[j]=b'[j] by omega];right;obtain rfl:k=0:=by omega
 rw[if_neg (by omega)];exact⟨_,rfl,.inl ⟨rfl,by simpa using ht⟩⟩;rintro t (⟨rfl,h⟩ | ⟨rfl,h⟩ | ⟨rfl,h⟩);rw[Yv,h];simp[cmpI];rw[Qkq,cmpI,if_pos h];rw[Qkq,cmpI,if_neg (by omega),if_pos h]
theorem Q4u{x y c:Nat}(hx:x<4294967296)(hy:y<4294967296)(hc:c≤1):∃ d c',d<4294967296∧c'≤1∧d+y+c=x+4294967296*c' ∧
 ∀ {R:Type}(k:Nat×Nat->R),(if x<(y+c)%18446744073709551616 then k (1,(x+4294967296)%18446744073709551616) else k (0,x))=k (c',x+4294967296*c')∧(x+4294967296*c'+18446744073709551616 - (y+c)%18446744073709551616)%18446744073709551616%4294967296=d:=by
 rw[Nat.mod_eq_of_lt (show y+c<18446744073709551616 by omega)];by_cases h:x<y+c;exact⟨x+4294967296 - (y+c),1,by omega,by omega,by omega,λk=>⟨by rw[if_pos h,Nat.mod_eq_of_lt (by omega)],by omega⟩⟩;exact⟨x - (y+c),0,by omega,by omega,by omega,λk=>⟨by rw[if_neg h];rfl,by omega⟩⟩
theorem Q1l{P s o av bv:Nat}(h:o+bv=av+P*s)(hle:bv≤av)(ho:o<P):s=0:=by rcases Nat.eq_zero_or_pos s with h' | h';exact h';exfalso;have:P*1≤P*s:=Nat.mul_le_mul_left _ h';omega
theorem Qr3{n:Nat}{a b:List Nat}(hn:big≤n)(ha:a.length<17592186044416)(hb:b.length<17592186044416)(hwa:Wd a)(hwb:Wd b)(hle:val b≤val a):Xr n a b=some (toL (val a - val b)):=by
 unfold Xr;unfold big at hn;obtain⟨l,hl⟩:∃ l:Nat,l=max a.length b.length:=⟨_,rfl⟩
 have hmax:max (a.length:Int) (b.length:Int)=(l:Int):=by omega
 rw[hmax,Qdt (by omega) (by omega),sbind]
 refine Qac (λs=>l - s.2.2.toNat) (λs=>∃(k:Nat) (o:List Nat),s.2.2=k∧k≤l∧s.1=o++List.replicate (l - k) 0∧o.length=k∧Wd o∧s.2.1≤1∧val o+val (b.take k)=val (a.take k)+bp k*s.2.1)
  (λt=>t.length=l∧Wd t∧val t=val a - val b) ⟨0,[],rfl,by omega,by simp,rfl,V0,by simp,by simp[val,Zp]⟩ (by simp only[];omega) ?_ ?_
 rintro⟨q,s,i⟩ ⟨k,o,h1,h2,h3,h4,h5,h6,h7⟩;simp only at h1 h3 h6 h7;subst h1 h3;simp only[sbind,bifd,jn_eq];by_cases hk:k<l;left;have hx:=Qiz hwa k;have hy:=Qiz hwb k;obtain⟨d,c',g1,g2,g3,g4⟩:=Q4u hx hy h6;rw[if_pos (by omega),Qc1,sbind,Qc1,sbind];have g5:=(g4 (λs34:Nat×Nat=>(getI (o++List.replicate (l - k) 0) (k:Int)).bind λ_=>some (Lp.go (σ:=List Nat×Nat×Int) (τ:=List Nat) ((o++List.replicate (l - k) 0).set (Int.toNat (k:Int)) ((s34.2+18446744073709551616 - (b.getD k 0+s)%18446744073709551616)%18446744073709551616%4294967296),s34.1,wrap64 ((k:Int)+1))))).1;have g6:=(g4 (λ_=>())).2;rw[g5];simp only[];rw[g6];obtain⟨j,hj⟩:∃ j,l - k=j+1:=⟨l - k - 1,by omega⟩
 rw[hj,List.replicate_succ,Vo h4,sbind,Xx h4,w64 (by omega) (by omega)];refine⟨_,rfl,⟨k+1,o++[d],by simp only[];omega,by omega,?_,by simp[h4],Kc.2 ⟨h5,Kg.2 ⟨g1,V0⟩⟩,g2,?_⟩,by simp only[];omega⟩;simp only[];rw[show l - (k+1)=j by omega];simp;simp only[];rw[Xj,Xj,Kw,h4,Vu];exact Qw1 _ _ _ _ _ _ _ _ _ g3 h7;right;obtain rfl:k=l:=by omega
 rw[if_neg (by omega)];refine⟨_,rfl,by simp[h4],by simpa using h5,?_⟩;rw[List.take_of_length_le (by omega),List.take_of_length_le (by omega)] at h7;have h8:s=0:=Q1l h7 hle (by rw[←h4];exact Xv h5);rw[h8,Nat.mul_zero,Nat.add_zero] at h7;simp only[Nat.sub_self,List.replicate_zero,List.append_nil];omega;rintro t ⟨h1,h2,h3⟩;rw[Xk (by unfold big;exact hn) (by omega),sbind,←Kh h2,h3]
theorem Qkd{k l:Nat}(h:k<l):grd (winS (k:Int) l)=some ():=grd_t (by unfold winS;simp;omega)
theorem Qqo{n:Nat}{p a q b:List Nat}(hn:big≤n)(hl:p.length+a.length+q.length<17592186044416)(hb:b.length≤a.length)(hwa:Wd a)(hwb:Wd b)(hle:val b≤val a):
 ∃ r,Xe n (p++a++q) p.length a.length b=some (p++r++q)∧r.length=a.length∧Wd r∧val r=val a - val b:=by
 have key:∃ r,Xe n (p++a++q) p.length a.length b=some r∧∃ r',r=p++r'++q∧r'.length=a.length∧Wd r'∧val r'=val a - val b:=by
  unfold Xe;unfold big at hn
  refine Qew (λs=>a.length - s.2.2.toNat) (λs=>∃(k:Nat) (o:List Nat),s.2.2=k∧k≤a.length∧s.1=p++o++(a.drop k++q)∧o.length=k∧Wd o∧s.2.1≤1∧val o+val (b.take k)=val (a.take k)+bp k*s.2.1)
   (λt=>∃ o,t=p++o++q∧o.length=a.length∧Wd o∧val o=val a - val b) ⟨0,[],rfl,by omega,by simp,rfl,V0,by simp,by simp[val,Zp]⟩ (by simp only[];omega) ?_ ?_
  rintro⟨w,s,i⟩ ⟨k,o,h1,h2,h3,h4,h5,h6,h7⟩;simp only at h1 h3 h6 h7;subst h1 h3;simp only[sbind,bifd,jn_eq];by_cases hk:k<a.length;left;have hx:=Qad hwa hk;have hy:=Qiz hwb k;obtain⟨d,c',g1,g2,g3,g4⟩:=Q4u hx hy h6;rw[if_pos (by omega),Qkd hk,sbind,show((p.length:Int)+(k:Int))=((p.length+k:Nat):Int) by omega,List.drop_eq_getElem_cons hk,List.cons_append,Vo (by simp;omega),sbind,Qc1,sbind];have g5:=(g4 (λs38:Nat×Nat=>(getI (p++o++a[k]::(a.drop (k+1)++q)) ((p.length+k:Nat):Int)).bind λ_=>some (Lp.go (σ:=List Nat×Nat×Int) (τ:=List Nat) ((p++o++a[k]::(a.drop (k+1)++q)).set (Int.toNat ((p.length+k:Nat):Int)) ((s38.2+18446744073709551616 - (b.getD k 0+s)%18446744073709551616)%18446744073709551616%4294967296),s38.1,wrap64 ((k:Int)+1))))).1;have g6:=(g4 (λ_=>())).2;rw[Vo (by simp;omega)] at g5;simp only[sbind] at g5 ⊢;rw[g5,g6,Xx (by simp;omega),w64 (by omega) (by omega)];refine⟨_,rfl,⟨k+1,o++[d],by simp only[];omega,by omega,by simp,by simp[h4],Kc.2 ⟨h5,Kg.2 ⟨g1,V0⟩⟩,g2,?_⟩,by simp only[];omega⟩;simp only[];rw[Xj,Vl hk,Kw,Kw,List.length_take,Nat.min_eq_left (by omega),h4,Vu];exact Qw1 _ _ _ _ _ _ _ _ _ g3 h7;right;obtain rfl:k=a.length:=by omega
  rw[if_neg (by omega)];refine⟨_,rfl,o,by simp,h4,h5,?_⟩;rw[List.take_of_length_le (by omega),List.take_of_length_le (by omega)] at h7;have h8:s=0:=Q1l h7 hle (by rw[←h4];exact Xv h5);rw[h8,Nat.mul_zero,Nat.add_zero] at h7;omega;rintro t ⟨o,rfl,h1,h2,h3⟩;exact⟨_,rfl,o,rfl,h1,h2,h3⟩
 obtain⟨r,h1,r',h2,h3,h4,h5⟩:=key;exact⟨r',by rw[h1,h2],h3,h4,h5⟩
theorem Jay(P y c c' d V A m:Nat)(e:d+4294967296*c'=2*y+c)(h:V+P*c=2*A+m):V+P*d+P*4294967296*c'=2*(A+P*y)+m:=by grind
theorem Qnz{n:Nat}{a:List Nat}{b:Bool}(hn:big≤n)(hl:a.length<17592186044416)(hwa:Wd a):
 ∃ r c,Xm n a b=some r∧r.length=a.length∧Wd r∧val r+bp a.length*c=2*val a+b.toNat:=by
 have key:∃ r,Xm n a b=some r∧∃ c,r.length=a.length∧Wd r∧val r+bp a.length*c=2*val a+b.toNat:=by
  unfold Xm;unfold big at hn;have e:∀ k:Nat->Option (List Nat),jn (λ(j1:(Nat)->Option _)=>bif b then (j1 1) else (j1 0)) k=k b.toNat:=by intro k;cases b<;>rfl
  rw[e]
  refine Qew (λs=>a.length - s.2.2.toNat) (λs=>∃(k:Nat) (o:List Nat),s.2.2=k∧k≤a.length∧s.1=o++a.drop k∧o.length=k∧Wd o∧s.2.1≤1∧val o+bp k*s.2.1=2*val (a.take k)+b.toNat)
   (λt=>∃ c,t.length=a.length∧Wd t∧val t+bp a.length*c=2*val a+b.toNat) ⟨0,[],rfl,by omega,by simp,rfl,V0,by simp only[];cases b<;>decide,by simp[val,Zp]⟩ (by simp only[];omega) ?_ ?_
  rintro⟨w,s,i⟩ ⟨k,o,h1,h2,h3,h4,h5,h6,h7⟩;simp only at h1 h3 h6 h7;subst h1 h3;simp only[sbind,bifd];have hol:(o++a.drop k).length=a.length:=by simp;omega
  by_cases hk:k<a.length;left;have hx:=Qad hwa hk;rw[if_pos (by rw[hol];omega),List.drop_eq_getElem_cons hk,Vo h4,sbind,sbind,sbind,Xx h4,w64 (by omega) (by omega)];refine⟨_,rfl,⟨k+1,o++[(a[k]*2%4294967296+s)%4294967296],by simp only[];omega,by omega,by simp,by simp[h4],Kc.2 ⟨h5,Kg.2 ⟨by omega,V0⟩⟩,by simp only[];omega,?_⟩,by simp only[];omega⟩;simp only[];rw[Vl hk,Kw,Kw,List.length_take,Nat.min_eq_left (by omega),h4,Vu];exact Jay _ _ _ _ _ _ _ _ (by omega) h7;right;obtain rfl:k=a.length:=by omega
  rw[if_neg (by rw[hol];omega)];rw[List.take_of_length_le (by omega)] at h7;exact⟨_,rfl,s,by simp;omega,by simpa using h5,by simpa using h7⟩;rintro t ⟨c,h1,h2,h3⟩;exact⟨_,rfl,c,h1,h2,h3⟩
 obtain⟨r,h1,c,h2⟩:=key;exact⟨r,c,h1,h2⟩
theorem Jaz(w t r:Nat)(hr:r<32):(w+4294967296*t) / 2 ^ r%2=w / 2 ^ r%2:=by
 have e:(4294967296:Nat)=2 ^ r*(2*2 ^ (31 - r)):=by rw[←Nat.mul_assoc,Nat.mul_comm (2 ^ r) 2,Nat.mul_assoc,←Nat.pow_add,show r+(31 - r)=31 by omega]
 rw[e,Nat.mul_assoc,Nat.add_mul_div_left _ _ (Nat.two_pow_pos r),Nat.mul_assoc 2,Nat.add_mul_mod_self_left]
theorem Q55{a:List Nat}(hw:Wd a)(q r:Nat)(hr:r<32):val a / 2 ^ (32*q+r)%2=a.getD q 0 / 2 ^ r%2:=by rw[Nat.pow_add,←Qjv,←Nat.div_div_eq_div_mul,Qqa hw];by_cases h:q<a.length;rw[List.drop_eq_getElem_cons h];simp only[val];rw[Jaz _ _ _ hr];simp[h];rw[List.drop_of_length_le (by omega)];simp[val,List.getElem?_eq_none (show a.length≤q by omega)]
theorem Q0k{n i:Nat}{a:List Nat}(hn:big≤n)(hi:i<4611686018427387904)(hw:Wd a):Qbd n a (i:Int)=some (decide (val a / 2 ^ i%2=1)):=by unfold Qbd;have hd:Int.tdiv (i:Int) 32=((i / 32:Nat):Int):=rfl;have hm:Int.tmod (i:Int) 32=((i%32:Nat):Int):=rfl;have hb:=Q55 hw (i / 32) (i%32) (Nat.mod_lt _ (by decide));rw[show 32*(i / 32)+i%32=i by omega] at hb;rw[hd,hm,w64 (by omega) (by omega),hb];simp only[jn_eq,bifd];rw[if_neg (by omega)];by_cases h:i / 32<a.length;rw[if_neg (by omega),Qau h,sbind];rw[Qbz (λk=>(a[i / 32] / 2 ^ k,(k:Int))) (i%32) (a[i / 32] / 2 ^ (i%32))];simp[h];intro k hk;simp only[];rw[if_pos (by omega),Nat.div_div_eq_div_mul,←Nat.pow_succ,w1 (by omega)];simp only[];rw[if_neg (by omega)];unfold big at hn;omega;simp;rw[if_pos (by omega)];simp[List.getElem?_eq_none (show a.length≤i / 32 by omega)]
theorem Q0l{n:Nat}{a:List Nat}(hn:big≤n)(hl:a.length<17592186044416)(hw:Wd a):Qbe n a=some (blen (val a):Int):=by
 unfold Qbe;rw[w64 (by omega) (by omega)];have h0:val a<2 ^ (32*a.length):=by rw[←Qjv];exact Xv hw
 refine Qac (λs=>s.toNat) (λs=>∃ k:Nat,s=k∧k≤32*a.length∧val a<2 ^ k) (λt=>t=(blen (val a):Int)) ⟨32*a.length,by omega,Nat.le_refl _,h0⟩ (by unfold big at hn;omega) ?_ ?_;rintro s ⟨k,rfl,hk,hv⟩;simp only[jn_eq,bifd];by_cases h:0<k;obtain⟨j,rfl⟩:∃ j,k=j+1:=⟨k - 1,by omega⟩
 rw[if_pos (by omega),w64 (by omega) (by omega),show((j+1:Nat):Int) - 1=(j:Nat) by omega,Q0k hn (by omega) hw,sbind];by_cases hb:val a / 2 ^ j%2=1;right;rw[decide_eq_true hb,Bool.not_true,bifF];refine⟨_,rfl,?_⟩;have h1:2 ^ j≤val a:=by rcases Nat.lt_or_ge (val a) (2 ^ j) with g | g;rw[Nat.div_eq_of_lt g] at hb;cases hb;exact g
 rw[Qzu h1 hv];left;rw[decide_eq_false hb,Bool.not_false,bifT];refine⟨_,rfl,⟨j,rfl,by omega,?_⟩,by omega⟩;have h2:val a / 2 ^ j<2:=Nat.div_lt_of_lt_mul (by rw[←Nat.pow_succ];exact hv);have h3:val a / 2 ^ j=0:=by clear hv h0;generalize val a / 2 ^ j=z at *;omega
 rcases Nat.lt_or_ge (val a) (2 ^ j) with g | g;exact g;have:=Nat.div_pos g (Nat.two_pow_pos j);omega;right;obtain rfl:k=0:=by omega
 rw[if_neg (by omega),bifF];refine⟨_,rfl,?_⟩;have:val a=0:=by simpa using hv
 rw[this,Qgn];rintro t rfl;rfl
theorem Q1m{P c x:Nat}(h:P*c≤x)(hx:x<P):c=0:=by rcases Nat.eq_zero_or_pos c with h' | h';exact h';exfalso;have:P*1≤P*c:=Nat.mul_le_mul_left _ h';omega
theorem Ja0(x j:Nat):x / 2 ^ j=2*(x / 2 ^ (j+1))+x / 2 ^ j%2:=by rw[Nat.pow_succ,←Nat.div_div_eq_div_mul];generalize x / 2 ^ j=z;omega
theorem Q9l{a b q r:Nat}(h:a=q*b+r)(hr:r<b):q=a / b∧r=a%b:=by
 have h0:0<b:=by omega
 rw[h,Nat.mul_comm q b,Nat.mul_add_div h0,Nat.mul_add_mod,Nat.div_eq_of_lt hr,Nat.mod_eq_of_lt hr];exact⟨by omega,rfl⟩
theorem Q9m{A A2 q q2 r r2 b t:Nat}(e:A=2*A2+t)(h:A2=q*b+r)(h1:q2=2*q)(h2:r2=2*r+t):A=q2*b+r2:=by subst h1 h2;grind
theorem Q9n{A A2 q q2 q3 r r2 r3 b t:Nat}(e:A=2*A2+t)(h:A2=q*b+r)(h1:q2=2*q)(h2:r2=2*r+t)(h3:q3=q2+1)(h4:r3=r2 - b)(h5:b≤r2):A=q3*b+r3:=by
 obtain⟨d,rfl⟩:∃ d,r2=b+d:=⟨r2 - b,by omega⟩
 have:r3=d:=by omega
 subst this h3 h1;grind
theorem Q56{x y:Nat}:0≤cmpI x y↔y≤x:=by unfold cmpI;split;constructor<;>intro h<;>omega;split<;>constructor<;>intro h<;>omega
theorem Q4v{k:Nat}(h:k<32):(1*2 ^ min (Int.toNat (k:Int)) 32)%4294967296=2 ^ k:=by rw[Int.toNat_natCast,Nat.min_eq_left (by omega),Nat.one_mul];exact Nat.mod_eq_of_lt (Nat.lt_of_lt_of_le (Nat.pow_lt_pow_right (by decide) h) (by decide))
theorem Qtk{a:List Nat}(hw:Wd a):blen (val a)≤32*a.length:=by by_cases h:val a=0;rw[h,Qgn];omega;have h1:=Qml h;have h2:=Xv hw;rw[Qjv] at h2;have h3:=(Nat.pow_lt_pow_iff_right (show 1<2 by decide)).1 (Nat.lt_of_le_of_lt h1 h2);omega
theorem Q0m{n:Nat}{a b:List Nat}(hn:big≤n)(ha:a.length<17592186044410)(hb:b.length<17592186044410)(hwa:Wd a)(hwb:Wd b)(h0:val b≠0):
 Qbf n a b=some (toL (val a / val b),toL (val a%val b)):=by
 unfold Qbf;have hbl:=Qtk hwa;have hbb:=Xv hwb;have hva:=Xv hwa;rw[w64 (x:=(b.length:Int)+1) (by omega) (by omega),show((b.length:Int)+1)=((b.length+1:Nat):Int) by omega,Qdt (by omega) (by omega),sbind,Qdt (by omega) (by omega),sbind,Q0l hn (by omega) hwa,sbind,w64 (by omega) (by omega)]
 refine Qac (λs=>(s.2.2+1).toNat) (λs=>∃ k:Nat,s.2.2=(k:Int) - 1∧k≤blen (val a)∧s.1.length=a.length∧s.2.1.length=b.length+1∧Wd s.1∧Wd s.2.1∧val s.2.1<val b∧val a / 2 ^ k=val s.1*val b+val s.2.1)
  (λt=>t.1.length=a.length∧t.2.length=b.length+1∧Wd t.1∧Wd t.2∧val t.2<val b∧val a=val t.1*val b+val t.2) ⟨blen (val a),rfl,Nat.le_refl _,by simp,by simp,Qlw (by decide),Qlw (by decide),by simp only[];rw[Qfh];omega,by simp only[];rw[Qfh,Qfh,Nat.div_eq_of_lt Qol];simp⟩ (by simp only[];unfold big at hn;omega) ?_ ?_
 rintro⟨q,r,i⟩ ⟨k,h1,h2,h3,h4,h5,h6,h7,h8⟩;simp only at h1 h3 h4 h5 h6 h7 h8;subst h1;simp only[jn_eq,sbind];by_cases hk:0<k;left;obtain⟨j,rfl⟩:∃ j,k=j+1:=⟨k - 1,by omega⟩
 have hd:Int.tdiv (j:Int) 32=((j / 32:Nat):Int):=rfl;have hm:Int.tmod (j:Int) 32=((j%32:Nat):Int):=rfl;have hq:j / 32<a.length:=by omega
 have hp:(1*2 ^ min (Int.toNat ((j%32:Nat):Int)) 32)%4294967296=2 ^ (j%32):=Q4v (Nat.mod_lt _ (by decide));have hbit:=Q55 hwa (j / 32) (j%32) (Nat.mod_lt _ (by decide));rw[show 32*(j / 32)+j%32=j by omega,show a.getD (j / 32) 0=a[j / 32] by simp[hq]] at hbit;have hp0:0<2 ^ (j%32):=Nat.two_pow_pos _;obtain⟨r2,c1,d1,d2,d3,d4⟩:=Qnz (b:=decide (a[j / 32] / 2 ^ (j%32)%2=1)) hn (show r.length<17592186044416 by omega) h6;obtain⟨q2,c2,e1,e2,e3,e4⟩:=Qnz (b:=false) hn (show q.length<17592186044416 by omega) h5;have hhb:=Ja0 (val a) j;have ht:(decide (a[j / 32] / 2 ^ (j%32)%2=1)).toNat=val a / 2 ^ j%2:=by
  rw[hbit];generalize a[j / 32] / 2 ^ (j%32)=z;by_cases g:z%2=1;rw[decide_eq_true g,g];rfl;rw[decide_eq_false g];simp only[Bool.toNat_false];omega
 rw[ht] at d4;have ht2:val a / 2 ^ j%2<2:=Nat.mod_lt _ (by decide);have hAle:val a / 2 ^ j≤val a:=Nat.div_le_self _ _;generalize hA:val a / 2 ^ j=A at *;generalize hA2:val a / 2 ^ (j+1)=A2 at *;generalize A%2=t at *;have hqb:val q≤val q*val b:=Nat.le_mul_of_pos_right _ (by omega);have c1z:c1=0:=by rw[h4,Vu] at d4;refine Q1m (P:=bp b.length*4294967296) (x:=2*val r+t) (by omega) ?_;omega
 have c2z:c2=0:=by rw[h3] at e4;refine Q1m (P:=bp a.length) (x:=2*val q+0) (by simp only[Bool.toNat_false] at e4;omega) (by omega)
 subst c1z c2z;simp only[Nat.mul_zero,Nat.add_zero,Bool.toNat_false] at d4 e4;simp only[show((j+1:Nat):Int) - 1=(j:Nat) by omega,hd,hm,w64 (x:=((j / 32:Nat):Int)) (by omega) (by omega),hp];rw[decide_eq_true (show(0:Int)≤(j:Int) by omega),bifT,Qau hq,sbind,grd_t (decide_eq_true (Int.natCast_nonneg _)),sbind,grd_t (bne_iff_ne.2 (by omega)),sbind,d1,sbind,e1,sbind,Qmr hn (by omega) (by omega) d3 hwb,sbind,bifd];by_cases hge:val b≤val r2;rw[if_pos (Q56.2 hge)];obtain⟨r3,l1,l2,l3,l4⟩:=Qqo (p:=[]) (q:=[]) hn (by simp;omega) (show b.length≤r2.length by omega) d3 hwb hge;simp only[List.nil_append,List.append_nil,List.length_nil] at l1;rw[l1,sbind];cases q2 with
 | nil=>simp at e2;omega
 | cons x t2=>
   obtain⟨x1,x2⟩:=Kg.1 e3;have hv:val (x::t2)=x+4294967296*val t2:=rfl;rw[hv] at e4;rw[show getI (x::t2) 0=some x from rfl,sbind,sbind,show(x::t2).set (Int.toNat 0) ((x+1)%4294967296)=(x+1)%4294967296::t2 from rfl,w64 (by omega) (by omega)];have hx:(x+1)%4294967296=x+1:=by omega
   rw[hx];refine⟨_,rfl,⟨j,rfl,by omega,by simpa [h3] using e2,by simp only[];omega,Kg.2 ⟨by omega,x2⟩,l3,by simp only[];omega,?_⟩,by simp only[];omega⟩;simp only[];rw[hA];exact Q9n hhb h8 e4 d4 (by simp only[val];omega) l4 hge
 rw[if_neg (λh=>hge (Q56.1 h)),w64 (by omega) (by omega)];refine⟨_,rfl,⟨j,rfl,by omega,by simp only[];omega,by simp only[];omega,e3,d3,by simp only[];omega,?_⟩,by simp only[];omega⟩;simp only[];rw[hA];exact Q9m hhb h8 e4 d4;right;obtain rfl:k=0:=by omega
 rw[decide_eq_false (by omega),bifF];rw[Nat.pow_zero,Nat.div_one] at h8;exact⟨_,rfl,h3,h4,h5,h6,h7,h8⟩;rintro⟨q,r⟩ ⟨h1,h2,h3,h4,h5,h6⟩;simp only at h1 h2 h3 h4 h5 h6;obtain⟨e1,e2⟩:=Q9l h6 h5;simp only[];rw[Xk hn (by omega),sbind,Xk hn (by omega),sbind,←Kh h3,←Kh h4,←e1,←e2]
theorem Ja1{x c y:Nat}(h:x=2 ^ c*y)(h2:y%2=0):x=2 ^ (c+1)*(y / 2):=by rw[Nat.pow_succ,Nat.mul_assoc,h];congr 1;omega
theorem Q9o{x c y k:Nat}(h:x=2 ^ c*y)(h0:y≠0)(hx:x<2 ^ k):c<k:=by have h1:2 ^ c*1≤2 ^ c*y:=Nat.mul_le_mul_left _ (by omega);exact(Nat.pow_lt_pow_iff_right (show 1<2 by decide)).1 (show 2 ^ c<2 ^ k by omega)
theorem Qxh{n x:Nat}(hn:big≤n)(h0:x≠0)(hx:x<4294967296):∃ z o:Nat,Y5 n x=some (z:Int)∧z<32∧x=2 ^ z*o∧o%2=1:=by
 have hx2:x<2 ^ 32:=hx;have key:∃ r:Int,Y5 n x=some r∧∃ z o:Nat,r=z∧z<32∧x=2 ^ z*o∧o%2=1:=by unfold Y5;rw[bifd,if_neg h0];refine Qew (λs=>s.1) (λs=>∃ c:Nat,s.2=c∧x=2 ^ c*s.1∧s.1≠0) (λt=>∃ z o:Nat,t=z∧z<32∧x=2 ^ z*o∧o%2=1) ⟨0,rfl,by simp,h0⟩ (by simp only[];unfold big at hn;omega) ?_ ?_;rintro⟨y,i⟩ ⟨c,h1,h2,h3⟩;simp only at h1 h2 h3;subst h1;have hc:=Q9o h2 h3 hx2;simp only[bifd];by_cases h:y%2=0;left;rw[if_pos h,w1 (by omega)];exact⟨_,rfl,⟨c+1,rfl,Ja1 h2 h,by simp only[];omega⟩,by simp only[];omega⟩;right;rw[if_neg h];exact⟨_,rfl,c,y,rfl,hc,h2,by omega⟩;rintro t ⟨z,o,rfl,h1,h2,h3⟩;exact⟨_,rfl,z,o,rfl,h1,h2,h3⟩
 obtain⟨r,h1,z,o,rfl,h2,h3,h4⟩:=key;exact⟨z,o,h1,h2,h3,h4⟩
theorem Qr4(a:List Nat):Zw a=some (decide (a=[1])):=by
 unfold Zw;simp only[jn_eq,bifd]
 match a with
 | []=>rfl
 | [x]=>rw[if_pos (show(([x]:List Nat).length:Int)=1 from rfl)];exact congrArg some (decide_eq_decide.2 (by simp))
 | x::y::t=>rw[if_neg (by simp;omega)];simp
theorem mid2{α:Type}(l:List α)(x y:α)(r:List α):l++x::y::r=(l++[x])++y::r:=by simp
theorem Q9p{a a' V z:Nat}(hz:z<32)(ha:a<4294967296)(ha':a'<4294967296):
 (a+4294967296*(a'+4294967296*V)) / 2 ^ z=((a'*4294967296)%18446744073709551616+a)%18446744073709551616 / 2 ^ (min z 64)%4294967296+4294967296*((a'+4294967296*V) / 2 ^ z):=by
 rw[Nat.mod_eq_of_lt (show a'*4294967296<18446744073709551616 by omega),Nat.mod_eq_of_lt (show a'*4294967296+a<18446744073709551616 by omega),Nat.min_eq_left (by omega)];have h1:(a+4294967296*(a'+4294967296*V)) / 2 ^ z / 4294967296=(a'+4294967296*V) / 2 ^ z:=by rw[Nat.div_div_eq_div_mul,Nat.mul_comm (2 ^ z) 4294967296,←Nat.div_div_eq_div_mul];congr 1;omega
 have h2:(a+4294967296*(a'+4294967296*V)) / 2 ^ z%4294967296=(a'*4294967296+a) / 2 ^ z%4294967296:=by
  have e:(4294967296:Nat)=2 ^ z*2 ^ (32 - z):=by rw[←Nat.pow_add,show z+(32 - z)=32 by omega]
  have e2:a+4294967296*(a'+4294967296*V)=(a'*4294967296+a)+2 ^ z*(4294967296*(2 ^ (32 - z)*V)):=by rw[Nat.mul_left_comm (2 ^ z),←Nat.mul_assoc (2 ^ z),←e];omega
  rw[e2,Nat.add_mul_div_left _ _ (Nat.two_pow_pos z),Nat.add_mul_mod_self_left]
 rw[←h1,←h2];omega
theorem Qj9{a:List Nat}{k:Nat}(h:k<a.length):val (a.drop k)=a[k]+4294967296*val (a.drop (k+1)):=by rw[List.drop_eq_getElem_cons h];rfl
theorem Q2f{a:List Nat}{k:Nat}:val (a.drop k)=a.getD k 0+4294967296*val (a.drop (k+1)):=by by_cases h:k<a.length;rw[Qj9 h];simp[h];rw[List.drop_of_length_le (by omega),List.drop_of_length_le (by omega)];simp[val,List.getElem?_eq_none (show a.length≤k by omega)]
theorem Q9q(P w V2 V V1 A:Nat)(e:V=w+4294967296*V2)(h:V1+P*V=A):V1+P*w+P*4294967296*V2=A:=by grind
theorem Qy4{n z:Nat}{p a q:List Nat}(hn:big≤n)(hl:p.length+a.length+q.length<17592186044416)(hwa:Wd a)(hz:z<32):
 ∃ r k,Zm n (p++a++q) p.length a.length (z:Int)=some (p.length,k,p++r++q)∧r.length=a.length∧Wd r∧k≤r.length∧r.take k=toL (val a / 2 ^ z):=by
 have key:∃ w,Zm n (p++a++q) p.length a.length (z:Int)=some w∧∃ r k,w=(p.length,k,p++r++q)∧r.length=a.length∧Wd r∧k≤r.length∧r.take k=toL (val a / 2 ^ z):=by
  unfold Zm
  refine Qew (λs=>a.length - s.2.toNat) (λs=>∃(k:Nat) (o:List Nat),s.2=k∧k≤a.length∧s.1=p++o++(a.drop k++q)∧o.length=k∧Wd o∧val o+bp k*(val (a.drop k) / 2 ^ z)=val a / 2 ^ z)
   (λt=>∃ o,t=p++o++q∧o.length=a.length∧Wd o∧val o=val a / 2 ^ z) ⟨0,[],rfl,by omega,by simp,rfl,V0,by simp[val,Zp]⟩ (by simp only[];unfold big at hn;omega) ?_ ?_
  rintro⟨w,i⟩ ⟨k,o,h1,h2,h3,h4,h5,h6⟩;simp only at h1 h3 h6;subst h1 h3;simp only[bifd,jn_eq,sbind];by_cases hk:k<a.length;left;have hx:=Qad hwa hk;have hy:=Qiz hwa (k+1);have hdw:=Q9p (V:=val (a.drop (k+1+1))) hz hx hy;have hget:∀(K:Nat->Option (Lp (List Nat×Int) (List Nat))),(if wrap64 ((k:Int)+1)<(a.length:Int) then (grd (winS (wrap64 ((k:Int)+1)) a.length)).bind λ_=>(getI (p++o++(a.drop k++q)) ((p.length:Int)+wrap64 ((k:Int)+1))).bind λy48=>K y48 else K 0)=K (a.getD (k+1) 0):=by
   intro K;rw[w1 (by omega)];by_cases hk1:k+1<a.length;rw[if_pos (by omega),Qkd hk1,sbind,show((p.length:Int)+((k+1:Nat):Int))=((p.length+k+1:Nat):Int) by omega,List.drop_eq_getElem_cons hk,List.drop_eq_getElem_cons hk1,List.cons_append,List.cons_append,mid2,Vo (by simp;omega),sbind];simp[hk1];rw[if_neg (by omega)];simp[List.getElem?_eq_none (show a.length≤k+1 by omega)]
  rw[if_pos (by omega),hget (λs47=>(grd (winS (k:Int) a.length)).bind λ_=>(getI (p++o++(a.drop k++q)) ((p.length:Int)+(k:Int))).bind λy51=>(grd (decide (0≤(z:Int)))).bind λ_=>(grd (winS (k:Int) a.length)).bind λ_=>(getI (p++o++(a.drop k++q)) ((p.length:Int)+(k:Int))).bind λ_=>some (Lp.go ((p++o++(a.drop k++q)).set (Int.toNat ((p.length:Int)+(k:Int))) (((s47*4294967296)%18446744073709551616+y51)%18446744073709551616 / 2 ^ (min (Int.toNat (z:Int)) 64)%4294967296),wrap64 ((k:Int)+1))))];rw[Qkd hk,sbind,show((p.length:Int)+(k:Int))=((p.length+k:Nat):Int) by omega,List.drop_eq_getElem_cons hk,List.cons_append,Vo (by simp;omega),sbind,grd_t (decide_eq_true (Int.natCast_nonneg _)),sbind,sbind,sbind,Xx (by simp;omega),w1 (by omega),Int.toNat_natCast];have hwl:(a.getD (k+1) 0*4294967296%18446744073709551616+a[k])%18446744073709551616 / 2 ^ min z 64%4294967296<4294967296:=Nat.mod_lt _ (by decide);generalize (a.getD (k+1) 0*4294967296%18446744073709551616+a[k])%18446744073709551616 / 2 ^ min z 64%4294967296=w at hdw hwl ⊢;refine⟨_,rfl,⟨k+1,o++[w],rfl,by omega,by simp,by simp[h4],Kc.2 ⟨h5,Kg.2 ⟨hwl,V0⟩⟩,?_⟩,by simp only[];omega⟩;rw[Kw,h4,Vu];refine Q9q _ _ _ _ _ _ ?_ h6;rw[Qj9 hk,Q2f (k:=k+1)];exact hdw;right;obtain rfl:k=a.length:=by omega
  rw[if_neg (by omega)];rw[List.drop_of_length_le (Nat.le_refl _)] at h6;exact⟨_,rfl,o,by simp,h4,h5,by simpa [val] using h6⟩;rintro t ⟨o,rfl,h1,h2,h3⟩;refine Qew (λs=>s.2) (λs=>s.1=p.length∧s.2≤o.length∧trimZ o=trimZ (o.take s.2)) (λt=>t.1=p.length∧t.2≤o.length∧trimZ o=o.take t.2) ⟨rfl,by simp only[];omega,by simp only[];rw[←h1,List.take_length]⟩ (by simp only[];unfold big at hn;omega) ?_ ?_;rintro⟨s1,k⟩ ⟨rfl,g2,g3⟩;simp only at g2 g3;simp only[jn_eq,bifd];by_cases h0:0<k;obtain⟨j,rfl⟩:∃ j,k=j+1:=⟨k - 1,by omega⟩
  have hj:j<o.length:=by omega
  rw[Vl hj] at g3;rw[if_pos (by omega),w64 (by omega) (by omega),show((j+1:Nat):Int) - 1=(j:Nat) by omega,Qkd (by omega),sbind,show((p.length:Int)+(j:Int))=((p.length+j:Nat):Int) by omega];have hg:getI (p++o++q) ((p.length+j:Nat):Int)=some o[j]:=by rw[Qgm,List.append_assoc,List.getElem?_append_right (by omega),Nat.add_sub_cancel_left,List.getElem?_append_left hj,List.getElem?_eq_getElem hj]
  rw[hg,sbind];by_cases hz0:o[j]=0;left;rw[if_pos hz0,grd_t (by unfold winC;simp;omega),sbind];exact⟨_,rfl,⟨by simp,by simp only[];omega,by simp only[];rw[g3,hz0,Qq6];simp⟩,by simp only[];omega⟩;right;rw[if_neg hz0];exact⟨_,rfl,rfl,g2,by simp only[];rw[g3,Vl hj,Qx9 _ hz0]⟩;right;obtain rfl:k=0:=by omega
  rw[if_neg (by omega),bifF];exact⟨_,rfl,rfl,by simp only[];omega,by simp only[];rw[g3];simp[trimZ]⟩;rintro⟨s1,k⟩ ⟨rfl,g2,g3⟩;simp only at g2 g3;exact⟨_,rfl,o,k,rfl,h1,h2,g2,by rw[←g3,←Kh h2,h3]⟩
 obtain⟨w,h1,r,k,rfl,h2⟩:=key;exact⟨r,k,h1,h2⟩
def Win(X:List Nat)(o l:Nat)(b:List Nat):Prop:=∃ p q,X=p++b++q∧p.length=o∧b.length=l
theorem Qvq{X:List Nat}{o l:Nat}{b:List Nat}(h:Win X o l b):subW X o l=some b:=by obtain⟨p,q,rfl,rfl,rfl⟩:=h;unfold subW;rw[if_pos (by simp)];simp
theorem Q57(b:List Nat):Win b 0 b.length b:=⟨[],[],by simp,rfl,rfl⟩
theorem oddw{w z o R:Nat}(hz:z<32)(e:w=2 ^ z*o)(ho:o%2=1):(w+4294967296*R) / 2 ^ z%2=1∧w+4294967296*R=2 ^ z*((w+4294967296*R) / 2 ^ z):=by
 have e2:(4294967296:Nat)=2 ^ z*(2*2 ^ (31 - z)):=by rw[←Nat.mul_assoc,Nat.mul_comm (2 ^ z) 2,Nat.mul_assoc,←Nat.pow_add,show z+(31 - z)=31 by omega]
 have e3:w+4294967296*R=2 ^ z*(o+2*(2 ^ (31 - z)*R)):=by rw[Nat.mul_add,←e,←Nat.mul_assoc 2,←Nat.mul_assoc (2 ^ z),←e2]
 rw[e3,Nat.mul_div_cancel_left _ (Nat.two_pow_pos z)];exact⟨by omega,rfl⟩
theorem Qms{n o l:Nat}{X a:List Nat}(hn:big≤n)(hX:X.length<17592186044416)(hw:Win X o l a)(hwa:Wd a)(h0:val a≠0):
 ∃ o' l' t X',Wz n X o l=some (o',l',((t:Nat):Int),X')∧X'.length=X.length∧∃ u,val a=2 ^ t*u∧u%2=1∧Win X' o' l' (toL u)∧t≤32*a.length:=by
 obtain⟨p,q,rfl,rfl,rfl⟩:=hw;have key:∃ w,Wz n (p++a++q) p.length a.length=some w∧∃ o' l' t X',w=(o',l',((t:Nat):Int),X')∧X'.length=(p++a++q).length∧∃ u,val a=2 ^ t*u∧u%2=1∧Win X' o' l' (toL u)∧t≤32*a.length:=by
  unfold Wz;simp only[List.length_append] at hX;have hlt:∀ j,val a=bp j*val (a.drop j)->j<a.length:=by intro j hj;rcases Nat.lt_or_ge j a.length with h | h;exact h;rw[List.drop_of_length_le h] at hj;exact absurd hj (by simpa [val] using h0)
  refine Qew (λs=>s.2.1) (λs=>∃ j:Nat,s.1=p.length+j∧s.2.1=a.length - j∧s.2.2=((32*j:Nat):Int)∧val a=bp j*val (a.drop j))
   (λs=>∃ j:Nat,s.1=p.length+j∧s.2.1=a.length - j∧s.2.2=((32*j:Nat):Int)∧val a=bp j*val (a.drop j)∧a.getD j 0≠0) ⟨0,rfl,rfl,rfl,by rw[Zp];simp⟩ (by simp only[];unfold big at hn;omega) ?_ ?_
  rintro⟨s1,s2,s3⟩ ⟨j,rfl,rfl,rfl,h4⟩;have hj:=hlt j h4;have hg:getI (p++a++q) (((p.length+j:Nat):Int)+0)=some a[j]:=by rw[show(((p.length+j:Nat):Int)+0)=((p.length+j:Nat):Int) by omega,Qgm,List.append_assoc,List.getElem?_append_right (by omega),Nat.add_sub_cancel_left,List.getElem?_append_left hj,List.getElem?_eq_getElem hj]
  simp only[bifd];rw[show(0:Int)=((0:Nat):Int) from rfl,Qkd (by omega),sbind,show((0:Nat):Int)=0 from rfl,hg,sbind];by_cases hz:a[j]=0;left;rw[if_pos hz,grd_t (by unfold winC;simp;omega),sbind,w64 (by omega) (by omega)];refine⟨_,rfl,⟨j+1,by simp only[];omega,by simp only[];omega,by simp only[];omega,?_⟩,by simp only[];omega⟩;rw[h4,Qj9 hj,hz,Vu,Nat.zero_add,Nat.mul_assoc];right;rw[if_neg hz];exact⟨_,rfl,j,rfl,rfl,rfl,h4,by simpa [hj] using hz⟩;rintro⟨s1,s2,s3⟩ ⟨j,rfl,rfl,rfl,h4,h5⟩;have hj:=hlt j h4;have hg:getI (p++a++q) (((p.length+j:Nat):Int)+0)=some a[j]:=by
   rw[show(((p.length+j:Nat):Int)+0)=((p.length+j:Nat):Int) by omega,Qgm,List.append_assoc,List.getElem?_append_right (by omega),Nat.add_sub_cancel_left,List.getElem?_append_left hj,List.getElem?_eq_getElem hj]
  have hx:=Qad hwa hj;have hz0:a[j]≠0:=by simpa [hj] using h5
  obtain⟨z,od,z1,z2,z3,z4⟩:=Qxh hn hz0 hx;simp only[];rw[show(0:Int)=((0:Nat):Int) from rfl,Qkd (by omega),sbind,show((0:Nat):Int)=0 from rfl,hg,sbind,z1,sbind];have hsp:p++a++q=(p++a.take j)++a.drop j++q:=by simp
  have hpl:(p++a.take j).length=p.length+j:=by simp;omega
  have hal:(a.drop j).length=a.length - j:=by simp
  obtain⟨r,k,d1,d2,d3,d4,d5⟩:=Qy4 (p:=p++a.take j) (a:=a.drop j) (q:=q) hn (by rw[hpl,hal];omega) (Qkr hwa) z2;rw[hpl,hal,←hsp] at d1;rw[d1,sbind,w64 (by omega) (by omega)];obtain⟨w1,w2⟩:=oddw (R:=val (a.drop (j+1))) z2 z3 z4;rw[←Qj9 hj] at w1 w2;refine⟨_,rfl,p.length+j,k,32*j+z,p++a.take j++r++q,by simp,by simp;omega,val (a.drop j) / 2 ^ z,?_,w1,?_,by omega⟩;rw[Nat.pow_add,←Qjv,Nat.mul_assoc,←w2];exact h4;refine⟨p++a.take j,r.drop k++q,?_,hpl,?_⟩;rw[←d5];simp only[List.append_assoc];rw[←List.append_assoc (r.take k),List.take_append_drop];rw[←d5,List.length_take,Nat.min_eq_left (by omega)]
 obtain⟨w,h1,o',l',t,X',rfl,h2⟩:=key;exact⟨o',l',t,X',h1,h2⟩
theorem Qv4{n t:Nat}{a:List Nat}(hn:big≤n)(hl:a.length<1099511627776)(ht:t<35184372088832)(hwa:Wd a):Qaa n a (t:Int)=some (toL (2 ^ t*val a)):=by unfold Qaa;have hd:Int.tdiv (t:Int) 32=((t / 32:Nat):Int):=rfl;have hm:Int.tmod (t:Int) 32=((t%32:Nat):Int):=rfl;have hp:(1*2 ^ min (Int.toNat ((t%32:Nat):Int)) 32)%4294967296=2 ^ (t%32):=Q4v (Nat.mod_lt _ (by decide));have hb:2 ^ (t%32)<4294967296:=Nat.lt_of_lt_of_le (Nat.pow_lt_pow_right (by decide) (Nat.mod_lt t (show 0<32 by decide))) (by decide);rw[hd,hm,w64 (by omega) (by omega),Qdt (by omega) (by omega),sbind,Wr (by simp;omega) (by simp;omega),sbind,grd_t (decide_eq_true (Int.natCast_nonneg _)),sbind,hp,sbind,Qdn hn (by simp;omega) (by simp) (Kc.2 ⟨Qlw (by decide),hwa⟩) (Kg.2 ⟨hb,V0⟩),sbind,Xn,Qfh,List.length_replicate,Qjv,Nat.zero_add];congr 2;simp only[val,Nat.mul_zero,Nat.add_zero];rw[Nat.mul_assoc,Nat.mul_comm (val a),←Nat.mul_assoc,←Nat.pow_add,show 32*(t / 32)+t%32=t by omega]
theorem Q0n{u t:Nat}(h:u%2=1):Nat.Coprime (2 ^ t) u:=Nat.Coprime.pow_left t (by
 have:Nat.gcd 2 u=1:=by rw[Nat.gcd_rec,h];rfl
 exact this)
theorem Jca{m k u v:Nat}(hu:u%2=1)(hv:v%2=1):Nat.gcd (2 ^ m*u) (2 ^ k*v)=2 ^ (min m k)*Nat.gcd u v:=by by_cases h:m≤k;rw[Nat.min_eq_left h,show k=m+(k - m) by omega,Nat.pow_add,Nat.mul_assoc,Nat.gcd_mul_left,Nat.Coprime.gcd_mul_left_cancel_right _ (Q0n hu)];rw[Nat.min_eq_right (by omega),show m=k+(m - k) by omega,Nat.pow_add,Nat.mul_assoc,Nat.gcd_mul_left,Nat.Coprime.gcd_mul_left_cancel _ (Q0n hv)]
theorem Qws{x k:Nat}(h:x<2 ^ k):blen x≤k:=by by_cases h0:x=0;rw[h0,Qgn];omega;have h1:=Qml h0;have:=(Nat.pow_lt_pow_iff_right (show 1<2 by decide)).1 (Nat.lt_of_le_of_lt h1 h);omega
theorem Q9r{x y t:Nat}(h:x=2 ^ t*y)(ht:t≠0)(h0:x≠0):blen y<blen x:=by
 have h1:=Qol (x:=x);have hp:=Qsr h0;obtain⟨k,hk⟩:∃ k,blen x=k+1:=⟨_,(Nat.sub_add_cancel hp).symm⟩
 rw[hk] at h1 ⊢;have h2:y<2 ^ k:=by
  obtain⟨s,rfl⟩:∃ s,t=s+1:=⟨t - 1,by omega⟩
  rw[Nat.pow_succ] at h h1;have h3:1*y≤2 ^ s*y:=Nat.mul_le_mul_right _ (Nat.two_pow_pos s);have h4:x=2*(2 ^ s*y):=by rw[h,Nat.mul_comm (2 ^ s) 2,Nat.mul_assoc]
  omega
 have:=Qws h2;omega
theorem Q9s{x y:Nat}(h:x≤y):blen x≤blen y:=Qws (Nat.lt_of_le_of_lt h Qol)
theorem Q1n{v:Nat}:blen v≤32*(toL v).length:=by have:=Qtk (Je v);rwa [Qz] at this
theorem Qr5{X:List Nat}{o l:Nat}{b:List Nat}(h:Win X o l b):b.length≤X.length∧b.length=l:=by obtain⟨p,q,rfl,rfl,rfl⟩:=h;exact⟨by simp;omega,rfl⟩
def wval(X:List Nat)(o l:Nat):Nat:=val ((subW X o l).getD [])
theorem Qop{X:List Nat}{o l u:Nat}(h:Win X o l (toL u)):wval X o l=u:=by unfold wval;rw[Qvq h,Option.getD_some,Qz]
theorem Jcb{u v:Nat}(hu:u%2=1)(hv:v%2=1)(h:v<u):(u - v)≠0∧(u - v)%2=0:=by omega
theorem Ql2{a:List Nat}(hw:Wd a):(trimZ a).length=0↔val a=0:=by rw[←Qut hw];constructor;intro h;exact List.eq_nil_of_length_eq_zero h;intro h;rw[h];rfl
set_option maxHeartbeats 1000000 in
theorem Q0o{n:Nat}{a b:List Nat}(hn:big≤n)(ha:a.length<1099511627776)(hb:b.length<1099511627776)(hwa:Wd a)(hwb:Wd b):Qbc n a b=some (toL (Nat.gcd (val a) (val b))):=by
 unfold Qbc;have la:=Yw a;have lb:=Yw b;rw[Xk hn (by omega),sbind,Xk hn (by omega),sbind];by_cases h0:val a=0;have:=(Ql2 hwa).2 h0;rw[decide_eq_true (by omega),bifT,h0,Nat.gcd_zero_left,Kh hwb];rw[decide_eq_false (λh=>h0 ((Ql2 hwa).1 (by omega))),bifF];by_cases h0':val b=0;have:=(Ql2 hwb).2 h0';rw[decide_eq_true (by omega),bifT,h0',Nat.gcd_zero_right,Kh hwa];rw[decide_eq_false (λh=>h0' ((Ql2 hwb).1 (by omega))),bifF];obtain⟨o1,l1,t1,X1,e1,e2,u,e3,e4,e5,e6⟩:=Qms hn (show(trimZ a).length<_ by omega) (Q57 _) (Q4q hwa) (by rw[Qp9];exact h0);obtain⟨o2,l2,t2,X2,f1,f2,v,f3,f4,f5,f6⟩:=Qms hn (show(trimZ b).length<_ by omega) (Q57 _) (Q4q hwb) (by rw[Qp9];exact h0');rw[Qp9] at e3 f3;rw[e1,sbind,f1,sbind,e3,f3,Jca e4 f4];simp only[];have i1:=Qr5 e5;have i2:=Qr5 f5;have j1:=@Q1n u;have j2:=@Q1n v;have k1:=Qhl (v:=u)
 refine Qac (λs=>blen (wval s.1 s.2.1 s.2.2.1)+blen (wval s.2.2.2.1 s.2.2.2.2.1 s.2.2.2.2.2))
  (λs=>∃ x y:Nat,Win s.1 s.2.1 s.2.2.1 (toL x)∧Win s.2.2.2.1 s.2.2.2.2.1 s.2.2.2.2.2 (toL y)∧x%2=1∧y%2=1∧Nat.gcd x y=Nat.gcd u v∧s.1.length<1099511627776∧s.2.2.2.1.length<1099511627776)
  (λt=>Win t.1 t.2.1 t.2.2 (toL (Nat.gcd u v))∧t.1.length<1099511627776) ⟨u,v,e5,f5,e4,f4,rfl,by simp only[];omega,by simp only[];omega⟩ (by simp only[];rw[Qop e5,Qop f5];unfold big at hn;omega) ?_ ?_
 have round:∀(X:List Nat) (o l:Nat) (Y:List Nat) (o' l' x y:Nat),Win X o l (toL x)->Win Y o' l' (toL y)->x%2=1->y%2=1->Nat.gcd x y=Nat.gcd u v->X.length<1099511627776->Y.length<1099511627776->y<x →
   ∃ s':List Nat×Nat×Nat×List Nat×Nat×Nat,((some (toL y)).bind λy53=>(Xe n X o l y53).bind λr55=>(Wz n r55 o l).bind λr57=>some (Lp.go (σ:=List Nat×Nat×Nat×List Nat×Nat×Nat) (τ:=List Nat×Nat×Nat) (r57.2.2.2,r57.1,r57.2.1,Y,o',l')))=some (.go s') ∧
   (∃ x y:Nat,Win s'.1 s'.2.1 s'.2.2.1 (toL x)∧Win s'.2.2.2.1 s'.2.2.2.2.1 s'.2.2.2.2.2 (toL y)∧x%2=1∧y%2=1∧Nat.gcd x y=Nat.gcd u v∧s'.1.length<1099511627776∧s'.2.2.2.1.length<1099511627776) ∧
   blen (wval s'.1 s'.2.1 s'.2.2.1)+blen (wval s'.2.2.2.1 s'.2.2.2.2.1 s'.2.2.2.2.2)<blen x+blen y:=by
  intro X o l Y o' l' x y hX hY hx hy hg lX lY hlt;obtain⟨p,q,rfl,rfl,rfl⟩:=hX;obtain⟨r,g1,g2,g3,g4⟩:=Qqo (p:=p) (a:=toL x) (q:=q) (b:=toL y) hn (by simp at lX;omega) (Xo (by omega)) (Je _) (Je _) (by rw[Qz,Qz];omega);rw[Qz,Qz] at g4;obtain⟨s1,s2⟩:=Jcb hx hy hlt;obtain⟨o3,l3,t3,X3,h1,h2,w,h3,h4,h5,h6⟩:=Qms (X:=p++r++q) (o:=p.length) (l:=(toL x).length) (a:=r) hn (by simp[g2];simp at lX;omega) ⟨p,q,rfl,rfl,g2⟩ g3 (by rw[g4];exact s1);rw[g4] at h3;have ht:t3≠0:=by rintro rfl;rw[Nat.pow_zero,Nat.one_mul] at h3;omega
  refine⟨(X3,o3,l3,Y,o',l'),by rw[sbind,g1,sbind,h1,sbind],⟨w,y,h5,hY,h4,hy,?_,?_,lY⟩,?_⟩;rw[←hg,←Nat.Coprime.gcd_mul_left_cancel (k:=2 ^ t3) w (Q0n hy),←h3,Nat.gcd_sub_self_left (by omega)];rw[h2];simp[g2];simp at lX;omega;simp only[];rw[Qop h5,Qop hY];have c1:=Q9r h3 ht s1;have c2:=Q9s (Nat.sub_le x y)
  omega
 rintro⟨X,o,l,Y,o',l'⟩ ⟨x,y,w1,w2,hx,hy,hg,lX,lY⟩;simp only at w1 w2 lX lY;have i3:=Qr5 w1;have i4:=Qr5 w2;simp only[jn_eq];rw[Qvq w1,sbind,Qvq w2,sbind,Qmr hn (by omega) (by omega) (Je _) (Je _),sbind,Qz,Qz,Qop w1,Qop w2,bifd,bifd];unfold cmpI;by_cases c1:x<y;left;rw[if_pos c1,if_neg (by decide),if_pos (by decide)];obtain⟨s',r1,r2,r3⟩:=round Y o' l' X o l y x w2 w1 hy hx (by rw[Nat.gcd_comm];exact hg) lY lX c1;exact⟨s',r1,r2,by omega⟩;rw[if_neg c1];by_cases c2:y<x;left;rw[if_pos c2,if_neg (by decide),if_neg (by decide)];exact round X o l Y o' l' x y w1 w2 hx hy hg lX lY c2;right;rw[if_neg c2,if_pos rfl];obtain rfl:x=y:=by omega
 refine⟨_,rfl,?_,lX⟩;rw[←hg,Nat.gcd_self];exact w1
 rintro⟨X,o,l⟩ ⟨w1,lX⟩;simp only at w1 lX;have i3:=Qr5 w1;simp only[];have hmin:min (t1:Int) (t2:Int)=((min t1 t2:Nat):Int):=by omega
 rw[Qvq w1,sbind,hmin,Qv4 hn (by omega) (by omega) (Je _),sbind,Qz]
theorem Qqp{n:Nat}{a g:List Nat}(hn:big≤n)(ha:a.length<1099511627776)(hb:g.length<1099511627776)(hwa:Wd a)(hwg:Wd g)(h0:val g≠0):Zn n a g=some (toL (val a / val g)):=by unfold Zn;rw[Qr4,sbind,bifd];split;rename_i h;rw[h,Xk hn (by omega),sbind,←Kh hwa];simp[val];rw[Q0m hn (by omega) (by omega) hwa hwg h0,sbind]
def wy(w:Q8):Int:=if w.Neg then -(val w.Abs:Int) else (val w.Abs:Int)
def rW(z:Int):Q8:=⟨decide (z<0),toL z.natAbs⟩
theorem wy_rW(z:Int):wy (rW z)=z:=by unfold wy rW;simp only[Qz];by_cases h:z<0;rw[decide_eq_true h,if_pos rfl];omega;rw[decide_eq_false h,if_neg (by decide)];omega
theorem Ql3{n:Nat}{w:Q8}(hn:big≤n)(hw:Wd w.Abs)(hl:w.Abs.length≤35184372088832):V5 n w=some (rW (wy w)):=by unfold V5 rW wy;rw[Xk hn hl,sbind,←Kh hw,jn_eq];cases w.Neg;rw[bifF,if_neg (by decide),decide_eq_false (by omega),Int.natAbs_natCast];rw[bifT,if_pos rfl,Int.natAbs_neg,Int.natAbs_natCast];have:=Qhl (v:=val w.Abs);refine congrArg (λb=>some (⟨b,_⟩:Q8)) (decide_eq_decide.2 ?_);omega
theorem Q0p{n:Nat}{w u:Q8}(hn:big≤n)(hw:Wd w.Abs)(hu:Wd u.Abs)(hl:w.Abs.length<17592186044410)(hl2:u.Abs.length<17592186044410):Qbg n w u=some (rW (wy w+wy u)):=by
 unfold Qbg;have g1:=J4 hw;have g2:=J4 hu;have len:∀ z,z≤val w.Abs+val u.Abs->(toL z).length≤35184372088832:=λz hz=>Nat.le_trans (Xo hz) (Nat.le_trans (Qom (k:=17592186044410) (by omega) (by omega)) (by decide));rw[Qr2 hn (by omega) (by omega) hw hu,sbind,Qmr hn (by omega) (by omega) hw hu,sbind,bifd];obtain⟨s,a⟩:=w;obtain⟨t,b⟩:=u;simp only at *
 have hsum:∀ s,V5 n ⟨s,toL (val a+val b)⟩=some (rW (if s then -((val a+val b:Nat):Int) else ((val a+val b:Nat):Int))):=λs=>by rw[Ql3 hn (Je _) (len _ (Nat.le_refl _))];unfold wy;simp only[Qz]
 have hd1:∀ s,val b≤val a->(Xr n a b).bind (λr=>(V5 n ⟨s,r⟩).bind λr13=>some r13)=some (rW (if s then -((val a - val b:Nat):Int) else ((val a - val b:Nat):Int))):=λs h=>by rw[Qr3 hn (by omega) (by omega) hw hu h,sbind,Ql3 hn (Je _) (len _ (by omega)),sbind];unfold wy;simp only[Qz]
 have hd2:∀ s,val a≤val b->(Xr n b a).bind (λr=>(V5 n ⟨s,r⟩).bind λr13=>some r13)=some (rW (if s then -((val b - val a:Nat):Int) else ((val b - val a:Nat):Int))):=λs h=>by rw[Qr3 hn (by omega) (by omega) hu hw h,sbind,Ql3 hn (Je _) (len _ (by omega)),sbind];unfold wy;simp only[Qz]
 have hc:=@Q3y (val a) (val b);unfold wy;simp only[hsum,sbind];by_cases h:val a<val b;rw[if_pos (hc.2 h),hd2 t (by omega)];cases s<;>cases t<;>simp only[beq_self_eq_true,bifT,bifF,Bool.false_eq_true,if_true,if_false,show(false == true)=false by rfl,show(true == false)=false by rfl]<;>congr 2<;>omega;rw[if_neg (λg=>h (hc.1 g)),hd1 s (by omega)];cases s<;>cases t<;>simp only[beq_self_eq_true,bifT,bifF,Bool.false_eq_true,if_true,if_false,show(false == true)=false by rfl,show(true == false)=false by rfl]<;>congr 2<;>omega
def rF(q:Rat):Qc:=⟨decide (q.num<0),toL q.num.natAbs,toL q.den⟩
def fr(f:Qc):Rat:=mkRat (if f.Neg then -(val f.N:Int) else (val f.N:Int)) (val f.D)
theorem Qvr(z:Int):(if decide (z<0) then -(z.natAbs:Int) else (z.natAbs:Int))=z:=by by_cases h:z<0;rw[decide_eq_true h,if_pos rfl];omega;rw[decide_eq_false h,if_neg (by decide)];omega
theorem fr_rF(q:Rat):fr (rF q)=q:=by unfold fr rF;simp only[Qz];rw[Qvr];exact Rat.mkRat_self q
theorem Q9t{p q:Rat}(h:rF p=rF q):p=q:=by rw[←fr_rF p,h,fr_rF]
theorem Jcc:toL 1=[1]:=by rw[Qbl (by decide)];rw[show(1:Nat)%4294967296=1 from rfl,show(1:Nat) / 4294967296=0 from rfl,W3]
theorem Q58:rF 0=⟨false,[],[1]⟩:=by unfold rF;rw[show(0:Rat).num=0 from rfl,show(0:Rat).den=1 from rfl,Jcc,show(0:Int).natAbs=0 from rfl,W3];rfl
theorem rF_mk{s:Bool}{x d:Nat}(hx:x≠0)(hd:d≠0):rF (mkRat (if s then -(x:Int) else (x:Int)) d)=⟨s,toL (x / Nat.gcd x d),toL (d / Nat.gcd x d)⟩:=by
 obtain⟨e1,e2⟩:=Qg8 (z:=if s then -(x:Int) else (x:Int)) hd;have e3:(if s then -(x:Int) else (x:Int)).natAbs=x:=by cases s<;>simp
 have hg:Nat.gcd x d ∣ x:=Nat.gcd_dvd_left _ _;have hp:x / Nat.gcd x d≠0:=by have:=Nat.div_pos (Nat.le_of_dvd (Nat.pos_of_ne_zero hx) hg) (Nat.gcd_pos_of_pos_left d (Nat.pos_of_ne_zero hx));omega
 rw[e3] at e1 e2;rw[←Q5w s x _ hg] at e1;unfold rF;rw[e1,e2];generalize x / Nat.gcd x d=y at hp;cases s;rw[if_neg (by decide),decide_eq_false (by omega),Int.natAbs_natCast];rw[if_pos rfl,decide_eq_true (by omega),Int.natAbs_neg,Int.natAbs_natCast]
theorem Qe4{n:Nat}{f:Qc}(hn:big≤n)(hN:Wd f.N)(hD:Wd f.D)(lN:f.N.length<1099511627776)(lD:f.D.length<1099511627776):Wo n f=some (rF (fr f)):=by
 unfold Wo;have g1:=J4 hN;have g2:=J4 hD;rw[Xk hn (by omega),sbind,Xk hn (by omega),sbind,←Kh hN,←Kh hD];simp only[jn_eq,bifd];have z1:=Qhl (v:=val f.N);have z2:=Qhl (v:=val f.D);unfold fr;by_cases hd:val f.D=0;rw[if_pos (by omega),hd,Rat.mkRat_zero,Q58];rfl;rw[if_neg (by omega)];by_cases hx:val f.N=0;rw[if_pos (by omega),hx];have:(if f.Neg=true then -((0:Nat):Int) else ((0:Nat):Int))=0:=by split<;>rfl
 rw[this,Rat.zero_mkRat,Q58];rw[if_neg (by omega),rF_mk hx hd,Qr4,sbind];have hg:Nat.gcd (val f.N) (val f.D)≠0:=by have:=Nat.gcd_pos_of_pos_left (val f.D) (Nat.pos_of_ne_zero hx);omega
 have lg:(toL (Nat.gcd (val f.N) (val f.D))).length<1099511627776:=Nat.lt_of_le_of_lt (Xo (Nat.gcd_le_left _ (Nat.pos_of_ne_zero hx))) (by omega);by_cases h1:toL (val f.D)=[1]
 rw[decide_eq_true h1,Bool.not_true,bifF];have:val f.D=1:=by rw[←Qz (val f.D),h1];rfl
 rw[this,Nat.gcd_one_right,Nat.div_one,Nat.div_one];rw[decide_eq_false h1,Bool.not_false,bifT,Q0o hn (by omega) (by omega) (Je _) (Je _),sbind,Qz,Qz,Qqp hn (by omega) lg (Je _) (Je _) (by rw[Qz];exact hg),sbind,Qqp hn (by omega) lg (Je _) (Je _) (by rw[Qz];exact hg),sbind,Qz,Qz,Qz]
theorem wy_mk(z:Int)(d:Nat):wy ⟨decide (z<0),toL (z.natAbs*d)⟩=z*(d:Int):=by unfold wy;simp only[Qz,Int.natCast_mul];by_cases h:z<0;rw[decide_eq_true h,if_pos rfl,←Int.neg_mul];congr 1;omega;rw[decide_eq_false h,if_neg (by decide)];congr 1;omega
theorem Qmt{n k:Nat}{p q:Rat}(hn:big≤n)(hk:k<274877906944)(hp:qw p≤k)(hq:qw q≤k):Yt n (rF p) (rF q)=some (rF (p+q)):=by
 have n1:=Qik p;have n2:=Qik q;have d1:=Qil p;have d2:=Qil q;have m1:=@Qbm p.num.natAbs q.den;have m2:=@Qbm q.num.natAbs p.den;have m3:=@Qbm p.den q.den;unfold Yt rF;simp only[];rw[Qdn hn (by omega) (by omega) (Je _) (Je _),sbind,Qdn hn (by omega) (by omega) (Je _) (Je _),sbind,Qz,Qz,Qz,Qz,Q0p hn (Je _) (Je _) (by simp only[];omega) (by simp only[];omega),sbind,wy_mk,wy_mk,Qdn hn (by omega) (by omega) (Je _) (Je _),sbind,Qz,Qz];have hs:(toL (p.num*(q.den:Int)+q.num*(p.den:Int)).natAbs).length≤2*k+1:=by
  refine Nat.le_trans (Xo (Int.natAbs_add_le _ _)) ?_;rw[Int.natAbs_mul,Int.natAbs_mul,Int.natAbs_natCast,Int.natAbs_natCast];exact Qom (by omega) (by omega)
 rw[Qe4 hn (Je _) (Je _) (by unfold rW;simp only[];omega) (by simp only[];omega),sbind];have e:fr ⟨(rW (p.num*(q.den:Int)+q.num*(p.den:Int))).Neg,(rW (p.num*(q.den:Int)+q.num*(p.den:Int))).Abs,toL (p.den*q.den)⟩=p+q:=by unfold fr rW;simp only[Qz];rw[Qvr,←Rat.mkRat_add_mkRat _ _ p.den_nz q.den_nz,Rat.mkRat_self,Rat.mkRat_self]
 rw[e];rfl
theorem Ja2(z u:Int):(if (decide (z<0) != decide (u<0)) then -((z.natAbs*u.natAbs:Nat):Int) else ((z.natAbs*u.natAbs:Nat):Int))=z*u:=by rw[Q5v,Qvr,Qvr]
theorem Q0q{n k:Nat}{p q:Rat}(hn:big≤n)(hk:k<274877906944)(hp:qw p≤k)(hq:qw q≤k):Qbh n (rF p) (rF q)=some (rF (p*q)):=by
 have n1:=Qik p;have n2:=Qik q;have d1:=Qil p;have d2:=Qil q;have m1:=@Qbm p.num.natAbs q.num.natAbs;have m3:=@Qbm p.den q.den;unfold Qbh rF;simp only[];rw[Qdn hn (by omega) (by omega) (Je _) (Je _),sbind,Qdn hn (by omega) (by omega) (Je _) (Je _),sbind,Qz,Qz,Qz,Qz,Qe4 hn (Je _) (Je _) (by simp only[];omega) (by simp only[];omega),sbind];have e:fr ⟨decide (p.num<0) != decide (q.num<0),toL (p.num.natAbs*q.num.natAbs),toL (p.den*q.den)⟩=p*q:=by
  unfold fr;simp only[Qz];rw[Ja2,←Rat.mkRat_mul_mkRat,Rat.mkRat_self,Rat.mkRat_self]
 rw[e];rfl
open Classical in
theorem Qqq{n:Nat}{f g:Qc}(hn:big≤n)(h1:f.N.length≤4611686018427387904)(h2:f.D.length≤4611686018427387904):Ya n f g=some (decide (f=g)):=by unfold Ya;simp only[jn_eq];obtain⟨s,a,d⟩:=f;obtain⟨t,b,e⟩:=g;simp only at *;by_cases c1:s=t;subst c1;rw[show(s == s)=true by simp,bifT,Qqn hn h1,sbind];by_cases c2:a=b;subst c2;rw[decide_eq_true rfl,bifT,Qqn hn h2,sbind];exact congrArg some (decide_eq_decide.2 ⟨λh=>by rw[h],λh=>by cases h;rfl⟩);rw[decide_eq_false c2,bifF,decide_eq_false (λh=>by cases h;exact c2 rfl)];rw[show(s == t)=false by simpa using c1,bifF,decide_eq_false (λh=>by cases h;exact c1 rfl)]
theorem Qxi{n k:Nat}{p q:Rat}(hn:big≤n)(hk:k<274877906944)(hp:qw p≤k):Ya n (rF p) (rF q)=some (decide (p=q)):=by have n1:=Qik p;have d1:=Qil p;rw[Qqq hn (by show(toL p.num.natAbs).length≤_;omega) (by show(toL p.den).length≤_;omega)];exact congrArg some (decide_eq_decide.2 ⟨Q9t,λh=>by rw[h]⟩)
theorem Qu8{n x:Nat}(hn:big≤n)(hx:x<18446744073709551616):Qam n x=some (toL x):=by
 unfold Qam;have hw:Wd [x%4294967296%4294967296,x / 4294967296%4294967296]:=Kg.2 ⟨by omega,Kg.2 ⟨by omega,V0⟩⟩;have hv:val [x%4294967296%4294967296,x / 4294967296%4294967296]=x:=by simp only[val];omega
 rw[sbind,Xk hn (by simp),sbind,←Kh hw,hv]
theorem Qy5{n:Nat}{x:Int}(hn:big≤n)(h1:-9223372036854775808≤x)(h2:x≤9223372036854775807):Xq n x=some (rF (x:Rat)):=by
 unfold Xq;have w1':Wd [1]:=Kg.2 ⟨by decide,V0⟩;have v1:val [1]=1:=rfl;have l2:∀ z,z<18446744073709551616->(toL z).length≤2:=λz hz=>Qbx (by rw[Vu,Vu,Zp];omega);rw[bifd];by_cases h:x<0;have e:Int.toNat (wrap64 (-(wrap64 (x+1)))%18446744073709551616)=x.natAbs - 1:=by rw[w64 (x:=x+1) (by omega) (by omega),w64 (by omega) (by omega)];omega
 have hl:=l2 (x.natAbs - 1) (by omega);have hl2:=l2 x.natAbs (by omega);rw[if_pos h,sbind,e,Qu8 hn (by omega),sbind,Qr2 hn (by omega) (by simp) (Je _) w1',sbind,Qz,v1,show x.natAbs - 1+1=x.natAbs by omega,Qe4 hn (Je _) w1' (by simp only[];omega) (by simp),sbind];congr 2;unfold fr;simp only[Qz,v1];rw[if_pos trivial,show -((x.natAbs:Nat):Int)=x by omega,←Rat.mkRat_one];have e:Int.toNat (x%18446744073709551616)=x.natAbs:=by omega
 have hl2:=l2 x.natAbs (by omega);rw[if_neg h,e,Qu8 hn (by omega),sbind,Qe4 hn (Je _) w1' (by simp only[];omega) (by simp),sbind];congr 2;unfold fr;simp only[Qz,v1];rw[if_neg (by decide),show((x.natAbs:Nat):Int)=x by omega,←Rat.mkRat_one]
theorem Qke{n:Nat}(hn:big≤n):Xq n 0=some (rF 0):=Qy5 hn (by decide) (by decide)
def rR(l:List Rat):List Qc:=l.map rF
theorem Qir(l:List Rat):(rR l).length=l.length:=by unfold rR;simp
theorem Qy6{l:List Rat}{i:Nat}{q:Rat}(h:l[i]?=some q):(rR l)[i]?=some (rF q):=by unfold rR;rw[List.getElem?_map,h];rfl
theorem Jee{a b:List Rat}(h:rR a=rR b):a=b:=by
 unfold rR at h
 induction a generalizing b with
 | nil=>cases b with
   | nil=>rfl
   | cons y b=>cases h
 | cons x a ih=>cases b with
   | nil=>cases h
   | cons y b=>
     rw[List.map_cons,List.map_cons] at h;obtain⟨h1,h2⟩:=List.cons.inj h;rw[Q9t h1,ih h2]
theorem Q0r(l:List Rat)(q:Rat):rR (l++[q])=rR l++[rF q]:=by unfold rR;simp
def FRr(k:Nat)(l:List Qc):Prop:=∀ f∈l,Wd f.N∧Wd f.D∧f.N.length≤k∧f.D.length≤k
def rvr(l:List Qc):List Rat:=l.map fr
theorem Qoq(l:List Qc):(rvr l).length=l.length:=by unfold rvr;simp
theorem fr_tF(f:Qc):fv (tF f)=fr f:=rfl
theorem Qy7(l:List Qc):rv (l.map tF)=rvr l:=by unfold rv rvr;rw[List.map_map];rfl
theorem qw_fr{f:Qc}{k:Nat}(h:Wd f.N∧Wd f.D∧f.N.length≤k∧f.D.length≤k)(h1:1≤k):qw (fr f)≤k:=by rw[←fr_tF];exact qw_fv ⟨h.1,h.2.2.1,h.2.1,h.2.2.2⟩ h1
theorem Qy8{k:Nat}{l:List Qc}(h:FRr k l)(h1:1≤k):QR k (rvr l):=λq hq=>by obtain⟨f,hf,rfl⟩:=List.mem_map.1 hq;exact qw_fr (h f hf) h1
theorem Qg1{n k:Nat}{l:List Qc}(hn:big≤n)(hk:k<1099511627776)(h:FRr k l)(hl:l.length≤1000000):W4 n l=some (rR (rvr l)):=by
 unfold W4;rw[Qbz (λi=>(rR (rvr (l.take i)),(i:Int))) l.length (rR (rvr l))];intro i hi;have hp:l[i]?=some l[i]:=List.getElem?_eq_getElem hi;have hf:=h l[i] (List.getElem_mem hi);generalize l[i]=p at hp hf;simp only[bifd];have e:rvr (l.take (i+1))=rvr (l.take i)++[fr p]:=by rw[Qkv hp];unfold rvr;simp
 rw[if_pos (by omega),Kq hp,sbind,Qe4 hn hf.1 hf.2.1 (by omega) (by omega),sbind,Wr (by simp[Qir,Qoq];omega) (by simp[Qir,Qoq];omega),sbind,w1 (by omega),e,Q0r];simp only[bifd];rw[if_neg (by omega),List.take_length];unfold big at hn;omega;rfl
open Classical in
theorem Qy9{n:Nat}{a b:List Qc}(hn:big≤n)(hl:a.length≤1000000)(h:∀ f∈a,f.N.length≤4611686018427387904∧f.D.length≤4611686018427387904):Yb n a b=some (decide (a=b)):=by
 unfold Yb;by_cases hab:a.length=b.length;rw[decide_eq_true (show(a.length:Int)=(b.length:Int) by omega),Bool.not_true,bifF];rw[Qmm (λi=>a[i]?=b[i]?) a.length (r:=false)];have e:(∀ i,i<a.length->a[i]?=b[i]?)↔a=b:=by constructor;intro g;refine List.ext_getElem? λi=>?_;rcases Nat.lt_or_ge i a.length with hi | hi;exact g i hi;rw[List.getElem?_eq_none hi,List.getElem?_eq_none (by omega)];rintro rfl i _;rfl
 by_cases g:a=b;rw[if_pos (e.2 g),decide_eq_true g];rw[if_neg (λh=>g (e.1 h)),decide_eq_false g];intro i hi;have hp:a[i]?=some a[i]:=List.getElem?_eq_getElem hi;have hp2:b[i]?=some (b[i]'(by omega)):=List.getElem?_eq_getElem (by omega);have hf:=h a[i] (List.getElem_mem hi);generalize a[i]=x at hp hf;generalize b[i]'(by omega)=y at hp2;simp only[bifd];rw[if_pos (by omega),Kq hp,sbind,Kq hp2,sbind,Qqq hn hf.1 hf.2,sbind,hp,hp2,w1 (by omega)];constructor;intro g;rw[decide_eq_true (Option.some.inj g)];rfl;intro g;rw[decide_eq_false (λh=>g (by rw[h]))];rfl;simp only[bifd];rw[if_neg (by omega)];unfold big at hn;omega;rw[decide_eq_false (show ¬(a.length:Int)=(b.length:Int) by omega),Bool.not_false,bifT,decide_eq_false];intro g;exact hab (by rw[g])
theorem Jcd{q:Rat}{k:Nat}(h:qw q≤k):(rF q).N.length≤k∧(rF q).D.length≤k:=by have:=Qik q;have:=Qil q;exact⟨by show(toL q.num.natAbs).length≤k;omega,by show(toL q.den).length≤k;omega⟩
theorem Qpj{n k:Nat}{a b:List Rat}(hn:big≤n)(hl:a.length≤1000000)(hk:k<274877906944)(h:QR k a):Yb n (rR a) (rR b)=some (decide (a=b)):=by
 classical
 rw[Qy9 hn (by rw[Qir];exact hl) (λf hf=>by
  obtain⟨q,hq,rfl⟩:=List.mem_map.1 hf;have:=Jcd (h q hq)
  exact⟨by omega,by omega⟩)]
 exact congrArg some (decide_eq_decide.2 ⟨Jee,λh=>by rw[h]⟩)
def oF(x:Qa):Qc:=⟨x.Num.Neg,x.Num.Abs,x.Den⟩
theorem Jef(q:Rat):oF (toF q)=rF q:=rfl
theorem Q9u(l:List Rat):(toR l).map oF=rR l:=by unfold toR rR;rw[List.map_map];rfl
theorem Qtl(x:Qa):Qbu x=some (oF x):=rfl
theorem Qtm{n:Nat}{l:List Qa}(hn:big≤n)(h1:l.length≤1000000):Qal n l=some (l.map oF):=by unfold Qal;rw[Qbz (λi=>((l.take i).map oF,(i:Int))) l.length (l.map oF)];intro i hi;have hp:l[i]?=some l[i]:=List.getElem?_eq_getElem hi;generalize l[i]=p at hp;simp only[bifd,Qtl,sbind];rw[if_pos (by omega),Kq hp,sbind,Wr (by simp;omega) (by simp;omega),sbind,w1 (by omega),Qd7 oF hp];simp only[bifd];rw[if_neg (by omega),List.take_length];unfold big at hn;omega;rfl
theorem Qr6{n k:Nat}{p q:Rat}(hn:big≤n)(hk:k<274877906944)(hp:qw p≤k):Qak n (toF p) (rF q)=some (decide (p=q)):=by unfold Qak;rw[Qtl,sbind,Jef,Qxi hn hk hp,sbind]
theorem Qza{many k:Nat}{l:List Qc}(hB:Q6 l)(h:FL many k l):FRr k l:=λx hx=>by have hb:=hB.2 x hx;have:=h.2 x hx;exact⟨hb.2.1.2,hb.2.2.1.2,this.1,this.2⟩
theorem Qr7{n k:Nat}{a b:List Rat}(hn:big≤n)(hk:k<274877906944)(ha:QR k a)(hb:QR k b)(hl:a.length=b.length)(hl2:a.length≤1000000):Zy n (rR a) (rR b)=some (rR (addQ a b)):=by
 unfold Zy;rw[Qbz (λi=>(rR (addQ (a.take i) (b.take i)),(i:Int))) a.length (rR (addQ a b))];intro i hi;have hp:a[i]?=some a[i]:=List.getElem?_eq_getElem hi;have hp2:b[i]?=some (b[i]'(by omega)):=List.getElem?_eq_getElem (by omega);have q1:=ha a[i] (List.getElem_mem hi);have q2:=hb (b[i]'(by omega)) (List.getElem_mem (by omega));generalize a[i]=x at hp q1;generalize b[i]'(by omega)=y at hp2 q2;simp only[bifd];have e:addQ (a.take (i+1)) (b.take (i+1))=addQ (a.take i) (b.take i)++[x+y]:=by
  rw[Qkv hp,Qkv hp2];unfold addQ;rw[List.zipWith_append (by simp;omega)];rfl
 rw[if_pos (by rw[Qir];omega),Kq (Qy6 hp),sbind,Kq (Qy6 hp2),sbind,Qmt hn hk q1 q2,sbind,Wr (by simp[Qir,Qcy];omega) (by simp[Qir,Qcy];omega),sbind,w1 (by omega),e,Q0r];simp only[bifd];rw[if_neg (by rw[Qir];omega),List.take_length,hl,List.take_length];unfold big at hn;omega;rfl
set_option maxRecDepth 100000
theorem Q4w{n k:Nat}{a b:List Rat}(hn:big≤n)(hk:k<274877906944)(ha:QR k a)(hb:QR k b)(la:a.length≤1000000)(lb:b.length≤1000000):((Xa n ⟨toR a,toR b⟩).bind λr=>Wq n r ⟨rR a,rR b⟩)=some true:=by unfold Xa Wq;simp only[jn_eq];rw[Qtm hn (by rw[Q7];exact la),sbind,Qtm hn (by rw[Q7];exact lb),sbind,sbind,Q9u,Q9u];simp only[];rw[Qpj hn la hk ha,sbind,decide_eq_true rfl,bifT,Qpj hn lb hk hb,sbind,decide_eq_true rfl]
set_option maxRecDepth 100000
def zN(x:Int):Nat:=(min (max x 0) 300).toNat
theorem zN_eq(x:Int):((zN x:Nat):Int)=min (max x 0) 300:=by unfold zN;omega
theorem Qr8{n:Nat}{x:Int}(hn:big≤n):Y8 n x=some (toR (List.replicate (zN x) 0)):=by
 rw[←Qd9 (n:=n) (m:=zN x) hn (by unfold zN;omega)];unfold Y8;have e:min (max x 0) 300=min (max ((zN x:Nat):Int) 0) 300:=by rw[zN_eq];omega
 rw[e]
theorem Qpk{n:Nat}{x:Int}(hn:big≤n):Xf n x=some (rR (List.replicate (zN x) 0)):=by
 have hz:=zN_eq x;have h3:zN x≤300:=by unfold zN;omega
 unfold Xf;rw[Qbz (λi=>(rR (List.replicate i 0),(i:Int))) (zN x) (rR (List.replicate (zN x) 0))];intro i hi;simp only[jn_eq];rw[decide_eq_true (show(i:Int)<x by omega),bifT,decide_eq_true (show(i:Int)<300 by omega),bifT,Qke hn,sbind,Wr (by simp[Qir];omega) (by simp[Qir];omega),sbind,w1 (by omega),List.replicate_succ',Q0r];simp only[jn_eq];by_cases c:((zN x:Nat):Int)<x;rw[decide_eq_true c,bifT,decide_eq_false (by omega),bifF];rw[decide_eq_false c,bifF,bifF];unfold big at hn;omega;rfl
theorem Qs2{k:Nat}{a b:List Rat}(h1:1≤k)(ha:QR k a)(hb:QR k b):∀ i:Nat,qw (psum a b i)≤1+i*(2*k+1)
 | 0=>by show qw (0:Rat)≤_;rw[Z1];omega
 | i+1=>by rw[Qe1,Nat.succ_mul];have:=Qae (Qs2 h1 ha hb i) (Yx (Wc (i:=i) ha h1) (Wc (i:=i) hb h1));omega
theorem Qr9{n k:Nat}{a b:List Rat}(hn:big≤n)(h1:1≤k)(hk:k<1000000)(ha:QR k a)(hb:QR k b)(hl:a.length=b.length)(hl2:a.length≤1000):Zz n (rR a) (rR b)=some (rF (psum a b a.length)):=by
 unfold Zz;rw[Qke hn,sbind,Qbz (λi=>(rF (psum a b i),(i:Int))) a.length (rF (psum a b a.length))];intro i hi;have e1:a[i]?=some (a.getD i 0):=by rw[List.getD_eq_getElem?_getD,List.getElem?_eq_getElem hi];rfl
 have e2:b[i]?=some (b.getD i 0):=by rw[List.getD_eq_getElem?_getD,List.getElem?_eq_getElem (by omega)];rfl
 have q1:=Wc (i:=i) ha h1;have q2:=Wc (i:=i) hb h1;have q3:=Yx q1 q2;have q4:=Qs2 h1 ha hb i;have q5:i*(2*k+1)≤1000*(2*k+1):=Nat.mul_le_mul_right _ (by omega);simp only[Qir];rw[decide_eq_true (show(i:Int)<(a.length:Int) by omega),bifT,Kq (Qy6 e1),sbind,Kq (Qy6 e2),sbind,Q0q (k:=k) hn (by omega) q1 q2,sbind,Qmt (k:=1000*(2*k+1)+2*k+1) hn (by omega) (by omega) (by omega),sbind,w1 (by omega),Qe1];simp only[Qir];rw[decide_eq_false (by omega),bifF];unfold big at hn;omega;rfl
theorem Q4x(a b:Jw)(m:Qh0)(hA:Qfb a)(hB:Qfb b)(_:Q2z m):∃ n,Zf n a b m=some true:=by
 refine⟨big,?_⟩;have hn:big≤big:=Nat.le_refl _;unfold Zf;simp only[jn_eq];have long:∀ l:List Qc,∃ v,Qu big l 8 2=some v∧(v=false->FL 8 2 l):=λl=>Vp (l:=l) (many:=8) (k:=2) hn (by decide);obtain⟨v,e1,f1⟩:=long a.Y;rw[e1,sbind];cases v
 case true=>rw[bifT,bifT,w35];rfl
 obtain⟨v,e2,f2⟩:=long a.P;rw[bifF,e2,sbind];cases v
 case true=>rw[bifT,bifT,w35];rfl
 obtain⟨v,e3,f3⟩:=long b.Y;rw[bifF,e3,sbind];cases v
 case true=>rw[bifT,bifT,w35];rfl
 obtain⟨v,e4,f4⟩:=long b.P;rw[bifF,e4,sbind];cases v
 case true=>rw[bifT,w35];rfl
 have f1:=f1 rfl;have f2:=f2 rfl;have f3:=f3 rfl;have f4:=f4 rfl;rw[bifF];obtain⟨a1,a2,_⟩:=hA;obtain⟨b1,b2,_⟩:=hB;have F1:FR 2 (a.Y.map tF):=FR_tF a1 f1;have F2:FR 2 (a.P.map tF):=FR_tF a2 f2;have F3:FR 2 (b.Y.map tF):=FR_tF b1 f3;have F4:FR 2 (b.P.map tF):=FR_tF b2 f4;have G1:FRr 2 a.Y:=Qza a1 f1;have G2:FRr 2 a.P:=Qza a2 f2;have G3:FRr 2 b.Y:=Qza b1 f3;have G4:FRr 2 b.P:=Qza b2 f4;have l1:=f1.1;have l2:=f2.1;have l3:=f3.1;have l4:=f4.1;have q1:=Qy8 G1 (by decide);have q2:=Qy8 G2 (by decide);have q3:=Qy8 G3 (by decide);have q4:=Qy8 G4 (by decide);have m1:(a.Y.map tF).length=a.Y.length:=List.length_map _;have m2:(a.P.map tF).length=a.P.length:=List.length_map _;have m3:(b.Y.map tF).length=b.Y.length:=List.length_map _;have m4:(b.P.map tF).length=b.P.length:=List.length_map _;rw[Kd hn (by omega),sbind,Kd hn (by omega),sbind,Kd hn (by omega),sbind,Kd hn (by omega),sbind];unfold Qmz;rw[Qr8 hn,sbind,Qr8 hn,sbind,sbind,Qj8 (k:=2) hn (by decide) (by decide) F1 F2 F3 F4 (by omega) (by omega),sbind];unfold Qdq;simp only[jn_eq];rw[Qip (k:=2) hn (by decide) (by decide) F1 F3 (by omega),sbind,Qip (k:=2) hn (by decide) (by decide) F2 F4 (by omega),sbind,m1,m2,m3,m4,Qy7,Qy7,Qy7,Qy7,Qke hn,Wb hn];have z0:∀ j,QR 1 (List.replicate j (0:Rat)):=λj=>Qry j;have hz:=Q4w (n:=big) (k:=1) (a:=List.replicate (zN m.a0) 0) (b:=List.replicate (zN m.a1) 0) hn (by decide) (Qry _) (Qry _) (by rw[List.length_replicate];unfold zN;omega) (by rw[List.length_replicate];unfold zN;omega)
 have hz':∀(K:Bool->Option Bool),((Xa big ⟨toR (List.replicate (zN m.a0) 0),toR (List.replicate (zN m.a1) 0)⟩).bind λr116=>(Xf big m.a0).bind λr118=>(Xf big m.a1).bind λr120=>(Wq big r116 ⟨r118,r120⟩).bind K)=K true:=λK=>by rw[Qpk hn,Qpk hn];have:=congrArg (λz=>z.bind K) hz;simp only[Option.bind_assoc] at this;simp only[sbind];exact this
 have e00:=Q4w (n:=big) (k:=1) (a:=[]) (b:=[]) hn (by decide) (λ_ h=>by cases h) (λ_ h=>by cases h) (by decide) (by decide)
 have e00':∀ {β:Type}(K:Bool->Option β),((Xa big ⟨[],[]⟩).bind λr46=>(Wq big r46 ⟨[],[]⟩).bind K)=K true:=λK=>by have:=congrArg (λz=>z.bind K) e00;simp only[Option.bind_assoc] at this;exact this
 have is0:Qak big (toF 0) (rF 0)=some true:=by rw[Qr6 (k:=1) hn (by decide) (by rw[Z1];exact Nat.le_refl _),decide_eq_true rfl]
 by_cases c1:a.Y.length=b.Y.length
 case neg=>
  simp only[decide_eq_false (show ¬(a.Y.length:Int)=(b.Y.length:Int) by omega),if_neg c1,if_neg (show ¬(a.Y.length=b.Y.length∧a.P.length=b.P.length) from λh=>c1 h.1),Bool.not_false,bifT,bifF,sbind];rw[hz',bifT,e00',bifT,show(false == false)=true from rfl,bifT,is0,sbind,bifT,bifT,w35];rfl
 by_cases c2:a.P.length=b.P.length
 case neg=>
  simp only[decide_eq_true (show(a.Y.length:Int)=(b.Y.length:Int) by omega),decide_eq_false (show ¬(a.P.length:Int)=(b.P.length:Int) by omega),if_pos c1,if_neg c2,if_neg (show ¬(a.Y.length=b.Y.length∧a.P.length=b.P.length) from λh=>c2 h.2),Bool.not_false,Bool.not_true,bifT,bifF,sbind];rw[hz',bifT,e00',bifT,show(false == false)=true from rfl,bifT,is0,sbind,bifT,bifT,w35];rfl
 have qy:=Qjw q1 q3;have qp:=Qjw q2 q4;have hy:=Qs2 (by decide) q1 q3 a.Y.length;have hp:=Qs2 (by decide) q2 q4 a.P.length;have hs:=Qae hy hp;have r1:=Qoq a.Y;have r2:=Qoq a.P;have r3:=Qoq b.Y;have r4:=Qoq b.P;have hsm:=Q4w (n:=big) (k:=5) (a:=addQ (rvr a.Y) (rvr b.Y)) (b:=addQ (rvr a.P) (rvr b.P)) hn (by decide) qy qp (by rw[Qcy];omega) (by rw[Qcy];omega)
 have hsm':∀ {β:Type}(K:Bool->Option β),((Xa big ⟨toR (addQ (rvr a.Y) (rvr b.Y)),toR (addQ (rvr a.P) (rvr b.P))⟩).bind λr46=>(Wq big r46 ⟨rR (addQ (rvr a.Y) (rvr b.Y)),rR (addQ (rvr a.P) (rvr b.P))⟩).bind K)=K true:=λK=>by have:=congrArg (λz=>z.bind K) hsm;simp only[Option.bind_assoc] at this;exact this
 simp only[decide_eq_true (show(a.Y.length:Int)=(b.Y.length:Int) by omega),decide_eq_true (show(a.P.length:Int)=(b.P.length:Int) by omega),if_pos c1,if_pos c2,if_pos (show a.Y.length=b.Y.length∧a.P.length=b.P.length from⟨c1,c2⟩),Bool.not_true,bifT,bifF,sbind];rw[Vw (k:=100) hn (by decide) (by decide) (Jp (by omega)) (Jp (by omega)),sbind,sbind,Q5,Q5,Qg1 hn (show 2<1099511627776 by decide) G1 (by omega),sbind,Qg1 hn (show 2<1099511627776 by decide) G2 (by omega),sbind,Qg1 hn (show 2<1099511627776 by decide) G3 (by omega),sbind,Qg1 hn (show 2<1099511627776 by decide) G4 (by omega),sbind,Qr7 (k:=2) hn (by decide) q1 q3 (by omega) (by omega),sbind,Qr7 (k:=2) hn (by decide) q2 q4 (by omega) (by omega),sbind,Qr9 (k:=2) hn (by decide) (by decide) q1 q3 (by omega) (by omega),sbind,Qr9 (k:=2) hn (by decide) (by decide) q2 q4 (by omega) (by omega),sbind,r1,r2,Qmt (k:=100) hn (by decide) (by omega) (by omega),sbind];simp only[];rw[hz',bifT,hsm',bifT,show(true == true)=true from rfl,bifT,Qr6 (k:=200) hn (by decide) (by omega),sbind,decide_eq_true rfl,bifT,bifT,w35];rfl
end Go.Proofs.YtlfphifbmoccgaaGreatDoor
