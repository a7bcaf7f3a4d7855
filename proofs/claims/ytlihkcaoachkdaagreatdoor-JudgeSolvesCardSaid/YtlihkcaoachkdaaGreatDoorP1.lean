import Derived.Test.YtlihkcaoachkdaaGreatDoorLibM
import Derived.Test.YtlihkcaoachkdaaGreatDoorMod
import Derived.KernelRfl
namespace Go.Proofs.YtlihkcaoachkdaaGreatDoor
open Go Go.RowKit
def big:Nat:=18446744073709551616
theorem w64{x:Int}(h1:-9223372036854775808≤x)(h2:x≤9223372036854775807):wrap64 x=x:=by unfold wrap64;omega
theorem bifd{α:Type}(p:Prop)[Decidable p](a b:α):(bif decide p then a else b)=if p then a else b:=by by_cases h:p<;>simp[h]
theorem bifnd{α:Type}(p:Prop)[Decidable p](a b:α):(bif !decide p then a else b)=if p then b else a:=by by_cases h:p<;>simp[h]
theorem bifT{α:Type}(a b:α):(bif true then a else b)=a:=Eq.symm (Eq.symm rfl)
theorem bifF{α:Type}(a b:α):(bif false then a else b)=b:=Eq.symm (Eq.symm rfl)
theorem jn_eq{σ ρ:Type}(A:(σ->Option ρ)->Option ρ)(k:σ->Option ρ):jn A k=A k:=Eq.symm (Eq.symm rfl)
theorem Xq{τ ρ:Type}(k:τ->Option ρ)(t:τ):lpK k (.go t)=k t:=Eq.symm (Eq.symm rfl)
theorem Qoo{τ ρ:Type}(k:τ->Option ρ)(r:ρ):lpK k (.out r)=some r:=Eq.symm (Eq.symm rfl)
theorem sbind{α β:Type}(a:α)(f:α->Option β):(some a).bind f=f a:=Eq.symm (Eq.symm rfl)
theorem Qke{α:Type}(l:List α)(i:Nat):getI l (i:Int)=l[i]?:=by simp[getI]
theorem Qff{α:Type}{l:List α}{i:Nat}(h:i<l.length):getI l (i:Int)=some l[i]:=by rw[Qke];simp[h]
theorem Qzn(l:List UInt8)(i:Nat):getS l (i:Int)=(l[i]?).map (·.toNat):=by simp[getS]
theorem Q0p{l:List UInt8}{i:Nat}(h:i<l.length):getS l (i:Int)=some l[i].toNat:=by rw[Qzn];simp[h]
theorem grd_t{b:Bool}(h:b=true):grd b=some ():=by rw[h];rfl
theorem Qvy{α:Type}{l:List α}{k:Nat}(h:k≤l.length):sub l 0 (k:Int)=some (l.take k):=by
 unfold sub;rw[if_pos (by omega)];simp
theorem V7{α:Type}{b:Nat}{l r:List α}(h:(l.length+r.length)*b≤140737488355328)(h2:l.length+r.length≤9223372036854775807):appM b l r=some (l++r):=by
 unfold appM;rw[if_pos ⟨h,h2⟩]
theorem Qjr{α:Type}{b:Nat}{z:α}{n:Nat}(h:n*b≤140737488355328)(h2:n≤9223372036854775807):mkM b z (n:Int)=some (List.replicate n z):=by
 unfold mkM;rw[if_pos (by omega)];simp
theorem Qpu{σ τ:Type}{f:σ->Option (Lp σ τ)}(μ:σ->Nat)(I:σ->Prop)(Q:τ->Prop)
 (hb:∀ s,I s->(∃ s',f s=some (.go s')∧I s'∧μ s'<μ s)∨(∃ t,f s=some (.out t)∧Q t)):∀(n:Nat) (s:σ),I s->μ s<n->∃ t,loopM f n s=some t∧Q t
 | 0,_,_,h=>absurd h (Nat.not_lt_zero _)
 | n+1,s,hI,hn=>by
   rcases hb s hI with ⟨s',h1,h2,h3⟩ | ⟨t,h1,h2⟩
   . obtain⟨t,h4,h5⟩:=Qpu μ I Q hb n s' h2 (by omega)
     exact⟨t,by simp only[loopM,h1,Option.bind_some];exact h4,h5⟩
   . exact⟨t,by simp only[loopM,h1,Option.bind_some],h2⟩
theorem Qd9{σ τ R:Type}{f:σ->Option (Lp σ τ)}{n:Nat}{s:σ}{k:τ->Option R}{r:R}(μ:σ->Nat)(I:σ->Prop)(Q:τ->Prop)(h0:I s)(hn:μ s<n)
 (hb:∀ s,I s->(∃ s',f s=some (.go s')∧I s'∧μ s'<μ s)∨(∃ t,f s=some (.out t)∧Q t)) (hk:∀ t,Q t->k t=some r):(loopM f n s).bind k=some r:=by
 obtain⟨t,h1,h2⟩:=Qpu μ I Q hb n s h0 hn
 rw[h1,Option.bind_some];exact hk t h2
theorem Qqv{σ τ R:Type}{f:σ->Option (Lp σ τ)}{n:Nat}{s:σ}{k:τ->Option R}{P:R->Prop}(μ:σ->Nat)(I:σ->Prop)(Q:τ->Prop)(h0:I s)(hn:μ s<n)
 (hb:∀ s,I s->(∃ s',f s=some (.go s')∧I s'∧μ s'<μ s)∨(∃ t,f s=some (.out t)∧Q t)) (hk:∀ t,Q t->∃ r,k t=some r∧P r):∃ r,(loopM f n s).bind k=some r∧P r:=by
 obtain⟨t,h1,h2⟩:=Qpu μ I Q hb n s h0 hn
 rw[h1,Option.bind_some];exact hk t h2
theorem Qop{σ τ:Type}{f:σ->Option (Lp σ τ)}{s s':σ}{n:Nat}(h:f s=some (.go s')):loopM f (n+1) s=loopM f n s':=by simp only[loopM,h,Option.bind_some]
theorem Qbw{σ τ:Type}{f:σ->Option (Lp σ τ)}{s:σ}{t:τ}{n:Nat}(h:f s=some (.out t))(hn:0<n):loopM f n s=some t:=by
 obtain⟨m,rfl⟩:∃ m,n=m+1:=⟨n - 1,by omega⟩
 simp only[loopM,h,Option.bind_some]
theorem Qnu{α σ τ:Type}{f:Nat->α->σ->Option (Lp σ τ)}(I:Nat->σ->Prop):∀(xs:List α) (i:Nat) (s:σ),I i s->(∀ j x s,xs[j]?=some x->I (i+j) s->∃ s',f (i+j) x s=some (.go s')∧I (i+j+1) s') →
 ∃ s',rangeL f xs i s=some (.go s')∧I (i+xs.length) s'
 | [],i,s,h,_=>⟨s,rfl,h⟩
 | x::xs,i,s,h,hb=>by
   obtain⟨s1,h1,h2⟩:=hb 0 x s rfl h
   simp only[Nat.add_zero] at h1 h2
   obtain⟨s2,h3,h4⟩:=Qnu I xs (i+1) s1 h2 (λj y t hj ht=>by
    have:=hb (j+1) y t (by simpa using hj) (by rw[show i+(j+1)=i+1+j by omega];exact ht)
    rw[show i+(j+1)=i+1+j by omega] at this
    exact this)
   refine⟨s2,by simp only[rangeL,h1,Option.bind_some];exact h3,?_⟩
   rw[List.length_cons,show i+(xs.length+1)=i+1+xs.length by omega];exact h4
theorem Qgn{α σ τ R:Type}{f:Nat->α->σ->Option (Lp σ τ)}{xs:List α}{s:σ}{k:Lp σ τ->Option R}{r:R}(I:Nat->σ->Prop)(h0:I 0 s)
 (hb:∀ j x s,xs[j]?=some x->I j s->∃ s',f j x s=some (.go s')∧I (j+1) s') (hk:∀ t,I xs.length t->k (.go t)=some r):(rangeL f xs 0 s).bind k=some r:=by
 obtain⟨s',h1,h2⟩:=Qnu I xs 0 s h0 (λj x s hj hs=>by rw[Nat.zero_add] at hs ⊢;exact hb j x s hj hs)
 rw[h1,Option.bind_some];exact hk s' (by simpa using h2)
theorem Qk8{α σ τ R:Type}{f:Nat->α->σ->Option (Lp σ τ)}{xs:List α}{s:σ}{k:Lp σ τ->Option R}{P:R->Prop}(I:Nat->σ->Prop)(h0:I 0 s)
 (hb:∀ j x s,xs[j]?=some x->I j s->∃ s',f j x s=some (.go s')∧I (j+1) s') (hk:∀ t,I xs.length t->∃ r,k (.go t)=some r∧P r):∃ r,(rangeL f xs 0 s).bind k=some r∧P r:=by
 obtain⟨s',h1,h2⟩:=Qnu I xs 0 s h0 (λj x s hj hs=>by rw[Nat.zero_add] at hs ⊢;exact hb j x s hj hs)
 rw[h1,Option.bind_some];exact hk s' (by simpa using h2)
def val:List Nat->Nat
 | []=>0
 | x::a=>x+4294967296*val a
def bp(k:Nat):Nat:=4294967296 ^ k
theorem Zj:bp 0=1:=by unfold bp;rw[Nat.pow_zero]
theorem Vw(k:Nat):bp (k+1)=bp k*4294967296:=by unfold bp;rw[Nat.pow_succ]
theorem bp_le{j k:Nat}(h:j≤k):bp j≤bp k:=by unfold bp;exact Nat.pow_le_pow_right (by decide) h
theorem Qzo(k:Nat):0<bp k:=by unfold bp;exact Nat.pow_pos (by decide)
theorem Q3j(j k:Nat):bp (j+k)=bp j*bp k:=by unfold bp;rw[Nat.pow_add]
def Wd(a:List Nat):Prop:=∀ x∈a,x<4294967296
def trimZ:List Nat->List Nat
 | []=>[]
 | x::a=>if trimZ a=[]∧x=0 then [] else x::trimZ a
def toL(n:Nat):List Nat:=if n=0 then [] else n%4294967296::toL (n / 4294967296)
termination_by n
decreasing_by omega
theorem W8:Wd []:=λ_ h=>by cases h
theorem Kf{x a}:Wd (x::a)↔x<4294967296∧Wd a:=by simp[Wd]
theorem J6{a b}:Wd (a++b)↔Wd a∧Wd b:=by
 constructor
 . intro h;exact⟨λx hx=>h x (List.mem_append_left _ hx),λx hx=>h x (List.mem_append_right _ hx)⟩
 . rintro⟨h1,h2⟩ x hx
   rcases List.mem_append.1 hx with h | h
   . exact h1 x h
   . exact h2 x h
theorem Qlo{a k}(h:Wd a):Wd (a.take k):=λx hx=>h x (List.mem_of_mem_take hx)
theorem Qiz{a k}(h:Wd a):Wd (a.drop k):=λx hx=>h x (List.mem_of_mem_drop hx)
theorem Qqw{k x}(h:x<4294967296):Wd (List.replicate k x):=λy hy=>by rw[(List.mem_replicate.1 hy).2];exact h
theorem Z9{a:List Nat}(h:Wd a){i:Nat}(hi:i<a.length):a[i]<4294967296:=h _ (List.getElem_mem hi)
theorem Vm:toL 0=[]:=by rw[toL];rfl
theorem Y6{n:Nat}(h:n≠0):toL n=n%4294967296::toL (n / 4294967296):=by rw[toL];rw[if_neg h]
theorem Jd(n:Nat):val (toL n)=n:=by
 induction n using Nat.strongRecOn with
 | _ n ih=>
   by_cases h:n=0
   . subst h;rw[Vm];rfl
   . rw[Y6 h];simp only[val];rw[ih (n / 4294967296) (by omega)];omega
theorem J4(n:Nat):Wd (toL n):=by
 induction n using Nat.strongRecOn with
 | _ n ih=>
   by_cases h:n=0
   . subst h;rw[Vm];exact W8
   . rw[Y6 h];exact Kf.2 ⟨by omega,ih (n / 4294967296) (by omega)⟩
theorem Km{a:List Nat}(h:Wd a):toL (val a)=trimZ a:=by
 induction a with
 | nil=>simp[val,Vm,trimZ]
 | cons x a ih=>
   obtain⟨hx,ha⟩:=Kf.1 h
   have ih:=ih ha
   simp only[val,trimZ]
   by_cases hv:val a=0
   . rw[hv,Vm] at ih
     rw[←ih,hv]
     by_cases hx0:x=0
     . subst hx0;simp[Vm]
     . rw[if_neg (λh=>hx0 h.2),Y6 (by omega)]
       rw[show(x+4294967296*0)%4294967296=x by omega,show(x+4294967296*0) / 4294967296=0 by omega,Vm]
   . have hne:trimZ a≠[]:=by
      rw[←ih,Y6 hv];simp
     rw[if_neg (λh=>hne h.1),Y6 (by omega),show(x+4294967296*val a)%4294967296=x by omega,show(x+4294967296*val a) / 4294967296=val a by omega,ih]
theorem Qzp(a:List Nat):val (trimZ a)=val a:=by
 induction a with
 | nil=>rfl
 | cons x a ih=>
   simp only[trimZ]
   split
   . rename_i h;rw[h.1] at ih;simp[val] at ih ⊢;omega
   . simp[val,ih]
theorem X3(a:List Nat):(trimZ a).length≤a.length:=by
 induction a with
 | nil=>simp[trimZ]
 | cons x a ih=>simp only[trimZ];split<;>simp;omega
theorem Qtg{a:List Nat}(h:trimZ a=[]):val a=0:=by rw[←Qzp,h];rfl
theorem Qvz{a:List Nat}(h:Wd a):trimZ a=[]↔val a=0:=by
 constructor
 . exact Qtg
 . intro hv;rw[←Km h,hv,Vm]
theorem Qzq(n:Nat):trimZ (toL n)=toL n:=by rw[←Km (J4 n),Jd]
theorem Qpc(a:List Nat):trimZ (a++[0])=trimZ a:=by
 induction a with
 | nil=>simp[trimZ]
 | cons x a ih=>simp only[List.cons_append,trimZ,ih]
theorem Qyf(a:List Nat){x:Nat}(h:x≠0):trimZ (a++[x])=a++[x]:=by
 induction a with
 | nil=>simp[trimZ,h]
 | cons y a ih=>simp only[List.cons_append,trimZ,ih];rw[if_neg (by simp)]
theorem W9(a b:List Nat):val (a++b)=val a+bp a.length*val b:=by
 induction a with
 | nil=>simp[val,Zj]
 | cons x a ih=>simp only[List.cons_append,val,ih,List.length_cons,Vw];rw[Nat.mul_add,←Nat.mul_assoc,Nat.mul_comm 4294967296 (bp a.length)];omega
theorem Xr{a:List Nat}(h:Wd a):val a<bp a.length:=by
 induction a with
 | nil=>simp[val,Zj]
 | cons x a ih=>
   obtain⟨hx,ha⟩:=Kf.1 h
   have:=ih ha
   simp only[val,List.length_cons,Vw];omega
theorem Qmm(k:Nat):val (List.replicate k 0)=0:=by
 induction k with
 | zero=>rfl
 | succ k ih=>simp[List.replicate_succ,val,ih]
theorem Y3{n k:Nat}(h:n<bp k):(toL n).length≤k:=by
 induction k generalizing n with
 | zero=>rw[Zj] at h;obtain rfl:n=0:=by omega
         simp[Vm]
 | succ k ih=>
   by_cases h0:n=0
   . subst h0;simp[Vm]
   . rw[Y6 h0,List.length_cons]
     have:=@ih (n / 4294967296) (by rw[Vw] at h;exact Nat.div_lt_of_lt_mul (by rw[Nat.mul_comm];exact h))
     omega
theorem Xg{α:Type}{a:List α}{k:Nat}(h:k<a.length):a.take (k+1)=a.take k++[a[k]]:=by simp[]
theorem Wf{n:Nat}{a:List Nat}(hn:big≤n)(ha:a.length≤4611686018427387904):Ws n a=some (trimZ a):=by
 unfold Ws
 unfold big at hn
 refine Qd9 (λs=>s.toNat) (λs=>∃ k:Nat,s=k∧k≤a.length∧trimZ a=trimZ (a.take k)) (λt=>∃ k:Nat,t=k∧k≤a.length∧trimZ a=a.take k) ⟨a.length,rfl,Nat.le_refl _,by simp⟩ (by simp;omega) ?_ ?_
 . rintro s ⟨k,rfl,hk,ht⟩
   simp only[jn_eq,bifd]
   by_cases h0:0<k
   . obtain⟨j,rfl⟩:∃ j,k=j+1:=⟨k - 1,by omega⟩
     rw[if_pos (by omega),w64 (by omega) (by omega),show((j+1:Nat):Int) - 1=(j:Nat) by omega,Qff (show j<a.length by omega),sbind]
     rw[Xg (show j<a.length by omega)] at ht
     by_cases hz:a[j]=0
     . left
       refine⟨(j:Nat),by simp[hz],⟨j,rfl,by omega,?_⟩,by omega⟩
       rw[ht,hz,Qpc]
     . right
       refine⟨((j+1:Nat):Int),by simp[hz],j+1,rfl,hk,?_⟩
       rw[ht,Xg (show j<a.length by omega),Qyf _ hz]
   . right
     obtain rfl:k=0:=by omega
     exact⟨0,by simp,0,rfl,Nat.zero_le _,by rw[ht];simp[trimZ]⟩
 . rintro t ⟨k,rfl,hk,ht⟩
   rw[Qvy hk,sbind,ht]
theorem Q0q{a:List Nat}{k:Nat}:cpyL (List.replicate (a.length+k) 0) a=a++List.replicate k 0:=by
 unfold cpyL
 rw[List.length_replicate,List.take_of_length_le (by omega),List.drop_replicate,Nat.add_sub_cancel_left]
theorem Qg8{a:List Nat}{k:Nat}(h:a.length+k≤35184372088832):Qbr a (k:Int)=some (a++List.replicate k 0):=by
 unfold Qbr
 rw[w64 (by omega) (by omega),show((a.length:Int)+(k:Int))=((a.length+k:Nat):Int) by omega,Qjr (by omega) (by omega),sbind,Q0q]
theorem Vi{n:Nat}{a:List Nat}(hn:big≤n)(ha:a.length≤35184372088832):K3 n a=some (trimZ a):=by
 unfold K3
 have hl:=X3 a
 rw[Wf hn (by omega),sbind,show(0:Int)=((0:Nat):Int) by rfl,Qg8 (by omega),sbind];simp
theorem Qib{n:Nat}{a:List Nat}(hn:big≤n)(ha:a.length≤4611686018427387904)(hw:Wd a):Qco n a=some (decide (val a=0)):=by
 unfold Qco
 rw[Wf hn ha,sbind]
 congr 1
 rw[Bool.eq_iff_iff]
 simp only[decide_eq_true_eq]
 rw[←Qvz hw]
 constructor
 . intro h;exact List.eq_nil_of_length_eq_zero (by omega)
 . intro h;rw[h];rfl
theorem Qpv{x y c d:Nat}(hx:x<4294967296)(hy:y<4294967296)(hc:c<4294967296)(hd:d<4294967296):x*y+c+d<18446744073709551616:=by
 have:x*y≤4294967295*4294967295:=Nat.mul_le_mul (by omega) (by omega)
 omega
theorem Qic{x y c d:Nat}(hx:x<4294967296)(hy:y<4294967296)(hc:c<4294967296)(hd:d<4294967296):
 Qaa x y c d=some ((x*y+c+d) / 4294967296,(x*y+c+d)%4294967296):=by
 have h:=Qpv hx hy hc hd
 unfold Qaa
 rw[Nat.mod_eq_of_lt (show x*y<18446744073709551616 by omega),Nat.mod_eq_of_lt (show x*y+c<18446744073709551616 by omega),Nat.mod_eq_of_lt h,sbind]
 rw[show(2:Nat) ^ 32=4294967296 by rfl,Nat.mod_eq_of_lt (show(x*y+c+d) / 4294967296<4294967296 by omega)]
theorem Qsa{x y:Nat}(hy:y<4294967296):x*4294967296 ||| y=x*4294967296+y:=by
 have:=Nat.two_pow_add_eq_or_of_lt (i:=32) (b:=y) (by simpa using hy) x
 rw[show(2:Nat) ^ 32=4294967296 by rfl,Nat.mul_comm] at this
 exact this.symm
theorem Qm2{h l y:Nat}(hh:h<y)(hl:l<4294967296)(hy:y<4294967296):
 Qbe h l y=some ((h*4294967296+l) / y,(h*4294967296+l)%y,true):=by
 unfold Qbe
 rw[bifd,if_neg (by omega),grd_t (by simp;omega),sbind,sbind]
 rw[show(2:Nat) ^ 32=4294967296 by rfl,Nat.mod_eq_of_lt (show h*4294967296<18446744073709551616 by omega),Qsa hl]
 have h1:(h*4294967296+l) / y<4294967296:=Nat.div_lt_of_lt_mul (by
  have:h*4294967296+4294967296≤y*4294967296:=by omega
  omega)
 have h2:(h*4294967296+l)%y<y:=Nat.mod_lt _ (by omega)
 rw[Nat.mod_eq_of_lt h1,Nat.mod_eq_of_lt (show(h*4294967296+l)%y<4294967296 by omega)]
theorem Q1v{α:Type}(p:List α)(y:α)(r:List α):(p++y::r)[p.length]?=some y:=by simp
theorem Q1w{α:Type}(p:List α)(y z:α)(r:List α):(p++y::r).set p.length z=p++z::r:=by simp
theorem Vt{α:Type}{k:Nat}{p:List α}{y:α}{r:List α}(h:p.length=k):getI (p++y::r) (k:Int)=some y:=by rw[Qke,←h,Q1v]
theorem Ye{α:Type}{k:Nat}{p:List α}{y z:α}{r:List α}(h:p.length=k):(p++y::r).set (k:Int).toNat z=p++z::r:=by rw[Int.toNat_natCast,←h,Q1w]
theorem Ve(a:List Nat)(x:Nat):val (a++[x])=val a+bp a.length*x:=by rw[W9];simp[val]
theorem Qzr{α:Type}{l:List α}{k:Nat}(h:k<l.length):l=l.take k++l[k]::l.drop (k+1):=by simp
theorem Q0r(P x y m cy u v V M A c:Nat)(e:4294967296*u+v=x*y+m+cy)(h6:V+P*cy=M+x*A+c):V+P*v+P*4294967296*u=M+P*m+x*(A+P*y)+c:=by grind
theorem Qt8{p m q a:List Nat}{z x c:Nat}(hm:m.length=a.length)(hp:p.length+m.length+1+q.length≤4611686018427387904)(hwm:Wd m)(hwa:Wd a)(hx:x<4294967296)(hc:c<4294967296):
 ∃ r,Qbc (p++m++z::q) (p.length:Int) a x c=some (p++r++q)∧r.length=a.length+1∧Wd r∧val r=val m+x*val a+c:=by
 have key:∃ r,Qbc (p++m++z::q) (p.length:Int) a x c=some r∧∃ r',r=p++r'++q∧r'.length=a.length+1∧Wd r'∧val r'=val m+x*val a+c:=by
  unfold Qbc
  refine Qk8 (λj (s:List Nat×Nat)=>∃ m1,s.1=p++m1++(m.drop j++z::q)∧m1.length=j∧j≤a.length∧Wd m1∧s.2<4294967296∧val m1+bp j*s.2=val (m.take j)+x*val (a.take j)+c) ⟨[],by simp,rfl,Nat.zero_le _,W8,hc,by simp[val,Zj]⟩ ?_ ?_
  . rintro j y ⟨o,cy⟩ hj ⟨m1,h1,h2,h3,h4,h5,h6⟩
    simp only at h1 h5 h6
    subst h1
    have hja:j<a.length:=by
     rcases Nat.lt_or_ge j a.length with h | h
     . exact h
     . simp[List.getElem?_eq_none h] at hj
    have hy:a[j]=y:=by simpa [hja] using hj
    have hyw:y<4294967296:=by rw[←hy];exact Z9 hwa hja
    have hmj:j<m.length:=by omega
    have hmw:m[j]<4294967296:=Z9 hwm hmj
    rw[w64 (by omega) (by omega),show((p.length:Int)+(j:Int))=((p.length+j:Nat):Int) by omega,List.drop_eq_getElem_cons hmj,List.cons_append]
    rw[Vt (by simp;omega),sbind,Qic hx hyw hmw h5,sbind,sbind,Ye (by simp;omega)]
    refine⟨_,rfl,m1++[(x*y+m[j]+cy)%4294967296],by simp,by simp[h2],by omega,J6.2 ⟨h4,Kf.2 ⟨by omega,W8⟩⟩,by have:=Qpv hx hyw hmw h5;simp only[];omega,?_⟩
    rw[Xg hmj,Xg hja,Ve,Ve,Ve,hy,h2,List.length_take,List.length_take,Nat.min_eq_left (by omega),Nat.min_eq_left (by omega),Vw]
    exact Q0r _ _ _ _ _ _ _ _ _ _ _ (Nat.div_add_mod (x*y+m[j]+cy) 4294967296) h6
  . rintro⟨o,cy⟩ ⟨m1,h1,h2,h3,h4,h5,h6⟩
    simp only at h1 h5 h6
    subst h1
    simp only[Xq]
    rw[w64 (by omega) (by omega),show((p.length:Int)+(a.length:Int))=((p.length+a.length:Nat):Int) by omega,List.drop_of_length_le (by omega),List.nil_append]
    rw[Vt (by simp;omega),sbind,Ye (by simp;omega)]
    refine⟨_,rfl,m1++[cy],by simp,by simp[h2],J6.2 ⟨h4,Kf.2 ⟨h5,W8⟩⟩,?_⟩
    rw[Ve,h2,h6,List.take_of_length_le (by omega),List.take_of_length_le (Nat.le_refl _)]
 obtain⟨r,h1,r',h2,h3,h4,h5⟩:=key
 exact⟨r',by rw[h1,h2],h3,h4,h5⟩
theorem Qbx{n x:Nat}(hn:big≤n)(hx:x<18446744073709551616):Yb n x=some (toL x):=by
 unfold Yb
 rw[show(2:Nat) ^ 32=4294967296 by rfl,Wf hn (by simp),sbind,←Km (by
  intro y hy
  simp only[List.mem_cons,List.not_mem_nil,or_false] at hy
  rcases hy with rfl | rfl<;>omega)]
 congr 2;simp only[val];omega
theorem Q0s(P q r' r x s y vd:Nat)(e:x*q+r'=r*P+y)(h:vd=x*s+r):y+P*vd=x*(q+P*s)+r':=by grind
theorem Qsb{n:Nat}{a:List Nat}{x:Nat}(hn:big≤n)(ha:a.length<35184372088832)(hw:Wd a)(hx0:x≠0)(hx:x<4294967296):Qew n a x=some (toL (val a / x),val a%x,true):=by
 unfold Qew
 unfold big at hn
 rw[bifd,if_neg hx0,Qjr (by omega) (by omega),sbind]
 refine Qd9 (λs=>(s.2.2+1).toNat) (λs=>∃(k:Nat) (qs:List Nat),s.2.2=(k:Int) - 1∧k≤a.length∧s.1=List.replicate k 0++qs∧qs.length=a.length - k∧Wd qs∧s.2.1<x∧val (a.drop k)=x*val qs+s.2.1)
  (λt=>t.1.length=a.length∧Wd t.1∧t.2<x∧val a=x*val t.1+t.2) ⟨a.length,[],by simp only[];rw[w64 (by omega) (by omega)],Nat.le_refl _,by simp,by simp,W8,by simp only[];omega,by simp[val]⟩ (by simp only[];rw[w64 (by omega) (by omega)];omega) ?_ ?_
 . rintro⟨q,r,i⟩ ⟨k,qs,h1,h2,h3,h4,h5,h6,h7⟩
   simp only at h1 h3 h6 h7
   subst h1 h3
   simp only[bifd]
   by_cases h0:0<k
   . obtain⟨j,rfl⟩:∃ j,k=j+1:=⟨k - 1,by omega⟩
     have hj:j<a.length:=by omega
     left
     rw[if_pos (by omega),show((j+1:Nat):Int) - 1=(j:Nat) by omega,Qff hj,sbind,Qm2 h6 (Z9 hw hj) hx,sbind]
     simp only[]
     rw[List.replicate_succ',List.append_assoc,List.singleton_append,Vt (by simp),sbind,Ye (by simp),w64 (by omega) (by omega)]
     refine⟨_,rfl,⟨j,((r*4294967296+a[j]) / x)::qs,rfl,by omega,rfl,by simp;omega,Kf.2 ⟨?_,h5⟩,Nat.mod_lt _ (by omega),?_⟩,by simp only[];omega⟩
     . have:=Z9 hw hj
       exact Nat.div_lt_of_lt_mul (by
        have:r*4294967296+4294967296≤x*4294967296:=by omega
        omega)
     . rw[List.drop_eq_getElem_cons hj]
       simp only[val]
       exact Q0s 4294967296 _ _ _ _ _ _ _ (Nat.div_add_mod (r*4294967296+a[j]) x) h7
   . right
     obtain rfl:k=0:=by omega
     rw[if_neg (by omega)]
     exact⟨_,rfl,by simp at h4 ⊢;omega,by simpa using h5,h6,by simpa using h7⟩
 . rintro⟨q,r⟩ ⟨h1,h2,h3,h4⟩
   simp only at h1 h2 h3 h4
   simp only[]
   rw[Vi (by unfold big;exact hn) (by omega),sbind,←Km h2,h4,Nat.mul_add_div (by omega),Nat.mul_add_mod,Nat.div_eq_of_lt h3,Nat.mod_eq_of_lt h3,Nat.add_zero]
theorem Qsc{a:List Nat}(h:Wd a)(i:Nat):a.getD i 0<4294967296:=by
 rw[List.getD_eq_getElem?_getD]
 by_cases hi:i<a.length
 . simp[hi];exact Z9 h hi
 . simp[List.getElem?_eq_none (show a.length≤i by omega)]
theorem Ya(a:List Nat)(k:Nat):val (a.take (k+1))=val (a.take k)+bp k*a.getD k 0:=by
 by_cases h:k<a.length
 . rw[Xg h,Ve,List.length_take,Nat.min_eq_left (by omega)];simp[h]
 . rw[List.take_of_length_le (by omega),List.take_of_length_le (by omega)];simp[List.getElem?_eq_none (show a.length≤k by omega)]
def cmpI(x y:Nat):Int:=if x<y then -1 else if y<x then 1 else 0
theorem Q1x{n:Nat}(h:n≠0):bp ((toL n).length - 1)≤n:=by
 induction n using Nat.strongRecOn with
 | _ n ih=>
   rw[Y6 h,List.length_cons,Nat.add_sub_cancel]
   by_cases h1:n / 4294967296=0
   . rw[h1,Vm,List.length_nil,Zj];omega
   . have:=ih (n / 4294967296) (by omega) h1
     have hl:(toL (n / 4294967296)).length≠0:=by rw[Y6 h1];simp
     obtain⟨m,hm⟩:∃ m,(toL (n / 4294967296)).length=m+1:=⟨(toL (n / 4294967296)).length - 1,by omega⟩
     rw[hm,Nat.add_sub_cancel] at this
     rw[hm,Vw]
     have h2:bp m*4294967296≤n / 4294967296*4294967296:=Nat.mul_le_mul_right _ this
     have h3:n / 4294967296*4294967296≤n:=Nat.div_mul_le_self _ _
     exact Nat.le_trans h2 h3
theorem Qqx{m n:Nat}(h:(toL m).length<(toL n).length):m<n:=by
 have h1:=Xr (J4 m)
 rw[Jd] at h1
 have hn:n≠0:=by rintro rfl;rw[Vm] at h;simp at h
 have h2:=Q1x hn
 have h3:bp (toL m).length≤bp ((toL n).length - 1):=bp_le (by omega)
 exact Nat.lt_of_lt_of_le h1 (Nat.le_trans h3 h2)
theorem Qv0(a:List Nat)(k:Nat):val a=val (a.take k)+bp (a.take k).length*val (a.drop k):=by
 conv=>lhs;rw[←List.take_append_drop k a]
 rw[W9]
theorem Q0t{P x y u v A:Nat}(hA:A<P)(hxy:x<y)(e1:u=A+P*x)(e2:P*y≤v):u<v:=by
 have:P*(x+1)≤P*y:=Nat.mul_le_mul_left _ hxy
 rw[Nat.mul_add] at this;omega
theorem Qw6{a b:List Nat}{j:Nat}(ha:Wd a)(hj:j<a.length)(hj':j<b.length)(ht:a.drop (j+1)=b.drop (j+1))(h:a[j]<b[j]):val a<val b:=by
 have e1:=Qv0 a (j+1)
 have e2:=Qv0 b (j+1)
 rw[List.length_take,Nat.min_eq_left (by omega)] at e1 e2
 rw[e1,e2,ht]
 refine Nat.add_lt_add_right ?_ _
 rw[Xg hj,Xg hj',Ve,Ve,List.length_take,List.length_take,Nat.min_eq_left (by omega),Nat.min_eq_left (by omega)]
 have h1:=Xr (Qlo (k:=j) ha)
 rw[List.length_take,Nat.min_eq_left (by omega)] at h1
 exact Q0t h1 h rfl (Nat.le_add_left _ _)
theorem Qea{n:Nat}{a b:List Nat}(hn:big≤n)(ha:a.length≤4611686018427387904)(hb:b.length≤4611686018427387904)(hwa:Wd a)(hwb:Wd b):Qbd n a b=some (cmpI (val a) (val b)):=by
 unfold Qbd
 rw[Wf hn ha,sbind,Wf hn hb,sbind,←Km hwa,←Km hwb]
 have hla:(toL (val a)).length≤4611686018427387904:=by rw[Km hwa];exact Nat.le_trans (X3 a) ha
 have hva:=Jd (val a)
 have hvb:=Jd (val b)
 have hwa':=J4 (val a)
 have hwb':=J4 (val b)
 have l1:=@Qqx (val a) (val b)
 have l2:=@Qqx (val b) (val a)
 generalize val a=x at *
 generalize val b=y at *
 generalize toL x=a' at *
 generalize toL y=b' at *
 unfold big at hn
 rw[bifd,bifd]
 by_cases h1:a'.length<b'.length
 . rw[if_pos (by omega),cmpI,if_pos (l1 h1)]
 . rw[if_neg (by omega)]
   by_cases h2:b'.length<a'.length
   . rw[if_pos (by omega),cmpI,if_neg (by have:=l2 h2;omega),if_pos (l2 h2)]
   . rw[if_neg (by omega),w64 (by omega) (by omega)]
     refine Qd9 (λs=>(s+1).toNat) (λs=>∃ k:Nat,s=(k:Int) - 1∧k≤a'.length∧a'.drop k=b'.drop k) (λt=>(t=.go ()∧a'=b')∨(t=.out (-1)∧x<y)∨(t=.out 1∧y<x)) ⟨a'.length,rfl,Nat.le_refl _,by rw[List.drop_of_length_le (Nat.le_refl _),List.drop_of_length_le (by omega)]⟩ (by omega) ?_ ?_
     . rintro s ⟨k,rfl,hk,ht⟩
       simp only[bifd]
       by_cases h0:0<k
       . obtain⟨j,rfl⟩:∃ j,k=j+1:=⟨k - 1,by omega⟩
         have hj:j<a'.length:=by omega
         have hj':j<b'.length:=by omega
         rw[if_pos (by omega),show((j+1:Nat):Int) - 1=(j:Nat) by omega,Qff hj,sbind,Qff hj',sbind]
         by_cases g1:a'[j]<b'[j]
         . right
           rw[if_pos g1]
           refine⟨_,rfl,.inr (.inl ⟨rfl,?_⟩)⟩
           rw[←hva,←hvb];exact Qw6 hwa' hj hj' ht g1
         . rw[if_neg g1,sbind,sbind]
           by_cases g2:b'[j]<a'[j]
           . right
             rw[if_pos g2]
             refine⟨_,rfl,.inr (.inr ⟨rfl,?_⟩)⟩
             rw[←hva,←hvb];exact Qw6 hwb' hj' hj ht.symm g2
           . left
             rw[if_neg g2,w64 (by omega) (by omega)]
             refine⟨_,rfl,⟨j,rfl,by omega,?_⟩,by omega⟩
             rw[List.drop_eq_getElem_cons hj,List.drop_eq_getElem_cons hj',ht,show a'[j]=b'[j] by omega]
       . right
         obtain rfl:k=0:=by omega
         rw[if_neg (by omega)]
         exact⟨_,rfl,.inl ⟨rfl,by simpa using ht⟩⟩
     . rintro t (⟨rfl,h⟩ | ⟨rfl,h⟩ | ⟨rfl,h⟩)
       . rw[Xq]
         have:x=y:=by rw[←hva,←hvb,h]
         simp[cmpI,this]
       . rw[Qoo,cmpI,if_pos h]
       . rw[Qoo,cmpI,if_neg (by omega),if_pos h]
theorem Qzs{v:Nat}(h:v<18446744073709551616):toL v=[]∨(∃ x,toL v=[x]∧x=v)∨(∃ x y,toL v=[x,y]∧x<4294967296∧y<4294967296∧x+4294967296*y=v):=by
 have hl:=Y3 (n:=v) (k:=2) (by rw[Vw,Vw,Zj];omega)
 have hv:=Jd v
 have hw:=J4 v
 match hm:toL v,hl with
 | [],_=>exact .inl rfl
 | [x],_=>rw[hm] at hv;simp[val] at hv;exact .inr (.inl ⟨x,rfl,hv⟩)
 | [x,y],_=>
   rw[hm] at hv hw;simp[val] at hv
   exact .inr (.inr ⟨x,y,rfl,(Kf.1 hw).1,(Kf.1 (Kf.1 hw).2).1,by omega⟩)
 | _::_::_::_,h=>simp at h
theorem Qw7{v:Nat}(h:18446744073709551616≤v):2<(toL v).length:=by
 rcases Nat.lt_or_ge 2 (toL v).length with h1 | h1
 . exact h1
 . have h2:=Xr (J4 v)
   rw[Jd] at h2
   have h3:=bp_le h1
   rw[Vw,Vw,Zj] at h3
   omega
theorem Qlp{n:Nat}{a:List Nat}(hn:big≤n)(ha:a.length≤4611686018427387904)(hw:Wd a):Qdf n a=some (if val a<18446744073709551616 then (val a,true) else (0,false)):=by
 unfold Qdf
 rw[Wf hn ha,sbind,←Km hw,bifd]
 by_cases h:val a<18446744073709551616
 . rw[if_pos h]
   rcases Qzs h with h1 | ⟨x,h1,h2⟩ | ⟨x,y,h1,h2,h3,h4⟩
   . have:=Jd (val a)
     rw[h1] at this ⊢
     rw[if_neg (by decide)]
     simp only[val] at this
     simp only[rangeL,sbind,Xq,←this]
   . rw[h1,if_neg (by simp)]
     simp only[rangeL]
     rw[w64 (by omega) (by omega),grd_t (by decide),sbind,sbind,sbind,sbind]
     simp only[Xq]
     subst h2
     simp
     omega
   . rw[h1,if_neg (by simp)]
     simp only[rangeL]
     rw[w64 (x:=32*((0:Nat):Int)) (by omega) (by omega),grd_t (by decide),sbind,sbind,sbind,w64 (by omega) (by omega),grd_t (by decide)]
     simp only[sbind,Xq]
     rw[show(2:Nat) ^ min (Int.toNat (32*((0:Nat):Int))) 64=1 by rfl,show(2:Nat) ^ min (Int.toNat (32*((0+1:Nat):Int))) 64=4294967296 by rfl,Nat.mul_one,Nat.mod_eq_of_lt (show x<18446744073709551616 by omega),Nat.mod_eq_of_lt (show y*4294967296<18446744073709551616 by omega),Nat.zero_or,Nat.or_comm,Qsa h2]
     congr 2;omega
 . rw[if_neg h]
   have:=Qw7 (v:=val a) (by omega)
   rw[if_pos (by omega)]
theorem Qfc{x y c:Nat}(hx:x<4294967296)(hy:y<4294967296)(hc:c<4294967296):
 Xi x y c=some ((x+y+c)%4294967296,(x+y+c) / 4294967296):=by
 unfold Xi
 simp only[jn_eq,bifd]
 split<;>split<;>congr 1<;>refine Prod.ext ?_ ?_<;>simp only[]<;>omega
theorem Qid{x y c:Nat}(hx:x<4294967296)(hy:y<4294967296)(hc:c≤1):
 ∃ d b,Qcq x y c=some (d,b)∧d<4294967296∧b≤1∧d+y+c=x+4294967296*b:=by
 unfold Qcq
 simp only[jn_eq,bifd,sbind]
 split<;>split<;>refine⟨_,_,rfl,?_,?_,?_⟩<;>omega
theorem Qzt(P s x y u v V A C:Nat)(e:4294967296*u+v=x+y+s)(h:V+P*s=A+C):V+P*v+P*4294967296*u=A+P*x+(C+P*y):=by grind
theorem Qw8{k:Nat}{b:List Nat}{β:Type}(f:Nat->Option β):(if (k:Int)<(b.length:Int) then (getI b (k:Int)).bind f else f 0)=f (b.getD k 0):=by
 by_cases h:k<b.length
 . rw[if_pos (by omega),Qff h,sbind];simp[h]
 . rw[if_neg (by omega)];simp[List.getElem?_eq_none (show b.length≤k by omega)]
theorem Qw9{n:Nat}{a b:List Nat}(hn:big≤n)(ha:a.length<17592186044416)(hl:b.length≤a.length)(hwa:Wd a)(hwb:Wd b):Qcp n a b=some (toL (val a+val b)):=by
 unfold Qcp
 simp only[jn_eq,bifd]
 rw[if_neg (by omega)]
 rw[show(1:Int)=((1:Nat):Int) by rfl,Qg8 (by omega),sbind]
 refine Qgn (λj (s:List Nat×Nat)=>∃ m1,s.1=m1++(List.drop j a++[0])∧m1.length=j∧j≤a.length∧Wd m1∧s.2≤1∧val m1+bp j*s.2=val (a.take j)+val (b.take j)) ⟨[],by simp,rfl,Nat.zero_le _,W8,by simp,by simp[val,Zj]⟩ ?_ ?_
 . rintro j y ⟨o,cy⟩ hj ⟨m1,h1,h2,h3,h4,h5,h6⟩
   simp only at h1 h5 h6
   subst h1
   have hja:j<a.length:=by
    rcases Nat.lt_or_ge j a.length with h | h
    . exact h
    . simp[List.getElem?_eq_none h] at hj
   have hy:a[j]=y:=by simpa [hja] using hj
   have hyw:y<4294967296:=by rw[←hy];exact Z9 hwa hja
   rw[Qw8,Qfc hyw (Qsc hwb j) (by simp only[];omega),sbind,List.drop_eq_getElem_cons hja,List.cons_append,Vt h2,sbind,Ye h2]
   refine⟨_,rfl,m1++[(y+b.getD j 0+cy)%4294967296],by simp,by simp[h2],by omega,J6.2 ⟨h4,Kf.2 ⟨by omega,W8⟩⟩,?_,?_⟩
   . have:=Qsc hwb j
     simp only[];omega
   . rw[Ya,Ya,Ve,h2,Vw]
     rw[show a.getD j 0=y by rw[←hy];simp[hja]]
     exact Qzt _ _ _ _ _ _ _ _ _ (Nat.div_add_mod (y+b.getD j 0+cy) 4294967296) h6
 . rintro⟨o,cy⟩ ⟨m1,h1,h2,h3,h4,h5,h6⟩
   simp only at h1 h5 h6
   subst h1
   simp only[Xq]
   rw[List.drop_of_length_le (Nat.le_refl _),List.nil_append,Vt h2,sbind,Ye h2,Wf hn (by simp;omega),sbind,←Km (J6.2 ⟨h4,Kf.2 ⟨by omega,W8⟩⟩),Ve,h2,h6,List.take_of_length_le (Nat.le_refl _),List.take_of_length_le hl]
theorem Qm3{n:Nat}{a b:List Nat}(hn:big≤n)(ha:a.length<17592186044416)(hb:b.length<17592186044416)(hwa:Wd a)(hwb:Wd b):Qcp n a b=some (toL (val a+val b)):=by
 by_cases hl:b.length≤a.length
 . exact Qw9 hn ha hl hwa hwb
 . rw[Nat.add_comm,←Qw9 hn hb (by omega) hwb hwa]
   unfold Qcp
   simp only[jn_eq,bifd]
   rw[if_pos (by omega),if_neg (by omega)]
theorem Qv1{n:Nat}{a b:List Nat}(hn:big≤n)(ha:a.length<17592186044410)(hb:b.length<17592186044410)(hwa:Wd a)(hwb:Wd b):Qdx n [a,b]=some (toL (val a+val b)):=by
 unfold Qdx
 have e1:=Qm3 (a:=[]) (b:=toL (val a)) hn (by simp) (by have:=X3 a;rw[Km hwa];omega) W8 (J4 _)
 have e2:=Qm3 (a:=toL (val a)) (b:=toL (val b)) hn (by have:=X3 a;rw[Km hwa];omega) (by have:=X3 b;rw[Km hwb];omega) (J4 _) (J4 _)
 rw[Jd] at e1 e2
 rw[Jd] at e2
 simp only[val,Nat.zero_add] at e1
 simp only[rangeL,Wf hn (show a.length≤4611686018427387904 by omega),Wf hn (show b.length≤4611686018427387904 by omega),sbind,←Km hwa,←Km hwb,e1,e2,Xq]
theorem Qem{α:Type}{l:List α}{i:Nat}{x:α}(h:l[i]?=some x):i<l.length:=by
 rcases Nat.lt_or_ge i l.length with h1 | h1
 . exact h1
 . rw[List.getElem?_eq_none h1] at h;cases h
theorem Vp{x y:Nat}(h:x≤y):(toL x).length≤(toL y).length:=by
 refine Y3 ?_
 have:=Xr (J4 y)
 rw[Jd] at this;omega
theorem Q0u(P c c' x y d V A B:Nat)(e:d+y+c=x+4294967296*c')(h:V+B=A+P*c):V+P*d+(B+P*y)=A+P*x+P*4294967296*c':=by grind
theorem Qnv{n:Nat}{a b:List Nat}(hn:big≤n)(ha:a.length<17592186044416)(hb:b.length<17592186044416)(hwa:Wd a)(hwb:Wd b):
 Qhr n a b=some (if val a<val b then ([],false) else (toL (val a - val b),true)):=by
 unfold Qhr
 have hla:(toL (val a)).length<17592186044416:=by rw[Km hwa];exact Nat.lt_of_le_of_lt (X3 a) ha
 have hlb:(toL (val b)).length<17592186044416:=by rw[Km hwb];exact Nat.lt_of_le_of_lt (X3 b) hb
 rw[Wf hn (by omega),sbind,Wf hn (by omega),sbind,←Km hwa,←Km hwb,Qea hn (by omega) (by omega) (J4 _) (J4 _),sbind,Jd,Jd]
 have hva:=Jd (val a)
 have hvb:=Jd (val b)
 have hwa':=J4 (val a)
 have hwb':=J4 (val b)
 have hl:=λh=>Vp (x:=val b) (y:=val a) h
 generalize val a=x at *
 generalize val b=y at *
 generalize toL x=a' at *
 generalize toL y=b' at *
 rw[bifd]
 by_cases hxy:x<y
 . rw[if_pos (by rw[cmpI,if_pos hxy];decide),if_pos hxy]
 . rw[if_neg (by rw[cmpI,if_neg hxy];split<;>decide),if_neg hxy]
   have hl:=hl (by omega)
   simp only[jn_eq,bifd]
   rw[show(0:Int)=((0:Nat):Int) by rfl,Qg8 (by omega),sbind]
   refine Qgn (λj (s:List Nat×Nat)=>∃ m1,s.1=m1++List.drop j a'∧m1.length=j∧j≤a'.length∧Wd m1∧s.2≤1∧val m1+val (b'.take j)=val (a'.take j)+bp j*s.2) ⟨[],by simp,rfl,Nat.zero_le _,W8,by simp,by simp[val]⟩ ?_ ?_
   . rintro j w ⟨o,cy⟩ hj ⟨m1,h1,h2,h3,h4,h5,h6⟩
     simp only at h1 h5 h6
     subst h1
     have hja:j<a'.length:=Qem hj
     have hy:a'[j]=w:=by simpa [hja] using hj
     have hyw:w<4294967296:=by rw[←hy];exact Z9 hwa' hja
     obtain⟨d,c',g1,g2,g3,g4⟩:=Qid hyw (Qsc hwb' j) h5
     rw[Qw8,g1,sbind,List.drop_eq_getElem_cons hja,Vt h2,sbind,Ye h2]
     refine⟨_,rfl,m1++[d],by simp,by simp[h2],by omega,J6.2 ⟨h4,Kf.2 ⟨g2,W8⟩⟩,g3,?_⟩
     rw[Ya,Ya,Ve,h2,Vw]
     rw[show a'.getD j 0=w by rw[←hy];simp[hja]]
     exact Q0u _ _ _ _ _ _ _ _ _ g4 h6
   . rintro⟨o,cy⟩ ⟨m1,h1,h2,h3,h4,h5,h6⟩
     simp only at h1 h5 h6
     subst h1
     simp only[Xq]
     rw[List.take_of_length_le (Nat.le_refl _),List.take_of_length_le hl,hva,hvb] at h6
     rw[List.drop_of_length_le (Nat.le_refl _),List.append_nil,Wf hn (by omega),sbind,←Km h4]
     have h7:cy=0:=by
      have g1:=Xr h4
      rw[h2] at g1
      rcases Nat.eq_zero_or_pos cy with h | h
      . exact h
      . have g6:bp a'.length*1≤bp a'.length*cy:=Nat.mul_le_mul_left _ h
        omega
     subst h7
     rw[Nat.mul_zero] at h6
     congr 3;omega
theorem Qv2{n:Nat}{a b:List Nat}(hn:big≤n)(ha:a.length<17592186044416)(hb:b.length<17592186044416)(hwa:Wd a)(hwb:Wd b):
 Qhs n a b=some (toL (val a - val b+(val b - val a)),cmpI (val a) (val b)):=by
 unfold Qhs
 rw[Qea hn (by omega) (by omega) hwa hwb,sbind]
 simp only[jn_eq,bifd]
 by_cases h:val a<val b
 . rw[if_pos (by rw[cmpI,if_pos h];decide),Qnv hn hb ha hwb hwa,if_neg (by omega),sbind]
   rw[show val a - val b+(val b - val a)=val b - val a by omega]
 . rw[if_neg (by rw[cmpI,if_neg h];split<;>decide),Qnv hn ha hb hwa hwb,if_neg h,sbind]
   rw[show val a - val b+(val b - val a)=val a - val b by omega]
def blen(x:Nat):Nat:=if x=0 then 0 else Nat.log2 x+1
theorem Qhx:blen 0=0:=by unfold blen;rw[if_pos rfl]
theorem Qxa{x k:Nat}(h1:2 ^ k≤x)(h2:x<2 ^ (k+1)):blen x=k+1:=by
 have h0:x≠0:=by have:=Nat.two_pow_pos k;omega
 unfold blen;rw[if_neg h0,(Nat.log2_eq_iff h0).2 ⟨h1,h2⟩]
theorem Qsd{x:Nat}:x<2 ^ blen x:=by
 unfold blen
 by_cases h0:x=0
 . rw[if_pos h0,h0];decide
 . rw[if_neg h0];exact Nat.lt_log2_self
theorem Qlq{x:Nat}(h0:x≠0):2 ^ (blen x - 1)≤x:=by
 unfold blen;rw[if_neg h0];exact Nat.log2_self_le h0
theorem Qpw{x:Nat}(h0:x≠0):1≤blen x:=by unfold blen;rw[if_neg h0];omega
theorem Qv3{x w:Nat}(h:x / 2 ^ w≠0):blen x=blen (x / 2 ^ w)+w:=by
 have h1:=Qlq h
 have h2:=Qsd (x:=x / 2 ^ w)
 have h3:=Qpw h
 obtain⟨k,hk⟩:∃ k,blen (x / 2 ^ w)=k+1:=⟨_,(Nat.sub_add_cancel h3).symm⟩
 rw[hk,Nat.add_sub_cancel] at h1
 rw[hk] at h2 ⊢
 rw[show k+1+w=(k+w)+1 by omega]
 refine Qxa ?_ ?_
 . rw[Nat.pow_add];exact(Nat.le_div_iff_mul_le (Nat.two_pow_pos w)).1 h1
 . rw[show k+w+1=(k+1)+w by omega,Nat.pow_add];exact(Nat.div_lt_iff_lt_mul (Nat.two_pow_pos w)).1 h2
theorem Qm4{n x:Nat}(hn:big≤n)(hx:x<4294967296):Qeh n x=some (blen x:Int):=by
 unfold Qeh
 unfold big at hn
 refine Qd9 (λs=>s.2.2.toNat) (λs=>∃(w k B:Nat),s.2.2=w∧s.2.1=k∧(w,B)∈[(16,4294967296),(8,65536),(4,256),(2,16),(1,4),(0,2)]∧s.1<B∧k+2*w≤32∧blen x=k+blen s.1)
  (λt=>∃ k:Nat,t.2=k∧k≤32∧t.1<2∧blen x=k+blen t.1) ⟨16,0,4294967296,rfl,rfl,by decide,hx,by decide,by simp⟩ (by simp only[];omega) ?_ ?_
 . rintro⟨y,c,w'⟩ ⟨w,k,B,h1,h2,h3,h4,h5,h6⟩
   simp only at h1 h2 h4 h6
   subst h1 h2
   simp only[jn_eq,bifd,bifnd]
   by_cases h0:0<w
   . left
     rw[if_pos (by omega),grd_t (by simp),sbind,sbind,Int.toNat_natCast]
     have hw:w≤16:=by omega
     have hd:Int.tdiv (w:Int) 2=((w / 2:Nat):Int):=by rfl
     rw[hd,Nat.min_eq_left (by omega),w64 (x:=((w / 2:Nat):Int)) (by omega) (by omega),w64 (by omega) (by omega)]
     have hB:∃ B',(w / 2,B')∈[(16,4294967296),(8,65536),(4,256),(2,16),(1,4),(0,2)]∧B'*2 ^ w=B∧(2 ^ w≤B'):=by
      simp only[List.mem_cons,List.not_mem_nil,or_false,Prod.mk.injEq] at h3
      rcases h3 with ⟨rfl,rfl⟩ | ⟨rfl,rfl⟩ | ⟨rfl,rfl⟩ | ⟨rfl,rfl⟩ | ⟨rfl,rfl⟩ | ⟨rfl,rfl⟩
      . exact⟨65536,by decide,by decide,by decide⟩
      . exact⟨256,by decide,by decide,by decide⟩
      . exact⟨16,by decide,by decide,by decide⟩
      . exact⟨4,by decide,by decide,by decide⟩
      . exact⟨2,by decide,by decide,by decide⟩
      . omega
     obtain⟨B',g1,g2,g3⟩:=hB
     by_cases hz:y / 2 ^ w=0
     . rw[if_pos hz]
       refine⟨_,rfl,⟨w / 2,k,B',rfl,rfl,g1,?_,by omega,h6⟩,by simp only[];omega⟩
       have:=(Nat.div_eq_zero_iff_lt (Nat.two_pow_pos w)).1 hz
       exact Nat.lt_of_lt_of_le this g3
     . rw[if_neg hz]
       refine⟨_,rfl,⟨w / 2,k+w,B',rfl,by simp only[];omega,g1,?_,by omega,?_⟩,by simp only[];omega⟩
       . rw[←g2] at h4;exact(Nat.div_lt_iff_lt_mul (Nat.two_pow_pos w)).2 h4
       . rw[h6,Qv3 hz];simp only[];omega
   . right
     obtain rfl:w=0:=by omega
     rw[if_neg (by omega)]
     simp only[List.mem_cons,List.not_mem_nil,or_false,Prod.mk.injEq] at h3
     refine⟨_,rfl,k,rfl,by omega,by simp only[];omega,h6⟩
 . rintro⟨y,c⟩ ⟨k,h1,h2,h3,h4⟩
   simp only at h1 h3 h4
   subst h1
   rw[h4,w64 (by simp only[];omega) (by simp only[];omega)]
   have:blen y=y:=by
    have:y=0∨y=1:=by omega
    rcases this with rfl | rfl
    . rw[Qhx]
    . exact Qxa (k:=0) (by decide) (by decide)
   rw[this];simp
theorem Qnw(k:Nat):bp k=2 ^ (32*k):=by unfold bp;rw[Nat.pow_mul]
theorem Qpx{v:Nat}(h:toL v≠[]):∃ p x,toL v=p++[x]∧x≠0∧x<4294967296∧Wd p:=by
 have hw:=J4 v
 rcases List.eq_nil_or_concat (toL v) with h0 | ⟨p,x,h1⟩
 . exact absurd h0 h
 . rw[List.concat_eq_append] at h1
   refine⟨p,x,h1,?_,?_,?_⟩
   . rintro rfl
     have h2:=Qzq v
     rw[h1,Qpc] at h2
     have:=X3 p
     rw[h2] at this;simp at this;omega
   . rw[h1] at hw;exact(Kf.1 (J6.1 hw).2).1
   . rw[h1] at hw;exact(J6.1 hw).1
theorem Qzu{p:List Nat}{x:Nat}(hp:Wd p)(hx:x≠0):blen (val (p++[x]))=32*p.length+blen x:=by
 have hl:=Xr hp
 have hd:val (p++[x]) / 2 ^ (32*p.length)=x:=by
  rw[←Qnw,Ve,Nat.add_mul_div_left _ _ (Qzo _),Nat.div_eq_of_lt hl,Nat.zero_add]
 rw[Qv3 (w:=32*p.length) (by rw[hd];exact hx),hd,Nat.add_comm]
theorem Qm5{n:Nat}{a:List Nat}(hn:big≤n)(ha:a.length<17592186044416)(hw:Wd a):Qbg n a=some (blen (val a):Int):=by
 unfold Qbg
 rw[Vi hn (by omega),sbind,←Km hw,bifd]
 have hl:(toL (val a)).length<17592186044416:=by rw[Km hw];exact Nat.lt_of_le_of_lt (X3 a) ha
 by_cases h:toL (val a)=[]
 . rw[if_pos (by rw[h];rfl)]
   rw[Km hw] at h
   rw[Qtg h,Qhx];rfl
 . rw[if_neg (by intro h';exact h (List.eq_nil_of_length_eq_zero (by omega)))]
   obtain⟨p,x,h1,h2,h3,h4⟩:=Qpx h
   have hv:val a=val (p++[x]):=by rw[←h1,Jd]
   rw[hv,Qzu h4 h2]
   rw[hv] at h1 hl
   rw[h1] at hl
   rw[h1,List.length_append,List.length_singleton] at *
   rw[w64 (x:=((p.length+1:Nat):Int) - 1) (by omega) (by omega),show((p.length+1:Nat):Int) - 1=(p.length:Nat) by omega,Vt rfl,sbind,Qm4 hn h3,sbind,sbind]
   have hb:blen x≤32:=by
    rcases Nat.lt_or_ge 32 (blen x) with h | h
    . have g1:=Qlq h2
      have g2:2 ^ 32≤2 ^ (blen x - 1):=Nat.pow_le_pow_right (by decide) (by omega)
      rw[show(2:Nat) ^ 32=4294967296 by decide] at g2
      omega
    . exact h
   rw[w64 (x:=32*(p.length:Int)) (by omega) (by omega),w64 (by omega) (by omega)]
   congr 1
theorem Qzv(P M R x A B m V:Nat)(h1:V=M+P*m)(h2:R=m+x*A+0)(h3:V=A*B):M+P*R=A*(B+P*x):=by grind
theorem Qa6{n:Nat}{a b:List Nat}(hn:big≤n)(ha:a.length<8796093022208)(hb:b.length<8796093022208)(hwa:Wd a)(hwb:Wd b):X6 n a b=some (toL (val a*val b)):=by
 unfold X6
 rw[w64 (x:=(a.length:Int)+(b.length:Int)) (by omega) (by omega),w64 (by omega) (by omega),show((a.length:Int)+(b.length:Int))+1=((a.length+b.length+1:Nat):Int) by omega,Qjr (by omega) (by omega),sbind]
 refine Qgn (λj (s:List Nat)=>∃ m1,s=m1++List.replicate (b.length+1 - j) 0∧m1.length=j+a.length∧j≤b.length∧Wd m1∧val m1=val a*val (b.take j)) ⟨List.replicate a.length 0,by rw[List.replicate_append_replicate];congr 1,by simp,Nat.zero_le _,Qqw (by omega),by simp[val,Qmm]⟩ ?_ ?_
 . rintro j x o hj ⟨m1,h1,h2,h3,h4,h5⟩
   subst h1
   have hjb:j<b.length:=Qem hj
   have hx:b[j]=x:=by simpa [hjb] using hj
   have hxw:x<4294967296:=by rw[←hx];exact Z9 hwb hjb
   obtain⟨r,g1,g2,g3,g4⟩:=Qt8 (p:=m1.take j) (m:=m1.drop j) (q:=List.replicate (b.length - j) 0) (a:=a) (z:=0) (x:=x) (c:=0) (by simp;omega) (by simp;omega) (Qiz h4) hwa hxw (by omega)
   have hpj:(m1.take j).length=j:=by simp;omega
   rw[hpj,List.take_append_drop] at g1
   rw[show b.length+1 - j=(b.length - j)+1 by omega,List.replicate_succ,g1,sbind]
   refine⟨_,rfl,m1.take j++r,by rw[show b.length+1 - (j+1)=b.length - j by omega],by simp;omega,by omega,J6.2 ⟨Qlo h4,g3⟩,?_⟩
   have hv:val m1=val (m1.take j)+bp j*val (m1.drop j):=by
    conv=>lhs;rw[←List.take_append_drop j m1]
    rw[W9,hpj]
   rw[W9,hpj,Ya,show b.getD j 0=x by rw[←hx];simp[hjb]]
   exact Qzv _ _ _ _ _ _ _ _ hv g4 h5
 . rintro o ⟨m1,h1,h2,h3,h4,h5⟩
   subst h1
   simp only[Xq]
   rw[Vi hn (by simp;omega),sbind,←Km (J6.2 ⟨h4,Qqw (by omega)⟩),W9,Qmm,Nat.mul_zero,Nat.add_zero,h5,List.take_of_length_le (Nat.le_refl _)]
theorem lo_eq{x r:Nat}(hr:r≤32):(x*2 ^ r)%4294967296=(x%2 ^ (32 - r))*2 ^ r:=by
 rw[show(4294967296:Nat)=2 ^ (32 - r)*2 ^ r by rw[←Nat.pow_add,show 32 - r+r=32 by omega],Nat.mul_mod_mul_right]
theorem or_lo{c x r:Nat}(hr:r≤32)(hc:c<2 ^ r):c ||| (x*2 ^ r)%4294967296=c+(x*2 ^ r)%4294967296:=by
 rw[lo_eq hr,Nat.or_comm,Nat.mul_comm,←Nat.two_pow_add_eq_or_of_lt hc,Nat.add_comm]
theorem hi_lt{x r:Nat}(hx:x<4294967296):(x*2 ^ r) / 4294967296<2 ^ r:=
 Nat.div_lt_of_lt_mul (Nat.mul_lt_mul_of_pos_right hx (Nat.two_pow_pos r))
theorem Qmn{r:Nat}(hr:r≤32):2 ^ r≤4294967296:=by have h:2 ^ r≤2 ^ 32:=Nat.pow_le_pow_right (by decide) hr;rwa [show(2:Nat) ^ 32=4294967296 by rfl] at h
theorem sh_lt{x r:Nat}(hr:r≤32)(hx:x<4294967296):x*2 ^ r<18446744073709551616:=by
 have h:=Qmn hr
 have:x*2 ^ r≤4294967295*4294967296:=Nat.mul_le_mul (by omega) h
 omega
theorem Q1y(P c V A R x lo hi:Nat)(e:4294967296*hi+lo=x*R)(h:V+P*c=A*R):V+P*(c+lo)+P*4294967296*hi=(A+P*x)*R:=by grind
theorem Qnx{n k:Nat}{a:List Nat}(hn:big≤n)(ha:a.length<8796093022208)(hw:Wd a)(hk:k≤4096):Qdy n a (k:Int)=some (toL (val a*2 ^ k)):=by
 unfold Qdy
 rw[show min (max (k:Int) 0) 4096=(k:Int) by omega]
 rw[show Int.tdiv (k:Int) 32=((k / 32:Nat):Int) by rfl,show Int.tmod (k:Int) 32=((k%32:Nat):Int) by rfl]
 have hp:2 ^ k=bp (k / 32)*2 ^ (k%32):=by rw[Qnw,←Nat.pow_add,Nat.div_add_mod]
 have hwk:k / 32≤128:=by omega
 have hr:k%32≤31:=by omega
 rw[hp]
 generalize k / 32=w at *
 generalize k%32=r at *
 rw[w64 (x:=(w:Int)) (by omega) (by omega),sbind,w64 (x:=(w:Int)+(a.length:Int)) (by omega) (by omega),w64 (by omega) (by omega),show(w:Int)+(a.length:Int)+1=((w+a.length+1:Nat):Int) by omega,Qjr (by omega) (by omega),sbind]
 refine Qgn (λj (s:List Nat)=>∃ m1 c,s=(List.replicate w 0++m1)++c::List.replicate (a.length - j) 0∧m1.length=j∧j≤a.length∧Wd m1∧c<2 ^ r∧val m1+bp j*c=val (a.take j)*2 ^ r) ⟨[],0,by rw[List.append_nil,←List.replicate_succ,List.replicate_append_replicate];congr 1,rfl,Nat.zero_le _,W8,Nat.two_pow_pos r,by simp[val]⟩ ?_ ?_
 . rintro j x s hj ⟨m1,c,h1,h2,h3,h4,h5,h6⟩
   subst h1
   have hja:j<a.length:=Qem hj
   have hx:a[j]=x:=by simpa [hja] using hj
   have hxw:x<4294967296:=by rw[←hx];exact Z9 hw hja
   have hlen:(List.replicate w 0++m1).length=w+j:=by simp;omega
   have g1:=sh_lt (r:=r) (by omega) hxw
   have g2:=hi_lt (r:=r) hxw
   have g3:=Qmn (r:=r) (by omega)
   have g4:=or_lo (x:=x) (show r≤32 by omega) h5
   rw[grd_t (by simp),sbind,Int.toNat_natCast,Nat.min_eq_left (by omega),Nat.mod_eq_of_lt g1,sbind,w64 (x:=(w:Int)+(j:Int)) (by omega) (by omega),sbind,show(w:Int)+(j:Int)=((w+j:Nat):Int) by omega]
   rw[Vt hlen,sbind,sbind,sbind,Ye hlen,g4,show(2:Nat) ^ 32=4294967296 by rfl,Nat.mod_eq_of_lt (show x*2 ^ r / 4294967296<4294967296 by omega)]
   obtain⟨d,hd⟩:∃ d,a.length - j=d+1:=⟨a.length - j - 1,by omega⟩
   rw[w64 (by omega) (by omega),show((w+j:Nat):Int)+1=((w+j+1:Nat):Int) by omega,hd,List.replicate_succ]
   rw[show ∀(y:Nat) (l:List Nat),List.replicate w 0++m1++y::l=(List.replicate w 0++(m1++[y]))++l by intro y l;simp]
   have hlen2:(List.replicate w 0++(m1++[c+x*2 ^ r%4294967296])).length=w+j+1:=by simp;omega
   rw[Vt hlen2,sbind,Ye hlen2,sbind]
   refine⟨_,rfl,m1++[c+x*2 ^ r%4294967296],x*2 ^ r / 4294967296,by rw[show a.length - (j+1)=d by omega],by simp[h2],by omega,J6.2 ⟨h4,Kf.2 ⟨?_,W8⟩⟩,g2,?_⟩
   . rw[lo_eq (by omega)]
     have e1:x%2 ^ (32 - r)+1≤2 ^ (32 - r):=Nat.mod_lt _ (Nat.two_pow_pos _)
     have e2:=Nat.mul_le_mul_right (2 ^ r) e1
     rw[←Nat.pow_add,show 32 - r+r=32 by omega,show(2:Nat) ^ 32=4294967296 by rfl,Nat.add_mul,Nat.one_mul] at e2
     omega
   . rw[Ya,Ve,h2,Vw,show a.getD j 0=x by rw[←hx];simp[hja]]
     exact Q1y _ _ _ _ _ _ _ _ (Nat.div_add_mod (x*2 ^ r) 4294967296) h6
 . rintro s ⟨m1,c,h1,h2,h3,h4,h5,h6⟩
   subst h1
   simp only[Xq]
   have g3:=Qmn (r:=r) (by omega)
   rw[Vi hn (by simp;omega),sbind,←Km (J6.2 ⟨J6.2 ⟨Qqw (by omega),h4⟩,Kf.2 ⟨by omega,Qqw (by omega)⟩⟩)]
   rw[List.append_assoc,W9,Qmm,List.length_replicate,Nat.zero_add,W9]
   simp only[val]
   rw[Qmm,h2,Nat.mul_zero,Nat.add_zero,h6,List.take_of_length_le (Nat.le_refl _),Nat.mul_left_comm]
theorem Qny{a:List Nat}(hw:Wd a)(k:Nat):val a / bp k=val (a.drop k):=by
 rcases Nat.lt_or_ge k a.length with h | h
 . have h1:val a=val (a.take k)+bp k*val (a.drop k):=by
    conv=>lhs;rw[←List.take_append_drop k a]
    rw[W9,List.length_take,Nat.min_eq_left (by omega)]
   have h2:=Xr (Qlo (k:=k) hw)
   rw[List.length_take,Nat.min_eq_left (by omega)] at h2
   rw[h1,Nat.add_mul_div_left _ _ (Qzo k),Nat.div_eq_of_lt h2,Nat.zero_add]
 . rw[List.drop_of_length_le h]
   exact Nat.div_eq_of_lt (Nat.lt_of_lt_of_le (Xr hw) (bp_le h))
theorem Qzw{a:List Nat}{k:Nat}(h:k<a.length):val (a.drop k)=a[k]+4294967296*(a.getD (k+1) 0+4294967296*val (a.drop (k+2))):=by
 rw[List.drop_eq_getElem_cons h]
 simp only[val]
 by_cases h2:k+1<a.length
 . rw[List.drop_eq_getElem_cons h2];simp[val,h2]
 . rw[List.drop_of_length_le (by omega),List.drop_of_length_le (by omega)];simp[List.getElem?_eq_none (show a.length≤k+1 by omega),val]
theorem Q0v{v z r:Nat}(hr:r≤32):((v+4294967296*4294967296*z) / 2 ^ r)%4294967296=(v / 2 ^ r)%4294967296:=by
 rw[show 4294967296*4294967296*z=2 ^ r*(4294967296*(2 ^ (32 - r)*z)) by
  have:2 ^ r*2 ^ (32 - r)=4294967296:=by rw[←Nat.pow_add,show r+(32 - r)=32 by omega]
  calc 4294967296*4294967296*z=(2 ^ r*2 ^ (32 - r))*4294967296*z:=by rw[this]
   _=_:=by grind]
 rw[Nat.add_mul_div_left _ _ (Nat.two_pow_pos r),Nat.add_mul_mod_self_left]
theorem Q0w{k:Nat}{b:List Nat}{x:Nat}{β:Type}(f:Nat->Option β)(hb:Wd b)(hx:x<4294967296):(if ((k:Nat):Int)<(b.length:Int) then (getI b (k:Int)).bind (λy=>f (x ||| (y*2 ^ 32)%18446744073709551616)) else f x)=f (x+4294967296*b.getD k 0):=by
 by_cases h:k<b.length
 . rw[if_pos (by omega),Qff h,sbind]
   have hy:=Z9 hb h
   rw[show(2:Nat) ^ 32=4294967296 by rfl,Nat.mod_eq_of_lt (by omega),Nat.or_comm,Qsa hx,Nat.mul_comm,Nat.add_comm]
   simp[h]
 . rw[if_neg (by omega)];simp[List.getElem?_eq_none (show b.length≤k by omega)]
theorem Q0x(X P:Nat):X%P+P*(X / P%4294967296)=X%(P*4294967296):=by
 rw[Nat.mod_mul]
theorem Qse{n k:Nat}{a:List Nat}(hn:big≤n)(ha:a.length<8796093022208)(hw:Wd a)(hk:k≤4611686018427387904):Qey n a (k:Int)=some (toL (val a / 2 ^ k)):=by
 unfold Qey
 rw[show max (k:Int) 0=(k:Int) by omega]
 rw[show Int.tdiv (k:Int) 32=((k / 32:Nat):Int) by rfl,show Int.tmod (k:Int) 32=((k%32:Nat):Int) by rfl]
 have hp:2 ^ k=bp (k / 32)*2 ^ (k%32):=by rw[Qnw,←Nat.pow_add,Nat.div_add_mod]
 have hr:k%32≤31:=by omega
 have hwk:k / 32≤4611686018427387904:=by omega
 rw[hp]
 generalize k / 32=w at *
 generalize k%32=r at *
 rw[←Nat.div_div_eq_div_mul,Qny hw]
 rw[w64 (x:=(w:Int)) (by omega) (by omega),sbind,bifd]
 by_cases hle:a.length≤w
 . rw[if_pos (by omega),List.drop_of_length_le hle];simp[val,Vm]
 . rw[if_neg (by omega),w64 (x:=(a.length:Int) - (w:Int)) (by omega) (by omega),sbind,show(a.length:Int) - (w:Int)=((a.length - w:Nat):Int) by omega,Qjr (by omega) (by omega),sbind]
   refine Qgn (λj (s:List Nat)=>∃ m1,s=m1++List.replicate (a.length - w - j) 0∧m1.length=j∧Wd m1∧val m1=(val (a.drop w) / 2 ^ r)%bp j) ⟨[],by simp,rfl,W8,by simp[val,Zj,Nat.mod_one]⟩ ?_ ?_
   . rintro j x s hj ⟨m1,h1,h2,h3,h4⟩
     subst h1
     have hja:j<a.length - w:=by have:=Qem hj;simpa using this
     have hwj:w+j<a.length:=by omega
     simp only[jn_eq,bifd]
     rw[w64 (x:=(w:Int)+(j:Int)) (by omega) (by omega),show(w:Int)+(j:Int)=((w+j:Nat):Int) by omega,sbind,Qff hwj,sbind,sbind,w64 (x:=((w+j:Nat):Int)+1) (by omega) (by omega),show((w+j:Nat):Int)+1=((w+j+1:Nat):Int) by omega]
     simp only[sbind]
     rw[w64 (x:=((w+j:Nat):Int)+1) (by omega) (by omega),show((w+j:Nat):Int)+1=((w+j+1:Nat):Int) by omega]
     rw[Q0w (β:=Lp (List Nat) (List Nat)) (λ(v:Nat)=>(grd (decide (0≤(r:Int)))).bind λ_=>(getI (m1++List.replicate (a.length - w - j) 0) (j:Int)).bind λ_=>some (Lp.go (List.set (m1++List.replicate (a.length - w - j) 0) (Int.toNat (j:Int)) (v / 2 ^ (min (Int.toNat (r:Int)) 64)%4294967296)))) hw (Z9 hw hwj)]
     rw[grd_t (by simp),sbind,Int.toNat_natCast (n:=r),Nat.min_eq_left (by omega)]
     obtain⟨d,hd⟩:∃ d,a.length - w - j=d+1:=⟨a.length - w - j - 1,by omega⟩
     rw[hd,List.replicate_succ,Vt h2,sbind,Ye h2]
     refine⟨_,rfl,m1++[(a[w+j]+4294967296*a.getD (w+j+1) 0) / 2 ^ r%4294967296],by rw[show a.length - w - (j+1)=d by omega];simp,by simp[h2],J6.2 ⟨h3,Kf.2 ⟨by omega,W8⟩⟩,?_⟩
     rw[Ve,h2,Vw,←Q0x,h4,Nat.div_div_eq_div_mul (val (a.drop w)),Nat.mul_comm (2 ^ r) (bp j),←Nat.div_div_eq_div_mul (val (a.drop w)),Qny (Qiz hw),List.drop_drop,Qzw hwj,Nat.mul_add,←Nat.add_assoc,←Nat.mul_assoc,Q0v (by omega)]
   . rintro s ⟨m1,h1,h2,h3,h4⟩
     subst h1
     simp only[Xq]
     rw[List.length_replicate] at h2 h4
     rw[List.length_replicate,Nat.sub_self,List.replicate_zero,List.append_nil,Vi hn (by omega),sbind,←Km h3,h4,Nat.mod_eq_of_lt]
     have:=Xr (Qiz (k:=w) hw)
     rw[List.length_drop] at this
     exact Nat.lt_of_le_of_lt (Nat.div_le_self _ _) this
theorem Qxb{q r x0 x1 x2 x3 x4:Nat}(h1:q*x3+r=x0*4294967296+x1)(h2:q*x4≤r*4294967296+x2):q*(x3*4294967296+x4)≤(x0*4294967296+x1)*4294967296+x2:=by
 rw[←h1];grind
theorem Q1z{q r x0 x1 x2 x3 x4:Nat}(h1:(q+1)*x3+r=x0*4294967296+x1)(h2:r*4294967296+x2<(q+1)*x4):(x0*4294967296+x1)*4294967296+x2<(q+1)*(x3*4294967296+x4):=by
 rw[←h1];grind
theorem Q10{q r x3:Nat}{U:Nat}(h1:(q+1)*x3+r=U):q*x3+(r+x3)=U:=by rw[←h1];grind
theorem Qxc{q r x0 x1 x2 x3 x4:Nat}(h1:q*x3+r=x0*4294967296+x1)(hr:4294967296≤r)(hq:q<4294967296)(h4:x4<4294967296):q*(x3*4294967296+x4)≤(x0*4294967296+x1)*4294967296+x2:=by
 have e1:q*x4≤4294967295*4294967295:=Nat.mul_le_mul (by omega) (by omega)
 exact Qxb h1 (by omega)
theorem Q3k{X u w x2:Nat}(h:X<u)(h2:x2<4294967296):X*4294967296+x2<u*4294967296+w:=by omega
theorem Q3l{q x0 x1 x2 x3 x4:Nat}(h:x0*4294967296+x1<(q+1)*x3)(h2:x2<4294967296):(x0*4294967296+x1)*4294967296+x2<(q+1)*(x3*4294967296+x4):=by
 have e2:(q+1)*(x3*4294967296+x4)=((q+1)*x3)*4294967296+(q+1)*x4:=by rw[Nat.mul_add,Nat.mul_assoc]
 rw[e2]
 exact Q3k h h2
theorem Qqy{n q0 r0 x0 x1 x2 x3 x4:Nat}(hn:big≤n)(h2:x2<4294967296)(h3:x3<4294967296)(h4:x4<4294967296)(hq:q0<4294967296)(hr:r0<4294967296)
 (he:q0*x3+r0=x0*4294967296+x1) (hm:q0+1=4294967296∨(x0*4294967296+x1)*4294967296+x2<(q0+1)*(x3*4294967296+x4)) :
 ∃ q,(loopM (λ(s34:Nat×Nat)=>
   (Qaa s34.1 x4 0 0).bind λr35=>
   jn (λ(j37:(Bool)->Option _)=>
    bif decide (r35.1<s34.2) then (
     j37 true)
    else (
     bif decide (r35.1=s34.2) then (
      j37 (decide (r35.2≤x2)))
     else (
      j37 false))) (λ(s39:Bool)=>
    bif s39 then (
     some (Lp.out s34.1))
    else (
     (Xi s34.2 x3 0).bind λr40=>
     bif decide (0<r40.2) then (
      some (Lp.out ((s34.1+4294967296 - 1)%4294967296)))
     else (
      some (Lp.go (((s34.1+4294967296 - 1)%4294967296),r40.1)))))) n (q0,r0)).bind (λ(t32:Nat)=>some t32)=some q ∧
   (q<4294967296∧q*(x3*4294967296+x4)≤(x0*4294967296+x1)*4294967296+x2∧(q+1=4294967296∨(x0*4294967296+x1)*4294967296+x2<(q+1)*(x3*4294967296+x4))):=by
 unfold big at hn
 refine Qqv (λs=>s.1) (λs=>s.1<4294967296∧s.2<4294967296∧s.1*x3+s.2=x0*4294967296+x1∧(s.1+1=4294967296∨(x0*4294967296+x1)*4294967296+x2<(s.1+1)*(x3*4294967296+x4)))
  (λq=>q<4294967296∧q*(x3*4294967296+x4)≤(x0*4294967296+x1)*4294967296+x2∧(q+1=4294967296∨(x0*4294967296+x1)*4294967296+x2<(q+1)*(x3*4294967296+x4))) ⟨hq,hr,he,hm⟩ (by simp only[];omega) ?_ (λt ht=>⟨t,rfl,ht⟩)
 rintro⟨q,r⟩ ⟨g1,g2,g3,g4⟩
 simp only at g1 g2 g3 g4
 simp only[jn_eq,bifd]
 rw[Qic g1 h4 (by omega) (by omega),sbind]
 simp only[Nat.add_zero]
 have key:(bif decide (q*x4≤r*4294967296+x2) then some (Lp.out q) else
  (Xi r x3 0).bind λr40=>if 0<r40.2 then some (Lp.out ((q+4294967296 - 1)%4294967296)) else some (Lp.go ((q+4294967296 - 1)%4294967296,r40.1)):Option (Lp (Nat×Nat) Nat)) =
  (if q*x4 / 4294967296<r then bif true then some (Lp.out q) else
   (Xi r x3 0).bind λr40=>if 0<r40.2 then some (Lp.out ((q+4294967296 - 1)%4294967296)) else some (Lp.go ((q+4294967296 - 1)%4294967296,r40.1))
   else if q*x4 / 4294967296=r then if q*x4%4294967296≤x2 then some (Lp.out q) else
    (Xi r x3 0).bind λr40=>if 0<r40.2 then some (Lp.out ((q+4294967296 - 1)%4294967296)) else some (Lp.go ((q+4294967296 - 1)%4294967296,r40.1))
   else bif false then some (Lp.out q) else
    (Xi r x3 0).bind λr40=>if 0<r40.2 then some (Lp.out ((q+4294967296 - 1)%4294967296)) else some (Lp.go ((q+4294967296 - 1)%4294967296,r40.1))):=by
  have hd:=Nat.div_add_mod (q*x4) 4294967296
  have hm:=Nat.mod_lt (q*x4) (show 4294967296 > 0 by decide)
  by_cases c1:q*x4 / 4294967296<r
  . rw[if_pos c1,decide_eq_true (by omega)]
  . rw[if_neg c1]
    by_cases c2:q*x4 / 4294967296=r
    . rw[if_pos c2,←bifd];congr 1;exact decide_eq_decide.2 (by omega)
    . rw[if_neg c2,decide_eq_false (by omega)]
 rw[←key,bifd]
 by_cases hs:q*x4≤r*4294967296+x2
 . right
   rw[if_pos hs]
   exact⟨q,rfl,g1,Qxb g3 hs,g4⟩
 . rw[if_neg hs,Qfc g2 h3 (by omega),sbind]
   obtain⟨q',rfl⟩:∃ q',q=q'+1:=⟨q - 1,by
    have:q≠0:=by rintro rfl;simp at hs
    omega⟩
   have hq':(q'+1+4294967296 - 1)%4294967296=q':=by omega
   have hnx:=Q1z (x2:=x2) (x4:=x4) g3 (by omega)
   have hdn:=Q10 g3
   simp only[Nat.add_zero]
   rw[hq']
   by_cases ho:0<(r+x3) / 4294967296
   . right
     rw[if_pos ho]
     exact⟨q',rfl,by omega,Qxc hdn (by omega) (by omega) h4,.inr hnx⟩
   . left
     rw[if_neg ho]
     refine⟨_,rfl,⟨by simp only[];omega,by simp only[];omega,?_,.inr hnx⟩,by simp only[];omega⟩
     simp only[]
     rw[Nat.mod_eq_of_lt (by omega)];exact hdn
theorem Qqz{n x0 x1 x2 x3 x4:Nat}(hn:big≤n)(h0:x0≤x3)(h1:x1<4294967296)(h2:x2<4294967296)(h3:x3<4294967296)(h4:x4<4294967296)(hz:x3≠0):
 ∃ q,Qb6 n x0 x1 x2 x3 x4=some q∧(q<4294967296∧q*(x3*4294967296+x4)≤(x0*4294967296+x1)*4294967296+x2∧(q+1=4294967296∨(x0*4294967296+x1)*4294967296+x2<(q+1)*(x3*4294967296+x4))):=by
 unfold Qb6
 by_cases hlt:x0<x3
 . rw[Qm2 hlt h1 h3,sbind]
   have hq:(x0*4294967296+x1) / x3<4294967296:=Nat.div_lt_of_lt_mul (by
    have:x0*4294967296+4294967296≤x3*4294967296:=by omega
    omega)
   have hr:(x0*4294967296+x1)%x3<x3:=Nat.mod_lt _ (by omega)
   exact Qqy hn h2 h3 h4 hq (Nat.lt_trans hr h3) (by rw[Nat.mul_comm];exact Nat.div_add_mod _ _) (.inr (Q3l ((Nat.div_lt_iff_lt_mul (by omega)).1 (Nat.lt_succ_self _)) h2))
 . obtain rfl:x0=x3:=by omega
   rw[show Qbe x0 x1 x0=some (0,0,false) by unfold Qbe;rw[bifd,if_pos (by omega)],sbind]
   rw[jn_eq]
   simp only[Bool.not_false,bifT]
   rw[Qfc h1 h3 (by omega),sbind,jn_eq,bifd,if_neg (by omega)]
   simp only[Nat.add_zero]
   rw[bifd]
   have he:4294967295*x0+(x1+x0)=x0*4294967296+x1:=by omega
   by_cases ho:0<(x1+x0) / 4294967296
   . rw[if_pos ho]
     exact⟨_,rfl,by omega,Qxc he (by omega) (by omega) h4,.inl rfl⟩
   . rw[if_neg ho,Nat.mod_eq_of_lt (by omega)]
     exact Qqy hn h2 h3 h4 (by omega) (by omega) he (.inl rfl)
theorem Qth(P M c b d lo hi b' q y u V W:Nat)(e1:4294967296*hi+lo=q*y+c)(e2:d+lo+b=u+4294967296*b')(h:W+q*V=M+P*(c+b)):W+P*d+q*(V+P*y)=M+P*u+P*4294967296*(hi+b'):=by
 have e3:P*d+P*lo+P*b=P*u+P*4294967296*b':=by rw[←Nat.mul_add,←Nat.mul_add,e2];grind
 have e4:P*4294967296*hi+P*lo=P*(q*y)+P*c:=by rw[←Nat.mul_add,←e1];grind
 grind
theorem Qsf{p m q' v:List Nat}{z q:Nat}(hm:m.length=v.length)(hp:p.length+m.length+1+q'.length≤4611686018427387904)(hwm:Wd m)(hwv:Wd v)(hz:z<4294967296)(hq:q<4294967296):
 ∃ r b,Qah (p++m++z::q') (p.length:Int) v q=some (decide (0<b),p++r++q')∧r.length=v.length+1∧Wd r∧b≤1∧val r+q*val v=val (m++[z])+bp (v.length+1)*b:=by
 have key:∃ R,Qah (p++m++z::q') (p.length:Int) v q=some R∧∃ r b,R=(decide (0<b),p++r++q')∧r.length=v.length+1∧Wd r∧b≤1∧val r+q*val v=val (m++[z])+bp (v.length+1)*b:=by
  unfold Qah
  refine Qk8 (λj (s:List Nat×Nat×Nat)=>∃ m1,s.1=p++m1++(m.drop j++z::q')∧m1.length=j∧j≤v.length∧Wd m1∧s.2.1<4294967296∧s.2.2≤1∧val m1+q*val (v.take j)=val (m.take j)+bp j*(s.2.1+s.2.2)) ⟨[],by simp,rfl,Nat.zero_le _,W8,by simp,by simp,by simp[val]⟩ ?_ ?_
  . rintro j y ⟨o,c,b⟩ hj ⟨m1,h1,h2,h3,h4,h5,h6,h7⟩
    simp only at h1 h5 h6 h7
    subst h1
    have hjv:j<v.length:=Qem hj
    have hy:v[j]=y:=by simpa [hjv] using hj
    have hyw:y<4294967296:=by rw[←hy];exact Z9 hwv hjv
    have hmj:j<m.length:=by omega
    have hmw:=Z9 hwm hmj
    have hlen:(p++m1).length=p.length+j:=by simp;omega
    have hmul:=Qpv hq hyw h5 (show 0<4294967296 by omega)
    obtain⟨d,b',g1,g2,g3,g4⟩:=Qid (x:=m[j]) (y:=(q*y+c+0)%4294967296) (c:=b) hmw (by omega) h6
    rw[Qic hq hyw h5 (by omega),sbind,w64 (by omega) (by omega),show((p.length:Int)+(j:Int))=((p.length+j:Nat):Int) by omega,List.drop_eq_getElem_cons hmj,List.cons_append]
    simp only[]
    rw[Vt hlen,sbind,g1,sbind,sbind,Ye hlen]
    refine⟨_,rfl,m1++[d],by simp,by simp[h2],by omega,J6.2 ⟨h4,Kf.2 ⟨g2,W8⟩⟩,by simp only[];omega,g3,?_⟩
    simp only[]
    rw[Ya,Xg hmj,Ve,Ve,h2,Vw,show v.getD j 0=y by rw[←hy];simp[hjv],List.length_take,Nat.min_eq_left (by omega)]
    exact Qth _ _ _ _ _ _ _ _ _ _ _ _ _ (Nat.div_add_mod (q*y+c) 4294967296) g4 h7
  . rintro⟨o,c,b⟩ ⟨m1,h1,h2,h3,h4,h5,h6,h7⟩
    simp only at h1 h5 h6 h7
    subst h1
    simp only[Xq]
    have hlen:(p++m1).length=p.length+v.length:=by simp;omega
    obtain⟨d,b',g1,g2,g3,g4⟩:=Qid (x:=z) (y:=c) (c:=b) hz h5 h6
    rw[w64 (by omega) (by omega),show((p.length:Int)+(v.length:Int))=((p.length+v.length:Nat):Int) by omega,List.drop_of_length_le (by omega),List.nil_append,Vt hlen,sbind,g1,sbind,sbind,Ye hlen]
    refine⟨_,rfl,m1++[d],b',by simp,by simp[h2],J6.2 ⟨h4,Kf.2 ⟨g2,W8⟩⟩,g3,?_⟩
    rw[List.take_of_length_le (Nat.le_refl _),List.take_of_length_le (by omega)] at h7
    rw[Ve,Ve,h2,hm,Vw]
    have:=Qth (bp v.length) (val m) c b d c 0 b' q 0 z (val v) (val m1) (by omega) g4 h7
    simpa using this
 obtain⟨R,h1,r,b,h2,h3⟩:=key
 exact⟨r,b,by rw[h1,h2],h3⟩
theorem Qti(P M c d c' y u V W:Nat)(e1:4294967296*c'+d=u+y+c)(h:W+P*c=M+V):W+P*d+P*4294967296*c'=M+P*u+(V+P*y):=by grind
theorem Qsg{p m q' v:List Nat}{z:Nat}(hm:m.length=v.length)(hp:p.length+m.length+1+q'.length≤4611686018427387904)(hwm:Wd m)(hwv:Wd v)(hz:z<4294967296):
 ∃ r b,Qbu (p++m++z::q') (p.length:Int) v=some (p++r++q')∧r.length=v.length+1∧Wd r∧b≤1∧val r+bp (v.length+1)*b=val (m++[z])+val v:=by
 have key:∃ R,Qbu (p++m++z::q') (p.length:Int) v=some R∧∃ r b,R=p++r++q'∧r.length=v.length+1∧Wd r∧b≤1∧val r+bp (v.length+1)*b=val (m++[z])+val v:=by
  unfold Qbu
  refine Qk8 (λj (s:List Nat×Nat)=>∃ m1,s.1=p++m1++(m.drop j++z::q')∧m1.length=j∧j≤v.length∧Wd m1∧s.2≤1∧val m1+bp j*s.2=val (m.take j)+val (v.take j)) ⟨[],by simp,rfl,Nat.zero_le _,W8,by simp,by simp[val]⟩ ?_ ?_
  . rintro j y ⟨o,c⟩ hj ⟨m1,h1,h2,h3,h4,h6,h7⟩
    simp only at h1 h6 h7
    subst h1
    have hjv:j<v.length:=Qem hj
    have hy:v[j]=y:=by simpa [hjv] using hj
    have hyw:y<4294967296:=by rw[←hy];exact Z9 hwv hjv
    have hmj:j<m.length:=by omega
    have hmw:=Z9 hwm hmj
    have hlen:(p++m1).length=p.length+j:=by simp;omega
    rw[w64 (by omega) (by omega),show((p.length:Int)+(j:Int))=((p.length+j:Nat):Int) by omega,List.drop_eq_getElem_cons hmj,List.cons_append]
    rw[Vt hlen,sbind,Qfc hmw hyw (by simp only[];omega),sbind,sbind,Ye hlen]
    refine⟨_,rfl,m1++[(m[j]+y+c)%4294967296],by simp,by simp[h2],by omega,J6.2 ⟨h4,Kf.2 ⟨by omega,W8⟩⟩,by simp only[];omega,?_⟩
    simp only[]
    rw[Ya,Ya,Ve,h2,Vw,show v.getD j 0=y by rw[←hy];simp[hjv],show m.getD j 0=m[j] by simp[hmj]]
    exact Qti _ _ _ _ _ _ _ _ _ (Nat.div_add_mod (m[j]+y+c) 4294967296) h7
  . rintro⟨o,c⟩ ⟨m1,h1,h2,h3,h4,h6,h7⟩
    simp only at h1 h6 h7
    subst h1
    simp only[Xq]
    have hlen:(p++m1).length=p.length+v.length:=by simp;omega
    rw[w64 (by omega) (by omega),show((p.length:Int)+(v.length:Int))=((p.length+v.length:Nat):Int) by omega,List.drop_of_length_le (by omega),List.nil_append,Vt hlen,sbind,sbind,Ye hlen,sbind]
    refine⟨_,rfl,m1++[(z+c)%4294967296],(z+c) / 4294967296,by simp,by simp[h2],J6.2 ⟨h4,Kf.2 ⟨by omega,W8⟩⟩,by omega,?_⟩
    rw[List.take_of_length_le (Nat.le_refl _),List.take_of_length_le (by omega)] at h7
    rw[Ve,Ve,h2,hm,Vw]
    have:=Qti (bp v.length) (val m) c ((z+c)%4294967296) ((z+c) / 4294967296) 0 z (val v) (val m1) (by omega) h7
    simpa using this
 obtain⟨R,h1,r,b,h2,h3⟩:=key
 exact⟨r,b,by rw[h1,h2],h3⟩
theorem kn_a{P vl V2 ul U3 q qh:Nat}(h1:ul<P)(hq:q<4294967296)(hU:q*(vl+P*V2)≤ul+P*U3)(hm:qh+1=4294967296∨U3<(qh+1)*V2):q≤qh:=by
 rcases hm with hm | hm
 . omega
 . have e1:P*(q*V2)≤q*(vl+P*V2):=by rw[Nat.mul_add,Nat.mul_left_comm];exact Nat.le_add_left _ _
   have e2:P*(q*V2)<P*(U3+1):=by rw[Nat.mul_add,Nat.mul_one];omega
   have e3:q*V2<U3+1:=Nat.lt_of_mul_lt_mul_left e2
   have e4:q*V2<(qh+1)*V2:=by omega
   exact Nat.le_of_lt_succ (Nat.lt_of_mul_lt_mul_right e4)
theorem kn_b{P vl V2 ul U3 qh:Nat}(h1:vl<P)(hq:qh<4294967296)(h2:4294967296≤V2)(hm:qh*V2≤U3):qh*(vl+P*V2)≤(ul+P*U3)+(vl+P*V2):=by
 have e1:qh*(vl+P*V2)=qh*vl+P*(qh*V2):=by rw[Nat.mul_add,Nat.mul_left_comm]
 have e2:P*(qh*V2)≤P*U3:=Nat.mul_le_mul_left _ hm
 have e3:qh*vl≤V2*P:=Nat.mul_le_mul (by omega) (by omega)
 rw[e1]
 rw[Nat.mul_comm V2 P] at e3
 omega
theorem kn_z{P vl v3 v4 ul z x1 x2:Nat}(h1:vl<P)(h4:v4<4294967296)(hU:ul+P*((z*4294967296+x1)*4294967296+x2)<4294967296*(vl+P*(v3*4294967296+v4))):z≤v3:=by
 have e1:P*(z*4294967296*4294967296)≤P*((z*4294967296+x1)*4294967296+x2):=Nat.mul_le_mul_left _ (by omega)
 have e2:vl+P*(v3*4294967296+v4)<P*((v3+1)*4294967296):=by
  have:P*(v3*4294967296+v4+1)≤P*((v3+1)*4294967296):=Nat.mul_le_mul_left _ (by omega)
  rw[Nat.mul_add _ _ 1,Nat.mul_one] at this
  omega
 have e3:P*(z*4294967296*4294967296)<P*((v3+1)*4294967296*4294967296):=by
  have a1:P*((v3+1)*4294967296*4294967296)=P*((v3+1)*4294967296)*4294967296:=(Nat.mul_assoc _ _ _).symm
  omega
 have e4:=Nat.lt_of_mul_lt_mul_left e3
 omega
theorem dm_of{U V q r:Nat}(h:r+q*V=U)(hr:r<V):U / V=q∧U%V=r:=by
 subst h
 rw[Nat.add_mul_div_right _ _ (by omega),Nat.div_eq_of_lt hr,Nat.add_mul_mod_self_right,Nat.mod_eq_of_lt hr];omega
theorem last2{l:List Nat}{m:Nat}(h:l.length=m+2):∃ l' a b,l=l'++[a,b]∧l'.length=m:=by
 refine⟨l.take m,l[m],l[m+1],?_,by simp;omega⟩
 have h1:=Xg (a:=l) (k:=m) (by omega)
 have h2:=Xg (a:=l) (k:=m+1) (by omega)
 rw[List.take_of_length_le (by omega)] at h2
 refine h2.trans ?_
 rw[h1,List.append_assoc];rfl
theorem Q0y(p y w qs V U j:Nat)(q r:Nat)(hU:U=y+4294967296*w)(h:r+q*V=U):(p+j*y)+j*4294967296*(w+V*qs)=p+j*(r+V*(q+4294967296*qs)):=by grind
theorem Qyg{n:Nat}{p w rest v:List Nat}{z:Nat}(hn:big≤n){vl wl:List Nat}{v3 v4 x1 x2:Nat}(hv:v=vl++[v4,v3])(hw:w=wl++[x2,x1])(hl:wl.length=vl.length)
 (hwv:Wd v) (hww:Wd w) (hz:z<4294967296) (h3:v3≠0) (hp:p.length+w.length+1+rest.length≤4611686018427387904) (hU:val (w++[z])<4294967296*val v) :
 ∃ r qh,Qb6 n z x1 x2 v3 v4=some qh∧r.length=v.length+1∧Wd r∧val r=val (w++[z])%val v∧val (w++[z]) / val v<4294967296 ∧
   ((Qah (p++w++z::rest) (p.length:Int) v qh=some (false,p++r++rest)∧qh=val (w++[z]) / val v) ∨
    (∃ r1,Qah (p++w++z::rest) (p.length:Int) v qh=some (true,r1)∧Qbu r1 (p.length:Int) v=some (p++r++rest)∧(qh+4294967296 - 1)%4294967296=val (w++[z]) / val v)):=by
 have hwl:w.length=v.length:=by rw[hv,hw];simp[hl]
 have w1:Wd vl∧v4<4294967296∧v3<4294967296:=by rw[hv] at hwv;exact⟨(J6.1 hwv).1,(Kf.1 (J6.1 hwv).2).1,(Kf.1 (Kf.1 (J6.1 hwv).2).2).1⟩
 have w2:Wd wl∧x2<4294967296∧x1<4294967296:=by rw[hw] at hww;exact⟨(J6.1 hww).1,(Kf.1 (J6.1 hww).2).1,(Kf.1 (Kf.1 (J6.1 hww).2).2).1⟩
 obtain⟨w1,w3,w4⟩:=w1
 obtain⟨w2,w5,w6⟩:=w2
 have hV:val v=val vl+bp vl.length*(v3*4294967296+v4):=by rw[hv,W9];simp only[val];congr 2;omega
 have hW:val (w++[z])=val wl+bp vl.length*((z*4294967296+x1)*4294967296+x2):=by rw[hw,List.append_assoc,W9,hl];simp only[List.cons_append,List.nil_append,val];congr 2;omega
 have l1:=Xr w1
 have l2:=Xr w2
 rw[hl] at l2
 have hz3:z≤v3:=by rw[hV,hW] at hU;exact kn_z l1 w3 hU
 obtain⟨qh,g1,g2,g3,g4⟩:=Qqz hn hz3 w6 w5 w4 w3 h3
 have hVp:0<val v:=by
  rcases Nat.eq_zero_or_pos (val v) with h | h
  . rw[h] at hU;omega
  . exact h
 have hqB:val (w++[z]) / val v<4294967296:=(Nat.div_lt_iff_lt_mul hVp).2 hU
 have hqa:val (w++[z]) / val v≤qh:=by
  have:=Nat.div_mul_le_self (val (w++[z])) (val v)
  exact kn_a (vl:=val vl) l2 hqB (by rw[←hV,←hW];exact this) g4
 have hqb:qh*val v≤val (w++[z])+val v:=by
  rw[hV,hW];exact kn_b l1 g2 (by omega) g3
 have hUq:val (w++[z])<(qh+1)*val v:=Nat.lt_of_lt_of_le ((Nat.div_lt_iff_lt_mul hVp).1 (Nat.lt_succ_self _)) (Nat.mul_le_mul_right _ (by omega))
 obtain⟨r,b,t1,t2,t3,t4,t5⟩:=Qsf (p:=p) (m:=w) (q':=rest) (v:=v) (z:=z) (q:=qh) hwl hp hww hwv hz g2
 rw[Nat.add_mul,Nat.one_mul] at hUq
 have hvb:=Xr hwv
 have hbb:bp v.length≤bp (v.length+1):=bp_le (by omega)
 by_cases hb:b=0
 . subst hb
   rw[Nat.mul_zero,Nat.add_zero] at t5
   obtain⟨d1,d2⟩:=dm_of t5 (by omega)
   exact⟨r,qh,g1,t2,t3,d2.symm,hqB,.inl ⟨t1,d1.symm⟩⟩
 . obtain rfl:b=1:=by omega
   rw[Nat.mul_one] at t5
   have hr:=Xr t3
   rw[t2] at hr
   obtain⟨r0,rz,e1⟩:∃ r0 rz,r=r0++[rz]:=by
    rcases List.eq_nil_or_concat r with h | ⟨r0,rz,h⟩
    . rw[h] at t2;simp at t2
    . exact⟨r0,rz,by rw[h,List.concat_eq_append]⟩
   have e2:r0.length=v.length:=by rw[e1] at t2;simpa using t2
   have e3:Wd r0∧rz<4294967296:=by rw[e1] at t3;exact⟨(J6.1 t3).1,(Kf.1 (J6.1 t3).2).1⟩
   obtain⟨r',b2,u1,u2,u3,u4,u5⟩:=Qsg (p:=p) (m:=r0) (q':=rest) (v:=v) (z:=rz) e2 (by omega) e3.1 hwv e3.2
   have hr':=Xr u3
   rw[u2] at hr'
   rw[←e1] at u5
   obtain⟨qq,rfl⟩:∃ qq,qh=qq+1:=⟨qh - 1,by
    have:qh≠0:=by rintro rfl;omega
    omega⟩
   rw[Nat.add_mul,Nat.one_mul] at *
   have hb2:b2=1:=by
    rcases Nat.eq_zero_or_pos b2 with h | h
    . subst h;rw[Nat.mul_zero] at u5;omega
    . omega
   subst hb2
   rw[Nat.mul_one] at u5
   obtain⟨d1,d2⟩:=dm_of (U:=val (w++[z])) (V:=val v) (q:=qq) (r:=val r') (by omega) (by omega)
   refine⟨r',qq+1,g1,u2,u3,d2.symm,hqB,.inr ⟨p++r++rest,t1,?_,by rw[d1];omega⟩⟩
   rw[e1,show p++(r0++[rz])++rest=p++r0++rz::rest by simp];exact u1
theorem Qsh{n:Nat}{u v vl:List Nat}{v3 v4:Nat}(hn:big≤n)(hv:v=vl++[v4,v3])(h3:v3≠0)(hwu:Wd u)(hwv:Wd v)(hu:u.length<35184372088832)(hl:v.length≤u.length)(ht:val (u.drop (u.length - v.length))<val v):
 ∃ r,Qex n u v=some r∧(r.1.length=u.length - v.length∧Wd r.1∧r.2.length=u.length∧Wd r.2∧val u=val v*val r.1+val r.2∧val r.2<val v):=by
 unfold Qex
 have hn':=hn
 unfold big at hn'
 have hvl:v.length=vl.length+2:=by rw[hv];simp
 rw[w64 (x:=(u.length:Int) - (v.length:Int)) (by omega) (by omega),show(u.length:Int) - (v.length:Int)=((u.length - v.length:Nat):Int) by omega,Qjr (by omega) (by omega),sbind]
 refine Qqv (λs=>(s.2.2+1).toNat) (λs=>∃(k:Nat) (p w qs:List Nat),s.2.2=(k:Int) - 1∧k≤u.length - v.length∧s.1=p++w∧p.length=k∧w.length=u.length - k∧Wd p∧Wd w∧val w<val v∧s.2.1=List.replicate k 0++qs∧qs.length=u.length - v.length - k∧Wd qs∧val u=val p+bp k*(val w+val v*val qs))
  (λt=>t.2.length=u.length - v.length∧Wd t.2∧t.1.length=u.length∧Wd t.1∧val u=val v*val t.2+val t.1∧val t.1<val v) ⟨u.length - v.length,u.take (u.length - v.length),u.drop (u.length - v.length),[],?_,Nat.le_refl _,by simp only[List.take_append_drop],by simp,by simp,Qlo hwu,Qiz hwu,ht,by simp only[List.append_nil],by simp,W8,?_⟩ ?_ ?_ (λt ht=>⟨_,rfl,ht⟩)
 . simp only[];rw[List.length_replicate,w64 (by omega) (by omega)]
 . simp only[val,Nat.mul_zero,Nat.add_zero]
   conv=>lhs;rw[←List.take_append_drop (u.length - v.length) u]
   rw[W9,List.length_take,Nat.min_eq_left (by omega)]
 . simp only[];rw[List.length_replicate,w64 (by omega) (by omega)];omega
 . rintro⟨uu,qq,i⟩ ⟨k,p,w,qs,i1,i2,i3,i4,i5,i6,i7,i8,i9,i10,i11,i12⟩
   simp only at i1 i3 i9
   subst i1 i3 i9
   simp only[jn_eq,bifd]
   by_cases h0:0<k
   . left
     obtain⟨j,rfl⟩:∃ j,k=j+1:=⟨k - 1,by omega⟩
     obtain⟨p1,y,e1⟩:∃ p1 y,p=p1++[y]:=by
      rcases List.eq_nil_or_concat p with h | ⟨p1,y,h⟩
      . rw[h] at i4;simp at i4
      . exact⟨p1,y,by rw[h,List.concat_eq_append]⟩
     subst e1
     have e2:p1.length=j:=by simpa using i4
     have e3:Wd p1∧y<4294967296:=⟨(J6.1 i6).1,(Kf.1 (J6.1 i6).2).1⟩
     have e4:Wd (y::w):=Kf.2 ⟨e3.2,i7⟩
     have e5:v.length<(y::w).length:=by simp;omega
     have e6:y::w=(y::w).take v.length++(y::w)[v.length]::(y::w).drop (v.length+1):=Qzr e5
     have e7:val ((y::w).drop (v.length+1))=0:=by
      rw[List.drop_succ_cons,←Qny i7]
      exact Nat.div_eq_of_lt (Nat.lt_trans i8 (Xr hwv))
     have e8:val ((y::w).take v.length++[(y::w)[v.length]])=y+4294967296*val w:=by
      have:=congrArg val e6
      rw[show ∀(a b:List Nat) (x:Nat),a++x::b=(a++[x])++b by intro a b x;simp,W9,e7,Nat.mul_zero,Nat.add_zero] at this
      rw[←this];rfl
     have w1:Wd ((y::w).take v.length):=Qlo e4
     have w2:(y::w)[v.length]<4294967296:=Z9 e4 e5
     have w3:Wd ((y::w).drop (v.length+1)):=Qiz e4
     have w4:((y::w).take v.length).length=v.length:=by rw[List.length_take,Nat.min_eq_left (by omega)]
     have w5:((y::w).drop (v.length+1)).length=u.length - j - (v.length+1):=by rw[List.length_drop,List.length_cons];omega
     rw[show p1++[y]++w=p1++(y::w) by simp,e6]
     generalize (y::w).take v.length=W at *
     generalize (y::w)[v.length]=z at *
     generalize (y::w).drop (v.length+1)=R at *
     obtain⟨wl,x2,x1,f1,f2⟩:=last2 (l:=W) (m:=vl.length) (by omega)
     obtain⟨r,qh,g1,g2,g3,g4,g5,g6⟩:=Qyg (p:=p1) (w:=W) (rest:=R) (v:=v) (z:=z) hn hv f1 f2 hwv w1 w2 h3 (by rw[w4,w5];omega) (by rw[e8];omega)
     rw[if_pos (by omega),show((j+1:Nat):Int) - 1=(j:Int) by omega]
     rw[w64 (x:=(j:Int)+(v.length:Int)) (by omega) (by omega),show(j:Int)+(v.length:Int)=((j+vl.length+2:Nat):Int) by omega]
     rw[w64 (x:=((j+vl.length+2:Nat):Int) - 1) (by omega) (by omega),w64 (x:=((j+vl.length+2:Nat):Int) - 2) (by omega) (by omega),show((j+vl.length+2:Nat):Int) - 1=((j+vl.length+1:Nat):Int) by omega,show((j+vl.length+2:Nat):Int) - 2=((j+vl.length:Nat):Int) by omega]
     rw[w64 (x:=(v.length:Int) - 1) (by omega) (by omega),w64 (x:=(v.length:Int) - 2) (by omega) (by omega),show(v.length:Int) - 1=((vl.length+1:Nat):Int) by omega,show(v.length:Int) - 2=((vl.length:Nat):Int) by omega]
     have a1:getI (p1++(W++z::R)) ((j+vl.length+2:Nat):Int)=some z:=by
      rw[←List.append_assoc];exact Vt (by rw[List.length_append,w4];omega)
     have a2:getI (p1++(W++z::R)) ((j+vl.length+1:Nat):Int)=some x1:=by
      rw[f1,show p1++(wl++[x2,x1]++z::R)=(p1++wl++[x2])++x1::(z::R) by simp];exact Vt (by simp;omega)
     have a3:getI (p1++(W++z::R)) ((j+vl.length:Nat):Int)=some x2:=by
      rw[f1,show p1++(wl++[x2,x1]++z::R)=(p1++wl)++x2::(x1::z::R) by simp];exact Vt (by simp;omega)
     have a4:getI v ((vl.length+1:Nat):Int)=some v3:=by
      rw[hv,show vl++[v4,v3]=(vl++[v4])++v3::[] by simp];exact Vt (by simp)
     have a5:getI v ((vl.length:Nat):Int)=some v4:=by
      rw[hv];exact Vt rfl
     rw[a1,sbind,a2,sbind,a3,sbind,a4,sbind,a5,sbind,g1,sbind]
     have a6:∀(q':Nat),getI (List.replicate (j+1) 0++qs) (j:Int)=some 0∧(List.replicate (j+1) 0++qs).set (Int.toNat (j:Int)) q'=List.replicate j 0++q'::qs:=λq'=>by
      rw[List.replicate_succ',List.append_assoc,List.singleton_append];exact⟨Vt (by simp),Ye (by simp)⟩
     rw[e2,List.append_assoc] at g6
     have hfin:∀ q',q'=val (W++[z]) / val v->∃ s',(some (Lp.go (p1++r++R,List.replicate j 0++q'::qs,wrap64 ((j:Int) - 1))):Option (Lp (List Nat×List Nat×Int) (List Nat×List Nat)))=some (Lp.go s')∧(∃(k:Nat) (p w qs:List Nat),s'.2.2=(k:Int) - 1∧k≤u.length - v.length∧s'.1=p++w∧p.length=k∧w.length=u.length - k∧Wd p∧Wd w∧val w<val v∧s'.2.1=List.replicate k 0++qs∧qs.length=u.length - v.length - k∧Wd qs∧val u=val p+bp k*(val w+val v*val qs))∧(s'.2.2+1).toNat<((j:Int)+1).toNat:=by
      intro q' hq'
      have hVp:0<val v:=by omega
      rw[w64 (by omega) (by omega)]
      refine⟨_,rfl,⟨j,p1,r++R,q'::qs,rfl,by omega,by rw[List.append_assoc],e2,by rw[List.length_append,g2,w5];omega,e3.1,J6.2 ⟨g3,w3⟩,?_,rfl,by rw[List.length_cons];omega,Kf.2 ⟨by omega,i11⟩,?_⟩,by simp only[];omega⟩
      . rw[W9,e7,Nat.mul_zero,Nat.add_zero,g4];exact Nat.mod_lt _ hVp
      . rw[i12,Ve,e2,Vw,W9,e7,Nat.mul_zero,Nat.add_zero]
        simp only[val]
        refine Q0y _ _ _ _ _ _ _ _ _ e8 ?_
        rw[g4,hq',Nat.mul_comm];exact Nat.mod_add_div _ _
     rcases g6 with ⟨t1,t2⟩ | ⟨r1,t1,t2,t3⟩
     . rw[t1,sbind]
       simp only[bifF]
       rw[(a6 qh).1,sbind,(a6 qh).2]
       exact hfin _ t2
     . rw[t1,sbind]
       simp only[bifT]
       rw[t2,sbind,(a6 ((qh+4294967296 - 1)%4294967296)).1,sbind,(a6 _).2]
       exact hfin _ t3
   . right
     obtain rfl:k=0:=by omega
     obtain rfl:p=[]:=List.eq_nil_of_length_eq_zero i4
     rw[if_neg (by omega)]
     refine⟨_,rfl,by simp only[List.replicate_zero,List.nil_append];omega,by simpa using i11,by simp only[List.nil_append];omega,by simpa using i7,?_,by simpa using i8⟩
     rw[i12,Zj];simp[val];omega
theorem Q3m{x:Nat}(h2:x<4294967296):blen x≤32:=by
 rcases Nat.lt_or_ge 32 (blen x) with h | h
 . have h0:x≠0:=by rintro rfl;rw[Qhx] at h;omega
   have g1:=Qlq h0
   have g2:2 ^ 32≤2 ^ (blen x - 1):=Nat.pow_le_pow_right (by decide) (by omega)
   rw[show(2:Nat) ^ 32=4294967296 by decide] at g2
   omega
 . exact h
theorem Jo{a:List Nat}(hw:Wd a):(toL (val a)).length≤a.length:=by rw[Km hw];exact X3 a
theorem Qpd{v s:Nat}(hs:s≤32):(toL (v*2 ^ s)).length≤(toL v).length+1:=by
 refine Y3 ?_
 have h1:=Xr (J4 v)
 rw[Jd] at h1
 rw[Vw]
 exact Nat.lt_of_lt_of_le (Nat.mul_lt_mul_of_pos_right h1 (Nat.two_pow_pos s)) (Nat.mul_le_mul_left _ (Qmn hs))
theorem len2{v:Nat}(h:4294967296≤v):∃ vl v4 v3,toL v=vl++[v4,v3]∧v3≠0:=by
 have h0:toL v≠[]:=by rw[Y6 (by omega)];simp
 obtain⟨p,x,h1,h2,h3,h4⟩:=Qpx h0
 rcases List.eq_nil_or_concat p with h5 | ⟨p',y,h5⟩
 . exfalso
   have:=Jd v
   rw[h1,h5] at this;simp[val] at this;omega
 . exact⟨p',y,x,by rw[h1,h5,List.concat_eq_append];simp,h2⟩
theorem Q3n{v:Nat}(h:v≠0):bp ((toL v).length - 1)≤v:=by
 have h0:toL v≠[]:=by rw[Y6 h];simp
 obtain⟨p,x,h1,h2,h3,h4⟩:=Qpx h0
 have:=Jd v
 rw[h1,Ve] at this
 rw[h1,List.length_append,List.length_singleton,Nat.add_sub_cancel,←this]
 have:bp p.length*1≤bp p.length*x:=Nat.mul_le_mul_left _ (by omega)
 omega
theorem Qdb{n:Nat}{a b:List Nat}(hn:big≤n)(ha:a.length<4398046511104)(hb:b.length<4398046511104)(hwa:Wd a)(hwb:Wd b):
 Qab n a b=some (if val b=0 then ([],[],false) else (toL (val a / val b),toL (val a%val b),true)):=by
 unfold Qab
 have hlb:=Jo hwb
 have hla:=Jo hwa
 rw[Vi hn (by omega),sbind,←Km hwb,bifd]
 by_cases h0:val b=0
 . rw[h0,Vm,if_pos (by rfl),if_pos rfl]
 . have hne:toL (val b)≠[]:=by rw[Y6 h0];simp
   have hl0:(toL (val b)).length≠0:=λh=>hne (List.eq_nil_of_length_eq_zero h)
   rw[if_neg (by omega),if_neg h0,Qea hn (by omega) (by omega) hwa (J4 _),sbind,Jd,bifd]
   by_cases hlt:val a<val b
   . rw[if_pos (by rw[cmpI,if_pos hlt];decide),Vi hn (by omega),sbind,Nat.div_eq_of_lt hlt,Nat.mod_eq_of_lt hlt,Vm,Km hwa]
   . rw[if_neg (by rw[cmpI,if_neg hlt];split<;>decide),bifd]
     by_cases h1:(toL (val b)).length=1
     . rw[if_pos (by omega)]
       obtain⟨y,hy⟩:=List.length_eq_one_iff.1 h1
       have hv:=Jd (val b)
       have hw:=J4 (val b)
       rw[hy] at hv hw
       simp only[val,Nat.mul_zero,Nat.add_zero] at hv
       have hyw:=(Kf.1 hw).1
       rw[hy,show getI [y] (0:Int)=some y by rfl,sbind,Qsb hn (by omega) hwa (by omega) hyw,sbind]
       simp only[]
       have:=Nat.mod_lt (val a) (show y > 0 by omega)
       rw[Qbx hn (by omega),sbind,←hv]
     . rw[if_neg (by omega)]
       have hbig:4294967296≤val b:=by
        rcases Nat.lt_or_ge (val b) 4294967296 with h | h
        . have:=Y3 (n:=val b) (k:=1) (by rw[Vw,Zj];omega)
          omega
        . exact h
       obtain⟨bl,b4,b3,e1,e2⟩:=len2 hbig
       have hwb':=J4 (val b)
       have hb3:b3<4294967296:=by rw[e1] at hwb';exact(Kf.1 (Kf.1 (J6.1 hwb').2).2).1
       have hbl:(toL (val b)).length=bl.length+2:=by rw[e1];simp
       rw[w64 (x:=((toL (val b)).length:Int) - 1) (by omega) (by omega),show((toL (val b)).length:Int) - 1=((bl.length+1:Nat):Int) by omega]
       rw[show getI (toL (val b)) ((bl.length+1:Nat):Int)=some b3 by rw[e1,show bl++[b4,b3]=(bl++[b4])++b3::[] by simp];exact Vt (by simp),sbind,Qm4 hn hb3,sbind]
       have hs:=Q3m hb3
       rw[w64 (x:=(32:Int) - (blen b3:Int)) (by omega) (by omega),show(32:Int) - (blen b3:Int)=((32 - blen b3:Nat):Int) by omega]
       have hs':32 - blen b3≤32:=by omega
       generalize 32 - blen b3=s at *
       have hS:=Nat.two_pow_pos s
       rw[Qnx hn (by omega) hwa (by omega),sbind]
       have l1:=Qpd (v:=val a) hs'
       have l2:=Qpd (v:=val b) hs'
       rw[V7 (by simp;omega) (by simp;omega),sbind,Qnx hn (by omega) hwb' (by omega),sbind,Jd]
       have hbs:val b≤val b*2 ^ s:=Nat.le_mul_of_pos_right _ hS
       obtain⟨vl,v4,v3,f1,f2⟩:=len2 (v:=val b*2 ^ s) (by omega)
       have hab:val b*2 ^ s≤val a*2 ^ s:=Nat.mul_le_mul_right _ (by omega)
       have hll:=Vp hab
       have hge:=Q3n (v:=val b*2 ^ s) (by omega)
       have hvl:(toL (val b*2 ^ s)).length=vl.length+2:=by rw[f1];simp
       have hwu:Wd (toL (val a*2 ^ s)++[0]):=J6.2 ⟨J4 _,Kf.2 ⟨by omega,W8⟩⟩
       obtain⟨⟨q,r⟩,g1,g2,g3,g4,g5,g6,g7⟩:=Qsh (u:=toL (val a*2 ^ s)++[0]) (v:=toL (val b*2 ^ s)) hn f1 f2 hwu (J4 _) (by simp;omega) (by simp;omega) (by
        rw[List.length_append,List.length_singleton,List.drop_append_of_le_length (by omega),Ve,Nat.mul_zero,Nat.add_zero,Jd]
        have:=Xr (Qiz (k:=(toL (val a*2 ^ s)).length+1 - (toL (val b*2 ^ s)).length) (J4 (val a*2 ^ s)))
        rw[List.length_drop] at this
        exact Nat.lt_of_lt_of_le this (Nat.le_trans (bp_le (by omega)) hge))
       simp only at g2 g3 g4 g5 g6 g7
       rw[Ve,Nat.mul_zero,Nat.add_zero,Jd,Jd] at g6
       rw[Jd] at g7
       rw[List.length_append,List.length_singleton] at g2 g4
       rw[g1,sbind]
       simp only[]
       rw[Vi hn (by omega),sbind,Qse hn (by omega) g5 (by omega),sbind,←Km g3]
       obtain⟨d1,d2⟩:=dm_of (U:=val a*2 ^ s) (V:=val b*2 ^ s) (q:=val q) (r:=val r) (by rw[g6,Nat.mul_comm (val q)];omega) g7
       rw[Nat.mul_div_mul_right _ _ hS] at d1
       rw[Nat.mul_mod_mul_right] at d2
       rw[←d1,←d2,Nat.mul_div_cancel _ hS]
theorem Qo0{n x y:Nat}(hn:big≤n)(hy:y<18446744073709551616):Qb7 n x y=some (Nat.gcd x y):=by
 unfold Qb7
 unfold big at hn
 refine Qd9 (λs=>s.2) (λs=>s.2<18446744073709551616∧Nat.gcd s.1 s.2=Nat.gcd x y) (λt=>t=Nat.gcd x y) ⟨hy,rfl⟩ (by simp only[];omega) ?_ (λt ht=>by rw[ht])
 rintro⟨u,v⟩ ⟨h1,h2⟩
 simp only at h1 h2
 simp only[bifnd]
 by_cases h0:v=0
 . right
   rw[if_pos h0]
   exact⟨_,rfl,by rw[←h2,h0,Nat.gcd_zero_right]⟩
 . left
   rw[if_neg h0,grd_t (by simp[h0]),sbind]
   have:=Nat.mod_lt u (show v > 0 by omega)
   exact⟨_,rfl,⟨by simp only[];omega,by rw[←h2,Nat.gcd_comm u v,Nat.gcd_rec v u,Nat.gcd_comm]⟩,this⟩
theorem Qq0{v:Nat}:Qd0 (toL v)=some (decide (v=1)):=by
 unfold Qd0
 simp only[jn_eq,bifd]
 by_cases h:(toL v).length=1
 . obtain⟨x,hx⟩:=List.length_eq_one_iff.1 h
   have:=Jd v
   rw[hx] at this;simp[val] at this
   rw[hx,if_pos (by simp),show getI [x] (0:Int)=some x by rfl,sbind,this]
 . rw[if_neg (by omega)]
   have:v≠1:=by
    rintro rfl;apply h;rw[Y6 (by decide),show 1 / 4294967296=0 by decide,Vm];rfl
   rw[decide_eq_false this]
theorem Q11{v k:Nat}(h:v<2 ^ k):blen v≤k:=by
 rcases Nat.lt_or_ge k (blen v) with h1 | h1
 . have h0:v≠0:=by rintro rfl;rw[Qhx] at h1;omega
   have g1:=Qlq h0
   have g2:2 ^ k≤2 ^ (blen v - 1):=Nat.pow_le_pow_right (by decide) (by omega)
   omega
 . exact h1
theorem Q12{r u:Nat}(h:2*r<u):blen r<blen u:=by
 have hu:=Qsd (x:=u)
 by_cases h0:r=0
 . subst h0
   rw[Qhx];exact Qpw (by omega)
 . have g1:=Qlq h0
   have g2:=Qpw h0
   have g3:2 ^ blen r=2 ^ (blen r - 1)*2:=by rw[←Nat.pow_succ,show(blen r - 1).succ=blen r by omega]
   have g4:2 ^ blen r<2 ^ blen u:=by omega
   exact(Nat.pow_lt_pow_iff_right (by decide)).1 g4
theorem Qmo{v:Nat}:blen v≤32*(toL v).length:=by
 refine Q11 ?_
 rw[←Qnw]
 have:=Xr (J4 v)
 rwa [Jd] at this
theorem Q0z{u v:Nat}(h0:v≠0):blen v+blen (u%v)+(if v<u%v then 1 else 0)<blen u+blen v+(if u<v then 1 else 0):=by
 have hm:=Nat.mod_lt u (show v > 0 by omega)
 rw[if_neg (by omega)]
 by_cases h:u<v
 . rw[if_pos h,Nat.mod_eq_of_lt h];omega
 . rw[if_neg h]
   have h1:2*(u%v)<u:=by
    have e1:=Nat.div_add_mod u v
    have e2:1≤u / v:=(Nat.le_div_iff_mul_le (by omega)).2 (by omega)
    have e3:v*1≤v*(u / v):=Nat.mul_le_mul_left _ e2
    omega
   have:=Q12 h1
   omega
theorem Qq1{n:Nat}{a b:List Nat}(hn:big≤n)(ha:a.length<4398046511104)(hb:b.length<4398046511104)(hwa:Wd a)(hwb:Wd b):Qdz n a b=some (toL (Nat.gcd (val a) (val b))):=by
 unfold Qdz
 have hla:=Jo hwa
 have hlb:=Jo hwb
 rw[Vi hn (by omega),sbind,Vi hn (by omega),sbind,←Km hwa,←Km hwb]
 have hn':=hn
 unfold big at hn'
 refine Qd9 (λs=>blen (val s.1)+blen (val s.2)+(if val s.1<val s.2 then 1 else 0)) (λs=>∃ u v,s=(toL u,toL v)∧Nat.gcd u v=Nat.gcd (val a) (val b)∧(toL u).length<4398046511104∧(toL v).length<4398046511104)
  (λt=>∃ u v,t=(toL u,toL v)∧Nat.gcd u v=Nat.gcd (val a) (val b)∧(toL u).length<4398046511104∧(toL v).length≤2) ⟨val a,val b,rfl,rfl,by omega,by omega⟩ ?_ ?_ ?_
 . simp only[Jd]
   have h1:=Qmo (v:=val a)
   have h2:=Qmo (v:=val b)
   split<;>omega
 . rintro s ⟨u,v,rfl,h2,h3,h4⟩
   simp only[bifd,Jd]
   by_cases h0:2<(toL v).length
   . left
     have hv0:v≠0:=by rintro rfl;rw[Vm] at h0;simp at h0
     rw[if_pos (by omega),Qdb hn h3 h4 (J4 _) (J4 _),sbind,Jd,Jd,if_neg hv0]
     refine⟨_,rfl,⟨v,u%v,rfl,?_,h4,?_⟩,?_⟩
     . rw[←h2,Nat.gcd_comm u v,Nat.gcd_rec v u,Nat.gcd_comm]
     . exact Nat.lt_of_le_of_lt (Vp (Nat.le_of_lt (Nat.mod_lt u (by omega)))) h4
     . simp only[Jd];exact Q0z hv0
   . right
     rw[if_neg (by omega)]
     exact⟨_,rfl,u,v,rfl,h2,h3,by omega⟩
 . rintro t ⟨u,v,rfl,h2,h3,h4⟩
   simp only[bifd]
   by_cases h0:v=0
   . subst h0
     rw[Vm,if_pos (by rfl),←h2,Nat.gcd_zero_right]
   . have hne:(toL v).length≠0:=λh=>by rw[Y6 h0] at h;simp at h
     have hv64:v<18446744073709551616:=by
      rcases Nat.lt_or_ge v 18446744073709551616 with h | h
      . exact h
      . have:=Qw7 h;omega
     have hm:=Nat.mod_lt u (show v > 0 by omega)
     have hlm:=Vp (Nat.le_of_lt hm)
     rw[if_neg (by omega),Qdb hn h3 (by omega) (J4 _) (J4 _),sbind,Jd,Jd,if_neg h0]
     simp only[]
     rw[Qlp hn (by omega) (J4 _),sbind,Qlp hn (by omega) (J4 _),sbind,Jd,Jd,if_pos hv64,if_pos (by omega)]
     simp only[]
     rw[Qo0 hn (by omega),sbind,Qbx hn (Nat.lt_of_le_of_lt (Nat.gcd_le_left _ (by omega)) hv64),sbind,←h2,Nat.gcd_comm u v,Nat.gcd_rec v u,Nat.gcd_comm]
theorem Qnz{n:Nat}{a b:List Nat}(hn:big≤n)(ha:a.length<4398046511104)(hb:b.length<4398046511104)(hwa:Wd a)(hwb:Wd b):
 Qbf n a b=some (toL (val a / Nat.gcd (val a) (val b)),toL (val b / Nat.gcd (val a) (val b))):=by
 unfold Qbf
 rw[Qq1 hn ha hb hwa hwb,sbind,bifd]
 have hg1:Nat.gcd (val a) (val b) ∣ val a:=Nat.gcd_dvd_left _ _
 have hg2:Nat.gcd (val a) (val b) ∣ val b:=Nat.gcd_dvd_right _ _
 have hla:=Jo hwa
 have hlb:=Jo hwb
 have hgl:Nat.gcd (val a) (val b)=0∨(toL (Nat.gcd (val a) (val b))).length<4398046511104:=by
  by_cases h:val a=0
  . rw[h,Nat.gcd_zero_left];right;omega
  . right
    exact Nat.lt_of_le_of_lt (Vp (Nat.gcd_le_left _ (by omega))) (by omega)
 by_cases h0:Nat.gcd (val a) (val b)=0
 . rw[h0,Vm,if_pos (by rfl),Nat.div_zero,Nat.div_zero,Vm]
 . have hne:(toL (Nat.gcd (val a) (val b))).length≠0:=λh=>by rw[Y6 h0] at h;simp at h
   rw[if_neg (by omega),Qq0,sbind,bifd]
   by_cases h1:Nat.gcd (val a) (val b)=1
   . rw[if_pos h1,Vi hn (by omega),sbind,Vi hn (by omega),sbind,h1,Nat.div_one,Nat.div_one,Km hwa,Km hwb]
   . have hgl:(toL (Nat.gcd (val a) (val b))).length<4398046511104:=by rcases hgl with h | h;exact absurd h h0;exact h
     rw[if_neg h1,Qdb hn ha hgl hwa (J4 _),sbind,Qdb hn hb hgl hwb (J4 _),sbind,Jd,if_neg h0,if_neg h0]
def wv(w:Qd):Int:=if w.Neg then -(val w.Abs:Int) else (val w.Abs:Int)
def toW(z:Int):Qd:=⟨decide (z<0),toL z.natAbs⟩
theorem Xs(z:Int):wv (toW z)=z:=by
 unfold wv toW
 simp only[decide_eq_true_eq,Jd]
 split<;>omega
theorem Qpe{v:Nat}:0<(toL v).length↔v≠0:=by
 constructor
 . rintro h rfl;rw[Vm] at h;simp at h
 . intro h;rw[Y6 h];simp
theorem Wc{s:Bool}{v:Nat}:K4 s (toL v)=some (toW (if s then -(v:Int) else (v:Int))):=by
 unfold K4 toW
 rw[jn_eq]
 cases s
 . rw[bifF];congr 2
 . rw[bifT];congr 2
   . exact decide_eq_decide.2 (by simp only[if_true];have:=@Qpe v;omega)
   . simp
def Ww(w:Qd):Prop:=Wd w.Abs∧w.Abs.length<4398046511104
theorem Qgo{n:Nat}{w:Qd}(hn:big≤n)(h:Ww w):Yp n w=some (toW (wv w)):=by
 unfold Yp
 rw[Vi hn (by have:=h.2;omega),sbind,←Km h.1,Wc,sbind];rfl
theorem Q13(s t:Bool)(x y:Nat):(if (s != t) then -((x*y:Nat):Int) else ((x*y:Nat):Int))=(if s then -(x:Int) else (x:Int))*(if t then -(y:Int) else (y:Int)):=by
 cases s<;>cases t<;>simp[Int.neg_mul,Int.mul_neg]
theorem Qg9{n:Nat}{w u:Qd}(hn:big≤n)(hw:Ww w)(hu:Ww u):Qbs n w u=some (toW (wv w*wv u)):=by
 unfold Qbs
 rw[Qa6 hn (by have:=hw.2;omega) (by have:=hu.2;omega) hw.1 hu.1,sbind,Wc,sbind,Q13];rfl
theorem Q00{x y:Nat}:cmpI x y<0↔x<y:=by
 by_cases h:x<y
 . simp[cmpI,h]
 . rw[cmpI,if_neg h];split<;>omega
theorem Qha{n:Nat}{w u:Qd}(hn:big≤n)(hw:Ww w)(hu:Ww u):Qbt n w u=some (toW (wv w+wv u)):=by
 unfold Qbt
 have l1:=hw.2
 have l2:=hu.2
 rw[Qv1 hn (by omega) (by omega) hw.1 hu.1,sbind,Wc,sbind,Qv2 hn (by omega) (by omega) hw.1 hu.1,sbind,bifd,Wc,sbind,Wc,sbind]
 unfold wv
 rcases w with ⟨s,a⟩
 rcases u with ⟨t,b⟩
 simp only[]
 generalize val a=x
 generalize val b=y
 have hc:=@Q00 x y
 cases s<;>cases t<;>simp only[beq_self_eq_true,bifT,bifF,Bool.false_eq_true,if_true,if_false,show(false == true)=false by rfl,show(true == false)=false by rfl,hc]
 . congr 2
 . split<;>congr 2<;>omega
 . split<;>congr 2<;>omega
 . congr 2;omega
theorem Qlr{n:Nat}{w:Qd}(hn:big≤n)(h:Ww w):Qde n w=some (toW (-wv w)):=by
 unfold Qde
 rw[Vi hn (by have:=h.2;omega),sbind,←Km h.1,Wc,sbind]
 unfold wv
 cases w.Neg<;>simp
theorem Q14(z:Int):(toW (-z)).Abs=(toW z).Abs:=by unfold toW;simp
theorem Zg(z:Int):Wd (toW z).Abs:=J4 _
theorem Qbl{n:Nat}{w:Qd}(hn:big≤n)(h:Ww w):Yq n w=some (Int.sign (wv w)):=by
 unfold Yq wv
 rw[Qib hn (by have:=h.2;omega) h.1,sbind,bifd]
 by_cases h0:val w.Abs=0
 . rw[if_pos h0,h0];cases w.Neg<;>rfl
 . rw[if_neg h0]
   cases w.Neg
   . rw[bifF,if_neg (by decide),Int.sign_eq_one_of_pos (by omega)]
   . rw[bifT,if_pos rfl,Int.sign_eq_neg_one_of_neg (by omega)]
theorem Qbm(w:Qd):(wv w).natAbs=val w.Abs:=by unfold wv;split<;>omega
theorem Q3o{w:Qd}(h:Ww w):Ww (toW (-wv w)):=by
 refine⟨Zg _,?_⟩
 rw[Q14]
 show(toL (wv w).natAbs).length<_
 rw[Qbm]
 exact Nat.lt_of_le_of_lt (Jo h.1) h.2
theorem Qen{n:Nat}{w u:Qd}(hn:big≤n)(hw:Ww w)(hu:Ww u):Qag n w u=some (toW (wv w - wv u)):=by
 unfold Qag
 rw[Qlr hn hu,sbind,Qha hn hw (Q3o hu),sbind,Xs,Int.sub_eq_add_neg]
theorem Qsi{n:Nat}{w u:Qd}(hn:big≤n)(hw:Ww w)(hu:Ww u)(h:Ww (toW (wv w - wv u))):Qez n w u=some (Int.sign (wv w - wv u)):=by
 unfold Qez
 rw[Qen hn hw hu,sbind,Qbl hn h,sbind,Xs]
def fv(f:Qa):Rat:=mkRat (wv f.Num) (val f.Den)
def toF(q:Rat):Qa:=⟨toW q.num,toL q.den⟩
theorem Qt(q:Rat):fv (toF q)=q:=by
 unfold fv toF
 rw[Xs,Jd];exact Rat.mkRat_self q
theorem Qa7{z:Int}{d:Nat}(hd:d≠0):(mkRat z d).num=z / (Nat.gcd z.natAbs d:Int)∧(mkRat z d).den=d / Nat.gcd z.natAbs d:=by
 rw[←Rat.normalize_eq_mkRat hd,Rat.normalize_eq]
 exact⟨rfl,rfl⟩
theorem Q15(s:Bool)(x g:Nat)(h:g ∣ x):(if s then -((x / g:Nat):Int) else ((x / g:Nat):Int))=(if s then -(x:Int) else (x:Int)) / (g:Int):=by
 cases s
 . simp
 . simp only[if_true]
   rw[Int.neg_ediv_of_dvd (Int.natCast_dvd_natCast.2 h)];simp
theorem Zk{n:Nat}{w:Qd}{d:List Nat}(hn:big≤n)(hw:Ww w)(hd:Wd d)(hl:d.length<4398046511104)(h0:val d≠0):Xf n w d=some (toF (mkRat (wv w) (val d))):=by
 unfold Xf
 have h1:=hw.2
 have hg:Nat.gcd (val w.Abs) (val d) ∣ val w.Abs:=Nat.gcd_dvd_left _ _
 have hlw:(toL (val w.Abs / Nat.gcd (val w.Abs) (val d))).length<4398046511104:=Nat.lt_of_le_of_lt (Nat.le_trans (Vp (Nat.div_le_self _ _)) (Jo hw.1)) h1
 rw[Qnz hn h1 hl hw.1 hd,sbind,Qgo hn ⟨J4 _,hlw⟩,sbind]
 obtain⟨e1,e2⟩:=Qa7 (z:=wv w) h0
 unfold toF
 rw[e1,e2,Qbm]
 congr 2
 unfold wv
 rw[Jd]
 congr 1
 exact Q15 _ _ _ hg
def Fw(f:Qa):Prop:=Ww f.Num∧Wd f.Den∧f.Den.length<4398046511104
theorem Qkf{n:Nat}{f:Qa}(hn:big≤n)(hf:Fw f):∃ p,Kw n f=some p∧Ww p.1∧Wd p.2∧p.2.length≤max 1 f.Den.length∧p.1.Abs.length≤f.Num.Abs.length∧val p.2≠0∧mkRat (wv p.1) (val p.2)=fv f:=by
 obtain⟨h1,h2,h3⟩:=hf
 unfold Kw fv
 rw[Qib hn (by omega) h2,sbind,bifd]
 by_cases h0:val f.Den=0
 . rw[if_pos h0,Qbx hn (by omega),sbind]
   refine⟨_,rfl,⟨W8,by simp⟩,J4 _,?_,by simp,by simp only[Jd];decide,?_⟩
   . have:=Y3 (n:=1) (k:=1) (by rw[Vw,Zj];omega)
     simp only[];omega
   . simp only[Jd,h0,Rat.mkRat_zero]
     rfl
 . rw[if_neg h0]
   exact⟨_,rfl,h1,h2,by simp only[];omega,Nat.le_refl _,h0,rfl⟩
theorem Jj{n:Nat}{f:Qa}(hn:big≤n)(hf:Fw f):Jg n f=some (toF (fv f)):=by
 obtain⟨p,h1,h2,h3,h4,h5,h6,h7⟩:=Qkf hn hf
 unfold Jg
 rw[h1,sbind,Zk hn h2 h3 (by have:=hf.2.2;omega) h6,sbind,h7]
theorem Qaq{x y:Nat}:(toL (x*y)).length≤(toL x).length+(toL y).length:=by
 refine Y3 ?_
 have h1:=Xr (J4 x)
 have h2:=Xr (J4 y)
 rw[Jd] at h1 h2
 rw[Q3j]
 exact Nat.mul_lt_mul'' h1 h2
theorem Qoq{x y k:Nat}(h1:(toL x).length≤k)(h2:(toL y).length≤k):(toL (x+y)).length≤k+1:=by
 refine Y3 ?_
 have g1:=Xr (J4 x)
 have g2:=Xr (J4 y)
 rw[Jd] at g1 g2
 have g3:=bp_le h1
 have g4:=bp_le h2
 rw[Vw];omega
theorem Y4{n:Nat}{w:Qd}{d:List Nat}(hn:big≤n)(hw:Ww w)(hd:Wd d)(hl:d.length<4398046511104):Xc n w d=some (toW (wv w*(val d:Int))):=by
 unfold Xc
 rw[Qg9 hn hw ⟨hd,hl⟩,sbind];rfl
def Fk(k:Nat)(f:Qa):Prop:=Wd f.Num.Abs∧f.Num.Abs.length≤k∧Wd f.Den∧f.Den.length≤k
theorem Fk_Fw{k:Nat}{f:Qa}(h:Fk k f)(hk:k<4398046511104):Fw f:=⟨⟨h.1,by have:=h.2.1;omega⟩,h.2.2.1,by have:=h.2.2.2;omega⟩
theorem Qa8{n k:Nat}{f:Qa}(hn:big≤n)(hf:Fk k f)(h1:1≤k)(hk:k<4398046511104):∃ w d,Kw n f=some (w,d)∧Wd w.Abs∧w.Abs.length≤k∧Wd d∧d.length≤k∧val d≠0∧mkRat (wv w) (val d)=fv f:=by
 obtain⟨⟨w,d⟩,h1,h2,h3,h4,h5,h6,h7⟩:=Qkf hn (Fk_Fw hf hk)
 exact⟨w,d,h1,h2.1,Nat.le_trans h5 hf.2.1,h3,by have:=hf.2.2.2;simp only at h4;omega,h6,h7⟩
theorem Qfg{w:Qd}{y k j:Nat}(h1:Wd w.Abs)(h2:w.Abs.length≤k)(h3:(toL y).length≤j):(toW (wv w*(y:Int))).Abs.length≤k+j:=by
 unfold toW
 simp only[]
 rw[Int.natAbs_mul,Qbm,Int.natAbs_natCast]
 have:=@Qaq (val w.Abs) y
 have:=Jo h1
 omega
theorem Wy{n k:Nat}{f g:Qa}(hn:big≤n)(h1:1≤k)(hk:k<1099511627776)(hf:Fk k f)(hg:Fk k g):K5 n f g=some (toF (fv f+fv g)):=by
 obtain⟨w,d,a1,a2,a3,a4,a5,a6,a7⟩:=Qa8 hn hf h1 (by omega)
 obtain⟨u,e,b1,b2,b3,b4,b5,b6,b7⟩:=Qa8 hn hg h1 (by omega)
 have l1:=Qfg a2 a3 (Nat.le_trans (Jo b4) b5)
 have l2:=Qfg b2 b3 (Nat.le_trans (Jo a4) a5)
 unfold K5
 rw[a1,sbind,b1,sbind,Y4 hn ⟨a2,by omega⟩ b4 (by omega),sbind,Y4 hn ⟨b2,by omega⟩ a4 (by omega),sbind,Qha hn ⟨Zg _,by omega⟩ ⟨Zg _,by omega⟩,sbind,Qa6 hn (by omega) (by omega) a4 b4,sbind]
 have l3:=@Qaq (val d) (val e)
 have l4:=Jo a4
 have l5:=Jo b4
 rw[Xs,Xs]
 have hs:(toW (wv w * ↑(val e)+wv u * ↑(val d))).Abs.length≤2*k+1:=by
  unfold toW at l1 l2 ⊢
  simp only[] at l1 l2 ⊢
  have:=Int.natAbs_add_le (wv w * ↑(val e)) (wv u * ↑(val d))
  exact Nat.le_trans (Vp this) (Qoq (by omega) (by omega))
 rw[Zk hn ⟨Zg _,by omega⟩ (J4 _) (by omega) (by rw[Jd];exact Nat.mul_ne_zero a6 b6),sbind,Jd,Xs,←a7,←b7,Rat.mkRat_add_mkRat _ _ a6 b6]
theorem Qie{n k:Nat}{f g:Qa}(hn:big≤n)(h1:1≤k)(hk:k<1099511627776)(hf:Fk k f)(hg:Fk k g):Qcr n f g=some (toF (fv f - fv g)):=by
 obtain⟨w,d,a1,a2,a3,a4,a5,a6,a7⟩:=Qa8 hn hf h1 (by omega)
 obtain⟨u,e,b1,b2,b3,b4,b5,b6,b7⟩:=Qa8 hn hg h1 (by omega)
 have l1:=Qfg a2 a3 (Nat.le_trans (Jo b4) b5)
 have l2:=Qfg b2 b3 (Nat.le_trans (Jo a4) a5)
 unfold Qcr
 rw[a1,sbind,b1,sbind,Y4 hn ⟨a2,by omega⟩ b4 (by omega),sbind,Y4 hn ⟨b2,by omega⟩ a4 (by omega),sbind,Qen hn ⟨Zg _,by omega⟩ ⟨Zg _,by omega⟩,sbind,Qa6 hn (by omega) (by omega) a4 b4,sbind]
 have l3:=@Qaq (val d) (val e)
 have l4:=Jo a4
 have l5:=Jo b4
 rw[Xs,Xs]
 have hs:(toW (wv w * ↑(val e) - wv u * ↑(val d))).Abs.length≤2*k+1:=by
  unfold toW at l1 l2 ⊢
  simp only[] at l1 l2 ⊢
  have:=Int.natAbs_sub_le (wv w * ↑(val e)) (wv u * ↑(val d))
  exact Nat.le_trans (Vp this) (Qoq (by omega) (by omega))
 rw[Zk hn ⟨Zg _,by omega⟩ (J4 _) (by omega) (by rw[Jd];exact Nat.mul_ne_zero a6 b6),sbind,Jd,Xs,←a7,←b7,Rat.sub_eq_add_neg,Rat.neg_mkRat,Rat.mkRat_add_mkRat _ _ a6 b6,Int.neg_mul,←Int.sub_eq_add_neg]
theorem Y9{n k:Nat}{f g:Qa}(hn:big≤n)(h1:1≤k)(hk:k<1099511627776)(hf:Fk k f)(hg:Fk k g):X7 n f g=some (toF (fv f*fv g)):=by
 obtain⟨w,d,a1,a2,a3,a4,a5,a6,a7⟩:=Qa8 hn hf h1 (by omega)
 obtain⟨u,e,b1,b2,b3,b4,b5,b6,b7⟩:=Qa8 hn hg h1 (by omega)
 unfold X7
 rw[a1,sbind,b1,sbind,Qg9 hn ⟨a2,by omega⟩ ⟨b2,by omega⟩,sbind,Qa6 hn (by omega) (by omega) a4 b4,sbind]
 have l3:=@Qaq (val d) (val e)
 have l4:=Jo a4
 have l5:=Jo b4
 have hs:(toW (wv w*wv u)).Abs.length≤2*k:=by
  unfold toW
  simp only[]
  rw[Int.natAbs_mul,Qbm,Qbm]
  have g1:=@Qaq (val w.Abs) (val u.Abs)
  have g2:=Jo a2
  have g3:=Jo b2
  omega
 rw[Zk hn ⟨Zg _,by omega⟩ (J4 _) (by omega) (by rw[Jd];exact Nat.mul_ne_zero a6 b6),sbind,Jd,Xs,←a7,←b7,Rat.mkRat_mul_mkRat]
theorem Q16(q:Rat):toF (-q)=⟨toW (-q.num),toL q.den⟩:=rfl
theorem Q3p{f:Qa}(hf:Fw f):Ww (toF (fv f)).Num:=by
 refine⟨Zg _,?_⟩
 show(toL (fv f).num.natAbs).length<_
 by_cases h0:val f.Den=0
 . unfold fv;rw[h0,Rat.mkRat_zero];simp[Vm]
 . obtain⟨e1,_⟩:=Qa7 (z:=wv f.Num) h0
   unfold fv
   rw[e1]
   have h1:(wv f.Num / (Nat.gcd (wv f.Num).natAbs (val f.Den):Int)).natAbs≤val f.Num.Abs:=by
    rw[←Qbm];exact Int.natAbs_ediv_le_natAbs _ _
   exact Nat.lt_of_le_of_lt (Nat.le_trans (Vp h1) (Jo hf.1.1)) hf.1.2
theorem Qt9{n:Nat}{f:Qa}(hn:big≤n)(hf:Fw f):Qgb n f=some (toF (-fv f)):=by
 unfold Qgb
 have h:=Q3p hf
 rw[Jj hn hf,sbind,Qlr hn h,sbind,Q16]
 unfold toF
 simp only[Xs]
theorem Qls{a b:Int}{d e:Nat}(hd:d≠0)(he:e≠0):Int.sign (a*(e:Int) - b*(d:Int))=Int.sign (mkRat a d - mkRat b e).num:=by
 rw[Rat.sub_eq_add_neg,Rat.neg_mkRat,Rat.mkRat_add_mkRat _ _ hd he,Int.neg_mul,←Int.sub_eq_add_neg]
 generalize a*(e:Int) - b*(d:Int)=z
 have h0:d*e≠0:=Nat.mul_ne_zero hd he
 obtain⟨e1,_⟩:=Qa7 (z:=z) h0
 rw[e1]
 have hg:(Nat.gcd z.natAbs (d*e):Int) ∣ z:=Int.dvd_natAbs.1 (Int.natCast_dvd_natCast.2 (Nat.gcd_dvd_left _ _))
 obtain⟨c,hc⟩:=hg
 have hp:0<Nat.gcd z.natAbs (d*e):=Nat.gcd_pos_of_pos_right _ (by omega)
 generalize Nat.gcd z.natAbs (d*e)=g at *
 subst hc
 rw[Int.mul_ediv_cancel_left _ (by omega),Int.sign_mul,Int.sign_eq_one_of_pos (by omega),Int.one_mul]
theorem K7{n k:Nat}{f g:Qa}(hn:big≤n)(h1:1≤k)(hk:k<1099511627776)(hf:Fk k f)(hg:Fk k g):Vo n f g=some (Int.sign (fv f - fv g).num):=by
 obtain⟨w,d,a1,a2,a3,a4,a5,a6,a7⟩:=Qa8 hn hf h1 (by omega)
 obtain⟨u,e,b1,b2,b3,b4,b5,b6,b7⟩:=Qa8 hn hg h1 (by omega)
 have l1:=Qfg a2 a3 (Nat.le_trans (Jo b4) b5)
 have l2:=Qfg b2 b3 (Nat.le_trans (Jo a4) a5)
 have hs:(toW (wv w * ↑(val e) - wv u * ↑(val d))).Abs.length≤2*k+1:=by
  unfold toW at l1 l2 ⊢
  simp only[] at l1 l2 ⊢
  have:=Int.natAbs_sub_le (wv w * ↑(val e)) (wv u * ↑(val d))
  exact Nat.le_trans (Vp this) (Qoq (by omega) (by omega))
 unfold Vo
 rw[a1,sbind,b1,sbind,Y4 hn ⟨a2,by omega⟩ b4 (by omega),sbind,Y4 hn ⟨b2,by omega⟩ a4 (by omega),sbind,Qsi hn ⟨Zg _,by omega⟩ ⟨Zg _,by omega⟩ (by rw[Xs,Xs];exact⟨Zg _,by omega⟩),sbind,Xs,Xs,Qls a6 b6,a7,b7]
def runG{α β τ:Type}(g:Nat->α->β->β ⊕ τ)(e:β->τ):List α->Nat->β->τ
 | [],_,b=>e b
 | x::xs,i,b=>match g i x b with
   | .inl b'=>runG g e xs (i+1) b'
   | .inr t=>t
def toLpp{β σ τ0 τ:Type}(mk:β->Nat->σ)(i:Nat):β ⊕ τ->Lp σ (Lp τ0 τ)
 | .inl b=>.go (mk b (i+1))
 | .inr t=>.out (.out t)
theorem Q01{α β σ τ0 τ:Type}{f:σ->Option (Lp σ (Lp τ0 τ))}{k:τ0->Option τ}{s0:σ}(mk:β->Nat->σ)(g:Nat->α->β->β ⊕ τ)(e0:β->τ0)(e:β->τ)(I:Nat->β->Prop)(xs:List α)(b:β){n:Nat}
 (hb:∀ i x b,xs[i]?=some x->I i b->f (mk b i)=some (toLpp mk i (g i x b))∧∀ b',g i x b=.inl b'->I (i+1) b')
 (he:∀ b,I xs.length b->f (mk b xs.length)=some (.out (.go (e0 b)))) (hk:∀ b,I xs.length b->k (e0 b)=some (e b)) (h0:I 0 b) (hn:xs.length<n) (hs:s0=mk b 0:=by rfl) :
 (loopM f n s0).bind (lpK k)=some (runG g e xs 0 b):=by
 have key:∀(xs:List α) (j:Nat) (b:β) (n:Nat),
  (∀ i x b,xs[i]?=some x->I (j+i) b->f (mk b (j+i))=some (toLpp mk (j+i) (g (j+i) x b))∧∀ b',g (j+i) x b=.inl b'->I (j+i+1) b') →
  (∀ b,I (j+xs.length) b->f (mk b (j+xs.length))=some (.out (.go (e0 b))))->(∀ b,I (j+xs.length) b->k (e0 b)=some (e b))->I j b->xs.length<n->(loopM f n (mk b j)).bind (lpK k)=some (runG g e xs j b):=by
  intro xs
  induction xs with
  | nil=>
    intro j b n _ he hk h0 hn
    simp only[List.length_nil,Nat.add_zero] at he hk
    rw[Qbw (he b h0) (by omega),Option.bind_some]
    exact hk b h0
  | cons x xs ih=>
    intro j b n hb he hk h0 hn
    obtain⟨m,rfl⟩:∃ m,n=m+1:=⟨n - 1,by simp at hn;omega⟩
    obtain⟨h1,h2⟩:=hb 0 x b rfl h0
    simp only[Nat.add_zero] at h1 h2
    simp only[runG]
    cases hg:g j x b with
    | inl b'=>
      rw[hg] at h1
      rw[Qop h1]
      refine ih (j+1) b' m (λi y c hy hc=>?_) (λc hc=>?_) (λc hc=>?_) (h2 b' hg) (by simp at hn;omega)
      . have:=hb (i+1) y c (by simpa using hy)
        rw[show j+(i+1)=j+1+i by omega] at this
        exact this hc
      . have:=he c
        rw[List.length_cons,show j+(xs.length+1)=j+1+xs.length by omega] at this
        exact this hc
      . have:=hk c
        rw[List.length_cons,show j+(xs.length+1)=j+1+xs.length by omega] at this
        exact this hc
    | inr t=>rw[hg] at h1;rw[Qbw h1 (by omega)];rfl
 rw[hs]
 exact key xs 0 b n (λi x c hx hc=>by rw[Nat.zero_add] at hc ⊢;exact hb i x c hx hc) (λc hc=>by rw[Nat.zero_add] at hc ⊢;exact he c hc) (λc hc=>hk c (by rwa [Nat.zero_add] at hc)) h0 hn
theorem Ku{α:Type}{l:List α}{i:Nat}{x:α}(h:l[i]?=some x):getI l (i:Int)=some x:=by rw[Qke,h]
theorem J7{α:Type}{l:List α}{i:Nat}{x:α}(h:l[i]?=some x):i<l.length:=by
 rcases Nat.lt_or_ge i l.length with h1 | h1
 . exact h1
 . rw[List.getElem?_eq_none h1] at h;cases h
theorem Q6{α:Type}{l:List α}{i:Nat}{x:α}(h:l[i]?=some x):x∈l:=List.mem_of_getElem? h
theorem w1{i:Nat}(h:i<9223372036854775807):wrap64 ((i:Int)+1)=((i+1:Nat):Int):=by rw[w64 (by omega) (by omega)];omega
theorem Qtj{σ τ:Type}{f:σ->Option (Lp σ τ)}(F:Nat->σ){t:τ}:∀(N k n:Nat),(∀ i,i<N->f (F (k+i))=some (.go (F (k+i+1))))->f (F (k+N))=some (.out t)->N<n->loopM f n (F k)=some t
 | 0,k,n,_,he,hn=>Qbw he (by omega)
 | N+1,k,n,hb,he,hn=>by
   obtain⟨m,rfl⟩:∃ m,n=m+1:=⟨n - 1,by omega⟩
   have h0:=hb 0 (by omega)
   simp only[Nat.add_zero] at h0
   rw[Qop h0]
   exact Qtj F N (k+1) m (λi hi=>by have:=hb (i+1) (by omega);rw[show k+(i+1)=k+1+i by omega] at this;exact this) (by rw[show k+1+N=k+(N+1) by omega];exact he) (by omega)
theorem Qfh{σ τ R:Type}{f:σ->Option (Lp σ τ)}{s:σ}{K:τ->Option R}{n:Nat}(F:Nat->σ)(N:Nat)(t:τ)(hb:∀ i,i<N->f (F i)=some (.go (F (i+1))))(he:f (F N)=some (.out t))(hn:N<n)(hs:s=F 0):(loopM f n s).bind K=K t:=by
 rw[hs,Qtj F (t:=t) N 0 n (λi hi=>by rw[Nat.zero_add];exact hb i hi) (by rw[Nat.zero_add];exact he) hn,Option.bind_some]
theorem Qq2{α σ τ:Type}{f:Nat->α->σ->Option (Lp σ τ)}(F:Nat->σ):∀(xs:List α) (k:Nat),(∀ i x,xs[i]?=some x->f (k+i) x (F (k+i))=some (.go (F (k+i+1))))->rangeL f xs k (F k)=some (.go (F (k+xs.length)))
 | [],_,_=>rfl
 | x::xs,k,hb=>by
   have h0:=hb 0 x rfl
   simp only[Nat.add_zero] at h0
   simp only[rangeL,h0,Option.bind_some]
   rw[Qq2 F xs (k+1) (λi y hy=>by have:=hb (i+1) y (by simpa using hy);rw[show k+(i+1)=k+1+i by omega] at this;exact this),List.length_cons,show k+1+xs.length=k+(xs.length+1) by omega]
theorem Za{α σ τ R:Type}{f:Nat->α->σ->Option (Lp σ τ)}{s:σ}{K:Lp σ τ->Option R}(F:Nat->σ)(xs:List α)(hb:∀ i x,xs[i]?=some x->f i x (F i)=some (.go (F (i+1))))(hs:s=F 0):(rangeL f xs 0 s).bind K=K (.go (F xs.length)):=by
 rw[hs,Qq2 F xs 0 (λi x hx=>by rw[Nat.zero_add];exact hb i x hx),Option.bind_some,Nat.zero_add]
theorem Qq3{α R:Type}{f:Nat->α->Unit->Option (Lp Unit R)}{r:R}(P:Nat->α->Prop):∀(xs:List α) (k:Nat),(∀ i x,xs[i]?=some x->(P (k+i) x->f (k+i) x ()=some (.go ()))∧(¬ P (k+i) x->f (k+i) x ()=some (.out r))) →
 ((∀ i x,xs[i]?=some x->P (k+i) x)->rangeL f xs k ()=some (.go ()))∧(¬(∀ i x,xs[i]?=some x->P (k+i) x)->rangeL f xs k ()=some (.out r))
 | [],k,_=>⟨λ_=>rfl,λh=>absurd (λi x hx=>by simp at hx) h⟩
 | x::xs,k,hb=>by
   obtain⟨h1,h2⟩:=hb 0 x rfl
   simp only[Nat.add_zero] at h1 h2
   obtain⟨g1,g2⟩:=Qq3 P xs (k+1) (λi y hy=>by have:=hb (i+1) y (by simpa using hy);rw[show k+(i+1)=k+1+i by omega] at this;exact this)
   by_cases hp:P k x
   . have e:(∀ i y,(x::xs)[i]?=some y->P (k+i) y)↔(∀ i y,xs[i]?=some y->P (k+1+i) y):=by
      constructor
      . intro h i y hy;have:=h (i+1) y (by simpa using hy);rw[show k+(i+1)=k+1+i by omega] at this;exact this
      . intro h i y hy
        cases i with
        | zero=>simp at hy;subst hy;exact hp
        | succ i=>rw[show k+(i+1)=k+1+i by omega];exact h i y (by simpa using hy)
     rw[e]
     simp only[rangeL,h1 hp,Option.bind_some]
     exact⟨g1,g2⟩
   . refine⟨λh=>absurd (h 0 x rfl) hp,λ_=>?_⟩
     simp only[rangeL,h2 hp,Option.bind_some]
open Classical in
theorem Wp{α R:Type}{f:Nat->α->Unit->Option (Lp Unit R)}{K:Unit->Option R}{r:R}(P:Nat->α->Prop)(xs:List α)
 (hb:∀ i x,xs[i]?=some x->(P i x->f i x ()=some (.go ()))∧(¬ P i x->f i x ()=some (.out r))) :
 (rangeL f xs 0 ()).bind (lpK K)=if (∀ i x,xs[i]?=some x->P i x) then K () else some r:=by
 obtain⟨g1,g2⟩:=Qq3 P xs 0 (λi x hx=>by rw[Nat.zero_add];exact hb i x hx)
 simp only[Nat.zero_add] at g1 g2
 by_cases h:∀ i x,xs[i]?=some x->P i x
 . rw[if_pos h,g1 h,Option.bind_some,Xq]
 . rw[if_neg h,g2 h,Option.bind_some,Qoo]
theorem Qtk{R:Type}{f:Int->Option (Lp Int (Lp Unit R))}{r:R}(P:Nat->Prop):∀(N k n:Nat),(∀ i,i<k+N->k≤i->(P i->f (i:Int)=some (.go ((i+1:Nat):Int)))∧(¬ P i->f (i:Int)=some (.out (.out r))))->f ((k+N:Nat):Int)=some (.out (.go ()))->N<n →
 ((∀ i,k≤i->i<k+N->P i)->loopM f n (k:Int)=some (.go ()))∧(¬(∀ i,k≤i->i<k+N->P i)->loopM f n (k:Int)=some (.out r))
 | 0,k,n,_,he,hn=>⟨λ_=>Qbw he (by omega),λh=>absurd (λi h1 h2=>by omega) h⟩
 | N+1,k,n,hb,he,hn=>by
   obtain⟨m,rfl⟩:∃ m,n=m+1:=⟨n - 1,by omega⟩
   obtain⟨h1,h2⟩:=hb k (by omega) (Nat.le_refl _)
   obtain⟨g1,g2⟩:=Qtk P N (k+1) m (λi hi hk=>hb i (by omega) (by omega)) (by rw[show k+1+N=k+(N+1) by omega];exact he) (by omega)
   by_cases hp:P k
   . have e:(∀ i,k≤i->i<k+(N+1)->P i)↔(∀ i,k+1≤i->i<k+1+N->P i):=by
      constructor
      . intro h i a b;exact h i (by omega) (by omega)
      . intro h i a b
        rcases Nat.eq_or_lt_of_le a with c | c
        . exact c ▸ hp
        . exact h i c (by omega)
     rw[e,Qop (h1 hp)]
     exact⟨g1,g2⟩
   . exact⟨λh=>absurd (h k (Nat.le_refl _) (by omega)) hp,λ_=>Qbw (h2 hp) (by omega)⟩
open Classical in
theorem Qhb{R:Type}{f:Int->Option (Lp Int (Lp Unit R))}{K:Unit->Option R}{r:R}{n:Nat}(P:Nat->Prop)(N:Nat)
 (hb:∀ i,i<N->(P i->f (i:Int)=some (.go ((i+1:Nat):Int)))∧(¬ P i->f (i:Int)=some (.out (.out r)))) (he:f (N:Int)=some (.out (.go ()))) (hn:N<n) :
 (loopM f n 0).bind (lpK K)=if (∀ i,i<N->P i) then K () else some r:=by
 obtain⟨g1,g2⟩:=Qtk (n:=n) (r:=r) P N 0 (λi hi _=>hb i (by omega)) (by rw[Nat.zero_add];exact he) hn
 simp only[Nat.zero_add,Nat.zero_le,true_implies] at g1 g2
 by_cases h:∀ i,i<N->P i
 . rw[if_pos h]
   have:=g1 h
   rw[show((0:Nat):Int)=0 from rfl] at this
   rw[this,Option.bind_some,Xq]
 . rw[if_neg h]
   have:=g2 h
   rw[show((0:Nat):Int)=0 from rfl] at this
   rw[this,Option.bind_some,Qoo]
theorem Wz{α β:Type}(h:α->β){l:List α}{i:Nat}{x:α}(hx:l[i]?=some x):(l.take (i+1)).map h=(l.take i).map h++[h x]:=by
 rw[List.take_succ_eq_append_getElem (J7 hx),List.map_append]
 have:l[i]'(J7 hx)=x:=by
  have:=List.getElem?_eq_getElem (J7 hx)
  rw[this] at hx;exact Option.some.inj hx
 simp[this]
theorem Qsj:∀ {a b:List Nat},Wd a->Wd b->a.length=b.length->val a=val b->a=b
 | [],[],_,_,_,_=>rfl
 | [],_::_,_,_,h,_=>by simp at h
 | _::_,[],_,_,h,_=>by simp at h
 | x::a,y::b,ha,hb,hl,hv=>by
   obtain⟨h1,h2⟩:=Kf.1 ha
   obtain⟨h3,h4⟩:=Kf.1 hb
   simp only[val] at hv
   have:x=y:=by omega
   subst this
   rw[Qsj h2 h4 (by simpa using hl) (by omega)]
theorem Qkg{x y:Nat}:cmpI x y=0↔x=y:=by
 unfold cmpI
 split
 . constructor<;>intro h<;>omega
 . split
   . constructor<;>intro h<;>omega
   . constructor<;>intro h<;>omega
open Classical in
theorem Qdq{n:Nat}{f:Qa}(hn:big≤n)(hf:Fw f):K1 n f=some (decide (f=toF (fv f))):=by
 unfold K1
 rw[Jj hn hf,sbind,jn_eq]
 have w1:Wd (toF (fv f)).Num.Abs:=J4 _
 have w2:Wd (toF (fv f)).Den:=J4 _
 generalize toF (fv f)=g at *
 obtain⟨⟨h1,h2⟩,h3,h4⟩:=hf
 obtain⟨⟨s,a⟩,d⟩:=f
 obtain⟨⟨t,b⟩,e⟩:=g
 simp only at h1 h2 h3 h4 w1 w2 ⊢
 have hno:∀ {P:Prop},(P->False)->(some false:Option Bool)=some (decide P):=λh=>by rw[decide_eq_false h]
 by_cases c1:s=t
 . subst c1
   rw[show(s == s)=true by simp,bifT]
   by_cases c2:(a.length:Int)=(b.length:Int)
   . rw[decide_eq_true c2,bifT]
     by_cases c3:(d.length:Int)=(e.length:Int)
     . rw[decide_eq_true c3,bifT,Qea hn (by omega) (by omega) h1 w1,sbind]
       by_cases c4:val a=val b
       . rw[decide_eq_true (Qkg.2 c4),bifT,Qea hn (by omega) (by omega) h3 w2,sbind]
         by_cases c5:val d=val e
         . rw[decide_eq_true (Qkg.2 c5),Qsj h1 w1 (by omega) c4,Qsj h3 w2 (by omega) c5,decide_eq_true rfl]
         . rw[decide_eq_false λh=>c5 (Qkg.1 h)];exact hno λh=>by cases h;exact c5 rfl
       . rw[decide_eq_false λh=>c4 (Qkg.1 h),bifF];exact hno λh=>by cases h;exact c4 rfl
     . rw[decide_eq_false c3,bifF];exact hno λh=>by cases h;exact c3 rfl
   . rw[decide_eq_false c2,bifF];exact hno λh=>by cases h;exact c2 rfl
 . rw[show(s == t)=false by simpa using c1,bifF];exact hno λh=>by cases h;exact c1 rfl
def qw(q:Rat):Nat:=max (toL q.num.natAbs).length (toL q.den).length
theorem J9{j k:Nat}{f:Qa}(h:Fk j f)(hk:j≤k):Fk k f:=⟨h.1,by have:=h.2.1;omega,h.2.2.1,by have:=h.2.2.2;omega⟩
theorem Qz{q:Rat}{k:Nat}(h:qw q≤k):Fk k (toF q):=by
 unfold qw at h
 exact⟨Zg _,by show(toL q.num.natAbs).length≤k;omega,J4 _,by show(toL q.den).length≤k;omega⟩
theorem toL1:(toL 1).length=1:=by rw[Y6 (by decide)];simp[Vm]
theorem Qmp{z:Int}{d k:Nat}(hd:d≠0)(h1:(toL z.natAbs).length≤k)(h2:(toL d).length≤k):qw (mkRat z d)≤k:=by
 obtain⟨e1,e2⟩:=Qa7 (z:=z) hd
 unfold qw
 rw[e1,e2]
 have g1:=Vp (Int.natAbs_ediv_le_natAbs z (Nat.gcd z.natAbs d:Int))
 have g2:=Vp (Nat.div_le_self d (Nat.gcd z.natAbs d))
 omega
theorem Qdl:qw 0=1:=by
 unfold qw
 rw[show(0:Rat).num=0 from rfl,show(0:Rat).den=1 from rfl,toL1]
 simp[Vm]
theorem Q3q(q:Rat):1≤qw q:=by
 have:=(Qpe (v:=q.den)).2 q.den_nz
 unfold qw;omega
theorem qw_fv{f:Qa}{k:Nat}(h:Fk k f)(h1:1≤k):qw (fv f)≤k:=by
 unfold fv
 by_cases h0:val f.Den=0
 . rw[h0,Rat.mkRat_zero,Qdl];exact h1
 . refine Qmp h0 ?_ ?_
   . rw[Qbm];exact Nat.le_trans (Jo h.1) h.2.1
   . exact Nat.le_trans (Jo h.2.2.1) h.2.2.2
theorem Qhy(q:Rat):(toL q.num.natAbs).length≤qw q:=by unfold qw;omega
theorem Qn0(q:Rat):(toL q.den).length≤qw q:=by unfold qw;omega
theorem Qaz{a b:Rat}{j k:Nat}(ha:qw a≤j)(hb:qw b≤k):qw (a*b)≤j+k:=by
 rw[←Rat.mkRat_self a,←Rat.mkRat_self b,Rat.mkRat_mul_mkRat]
 have n1:=Qhy a;have n2:=Qhy b;have d1:=Qn0 a;have d2:=Qn0 b
 have:=@Qaq a.num.natAbs b.num.natAbs
 have:=@Qaq a.den b.den
 exact Qmp (Nat.mul_ne_zero a.den_nz b.den_nz) (by rw[Int.natAbs_mul];omega) (by omega)
theorem Qgp{a b:Rat}{j k:Nat}(ha:qw a≤j)(hb:qw b≤k):qw (a+b)≤j+k+1:=by
 rw[←Rat.mkRat_self a,←Rat.mkRat_self b,Rat.mkRat_add_mkRat _ _ a.den_nz b.den_nz]
 have n1:=Qhy a;have n2:=Qhy b;have d1:=Qn0 a;have d2:=Qn0 b
 have m1:=@Qaq a.num.natAbs b.den
 have m2:=@Qaq b.num.natAbs a.den
 have m3:=@Qaq a.den b.den
 refine Qmp (Nat.mul_ne_zero a.den_nz b.den_nz) ?_ (by omega)
 refine Nat.le_trans (Vp (Int.natAbs_add_le _ _)) ?_
 rw[Int.natAbs_mul,Int.natAbs_mul,Int.natAbs_natCast,Int.natAbs_natCast]
 exact Qoq (by omega) (by omega)
theorem Qsk(a:Rat):(-a).num=-a.num:=rfl
theorem Qxd(a:Rat):(-a).den=a.den:=rfl
theorem Qv4(a:Rat):qw (-a)=qw a:=by unfold qw;rw[Qsk,Qxd,Int.natAbs_neg]
theorem Qq4{a b:Rat}{j k:Nat}(ha:qw a≤j)(hb:qw b≤k):qw (a - b)≤j+k+1:=by
 rw[Rat.sub_eq_add_neg];exact Qgp ha (by rw[Qv4];exact hb)
theorem Qzx{a:Rat}{j:Nat}(ha:qw a≤j):qw a⁻¹≤j:=by
 have n1:=Qhy a;have d1:=Qn0 a;have p:=Q3q a
 unfold qw
 rw[Rat.num_inv,Rat.den_inv]
 have h1:(toL (a.num.sign*(a.den:Int)).natAbs).length≤j:=by
  rw[Int.natAbs_mul,Int.natAbs_natCast]
  refine Nat.le_trans (Vp (y:=a.den) ?_) (by omega)
  have:a.num.sign.natAbs≤1:=by rw[Int.natAbs_sign];split<;>omega
  calc a.num.sign.natAbs*a.den≤1*a.den:=Nat.mul_le_mul_right _ this
   _=a.den:=Nat.one_mul _
 have h2:(toL (if a.num=0 then 1 else a.num.natAbs)).length≤j:=by
  split
  . rw[toL1];omega
  . omega
 omega
theorem Qzy{a b:Rat}{j k:Nat}(ha:qw a≤j)(hb:qw b≤k):qw (a / b)≤j+k:=by
 rw[Rat.div_def];exact Qaz ha (Qzx hb)
theorem Qzz{a:Rat}{j:Nat}(ha:qw a≤j):∀ n:Nat,qw (a ^ n)≤n*j+1
 | 0=>by rw[Rat.pow_zero];unfold qw;rw[show(1:Rat).num=1 from rfl,show(1:Rat).den=1 from rfl,show(1:Int).natAbs=1 from rfl,toL1];omega
 | n+1=>by
   have:=Qaz (Qzz ha n) ha
   rw[Rat.pow_succ,Nat.succ_mul];omega
theorem Q17(x:Int):toF (x:Rat)=⟨toW x,toL 1⟩:=by unfold toF;rw[Rat.num_intCast,Rat.den_intCast]
theorem Qif{n:Nat}{x:Int}(hn:big≤n)(h1:-9223372036854775808≤x)(h2:x≤9223372036854775807):Qcs n x=some (toW x):=by
 unfold Qcs
 rw[bifd]
 split
 . rename_i h
   have e:(18446744073709551616 - Int.toNat (x%18446744073709551616))%18446744073709551616=x.natAbs:=by omega
   rw[sbind,e,Qbx hn (by omega),sbind,Wc,sbind,if_pos rfl,show -((x.natAbs:Nat):Int)=x by omega]
 . rename_i h
   have e:Int.toNat (x%18446744073709551616)=x.natAbs:=by omega
   rw[e,Qbx hn (by omega),sbind,Wc,sbind,if_neg (by decide),show((x.natAbs:Nat):Int)=x by omega]
theorem Qgq{n:Nat}{x:Int}(hn:big≤n)(h1:-9223372036854775808≤x)(h2:x≤9223372036854775807):Jx n x=some (toF (x:Rat)):=by
 unfold Jx
 rw[Qif hn h1 h2,sbind,Qbx hn (by decide),sbind,Q17]
theorem Xm{n:Nat}(hn:big≤n):Jx n 0=some (toF 0):=Qgq hn (by decide) (by decide)
theorem Z5{n:Nat}(hn:big≤n):Jx n 1=some (toF 1):=Qgq hn (by decide) (by decide)
theorem Qyh{z:Int}{d:Nat}(hd:d≠0):(mkRat z d).num.sign=z.sign:=by
 have:=Qls (a:=z) (b:=0) hd (e:=1) (by decide)
 rw[Rat.zero_mkRat,show mkRat z d - 0=mkRat z d by rw[Rat.sub_eq_add_neg,show(-0:Rat)=0 from rfl,Rat.add_zero]] at this
 rw[←this];simp
theorem Vx{n k:Nat}{f:Qa}(hn:big≤n)(h1:1≤k)(hk:k<1099511627776)(hf:Fk k f):Vg n f=some (fv f).num.sign:=by
 obtain⟨w,d,a1,a2,a3,a4,a5,a6,a7⟩:=Qa8 hn hf h1 (by omega)
 unfold Vg
 rw[a1,sbind,Qbl hn ⟨a2,by omega⟩,sbind,←a7,Qyh a6]
theorem Qv5{a b:Rat}:(a - b).num=0↔a=b:=by
 rw[Rat.num_eq_zero];grind
theorem Kv{n k:Nat}{f g:Qa}(hn:big≤n)(h1:1≤k)(hk:k<1099511627776)(hf:Fk k f)(hg:Fk k g):Jn n f g=some (decide (fv f=fv g)):=by
 unfold Jn
 rw[K7 hn h1 hk hf hg,sbind]
 refine congrArg some (decide_eq_decide.2 ?_)
 rw[Int.sign_eq_zero_iff_zero,Qv5]
def absQ(q:Rat):Rat:=if q.num<0 then -q else q
theorem Q18(q:Rat):toF (absQ q)=⟨⟨false,(toF q).Num.Abs⟩,(toF q).Den⟩:=by
 unfold absQ toF toW
 split
 . rw[Qsk,Qxd,Int.natAbs_neg,decide_eq_false (by omega)]
 . rw[decide_eq_false (by omega)]
theorem Qua{n k:Nat}{f:Qa}(hn:big≤n)(hk:k<1099511627776)(hf:Fk k f):Qgd n f=some (toF (absQ (fv f))):=by
 unfold Qgd
 rw[Jj hn (Fk_Fw hf (by omega)),sbind,Q18]
def qz(q:Rat):Nat:=blen q.num.natAbs+blen q.den
theorem Qsl{n k:Nat}{f:Qa}(hn:big≤n)(hk:k<1099511627776)(hf:Fk k f):Vf n f=some ((blen (val f.Num.Abs)+blen (val f.Den):Nat):Int):=by
 unfold Vf
 obtain⟨h1,h2,h3,h4⟩:=hf
 have b1:=@Qmo (val f.Num.Abs)
 have b2:=@Qmo (val f.Den)
 have b3:=Jo h1
 have b4:=Jo h3
 rw[Qm5 hn (by omega) h1,sbind,Qm5 hn (by omega) h3,sbind,w64 (by omega) (by omega)]
 rfl
theorem Qkh{n:Nat}{q:Rat}(hn:big≤n)(hk:qw q<1099511627776):Vf n (toF q)=some (qz q:Int):=by
 rw[Qsl hn hk (Qz (Nat.le_refl _))]
 unfold qz toF toW
 simp only[Jd]
theorem Qq5{v b:Nat}(h:blen v≤b):(toL v).length≤b / 32+1:=by
 refine Y3 ?_
 have h1:=@Qsd v
 rw[Qnw]
 exact Nat.lt_of_lt_of_le h1 (Nat.pow_le_pow_right (by decide) (by omega))
theorem qw_qz{q:Rat}{b:Nat}(h:qz q≤b):qw q≤b / 32+1:=by
 unfold qz at h
 have h1:=@Qq5 q.num.natAbs b (by omega)
 have h2:=@Qq5 q.den b (by omega)
 unfold qw;omega
theorem Q19:∀ {u:Qd},wv u≠0->(wv u).sign=if u.Neg then -1 else 1
 | ⟨false,a⟩,h=>by
   have e:wv ⟨false,a⟩=(val a:Int):=rfl
   rw[e] at h ⊢;rw[Int.sign_eq_one_of_pos (by omega)];rfl
 | ⟨true,a⟩,h=>by
   have e:wv ⟨true,a⟩=-(val a:Int):=rfl
   rw[e] at h ⊢;rw[Int.sign_eq_neg_one_of_neg (by omega)];rfl
theorem Qz0{z:Int}{d:Nat}(hz:z≠0)(hd:d≠0):(mkRat z d)⁻¹=mkRat (z.sign*(d:Int)) z.natAbs:=by
 have h0:mkRat z d≠0:=λh=>hz ((Rat.mkRat_eq_zero hd).1 h)
 have h1:mkRat z d*mkRat (z.sign*(d:Int)) z.natAbs=1:=by
  rw[Rat.mkRat_mul_mkRat,←Int.mul_assoc,Int.mul_sign_self,show(1:Rat)=mkRat 1 1 from rfl,Rat.mkRat_eq_iff (Nat.mul_ne_zero hd (by omega)) (by decide)]
  simp[Int.mul_comm]
 grind
theorem Qm6{n k:Nat}{f g:Qa}(hn:big≤n)(h1:1≤k)(hk:k<1099511627776)(hf:Fk k f)(hg:Fk k g):Qct n f g=some (if fv g=0 then (toF 0,false) else (toF (fv f / fv g),true)):=by
 obtain⟨w,d,a1,a2,a3,a4,a5,a6,a7⟩:=Qa8 hn hf h1 (by omega)
 obtain⟨u,e,b1,b2,b3,b4,b5,b6,b7⟩:=Qa8 hn hg h1 (by omega)
 unfold Qct
 rw[a1,sbind,b1,sbind,Qbl hn ⟨b2,by omega⟩,sbind,bifd]
 have hz:(wv u).sign=0↔fv g=0:=by rw[←b7,Rat.mkRat_eq_zero b6,Int.sign_eq_zero_iff_zero]
 by_cases h0:fv g=0
 . rw[if_pos (hz.2 h0),if_pos h0,Xm hn,sbind]
 . rw[if_neg (λh=>h0 (hz.1 h)),if_neg h0,Y4 hn ⟨a2,by omega⟩ b4 (by omega),sbind,Qa6 hn (by omega) (by omega) a4 b2,sbind]
   have l1:=Qfg a2 a3 (Nat.le_trans (Jo b4) b5)
   have l3:=@Qaq (val d) (val u.Abs)
   have l4:=Jo a4
   have l5:=Jo b2
   have hu0:wv u≠0:=λh=>h0 (by rw[←b7,h,Rat.zero_mkRat])
   have hv0:val u.Abs≠0:=by rw[←Qbm];omega
   rw[Zk (w:=⟨(toW (wv w * ↑(val e))).Neg != u.Neg,(toW (wv w * ↑(val e))).Abs⟩) hn ⟨Zg (wv w * ↑(val e)),by show(toW (wv w * ↑(val e))).Abs.length<_;omega⟩ (J4 _) (by omega) (by rw[Jd];exact Nat.mul_ne_zero a6 hv0),sbind,Jd]
   refine congrArg some (Prod.ext ?_ rfl)
   refine congrArg toF ?_
   have e1:wv (⟨((toW (wv w * ↑(val e))).Neg != u.Neg),(toW (wv w * ↑(val e))).Abs⟩:Qd)=(wv w*(val e:Int))*(wv u).sign:=by
    have t:=Xs (wv w * ↑(val e))
    generalize toW (wv w * ↑(val e))=x at t ⊢
    rw[←t]
    have hs:=Q19 hu0
    rw[hs]
    unfold wv
    cases x.Neg<;>cases u.Neg<;>simp
   rw[e1,←a7,←b7,Rat.div_def]
   have e2:=Qz0 hu0 b6
   rw[Qbm] at e2
   rw[e2,Rat.mkRat_mul_mkRat]
   congr 1
   rw[Int.mul_assoc,Int.mul_comm (val e:Int)]
theorem Qor{v j:Nat}(h:(toL v).length≤j):∀ t,(toL (v ^ t)).length≤t*j+1
 | 0=>by rw[Nat.pow_zero,toL1];omega
 | t+1=>by
   have:=Qor h t
   have:=@Qaq (v ^ t) v
   rw[Nat.pow_succ,Nat.succ_mul];omega
theorem Qki{n j t:Nat}{a:List Nat}(hn:big≤n)(ha:Wd a)(hl:a.length≤j)(hj:j<1099511627776)(ht:t≤7+1):Qca n a (t:Int)=some (toL (val a ^ t)):=by
 unfold Qca
 rw[Qbx hn (by decide),sbind]
 rw[Qfh (λi=>(toL (val a ^ i),(i:Int))) t (toL (val a ^ t))]
 . intro i hi
   have h1:=Qor (Nat.le_trans (Jo ha) hl) i
   have h2:i*j≤8*j:=Nat.mul_le_mul_right _ (by omega)
   simp only[bifd]
   rw[if_pos (by omega),Qa6 hn (by omega) (by omega) (J4 _) ha,sbind,Jd,w1 (by omega),Nat.pow_succ]
 . simp only[bifd];rw[if_neg (by omega)]
 . unfold big at hn;omega
 . rfl
theorem Qxe(z:Int)(t:Nat):(if (decide (z<0) && decide (t%2=1))=true then -((z.natAbs ^ t:Nat):Int) else ((z.natAbs ^ t:Nat):Int))=z ^ t:=by
 rw[Int.natCast_pow]
 by_cases hz:z<0
 . have e:(z.natAbs:Int)=-z:=by omega
   rw[e,decide_eq_true hz,Bool.true_and]
   rcases Nat.mod_two_eq_zero_or_one t with h | h
   . rw[if_neg (by rw[h];decide)]
     obtain⟨m,rfl⟩:∃ m,t=2*m:=⟨t / 2,by omega⟩
     rw[Int.pow_mul,Int.pow_mul];congr 1
     rw[Int.pow_succ,Int.pow_succ,Int.pow_succ,Int.pow_succ];simp[Int.neg_mul_neg]
   . rw[if_pos (by rw[h];decide)]
     obtain⟨m,rfl⟩:∃ m,t=2*m+1:=⟨t / 2,by omega⟩
     rw[Int.pow_succ,Int.pow_succ,Int.pow_mul,Int.pow_mul]
     have:(-z) ^ 2=z ^ 2:=by rw[Int.pow_succ,Int.pow_succ,Int.pow_succ,Int.pow_succ];simp[Int.neg_mul_neg]
     rw[this,Int.mul_neg,Int.neg_neg]
 . have e:(z.natAbs:Int)=z:=by omega
   rw[decide_eq_false hz,Bool.false_and,if_neg (by decide),e]
theorem Qub{n k:Nat}{f:Qa}{e:Int}(hn:big≤n)(h1:1≤k)(hk:k<1099511627)(hf:Fk k f):
 Qgc n f e=some (if e < -8∨8<e∨(e<0∧fv f=0) then (toF 0,false) else (toF (fv f ^ e),true)):=by
 unfold Qgc
 simp only[jn_eq]
 by_cases c1:e < -8
 . rw[decide_eq_true c1,bifT,bifT,Xm hn,sbind,if_pos (.inl c1)]
 rw[decide_eq_false c1,bifF]
 by_cases c2:8<e
 . rw[decide_eq_true c2,bifT,bifT,Xm hn,sbind,if_pos (.inr (.inl c2))]
 rw[decide_eq_false c2,bifF]
 have hS:=Vx hn h1 (by omega) hf
 have hq:=qw_fv hf h1
 have hF:Fk k (toF (fv f)):=Qz hq
 obtain⟨g1,g2,g3,g4⟩:=hF
 have hN:=Jj hn (Fk_Fw hf (by omega))
 have ht:max e (wrap64 (-e))=((e.natAbs:Nat):Int):=by rw[w64 (by omega) (by omega)];omega
 have p1:=Qki (t:=e.natAbs) hn g1 g2 (by omega) (by omega)
 have p2:=Qki (t:=e.natAbs) hn g3 g4 (by omega) (by omega)
 have l1:=Qor (Nat.le_trans (Jo g1) g2) e.natAbs
 have l2:=Qor (Nat.le_trans (Jo g3) g4) e.natAbs
 have l3:e.natAbs*k≤8*k:=Nat.mul_le_mul_right _ (by omega)
 have hmod:decide (Int.tmod ((e.natAbs:Nat):Int) 2=1)=decide (e.natAbs%2=1):=by
  refine decide_eq_decide.2 ?_
  rw[Int.tmod_eq_emod_of_nonneg (by omega)];omega
 have v1:val (toF (fv f)).Num.Abs=(fv f).num.natAbs:=Jd _
 have v2:val (toF (fv f)).Den=(fv f).den:=Jd _
 have v3:(toF (fv f)).Num.Neg=decide ((fv f).num<0):=rfl
 rw[v1] at p1 l1
 rw[v2] at p2 l2
 have fin:∀(u d:Nat),(toL u).length≤8*k+1->(if (toF (fv f)).Num.Neg=true then (Yp n (⟨decide (Int.tmod (max e (wrap64 (-e))) 2=1),toL u⟩:Qd)).bind λr26=>some ((⟨r26,toL d⟩:Qa),true) else (Yp n (⟨false,toL u⟩:Qd)).bind λr28=>some ((⟨r28,toL d⟩:Qa),true)) =
  some (⟨toW (if (decide ((fv f).num<0) && decide (e.natAbs%2=1))=true then -(u:Int) else (u:Int)),toL d⟩,true):=by
  intro u d hu
  rw[ht,hmod,v3]
  by_cases hz:(fv f).num<0
  . rw[if_pos (decide_eq_true hz),Qgo hn ⟨J4 _,by show(toL u).length<_;omega⟩,sbind,decide_eq_true hz,Bool.true_and]
    unfold wv
    simp only[Jd]
  . rw[if_neg (by rw[decide_eq_false hz];decide),Qgo hn ⟨J4 _,by show(toL u).length<_;omega⟩,sbind,decide_eq_false hz,Bool.false_and]
    unfold wv
    simp only[Jd]
 have bifi:∀ {α:Type}(b:Bool) (x y:α),(bif b then x else y)=if b=true then x else y:=λb x y=>by cases b<;>rfl
 by_cases c3:e<0
 . rw[decide_eq_true c3,bifT,hS,sbind]
   by_cases c4:fv f=0
   . rw[c4,show((0:Rat).num.sign)=0 from rfl,decide_eq_true rfl,bifT,Xm hn,sbind,if_pos (.inr (.inr ⟨c3,c4 ▸ rfl⟩))]
   . have hn0:(fv f).num≠0:=λh=>c4 (Rat.num_eq_zero.1 h)
     rw[decide_eq_false (by rw[Int.sign_eq_zero_iff_zero];exact hn0),bifF,hN,sbind,ht,p1,sbind,p2,sbind,bifT]
     rw[bifi,←ht,fin _ _ (by omega),if_neg (c:=e < -8∨8<e∨(e<0∧fv f=0)) (by rintro(h | h | h);exact c1 h;exact c2 h;exact c4 h.2)]
     refine congrArg some (Prod.ext ?_ rfl)
     have ee:e=-((e.natAbs:Nat):Int):=by omega
     have es:fv f ^ e=(fv f ^ e.natAbs)⁻¹:=by
      rw[←Rat.zpow_natCast,←Rat.zpow_neg,←ee]
     rw[es]
     unfold toF
     rw[Rat.num_inv,Rat.den_inv,Rat.num_pow,Rat.den_pow]
     have hnp:(fv f).num ^ e.natAbs≠0:=Int.pow_ne_zero hn0
     rw[if_neg hnp,Int.natAbs_pow]
     have hs:=Qxe (fv f).num e.natAbs
     have hp:0<(fv f).num.natAbs ^ e.natAbs:=Nat.pow_pos (by omega)
     congr 2
     rw[←hs]
     by_cases hc:(decide ((fv f).num<0) && decide (e.natAbs%2=1))=true
     . rw[if_pos hc,if_pos hc,Int.sign_eq_neg_one_of_neg (by omega),Int.neg_mul,Int.one_mul]
     . rw[if_neg hc,if_neg hc,Int.sign_eq_one_of_pos (by omega),Int.one_mul]
 . rw[decide_eq_false c3,bifF,bifF,hN,sbind,ht,p1,sbind,p2,sbind,bifF]
   rw[bifi,←ht,fin _ _ (by omega),if_neg (c:=e < -8∨8<e∨(e<0∧fv f=0)) (by rintro(h | h | h);exact c1 h;exact c2 h;exact c3 h.1)]
   refine congrArg some (Prod.ext ?_ rfl)
   have es:fv f ^ e=fv f ^ e.natAbs:=by
    rw[←Rat.zpow_natCast,show((e.natAbs:Nat):Int)=e by omega]
   rw[es]
   unfold toF
   rw[Rat.num_pow,Rat.den_pow,Qxe]
theorem Q2a{a:Rat}{j:Nat}(ha:qw a≤j){e:Int}(h:e.natAbs≤8):qw (a ^ e)≤8*j+1:=by
 have l3:e.natAbs*j≤8*j:=Nat.mul_le_mul_right _ (by omega)
 have h1:=Qzz ha e.natAbs
 rcases Int.lt_or_le e 0 with c | c
 . have es:a ^ e=(a ^ e.natAbs)⁻¹:=by
    rw[←Rat.zpow_natCast,←Rat.zpow_neg,show -((e.natAbs:Nat):Int)=e by omega]
   rw[es];exact Qzx (by omega)
 . have es:a ^ e=a ^ e.natAbs:=by
    rw[←Rat.zpow_natCast,show((e.natAbs:Nat):Int)=e by omega]
   rw[es];omega
def maxQ(a b:Rat):Rat:=if 0<(b - a).num.sign then b else a
theorem Qsm{n k:Nat}{f g:Qa}(hn:big≤n)(h1:1≤k)(hk:k<1099511627776)(hf:Fk k f)(hg:Fk k g):Qge n [f,g]=some (toF (maxQ (fv f) (fv g))):=by
 unfold Qge
 simp only[jn_eq,rangeL]
 have hF:Fk k (toF (fv f)):=Qz (qw_fv hf h1)
 rw[Xm hn,sbind,show decide (((0:Nat):Int)=0)=true from rfl,bifT,bifT,Jj hn (Fk_Fw hf (by omega)),sbind,sbind]
 simp only[]
 rw[show decide (((0+1:Nat):Int)=0)=false from rfl,bifF,K7 hn h1 hk hg hF,sbind,Qt,bifd]
 unfold maxQ
 split
 . rw[Jj hn (Fk_Fw hg (by omega)),sbind];rfl
 . rfl
def rv(l:List Qa):List Rat:=l.map fv
def toR(l:List Rat):List Qa:=l.map toF
theorem Va(l:List Rat):rv (toR l)=l:=by
 unfold rv toR;rw[List.map_map]
 conv=>rhs;rw[←List.map_id l]
 exact List.map_congr_left λq _=>Qt q
theorem Vn(l:List Qa):(rv l).length=l.length:=by unfold rv;simp
theorem Kc(l:List Rat):(toR l).length=l.length:=by unfold toR;simp
def FR(k:Nat)(l:List Qa):Prop:=∀ x∈l,Fk k x
def QR(k:Nat)(l:List Rat):Prop:=∀ x∈l,qw x≤k
theorem Kx{k:Nat}{l:List Rat}(h:QR k l):FR k (toR l):=λx hx=>by
 unfold toR at hx
 obtain⟨q,hq,rfl⟩:=List.mem_map.1 hx
 exact Qz (h q hq)
theorem QR_rv{k:Nat}{l:List Qa}(h:FR k l)(h1:1≤k):QR k (rv l):=λx hx=>by
 unfold rv at hx
 obtain⟨q,hq,rfl⟩:=List.mem_map.1 hx
 exact qw_fv (h q hq) h1
theorem Y7{j k:Nat}{l:List Qa}(h:FR j l)(hk:j≤k):FR k l:=λx hx=>J9 (h x hx) hk
theorem Vh{j k:Nat}{l:List Rat}(h:QR j l)(hk:j≤k):QR k l:=λx hx=>Nat.le_trans (h x hx) hk
theorem Qsn{α:Type}{n:Nat}{a:List α}{g:α->Rat}{f:Nat->α->List Qa->Option (Lp (List Qa) (List Qa))}(_:big≤n)(hl:a.length≤1000000)
 (hb:∀ i x s,a[i]?=some x->f i x s=(appM 56 s [toF (g x)]).bind λy=>some (Lp.go y)):(rangeL f a 0 []).bind (lpK λs=>some s)=some (toR (a.map g)):=by
 rw[Za (λi=>(a.take i).map λx=>toF (g x)) a,Xq,List.take_length]
 . unfold toR;rw[List.map_map];rfl
 . intro i x hx
   have:=J7 hx
   rw[hb i x _ hx,V7 (by simp;omega) (by simp;omega),sbind,Wz _ hx]
 . rfl
theorem Qm7{n k:Nat}{a:List Qa}(hn:big≤n)(hk:k<1099511627776)(ha:FR k a)(hl:a.length≤1000000):Qga n a=some (toR (rv a)):=by
 unfold Qga
 refine Qsn (g:=fv) hn hl λi x s hx=>?_
 rw[Jj hn (Fk_Fw (ha x (Q6 hx)) (by omega)),sbind]
theorem Qkj{n k:Nat}{a:List Qa}(hn:big≤n)(hk:k<1099511627776)(ha:FR k a)(hl:a.length≤1000000):Qd3 n a=some (toR (rv a)):=Qm7 hn hk ha hl
def scaleQ(c:Rat)(l:List Rat):List Rat:=l.map (c * ·)
theorem Yj{n k:Nat}{c:Qa}{a:List Qa}(hn:big≤n)(h1:1≤k)(hk:k<1099511627776)(hc:Fk k c)(ha:FR k a)(hl:a.length≤1000000):W1 n c a=some (toR (scaleQ (fv c) (rv a))):=by
 unfold W1
 rw[Qsn (g:=λx=>fv c*fv x) hn hl λi x s hx=>?_]
 . unfold scaleQ rv;rw[List.map_map];rfl
 . rw[Y9 hn h1 hk hc (ha x (Q6 hx)),sbind]
theorem Qpy{j k:Nat}{c:Rat}{l:List Rat}(hc:qw c≤j)(h:QR k l):QR (j+k) (scaleQ c l):=λx hx=>by
 unfold scaleQ at hx
 obtain⟨q,hq,rfl⟩:=List.mem_map.1 hx
 exact Qaz hc (h q hq)
theorem Qtl{α β τ R:Type}{f:Nat->α->List β->Option (Lp (List β) τ)}{K:Lp (List β) τ->Option R}(g:α->β->β)(xs:List α)(s:List β)(h:xs.length=s.length)
 (hb:∀ i x y s',xs[i]?=some x->s[i]?=some y->s'[i]?=some y->f i x s'=some (.go (s'.set i (g x y)))):(rangeL f xs 0 s).bind K=K (.go (List.zipWith g xs s)):=by
 have hlen:∀ i,i≤xs.length->(List.zipWith g (xs.take i) (s.take i)).length=i:=λi hi=>by simp;omega
 rw[Za (λi=>List.zipWith g (xs.take i) (s.take i)++s.drop i) xs]
 . rw[List.take_length,h,List.take_length,List.drop_length,List.append_nil]
 . intro i x hx
   have hi:=J7 hx
   have hy:s[i]?=some s[i]:=List.getElem?_eq_getElem (by omega)
   have hg:(List.zipWith g (xs.take i) (s.take i)++s.drop i)[i]?=some s[i]:=by
    rw[List.getElem?_append_right (by rw[hlen i (by omega)];exact Nat.le_refl _),hlen i (by omega),Nat.sub_self,List.getElem?_drop,Nat.add_zero,hy]
   rw[hb i x s[i] _ hx hy hg]
   refine congrArg (λz=>some (Lp.go z)) ?_
   have hd:s.drop i=s[i]::s.drop (i+1):=List.drop_eq_getElem_cons (by omega)
   have e1:xs.take (i+1)=xs.take i++[x]:=by
    rw[List.take_add_one,hx];rfl
   have e2:s.take (i+1)=s.take i++[s[i]]:=by
    rw[List.take_add_one,hy];rfl
   rw[hd,List.set_append_right _ _ (by rw[hlen i (by omega)];exact Nat.le_refl _),hlen i (by omega),Nat.sub_self,List.set_cons_zero,e1,e2,List.zipWith_append (by simp;omega)]
   simp
 . simp
def addQ(a b:List Rat):List Rat:=List.zipWith (·+·) a b
theorem Qz1{α:Type}{x:α}{l:List α}:getI (x::l) 0=some x:=rfl
theorem Qn1{n k:Nat}{a b:List Qa}(hn:big≤n)(h1:1≤k)(hk:k<1099511627776)(ha:FR k a)(hb:FR k b)(hl:a.length≤1000000):
 Qfn n [a,b]=some (if a.length=b.length then (toR (addQ (rv a) (rv b)),true) else ([],false)):=by
 unfold Qfn
 have hs:sub [a,b] (1:Int) (([a,b]:List (List Qa)).length:Int)=some [b]:=rfl
 rw[show decide ((([a,b]:List (List Qa)).length:Int)=0)=false from rfl,bifF,Qz1,sbind,Qm7 hn hk ha hl,sbind,hs,sbind]
 simp only[rangeL]
 rw[Kc,Vn]
 by_cases h:a.length=b.length
 . rw[if_pos h,decide_eq_true (show(b.length:Int)=(a.length:Int) by omega),Bool.not_true,bifF,Qtl (λ(x:Qa) (y:Qa)=>toF (fv y+fv x)) b (toR (rv a)) (by rw[Kc,Vn,h]),Xq,sbind]
   . simp only[]
     rw[sbind,Xq]
     refine congrArg some (Prod.ext ?_ rfl)
     simp only[]
     unfold addQ toR rv
     rw[List.map_zipWith,List.map_map,List.zipWith_map_right,List.zipWith_map,List.zipWith_comm]
     . congr 1
       funext x y
       simp only[Function.comp,Qt]
   . intro i x y s' hx hy hy'
     have hy2:Fk k y:=Kx (QR_rv ha h1) y (Q6 hy)
     rw[Ku hy',sbind,Wy hn h1 hk hy2 (hb x (Q6 hx)),sbind,sbind,Int.toNat_natCast]
 . rw[if_neg h,decide_eq_false (show ¬(b.length:Int)=(a.length:Int) by omega),Bool.not_false,bifT,sbind]
   rfl
theorem Qso{α β γ:Type}{g:α->β->γ}{P:γ->Prop}:∀ {a:List α}{b:List β},(∀ x∈a,∀ y∈b,P (g x y))->∀ z∈List.zipWith g a b,P z
 | [],_,_,z,hz=>by simp at hz
 | _::_,[],_,z,hz=>by simp at hz
 | x::a,y::b,h,z,hz=>by
   rcases List.mem_cons.1 hz with rfl | hz
   . exact h x (.head _) y (.head _)
   . exact Qso (λx' hx y' hy=>h x' (.tail _ hx) y' (.tail _ hy)) z hz
theorem Qz2{j k:Nat}{a b:List Rat}(ha:QR j a)(hb:QR k b):QR (j+k+1) (addQ a b):=Qso λx hx y hy=>Qgp (ha x hx) (hb y hy)
theorem Qv6{a b:List Rat}:(addQ a b).length=min a.length b.length:=by unfold addQ;simp
theorem Qmq{c:Rat}{a:List Rat}:(scaleQ c a).length=a.length:=by unfold scaleQ;simp
theorem Quc{n m:Nat}(hn:big≤n)(hm:m≤300):Qek n (m:Int)=some (toR (List.replicate m 0)):=by
 unfold Qek
 have e:min (max (m:Int) 0) 300=(m:Int):=by omega
 rw[e,Qjr (by omega) (by omega),sbind]
 rw[Qfh (λi=>(List.replicate i (toF 0)++List.replicate (m - i) (⟨⟨false,[]⟩,[]⟩:Qa),(i:Int))) m (toR (List.replicate m 0))]
 . intro i hi
   simp only[bifd]
   have hd:List.replicate (m - i) (⟨⟨false,[]⟩,[]⟩:Qa)=⟨⟨false,[]⟩,[]⟩::List.replicate (m - (i+1)) ⟨⟨false,[]⟩,[]⟩:=by
    rw[show m - i=(m - (i+1))+1 by omega,List.replicate_succ]
   rw[if_pos (by omega),Xm hn,sbind,hd,Vt (by simp),sbind,Ye (by simp),w1 (by omega)]
   refine congrArg (λz=>some (Lp.go (z,_))) ?_
   rw[List.replicate_succ',List.append_assoc];rfl
 . simp only[bifd]
   rw[if_neg (by omega),Nat.sub_self,List.replicate_zero,List.append_nil]
   unfold toR;rw[List.map_replicate]
 . unfold big at hn;omega
 . simp
def mixQ:List Rat->List (List Rat)->List Rat->List Rat
 | c::cs,a::l,z=>mixQ cs l (List.zipWith (λx o=>o+c*x) a z)
 | _,_,z=>z
theorem Qtm:∀ {cs:List Rat}{l:List (List Rat)}{z:List Rat}{c a},cs.length=l.length->mixQ (cs++[c]) (l++[a]) z=List.zipWith (λx o=>o+c*x) a (mixQ cs l z)
 | [],[],z,c,a,_=>rfl
 | [],_::_,_,_,_,h=>by simp at h
 | _::_,[],_,_,_,h=>by simp at h
 | x::cs,y::l,z,c,a,h=>by
   simp only[List.cons_append,mixQ]
   exact Qtm (by simpa using h)
theorem Qmr{m:Nat}:∀ {cs:List Rat}{l:List (List Rat)}{z:List Rat},(∀ a∈l,a.length=m)->z.length=m->(mixQ cs l z).length=m
 | [],_,z,_,h=>by simpa [mixQ] using h
 | _::_,[],z,_,h=>by simpa [mixQ] using h
 | x::cs,y::l,z,hl,h=>by
   simp only[mixQ]
   exact Qmr (λa ha=>hl a (.tail _ ha)) (by have:=hl y (.head _);simp;omega)
theorem Qq6{j k:Nat}:∀ {cs:List Rat}{l:List (List Rat)}{z:List Rat}{b:Nat},QR j cs->(∀ a∈l,QR k a)->QR b z->QR (b+l.length*(j+k+1)) (mixQ cs l z)
 | [],_,z,b,_,_,h=>Vh h (by omega)
 | _::_,[],z,b,_,_,h=>Vh h (by omega)
 | x::cs,y::l,z,b,hc,hl,h=>by
   simp only[mixQ]
   have h2:QR (b+(j+k)+1) (List.zipWith (λx' o=>o+x*x') y z):=Qso λu hu o ho=>Qgp (h o ho) (Qaz (hc x (.head _)) (hl y (.head _) u hu))
   refine Vh (Qq6 (λq hq=>hc q (.tail _ hq)) (λa ha=>hl a (.tail _ ha)) h2) ?_
   rw[List.length_cons,Nat.succ_mul];omega
theorem Qv7{m:Nat}:∀ {a z:List Rat},a.length=m->z.length=m->List.zipWith (λx o=>o+0*x) a z=z
 | [],[],_,_=>rfl
 | [],_::_,h,h'=>by simp at h h';omega
 | _::_,[],h,h'=>by simp at h h';omega
 | x::a,y::z,h,h'=>by
   simp only[List.length_cons] at h h'
   rw[List.zipWith_cons_cons,Qv7 (m:=m - 1) (by omega) (by omega)]
   congr 1;grind
theorem Qv8{α:Type}{l:List (List α)}{m:Nat}:(∀(i:Nat) x,l[i]?=some x->x.length=m)↔∀ a∈l,a.length=m:=by
 constructor
 . intro h a ha
   obtain⟨j,hj⟩:=List.getElem?_of_mem ha
   exact h j a hj
 . intro h i x hx;exact h x (Q6 hx)
theorem Qpz{n:Nat}{c:List Qa}{l:List (List Qa)}{m:Int}:Qf9 n c l m=Qni n c l m:=Eq.symm (Eq.symm rfl)
theorem Q2b(l:List Qa)(i:Nat):rv (l.take i)=(rv l).take i:=by unfold rv;rw[List.map_take]
open Classical in
theorem Qv9{n j k m:Nat}{c:List Qa}{l:List (List Qa)}(hn:big≤n)(h1:1≤j)(h2:1≤k)(hj:j<1048576)(hk:k<1048576)(hc:FR j c)(hl:∀ a∈l,FR k a)(hm:m≤300)(hll:l.length≤10000):
 Qni n c l (m:Int)=some (if c.length=l.length∧∀ a∈l,a.length=m then (toR (mixQ (rv c) (l.map rv) (List.replicate m 0)),true) else ([],false)):=by
 unfold Qni
 simp only[jn_eq]
 by_cases g1:c.length=l.length
 . rw[decide_eq_true (show(c.length:Int)=(l.length:Int) by omega),Bool.not_true,bifF,decide_eq_false (show ¬(m:Int)<0 by omega),bifF,decide_eq_false (show ¬(300:Int)<(m:Int) by omega),bifF]
   rw[Wp (λ_ (a:List Qa)=>a.length=m) (r:=(([]:List Qa),false))]
   . rw[Qv8]
     by_cases g2:∀ a∈l,a.length=m
     . rw[if_pos g2,if_pos ⟨g1,g2⟩,Quc hn hm,sbind]
       have hcr:=QR_rv hc h1
       rw[Za (λi=>toR (mixQ (rv (c.take i)) ((l.take i).map rv) (List.replicate m 0))) l,Xq,←g1,List.take_length,g1,List.take_length]
       . intro i a hx
         have hi:=J7 hx
         have hci:c[i]?=some c[i]:=List.getElem?_eq_getElem (by omega)
         have hck:Fk j c[i]:=hc _ (List.getElem_mem (by omega))
         have ha:=hl a (Q6 hx)
         have hal:=g2 a (Q6 hx)
         generalize c[i]'(by omega)=ck at hci hck
         have e1:c.take (i+1)=c.take i++[ck]:=by rw[List.take_add_one,hci];rfl
         have e2:l.take (i+1)=l.take i++[a]:=by rw[List.take_add_one,hx];rfl
         have e3:rv (c.take (i+1))=rv (c.take i)++[fv ck]:=by unfold rv;rw[e1,List.map_append];rfl
         have e4:(l.take (i+1)).map rv=(l.take i).map rv++[rv a]:=by rw[e2,List.map_append];rfl
         have e5:(rv (c.take i)).length=((l.take i).map rv).length:=by rw[Vn];simp;omega
         rw[Ku hci,sbind,Vx hn h1 (by omega) hck,sbind,bifd,e3,e4,Qtm e5]
         have hz0:(mixQ (rv (c.take i)) ((l.take i).map rv) (List.replicate m 0)).length=m:=Qmr (λb hb=>by
          obtain⟨d,hd,rfl⟩:=List.mem_map.1 hb
          rw[Vn];exact g2 d (List.mem_of_mem_take hd)) (by simp)
         have hzq:QR (1+(l.take i).length*(j+k+1)) (mixQ (rv (c.take i)) ((l.take i).map rv) (List.replicate m 0)):=by
          have:=Qq6 (j:=j) (k:=k) (b:=1) (cs:=rv (c.take i)) (l:=(l.take i).map rv) (z:=List.replicate m 0) (λq hq=>by rw[Q2b] at hq;exact hcr q (List.mem_of_mem_take hq)) (λb hb=>by
           obtain⟨d,hd,rfl⟩:=List.mem_map.1 hb
           exact QR_rv (hl d (List.mem_of_mem_take hd)) h2) (λq hq=>by rw[(List.mem_replicate.1 hq).2,Qdl];exact Nat.le_refl _)
          rwa [List.length_map] at this
         have hb1:(l.take i).length*(j+k+1)≤10000*2097152:=Nat.mul_le_mul (by simp;omega) (by omega)
         have hzq2:=Vh hzq (show _≤20971520001 by omega)
         generalize mixQ (rv (c.take i)) ((l.take i).map rv) (List.replicate m 0)=z at hz0 hzq2
         by_cases g3:(fv ck).num.sign=0
         . rw[if_pos g3]
           have h0:fv ck=0:=Rat.num_eq_zero.1 (Int.sign_eq_zero_iff_zero.1 g3)
           rw[h0,Qv7 (m:=m) (by rw[Vn,hal]) hz0]
         . rw[if_neg g3,Qtl (λ(x:Qa) (o:Qa)=>toF (fv o+fv ck*fv x)) a (toR z) (by rw[Kc,hal,hz0]),Xq]
           . refine congrArg (λz=>some (Lp.go z)) ?_
             unfold toR rv
             rw[List.map_zipWith,List.zipWith_map_right,List.zipWith_map_left]
             congr 1
             funext x y
             rw[Qt]
           . intro i' x y s' hx' hy hy'
             have hy2:Fk 20971520001 y:=Kx hzq2 y (Q6 hy)
             have hxk:=ha x (Q6 hx')
             have hp:qw (fv ck*fv x)≤j+k:=Qaz (qw_fv hck h1) (qw_fv hxk h2)
             rw[Ku hy',sbind,sbind,Y9 (k:=j+k) hn (by omega) (by omega) (J9 hck (by omega)) (J9 hxk (by omega)),sbind,Wy (k:=20971520001) hn (by omega) (by omega) hy2 (Qz (by omega)),sbind,sbind,Int.toNat_natCast,Qt]
       . rfl
     . rw[if_neg g2,if_neg (λh=>g2 h.2)]
   . intro i x hx
     constructor
     . intro h;rw[decide_eq_true (show(x.length:Int)=(m:Int) by omega)];rfl
     . intro h;rw[decide_eq_false (show ¬(x.length:Int)=(m:Int) by omega)];rfl
 . rw[decide_eq_false (show ¬(c.length:Int)=(l.length:Int) by omega),if_neg (λh=>g1 h.1)];rfl
theorem Qsp(l:List Qa)(i:Nat):(rv l)[i]?=(l[i]?).map fv:=by unfold rv;simp
theorem Qa9{n k:Nat}{a b:List Qa}(hn:big≤n)(h1:1≤k)(hk:k<1099511627776)(ha:FR k a)(hb:FR k b):Vy n a b=some (decide (rv a=rv b)):=by
 classical
 unfold Vy
 by_cases h:a.length=b.length
 . rw[decide_eq_true (show(a.length:Int)=(b.length:Int) by omega),Bool.not_true,bifF]
   rw[Wp (λi (x:Qa)=>∀ y,b[i]?=some y->fv x=fv y) (r:=false)]
   . have e:(∀(i:Nat) x,a[i]?=some x->∀ y,b[i]?=some y->fv x=fv y)↔rv a=rv b:=by
      constructor
      . intro g
        refine List.ext_getElem? λi=>?_
        rw[Qsp,Qsp]
        rcases Nat.lt_or_ge i a.length with hi | hi
        . have e1:a[i]?=some a[i]:=List.getElem?_eq_getElem hi
          have e2:b[i]?=some (b[i]'(by omega)):=List.getElem?_eq_getElem (by omega)
          have:=g i _ e1 _ e2
          rw[e1,e2];exact congrArg some this
        . rw[List.getElem?_eq_none hi,List.getElem?_eq_none (by omega)]
      . intro g i x hx y hy
        have:=congrArg (·[i]?) g
        simp only[Qsp,hx,hy,Option.map_some] at this
        exact Option.some.inj this
     by_cases hd:rv a=rv b
     . rw[if_pos (e.2 hd),decide_eq_true hd]
     . rw[if_neg (λg=>hd (e.1 g)),decide_eq_false hd]
   . intro i x hx
     have hi:=J7 hx
     have e2:b[i]?=some (b[i]'(by omega)):=List.getElem?_eq_getElem (by omega)
     rw[Ku e2,sbind,Kv hn h1 hk (ha x (Q6 hx)) (hb _ (Q6 e2)),sbind]
     constructor
     . intro g;rw[decide_eq_true (g _ e2)];rfl
     . intro g
       rw[decide_eq_false (λg'=>g λy hy=>by rw[e2] at hy;cases hy;exact g')];rfl
 . rw[decide_eq_false (show ¬(a.length:Int)=(b.length:Int) by omega),Bool.not_false,bifT,decide_eq_false]
   intro g;apply h;rw[←Vn a,g,Vn]
def normQ(l:List Rat):Rat:=l.foldl (λb x=>maxQ b (absQ x)) 0
theorem Qwa(q:Rat):qw (absQ q)=qw q:=by unfold absQ;split;exact Qv4 q;rfl
theorem Qz3{a b:Rat}{k:Nat}(ha:qw a≤k)(hb:qw b≤k):qw (maxQ a b)≤k:=by unfold maxQ;split<;>assumption
theorem Qig{n k:Nat}{a:List Qa}(hn:big≤n)(h1:1≤k)(hk:k<1099511627776)(ha:FR k a):Qac n a=some (toF (normQ (rv a))):=by
 unfold Qac
 have hq:∀(l:List Rat) (b:Rat),QR k l->qw b≤k->qw (l.foldl (λb x=>maxQ b (absQ x)) b)≤k:=by
  intro l
  induction l with
  | nil=>intro b _ hb;exact hb
  | cons x l ih=>intro b hl hb;exact ih _ (λq hq=>hl q (.tail _ hq)) (Qz3 hb (by rw[Qwa];exact hl x (.head _)))
 rw[Xm hn,sbind,Za (λi=>toF ((rv (a.take i)).foldl (λb x=>maxQ b (absQ x)) 0)) a,Xq,List.take_length]
 . rfl
 . intro i x hx
   have e1:a.take (i+1)=a.take i++[x]:=by rw[List.take_add_one,hx];rfl
   have e3:rv (a.take (i+1))=rv (a.take i)++[fv x]:=by unfold rv;rw[e1,List.map_append];rfl
   have hx1:=ha x (Q6 hx)
   have hb:=hq (rv (a.take i)) 0 (QR_rv (λy hy=>ha y (List.mem_of_mem_take hy)) h1) (by rw[Qdl];exact h1)
   rw[Qua hn hk hx1,sbind,Qsm hn h1 hk (Qz hb) (Qz (by rw[Qwa];exact qw_fv hx1 h1)),sbind,e3,List.foldl_append,Qt,Qt]
   rfl
 . rfl
theorem Qdr(x m:Int):Xd x m=some (decide (0≤x∧x<m)):=by
 unfold Xd;simp only[jn_eq,bifd]
 by_cases h:0≤x
 . rw[if_pos h];simp[h]
 . rw[if_neg h];simp[h]
def rdT(i:Q7):List Int:=if i.Op=6∨i.Op=11 then [i.A] else if i.Op=7∨i.Op=8∨i.Op=9∨i.Op=10 then [i.A,i.B] else []
theorem Qkk(i:Q7):Qb8 i=some (rdT i):=by
 unfold Qb8 rdT
 simp only[jn_eq,bifd]
 by_cases h6:i.Op=6
 . simp[h6]
 by_cases h11:i.Op=11
 . simp[h11]
 by_cases h7:i.Op=7
 . simp[h7]
 by_cases h8:i.Op=8
 . simp[h8]
 by_cases h9:i.Op=9
 . simp[h9]
 by_cases h10:i.Op=10
 . simp[h10]
 simp[h6,h7,h8,h9,h10,h11]
def TW(t:Q2):Prop:=∀ c∈t.Code,Fw c.N
def tI(x:Jf):Q7:=⟨x.Op,x.A,x.B,⟨⟨x.N.Neg,x.N.N⟩,x.N.D⟩⟩
theorem Qbn(f:Qe)(k:Nat):Q9 f (k:Int)=some (!decide (f.N.length≤k∧f.D.length≤k)):=by
 unfold Q9
 simp only[jn_eq,bifd]
 by_cases h:(k:Int)<(f.N.length:Int)
 . rw[if_pos h,decide_eq_false (by omega)];rfl
 . rw[if_neg h]
   by_cases g:(k:Int)<(f.D.length:Int)
   . rw[decide_eq_true g,decide_eq_false (by omega)];rfl
   . rw[decide_eq_false g,decide_eq_true (by omega)];rfl
theorem Qq7{n:Nat}{t:Je}{many k:Nat}(hn:big≤n)(hm:many≤1000000):∃ v,Xy n t (many:Int) (k:Int)=some v∧(v=false->t.Code.length≤many∧t.Outs.length≤many∧∀ c∈t.Code,c.N.N.length≤k∧c.N.D.length≤k):=by
 unfold Xy
 rw[Qhb (λi=>∀ c,t.Code[i]?=some c->c.N.N.length≤k∧c.N.D.length≤k) (min t.Code.length many) (r:=true)]
 . by_cases h:∀ i,i<min t.Code.length many->∀ c,t.Code[i]?=some c->c.N.N.length≤k∧c.N.D.length≤k
   . rw[if_pos h]
     simp only[jn_eq,bifd]
     by_cases h1:(many:Int)<(t.Code.length:Int)
     . rw[if_pos h1];exact⟨true,rfl,λh=>by cases h⟩
     . rw[if_neg h1]
       refine⟨_,rfl,λhv=>⟨by omega,by have:=of_decide_eq_false hv;omega,λc hc=>?_⟩⟩
       obtain⟨i,hi⟩:=List.getElem?_of_mem hc
       exact h i (by have:=J7 hi;omega) c hi
   . rw[if_neg h];exact⟨true,rfl,λh=>by cases h⟩
 . intro i hi
   have hp:t.Code[i]?=some t.Code[i]:=List.getElem?_eq_getElem (by omega)
   generalize t.Code[i]=c at hp
   simp only[jn_eq,bifd]
   rw[if_pos (by omega),if_pos (by omega),Ku hp,sbind,Qbn,sbind]
   by_cases h:c.N.N.length≤k∧c.N.D.length≤k
   . rw[decide_eq_true h,Bool.not_true,bifF,w1 (by omega)]
     exact⟨λ_=>rfl,λg=>absurd (λd hd=>by rw[hp] at hd;cases hd;exact h) g⟩
   . rw[decide_eq_false h,Bool.not_false,bifT]
     exact⟨λg=>absurd (g c hp) h,λ_=>rfl⟩
 . simp only[jn_eq,bifd]
   by_cases h:min t.Code.length many<t.Code.length
   . rw[if_pos (by omega),if_neg (by omega)]
   . rw[if_neg (by omega),bifF]
 . unfold big at hn;omega
theorem Qud{n:Nat}{t:Je}(hn:big≤n)(h1:t.Code.length≤1000000)(h2:t.Outs.length≤1000000):Yw n t=some ⟨t.Code.map tI,t.Outs,t.Dim,t.Par⟩:=by
 unfold Yw
 rw[V7 (by simp;omega) (by simp;omega),sbind]
 rw[Qfh (λi=>((t.Code.take i).map tI,(i:Int))) t.Code.length (t.Code.map tI)]
 . rfl
 . intro i hi
   have hp:t.Code[i]?=some t.Code[i]:=List.getElem?_eq_getElem hi
   generalize t.Code[i]=p at hp
   simp only[bifd,Jc,sbind]
   rw[if_pos (by omega),Ku hp,sbind,V7 (by simp;omega) (by simp;omega),sbind,w1 (by omega),Wz tI hp];rfl
 . simp only[bifd];rw[if_neg (by omega),List.take_length]
 . unfold big at hn;omega
 . rfl
def tF(x:Qe):Qa:=⟨⟨x.Neg,x.N⟩,x.D⟩
theorem Zb{n:Nat}{l:List Qe}(hn:big≤n)(h1:l.length≤1000000):Ke n l=some (l.map tF):=by
 unfold Ke
 rw[Qfh (λi=>((l.take i).map tF,(i:Int))) l.length (l.map tF)]
 . intro i hi
   have hp:l[i]?=some l[i]:=List.getElem?_eq_getElem hi
   generalize l[i]=p at hp
   simp only[bifd,Jc,sbind]
   rw[if_pos (by omega),Ku hp,sbind,V7 (by simp;omega) (by simp;omega),sbind,w1 (by omega),Wz tF hp];rfl
 . simp only[bifd];rw[if_neg (by omega),List.take_length]
 . unfold big at hn;omega
 . rfl
theorem Que{n:Nat}{l:List (List Qe)}(hn:big≤n)(h1:l.length≤1000000)(h2:∀ r∈l,r.length≤1000000):Yv n l=some (l.map (·.map tF)):=by
 unfold Yv
 rw[Qfh (λi=>((l.take i).map (·.map tF),(i:Int))) l.length (l.map (·.map tF))]
 . intro i hi
   have hp:l[i]?=some l[i]:=List.getElem?_eq_getElem hi
   generalize l[i]=p at hp
   simp only[bifd]
   rw[if_pos (by omega),Ku hp,sbind,Zb hn (h2 p (Q6 hp)),sbind,V7 (by simp;omega) (by simp;omega),sbind,w1 (by omega),Wz (·.map tF) hp]
 . simp only[bifd];rw[if_neg (by omega),List.take_length]
 . unfold big at hn;omega
 . rfl
def FL(many k:Nat)(l:List Qe):Prop:=l.length≤many∧∀ x∈l,x.N.length≤k∧x.D.length≤k
theorem Xu{n:Nat}{l:List Qe}{many k:Nat}(hn:big≤n)(hm:many≤1000000):∃ v,Q0 n l (many:Int) (k:Int)=some v∧(v=false->FL many k l):=by
 unfold Q0
 rw[Qhb (λi=>∀ c,l[i]?=some c->c.N.length≤k∧c.D.length≤k) (min l.length many) (r:=true)]
 . by_cases h:∀ i,i<min l.length many->∀ c,l[i]?=some c->c.N.length≤k∧c.D.length≤k
   . rw[if_pos h]
     refine⟨_,rfl,λhv=>⟨by have:=of_decide_eq_false hv;omega,λc hc=>?_⟩⟩
     have:=of_decide_eq_false hv
     obtain⟨i,hi⟩:=List.getElem?_of_mem hc
     exact h i (by have:=J7 hi;omega) c hi
   . rw[if_neg h];exact⟨true,rfl,λh=>by cases h⟩
 . intro i hi
   have hp:l[i]?=some l[i]:=List.getElem?_eq_getElem (by omega)
   generalize l[i]=c at hp
   simp only[jn_eq,bifd]
   rw[if_pos (by omega),if_pos (by omega),Ku hp,sbind,Qbn,sbind]
   by_cases h:c.N.length≤k∧c.D.length≤k
   . rw[decide_eq_true h,Bool.not_true,bifF,w1 (by omega)]
     exact⟨λ_=>rfl,λg=>absurd (λd hd=>by rw[hp] at hd;cases hd;exact h) g⟩
   . rw[decide_eq_false h,Bool.not_false,bifT]
     exact⟨λg=>absurd (g c hp) h,λ_=>rfl⟩
 . simp only[jn_eq,bifd]
   by_cases h:min l.length many<l.length
   . rw[if_pos (by omega),if_neg (by omega)]
   . rw[if_neg (by omega),bifF]
 . unfold big at hn;omega
theorem Qq8{n:Nat}{s:Ja}{many k:Nat}(hn:big≤n)(hm:many≤1000000):∃ v,Xz n s (many:Int) (k:Int)=some v ∧
 (v=false->s.Name.length≤50∧s.A.length≤many∧FL many k s.B∧FL many k s.C∧FL many k s.E∧∀ r∈s.A,FL many k r):=by
 unfold Xz
 simp only[jn_eq,bifd]
 by_cases h1:(50:Int)<(s.Name.length:Int)
 . rw[if_pos h1];exact⟨true,rfl,λh=>by cases h⟩
 rw[if_neg h1]
 by_cases h2:(many:Int)<(s.A.length:Int)
 . rw[if_pos h2];exact⟨true,rfl,λh=>by cases h⟩
 rw[if_neg h2]
 obtain⟨b,e1,e2⟩:=Xu (l:=s.B) (k:=k) hn hm
 rw[e1,sbind]
 cases b
 case true=>exact⟨true,rfl,λh=>by cases h⟩
 rw[bifF]
 obtain⟨c,e3,e4⟩:=Xu (l:=s.C) (k:=k) hn hm
 rw[e3,sbind]
 cases c
 case true=>exact⟨true,rfl,λh=>by cases h⟩
 rw[bifF]
 obtain⟨e,e5,e6⟩:=Xu (l:=s.E) (k:=k) hn hm
 rw[e5,sbind]
 cases e
 case true=>exact⟨true,rfl,λh=>by cases h⟩
 rw[bifF]
 have hb:∀ r,∃ v,Q0 n r (many:Int) (k:Int)=some v∧(v=false->FL many k r):=λr=>Xu hn hm
 have hl:=Qhb (f:=λ(s28:Int)=>
  if s28<(s.A.length:Int) then (
   (getI s.A s28).bind λy29=>
   (Q0 n y29 (many:Int) (k:Int)).bind λr31=>
   bif r31 then (
    some (Lp.out (Lp.out (true))))
   else (
    some (Lp.go (wrap64 (s28+(1:Int))))))
  else (
   some (Lp.out (Lp.go ())))) (n:=n) (K:=λ(_:Unit)=>some false) (r:=true) (λi=>∀ r,s.A[i]?=some r->Q0 n r (many:Int) (k:Int)=some false) s.A.length (λi hi=>by
  have hp:s.A[i]?=some s.A[i]:=List.getElem?_eq_getElem hi
  generalize s.A[i]=r at hp
  obtain⟨v,g1,g2⟩:=hb r
  rw[if_pos (by omega),Ku hp,sbind,g1,sbind]
  cases v
  . rw[bifF,w1 (by omega)]
    exact⟨λ_=>rfl,λg=>absurd (λd hd=>by rw[hp] at hd;cases hd;exact g1) g⟩
  . rw[bifT]
    exact⟨λg=>(by have:=g r hp;rw[g1] at this;cases this),λ_=>rfl⟩) (by rw[if_neg (by omega)]) (by unfold big at hn;omega)
 rw[hl]
 by_cases h:∀ i,i<s.A.length->∀ r,s.A[i]?=some r->Q0 n r (many:Int) (k:Int)=some false
 . rw[if_pos h]
   refine⟨false,rfl,λ_=>⟨by omega,by omega,e2 rfl,e4 rfl,e6 rfl,λr hr=>?_⟩⟩
   obtain⟨i,hi⟩:=List.getElem?_of_mem hr
   obtain⟨v,g1,g2⟩:=hb r
   have:=h i (J7 hi) r hi
   rw[g1] at this
   exact g2 (Option.some.inj this)
 . rw[if_neg h];exact⟨true,rfl,λh=>by cases h⟩
theorem Qq9{n:Nat}{p:Q4}{a b k:Nat}(hn:big≤n)(ha:a≤1000000)(hb:b≤1000000):∃ v,X0 n p (a:Int) (b:Int) (k:Int)=some v ∧
 (v=false->(p.Tape.Code.length≤a∧p.Tape.Outs.length≤a∧∀ c∈p.Tape.Code,c.N.N.length≤k∧c.N.D.length≤k)∧(p.Scheme.Name.length≤50∧p.Scheme.A.length≤b∧FL b 4 p.Scheme.B∧FL b 4 p.Scheme.C∧FL b 4 p.Scheme.E∧∀ r∈p.Scheme.A,FL b 4 r)∧FL 6 k p.P):=by
 unfold X0
 simp only[jn_eq]
 obtain⟨u,e1,e2⟩:=Qq7 (t:=p.Tape) (k:=k) hn ha
 rw[e1,sbind]
 cases u
 case true=>exact⟨true,rfl,λh=>by cases h⟩
 rw[bifF]
 obtain⟨u,e3,e4⟩:=Qq8 (s:=p.Scheme) (k:=4) hn hb
 rw[show((4:Nat):Int)=4 from rfl] at e3
 rw[e3,sbind]
 cases u
 case true=>exact⟨true,rfl,λh=>by cases h⟩
 rw[bifF]
 obtain⟨u,e5,e6⟩:=Xu (l:=p.P) (many:=6) (k:=k) hn (by decide)
 rw[show((6:Nat):Int)=6 from rfl] at e5
 rw[e5,sbind]
 exact⟨u,rfl,λh=>⟨e2 rfl,e4 rfl,e6 h⟩⟩
def tS(s:Ja):Qr:=⟨s.Name,s.C.map tF,s.A.map (·.map tF),s.B.map tF,s.E.map tF⟩
def tT(t:Je):Q2:=⟨t.Code.map tI,t.Outs,t.Dim,t.Par⟩
def tP(p:Q4):Ql:=⟨tT p.Tape,tS p.Scheme,p.P.map tF,p.Bits⟩
theorem Quf{n:Nat}{p:Q4}(hn:big≤n)(h1:p.Tape.Code.length≤1000000)(h2:p.Tape.Outs.length≤1000000)(h3:p.Scheme.A.length≤1000000)(h4:p.Scheme.B.length≤1000000)(h5:p.Scheme.C.length≤1000000)(h6:p.Scheme.E.length≤1000000)
 (h7:∀ r∈p.Scheme.A,r.length≤1000000) (h8:p.P.length≤1000000):Yx n p=some (tP p):=by
 unfold Yx Qad
 rw[Qud hn h1 h2,sbind,Zb hn h5,sbind,Que hn h3 h7,sbind,Zb hn h4,sbind,Zb hn h6,sbind,sbind,Zb hn h8,sbind]
 rfl
theorem Qkl{α:Type}{l:List α}{i:Nat}{x:α}(h:l[i]?=some x):l.take (i+1)=l.take i++[x]:=by rw[List.take_add_one,h];rfl
theorem Z6{α:Type}{l:List α}{P:α->Prop}:(∀(i:Nat) x,l[i]?=some x->P x)↔∀ a∈l,P a:=by
 constructor
 . intro h a ha
   obtain⟨j,hj⟩:=List.getElem?_of_mem ha
   exact h j a hj
 . intro h i x hx;exact h x (Q6 hx)
noncomputable def dP(p:Prop):Bool:=@decide p (Classical.propDecidable p)
theorem decP{p:Prop}[Decidable p]:decide p=dP p:=by unfold dP;congr
theorem dP_t{p:Prop}(h:p):dP p=true:=by unfold dP;exact @decide_eq_true p (Classical.propDecidable p) h
theorem dP_f{p:Prop}(h:¬ p):dP p=false:=by unfold dP;exact @decide_eq_false p (Classical.propDecidable p) h
theorem dP_c{p q:Prop}(h:p↔q):dP p=dP q:=by rw[show p=q from propext h]
theorem Y5{p q:Prop}[Decidable p](h:p↔q):some (decide p)=some (dP q):=by rw[decP,dP_c h]
theorem Qsq{p q:Prop}(h:p↔q):some (dP p)=some (dP q):=by rw[dP_c h]
theorem Qos{p q r:Prop}[Decidable p][Decidable q](h:p∧q↔r):(if p then some (decide q) else some false)=some (dP r):=by
 by_cases hp:p
 . rw[if_pos hp];exact Y5 ⟨λhq=>h.1 ⟨hp,hq⟩,λhr=>(h.2 hr).2⟩
 . rw[if_neg hp,dP_f λhr=>hp (h.2 hr).1]
theorem Q3r{p q r:Prop}[Decidable p](h:p∧q↔r):(if p then some (dP q) else some false)=some (dP r):=by
 by_cases hp:p
 . rw[if_pos hp];exact Qsq ⟨λhq=>h.1 ⟨hp,hq⟩,λhr=>(h.2 hr).2⟩
 . rw[if_neg hp,dP_f λhr=>hp (h.2 hr).1]
def blankF(f:Qa):Prop:=f.Num.Neg=false∧f.Num.Abs=[]∧f.Den=[]
theorem Qra(f:Qa):Qd2 f=some (dP (blankF f)):=by
 unfold Qd2 blankF
 obtain⟨⟨s,a⟩,d⟩:=f
 simp only[jn_eq]
 cases s
 . simp only[Bool.not_false,bifT,bifd]
   refine Qos ⟨λh=>⟨trivial,List.eq_nil_of_length_eq_zero (by omega),List.eq_nil_of_length_eq_zero (by omega)⟩,λh=>?_⟩
   obtain⟨_,rfl,rfl⟩:=h
   exact⟨rfl,rfl⟩
 . simp only[Bool.not_true,bifF]
   rw[dP_f λh=>by cases h.1]
theorem bifP{α:Type}(p:Prop)(a b:α):(bif dP p then a else b)=@ite _ p (Classical.propDecidable p) a b:=by
 by_cases h:p
 . rw[dP_t h,if_pos h];rfl
 . rw[dP_f h,if_neg h];rfl
theorem bifnP{α:Type}(p:Prop)(a b:α):(bif !dP p then a else b)=@ite _ p (Classical.propDecidable p) b a:=by
 by_cases h:p
 . rw[dP_t h,if_pos h];rfl
 . rw[dP_f h,if_neg h];rfl
def mayR(t:Q2)(i:Nat)(x:Q7):Prop:=
 if x.Op=1 then x.A=0∧x.B=0∧x.N=toF (fv x.N) else
 blankF x.N∧(∀ r∈rdT x,0≤r∧r<(i:Int)) ∧
 if x.Op=2 then x.A=0∧x.B=0 else if x.Op=3 then (0≤x.A∧x.A<t.Dim)∧x.B=0 else if x.Op=4 then (0≤x.A∧x.A<t.Par)∧x.B=0 else
 if x.Op=6 then x.B=0 else if x.Op=11 then -8≤x.B∧x.B≤8 else (rdT x).length=2
theorem Qug{n:Nat}{t:Q2}{i:Nat}{x:Q7}(hn:big≤n)(ht:Fw x.N)(hx:t.Code[i]?=some x):Qej n t (i:Int)=some (dP (mayR t i x)):=by
 unfold Qej mayR
 rw[Ku hx,sbind,bifd]
 by_cases h1:x.Op=1
 . have e1:(if x.Op=1 then x.A=0∧x.B=0∧x.N=toF (fv x.N) else blankF x.N∧(∀ r∈rdT x,0≤r∧r<(i:Int)) ∧
    if x.Op=2 then x.A=0∧x.B=0 else if x.Op=3 then (0≤x.A∧x.A<t.Dim)∧x.B=0 else if x.Op=4 then (0≤x.A∧x.A<t.Par)∧x.B=0 else
    if x.Op=6 then x.B=0 else if x.Op=11 then -8≤x.B∧x.B≤8 else (rdT x).length=2)=(x.A=0∧x.B=0∧x.N=toF (fv x.N)):=if_pos h1
   simp only[e1]
   rw[if_pos h1]
   have hR:=Qdq hn ht
   simp only[jn_eq,Qfm,sbind]
   have e2:Zh (⟨x.Op,x.A,x.B⟩:J5) ⟨1,0,0⟩=decide (x.A=0∧x.B=0):=by
    unfold Zh
    simp only[h1]
    by_cases a:x.A=0<;>by_cases b:x.B=0<;>simp[a,b]
   rw[e2,hR,sbind,bifd]
   rw[@decP _ (Classical.propDecidable _)]
   refine Q3r ⟨λh=>⟨h.1.1,h.1.2,h.2⟩,λh=>⟨⟨h.1,h.2.1⟩,h.2.2⟩⟩
 . have e1:(if x.Op=1 then x.A=0∧x.B=0∧x.N=toF (fv x.N) else blankF x.N∧(∀ r∈rdT x,0≤r∧r<(i:Int)) ∧
    if x.Op=2 then x.A=0∧x.B=0 else if x.Op=3 then (0≤x.A∧x.A<t.Dim)∧x.B=0 else if x.Op=4 then (0≤x.A∧x.A<t.Par)∧x.B=0 else
    if x.Op=6 then x.B=0 else if x.Op=11 then -8≤x.B∧x.B≤8 else (rdT x).length=2)=(blankF x.N∧(∀ r∈rdT x,0≤r∧r<(i:Int)) ∧
    if x.Op=2 then x.A=0∧x.B=0 else if x.Op=3 then (0≤x.A∧x.A<t.Dim)∧x.B=0 else if x.Op=4 then (0≤x.A∧x.A<t.Par)∧x.B=0 else
    if x.Op=6 then x.B=0 else if x.Op=11 then -8≤x.B∧x.B≤8 else (rdT x).length=2):=if_neg h1
   simp only[e1]
   rw[if_neg h1,Qra,sbind,bifnP]
   by_cases hb:blankF x.N
   . rw[if_pos hb,Qkk,sbind,Wp (λ_ (r:Int)=>0≤r∧r<(i:Int)) (r:=false)]
     . rw[Z6]
       by_cases hr:∀ r∈rdT x,0≤r∧r<(i:Int)
       . rw[if_pos hr]
         have fin:∀ {o:Option Bool}{p:Prop},o=some (dP p)->o=some (dP (blankF x.N∧(∀ r∈rdT x,0≤r∧r<(i:Int))∧p)):=λh=>h.trans (Qsq ⟨λg=>⟨hb,hr,g⟩,λg=>g.2.2⟩)
         refine fin ?_
         simp only[jn_eq,Qfm,sbind,Qdr,Qkk,bifd]
         by_cases g2:x.Op=2
         . simp only[if_pos g2]
           refine congrArg some ?_
           unfold Zh
           simp only[g2]
           rw[←decP]
           by_cases a:x.A=0<;>by_cases b:x.B=0<;>simp[a,b]
         simp only[if_neg g2]
         by_cases g3:x.Op=3
         . simp only[if_pos g3];exact Qos Iff.rfl
         simp only[if_neg g3]
         by_cases g4:x.Op=4
         . simp only[if_pos g4];exact Qos Iff.rfl
         simp only[if_neg g4]
         by_cases g6:x.Op=6
         . simp only[if_pos g6];exact Y5 Iff.rfl
         simp only[if_neg g6]
         by_cases g11:x.Op=11
         . simp only[if_pos g11];exact Qos Iff.rfl
         simp only[if_neg g11]
         exact Y5 (by omega)
       . rw[if_neg hr,dP_f λh=>hr h.2.1]
     . intro j r _
       simp only[Qdr,sbind]
       constructor
       . intro h;rw[decide_eq_true h];rfl
       . intro h;rw[decide_eq_false h];rfl
   . rw[if_neg hb,dP_f λh=>hb h.1]
def wholeR(t:Q2):Prop:=(1≤t.Dim∧t.Dim≤6)∧(0≤t.Par∧t.Par≤6)∧(t.Outs.length:Int)=t.Dim∧t.Code.length≤300
def tapeR(t:Q2):Prop:=wholeR t∧(∀(i:Nat) x,t.Code[i]?=some x->mayR t i x)∧∀ o∈t.Outs,0≤o∧o<(t.Code.length:Int)
theorem Qrb(t:Q2)(h:-9223372036854775808≤t.Dim∧t.Dim≤9223372036854775807):Qd1 t=some (dP (wholeR t)):=by
 unfold Qd1 wholeR
 simp only[jn_eq,Qdr,sbind,bifd]
 have hw:(0≤wrap64 (t.Dim - 1)∧wrap64 (t.Dim - 1)<6)↔(0≤t.Dim - 1∧t.Dim - 1<6):=by unfold wrap64;omega
 by_cases g1:0≤t.Dim - 1∧t.Dim - 1<6
 . rw[if_pos (hw.2 g1)]
   by_cases g2:0≤t.Par∧t.Par<7
   . rw[if_pos g2]
     by_cases g3:(t.Outs.length:Int)=t.Dim
     . rw[if_pos g3];exact Y5 (by omega)
     . rw[if_neg g3,dP_f (by omega)]
   . rw[if_neg g2,dP_f (by omega)]
 . rw[if_neg (λh=>g1 (hw.1 h)),dP_f (by omega)]
theorem Qyi{R:Type}{f:Nat->Q7->Unit->Option (Lp Unit R)}{K:Unit->Option R}{xs:List Q7}(P:Nat->Q7->Prop)(r:Nat->R)
 (hb:∀ i x,xs[i]?=some x->(P i x->f i x ()=some (.go ()))∧(¬ P i x->f i x ()=some (.out (r i)))) :
 ((∀(i:Nat) x,xs[i]?=some x->P i x)∧(rangeL f xs 0 ()).bind (lpK K)=K ())∨(¬(∀(i:Nat) x,xs[i]?=some x->P i x)∧∃ j,(rangeL f xs 0 ()).bind (lpK K)=some (r j)):=by
 have key:∀(xs:List Q7) (k:Nat),(∀ i x,xs[i]?=some x->(P (k+i) x->f (k+i) x ()=some (.go ()))∧(¬ P (k+i) x->f (k+i) x ()=some (.out (r (k+i))))) →
  ((∀(i:Nat) x,xs[i]?=some x->P (k+i) x)∧(rangeL f xs k ()).bind (lpK K)=K ())∨(¬(∀(i:Nat) x,xs[i]?=some x->P (k+i) x)∧∃ j,(rangeL f xs k ()).bind (lpK K)=some (r j)):=by
  intro xs
  induction xs with
  | nil=>intro k _;exact .inl ⟨λi x h=>by simp at h,rfl⟩
  | cons x xs ih=>
    intro k hb
    have h0:=hb 0 x rfl
    simp only[Nat.add_zero] at h0
    by_cases hp:P k x
    . have:=ih (k+1) (λi y hy=>by have:=hb (i+1) y (by simpa using hy);rw[show k+(i+1)=k+1+i by omega] at this;exact this)
      simp only[rangeL,h0.1 hp,sbind]
      rcases this with ⟨h3,h4⟩ | ⟨h3,h4⟩
      . refine .inl ⟨λi y hy=>?_,h4⟩
        cases i with
        | zero=>simp at hy;subst hy;exact hp
        | succ i=>rw[show k+(i+1)=k+1+i by omega];exact h3 i y (by simpa using hy)
      . refine .inr ⟨λh=>h3 λi y hy=>?_,h4⟩
        have:=h (i+1) y (by simpa using hy)
        rwa [show k+(i+1)=k+1+i by omega] at this
    . refine .inr ⟨λh=>hp (h 0 x rfl),k,?_⟩
      simp only[rangeL,h0.2 hp,sbind];rfl
 have:=key xs 0 (λi x hx=>by rw[Nat.zero_add];exact hb i x hx)
 simp only[Nat.zero_add] at this
 exact this
theorem Qkm{n:Nat}{t:Q2}(hn:big≤n)(ht:TW t)(hd:-9223372036854775808≤t.Dim∧t.Dim≤9223372036854775807):Yr n t=some (dP (tapeR t)):=by
 unfold Yr Qf4
 rw[Qrb t hd,sbind,bifnP]
 by_cases hw:wholeR t
 . rw[if_pos hw]
   have key:=Qyi (K:=λ(_:Unit)=>(rangeL (λ(_:Nat) (x26:Int) (_:Unit)=>
    (Xd x26 (t.Code.length:Int)).bind λr28=>
    bif !r28 then (
     some (Lp.out ((t.Code.length:Int))))
    else (
     some (Lp.go ()))) t.Outs 0 ()).bind (lpK λ(_:Unit)=>
   some (-1:Int))) (f:=λ(i11:Nat) (_:Q7) (_:Unit)=>
    (Qej n t (i11:Int)).bind λr14=>
    bif !r14 then (
     some (Lp.out ((i11:Int))))
    else (
     some (Lp.go ()))) (xs:=t.Code) (λi x=>mayR t i x) (λi=>(i:Int)) (λi x hx=>by
    rw[Qug hn (ht x (Q6 hx)) hx,sbind]
    constructor
    . intro h;rw[dP_t h];rfl
    . intro h;rw[dP_f h];rfl)
   rcases key with ⟨k1,k2⟩ | ⟨k1,j,k2⟩
   . rw[k2,Wp (λ_ (o:Int)=>0≤o∧o<(t.Code.length:Int)) (r:=(t.Code.length:Int))]
     . rw[Z6]
       by_cases ho:∀ o∈t.Outs,0≤o∧o<(t.Code.length:Int)
       . rw[if_pos ho,sbind];exact Y5 ⟨λ_=>⟨hw,k1,ho⟩,λ_=>rfl⟩
       . rw[if_neg ho,sbind];exact Y5 ⟨λh=>by omega,λh=>absurd h.2.2 ho⟩
     . intro i o _
       simp only[Qdr,sbind]
       constructor
       . intro h;rw[decide_eq_true h];rfl
       . intro h;rw[decide_eq_false h];rfl
   . rw[k2,sbind];exact Y5 ⟨λh=>by omega,λh=>absurd h.2.1 k1⟩
 . rw[if_neg hw,sbind];exact Y5 ⟨λh=>by omega,λh=>absurd h.1 hw⟩
theorem Wa(f:Qc):Qx f f=true:=by simp[Qx]
theorem Xv{k a b c:Int}(h:k≠0):Qx ⟨k,a,b,c⟩ ⟨0,0,0,0⟩=false:=by
 unfold Qx
 rw[show(k == 0)=false by simpa using h];rfl
def noteG(g:Qp)(q:Rat):Qp:=⟨⟨wrap64 (g.Count.Seen+1),max g.Count.Peak (qz q:Int)⟩,g.limit⟩
theorem Qtn{n:Nat}{g:Qp}{q:Rat}(hn:big≤n)(hq:qw q<1099511627776):Wg n g (toF q)=some (decide ((qz q:Int)≤g.limit),noteG g q):=by
 unfold Wg Zz
 rw[Qkh hn hq,sbind,sbind];rfl
def fitQ(lim:Int):List Rat->Nat->Option Nat
 | [],_=>none
 | q::l,i=>if (qz q:Int)≤lim then fitQ lim l (i+1) else some i
theorem Q02{n:Nat}{g:Qp}{l:List Rat}(hn:big≤n)(hl:QR 1099511627775 l):
 ∃ g',g'.limit=g.limit∧Yt n g (toR l)=some (match fitQ g.limit l 0 with | none=>((l.length:Int),true,g') | some i=>((i:Int),false,g')):=by
 unfold Yt
 have key:∀(l:List Rat) (i:Nat) (g:Qp) (K:Qp->Option (Int×Bool×Qp)),QR 1099511627775 l->∃ g',g'.limit=g.limit ∧
  (rangeL (λ(i15:Nat) (x16:Qa) (s14:Qp)=>
   (Wg n s14 x16).bind λr18=>
   bif !r18.1 then (some (Lp.out (((i15:Int),false,r18.2)))) else (some (Lp.go r18.2))) (toR l) i g).bind (lpK K)=match fitQ g.limit l i with | none=>K g' | some i=>some ((i:Int),false,g'):=by
  intro l
  induction l with
  | nil=>intro i g K _;exact⟨g,rfl,rfl⟩
  | cons q l ih=>
    intro i g K hl
    simp only[toR,List.map_cons,rangeL,fitQ]
    rw[Qtn hn (by have:=hl q (.head _);omega),sbind]
    simp only[]
    by_cases h:(qz q:Int)≤g.limit
    . rw[decide_eq_true h,if_pos h,Bool.not_true,bifF,sbind]
      obtain⟨g',h1,h2⟩:=ih (i+1) (noteG g q) K λx hx=>hl x (.tail _ hx)
      exact⟨g',h1,h2⟩
    . rw[decide_eq_false h,if_neg h,Bool.not_false,bifT,sbind]
      exact⟨noteG g q,rfl,rfl⟩
 obtain⟨g',h1,h2⟩:=key l 0 g (λs20=>some (((toR l).length:Int),true,s20)) hl
 refine⟨g',h1,?_⟩
 rw[h2,Kc]
 cases fitQ g.limit l 0<;>rfl
def opQ(x:Q7)(T:Rat)(Y P done:List Rat):Option Rat:=
 if x.Op=6 then some (-done.getD x.A.toNat 0) else
 if x.Op=11 then (if x.B < -8∨8<x.B∨(x.B<0∧done.getD x.A.toNat 0=0) then none else some (done.getD x.A.toNat 0 ^ x.B)) else
 if x.Op=7 then some (done.getD x.A.toNat 0+done.getD x.B.toNat 0) else
 if x.Op=8 then some (done.getD x.A.toNat 0 - done.getD x.B.toNat 0) else
 if x.Op=9 then some (done.getD x.A.toNat 0*done.getD x.B.toNat 0) else
 if x.Op=10 then (if done.getD x.B.toNat 0=0 then none else some (done.getD x.A.toNat 0 / done.getD x.B.toNat 0)) else
 if x.Op=1 then some (fv x.N) else
 if x.Op=3 then some (Y.getD x.A.toNat 0) else
 if x.Op=4 then some (P.getD x.A.toNat 0) else some T
def runQ(lim:Int)(T:Rat)(Y P:List Rat):List Q7->Nat->List Rat->(Int×Nat) ⊕ List Rat
 | [],_,done=>.inr done
 | x::c,i,done=>match opQ x T Y P done with
   | none=>.inl (3,i)
   | some q=>if (qz q:Int)≤lim then runQ lim T Y P c (i+1) (done++[q]) else .inl (6,i)
theorem Qjs{l:List Rat}{r:Int}(h1:0≤r)(h2:r<(l.length:Int)):getI (toR l) r=some (toF (l.getD r.toNat 0)):=by
 obtain⟨k,rfl⟩:∃ k:Nat,r=(k:Int):=⟨r.toNat,by omega⟩
 have hk:k<l.length:=by omega
 rw[Qke,Int.toNat_natCast]
 unfold toR
 rw[List.getElem?_map,List.getElem?_eq_getElem hk,List.getD_eq_getElem?_getD,List.getElem?_eq_getElem hk];rfl
theorem Qi0{k:Nat}{l:List Rat}{i:Nat}(h:QR k l)(h1:1≤k):qw (l.getD i 0)≤k:=by
 rw[List.getD_eq_getElem?_getD]
 rcases Nat.lt_or_ge i l.length with hi | hi
 . rw[List.getElem?_eq_getElem hi];exact h _ (List.getElem_mem hi)
 . rw[List.getElem?_eq_none hi];show qw 0≤k;rw[Qdl];exact h1
theorem rdT_A{x:Q7}(h:x.Op=6∨x.Op=11∨x.Op=7∨x.Op=8∨x.Op=9∨x.Op=10):x.A∈rdT x:=by
 unfold rdT
 by_cases a:x.Op=6∨x.Op=11
 . rw[if_pos a];simp
 . rw[if_neg a,if_pos (by omega)];simp
theorem rdT_B{x:Q7}(h:x.Op=7∨x.Op=8∨x.Op=9∨x.Op=10):x.B∈rdT x:=by
 unfold rdT
 rw[if_neg (by omega),if_pos (by omega)];simp
theorem Q2c{t:Q2}{i:Nat}{x:Q7}(h:mayR t i x):∀ r∈rdT x,0≤r∧r<(i:Int):=by
 unfold mayR at h
 by_cases h1:x.Op=1
 . intro r hr
   unfold rdT at hr
   rw[if_neg (by omega),if_neg (by omega)] at hr;cases hr
 . rw[if_neg h1] at h;exact h.2.1
theorem Q3s{t:Q2}{i:Nat}{x:Q7}(h:mayR t i x)(h3:x.Op=3):0≤x.A∧x.A<t.Dim:=by
 unfold mayR at h
 rw[if_neg (by omega),if_neg (by omega),if_pos h3] at h;exact h.2.2.1
theorem Q3t{t:Q2}{i:Nat}{x:Q7}(h:mayR t i x)(h3:x.Op=4):0≤x.A∧x.A<t.Par:=by
 unfold mayR at h
 rw[if_neg (by omega),if_neg (by omega),if_neg (by omega),if_pos h3] at h;exact h.2.2.1
theorem Qyj{n k:Nat}{g:Qp}{t:Q2}{x:Q7}{T:Rat}{Y P done:List Rat}(hn:big≤n)(h1:1≤k)(hk:k<1048576)(hx:mayR t done.length x)(hN:Fk k x.N)
 (hT:qw T≤k) (hY:QR k Y) (hP:QR k P) (hD:QR k done) (hy:(Y.length:Int)=t.Dim) (hp:(P.length:Int)=t.Par) :
 ∃ v,J3 n g x ⟨toF T,toR Y,toR P⟩ (toR done)=some (match opQ x T Y P done with | none=>(v,false) | some q=>(toF q,true))∧∀ q,opQ x T Y P done=some q->qw q≤8*k+1:=by
 unfold J3 opQ
 have rd:=Q2c hx
 have dA:x.Op=6∨x.Op=11∨x.Op=7∨x.Op=8∨x.Op=9∨x.Op=10->getI (toR done) x.A=some (toF (done.getD x.A.toNat 0)):=λh=>Qjs (rd _ (rdT_A h)).1 (rd _ (rdT_A h)).2
 have dB:x.Op=7∨x.Op=8∨x.Op=9∨x.Op=10->getI (toR done) x.B=some (toF (done.getD x.B.toNat 0)):=λh=>Qjs (rd _ (rdT_B h)).1 (rd _ (rdT_B h)).2
 have qA:qw (done.getD x.A.toNat 0)≤k:=Qi0 hD h1
 have qB:qw (done.getD x.B.toNat 0)≤k:=Qi0 hD h1
 generalize done.getD x.A.toNat 0=a at dA qA ⊢
 generalize done.getD x.B.toNat 0=b at dB qB ⊢
 have fA:Fk k (toF a):=Qz qA
 have fB:Fk k (toF b):=Qz qB
 simp only[bifd]
 by_cases o6:x.Op=6
 . simp only[if_pos o6]
   unfold Qby
   rw[dA (by omega),sbind,Qt9 hn (Fk_Fw fA (by omega)),sbind,sbind,Qt]
   exact⟨toF 0,rfl,λq hq=>by cases hq;rw[Qv4];omega⟩
 simp only[if_neg o6]
 by_cases o11:x.Op=11
 . simp only[if_pos o11]
   unfold Qbz
   rw[dA (by omega),sbind,Qub hn h1 (by omega) fA,sbind,Qt]
   refine⟨toF 0,?_,λq hq=>?_⟩
   . split<;>rfl
   . split at hq
     . cases hq
     . rename_i hc
       cases hq
       exact Q2a qA (by omega)
 simp only[if_neg o11]
 by_cases o7:x.Op=7
 . simp only[if_pos o7]
   unfold Qb0
   rw[dA (by omega),sbind,dB (by omega),sbind,Wy hn h1 (by omega) fA fB,sbind,sbind,Qt,Qt]
   exact⟨toF 0,rfl,λq hq=>by cases hq;have:=Qgp qA qB;omega⟩
 simp only[if_neg o7]
 by_cases o8:x.Op=8
 . simp only[if_pos o8]
   unfold Qb1
   rw[dA (by omega),sbind,dB (by omega),sbind,Qie hn h1 (by omega) fA fB,sbind,sbind,Qt,Qt]
   exact⟨toF 0,rfl,λq hq=>by cases hq;have:=Qq4 qA qB;omega⟩
 simp only[if_neg o8]
 by_cases o9:x.Op=9
 . simp only[if_pos o9]
   unfold Qb2
   rw[dA (by omega),sbind,dB (by omega),sbind,Y9 hn h1 (by omega) fA fB,sbind,sbind,Qt,Qt]
   exact⟨toF 0,rfl,λq hq=>by cases hq;have:=Qaz qA qB;omega⟩
 simp only[if_neg o9]
 by_cases o10:x.Op=10
 . simp only[if_pos o10]
   unfold Qb3
   rw[dA (by omega),sbind,dB (by omega),sbind,Qm6 hn h1 (by omega) fA fB,sbind,Qt,Qt]
   refine⟨toF 0,?_,λq hq=>?_⟩
   . split<;>rfl
   . split at hq
     . cases hq
     . cases hq
       have:=Qzy qA qB;omega
 simp only[if_neg o10]
 unfold K6
 simp only[bifd]
 by_cases o1:x.Op=1
 . simp only[if_pos o1]
   unfold Qcu
   rw[Jj hn (Fk_Fw hN (by omega)),sbind,sbind,sbind]
   exact⟨toF 0,rfl,λq hq=>by cases hq;have:=qw_fv hN h1;omega⟩
 simp only[if_neg o1]
 by_cases o3:x.Op=3
 . simp only[if_pos o3]
   obtain⟨a1,a2⟩:=Q3s hx o3
   rw[Qjs a1 (by omega),sbind,sbind]
   exact⟨toF 0,rfl,λq hq=>by cases hq;have:=Qi0 (i:=x.A.toNat) hY h1;omega⟩
 simp only[if_neg o3]
 by_cases o4:x.Op=4
 . simp only[if_pos o4]
   obtain⟨a1,a2⟩:=Q3t hx o4
   rw[Qjs a1 (by omega),sbind,sbind]
   exact⟨toF 0,rfl,λq hq=>by cases hq;have:=Qi0 (i:=x.A.toNat) hP h1;omega⟩
 simp only[if_neg o4]
 exact⟨toF 0,rfl,λq hq=>by cases hq;omega⟩
theorem Q03(l:List Rat)(q:Rat):toR l++[toF q]=toR (l++[q]):=by unfold toR;simp
theorem Q04{n k:Nat}{g:Qp}{t:Q2}{T:Rat}{Y P:List Rat}(hn:big≤n)(h1:129≤k)(hk:k<1048576)(ht:tapeR t)(hR:Yr n t=some true)(hN:∀ c∈t.Code,Fk k c.N)
 (hT:qw T≤k) (hY:QR k Y) (hP:QR k P) (hy:(Y.length:Int)=t.Dim) (hp:(P.length:Int)=t.Par) (hg:g.limit≤4096) :
 ∃ g',Kn n g t ⟨toF T,toR Y,toR P⟩=some (match runQ g.limit T Y P t.Code 0 [] with | .inl e=>([],⟨e.1,0,0,(e.2:Int)⟩,g') | .inr l=>(toR l,⟨0,0,0,0⟩,g')):=by
 unfold Kn
 simp only[jn_eq,hR,sbind,Bool.not_true,bifF]
 rw[Kc,Kc,decide_eq_true hy,decide_eq_true hp,Bool.not_true,bifF,bifF]
 have key:∀(c:List Q7) (done:List Rat) (g:Qp) (K:Qp×List Qa->Option (List Qa×Qc×Qp)),(∀(j:Nat) x,c[j]?=some x->mayR t (done.length+j) x)->(∀ x∈c,Fk k x.N)->QR k done->g.limit≤4096->done.length+c.length≤300 →
  ∃ g',(rangeL (λ(i30:Nat) (x31:Q7) (s29:Qp×(List Qa))=>
    (J3 n s29.1 x31 ⟨toF T,toR Y,toR P⟩ s29.2).bind λr33=>
    bif !r33.2 then (
     some (Lp.out ((([]:List Qa),(⟨(3:Int),0,0,(i30:Int)⟩:Qc),s29.1))))
    else (
     (Zu n s29.1 r33.1).bind λr35=>
     bif !r35.1 then (
      some (Lp.out ((([]:List Qa),(⟨(6:Int),0,0,(i30:Int)⟩:Qc),r35.2))))
     else (
      (appM 56 s29.2 ([r33.1]:List Qa)).bind λy37=>
      some (Lp.go (r35.2,y37))))) c done.length (g,toR done)).bind (lpK K)=match runQ g.limit T Y P c done.length done with | .inl e=>some ([],⟨e.1,0,0,(e.2:Int)⟩,g') | .inr l=>K (g',toR l):=by
  intro c
  induction c with
  | nil=>intro done g K _ _ _ _ _;exact⟨g,rfl⟩
  | cons x c ih=>
    intro done g K hm hN hD hg hl
    simp only[rangeL,runQ]
    obtain⟨v,e1,e2⟩:=Qyj (g:=g) hn (by omega) hk (by have:=hm 0 x rfl;rwa [Nat.add_zero] at this) (hN x (.head _)) hT hY hP hD hy hp
    rw[e1,sbind]
    cases hq:opQ x T Y P done with
    | none=>exact⟨g,rfl⟩
    | some q=>
      have hqk:=e2 q hq
      simp only[Bool.not_true,bifF]
      unfold Zu
      rw[Qtn hn (by omega),sbind,sbind]
      simp only[]
      by_cases hf:(qz q:Int)≤g.limit
      . rw[decide_eq_true hf,if_pos hf,Bool.not_true,bifF,V7 (by rw[Kc];simp at hl ⊢;omega) (by rw[Kc];simp at hl ⊢;omega),sbind,sbind]
        simp only[]
        have hq2:qw q≤k:=by
         have:=qw_qz (q:=q) (b:=4096) (by omega);omega
        have hlen:(done++[q]).length=done.length+1:=by simp
        obtain⟨g',h⟩:=ih (done++[q]) (noteG g q) K (λj y hy=>by
         rw[hlen,show done.length+1+j=done.length+(j+1) by omega];exact hm (j+1) y (by simpa using hy)) (λy hy=>hN y (.tail _ hy)) (λz hz=>by
         rcases List.mem_append.1 hz with hz | hz
         . exact hD z hz
         . rw[List.mem_singleton.1 hz];exact hq2) hg (by rw[hlen];simp at hl;omega)
        refine⟨g',?_⟩
        rw[hlen] at h
        rw[Q03]
        exact h
      . rw[decide_eq_false hf,if_neg hf,Bool.not_false,bifT,sbind]
        exact⟨noteG g q,rfl⟩
 obtain⟨⟨d1,d2,d3,d4⟩,m1,m2⟩:=ht
 obtain⟨g',h⟩:=key t.Code [] g (λs39=>some (s39.2,(⟨0,0,0,0⟩:Qc),s39.1)) (λj x hx=>by rw[show([]:List Rat).length+j=j by simp];exact m1 j x hx) hN (λ_ h=>by cases h) hg (by simpa using d4)
 refine⟨g',?_⟩
 rw[show(([]:List Rat).length)=0 from rfl,show toR []=[] from rfl] at h
 rw[h]
 cases runQ g.limit T Y P t.Code 0 []<;>rfl
def tp(k:Nat):Nat:=10 ^ k
def cN(x:Qbp):Qkt:=⟨x.Op,x.I,x.N⟩
def cL(x:Qfl):Qqk:=⟨x.Name,x.Code.map cN⟩
def cF(x:Qjy):Qu4:=⟨x.Lets.map cL,x.Outs.map (·.map cN)⟩
def digB(c:Nat):Bool:=decide (48≤c∧c≤57)
def letB(c:Nat):Bool:=decide (97≤c∧c≤122∨65≤c∧c≤90∨c=95)
def sgnL:List UInt8:=[43,45,42,47,94,40,41,91,93,44,59,61]
def sgnB(c:Nat):Bool:=sgnL.any (λx=>x.toNat=c)
def kindC(c:Nat):Int:=if digB c then 1 else if letB c then 2 else if sgnB c then 3 else 0
def goC(k:Int)(c:Nat):Bool:=(decide (k=1) && digB c) || (decide (k=2) && (letB c || digB c))
def mostC(k:Int):Nat:=if k=1 then 60 else if k=2 then 12 else 1
def wdB(k:Int):List UInt8->Bool
 | []=>false
 | c::r=>decide (k≠0) && (decide (kindC c.toNat=k) && (r.all (λb=>goC k b.toNat) && decide (r.length+1≤mostC k)))
theorem Qlt(c:Nat):Qai c=some (digB c):=by
 unfold Qai digB;simp only[jn_eq,bifd];grind
theorem Qkn(c:Nat):Qar c=some (letB c):=by
 unfold Qar letB;simp only[jn_eq,bifd];grind
theorem Qyk{s:List UInt8}{p:Nat}{c:UInt8}(h:s[p]?=some c)(hc:c.toNat<128):decR s p=c.toNat∧decW s p=1:=by
 have h1:((⟨s.toArray⟩:ByteArray).get! (p+0)).toNat=c.toNat:=by
  have hp:=J7 h
  have:((⟨s.toArray⟩:ByteArray).get! (p+0))=c:=by
   show s.toArray[p+0]! = c
   simp[h]
  rw[this]
 unfold decR decW Utf8.decode
 simp only[h1]
 rw[if_pos hc];exact⟨rfl,rfl⟩
theorem Quh{n c:Nat}(hn:big≤n):Qf5 n c=some (sgnB c):=by
 unfold Qf5
 unfold big at hn
 have e:sgnB c=runG (τ:=Bool) (λ_ (x:UInt8) (_:Unit)=>if x.toNat=c then .inr true else .inl ()) (λ_=>false) sgnL 0 ():=by
  unfold sgnB
  have:∀(l:List UInt8) (i:Nat),l.any (λx=>decide (x.toNat=c))=runG (τ:=Bool) (λ_ (x:UInt8) (_:Unit)=>if x.toNat=c then .inr true else .inl ()) (λ_=>false) l i ():=by
   intro l
   induction l with
   | nil=>intro i;rfl
   | cons x l ih=>
     intro i
     simp only[List.any_cons,runG]
     by_cases h:x.toNat=c
     . simp[h]
     . simp only[decide_eq_false h,if_neg h,Bool.false_or];exact ih (i+1)
  exact this _ 0
 rw[e]
 refine Q01 (λ_ i=>i) (λ_ (x:UInt8) (_:Unit)=>if x.toNat=c then .inr true else .inl ()) (λ_=>()) _ (λ_ _=>True) sgnL () (λi x b hx _=>⟨?_,λ_ _=>trivial⟩) (λb _=>by simp[bifd,sgnL]) (λb _=>rfl) trivial (by simp[sgnL];omega)
 have hi:=J7 hx
 have hlt:x.toNat<128:=by
  have:∀ y∈sgnL,y.toNat<128:=by decide
  exact this x (Q6 hx)
 obtain⟨e1,e2⟩:=Qyk hx hlt
 have e1':decR [43,45,42,47,94,40,41,91,93,44,59,61] i=x.toNat:=e1
 have e2':decW [43,45,42,47,94,40,41,91,93,44,59,61] i=1:=e2
 have hi':i<([43,45,42,47,94,40,41,91,93,44,59,61]:List UInt8).length:=hi
 simp only[bifd,if_pos hi',sbind,e1',e2']
 rw[show Int.toNat ((x.toNat:Int)%256)=x.toNat by omega]
 by_cases h:x.toNat=c
 . rw[if_pos h,if_pos h];rfl
 . rw[if_neg h,if_neg h];rfl
theorem Qui{n c:Nat}(hn:big≤n):Qf6 n c=some (kindC c):=by
 unfold Qf6 kindC
 rw[Qlt,sbind]
 cases digB c with
 | true=>rfl
 | false=>
   rw[bifF,Qkn,sbind]
   cases letB c with
   | true=>rfl
   | false=>rw[bifF,Quh hn,sbind];cases sgnB c<;>rfl
theorem Quj(k:Int)(c:Nat):Qf7 k c=some (goC k c):=by
 unfold Qf7 goC
 simp only[jn_eq,Qlt,Qkn,sbind,bifd]
 by_cases h1:k=1
 . subst h1;cases digB c<;>simp
 . by_cases h2:k=2
   . subst h2;cases letB c<;>cases digB c<;>simp
   . simp[h1,h2]
theorem Quk(k:Int):Qf8 k=some (mostC k:Int):=by
 unfold Qf8 mostC;simp only[bifd];grind
def firstL(k:Int)(s:List UInt8):Nat:=1+((s.drop 1).takeWhile (λc=>goC k c.toNat)).length
theorem Qm8{α:Type}{p:α->Bool}:∀ {l:List α}{i:Nat},i<(l.takeWhile p).length->∃ x,l[i]?=some x∧p x=true
 | [],i,h=>by simp at h
 | y::l,0,h=>by
   cases hy:p y with
   | true=>exact⟨y,rfl,hy⟩
   | false=>rw[List.takeWhile_cons,hy] at h;simp at h
 | y::l,i+1,h=>by
   rw[List.takeWhile_cons] at h
   cases hy:p y with
   | true=>rw[hy] at h;simp only[if_true,List.length_cons] at h;exact Qm8 (l:=l) (i:=i) (by omega)
   | false=>rw[hy] at h;simp at h
theorem Qm9{α:Type}{p:α->Bool}:∀ {l:List α}{x:α},l[(l.takeWhile p).length]?=some x->p x=false
 | [],x,h=>by simp at h
 | y::l,x,h=>by
   rw[List.takeWhile_cons] at h
   cases hy:p y with
   | true=>rw[hy] at h;simp only[if_true,List.length_cons,List.getElem?_cons_succ] at h;exact Qm9 h
   | false=>rw[hy] at h;simp at h;rw[←h];exact hy
theorem Qn2{α:Type}(p:α->Bool)(l:List α):(l.takeWhile p).length≤l.length:=(List.takeWhile_sublist p).length_le
theorem Qsr{n:Nat}{s:List UInt8}{k:Int}(hn:big≤n)(hs:s.length≤4611686018427387904):Qe0 n s k=some (firstL k s:Int):=by
 unfold Qe0
 unfold big at hn
 generalize hp:(λc:UInt8=>goC k c.toNat)=p
 have hp':∀ c:UInt8,goC k c.toNat=p c:=λc=>by rw[←hp]
 have hlen:((s.drop 1).takeWhile p).length≤s.length:=Nat.le_trans (Qn2 _ _) (by simp)
 have hF:firstL k s=1+((s.drop 1).takeWhile p).length:=by unfold firstL;rw[hp]
 rw[hF]
 refine Qd9 (λs':Int=>s.length+2 - s'.toNat) (λs'=>∃ j:Nat,s'=((1+j:Nat):Int)∧j≤((s.drop 1).takeWhile p).length) (λt=>t=((1+((s.drop 1).takeWhile p).length:Nat):Int)) ⟨0,rfl,Nat.zero_le _⟩ (by simp;omega) (λs' hI=>?_) (λt ht=>by rw[ht])
 obtain⟨j,rfl,hj⟩:=hI
 simp only[jn_eq,bifd]
 by_cases hl:1+j<s.length
 . rw[if_pos (by omega),Q0p hl,sbind,Quj,sbind]
   have hg:(s.drop 1)[j]?=some s[1+j]:=by rw[List.getElem?_drop,List.getElem?_eq_getElem hl]
   by_cases hj2:j<((s.drop 1).takeWhile p).length
   . obtain⟨x,h1,h2⟩:=Qm8 hj2
     rw[hg] at h1;cases h1
     left
     refine⟨((1+(j+1):Nat):Int),?_,⟨j+1,rfl,by omega⟩,by omega⟩
     have:goC k (s[1+j]).toNat=true:=by rw[hp'];exact h2
     rw[this,bifT,w1 (by omega)];rfl
   . right
     obtain rfl:j=((s.drop 1).takeWhile p).length:=by omega
     have h2:=Qm9 hg
     refine⟨_,?_,rfl⟩
     have:goC k (s[1+((s.drop 1).takeWhile p).length]).toNat=false:=by rw[hp'];exact h2
     rw[this,bifF]
 . right
   rw[if_neg (by omega)]
   refine⟨_,rfl,?_⟩
   have:((s.drop 1).takeWhile p).length≤(s.drop 1).length:=Qn2 _ _
   rw[List.length_drop] at this
   have:j=((s.drop 1).takeWhile p).length:=by omega
   rw[this]
theorem Qna{α:Type}{p:α->Bool}:∀ {l:List α},(l.takeWhile p).length=l.length↔l.all p=true
 | []=>by simp
 | x::l=>by
   rw[List.takeWhile_cons]
   cases hx:p x with
   | true=>simp[hx,Qna]
   | false=>simp[hx]
theorem Qss{n:Nat}{w:Qeg}(hn:big≤n)(hs:w.Text.length≤4611686018427387904):Qdg n w=some (wdB w.Kind w.Text):=by
 unfold Qdg
 simp only[jn_eq,Qsr hn hs,sbind,Quk,bifd]
 cases hw:w.Text with
 | nil=>rfl
 | cons c r=>
   rw[if_neg (by simp)]
   by_cases h0:w.Kind=0
   . rw[if_pos h0,bifT];simp[wdB,h0]
   . rw[if_neg h0,show getS (c::r) (0:Int)=some c.toNat by rfl,sbind,Qui hn,sbind]
     by_cases hk:kindC c.toNat=w.Kind
     . simp only[decide_eq_true hk,Bool.not_true,bifF]
       have hl:(firstL w.Kind (c::r):Int)=((c::r).length:Int)↔r.all (λb=>goC w.Kind b.toNat)=true:=by
        rw[←Qna];unfold firstL;simp only[List.drop_succ_cons,List.drop_zero,List.length_cons];omega
       by_cases ha:r.all (λb=>goC w.Kind b.toNat)=true
       . rw[if_pos (hl.2 ha)];simp only[wdB,ha,hk];simp
         congr 1
         rw[Bool.eq_iff_iff];simp;omega
       . rw[if_neg (λh=>ha (hl.1 h))]
         have:r.all (λb=>goC w.Kind b.toNat)=false:=by simpa using ha
         simp only[wdB,this,Bool.false_and,Bool.and_false]
     . simp only[decide_eq_false hk,Bool.not_false,bifT]
       simp[wdB,hk]
theorem Qst{lim T Y P}(hlim:lim≤4096):∀ {c:List Q7}{i:Nat}{done l:List Rat},QR 129 done->runQ lim T Y P c i done=.inr l->l.length=done.length+c.length∧QR 129 l
 | [],i,done,l,hd,h=>by
   simp only[runQ] at h
   cases h
   exact⟨rfl,hd⟩
 | x::c,i,done,l,hd,h=>by
   simp only[runQ] at h
   cases hq:opQ x T Y P done with
   | none=>rw[hq] at h;cases h
   | some q=>
     rw[hq] at h
     simp only[] at h
     by_cases hf:(qz q:Int)≤lim
     . rw[if_pos hf] at h
       obtain⟨h1,h2⟩:=Qst hlim (λz hz=>by
        rcases List.mem_append.1 hz with hz | hz
        . exact hd z hz
        . rw[List.mem_singleton.1 hz]
          have:=qw_qz (q:=q) (b:=4096) (by omega);omega) h
       exact⟨by rw[h1];simp;omega,h2⟩
     . rw[if_neg hf] at h;cases h
theorem Qn3{lim T Y P}:∀ {c:List Q7}{i:Nat}{done:List Rat}{e},runQ lim T Y P c i done=.inl e->e.1=3∨e.1=6
 | [],i,done,e,h=>by simp only[runQ] at h;cases h
 | x::c,i,done,e,h=>by
   simp only[runQ] at h
   cases hq:opQ x T Y P done with
   | none=>rw[hq] at h;cases h;exact .inl rfl
   | some q=>
     rw[hq] at h
     simp only[] at h
     by_cases hf:(qz q:Int)≤lim
     . rw[if_pos hf] at h;exact Qn3 h
     . rw[if_neg hf] at h;cases h;exact .inr rfl
def fieldQ(t:Q2)(lim:Int)(T:Rat)(Y P:List Rat):(Int×Nat) ⊕ List Rat:=
 match runQ lim T Y P t.Code 0 [] with
 | .inl e=>.inl e
 | .inr l=>.inr (t.Outs.map λo=>l.getD o.toNat 0)
structure Qz4(n k:Nat)(t:Q2):Prop where
 r:tapeR t
 h:Yr n t=some true
 w:∀ c∈t.Code,Fk k c.N
theorem Qsu{n k:Nat}{t:Q2}{p:Xb}{bits:Int}(hn:big≤n)(h1:129≤k)(hk:k<1048576)(ht:Qz4 n k t)(hT:Fk k p.T)(hY:FR k p.Y)(hP:FR k p.P)(hy:(p.Y.length:Int)=t.Dim)(hp:(p.P.length:Int)=t.Par):
 Qe1 n t p bits=some (match fieldQ t (min (max bits 0) 4096) (fv p.T) (rv p.Y) (rv p.P) with | .inl e=>([],⟨e.1,0,0,(e.2:Int)⟩) | .inr l=>(toR l,⟨0,0,0,0⟩)):=by
 obtain⟨r,h,w⟩:=ht
 have hd:=r.1
 obtain⟨⟨d1,d2⟩,⟨d3,d4⟩,d5,d6⟩:=hd
 have eT:=qw_fv hT (by omega)
 have eY:=QR_rv hY (by omega)
 have eP:=QR_rv hP (by omega)
 unfold Qe1 Qil Qhf Qdh
 rw[Jj hn (Fk_Fw hT (by omega)),sbind,Qkj hn (by omega) hY (by omega),sbind,Qkj hn (by omega) hP (by omega),sbind,sbind,sbind]
 simp only[]
 obtain⟨g',e⟩:=Q04 (g:=⟨⟨0,0⟩,min (max bits 0) 4096⟩) hn h1 hk r h w eT eY eP (by rw[Vn];exact hy) (by rw[Vn];exact hp) (by simp only[];omega)
 rw[e,sbind]
 unfold fieldQ
 simp only[]
 cases hr:runQ (min (max bits 0) 4096) (fv p.T) (rv p.Y) (rv p.P) t.Code 0 [] with
 | inl q=>
   have hk:=Qn3 hr
   simp only[]
   rw[sbind]
   simp only[]
   rw[Xv (by omega),Bool.not_false,bifT]
 | inr l=>
   obtain⟨l1,l2⟩:=Qst (by omega) (λ_ h=>by cases h) hr
   have hl:l.length=t.Code.length:=by simpa using l1
   simp only[]
   rw[sbind]
   simp only[]
   rw[Wa,Bool.not_true,bifF]
   unfold Qim
   simp only[jn_eq,h,sbind,Bool.not_true,bifF]
   rw[Kc,decide_eq_true (show(l.length:Int)=(t.Code.length:Int) by omega),Bool.not_true,bifF,Qsn (g:=λo:Int=>l.getD o.toNat 0) hn (by omega) λi o s ho=>?_,sbind]
   have hb:=r.2.2 o (Q6 ho)
   rw[Qjs hb.1 (by omega),sbind,Jj hn (Fk_Fw (Qz (Qi0 l2 (by omega))) (by omega)),sbind,Qt]
theorem Qto{t:Q2}{lim T Y P l}(hlim:lim≤4096)(h:fieldQ t lim T Y P=.inr l):l.length=t.Outs.length∧QR 129 l:=by
 unfold fieldQ at h
 cases hr:runQ lim T Y P t.Code 0 [] with
 | inl q=>rw[hr] at h;cases h
 | inr l'=>
   rw[hr] at h;cases h
   obtain⟨l1,l2⟩:=Qst hlim (λ_ h=>by cases h) hr
   refine⟨by simp,λq hq=>?_⟩
   obtain⟨o,_,rfl⟩:=List.mem_map.1 hq
   exact Qi0 l2 (by omega)
theorem Qpf{t:Q2}{lim T Y P e}(h:fieldQ t lim T Y P=.inl e):e.1=3∨e.1=6:=by
 unfold fieldQ at h
 cases hr:runQ lim T Y P t.Code 0 [] with
 | inl q=>rw[hr] at h;cases h;exact Qn3 hr
 | inr l'=>rw[hr] at h;cases h
def sumQ(l:List Rat):Rat:=l.foldl (λo x=>o+x) 0
theorem Qlu{k:Nat}:∀ {l:List Rat}{b:Nat}{z:Rat},QR k l->qw z≤b->qw (l.foldl (λo x=>o+x) z)≤b+l.length*(k+1)
 | [],b,z,_,h=>by simpa using h
 | x::l,b,z,hl,h=>by
   rw[List.foldl_cons]
   have:=Qlu (l:=l) (λq hq=>hl q (.tail _ hq)) (Qgp h (hl x (.head _)))
   rw[List.length_cons,Nat.succ_mul];omega
theorem Qko{n k:Nat}{a:List Qa}(hn:big≤n)(h1:1≤k)(hk:k<1048576)(ha:FR k a)(hl:a.length≤1000):Zs n a=some (toF (sumQ (rv a))):=by
 unfold Zs
 rw[Xm hn,sbind,Za (λi=>toF ((rv (a.take i)).foldl (λo x=>o+x) 0)) a,Xq,List.take_length]
 . rfl
 . intro i x hx
   have hi:=J7 hx
   have e1:a.take (i+1)=a.take i++[x]:=by rw[List.take_add_one,hx];rfl
   have e3:rv (a.take (i+1))=rv (a.take i)++[fv x]:=by unfold rv;rw[e1,List.map_append];rfl
   have hb:=Qlu (l:=rv (a.take i)) (b:=1) (z:=0) (QR_rv (λy hy=>ha y (List.mem_of_mem_take hy)) h1) (by rw[Qdl];exact Nat.le_refl _)
   have hc:(rv (a.take i)).length*(k+1)≤1000*1048576:=Nat.mul_le_mul (by rw[Vn];simp;omega) (by omega)
   rw[Wy (k:=2000000000) hn (by omega) (by omega) (Qz (by omega)) (J9 (ha x (Q6 hx)) (by omega)),sbind,e3,List.foldl_append,Qt]
   rfl
 . rfl
def numR(x:Qa):Prop:=x=toF (fv x)∧qz (fv x)≤190
theorem Qxf{n k:Nat}{x:Qa}(hn:big≤n)(hk:k<1048576)(hx:Fk k x):
 ((K1 n x).bind λr69=>bif !r69 then some true else (Vf n x).bind λr71=>some (decide ((190:Int)<r71)))=some (!dP (numR x)):=by
 rw[Qdq hn (Fk_Fw hx (by omega)),sbind,@decP _ (Classical.propDecidable _),bifnP]
 unfold numR
 by_cases h:x=toF (fv x)
 . have h1:qw (fv x)<1099511627776:=by
    rcases Nat.eq_zero_or_pos k with h0 | h0
    . subst h0
      have:=qw_fv (J9 hx (show 0≤1 by omega)) (Nat.le_refl 1);omega
    . have:=qw_fv hx h0;omega
   have e:Vf n x=some (qz (fv x):Int):=by
    conv=>lhs;rw[h]
    exact Qkh hn h1
   rw[if_pos h,e,sbind]
   by_cases h2:qz (fv x)≤190
   . rw[dP_t ⟨h,h2⟩,decide_eq_false (by omega)];rfl
   . rw[dP_f λg=>h2 g.2,decide_eq_true (by omega)];rfl
 . rw[if_neg h,dP_f λg=>h g.1];rfl
theorem Qgx{n k:Nat}{l:List (List Qa)}(hn:big≤n)(hk:k<1048576)(hl:∀ r∈l,FR k r):Zi n l=some (dP (∀ r∈l,∀ x∈r,numR x)):=by
 unfold Zi
 rw[Wp (λ_ (r:List Qa)=>∀ x∈r,numR x) (r:=false)]
 . rw[Z6]
   by_cases h:∀ r∈l,∀ x∈r,numR x
   . rw[if_pos h,dP_t h]
   . rw[if_neg h,dP_f h]
 . intro i r hr
   have key:(rangeL (λ(_:Nat) (x60:Qa) (_:Unit)=>
    jn (λ(j66:(Bool)->Option _)=>
     (K1 n x60).bind λr69=>
     bif !r69 then (
      j66 true)
     else (
      (Vf n x60).bind λr71=>
      j66 (decide ((190:Int)<r71)))) (λ(s68:Bool)=>
     bif s68 then (
      some (Lp.out (Lp.out (false))))
     else (
      some (Lp.go ())))) r 0 ()).bind (lpK λ(_:Unit)=>some (Lp.go ()))=@ite _ (∀ x∈r,numR x) (Classical.propDecidable _) (some (Lp.go ())) (some (Lp.out (σ:=Unit) (τ:=Bool) false)):=by
    rw[Wp (λ_ (x:Qa)=>numR x) (r:=Lp.out false),Z6]
    intro j x hx
    have e:=Qxf hn hk (hl r (Q6 hr) x (Q6 hx))
    have e2:(jn (λ(j66:(Bool)->Option (Lp Unit (Lp Unit Bool)))=>
     (K1 n x).bind λr69=>
     bif !r69 then (
      j66 true)
     else (
      (Vf n x).bind λr71=>
      j66 (decide ((190:Int)<r71)))) (λ(s68:Bool)=>
     bif s68 then (
      some (Lp.out (Lp.out (false))))
     else (
      some (Lp.go ()))))=((K1 n x).bind λr69=>bif !r69 then some true else (Vf n x).bind λr71=>some (decide ((190:Int)<r71))).bind λs68=>bif s68 then (
      some (Lp.out (Lp.out (false))))
     else (
      some (Lp.go ())):=by
     rw[jn_eq]
     cases K1 n x with
     | none=>rfl
     | some b=>
       rw[sbind,sbind]
       cases b
       . rfl
       . rw[Bool.not_true,bifF,bifF]
         cases Vf n x with
         | none=>rfl
         | some z=>rfl
    rw[e2,e,sbind]
    constructor
    . intro h;rw[dP_t h];rfl
    . intro h;rw[dP_f h];rfl
   rw[key]
   constructor
   . intro h;rw[if_pos h]
   . intro h;rw[if_neg h]
def shapeR(s:Qr):Prop:=(1≤s.B.length∧s.B.length≤8)∧s.C.length=s.B.length∧s.A.length=s.B.length∧(s.E.length=s.B.length∨s.E.length=0)∧∀(i:Nat) r,s.A[i]?=some r->r.length=i
theorem Qo1(s:Qr):Qb9 s=some (dP (shapeR s)):=by
 unfold Qb9 shapeR
 simp only[jn_eq,bifd,bifnd]
 by_cases c1:(s.B.length:Int)<1
 . rw[if_pos c1,bifT,dP_f (by omega)]
 rw[if_neg c1]
 by_cases c2:(8:Int)<(s.B.length:Int)
 . rw[if_pos c2,bifT,dP_f (by omega)]
 rw[if_neg c2]
 by_cases c3:(s.C.length:Int)=(s.B.length:Int)
 case neg=>rw[if_neg c3,bifT,dP_f (by omega)]
 rw[if_pos c3]
 by_cases c4:(s.A.length:Int)=(s.B.length:Int)
 case neg=>rw[if_neg c4,bifT,dP_f (by omega)]
 rw[if_pos c4]
 have hr:=Wp (f:=λ(i10:Nat) (x11:List Qa) (_:Unit)=>bif !decide ((x11.length:Int)=(i10:Int)) then some (Lp.out false) else some (Lp.go ())) (K:=λ_=>some true) (r:=false) (λi (r:List Qa)=>r.length=i) s.A (λi x hx=>by
  constructor
  . intro h;rw[decide_eq_true (by omega)];rfl
  . intro h;rw[decide_eq_false (by omega)];rfl)
 have hr':(rangeL (λ(i10:Nat) (x11:List Qa) (_:Unit)=>if (x11.length:Int)=(i10:Int) then some (Lp.go ()) else some (Lp.out false)) s.A 0 ()).bind (lpK λ_=>some true)=(rangeL (λ(i10:Nat) (x11:List Qa) (_:Unit)=>bif !decide ((x11.length:Int)=(i10:Int)) then some (Lp.out false) else some (Lp.go ())) s.A 0 ()).bind (lpK λ_=>some true):=by simp only[bifnd]
 have fin:(s.E.length=s.B.length∨s.E.length=0)->(rangeL (λ(i10:Nat) (x11:List Qa) (_:Unit)=>if (x11.length:Int)=(i10:Int) then some (Lp.go ()) else some (Lp.out false)) s.A 0 ()).bind (lpK λ_=>some true)=some (dP ((1≤s.B.length∧s.B.length≤8)∧s.C.length=s.B.length∧s.A.length=s.B.length∧(s.E.length=s.B.length∨s.E.length=0)∧∀(i:Nat) r,s.A[i]?=some r->r.length=i)):=by
  intro hE
  rw[hr',hr]
  by_cases h:∀(i:Nat) r,s.A[i]?=some r->r.length=i
  . rw[if_pos h,dP_t ⟨by omega,by omega,by omega,hE,h⟩]
  . rw[if_neg h,dP_f λg=>h g.2.2.2.2]
 by_cases c5:(s.E.length:Int)=(s.B.length:Int)
 . rw[if_pos c5,bifF];exact fin (.inl (by omega))
 . rw[if_neg c5]
   by_cases c6:(s.E.length:Int)=0
   . rw[if_pos c6];exact fin (.inr (by omega))
   . rw[if_neg c6,dP_f (by omega)]
structure SchW(k:Nat)(s:Qr):Prop where
 a:∀ r∈s.A,FR k r
 b:FR k s.B
 c:FR k s.C
 e:FR k s.E
 n:s.Name.length≤4611686018427387904
def rowsR(s:Qr):Prop:=∀(i:Nat) r,s.A[i]?=some r->sumQ (rv r)=fv (s.C.getD i ⟨⟨false,[]⟩,[]⟩)
theorem Qp0{n k:Nat}{s:Qr}(hn:big≤n)(h1:1≤k)(hk:k<1048576)(hs:SchW k s)(hsh:shapeR s):Qc2 n s=some (dP (rowsR s)):=by
 unfold Qc2
 obtain⟨⟨g1,g2⟩,g3,g4,g5,g6⟩:=hsh
 rw[Wp (λi (r:List Qa)=>sumQ (rv r)=fv (s.C.getD i ⟨⟨false,[]⟩,[]⟩)) (r:=false)]
 . unfold rowsR
   by_cases h:∀(i:Nat) r,s.A[i]?=some r->sumQ (rv r)=fv (s.C.getD i ⟨⟨false,[]⟩,[]⟩)
   . rw[if_pos h,dP_t h]
   . rw[if_neg h,dP_f h]
 . intro i r hr
   have hi:=J7 hr
   have hc:s.C[i]?=some (s.C.getD i ⟨⟨false,[]⟩,[]⟩):=by
    rw[List.getD_eq_getElem?_getD,List.getElem?_eq_getElem (show i<s.C.length by omega)];rfl
   have hrk:=hs.a r (Q6 hr)
   have hrl:=g6 i r hr
   have hck:=hs.c _ (Q6 hc)
   have hb:=Qlu (l:=rv r) (b:=1) (z:=0) (QR_rv hrk h1) (by rw[Qdl];exact Nat.le_refl _)
   have hcc:(rv r).length*(k+1)≤8*1048576:=Nat.mul_le_mul (by rw[Vn];omega) (by omega)
   rw[Qko hn h1 hk hrk (by omega),sbind,Ku hc,sbind,Kv (k:=10000000) hn (by omega) (by omega) (Qz (by unfold sumQ;omega)) (J9 hck (by omega)),sbind,Qt]
   constructor
   . intro h;rw[decide_eq_true h];rfl
   . intro h;rw[decide_eq_false h];rfl
def schR(s:Qr):Prop:=wdB 2 s.Name=true∧shapeR s∧((∀ r∈s.A,∀ x∈r,numR x)∧∀ r∈[s.B,s.C,s.E],∀ x∈r,numR x)∧rowsR s∧sumQ (rv s.B)=1∧(s.E≠[]->sumQ (rv s.E)=1)
theorem Qtp{n k:Nat}{a:List Qa}(hn:big≤n)(h1:1≤k)(hk:k<1048576)(ha:FR k a)(hl:a.length≤8){β:Type}(f:Bool->Option β):
 ((Zs n a).bind λr20=>(Jn n r20 (toF 1)).bind f)=f (decide (sumQ (rv a)=1)):=by
 have hb:=Qlu (l:=rv a) (b:=1) (z:=0) (QR_rv ha h1) (by rw[Qdl];exact Nat.le_refl _)
 have hcc:(rv a).length*(k+1)≤8*1048576:=Nat.mul_le_mul (by rw[Vn];omega) (by omega)
 have q1:qw 1≤10000000:=by unfold qw;rw[show(1:Rat).num=1 from rfl,show(1:Rat).den=1 from rfl,show(1:Int).natAbs=1 from rfl,toL1];omega
 rw[Qko hn h1 hk ha (by omega),sbind,Kv (k:=10000000) hn (by omega) (by omega) (Qz (by unfold sumQ;omega)) (Qz q1),sbind,Qt,Qt]
theorem Qo2{n k:Nat}{s:Qr}(hn:big≤n)(h1:1≤k)(hk:k<1048576)(hs:SchW k s):∃ v,Qak n s=some v∧(v=0↔schR s):=by
 unfold Qak
 rw[Z5 hn,sbind,Qss (w:=⟨2,s.Name,0⟩) hn hs.n,sbind]
 simp only[]
 unfold schR
 cases hw:wdB 2 s.Name
 . exact⟨1,rfl,by simp⟩
 rw[Bool.not_true,bifF,Qo1,sbind,bifnP]
 by_cases hsh:shapeR s
 case neg=>rw[if_neg hsh];exact⟨2,rfl,λh=>by omega,λh=>absurd h.2.1 hsh⟩
 rw[if_pos hsh]
 have hl:=hsh
 obtain⟨⟨g1,g2⟩,g3,g4,g5,g6⟩:=hl
 simp only[jn_eq]
 rw[Qgx hn hk hs.a,sbind,bifnP]
 have hs3:∀ r∈[s.B,s.C,s.E],FR k r:=λr hr=>by
  rcases List.mem_cons.1 hr with rfl | hr
  . exact hs.b
  rcases List.mem_cons.1 hr with rfl | hr
  . exact hs.c
  rcases List.mem_cons.1 hr with rfl | hr
  . exact hs.e
  cases hr
 by_cases hA:∀ r∈s.A,∀ x∈r,numR x
 case neg=>rw[if_neg hA,bifT];exact⟨3,rfl,λh=>by omega,λh=>absurd h.2.2.1.1 hA⟩
 rw[if_pos hA,Qgx hn hk hs3,sbind,bifnP]
 by_cases hB:∀ r∈[s.B,s.C,s.E],∀ x∈r,numR x
 case neg=>rw[if_neg hB];exact⟨3,rfl,λh=>by omega,λh=>absurd h.2.2.1.2 hB⟩
 rw[if_pos hB,Qp0 hn h1 hk hs hsh,sbind,bifnP]
 by_cases hR:rowsR s
 case neg=>rw[if_neg hR];exact⟨4,rfl,λh=>by omega,λh=>absurd h.2.2.2.1 hR⟩
 rw[if_pos hR,Qtp hn h1 hk hs.b (by omega),bifnd]
 by_cases h5:sumQ (rv s.B)=1
 case neg=>rw[if_neg h5];exact⟨5,rfl,λh=>by omega,λh=>absurd h.2.2.2.2.1 h5⟩
 rw[if_pos h5,bifd]
 by_cases hE:(0:Int)<(s.E.length:Int)
 . have hE':s.E≠[]:=λh=>by rw[h] at hE;simp at hE
   rw[if_pos hE,Qtp hn h1 hk hs.e (by omega),bifnd]
   by_cases h6:sumQ (rv s.E)=1
   . rw[if_pos h6];exact⟨0,rfl,λ_=>⟨by trivial,hsh,⟨hA,hB⟩,hR,h5,λ_=>h6⟩,λ_=>rfl⟩
   . rw[if_neg h6];exact⟨6,rfl,λh=>by omega,λh=>absurd (h.2.2.2.2.2 hE') h6⟩
 . have hE':s.E=[]:=List.eq_nil_of_length_eq_zero (by omega)
   rw[if_neg hE,bifF];exact⟨0,rfl,λ_=>⟨by trivial,hsh,⟨hA,hB⟩,hR,h5,λh=>absurd hE' h⟩,λ_=>rfl⟩
theorem Qij{n k:Nat}{s:Qr}(hn:big≤n)(h1:1≤k)(hk:k<1048576)(hs:SchW k s):Qal n s=some (dP (schR s)):=by
 obtain⟨v,e1,e2⟩:=Qo2 hn h1 hk hs
 unfold Qal
 rw[e1,sbind];exact Y5 e2
def gapQ(s:Qr):List Rat:=if s.E=[] then [] else addQ (rv s.B) (scaleQ (-1) (rv s.E))
theorem Qrc{n k:Nat}{s:Qr}(hn:big≤n)(h1:1≤k)(hk:k<1048576)(hs:SchW k s)(hr:schR s):Qcb n s=some (toR (gapQ s)):=by
 unfold Qcb gapQ
 simp only[jn_eq]
 rw[Qij hn h1 hk hs,sbind,dP_t hr,Bool.not_true,bifF]
 obtain⟨⟨g1,g2⟩,g3,g4,g5,g6⟩:=hr.2.1
 by_cases hE:s.E=[]
 . rw[if_pos hE,hE];rfl
 . have hl:s.E.length≠0:=λh=>hE (List.eq_nil_of_length_eq_zero h)
   have q1:qw (((-1:Int):Int):Rat)≤1:=by unfold qw;rw[Rat.num_intCast,Rat.den_intCast,show(-1:Int).natAbs=1 from rfl,toL1];omega
   have e1:(((-1:Int):Int):Rat)=-1:=rfl
   rw[if_neg hE,decide_eq_false (by omega),bifF]
   unfold Qka
   rw[Qgq hn (by decide) (by decide),sbind,Yj (k:=k+1) hn (by omega) (by omega) (Qz (by omega)) (Y7 hs.e (by omega)) (by omega),sbind,Qt]
   rw[Qn1 (k:=k+1) hn (by omega) (by omega) (Y7 hs.b (by omega)) (Kx (Vh (Qpy q1 (QR_rv hs.e h1)) (by omega))) (by omega),sbind,Kc,Qmq,Vn,if_pos (by omega),sbind,Va,e1]
theorem Q3u{k:Nat}{s:Qr}(h1:1≤k)(hs:SchW k s):QR (2*k+2) (gapQ s):=by
 unfold gapQ
 split
 . intro x hx;cases hx
 . have q1:qw (-1:Rat)≤1:=by unfold qw;rw[show(-1:Rat).num=-1 from rfl,show(-1:Rat).den=1 from rfl,show(-1:Int).natAbs=1 from rfl,toL1];omega
   exact Vh (Qz2 (QR_rv hs.b h1) (Qpy q1 (QR_rv hs.e h1))) (by omega)
theorem Qxg{lim:Int}:∀ {l:List Rat}{i j:Nat},fitQ lim l i=some j->j<i+l.length
 | [],i,j,h=>by simp[fitQ] at h
 | q::l,i,j,h=>by
   simp only[fitQ] at h
   split at h
   . have:=Qxg h;simp;omega
   . cases h;simp
structure MadeQ where
 ys:List (List Rat)
 ks:List (List Rat)
 next:List Rat
 err:List Rat
def towQ(H:Rat)(m:Nat)(c:List Rat)(kss:List (List Rat)):List Rat:=scaleQ H (mixQ c kss (List.replicate m 0))
def fromQ(H:Rat)(Y c:List Rat)(kss:List (List Rat)):List Rat:=addQ Y (towQ H Y.length c kss)
def stageQ(t:Q2)(lim:Int)(T H:Rat)(Y P:List Rat)(a:List Rat)(c:Rat)(i:Nat)(kss:List (List Rat)):Qc ⊕ (List Rat×List Rat):=
 match fitQ lim (fromQ H Y a kss) 0 with
 | some j=>.inl ⟨6,0,(i:Int),300+(j:Int)⟩
 | none=>match fieldQ t lim (T+H*c) (fromQ H Y a kss) P with
   | .inl e=>.inl ⟨e.1,0,(i:Int),(e.2:Int)⟩
   | .inr k=>.inr (fromQ H Y a kss,k)
def stagesQ(t:Q2)(lim:Int)(T H:Rat)(Y P:List Rat):List (List Rat×Rat)->Nat->List (List Rat)->List (List Rat)->Qc ⊕ (List (List Rat)×List (List Rat))
 | [],_,yss,kss=>.inr (yss,kss)
 | x::r,i,yss,kss=>match stageQ t lim T H Y P x.1 x.2 i kss with
   | .inl f=>.inl f
   | .inr z=>stagesQ t lim T H Y P r (i+1) (yss++[z.1]) (kss++[z.2])
def endQ(s:Qr)(lim:Int)(H:Rat)(Y:List Rat)(yss kss:List (List Rat)):Qc ⊕ MadeQ:=
 match fitQ lim (fromQ H Y (rv s.B) kss) 0 with
 | some j=>.inl ⟨6,0,(s.B.length:Int),300+(j:Int)⟩
 | none=>match fitQ lim (if gapQ s=[] then [] else towQ H Y.length (gapQ s) kss) 0 with
   | some j=>.inl ⟨6,0,(s.B.length:Int)+1,300+(j:Int)⟩
   | none=>.inr ⟨yss,kss,fromQ H Y (rv s.B) kss,if gapQ s=[] then [] else towQ H Y.length (gapQ s) kss⟩
def doQ(t:Q2)(s:Qr)(lim:Int)(T H:Rat)(Y P:List Rat):Qc ⊕ MadeQ:=
 match stagesQ t lim T H Y P (List.zip (s.A.map rv) (rv s.C)) 0 [] [] with
 | .inl f=>.inl f
 | .inr z=>endQ s lim H Y z.1 z.2
def toRR(l:List (List Rat)):List (List Qa):=l.map toR
theorem Qjt(l:List (List Rat)):(toRR l).length=l.length:=by unfold toRR;simp
theorem Q2d(l:List (List Rat)):(toRR l).map rv=l:=by
 unfold toRR
 rw[List.map_map]
 conv=>rhs;rw[←List.map_id l]
 exact List.map_congr_left λq _=>Va q
theorem Qwb{l:List (List Rat)}{P:List Qa->Prop}(h:∀ a∈l,P (toR a)):∀ a∈toRR l,P a:=λa ha=>by
 obtain⟨q,hq,rfl⟩:=List.mem_map.1 ha
 exact h q hq
theorem Qz5(m:Nat):QR 1 (List.replicate m 0):=λq hq=>by rw[(List.mem_replicate.1 hq).2,Qdl];exact Nat.le_refl _
theorem Qsv{k m:Nat}{H:Rat}{c:List Rat}{kss:List (List Rat)}(hH:qw H≤k)(hc:QR k c)(hk:∀ a∈kss,QR 129 a)(hl:kss.length≤8)(h0:129≤k):QR (20*k) (towQ H m c kss):=by
 have h2:=Qq6 (z:=List.replicate m 0) hc hk (Qz5 m)
 have h3:kss.length*(k+129+1)≤8*(k+129+1):=Nat.mul_le_mul_right _ hl
 exact Vh (Qpy hH h2) (by omega)
theorem Qwc{k:Nat}{H:Rat}{Y c:List Rat}{kss:List (List Rat)}(hY:QR k Y)(hH:qw H≤k)(hc:QR k c)(hk:∀ a∈kss,QR 129 a)(hl:kss.length≤8)(h0:129≤k):QR (22*k) (fromQ H Y c kss):=
 Vh (Qz2 hY (Qsv hH hc hk hl h0)) (by omega)
theorem Qsw{m:Nat}{H:Rat}{c:List Rat}{kss:List (List Rat)}(hk:∀ a∈kss,a.length=m):(towQ H m c kss).length=m:=by
 unfold towQ;rw[Qmq];exact Qmr hk (by simp)
theorem Qms{H:Rat}{Y c:List Rat}{kss:List (List Rat)}(hk:∀ a∈kss,a.length=Y.length):(fromQ H Y c kss).length=Y.length:=by
 unfold fromQ;rw[Qv6,Qsw hk,Nat.min_self]
section
variable {n k:Nat}{p:Ql}{t h:Qa}{y:List Qa}{g:Qp}{ys ks:List (List Qa)}{nx er:List Qa}
theorem Qpg{c:List Qa}{kss:List (List Rat)}(hn:big≤n)(h0:129≤k)(hk:k<16384)(hh:Fk k h)(hc:FR k c)(hkq:∀ a∈kss,QR 129 a)(hl:kss.length≤8)(hcl:c.length=kss.length)(hkl:∀ a∈kss,a.length=y.length)(hy:y.length≤6):
 K0 n p t h y g ys (toRR kss) nx er c=some (toR (towQ (fv h) y.length (rv c) kss)):=by
 unfold K0
 rw[Qpz,Qv9 (j:=k) (k:=129) hn (by omega) (by omega) (by omega) (by omega) hc (Qwb λa ha=>Kx (hkq a ha)) (by omega) (by rw[Qjt];omega),sbind,if_pos ⟨by rw[Qjt,hcl],Qwb λa ha=>by rw[Kc];exact hkl a ha⟩]
 rw[Q2d]
 have hm:=Qq6 (z:=List.replicate y.length 0) (QR_rv hc (by omega)) hkq (Qz5 y.length)
 have h3:kss.length*(k+129+1)≤8*(k+129+1):=Nat.mul_le_mul_right _ hl
 have hml:=Qmr (cs:=rv c) hkl (show(List.replicate y.length (0:Rat)).length=y.length by simp)
 rw[Yj (k:=20*k) hn (by omega) (by omega) (J9 hh (by omega)) (Kx (Vh hm (by omega))) (by rw[Kc,hml];omega),sbind,Va]
 rfl
theorem Qtq{c:List Qa}{kss:List (List Rat)}(hn:big≤n)(h0:129≤k)(hk:k<16384)(hh:Fk k h)(hyk:FR k y)(hc:FR k c)(hkq:∀ a∈kss,QR 129 a)(hl:kss.length≤8)(hcl:c.length=kss.length)(hkl:∀ a∈kss,a.length=y.length)(hy:y.length≤6):
 Wt n p t h y g ys (toRR kss) nx er c=some (toR (fromQ (fv h) (rv y) (rv c) kss)):=by
 unfold Wt
 have hb:=Qsv (m:=y.length) (qw_fv hh (by omega)) (QR_rv hc (by omega)) hkq hl h0
 have htl:=Qsw (H:=fv h) (c:=rv c) hkl
 rw[Qpg hn h0 hk hh hc hkq hl hcl hkl hy,sbind,Qn1 (k:=20*k) hn (by omega) (by omega) (Y7 hyk (by omega)) (Kx hb) (by omega),sbind,Kc,htl,if_pos rfl,Va]
 unfold fromQ
 rw[Vn]
theorem Qn4{l:List Rat}{x2:Int}(hn:big≤n)(hl:QR 1099511627775 l)(hll:l.length≤1000):
 ∃ g',g'.limit=g.limit∧Vb n p t h y g ys ks nx er (toR l) x2=some (match fitQ g.limit l 0 with | none=>(⟨0,0,0,0⟩,g') | some j=>(⟨6,0,x2,300+(j:Int)⟩,g')):=by
 obtain⟨g',h1,h2⟩:=Q02 (g:=g) hn hl
 refine⟨g',h1,?_⟩
 unfold Vb
 rw[h2,sbind]
 cases hf:fitQ g.limit l 0 with
 | none=>rfl
 | some j=>
   have:=Qxg hf
   simp only[Bool.not_false,bifT]
   rw[w64 (by omega) (by omega)]
structure PrbOK(n k:Nat)(p:Ql)(t h:Qa)(y:List Qa):Prop where
 tp:Qz4 n k p.Tape
 sw:SchW k p.Scheme
 sr:schR p.Scheme
 pk:FR k p.P
 pl:(p.P.length:Int)=p.Tape.Par
 tk:Fk k t
 hk:Fk k h
 yk:FR k y
 yl:(y.length:Int)=p.Tape.Dim
def limQ(bits:Int):Int:=min (max bits 0) 4096
theorem Qwx{i:Nat}{c:Qa}(hn:big≤n)(h0:129≤k)(hk:k<16384)(ht:Fk k t)(hh:Fk k h)(hck:Fk k c)(hc:p.Scheme.C[i]?=some c):Qc3 n p t h (i:Int)=some (toF (fv t+fv h*fv c)):=by
 have hi:=J7 hc
 have hmul:=Qaz (qw_fv hh (by omega)) (qw_fv hck (by omega))
 unfold Qc3
 simp only[jn_eq]
 rw[decide_eq_false (show ¬(i:Int)<0 by omega),bifF,decide_eq_false (show ¬(p.Scheme.C.length:Int)≤(i:Int) by omega),bifF,Ku hc,sbind,Y9 hn (by omega) (by omega) hh hck,sbind,Wy (k:=4*k) hn (by omega) (by omega) (J9 ht (by omega)) (Qz (by omega)),sbind,Qt]
theorem Qyl{i:Nat}{a:List Qa}{c:Qa}{kss:List (List Rat)}(hn:big≤n)(h0:129≤k)(hk:k<16384)(ok:PrbOK n k p t h y)(hg:g.limit=limQ p.Bits)
 (ha:p.Scheme.A[i]?=some a) (hc:p.Scheme.C[i]?=some c) (hys:ys.length≤8) (hkq:∀ a∈kss,QR 129 a) (hki:kss.length=i) (hkl:∀ a∈kss,a.length=y.length) :
 ∃ g',g'.limit=g.limit∧∃ r,Wh n p t h y g ys (toRR kss) nx er (i:Int)=some r ∧
   match stageQ p.Tape (limQ p.Bits) (fv t) (fv h) (rv y) (rv p.P) (rv a) (fv c) i kss with
   | .inl f=>r.1=f∧f.Kind≠0
   | .inr z=>r=(⟨0,0,0,0⟩,p,t,h,y,nx,er,g',ys++[toR z.1],toRR (kss++[z.2]))∧QR 129 z.2∧z.2.length=y.length:=by
 obtain⟨⟨d1,d2⟩,⟨d3,d4⟩,d5,d6⟩:=ok.tp.r.1
 obtain⟨⟨g1,g2⟩,g3,g4,g5,g6⟩:=ok.sr.2.1
 have hi:=J7 ha
 have hyl:=ok.yl
 have hak:=ok.sw.a a (Q6 ha)
 have hck:=ok.sw.c c (Q6 hc)
 have hal:=g6 i a ha
 have hb:=Qwc (QR_rv ok.yk (by omega)) (qw_fv ok.hk (by omega)) (QR_rv hak (by omega)) hkq (by omega) h0
 have hfl:=Qms (H:=fv h) (Y:=rv y) (c:=rv a) (kss:=kss) (by rw[Vn];exact hkl)
 rw[Vn] at hfl
 unfold Wh
 rw[Ku ha,sbind,Qtq hn h0 hk ok.hk ok.yk hak hkq (by omega) (by omega) hkl (by omega),sbind]
 obtain⟨g',e1,e2⟩:=Qn4 (p:=p) (t:=t) (h:=h) (y:=y) (g:=g) (ys:=ys) (ks:=toRR kss) (nx:=nx) (er:=er) (x2:=(i:Int)) hn (Vh hb (show 22*k≤1099511627775 by omega)) (by omega)
 refine⟨g',e1,?_⟩
 rw[e2,sbind,hg]
 unfold stageQ
 cases hf:fitQ (limQ p.Bits) (fromQ (fv h) (rv y) (rv a) kss) 0 with
 | some j=>
   simp only[]
   rw[Xv (by decide),Bool.not_false,bifT]
   exact⟨_,rfl,rfl,by decide⟩
 | none=>
   simp only[]
   rw[Wa,Bool.not_true,bifF]
   unfold Qj9
   have hmul:=Qaz (qw_fv ok.hk (by omega)) (qw_fv hck (by omega))
   have hadd:=Qgp (qw_fv ok.tk (by omega)) hmul
   rw[Qwx hn h0 hk ok.tk ok.hk hck hc,sbind,sbind]
   have hF:=Qsu (k:=22*k) (t:=p.Tape) (p:=⟨toF (fv t+fv h*fv c),toR (fromQ (fv h) (rv y) (rv a) kss),p.P⟩) (bits:=p.Bits) hn (by omega) (by omega) ⟨ok.tp.r,ok.tp.h,λx hx=>J9 (ok.tp.w x hx) (by omega)⟩ (Qz (by omega)) (Kx hb) (Y7 ok.pk (by omega)) (by simp only[Kc,hfl];exact hyl) ok.pl
   rw[hF,sbind]
   simp only[]
   rw[Qt,Va]
   have hlim:limQ p.Bits=min (max p.Bits 0) 4096:=rfl
   rw[hlim]
   cases hq:fieldQ p.Tape (min (max p.Bits 0) 4096) (fv t+fv h*fv c) (fromQ (fv h) (rv y) (rv a) kss) (rv p.P) with
   | inl e=>
     have hkd:=Qpf hq
     simp only[]
     rw[Xv (by omega),Bool.not_false,bifT]
     exact⟨_,rfl,rfl,by show e.1≠0;omega⟩
   | inr l=>
     obtain⟨q1,q2⟩:=Qto (by omega) hq
     simp only[]
     rw[Wa,Bool.not_true,bifF,V7 (by simp;omega) (by simp;omega),sbind,V7 (by rw[Qjt];simp;omega) (by rw[Qjt];simp;omega),sbind]
     refine⟨_,rfl,?_,q2,by omega⟩
     unfold toRR
     rw[List.map_append];rfl
end
section
variable {n k:Nat}{p:Ql}{t h:Qa}{y:List Qa}
def pairQ(s:Qr):List (List Rat×Rat):=List.zip (s.A.map rv) (rv s.C)
theorem Qz6{s:Qr}{i:Nat}{a:List Qa}{c:Qa}(ha:s.A[i]?=some a)(hc:s.C[i]?=some c):(pairQ s).drop i=(rv a,fv c)::(pairQ s).drop (i+1):=by
 have h1:(pairQ s)[i]?=some (rv a,fv c):=by
  unfold pairQ rv
  rw[List.getElem?_zip_eq_some]
  simp only[List.getElem?_map]
  exact⟨by rw[ha];rfl,by rw[hc];rfl⟩
 have hi:=J7 h1
 rw[List.drop_eq_getElem_cons hi]
 congr 1
 rw[List.getElem?_eq_getElem hi] at h1
 exact Option.some.inj h1
theorem Q05{g:Qp}(hn:big≤n)(h0:129≤k)(hk:k<8000)(ok:PrbOK n k p t h y)(hg:g.limit=limQ p.Bits):
 ∃ r,Zf n p t h y g [] [] [] []=some r ∧
   match doQ p.Tape p.Scheme (limQ p.Bits) (fv t) (fv h) (rv y) (rv p.P) with
   | .inl f=>r.1=f∧f.Kind≠0
   | .inr z=>∃ g',r=(⟨0,0,0,0⟩,p,t,h,y,toR z.next,toR z.err,g',toRR z.ys,toRR z.ks)∧z.ys.length=p.Scheme.B.length∧z.ks.length=p.Scheme.B.length:=by
 obtain⟨⟨d1,d2⟩,⟨d3,d4⟩,d5,d6⟩:=ok.tp.r.1
 obtain⟨⟨g1,g2⟩,g3,g4,g5,g6⟩:=ok.sr.2.1
 have hyl:=ok.yl
 unfold Zf
 have key:∀(bs:List Qa) (i:Nat) (g:Qp) (yss kss:List (List Rat)) (K:(Ql×Qa×Qa×(List Qa)×Qp×(List (List Qa))×(List (List Qa))×(List Qa)×(List Qa))->Option (Qc×Ql×Qa×Qa×(List Qa)×(List Qa)×(List Qa)×Qp×(List (List Qa))×(List (List Qa)))),
  i+bs.length=p.Scheme.B.length->yss.length=i->kss.length=i->(∀ a∈kss,QR 129 a)->(∀ a∈kss,a.length=y.length)->g.limit=limQ p.Bits →
  match stagesQ p.Tape (limQ p.Bits) (fv t) (fv h) (rv y) (rv p.P) ((pairQ p.Scheme).drop i) i yss kss with
  | .inl f=>∃ r,(rangeL (λ(i15:Nat) (_:Qa) (s14:Ql×Qa×Qa×(List Qa)×Qp×(List (List Qa))×(List (List Qa))×(List Qa)×(List Qa))=>
  (Wh n s14.1 s14.2.1 s14.2.2.1 s14.2.2.2.1 s14.2.2.2.2.1 s14.2.2.2.2.2.1 s14.2.2.2.2.2.2.1 s14.2.2.2.2.2.2.2.1 s14.2.2.2.2.2.2.2.2 (i15:Int)).bind λr18=>
  bif !(Qx r18.1 (⟨0,0,0,0⟩:Qc)) then (
   some (Lp.out ((r18.1,r18.2.1,r18.2.2.1,r18.2.2.2.1,r18.2.2.2.2.1,r18.2.2.2.2.2.1,r18.2.2.2.2.2.2.1,r18.2.2.2.2.2.2.2.1,r18.2.2.2.2.2.2.2.2.1,r18.2.2.2.2.2.2.2.2.2))))
  else (
   some (Lp.go (r18.2.1,r18.2.2.1,r18.2.2.2.1,r18.2.2.2.2.1,r18.2.2.2.2.2.2.2.1,r18.2.2.2.2.2.2.2.2.1,r18.2.2.2.2.2.2.2.2.2,r18.2.2.2.2.2.1,r18.2.2.2.2.2.2.1)))) bs i (p,t,h,y,g,toRR yss,toRR kss,[],[])).bind (lpK K)=some r∧r.1=f∧f.Kind≠0
   | .inr z=>∃ g',g'.limit=limQ p.Bits∧(rangeL (λ(i15:Nat) (_:Qa) (s14:Ql×Qa×Qa×(List Qa)×Qp×(List (List Qa))×(List (List Qa))×(List Qa)×(List Qa))=>
  (Wh n s14.1 s14.2.1 s14.2.2.1 s14.2.2.2.1 s14.2.2.2.2.1 s14.2.2.2.2.2.1 s14.2.2.2.2.2.2.1 s14.2.2.2.2.2.2.2.1 s14.2.2.2.2.2.2.2.2 (i15:Int)).bind λr18=>
  bif !(Qx r18.1 (⟨0,0,0,0⟩:Qc)) then (
   some (Lp.out ((r18.1,r18.2.1,r18.2.2.1,r18.2.2.2.1,r18.2.2.2.2.1,r18.2.2.2.2.2.1,r18.2.2.2.2.2.2.1,r18.2.2.2.2.2.2.2.1,r18.2.2.2.2.2.2.2.2.1,r18.2.2.2.2.2.2.2.2.2))))
  else (
   some (Lp.go (r18.2.1,r18.2.2.1,r18.2.2.2.1,r18.2.2.2.2.1,r18.2.2.2.2.2.2.2.1,r18.2.2.2.2.2.2.2.2.1,r18.2.2.2.2.2.2.2.2.2,r18.2.2.2.2.2.1,r18.2.2.2.2.2.2.1)))) bs i (p,t,h,y,g,toRR yss,toRR kss,[],[])).bind (lpK K)=K (p,t,h,y,g',toRR z.1,toRR z.2,[],[])∧z.1.length=p.Scheme.B.length∧z.2.length=p.Scheme.B.length∧(∀ a∈z.2,QR 129 a)∧∀ a∈z.2,a.length=y.length:=by
  intro bs
  induction bs with
  | nil=>
    intro i g yss kss K hi hy1 hk1 hq hl hg
    have he:(pairQ p.Scheme).drop i=[]:=by
     apply List.drop_eq_nil_of_le
     unfold pairQ
     simp only[List.length_nil,Nat.add_zero] at hi
     rw[List.length_zip,Vn,List.length_map];omega
    rw[he]
    simp only[stagesQ]
    simp only[List.length_nil,Nat.add_zero] at hi
    exact⟨g,hg,rfl,by omega,by omega,hq,hl⟩
  | cons b bs ih=>
    intro i g yss kss K hi hy1 hk1 hq hl hg
    rw[List.length_cons] at hi
    have ha:p.Scheme.A[i]?=some (p.Scheme.A[i]'(by omega)):=List.getElem?_eq_getElem (by omega)
    have hc:p.Scheme.C[i]?=some (p.Scheme.C[i]'(by omega)):=List.getElem?_eq_getElem (by omega)
    rw[Qz6 ha hc]
    generalize p.Scheme.A[i]'(by omega)=a at ha
    generalize p.Scheme.C[i]'(by omega)=c at hc
    simp only[stagesQ,rangeL]
    obtain⟨g',e1,r,e2,e3⟩:=Qyl (g:=g) (ys:=toRR yss) (nx:=[]) (er:=[]) hn h0 (by omega) ok hg ha hc (by rw[Qjt];omega) hq hk1 hl
    rw[e2,sbind]
    cases hs:stageQ p.Tape (limQ p.Bits) (fv t) (fv h) (rv y) (rv p.P) (rv a) (fv c) i kss with
    | inl f=>
      rw[hs] at e3
      obtain⟨e4,e5⟩:=e3
      obtain⟨⟨f1,f2,f3,f4⟩,r⟩:=r
      simp only[] at e4
      subst e4
      simp only[]
      rw[Xv e5,Bool.not_false,bifT,sbind]
      exact⟨_,rfl,rfl,e5⟩
    | inr z=>
      rw[hs] at e3
      obtain⟨e4,e5,e6⟩:=e3
      subst e4
      simp only[]
      rw[Wa,Bool.not_true,bifF,sbind]
      have:=ih (i+1) g' (yss++[z.1]) (kss++[z.2]) K (by omega) (by simp;omega) (by simp;omega) (λa ha=>by
       rcases List.mem_append.1 ha with ha | ha
       . exact hq a ha
       . rw[List.mem_singleton.1 ha];exact e5) (λa ha=>by
       rcases List.mem_append.1 ha with ha | ha
       . exact hl a ha
       . rw[List.mem_singleton.1 ha];exact e6) (by omega)
      have e7:toRR yss++[toR z.1]=toRR (yss++[z.1]):=by unfold toRR;rw[List.map_append];rfl
      rw[e7]
      exact this
 generalize hK:(λ(s20:Ql×Qa×Qa×(List Qa)×Qp×(List (List Qa))×(List (List Qa))×(List Qa)×(List Qa))=>
  (Wt n s20.1 s20.2.1 s20.2.2.1 s20.2.2.2.1 s20.2.2.2.2.1 s20.2.2.2.2.2.1 s20.2.2.2.2.2.2.1 s20.2.2.2.2.2.2.2.1 s20.2.2.2.2.2.2.2.2 p.Scheme.B).bind λr21=>
 (Vb n s20.1 s20.2.1 s20.2.2.1 s20.2.2.2.1 s20.2.2.2.2.1 s20.2.2.2.2.2.1 s20.2.2.2.2.2.2.1 r21 s20.2.2.2.2.2.2.2.2 r21 (p.Scheme.B.length:Int)).bind λr23=>
 bif !(Qx r23.1 (⟨0,0,0,0⟩:Qc)) then (
  some (r23.1,s20.1,s20.2.1,s20.2.2.1,s20.2.2.2.1,r21,s20.2.2.2.2.2.2.2.2,r23.2,s20.2.2.2.2.2.1,s20.2.2.2.2.2.2.1))
 else (
  jn (λ(j29:((List Qa))->Option _)=>
   (Qcb n p.Scheme).bind λr32=>
   bif decide ((0:Int)<(r32.length:Int)) then (
    (K0 n s20.1 s20.2.1 s20.2.2.1 s20.2.2.2.1 r23.2 s20.2.2.2.2.2.1 s20.2.2.2.2.2.2.1 r21 s20.2.2.2.2.2.2.2.2 r32).bind λr34=>
    j29 r34)
   else (
    j29 s20.2.2.2.2.2.2.2.2)) (λ(s31:(List Qa))=>
   (Vb n s20.1 s20.2.1 s20.2.2.1 s20.2.2.2.1 r23.2 s20.2.2.2.2.2.1 s20.2.2.2.2.2.2.1 r21 s31 s31 (wrap64 ((p.Scheme.B.length:Int)+(1:Int)))).bind λr36=>
   some (r36.1,s20.1,s20.2.1,s20.2.2.1,s20.2.2.2.1,r21,s31,r36.2,s20.2.2.2.2.2.1,s20.2.2.2.2.2.2.1))))=K
 have h1:=key p.Scheme.B 0 g [] [] K (by omega) rfl rfl (λ_ h=>by cases h) (λ_ h=>by cases h) hg
 unfold doQ
 rw[List.drop_zero] at h1
 unfold pairQ at h1
 cases hs:stagesQ p.Tape (limQ p.Bits) (fv t) (fv h) (rv y) (rv p.P) (List.zip (p.Scheme.A.map rv) (rv p.Scheme.C)) 0 [] [] with
 | inl f=>
   rw[hs] at h1
   exact h1
 | inr z=>
   rw[hs] at h1
   obtain⟨g',q1,q2,q3,q4,q5,q6⟩:=h1
   obtain⟨yss,kss⟩:=z
   simp only[] at q2 q3 q4 q5 q6 ⊢
   have e0:toRR []=[]:=rfl
   rw[e0] at q2
   rw[q2,←hK]
   simp only[]
   have hbB:=Qwc (QR_rv ok.yk (by omega)) (qw_fv ok.hk (by omega)) (QR_rv ok.sw.b (by omega)) q5 (by omega) h0
   have hlB:=Qms (H:=fv h) (Y:=rv y) (c:=rv p.Scheme.B) (kss:=kss) (by rw[Vn];exact q6)
   rw[Vn] at hlB
   have hgq:=Q3u (k:=k) (s:=p.Scheme) (by omega) ok.sw
   rw[Qtq hn h0 (by omega) ok.hk ok.yk ok.sw.b q5 (by omega) (by omega) q6 (by omega),sbind]
   obtain⟨g2',e1,e2⟩:=Qn4 (p:=p) (t:=t) (h:=h) (y:=y) (g:=g') (ys:=toRR yss) (ks:=toRR kss) (nx:=toR (fromQ (fv h) (rv y) (rv p.Scheme.B) kss)) (er:=[]) (x2:=(p.Scheme.B.length:Int)) hn (Vh hbB (show 22*k≤1099511627775 by omega)) (by omega)
   rw[e2,sbind,q1]
   unfold endQ
   cases hf:fitQ (limQ p.Bits) (fromQ (fv h) (rv y) (rv p.Scheme.B) kss) 0 with
   | some j=>
     simp only[]
     rw[Xv (by decide),Bool.not_false,bifT]
     exact⟨_,rfl,rfl,by decide⟩
   | none=>
     simp only[]
     rw[Wa,Bool.not_true,bifF,jn_eq,Qrc hn (by omega) (by omega) ok.sw ok.sr,sbind,Kc]
     have hE:((K0 n p t h y g2' (toRR yss) (toRR kss) (toR (fromQ (fv h) (rv y) (rv p.Scheme.B) kss)) [] (toR (gapQ p.Scheme)))=some (toR (towQ (fv h) y.length (gapQ p.Scheme) kss))∨gapQ p.Scheme=[])∧QR (41*k+1000) (if gapQ p.Scheme=[] then [] else towQ (fv h) y.length (gapQ p.Scheme) kss)∧(if gapQ p.Scheme=[] then [] else towQ (fv h) y.length (gapQ p.Scheme) kss).length≤1000:=by
      by_cases he:gapQ p.Scheme=[]
      . rw[if_pos he];exact⟨.inr he,λ_ h=>(by cases h),by simp⟩
      . have hEl:p.Scheme.E.length=p.Scheme.B.length:=by
         rcases g5 with g5 | g5
         . exact g5
         . exact absurd (by unfold gapQ;rw[if_pos (List.eq_nil_of_length_eq_zero g5)]) he
        have hgl:(gapQ p.Scheme).length=p.Scheme.B.length:=by
         unfold gapQ
         rw[if_neg (λh=>by rw[h] at hEl;simp at hEl;omega),Qv6,Qmq,Vn,Vn];omega
        rw[if_neg he]
        have ht:=Qpg (k:=2*k+2) (p:=p) (t:=t) (h:=h) (y:=y) (g:=g2') (ys:=toRR yss) (nx:=toR (fromQ (fv h) (rv y) (rv p.Scheme.B) kss)) (er:=[]) (c:=toR (gapQ p.Scheme)) (kss:=kss) hn (by omega) (by omega) (J9 ok.hk (by omega)) (Kx hgq) q5 (by omega) (by rw[Kc];omega) q6 (by omega)
        rw[Va] at ht
        refine⟨.inl ht,Vh (Qsv (k:=2*k+2) (Nat.le_trans (qw_fv ok.hk (by omega)) (by omega)) hgq q5 (by omega) (by omega)) (by omega),?_⟩
        rw[Qsw q6];omega
     obtain⟨hE1,hE2,hE3⟩:=hE
     have hj:∀ {β:Type}(f:List Qa->Option β),(bif decide ((0:Int)<((gapQ p.Scheme).length:Int)) then (K0 n p t h y g2' (toRR yss) (toRR kss) (toR (fromQ (fv h) (rv y) (rv p.Scheme.B) kss)) [] (toR (gapQ p.Scheme))).bind λr34=>f r34 else f [])=f (toR (if gapQ p.Scheme=[] then [] else towQ (fv h) y.length (gapQ p.Scheme) kss)):=by
      intro β f
      by_cases he:gapQ p.Scheme=[]
      . rw[if_pos he,he];rfl
      . have:(gapQ p.Scheme).length≠0:=λh=>he (List.eq_nil_of_length_eq_zero h)
        rw[if_neg he,decide_eq_true (by omega),bifT,hE1.resolve_right he,sbind]
     rw[hj,w1 (by omega),Vn]
     generalize (if gapQ p.Scheme=[] then [] else towQ (fv h) y.length (gapQ p.Scheme) kss)=er at hE2 hE3 ⊢
     obtain⟨g3',e3,e4⟩:=Qn4 (p:=p) (t:=t) (h:=h) (y:=y) (g:=g2') (ys:=toRR yss) (ks:=toRR kss) (nx:=toR (fromQ (fv h) (rv y) (rv p.Scheme.B) kss)) (er:=toR er) (x2:=((p.Scheme.B.length+1:Nat):Int)) hn (Vh hE2 (show 41*k+1000≤1099511627775 by omega)) hE3
     rw[e4,sbind,show g2'.limit=limQ p.Bits by omega]
     cases hf2:fitQ (limQ p.Bits) er 0 with
     | some j=>exact⟨_,rfl,rfl,by show(6:Int)≠0;decide⟩
     | none=>exact⟨_,rfl,g3',rfl,q3,q4⟩
theorem Qrd(hn:big≤n)(h1:1≤k)(hk:k<1048576)(ht:TW p.Tape)(hd:-9223372036854775808≤p.Tape.Dim∧p.Tape.Dim≤9223372036854775807)(hs:SchW k p.Scheme):
 Zt n p=some (dP (tapeR p.Tape∧schR p.Scheme∧(p.P.length:Int)=p.Tape.Par)):=by
 unfold Zt
 simp only[jn_eq]
 rw[Qkm hn ht hd,sbind,bifP]
 by_cases c1:tapeR p.Tape
 . rw[if_pos c1,Qij hn h1 hk hs,sbind,bifP]
   by_cases c2:schR p.Scheme
   . rw[if_pos c2];exact Y5 ⟨λh=>⟨c1,c2,h⟩,λh=>h.2.2⟩
   . rw[if_neg c2,dP_f λh=>c2 h.2.1]
 . rw[if_neg c1,dP_f λh=>c1 h.1]
end
end Go.Proofs.YtlihkcaoachkdaaGreatDoor
