import Derived.Test.YtlihkcaoachkdaaGreatDoorLibM
import Derived.Test.YtlihkcaoachkdaaGreatDoorMod
import Derived.KernelRfl
namespace Go.Proofs.YtlihkcaoachkdaaGreatDoor
open Go Go.RowKit
def big:Nat:=18446744073709551616
theorem w64{x:Int}(h1:-9223372036854775808≤x)(h2:x≤9223372036854775807):wrap64 x=x:=by unfold wrap64;omega
theorem bifd{α:Type}(p:Prop)[Decidable p](a b:α):(bif decide p then a else b)=if p then a else b:=by by_cases h:p<;>simp[h]
theorem bifnd{α:Type}(p:Prop)[Decidable p](a b:α):(bif !decide p then a else b)=if p then b else a:=by by_cases h:p<;>simp[h]
theorem bifT{α:Type}(a b:α):(bif true then a else b)=a:=Eq.symm (Eq.symm rfl)
theorem bifF{α:Type}(a b:α):(bif false then a else b)=b:=Eq.symm (Eq.symm rfl)
theorem jn_eq{σ ρ:Type}(A:(σ->Option ρ)->Option ρ)(k:σ->Option ρ):jn A k=A k:=Eq.symm (Eq.symm rfl)
theorem Xi{τ ρ:Type}(k:τ->Option ρ)(t:τ):lpK k (.go t)=k t:=Eq.symm (Eq.symm rfl)
theorem Qc2{τ ρ:Type}(k:τ->Option ρ)(r:ρ):lpK k (.out r)=some r:=Eq.symm (Eq.symm rfl)
theorem sbind{α β:Type}(a:α)(f:α->Option β):(some a).bind f=f a:=Eq.symm (Eq.symm rfl)
theorem Qd6{α:Type}(l:List α)(i:Nat):getI l (i:Int)=l[i]?:=by simp[getI]
theorem Qbe{α:Type}{l:List α}{i:Nat}(h:i<l.length):getI l (i:Int)=some l[i]:=by rw[Qd6];simp[h]
theorem Qsw(l:List UInt8)(i:Nat):getS l (i:Int)=(l[i]?).map (·.toNat):=by simp[getS]
theorem Q6i{l:List UInt8}{i:Nat}(h:i<l.length):getS l (i:Int)=some l[i].toNat:=by rw[Qsw];simp[h]
theorem grd_t{b:Bool}(h:b=true):grd b=some ():=by rw[h];rfl
theorem Q6j{α:Type}{l:List α}{k:Nat}(h:k≤l.length):sub l 0 (k:Int)=some (l.take k):=by
 unfold sub;rw[if_pos (by omega)];simp
theorem Q70{α:Type}{l:List α}{i k:Nat}(h1:i≤k)(h:k≤l.length):sub l (i:Int) (k:Int)=some ((l.take k).drop i):=by
 unfold sub;rw[if_pos (by omega)];simp
theorem Wz{α:Type}{b:Nat}{l r:List α}(h:(l.length+r.length)*b≤140737488355328)(h2:l.length+r.length≤9223372036854775807):appM b l r=some (l++r):=by
 unfold appM;rw[if_pos ⟨h,h2⟩]
theorem Qfc{α:Type}{b:Nat}{z:α}{n:Nat}(h:n*b≤140737488355328)(h2:n≤9223372036854775807):mkM b z (n:Int)=some (List.replicate n z):=by
 unfold mkM;rw[if_pos (by omega)];simp
theorem Q71{l r:List UInt8}(h2:l.length+r.length≤9223372036854775807):catS l r=some (l++r):=by
 unfold catS;rw[if_pos h2]
theorem Qrk{σ τ:Type}{f:σ->Option (Lp σ τ)}(μ:σ->Nat)(I:σ->Prop)(Q:τ->Prop)
 (hb:∀ s,I s->(∃ s',f s=some (.go s')∧I s'∧μ s'<μ s)∨(∃ t,f s=some (.out t)∧Q t)):∀(n:Nat) (s:σ),I s->μ s<n->∃ t,loopM f n s=some t∧Q t
 | 0,_,_,h=>absurd h (Nat.not_lt_zero _)
 | n+1,s,hI,hn=>by
   rcases hb s hI with ⟨s',h1,h2,h3⟩ | ⟨t,h1,h2⟩
   . obtain⟨t,h4,h5⟩:=Qrk μ I Q hb n s' h2 (by omega)
     exact⟨t,by simp only[loopM,h1,Option.bind_some];exact h4,h5⟩
   . exact⟨t,by simp only[loopM,h1,Option.bind_some],h2⟩
theorem Y9{σ τ R:Type}{f:σ->Option (Lp σ τ)}{n:Nat}{s:σ}{k:τ->Option R}{r:R}(μ:σ->Nat)(I:σ->Prop)(Q:τ->Prop)(h0:I s)(hn:μ s<n)
 (hb:∀ s,I s->(∃ s',f s=some (.go s')∧I s'∧μ s'<μ s)∨(∃ t,f s=some (.out t)∧Q t)) (hk:∀ t,Q t->k t=some r):(loopM f n s).bind k=some r:=by
 obtain⟨t,h1,h2⟩:=Qrk μ I Q hb n s h0 hn
 rw[h1,Option.bind_some];exact hk t h2
theorem Qd7{σ τ R:Type}{f:σ->Option (Lp σ τ)}{n:Nat}{s:σ}{k:τ->Option R}{P:R->Prop}(μ:σ->Nat)(I:σ->Prop)(Q:τ->Prop)(h0:I s)(hn:μ s<n)
 (hb:∀ s,I s->(∃ s',f s=some (.go s')∧I s'∧μ s'<μ s)∨(∃ t,f s=some (.out t)∧Q t)) (hk:∀ t,Q t->∃ r,k t=some r∧P r):∃ r,(loopM f n s).bind k=some r∧P r:=by
 obtain⟨t,h1,h2⟩:=Qrk μ I Q hb n s h0 hn
 rw[h1,Option.bind_some];exact hk t h2
theorem Q33{σ τ R β:Type}{f:σ->Option (Lp σ τ)}{n:Nat}{s:σ}{k:τ->Option R}{g:β->R}{P:β->Prop}(μ:σ->Nat)(I:σ->Prop)(Q:τ->Prop)(h0:I s)(hn:μ s<n)
 (hb:∀ s,I s->(∃ s',f s=some (.go s')∧I s'∧μ s'<μ s)∨(∃ t,f s=some (.out t)∧Q t)) (hk:∀ t,Q t->∃ b,k t=some (g b)∧P b):∃ b,(loopM f n s).bind k=some (g b)∧P b:=by
 obtain⟨t,h1,h2⟩:=Qrk μ I Q hb n s h0 hn
 rw[h1,Option.bind_some];exact hk t h2
theorem Qhf{σ τ:Type}{f:σ->Option (Lp σ τ)}{s s':σ}{n:Nat}(h:f s=some (.go s')):loopM f (n+1) s=loopM f n s':=by simp only[loopM,h,Option.bind_some]
theorem Wb{σ τ:Type}{f:σ->Option (Lp σ τ)}{s:σ}{t:τ}{n:Nat}(h:f s=some (.out t))(hn:0<n):loopM f n s=some t:=by
 obtain⟨m,rfl⟩:∃ m,n=m+1:=⟨n - 1,by omega⟩
 simp only[loopM,h,Option.bind_some]
theorem Qsx{α σ τ:Type}{f:Nat->α->σ->Option (Lp σ τ)}(I:Nat->σ->Prop):∀(xs:List α) (i:Nat) (s:σ),I i s->(∀ j x s,xs[j]?=some x->I (i+j) s->∃ s',f (i+j) x s=some (.go s')∧I (i+j+1) s') →
 ∃ s',rangeL f xs i s=some (.go s')∧I (i+xs.length) s'
 | [],i,s,h,_=>⟨s,rfl,h⟩
 | x::xs,i,s,h,hb=>by
   obtain⟨s1,h1,h2⟩:=hb 0 x s rfl h
   simp only[Nat.add_zero] at h1 h2
   obtain⟨s2,h3,h4⟩:=Qsx I xs (i+1) s1 h2 (λj y t hj ht=>by
    have:=hb (j+1) y t (by simpa using hj) (by rw[show i+(j+1)=i+1+j by omega];exact ht)
    rw[show i+(j+1)=i+1+j by omega] at this
    exact this)
   refine⟨s2,by simp only[rangeL,h1,Option.bind_some];exact h3,?_⟩
   rw[List.length_cons,show i+(xs.length+1)=i+1+xs.length by omega];exact h4
theorem Qj2{α σ τ R:Type}{f:Nat->α->σ->Option (Lp σ τ)}{xs:List α}{s:σ}{k:Lp σ τ->Option R}{r:R}(I:Nat->σ->Prop)(h0:I 0 s)
 (hb:∀ j x s,xs[j]?=some x->I j s->∃ s',f j x s=some (.go s')∧I (j+1) s') (hk:∀ t,I xs.length t->k (.go t)=some r):(rangeL f xs 0 s).bind k=some r:=by
 obtain⟨s',h1,h2⟩:=Qsx I xs 0 s h0 (λj x s hj hs=>by rw[Nat.zero_add] at hs ⊢;exact hb j x s hj hs)
 rw[h1,Option.bind_some];exact hk s' (by simpa using h2)
theorem Qpu{α σ τ R:Type}{f:Nat->α->σ->Option (Lp σ τ)}{xs:List α}{s:σ}{k:Lp σ τ->Option R}{P:R->Prop}(I:Nat->σ->Prop)(h0:I 0 s)
 (hb:∀ j x s,xs[j]?=some x->I j s->∃ s',f j x s=some (.go s')∧I (j+1) s') (hk:∀ t,I xs.length t->∃ r,k (.go t)=some r∧P r):∃ r,(rangeL f xs 0 s).bind k=some r∧P r:=by
 obtain⟨s',h1,h2⟩:=Qsx I xs 0 s h0 (λj x s hj hs=>by rw[Nat.zero_add] at hs ⊢;exact hb j x s hj hs)
 rw[h1,Option.bind_some];exact hk s' (by simpa using h2)
def val:List Nat->Nat
 | []=>0
 | x::a=>x+4294967296*val a
def bp(k:Nat):Nat:=4294967296 ^ k
theorem X5:bp 0=1:=by unfold bp;rw[Nat.pow_zero]
theorem K5(k:Nat):bp (k+1)=bp k*4294967296:=by unfold bp;rw[Nat.pow_succ]
theorem bp_le{j k:Nat}(h:j≤k):bp j≤bp k:=by unfold bp;exact Nat.pow_le_pow_right (by decide) h
theorem Q47(k:Nat):0<bp k:=by unfold bp;exact Nat.pow_pos (by decide)
theorem Q9z(j k:Nat):bp (j+k)=bp j*bp k:=by unfold bp;rw[Nat.pow_add]
def Wd(a:List Nat):Prop:=∀ x∈a,x<4294967296
def trimZ:List Nat->List Nat
 | []=>[]
 | x::a=>if trimZ a=[]∧x=0 then [] else x::trimZ a
def toL(n:Nat):List Nat:=if n=0 then [] else n%4294967296::toL (n / 4294967296)
termination_by n
decreasing_by omega
theorem Vd:Wd []:=λ_ h=>by cases h
theorem Ju{x a}:Wd (x::a)↔x<4294967296∧Wd a:=by simp[Wd]
theorem Jr{a b}:Wd (a++b)↔Wd a∧Wd b:=by
 constructor
 . intro h;exact⟨λx hx=>h x (List.mem_append_left _ hx),λx hx=>h x (List.mem_append_right _ hx)⟩
 . rintro⟨h1,h2⟩ x hx
   rcases List.mem_append.1 hx with h | h
   . exact h1 x h
   . exact h2 x h
theorem Qmo{a k}(h:Wd a):Wd (a.take k):=λx hx=>h x (List.mem_of_mem_take hx)
theorem Qi5{a k}(h:Wd a):Wd (a.drop k):=λx hx=>h x (List.mem_of_mem_drop hx)
theorem Qj3{k x}(h:x<4294967296):Wd (List.replicate k x):=λy hy=>by rw[(List.mem_replicate.1 hy).2];exact h
theorem Za{a:List Nat}(h:Wd a){i:Nat}(hi:i<a.length):a[i]<4294967296:=h _ (List.getElem_mem hi)
theorem V5:toL 0=[]:=by rw[toL];rfl
theorem Qar{n:Nat}(h:n≠0):toL n=n%4294967296::toL (n / 4294967296):=by rw[toL];rw[if_neg h]
theorem Qo(n:Nat):val (toL n)=n:=by
 induction n using Nat.strongRecOn with
 | _ n ih=>
   by_cases h:n=0
   . subst h;rw[V5];rfl
   . rw[Qar h];simp only[val];rw[ih (n / 4294967296) (by omega)];omega
theorem Qy(n:Nat):Wd (toL n):=by
 induction n using Nat.strongRecOn with
 | _ n ih=>
   by_cases h:n=0
   . subst h;rw[V5];exact Vd
   . rw[Qar h];exact Ju.2 ⟨by omega,ih (n / 4294967296) (by omega)⟩
theorem Jv{a:List Nat}(h:Wd a):toL (val a)=trimZ a:=by
 induction a with
 | nil=>simp[val,V5,trimZ]
 | cons x a ih=>
   obtain⟨hx,ha⟩:=Ju.1 h
   have ih:=ih ha
   simp only[val,trimZ]
   by_cases hv:val a=0
   . rw[hv,V5] at ih
     rw[←ih,hv]
     by_cases hx0:x=0
     . subst hx0;simp[V5]
     . rw[if_neg (λh=>hx0 h.2),Qar (by omega)]
       rw[show(x+4294967296*0)%4294967296=x by omega,show(x+4294967296*0) / 4294967296=0 by omega,V5]
   . have hne:trimZ a≠[]:=by
      rw[←ih,Qar hv];simp
     rw[if_neg (λh=>hne h.1),Qar (by omega),show(x+4294967296*val a)%4294967296=x by omega,show(x+4294967296*val a) / 4294967296=val a by omega,ih]
theorem Qoi(a:List Nat):val (trimZ a)=val a:=by
 induction a with
 | nil=>rfl
 | cons x a ih=>
   simp only[trimZ]
   split
   . rename_i h;rw[h.1] at ih;simp[val] at ih ⊢;omega
   . simp[val,ih]
theorem Q07{a:List Nat}(h:Wd a):Wd (trimZ a):=by rw[←Jv h];exact Qy _
theorem Xv(a:List Nat):(trimZ a).length≤a.length:=by
 induction a with
 | nil=>simp[trimZ]
 | cons x a ih=>simp only[trimZ];split<;>simp;omega
theorem Qyr{a:List Nat}(h:trimZ a=[]):val a=0:=by rw[←Qoi,h];rfl
theorem Qsy{a:List Nat}(h:Wd a):trimZ a=[]↔val a=0:=by
 constructor
 . exact Qyr
 . intro hv;rw[←Jv h,hv,V5]
theorem Q48(n:Nat):trimZ (toL n)=toL n:=by rw[←Jv (Qy n),Qo]
theorem Qpv(a:List Nat):trimZ (a++[0])=trimZ a:=by
 induction a with
 | nil=>simp[trimZ]
 | cons x a ih=>simp only[List.cons_append,trimZ,ih]
theorem Qvw(a:List Nat){x:Nat}(h:x≠0):trimZ (a++[x])=a++[x]:=by
 induction a with
 | nil=>simp[trimZ,h]
 | cons y a ih=>simp only[List.cons_append,trimZ,ih];rw[if_neg (by simp)]
theorem Wq(a b:List Nat):val (a++b)=val a+bp a.length*val b:=by
 induction a with
 | nil=>simp[val,X5]
 | cons x a ih=>simp only[List.cons_append,val,ih,List.length_cons,K5];rw[Nat.mul_add,←Nat.mul_assoc,Nat.mul_comm 4294967296 (bp a.length)];omega
theorem W2{a:List Nat}(h:Wd a):val a<bp a.length:=by
 induction a with
 | nil=>simp[val,X5]
 | cons x a ih=>
   obtain⟨hx,ha⟩:=Ju.1 h
   have:=ih ha
   simp only[val,List.length_cons,K5];omega
theorem Qei(k:Nat):val (List.replicate k 0)=0:=by
 induction k with
 | zero=>rfl
 | succ k ih=>simp[List.replicate_succ,val,ih]
theorem Qai{n k:Nat}(h:n<bp k):(toL n).length≤k:=by
 induction k generalizing n with
 | zero=>rw[X5] at h;obtain rfl:n=0:=by omega
         simp[V5]
 | succ k ih=>
   by_cases h0:n=0
   . subst h0;simp[V5]
   . rw[Qar h0,List.length_cons]
     have:=@ih (n / 4294967296) (by rw[K5] at h;exact Nat.div_lt_of_lt_mul (by rw[Nat.mul_comm];exact h))
     omega
theorem Kv{α:Type}{a:List α}{k:Nat}(h:k<a.length):a.take (k+1)=a.take k++[a[k]]:=by simp[]
theorem W7{n:Nat}{a:List Nat}(hn:big≤n)(ha:a.length≤4611686018427387904):Xj n a=some (trimZ a):=by
 unfold Xj
 unfold big at hn
 refine Y9 (λs=>s.toNat) (λs=>∃ k:Nat,s=k∧k≤a.length∧trimZ a=trimZ (a.take k)) (λt=>∃ k:Nat,t=k∧k≤a.length∧trimZ a=a.take k) ⟨a.length,rfl,Nat.le_refl _,by simp⟩ (by simp;omega) ?_ ?_
 . rintro s ⟨k,rfl,hk,ht⟩
   simp only[jn_eq,bifd]
   by_cases h0:0<k
   . obtain⟨j,rfl⟩:∃ j,k=j+1:=⟨k - 1,by omega⟩
     rw[if_pos (by omega),w64 (by omega) (by omega),show((j+1:Nat):Int) - 1=(j:Nat) by omega,Qbe (show j<a.length by omega),sbind]
     rw[Kv (show j<a.length by omega)] at ht
     by_cases hz:a[j]=0
     . left
       refine⟨(j:Nat),by simp[hz],⟨j,rfl,by omega,?_⟩,by omega⟩
       rw[ht,hz,Qpv]
     . right
       refine⟨((j+1:Nat):Int),by simp[hz],j+1,rfl,hk,?_⟩
       rw[ht,Kv (show j<a.length by omega),Qvw _ hz]
   . right
     obtain rfl:k=0:=by omega
     exact⟨0,by simp,0,rfl,Nat.zero_le _,by rw[ht];simp[trimZ]⟩
 . rintro t ⟨k,rfl,hk,ht⟩
   rw[Q6j hk,sbind,ht]
theorem Q6k{a:List Nat}{k:Nat}:cpyL (List.replicate (a.length+k) 0) a=a++List.replicate k 0:=by
 unfold cpyL
 rw[List.length_replicate,List.take_of_length_le (by omega),List.drop_replicate,Nat.add_sub_cancel_left]
theorem Qkr{a:List Nat}{k:Nat}(h:a.length+k≤35184372088832):Qeb a (k:Int)=some (a++List.replicate k 0):=by
 unfold Qeb
 rw[w64 (by omega) (by omega),show((a.length:Int)+(k:Int))=((a.length+k:Nat):Int) by omega,Qfc (by omega) (by omega),sbind,Q6k]
theorem Wi{n:Nat}{a:List Nat}(hn:big≤n)(ha:a.length≤35184372088832):Vw n a=some (trimZ a):=by
 unfold Vw
 have hl:=Xv a
 rw[W7 hn (by omega),sbind,show(0:Int)=((0:Nat):Int) by rfl,Qkr (by omega),sbind];simp
theorem Ql2{n:Nat}{a:List Nat}(hn:big≤n)(ha:a.length≤4611686018427387904)(hw:Wd a):Qfi n a=some (decide (val a=0)):=by
 unfold Qfi
 rw[W7 hn ha,sbind]
 congr 1
 rw[Bool.eq_iff_iff]
 simp only[decide_eq_true_eq]
 rw[←Qsy hw]
 constructor
 . intro h;exact List.eq_nil_of_length_eq_zero (by omega)
 . intro h;rw[h];rfl
theorem Qrl{x y c d:Nat}(hx:x<4294967296)(hy:y<4294967296)(hc:c<4294967296)(hd:d<4294967296):x*y+c+d<18446744073709551616:=by
 have:x*y≤4294967295*4294967295:=Nat.mul_le_mul (by omega) (by omega)
 omega
theorem Ql3{x y c d:Nat}(hx:x<4294967296)(hy:y<4294967296)(hc:c<4294967296)(hd:d<4294967296):
 Qcm x y c d=some ((x*y+c+d) / 4294967296,(x*y+c+d)%4294967296):=by
 have h:=Qrl hx hy hc hd
 unfold Qcm
 rw[Nat.mod_eq_of_lt (show x*y<18446744073709551616 by omega),Nat.mod_eq_of_lt (show x*y+c<18446744073709551616 by omega),Nat.mod_eq_of_lt h,sbind]
 rw[show(2:Nat) ^ 32=4294967296 by rfl,Nat.mod_eq_of_lt (show(x*y+c+d) / 4294967296<4294967296 by omega)]
theorem Qxi{x y:Nat}(hy:y<4294967296):x*4294967296 ||| y=x*4294967296+y:=by
 have:=Nat.two_pow_add_eq_or_of_lt (i:=32) (b:=y) (by simpa using hy) x
 rw[show(2:Nat) ^ 32=4294967296 by rfl,Nat.mul_comm] at this
 exact this.symm
theorem Qrz{h l y:Nat}(hh:h<y)(hl:l<4294967296)(hy:y<4294967296):
 Qdy h l y=some ((h*4294967296+l) / y,(h*4294967296+l)%y,true):=by
 unfold Qdy
 rw[bifd,if_neg (by omega),grd_t (by simp;omega),sbind,sbind]
 rw[show(2:Nat) ^ 32=4294967296 by rfl,Nat.mod_eq_of_lt (show h*4294967296<18446744073709551616 by omega),Qxi hl]
 have h1:(h*4294967296+l) / y<4294967296:=Nat.div_lt_of_lt_mul (by
  have:h*4294967296+4294967296≤y*4294967296:=by omega
  omega)
 have h2:(h*4294967296+l)%y<y:=Nat.mod_lt _ (by omega)
 rw[Nat.mod_eq_of_lt h1,Nat.mod_eq_of_lt (show(h*4294967296+l)%y<4294967296 by omega)]
theorem Q72{α:Type}(p:List α)(y:α)(r:List α):(p++y::r)[p.length]?=some y:=by simp
theorem Q73{α:Type}(p:List α)(y z:α)(r:List α):(p++y::r).set p.length z=p++z::r:=by simp
theorem K7{α:Type}{k:Nat}{p:List α}{y:α}{r:List α}(h:p.length=k):getI (p++y::r) (k:Int)=some y:=by rw[Qd6,←h,Q72]
theorem W6{α:Type}{k:Nat}{p:List α}{y z:α}{r:List α}(h:p.length=k):(p++y::r).set (k:Int).toNat z=p++z::r:=by rw[Int.toNat_natCast,←h,Q73]
theorem Kh(a:List Nat)(x:Nat):val (a++[x])=val a+bp a.length*x:=by rw[Wq];simp[val]
theorem Q49{α:Type}{l:List α}{k:Nat}(h:k<l.length):l=l.take k++l[k]::l.drop (k+1):=by simp
theorem Q6l(P x y m cy u v V M A c:Nat)(e:4294967296*u+v=x*y+m+cy)(h6:V+P*cy=M+x*A+c):V+P*v+P*4294967296*u=M+P*m+x*(A+P*y)+c:=by grind
theorem Qzm{p m q a:List Nat}{z x c:Nat}(hm:m.length=a.length)(hp:p.length+m.length+1+q.length≤4611686018427387904)(hwm:Wd m)(hwa:Wd a)(hx:x<4294967296)(hc:c<4294967296):
 ∃ r,Qdw (p++m++z::q) (p.length:Int) a x c=some (p++r++q)∧r.length=a.length+1∧Wd r∧val r=val m+x*val a+c:=by
 have key:∃ r,Qdw (p++m++z::q) (p.length:Int) a x c=some r∧∃ r',r=p++r'++q∧r'.length=a.length+1∧Wd r'∧val r'=val m+x*val a+c:=by
  unfold Qdw
  refine Qpu (λj (s:List Nat×Nat)=>∃ m1,s.1=p++m1++(m.drop j++z::q)∧m1.length=j∧j≤a.length∧Wd m1∧s.2<4294967296∧val m1+bp j*s.2=val (m.take j)+x*val (a.take j)+c) ⟨[],by simp,rfl,Nat.zero_le _,Vd,hc,by simp[val,X5]⟩ ?_ ?_
  . rintro j y ⟨o,cy⟩ hj ⟨m1,h1,h2,h3,h4,h5,h6⟩
    simp only at h1 h5 h6
    subst h1
    have hja:j<a.length:=by
     rcases Nat.lt_or_ge j a.length with h | h
     . exact h
     . simp[List.getElem?_eq_none h] at hj
    have hy:a[j]=y:=by simpa [hja] using hj
    have hyw:y<4294967296:=by rw[←hy];exact Za hwa hja
    have hmj:j<m.length:=by omega
    have hmw:m[j]<4294967296:=Za hwm hmj
    rw[w64 (by omega) (by omega),show((p.length:Int)+(j:Int))=((p.length+j:Nat):Int) by omega,List.drop_eq_getElem_cons hmj,List.cons_append]
    rw[K7 (by simp;omega),sbind,Ql3 hx hyw hmw h5,sbind,sbind,W6 (by simp;omega)]
    refine⟨_,rfl,m1++[(x*y+m[j]+cy)%4294967296],by simp,by simp[h2],by omega,Jr.2 ⟨h4,Ju.2 ⟨by omega,Vd⟩⟩,by have:=Qrl hx hyw hmw h5;simp only[];omega,?_⟩
    rw[Kv hmj,Kv hja,Kh,Kh,Kh,hy,h2,List.length_take,List.length_take,Nat.min_eq_left (by omega),Nat.min_eq_left (by omega),K5]
    exact Q6l _ _ _ _ _ _ _ _ _ _ _ (Nat.div_add_mod (x*y+m[j]+cy) 4294967296) h6
  . rintro⟨o,cy⟩ ⟨m1,h1,h2,h3,h4,h5,h6⟩
    simp only at h1 h5 h6
    subst h1
    simp only[Xi]
    rw[w64 (by omega) (by omega),show((p.length:Int)+(a.length:Int))=((p.length+a.length:Nat):Int) by omega,List.drop_of_length_le (by omega),List.nil_append]
    rw[K7 (by simp;omega),sbind,W6 (by simp;omega)]
    refine⟨_,rfl,m1++[cy],by simp,by simp[h2],Jr.2 ⟨h4,Ju.2 ⟨h5,Vd⟩⟩,?_⟩
    rw[Kh,h2,h6,List.take_of_length_le (by omega),List.take_of_length_le (Nat.le_refl _)]
 obtain⟨r,h1,r',h2,h3,h4,h5⟩:=key
 exact⟨r',by rw[h1,h2],h3,h4,h5⟩
theorem Qej{n x:Nat}(hn:big≤n)(hx:x<18446744073709551616):Qaj n x=some (toL x):=by
 unfold Qaj
 rw[show(2:Nat) ^ 32=4294967296 by rfl,W7 hn (by simp),sbind,←Jv (by
  intro y hy
  simp only[List.mem_cons,List.not_mem_nil,or_false] at hy
  rcases hy with rfl | rfl<;>omega)]
 congr 2;simp only[val];omega
theorem Q6m(P q r' r x s y vd:Nat)(e:x*q+r'=r*P+y)(h:vd=x*s+r):y+P*vd=x*(q+P*s)+r':=by grind
theorem Qxj{n:Nat}{a:List Nat}{x:Nat}(hn:big≤n)(ha:a.length<35184372088832)(hw:Wd a)(hx0:x≠0)(hx:x<4294967296):Qhy n a x=some (toL (val a / x),val a%x,true):=by
 unfold Qhy
 unfold big at hn
 rw[bifd,if_neg hx0,Qfc (by omega) (by omega),sbind]
 refine Y9 (λs=>(s.2.2+1).toNat) (λs=>∃(k:Nat) (qs:List Nat),s.2.2=(k:Int) - 1∧k≤a.length∧s.1=List.replicate k 0++qs∧qs.length=a.length - k∧Wd qs∧s.2.1<x∧val (a.drop k)=x*val qs+s.2.1)
  (λt=>t.1.length=a.length∧Wd t.1∧t.2<x∧val a=x*val t.1+t.2) ⟨a.length,[],by simp only[];rw[w64 (by omega) (by omega)],Nat.le_refl _,by simp,by simp,Vd,by simp only[];omega,by simp[val]⟩ (by simp only[];rw[w64 (by omega) (by omega)];omega) ?_ ?_
 . rintro⟨q,r,i⟩ ⟨k,qs,h1,h2,h3,h4,h5,h6,h7⟩
   simp only at h1 h3 h6 h7
   subst h1 h3
   simp only[bifd]
   by_cases h0:0<k
   . obtain⟨j,rfl⟩:∃ j,k=j+1:=⟨k - 1,by omega⟩
     have hj:j<a.length:=by omega
     left
     rw[if_pos (by omega),show((j+1:Nat):Int) - 1=(j:Nat) by omega,Qbe hj,sbind,Qrz h6 (Za hw hj) hx,sbind]
     simp only[]
     rw[List.replicate_succ',List.append_assoc,List.singleton_append,K7 (by simp),sbind,W6 (by simp),w64 (by omega) (by omega)]
     refine⟨_,rfl,⟨j,((r*4294967296+a[j]) / x)::qs,rfl,by omega,rfl,by simp;omega,Ju.2 ⟨?_,h5⟩,Nat.mod_lt _ (by omega),?_⟩,by simp only[];omega⟩
     . have:=Za hw hj
       exact Nat.div_lt_of_lt_mul (by
        have:r*4294967296+4294967296≤x*4294967296:=by omega
        omega)
     . rw[List.drop_eq_getElem_cons hj]
       simp only[val]
       exact Q6m 4294967296 _ _ _ _ _ _ _ (Nat.div_add_mod (r*4294967296+a[j]) x) h7
   . right
     obtain rfl:k=0:=by omega
     rw[if_neg (by omega)]
     exact⟨_,rfl,by simp at h4 ⊢;omega,by simpa using h5,h6,by simpa using h7⟩
 . rintro⟨q,r⟩ ⟨h1,h2,h3,h4⟩
   simp only at h1 h2 h3 h4
   simp only[]
   rw[Wi (by unfold big;exact hn) (by omega),sbind,←Jv h2,h4,Nat.mul_add_div (by omega),Nat.mul_add_mod,Nat.div_eq_of_lt h3,Nat.mod_eq_of_lt h3,Nat.add_zero]
theorem Wj{n:Nat}{a:List Nat}(hn:big≤n)(ha:a.length≤35184372088832):Jn n a=some (trimZ a):=by
 have h:=W7 hn (show a.length≤4611686018427387904 by omega)
 have hl:=Xv a
 unfold Jn
 unfold Xj at h
 cases hk:loopM (λ(s19:Int)=>
  jn (λ(j22:(Bool)->Option _)=>
   bif decide ((0:Int)<s19) then (
    (getI a (wrap64 (s19 - (1:Int)))).bind λy25=>
    j22 (decide (y25=0)))
   else (
    j22 false)) (λ(s24:Bool)=>
   bif s24 then (
    some (Lp.go (wrap64 (s19 - (1:Int)))))
   else (
    some (Lp.out s19)))) n (a.length:Int) with
 | none=>rw[hk] at h;cases h
 | some t=>
   rw[hk] at h
   rw[sbind] at h ⊢
   cases hs:sub a (0:Int) t with
   | none=>rw[hs] at h;cases h
   | some b=>
     rw[hs,sbind] at h
     rw[sbind]
     obtain rfl:b=trimZ a:=by simpa using h
     rw[Wz (by simp;omega) (by simp;omega),sbind,List.nil_append]
theorem Qoj{n:Nat}{a b:List Nat}(hn:big≤n)(ha:a.length≤4611686018427387904):Yf n a b=some (decide (a=b)):=by
 unfold Yf
 unfold big at hn
 rw[bifnd]
 by_cases hl:a.length=b.length
 . rw[if_pos (by omega)]
   refine Y9 (λs=>a.length - s.toNat) (λs=>∃ k:Nat,s=k∧k≤a.length∧a.take k=b.take k) (λt=>(t=.go ()∧a=b)∨(t=.out false∧a≠b)) ⟨0,rfl,Nat.zero_le _,by simp⟩ (by omega) ?_ ?_
   . rintro s ⟨k,rfl,hk,ht⟩
     simp only[bifd,bifnd]
     by_cases h:k<a.length
     . rw[if_pos (by omega),Qbe h,sbind,Qbe (show k<b.length by omega),sbind]
       by_cases e:a[k]=b[k]
       . left
         rw[if_pos e,w64 (by omega) (by omega)]
         refine⟨_,rfl,⟨k+1,by omega,by omega,?_⟩,by omega⟩
         rw[Kv h,Kv (show k<b.length by omega),ht,e]
       . right
         rw[if_neg e]
         exact⟨_,rfl,.inr ⟨rfl,λh=>e (by simp[h])⟩⟩
     . right
       rw[if_neg (by omega)]
       refine⟨_,rfl,.inl ⟨rfl,?_⟩⟩
       rw[List.take_of_length_le (by omega),List.take_of_length_le (by omega)] at ht;exact ht
   . rintro t (⟨rfl,h⟩ | ⟨rfl,h⟩)
     . rw[Xi];simp[h]
     . rw[Qc2];simp[h]
 . rw[if_neg (by omega)]
   have:a≠b:=λh=>hl (by rw[h])
   simp[this]
theorem Qhg{a:List Nat}(h:Wd a)(i:Nat):a.getD i 0<4294967296:=by
 rw[List.getD_eq_getElem?_getD]
 by_cases hi:i<a.length
 . simp[hi];exact Za h hi
 . simp[List.getElem?_eq_none (show a.length≤i by omega)]
theorem Wk(a:List Nat)(k:Nat):val (a.take (k+1))=val (a.take k)+bp k*a.getD k 0:=by
 by_cases h:k<a.length
 . rw[Kv h,Kh,List.length_take,Nat.min_eq_left (by omega)];simp[h]
 . rw[List.take_of_length_le (by omega),List.take_of_length_le (by omega)];simp[List.getElem?_eq_none (show a.length≤k by omega)]
theorem Qch{a:List Nat}{k:Nat}:Vi a (k:Int)=some (a.getD k 0):=by
 unfold Vi
 rw[bifd]
 by_cases h:k<a.length
 . rw[if_pos (by omega),Qbe h,sbind];simp[h]
 . rw[if_neg (by omega)];simp[List.getElem?_eq_none (show a.length≤k by omega)]
theorem Q6n(P s x y u v V A C:Nat)(e:4294967296*u+v=s+(x+y))(h:V+P*s=A+C):V+P*v+P*4294967296*u=A+P*x+(C+P*y):=by grind
theorem Q34(P Q s o av bv:Nat)(_:Nat)(h7:o+P*s=av+bv)(ha:av<Q)(hb:bv<Q)(h5:P=Q*4294967296):s=0:=by
 rcases Nat.eq_zero_or_pos s with h | h
 . exact h
 . exfalso
   have g6:P*1≤P*s:=Nat.mul_le_mul_left _ h
   omega
theorem Qqh{n:Nat}{a b:List Nat}(hn:big≤n)(ha:a.length<17592186044416)(hb:b.length<17592186044416)(hwa:Wd a)(hwb:Wd b):Xr n a b=some (toL (val a+val b)):=by
 unfold Xr
 unfold big at hn
 obtain⟨l,hl⟩:∃ l:Nat,l=max a.length b.length:=⟨_,rfl⟩
 have hmax:max (a.length:Int) (b.length:Int)=(l:Int):=by omega
 have hla:a.length≤l:=by omega
 have hlb:b.length≤l:=by omega
 have hll:l<17592186044416:=by omega
 rw[hmax,w64 (by omega) (by omega),show((l:Int)+1)=((l+1:Nat):Int) by omega,Qfc (by omega) (by omega),sbind]
 refine Y9 (λs=>(l+1) - s.2.2.toNat) (λs=>∃(k:Nat) (o:List Nat),s.2.2=k∧k≤l+1∧s.1=o++List.replicate (l+1 - k) 0∧o.length=k∧Wd o∧s.2.1<4294967296∧val o+bp k*s.2.1=val (a.take k)+val (b.take k))
  (λt=>t.length=l+1∧Wd t∧val t=val a+val b) ⟨0,[],rfl,by omega,by simp,rfl,Vd,by simp,by simp[val,X5]⟩ (by simp only[];omega) ?_ ?_
 . rintro⟨q,s,i⟩ ⟨k,o,h1,h2,h3,h4,h5,h6,h7⟩
   simp only at h1 h3 h6 h7
   subst h1 h3
   simp only[sbind,bifd]
   by_cases hk:k<l+1
   . left
     have hx:=Qhg hwa k
     have hy:=Qhg hwb k
     rw[if_pos (by omega),Qch,sbind,Qch,sbind]
     obtain⟨j,hj⟩:∃ j,l+1 - k=j+1:=⟨l - k,by omega⟩
     rw[hj,List.replicate_succ,K7 h4,sbind,W6 h4,w64 (by omega) (by omega)]
     rw[Nat.mod_eq_of_lt (show a.getD k 0+b.getD k 0<18446744073709551616 by omega),Nat.mod_eq_of_lt (show s+(a.getD k 0+b.getD k 0)<18446744073709551616 by omega),Nat.mod_mod]
     refine⟨_,rfl,⟨k+1,o++[(s+(a.getD k 0+b.getD k 0))%4294967296],by simp only[];omega,by omega,?_,by simp[h4],Jr.2 ⟨h5,Ju.2 ⟨by omega,Vd⟩⟩,by simp only[];omega,?_⟩,by simp only[];omega⟩
     . simp only[];rw[show l+1 - (k+1)=j by omega];simp
     . simp only[]
       rw[Wk,Wk,Kh,h4,K5]
       exact Q6n _ _ _ _ _ _ _ _ _ (Nat.div_add_mod (s+(a.getD k 0+b.getD k 0)) 4294967296) h7
   . right
     obtain rfl:k=l+1:=by omega
     rw[if_neg (by omega)]
     refine⟨_,rfl,by simp[h4],by simpa using h5,?_⟩
     rw[List.take_of_length_le (by omega),List.take_of_length_le (by omega)] at h7
     have h8:s=0:=by
      have g1:=W2 hwa
      have g2:=W2 hwb
      have g3:bp a.length≤bp l:=bp_le hla
      have g4:bp b.length≤bp l:=bp_le hlb
      have g5:bp (l+1)=bp l*4294967296:=K5 _
      exact Q34 _ _ _ _ _ _ 0 h7 (Nat.lt_of_lt_of_le g1 g3) (Nat.lt_of_lt_of_le g2 g4) g5
     rw[h8,Nat.mul_zero,Nat.add_zero] at h7
     simpa using h7
 . rintro t ⟨h1,h2,h3⟩
   rw[Wj (by unfold big;exact hn) (by omega),sbind,←Jv h2,h3]
theorem Q6o(P x y m cy u v V M A:Nat)(e:4294967296*u+v=cy+(x*y+m))(h6:V+P*cy=M+x*A):V+P*v+P*4294967296*u=M+P*m+x*(A+P*y):=by grind
theorem Q74(P Q A x b O R c p _ M z:Nat)(h1:O=p+P*M)(h2:R+Q*c=M+x*b)(h3:O=A*b)(h4:z=p+P*(R+Q*c)):z=(A+P*x)*b:=by grind
theorem Zj{n:Nat}{a b:List Nat}(hn:big≤n)(ha:a.length<17592186044416)(hb:b.length<17592186044416)(hwa:Wd a)(hwb:Wd b):Kj n a b=some (toL (val a*val b)):=by
 unfold Kj
 unfold big at hn
 rw[w64 (by omega) (by omega),show((a.length:Int)+(b.length:Int))=((a.length+b.length:Nat):Int) by omega,Qfc (by omega) (by omega),sbind]
 refine Y9 (λs=>a.length - s.2.toNat) (λs=>∃(i:Nat) (o:List Nat),s.2=i∧i≤a.length∧s.1=o++List.replicate (a.length - i) 0∧o.length=i+b.length∧Wd o∧val o=val (a.take i)*val b)
  (λt=>t.length=a.length+b.length∧Wd t∧val t=val a*val b) ⟨0,List.replicate b.length 0,rfl,Nat.zero_le _,by simp only[Nat.sub_zero,List.replicate_append_replicate];rw[Nat.add_comm],by simp,Qj3 (by omega),by rw[Qei];simp[val]⟩ (by simp only[];omega) ?_ ?_
 . rintro⟨q,i'⟩ ⟨i,o,h1,h2,h3,h4,h5,h6⟩
   simp only at h1 h3
   subst h1 h3
   simp only[bifd]
   by_cases hi:i<a.length
   . left
     have hxw:=Za hwa hi
     obtain⟨j,hj⟩:∃ j,a.length - i=j+1:=⟨a.length - i - 1,by omega⟩
     rw[if_pos (by omega),hj,List.replicate_succ]
     obtain⟨p,hp⟩:∃ p,p=o.take i:=⟨_,rfl⟩
     obtain⟨m,hm⟩:∃ m,m=o.drop i:=⟨_,rfl⟩
     have ho:o=p++m:=by rw[hp,hm,List.take_append_drop]
     have hpl:p.length=i:=by rw[hp,List.length_take];omega
     have hml:m.length=b.length:=by rw[hm,List.length_drop];omega
     have hwp:Wd p:=by rw[hp];exact Qmo h5
     have hwm:Wd m:=by rw[hm];exact Qi5 h5
     have hov:val o=val p+bp i*val m:=by rw[ho,Wq,hpl]
     rw[ho]
     refine Q33 (λs=>b.length - s.2.2.toNat) (λs=>∃(k:Nat) (m1:List Nat),s.2.2=k∧k≤b.length∧s.1=p++m1++(m.drop k++0::List.replicate j 0)∧m1.length=k∧Wd m1∧s.2.1<4294967296∧val m1+bp k*s.2.1=val (m.take k)+a[i]*val (b.take k))
      (λt=>∃ m1:List Nat,t.1=p++m1++0::List.replicate j 0∧m1.length=b.length∧Wd m1∧t.2<4294967296∧val m1+bp b.length*t.2=val m+a[i]*val b) ⟨0,[],rfl,Nat.zero_le _,by simp,rfl,Vd,by simp,by simp[val]⟩ (by simp only[];omega) ?_ ?_
     . rintro⟨q,cy,k'⟩ ⟨k,m1,g1,g2,g3,g4,g5,g6,g7⟩
       simp only at g1 g3 g6 g7
       subst g1 g3
       simp only[]
       by_cases hk:k<b.length
       . left
         have hyw:=Za hwb hk
         have hmk:k<m.length:=by omega
         have hmw:=Za hwm hmk
         have hmul:=Qrl hxw hyw hmw g6
         rw[if_pos (by omega),Qbe hi,sbind,Qbe hk,sbind,w64 (x:=(i:Int)+(k:Int)) (by omega) (by omega),show((i:Int)+(k:Int))=((i+k:Nat):Int) by omega]
         rw[List.drop_eq_getElem_cons hmk,List.cons_append,K7 (by simp;omega),sbind,sbind,sbind,sbind,W6 (by simp;omega),sbind,w64 (by omega) (by omega)]
         rw[Nat.mod_eq_of_lt (show a[i]*b[k]<18446744073709551616 by omega),Nat.mod_eq_of_lt (show a[i]*b[k]+m[k]<18446744073709551616 by omega),Nat.mod_eq_of_lt (show cy+(a[i]*b[k]+m[k])<18446744073709551616 by omega),Nat.mod_mod]
         refine⟨_,rfl,⟨k+1,m1++[(cy+(a[i]*b[k]+m[k]))%4294967296],by simp only[];omega,by omega,by simp,by simp[g4],Jr.2 ⟨g5,Ju.2 ⟨by omega,Vd⟩⟩,by simp only[];omega,?_⟩,by simp only[];omega⟩
         simp only[]
         rw[Kv hmk,Kv hk,Kh,Kh,Kh,g4,List.length_take,List.length_take,Nat.min_eq_left (by omega),Nat.min_eq_left (by omega),K5]
         exact Q6o _ _ _ _ _ _ _ _ _ _ (Nat.div_add_mod (cy+(a[i]*b[k]+m[k])) 4294967296) g7
       . right
         obtain rfl:k=b.length:=by omega
         rw[if_neg (by omega)]
         refine⟨_,rfl,m1,by simp only[];rw[List.drop_of_length_le (by omega)];simp,g4,g5,g6,?_⟩
         rw[List.take_of_length_le (by omega),List.take_of_length_le (by omega)] at g7;exact g7
     . rintro⟨q,c⟩ ⟨m1,g1,g2,g3,g4,g5⟩
       simp only at g1 g4 g5
       subst g1
       rw[w64 (x:=(i:Int)+(b.length:Int)) (by omega) (by omega),show((i:Int)+(b.length:Int))=((i+b.length:Nat):Int) by omega]
       simp only[]
       rw[K7 (by simp;omega),sbind,W6 (by simp;omega),sbind,w64 (by omega) (by omega),Nat.mod_eq_of_lt g4]
       refine⟨_,rfl,⟨i+1,p++m1++[c],by simp only[];omega,by omega,by simp only[];rw[show a.length - (i+1)=j by omega];simp,by simp[hpl,g2];omega,Jr.2 ⟨Jr.2 ⟨hwp,g3⟩,Ju.2 ⟨g4,Vd⟩⟩,?_⟩,by simp only[];omega⟩
       rw[List.append_assoc,Wq,Kh,hpl,g2,Kv hi,Kh,List.length_take,Nat.min_eq_left (by omega)]
       exact Q74 _ _ _ _ _ _ _ _ _ 0 _ _ hov g5 h6 rfl
   . right
     obtain rfl:i=a.length:=by omega
     rw[if_neg (by omega)]
     exact⟨_,rfl,by simp[h4],by simpa using h5,by simpa using h6⟩
 . rintro t ⟨h1,h2,h3⟩
   rw[Wj (by unfold big;exact hn) (by omega),sbind,←Jv h2,h3]
def cmpI(x y:Nat):Int:=if x<y then -1 else if y<x then 1 else 0
theorem Q75{n:Nat}(h:n≠0):bp ((toL n).length - 1)≤n:=by
 induction n using Nat.strongRecOn with
 | _ n ih=>
   rw[Qar h,List.length_cons,Nat.add_sub_cancel]
   by_cases h1:n / 4294967296=0
   . rw[h1,V5,List.length_nil,X5];omega
   . have:=ih (n / 4294967296) (by omega) h1
     have hl:(toL (n / 4294967296)).length≠0:=by rw[Qar h1];simp
     obtain⟨m,hm⟩:∃ m,(toL (n / 4294967296)).length=m+1:=⟨(toL (n / 4294967296)).length - 1,by omega⟩
     rw[hm,Nat.add_sub_cancel] at this
     rw[hm,K5]
     have h2:bp m*4294967296≤n / 4294967296*4294967296:=Nat.mul_le_mul_right _ this
     have h3:n / 4294967296*4294967296≤n:=Nat.div_mul_le_self _ _
     exact Nat.le_trans h2 h3
theorem Qvx{m n:Nat}(h:(toL m).length<(toL n).length):m<n:=by
 have h1:=W2 (Qy m)
 rw[Qo] at h1
 have hn:n≠0:=by rintro rfl;rw[V5] at h;simp at h
 have h2:=Q75 hn
 have h3:bp (toL m).length≤bp ((toL n).length - 1):=bp_le (by omega)
 exact Nat.lt_of_lt_of_le h1 (Nat.le_trans h3 h2)
theorem Q08(a:List Nat)(k:Nat):val a=val (a.take k)+bp (a.take k).length*val (a.drop k):=by
 conv=>lhs;rw[←List.take_append_drop k a]
 rw[Wq]
theorem Q6p{P x y u v A:Nat}(hA:A<P)(hxy:x<y)(e1:u=A+P*x)(e2:P*y≤v):u<v:=by
 have:P*(x+1)≤P*y:=Nat.mul_le_mul_left _ hxy
 rw[Nat.mul_add] at this;omega
theorem Qtk{a b:List Nat}{j:Nat}(ha:Wd a)(hj:j<a.length)(hj':j<b.length)(ht:a.drop (j+1)=b.drop (j+1))(h:a[j]<b[j]):val a<val b:=by
 have e1:=Q08 a (j+1)
 have e2:=Q08 b (j+1)
 rw[List.length_take,Nat.min_eq_left (by omega)] at e1 e2
 rw[e1,e2,ht]
 refine Nat.add_lt_add_right ?_ _
 rw[Kv hj,Kv hj',Kh,Kh,List.length_take,List.length_take,Nat.min_eq_left (by omega),Nat.min_eq_left (by omega)]
 have h1:=W2 (Qmo (k:=j) ha)
 rw[List.length_take,Nat.min_eq_left (by omega)] at h1
 exact Q6p h1 h rfl (Nat.le_add_left _ _)
theorem Qg5{n:Nat}{a b:List Nat}(hn:big≤n)(ha:a.length≤4611686018427387904)(hb:b.length≤4611686018427387904)(hwa:Wd a)(hwb:Wd b):Qdx n a b=some (cmpI (val a) (val b)):=by
 unfold Qdx
 rw[W7 hn ha,sbind,W7 hn hb,sbind,←Jv hwa,←Jv hwb]
 have hla:(toL (val a)).length≤4611686018427387904:=by rw[Jv hwa];exact Nat.le_trans (Xv a) ha
 have hva:=Qo (val a)
 have hvb:=Qo (val b)
 have hwa':=Qy (val a)
 have hwb':=Qy (val b)
 have l1:=@Qvx (val a) (val b)
 have l2:=@Qvx (val b) (val a)
 generalize val a=x at *
 generalize val b=y at *
 generalize toL x=a' at *
 generalize toL y=b' at *
 unfold big at hn
 rw[bifd,bifd]
 by_cases h1:a'.length<b'.length
 . rw[if_pos (by omega),cmpI,if_pos (l1 h1)]
 . rw[if_neg (by omega)]
   by_cases h2:b'.length<a'.length
   . rw[if_pos (by omega),cmpI,if_neg (by have:=l2 h2;omega),if_pos (l2 h2)]
   . rw[if_neg (by omega),w64 (by omega) (by omega)]
     refine Y9 (λs=>(s+1).toNat) (λs=>∃ k:Nat,s=(k:Int) - 1∧k≤a'.length∧a'.drop k=b'.drop k) (λt=>(t=.go ()∧a'=b')∨(t=.out (-1)∧x<y)∨(t=.out 1∧y<x)) ⟨a'.length,rfl,Nat.le_refl _,by rw[List.drop_of_length_le (Nat.le_refl _),List.drop_of_length_le (by omega)]⟩ (by omega) ?_ ?_
     . rintro s ⟨k,rfl,hk,ht⟩
       simp only[bifd]
       by_cases h0:0<k
       . obtain⟨j,rfl⟩:∃ j,k=j+1:=⟨k - 1,by omega⟩
         have hj:j<a'.length:=by omega
         have hj':j<b'.length:=by omega
         rw[if_pos (by omega),show((j+1:Nat):Int) - 1=(j:Nat) by omega,Qbe hj,sbind,Qbe hj',sbind]
         by_cases g1:a'[j]<b'[j]
         . right
           rw[if_pos g1]
           refine⟨_,rfl,.inr (.inl ⟨rfl,?_⟩)⟩
           rw[←hva,←hvb];exact Qtk hwa' hj hj' ht g1
         . rw[if_neg g1,sbind,sbind]
           by_cases g2:b'[j]<a'[j]
           . right
             rw[if_pos g2]
             refine⟨_,rfl,.inr (.inr ⟨rfl,?_⟩)⟩
             rw[←hva,←hvb];exact Qtk hwb' hj' hj ht.symm g2
           . left
             rw[if_neg g2,w64 (by omega) (by omega)]
             refine⟨_,rfl,⟨j,rfl,by omega,?_⟩,by omega⟩
             rw[List.drop_eq_getElem_cons hj,List.drop_eq_getElem_cons hj',ht,show a'[j]=b'[j] by omega]
       . right
         obtain rfl:k=0:=by omega
         rw[if_neg (by omega)]
         exact⟨_,rfl,.inl ⟨rfl,by simpa using ht⟩⟩
     . rintro t (⟨rfl,h⟩ | ⟨rfl,h⟩ | ⟨rfl,h⟩)
       . rw[Xi]
         have:x=y:=by rw[←hva,←hvb,h]
         simp[cmpI,this]
       . rw[Qc2,cmpI,if_pos h]
       . rw[Qc2,cmpI,if_neg (by omega),if_pos h]
theorem Q5a{v:Nat}(h:v<18446744073709551616):toL v=[]∨(∃ x,toL v=[x]∧x=v)∨(∃ x y,toL v=[x,y]∧x<4294967296∧y<4294967296∧x+4294967296*y=v):=by
 have hl:=Qai (n:=v) (k:=2) (by rw[K5,K5,X5];omega)
 have hv:=Qo v
 have hw:=Qy v
 match hm:toL v,hl with
 | [],_=>exact .inl rfl
 | [x],_=>rw[hm] at hv;simp[val] at hv;exact .inr (.inl ⟨x,rfl,hv⟩)
 | [x,y],_=>
   rw[hm] at hv hw;simp[val] at hv
   exact .inr (.inr ⟨x,y,rfl,(Ju.1 hw).1,(Ju.1 (Ju.1 hw).2).1,by omega⟩)
 | _::_::_::_,h=>simp at h
theorem Q2s{v:Nat}(h:18446744073709551616≤v):2<(toL v).length:=by
 rcases Nat.lt_or_ge 2 (toL v).length with h1 | h1
 . exact h1
 . have h2:=W2 (Qy v)
   rw[Qo] at h2
   have h3:=bp_le h1
   rw[K5,K5,X5] at h3
   omega
theorem Qqi{n:Nat}{a:List Nat}(hn:big≤n)(ha:a.length≤4611686018427387904)(hw:Wd a):Qf6 n a=some (if val a<18446744073709551616 then (val a,true) else (0,false)):=by
 unfold Qf6
 rw[W7 hn ha,sbind,←Jv hw,bifd]
 by_cases h:val a<18446744073709551616
 . rw[if_pos h]
   rcases Q5a h with h1 | ⟨x,h1,h2⟩ | ⟨x,y,h1,h2,h3,h4⟩
   . have:=Qo (val a)
     rw[h1] at this ⊢
     rw[if_neg (by decide)]
     simp only[val] at this
     simp only[rangeL,sbind,Xi,←this]
   . rw[h1,if_neg (by simp)]
     simp only[rangeL]
     rw[w64 (by omega) (by omega),grd_t (by decide),sbind,sbind,sbind,sbind]
     simp only[Xi]
     subst h2
     simp
     omega
   . rw[h1,if_neg (by simp)]
     simp only[rangeL]
     rw[w64 (x:=32*((0:Nat):Int)) (by omega) (by omega),grd_t (by decide),sbind,sbind,sbind,w64 (by omega) (by omega),grd_t (by decide)]
     simp only[sbind,Xi]
     rw[show(2:Nat) ^ min (Int.toNat (32*((0:Nat):Int))) 64=1 by rfl,show(2:Nat) ^ min (Int.toNat (32*((0+1:Nat):Int))) 64=4294967296 by rfl,Nat.mul_one,Nat.mod_eq_of_lt (show x<18446744073709551616 by omega),Nat.mod_eq_of_lt (show y*4294967296<18446744073709551616 by omega),Nat.zero_or,Nat.or_comm,Qxi h2]
     congr 2;omega
 . rw[if_neg h]
   have:=Q2s (v:=val a) (by omega)
   rw[if_pos (by omega)]
theorem Qii{x y c:Nat}(hx:x<4294967296)(hy:y<4294967296)(hc:c<4294967296):
 Zc x y c=some ((x+y+c)%4294967296,(x+y+c) / 4294967296):=by
 unfold Zc
 simp only[jn_eq,bifd]
 split<;>split<;>congr 1<;>refine Prod.ext ?_ ?_<;>simp only[]<;>omega
theorem Ql4{x y c:Nat}(hx:x<4294967296)(hy:y<4294967296)(hc:c≤1):
 ∃ d b,Qfk x y c=some (d,b)∧d<4294967296∧b≤1∧d+y+c=x+4294967296*b:=by
 unfold Qfk
 simp only[jn_eq,bifd,sbind]
 split<;>split<;>refine⟨_,_,rfl,?_,?_,?_⟩<;>omega
theorem Q5b(P s x y u v V A C:Nat)(e:4294967296*u+v=x+y+s)(h:V+P*s=A+C):V+P*v+P*4294967296*u=A+P*x+(C+P*y):=by grind
theorem Q2t{k:Nat}{b:List Nat}{β:Type}(f:Nat->Option β):(if (k:Int)<(b.length:Int) then (getI b (k:Int)).bind f else f 0)=f (b.getD k 0):=by
 by_cases h:k<b.length
 . rw[if_pos (by omega),Qbe h,sbind];simp[h]
 . rw[if_neg (by omega)];simp[List.getElem?_eq_none (show b.length≤k by omega)]
theorem Q2u{n:Nat}{a b:List Nat}(hn:big≤n)(ha:a.length<17592186044416)(hl:b.length≤a.length)(hwa:Wd a)(hwb:Wd b):Qfj n a b=some (toL (val a+val b)):=by
 unfold Qfj
 simp only[jn_eq,bifd]
 rw[if_neg (by omega)]
 rw[show(1:Int)=((1:Nat):Int) by rfl,Qkr (by omega),sbind]
 refine Qj2 (λj (s:List Nat×Nat)=>∃ m1,s.1=m1++(List.drop j a++[0])∧m1.length=j∧j≤a.length∧Wd m1∧s.2≤1∧val m1+bp j*s.2=val (a.take j)+val (b.take j)) ⟨[],by simp,rfl,Nat.zero_le _,Vd,by simp,by simp[val,X5]⟩ ?_ ?_
 . rintro j y ⟨o,cy⟩ hj ⟨m1,h1,h2,h3,h4,h5,h6⟩
   simp only at h1 h5 h6
   subst h1
   have hja:j<a.length:=by
    rcases Nat.lt_or_ge j a.length with h | h
    . exact h
    . simp[List.getElem?_eq_none h] at hj
   have hy:a[j]=y:=by simpa [hja] using hj
   have hyw:y<4294967296:=by rw[←hy];exact Za hwa hja
   rw[Q2t,Qii hyw (Qhg hwb j) (by simp only[];omega),sbind,List.drop_eq_getElem_cons hja,List.cons_append,K7 h2,sbind,W6 h2]
   refine⟨_,rfl,m1++[(y+b.getD j 0+cy)%4294967296],by simp,by simp[h2],by omega,Jr.2 ⟨h4,Ju.2 ⟨by omega,Vd⟩⟩,?_,?_⟩
   . have:=Qhg hwb j
     simp only[];omega
   . rw[Wk,Wk,Kh,h2,K5]
     rw[show a.getD j 0=y by rw[←hy];simp[hja]]
     exact Q5b _ _ _ _ _ _ _ _ _ (Nat.div_add_mod (y+b.getD j 0+cy) 4294967296) h6
 . rintro⟨o,cy⟩ ⟨m1,h1,h2,h3,h4,h5,h6⟩
   simp only at h1 h5 h6
   subst h1
   simp only[Xi]
   rw[List.drop_of_length_le (Nat.le_refl _),List.nil_append,K7 h2,sbind,W6 h2,W7 hn (by simp;omega),sbind,←Jv (Jr.2 ⟨h4,Ju.2 ⟨by omega,Vd⟩⟩),Kh,h2,h6,List.take_of_length_le (Nat.le_refl _),List.take_of_length_le hl]
theorem Qr0{n:Nat}{a b:List Nat}(hn:big≤n)(ha:a.length<17592186044416)(hb:b.length<17592186044416)(hwa:Wd a)(hwb:Wd b):Qfj n a b=some (toL (val a+val b)):=by
 by_cases hl:b.length≤a.length
 . exact Q2u hn ha hl hwa hwb
 . rw[Nat.add_comm,←Q2u hn hb (by omega) hwb hwa]
   unfold Qfj
   simp only[jn_eq,bifd]
   rw[if_pos (by omega),if_neg (by omega)]
theorem Q09{n:Nat}{a b:List Nat}(hn:big≤n)(ha:a.length<17592186044410)(hb:b.length<17592186044410)(hwa:Wd a)(hwb:Wd b):Qgp n [a,b]=some (toL (val a+val b)):=by
 unfold Qgp
 have e1:=Qr0 (a:=[]) (b:=toL (val a)) hn (by simp) (by have:=Xv a;rw[Jv hwa];omega) Vd (Qy _)
 have e2:=Qr0 (a:=toL (val a)) (b:=toL (val b)) hn (by have:=Xv a;rw[Jv hwa];omega) (by have:=Xv b;rw[Jv hwb];omega) (Qy _) (Qy _)
 rw[Qo] at e1 e2
 rw[Qo] at e2
 simp only[val,Nat.zero_add] at e1
 simp only[rangeL,W7 hn (show a.length≤4611686018427387904 by omega),W7 hn (show b.length≤4611686018427387904 by omega),sbind,←Jv hwa,←Jv hwb,e1,e2,Xi]
theorem Qhh{α:Type}{l:List α}{i:Nat}{x:α}(h:l[i]?=some x):i<l.length:=by
 rcases Nat.lt_or_ge i l.length with h1 | h1
 . exact h1
 . rw[List.getElem?_eq_none h1] at h;cases h
theorem K3{x y:Nat}(h:x≤y):(toL x).length≤(toL y).length:=by
 refine Qai ?_
 have:=W2 (Qy y)
 rw[Qo] at this;omega
theorem Quq(P c c' x y d V A B:Nat)(e:d+y+c=x+4294967296*c')(h:V+B=A+P*c):V+P*d+(B+P*y)=A+P*x+P*4294967296*c':=by grind
theorem Qsz{n:Nat}{a b:List Nat}(hn:big≤n)(ha:a.length<17592186044416)(hb:b.length<17592186044416)(hwa:Wd a)(hwb:Wd b):
 Qlh n a b=some (if val a<val b then ([],false) else (toL (val a - val b),true)):=by
 unfold Qlh
 have hla:(toL (val a)).length<17592186044416:=by rw[Jv hwa];exact Nat.lt_of_le_of_lt (Xv a) ha
 have hlb:(toL (val b)).length<17592186044416:=by rw[Jv hwb];exact Nat.lt_of_le_of_lt (Xv b) hb
 rw[W7 hn (by omega),sbind,W7 hn (by omega),sbind,←Jv hwa,←Jv hwb,Qg5 hn (by omega) (by omega) (Qy _) (Qy _),sbind,Qo,Qo]
 have hva:=Qo (val a)
 have hvb:=Qo (val b)
 have hwa':=Qy (val a)
 have hwb':=Qy (val b)
 have hl:=λh=>K3 (x:=val b) (y:=val a) h
 generalize val a=x at *
 generalize val b=y at *
 generalize toL x=a' at *
 generalize toL y=b' at *
 rw[bifd]
 by_cases hxy:x<y
 . rw[if_pos (by rw[cmpI,if_pos hxy];decide),if_pos hxy]
 . rw[if_neg (by rw[cmpI,if_neg hxy];split<;>decide),if_neg hxy]
   have hl:=hl (by omega)
   simp only[jn_eq,bifd]
   rw[show(0:Int)=((0:Nat):Int) by rfl,Qkr (by omega),sbind]
   refine Qj2 (λj (s:List Nat×Nat)=>∃ m1,s.1=m1++List.drop j a'∧m1.length=j∧j≤a'.length∧Wd m1∧s.2≤1∧val m1+val (b'.take j)=val (a'.take j)+bp j*s.2) ⟨[],by simp,rfl,Nat.zero_le _,Vd,by simp,by simp[val]⟩ ?_ ?_
   . rintro j w ⟨o,cy⟩ hj ⟨m1,h1,h2,h3,h4,h5,h6⟩
     simp only at h1 h5 h6
     subst h1
     have hja:j<a'.length:=Qhh hj
     have hy:a'[j]=w:=by simpa [hja] using hj
     have hyw:w<4294967296:=by rw[←hy];exact Za hwa' hja
     obtain⟨d,c',g1,g2,g3,g4⟩:=Ql4 hyw (Qhg hwb' j) h5
     rw[Q2t,g1,sbind,List.drop_eq_getElem_cons hja,K7 h2,sbind,W6 h2]
     refine⟨_,rfl,m1++[d],by simp,by simp[h2],by omega,Jr.2 ⟨h4,Ju.2 ⟨g2,Vd⟩⟩,g3,?_⟩
     rw[Wk,Wk,Kh,h2,K5]
     rw[show a'.getD j 0=w by rw[←hy];simp[hja]]
     exact Quq _ _ _ _ _ _ _ _ _ g4 h6
   . rintro⟨o,cy⟩ ⟨m1,h1,h2,h3,h4,h5,h6⟩
     simp only at h1 h5 h6
     subst h1
     simp only[Xi]
     rw[List.take_of_length_le (Nat.le_refl _),List.take_of_length_le hl,hva,hvb] at h6
     rw[List.drop_of_length_le (Nat.le_refl _),List.append_nil,W7 hn (by omega),sbind,←Jv h4]
     have h7:cy=0:=by
      have g1:=W2 h4
      rw[h2] at g1
      rcases Nat.eq_zero_or_pos cy with h | h
      . exact h
      . have g6:bp a'.length*1≤bp a'.length*cy:=Nat.mul_le_mul_left _ h
        omega
     subst h7
     rw[Nat.mul_zero] at h6
     congr 3;omega
theorem Q1a{n:Nat}{a b:List Nat}(hn:big≤n)(ha:a.length<17592186044416)(hb:b.length<17592186044416)(hwa:Wd a)(hwb:Wd b):
 Qli n a b=some (toL (val a - val b+(val b - val a)),cmpI (val a) (val b)):=by
 unfold Qli
 rw[Qg5 hn (by omega) (by omega) hwa hwb,sbind]
 simp only[jn_eq,bifd]
 by_cases h:val a<val b
 . rw[if_pos (by rw[cmpI,if_pos h];decide),Qsz hn hb ha hwb hwa,if_neg (by omega),sbind]
   rw[show val a - val b+(val b - val a)=val b - val a by omega]
 . rw[if_neg (by rw[cmpI,if_neg h];split<;>decide),Qsz hn ha hb hwa hwb,if_neg h,sbind]
   rw[show val a - val b+(val b - val a)=val a - val b by omega]
def blen(x:Nat):Nat:=if x=0 then 0 else Nat.log2 x+1
theorem Qff:blen 0=0:=by unfold blen;rw[if_pos rfl]
theorem Qxk{x k:Nat}(h1:2 ^ k≤x)(h2:x<2 ^ (k+1)):blen x=k+1:=by
 have h0:x≠0:=by have:=Nat.two_pow_pos k;omega
 unfold blen;rw[if_neg h0,(Nat.log2_eq_iff h0).2 ⟨h1,h2⟩]
theorem Qmp{x:Nat}:x<2 ^ blen x:=by
 unfold blen
 by_cases h0:x=0
 . rw[if_pos h0,h0];decide
 . rw[if_neg h0];exact Nat.lt_log2_self
theorem Qks{x:Nat}(h0:x≠0):2 ^ (blen x - 1)≤x:=by
 unfold blen;rw[if_neg h0];exact Nat.log2_self_le h0
theorem Qrm{x:Nat}(h0:x≠0):1≤blen x:=by unfold blen;rw[if_neg h0];omega
theorem Q1b{x w:Nat}(h:x / 2 ^ w≠0):blen x=blen (x / 2 ^ w)+w:=by
 have h1:=Qks h
 have h2:=Qmp (x:=x / 2 ^ w)
 have h3:=Qrm h
 obtain⟨k,hk⟩:∃ k,blen (x / 2 ^ w)=k+1:=⟨_,(Nat.sub_add_cancel h3).symm⟩
 rw[hk,Nat.add_sub_cancel] at h1
 rw[hk] at h2 ⊢
 rw[show k+1+w=(k+w)+1 by omega]
 refine Qxk ?_ ?_
 . rw[Nat.pow_add];exact(Nat.le_div_iff_mul_le (Nat.two_pow_pos w)).1 h1
 . rw[show k+w+1=(k+1)+w by omega,Nat.pow_add];exact(Nat.div_lt_iff_lt_mul (Nat.two_pow_pos w)).1 h2
theorem Qr1{n x:Nat}(hn:big≤n)(hx:x<4294967296):Qha n x=some (blen x:Int):=by
 unfold Qha
 unfold big at hn
 refine Y9 (λs=>s.2.2.toNat) (λs=>∃(w k B:Nat),s.2.2=w∧s.2.1=k∧(w,B)∈[(16,4294967296),(8,65536),(4,256),(2,16),(1,4),(0,2)]∧s.1<B∧k+2*w≤32∧blen x=k+blen s.1)
  (λt=>∃ k:Nat,t.2=k∧k≤32∧t.1<2∧blen x=k+blen t.1) ⟨16,0,4294967296,rfl,rfl,by decide,hx,by decide,by simp⟩ (by simp only[];omega) ?_ ?_
 . rintro⟨y,c,w'⟩ ⟨w,k,B,h1,h2,h3,h4,h5,h6⟩
   simp only at h1 h2 h4 h6
   subst h1 h2
   simp only[jn_eq,bifd,bifnd]
   by_cases h0:0<w
   . left
     rw[if_pos (by omega),grd_t (by simp),sbind,sbind,Int.toNat_natCast]
     have hw:w≤16:=by omega
     have hd:Int.tdiv (w:Int) 2=((w / 2:Nat):Int):=by rfl
     rw[hd,Nat.min_eq_left (by omega),w64 (x:=((w / 2:Nat):Int)) (by omega) (by omega),w64 (by omega) (by omega)]
     have hB:∃ B',(w / 2,B')∈[(16,4294967296),(8,65536),(4,256),(2,16),(1,4),(0,2)]∧B'*2 ^ w=B∧(2 ^ w≤B'):=by
      simp only[List.mem_cons,List.not_mem_nil,or_false,Prod.mk.injEq] at h3
      rcases h3 with ⟨rfl,rfl⟩ | ⟨rfl,rfl⟩ | ⟨rfl,rfl⟩ | ⟨rfl,rfl⟩ | ⟨rfl,rfl⟩ | ⟨rfl,rfl⟩
      . exact⟨65536,by decide,by decide,by decide⟩
      . exact⟨256,by decide,by decide,by decide⟩
      . exact⟨16,by decide,by decide,by decide⟩
      . exact⟨4,by decide,by decide,by decide⟩
      . exact⟨2,by decide,by decide,by decide⟩
      . omega
     obtain⟨B',g1,g2,g3⟩:=hB
     by_cases hz:y / 2 ^ w=0
     . rw[if_pos hz]
       refine⟨_,rfl,⟨w / 2,k,B',rfl,rfl,g1,?_,by omega,h6⟩,by simp only[];omega⟩
       have:=(Nat.div_eq_zero_iff_lt (Nat.two_pow_pos w)).1 hz
       exact Nat.lt_of_lt_of_le this g3
     . rw[if_neg hz]
       refine⟨_,rfl,⟨w / 2,k+w,B',rfl,by simp only[];omega,g1,?_,by omega,?_⟩,by simp only[];omega⟩
       . rw[←g2] at h4;exact(Nat.div_lt_iff_lt_mul (Nat.two_pow_pos w)).2 h4
       . rw[h6,Q1b hz];simp only[];omega
   . right
     obtain rfl:w=0:=by omega
     rw[if_neg (by omega)]
     simp only[List.mem_cons,List.not_mem_nil,or_false,Prod.mk.injEq] at h3
     refine⟨_,rfl,k,rfl,by omega,by simp only[];omega,h6⟩
 . rintro⟨y,c⟩ ⟨k,h1,h2,h3,h4⟩
   simp only at h1 h3 h4
   subst h1
   rw[h4,w64 (by simp only[];omega) (by simp only[];omega)]
   have:blen y=y:=by
    have:y=0∨y=1:=by omega
    rcases this with rfl | rfl
    . rw[Qff]
    . exact Qxk (k:=0) (by decide) (by decide)
   rw[this];simp
theorem Qib(k:Nat):bp k=2 ^ (32*k):=by unfold bp;rw[Nat.pow_mul]
theorem Qur{v:Nat}(h:toL v≠[]):∃ p x,toL v=p++[x]∧x≠0∧x<4294967296∧Wd p:=by
 have hw:=Qy v
 rcases List.eq_nil_or_concat (toL v) with h0 | ⟨p,x,h1⟩
 . exact absurd h0 h
 . rw[List.concat_eq_append] at h1
   refine⟨p,x,h1,?_,?_,?_⟩
   . rintro rfl
     have h2:=Q48 v
     rw[h1,Qpv] at h2
     have:=Xv p
     rw[h2] at this;simp at this;omega
   . rw[h1] at hw;exact(Ju.1 (Jr.1 hw).2).1
   . rw[h1] at hw;exact(Jr.1 hw).1
theorem Q5c{p:List Nat}{x:Nat}(hp:Wd p)(hx:x≠0):blen (val (p++[x]))=32*p.length+blen x:=by
 have hl:=W2 hp
 have hd:val (p++[x]) / 2 ^ (32*p.length)=x:=by
  rw[←Qib,Kh,Nat.add_mul_div_left _ _ (Q47 _),Nat.div_eq_of_lt hl,Nat.zero_add]
 rw[Q1b (w:=32*p.length) (by rw[hd];exact hx),hd,Nat.add_comm]
theorem Qr2{n:Nat}{a:List Nat}(hn:big≤n)(ha:a.length<17592186044416)(hw:Wd a):Qd0 n a=some (blen (val a):Int):=by
 unfold Qd0
 rw[Wi hn (by omega),sbind,←Jv hw,bifd]
 have hl:(toL (val a)).length<17592186044416:=by rw[Jv hw];exact Nat.lt_of_le_of_lt (Xv a) ha
 by_cases h:toL (val a)=[]
 . rw[if_pos (by rw[h];rfl)]
   rw[Jv hw] at h
   rw[Qyr h,Qff];rfl
 . rw[if_neg (by intro h';exact h (List.eq_nil_of_length_eq_zero (by omega)))]
   obtain⟨p,x,h1,h2,h3,h4⟩:=Qur h
   have hv:val a=val (p++[x]):=by rw[←h1,Qo]
   rw[hv,Q5c h4 h2]
   rw[hv] at h1 hl
   rw[h1] at hl
   rw[h1,List.length_append,List.length_singleton] at *
   rw[w64 (x:=((p.length+1:Nat):Int) - 1) (by omega) (by omega),show((p.length+1:Nat):Int) - 1=(p.length:Nat) by omega,K7 rfl,sbind,Qr1 hn h3,sbind,sbind]
   have hb:blen x≤32:=by
    rcases Nat.lt_or_ge 32 (blen x) with h | h
    . have g1:=Qks h2
      have g2:2 ^ 32≤2 ^ (blen x - 1):=Nat.pow_le_pow_right (by decide) (by omega)
      rw[show(2:Nat) ^ 32=4294967296 by decide] at g2
      omega
    . exact h
   rw[w64 (x:=32*(p.length:Int)) (by omega) (by omega),w64 (by omega) (by omega)]
   congr 1
theorem Q5d(P M R x A B m V:Nat)(h1:V=M+P*m)(h2:R=m+x*A+0)(h3:V=A*B):M+P*R=A*(B+P*x):=by grind
theorem Qdm{n:Nat}{a b:List Nat}(hn:big≤n)(ha:a.length<8796093022208)(hb:b.length<8796093022208)(hwa:Wd a)(hwb:Wd b):Qad n a b=some (toL (val a*val b)):=by
 unfold Qad
 rw[w64 (x:=(a.length:Int)+(b.length:Int)) (by omega) (by omega),w64 (by omega) (by omega),show((a.length:Int)+(b.length:Int))+1=((a.length+b.length+1:Nat):Int) by omega,Qfc (by omega) (by omega),sbind]
 refine Qj2 (λj (s:List Nat)=>∃ m1,s=m1++List.replicate (b.length+1 - j) 0∧m1.length=j+a.length∧j≤b.length∧Wd m1∧val m1=val a*val (b.take j)) ⟨List.replicate a.length 0,by rw[List.replicate_append_replicate];congr 1,by simp,Nat.zero_le _,Qj3 (by omega),by simp[val,Qei]⟩ ?_ ?_
 . rintro j x o hj ⟨m1,h1,h2,h3,h4,h5⟩
   subst h1
   have hjb:j<b.length:=Qhh hj
   have hx:b[j]=x:=by simpa [hjb] using hj
   have hxw:x<4294967296:=by rw[←hx];exact Za hwb hjb
   obtain⟨r,g1,g2,g3,g4⟩:=Qzm (p:=m1.take j) (m:=m1.drop j) (q:=List.replicate (b.length - j) 0) (a:=a) (z:=0) (x:=x) (c:=0) (by simp;omega) (by simp;omega) (Qi5 h4) hwa hxw (by omega)
   have hpj:(m1.take j).length=j:=by simp;omega
   rw[hpj,List.take_append_drop] at g1
   rw[show b.length+1 - j=(b.length - j)+1 by omega,List.replicate_succ,g1,sbind]
   refine⟨_,rfl,m1.take j++r,by rw[show b.length+1 - (j+1)=b.length - j by omega],by simp;omega,by omega,Jr.2 ⟨Qmo h4,g3⟩,?_⟩
   have hv:val m1=val (m1.take j)+bp j*val (m1.drop j):=by
    conv=>lhs;rw[←List.take_append_drop j m1]
    rw[Wq,hpj]
   rw[Wq,hpj,Wk,show b.getD j 0=x by rw[←hx];simp[hjb]]
   exact Q5d _ _ _ _ _ _ _ _ hv g4 h5
 . rintro o ⟨m1,h1,h2,h3,h4,h5⟩
   subst h1
   simp only[Xi]
   rw[Wi hn (by simp;omega),sbind,←Jv (Jr.2 ⟨h4,Qj3 (by omega)⟩),Wq,Qei,Nat.mul_zero,Nat.add_zero,h5,List.take_of_length_le (Nat.le_refl _)]
theorem lo_eq{x r:Nat}(hr:r≤32):(x*2 ^ r)%4294967296=(x%2 ^ (32 - r))*2 ^ r:=by
 rw[show(4294967296:Nat)=2 ^ (32 - r)*2 ^ r by rw[←Nat.pow_add,show 32 - r+r=32 by omega],Nat.mul_mod_mul_right]
theorem or_lo{c x r:Nat}(hr:r≤32)(hc:c<2 ^ r):c ||| (x*2 ^ r)%4294967296=c+(x*2 ^ r)%4294967296:=by
 rw[lo_eq hr,Nat.or_comm,Nat.mul_comm,←Nat.two_pow_add_eq_or_of_lt hc,Nat.add_comm]
theorem hi_lt{x r:Nat}(hx:x<4294967296):(x*2 ^ r) / 4294967296<2 ^ r:=
 Nat.div_lt_of_lt_mul (Nat.mul_lt_mul_of_pos_right hx (Nat.two_pow_pos r))
theorem Qrn{r:Nat}(hr:r≤32):2 ^ r≤4294967296:=by have h:2 ^ r≤2 ^ 32:=Nat.pow_le_pow_right (by decide) hr;rwa [show(2:Nat) ^ 32=4294967296 by rfl] at h
theorem sh_lt{x r:Nat}(hr:r≤32)(hx:x<4294967296):x*2 ^ r<18446744073709551616:=by
 have h:=Qrn hr
 have:x*2 ^ r≤4294967295*4294967296:=Nat.mul_le_mul (by omega) h
 omega
theorem Q76(P c V A R x lo hi:Nat)(e:4294967296*hi+lo=x*R)(h:V+P*c=A*R):V+P*(c+lo)+P*4294967296*hi=(A+P*x)*R:=by grind
theorem Qs0{n k:Nat}{a:List Nat}(hn:big≤n)(ha:a.length<8796093022208)(hw:Wd a)(hk:k≤4096):Qgq n a (k:Int)=some (toL (val a*2 ^ k)):=by
 unfold Qgq
 rw[show min (max (k:Int) 0) 4096=(k:Int) by omega]
 rw[show Int.tdiv (k:Int) 32=((k / 32:Nat):Int) by rfl,show Int.tmod (k:Int) 32=((k%32:Nat):Int) by rfl]
 have hp:2 ^ k=bp (k / 32)*2 ^ (k%32):=by rw[Qib,←Nat.pow_add,Nat.div_add_mod]
 have hwk:k / 32≤128:=by omega
 have hr:k%32≤31:=by omega
 rw[hp]
 generalize k / 32=w at *
 generalize k%32=r at *
 rw[w64 (x:=(w:Int)) (by omega) (by omega),sbind,w64 (x:=(w:Int)+(a.length:Int)) (by omega) (by omega),w64 (by omega) (by omega),show(w:Int)+(a.length:Int)+1=((w+a.length+1:Nat):Int) by omega,Qfc (by omega) (by omega),sbind]
 refine Qj2 (λj (s:List Nat)=>∃ m1 c,s=(List.replicate w 0++m1)++c::List.replicate (a.length - j) 0∧m1.length=j∧j≤a.length∧Wd m1∧c<2 ^ r∧val m1+bp j*c=val (a.take j)*2 ^ r) ⟨[],0,by rw[List.append_nil,←List.replicate_succ,List.replicate_append_replicate];congr 1,rfl,Nat.zero_le _,Vd,Nat.two_pow_pos r,by simp[val]⟩ ?_ ?_
 . rintro j x s hj ⟨m1,c,h1,h2,h3,h4,h5,h6⟩
   subst h1
   have hja:j<a.length:=Qhh hj
   have hx:a[j]=x:=by simpa [hja] using hj
   have hxw:x<4294967296:=by rw[←hx];exact Za hw hja
   have hlen:(List.replicate w 0++m1).length=w+j:=by simp;omega
   have g1:=sh_lt (r:=r) (by omega) hxw
   have g2:=hi_lt (r:=r) hxw
   have g3:=Qrn (r:=r) (by omega)
   have g4:=or_lo (x:=x) (show r≤32 by omega) h5
   rw[grd_t (by simp),sbind,Int.toNat_natCast,Nat.min_eq_left (by omega),Nat.mod_eq_of_lt g1,sbind,w64 (x:=(w:Int)+(j:Int)) (by omega) (by omega),sbind,show(w:Int)+(j:Int)=((w+j:Nat):Int) by omega]
   rw[K7 hlen,sbind,sbind,sbind,W6 hlen,g4,show(2:Nat) ^ 32=4294967296 by rfl,Nat.mod_eq_of_lt (show x*2 ^ r / 4294967296<4294967296 by omega)]
   obtain⟨d,hd⟩:∃ d,a.length - j=d+1:=⟨a.length - j - 1,by omega⟩
   rw[w64 (by omega) (by omega),show((w+j:Nat):Int)+1=((w+j+1:Nat):Int) by omega,hd,List.replicate_succ]
   rw[show ∀(y:Nat) (l:List Nat),List.replicate w 0++m1++y::l=(List.replicate w 0++(m1++[y]))++l by intro y l;simp]
   have hlen2:(List.replicate w 0++(m1++[c+x*2 ^ r%4294967296])).length=w+j+1:=by simp;omega
   rw[K7 hlen2,sbind,W6 hlen2,sbind]
   refine⟨_,rfl,m1++[c+x*2 ^ r%4294967296],x*2 ^ r / 4294967296,by rw[show a.length - (j+1)=d by omega],by simp[h2],by omega,Jr.2 ⟨h4,Ju.2 ⟨?_,Vd⟩⟩,g2,?_⟩
   . rw[lo_eq (by omega)]
     have e1:x%2 ^ (32 - r)+1≤2 ^ (32 - r):=Nat.mod_lt _ (Nat.two_pow_pos _)
     have e2:=Nat.mul_le_mul_right (2 ^ r) e1
     rw[←Nat.pow_add,show 32 - r+r=32 by omega,show(2:Nat) ^ 32=4294967296 by rfl,Nat.add_mul,Nat.one_mul] at e2
     omega
   . rw[Wk,Kh,h2,K5,show a.getD j 0=x by rw[←hx];simp[hja]]
     exact Q76 _ _ _ _ _ _ _ _ (Nat.div_add_mod (x*2 ^ r) 4294967296) h6
 . rintro s ⟨m1,c,h1,h2,h3,h4,h5,h6⟩
   subst h1
   simp only[Xi]
   have g3:=Qrn (r:=r) (by omega)
   rw[Wi hn (by simp;omega),sbind,←Jv (Jr.2 ⟨Jr.2 ⟨Qj3 (by omega),h4⟩,Ju.2 ⟨by omega,Qj3 (by omega)⟩⟩)]
   rw[List.append_assoc,Wq,Qei,List.length_replicate,Nat.zero_add,Wq]
   simp only[val]
   rw[Qei,h2,Nat.mul_zero,Nat.add_zero,h6,List.take_of_length_le (Nat.le_refl _),Nat.mul_left_comm]
theorem Qok{a:List Nat}(hw:Wd a)(k:Nat):val a / bp k=val (a.drop k):=by
 rcases Nat.lt_or_ge k a.length with h | h
 . have h1:val a=val (a.take k)+bp k*val (a.drop k):=by
    conv=>lhs;rw[←List.take_append_drop k a]
    rw[Wq,List.length_take,Nat.min_eq_left (by omega)]
   have h2:=W2 (Qmo (k:=k) hw)
   rw[List.length_take,Nat.min_eq_left (by omega)] at h2
   rw[h1,Nat.add_mul_div_left _ _ (Q47 k),Nat.div_eq_of_lt h2,Nat.zero_add]
 . rw[List.drop_of_length_le h]
   exact Nat.div_eq_of_lt (Nat.lt_of_lt_of_le (W2 hw) (bp_le h))
theorem Q5e{a:List Nat}{k:Nat}(h:k<a.length):val (a.drop k)=a[k]+4294967296*(a.getD (k+1) 0+4294967296*val (a.drop (k+2))):=by
 rw[List.drop_eq_getElem_cons h]
 simp only[val]
 by_cases h2:k+1<a.length
 . rw[List.drop_eq_getElem_cons h2];simp[val,h2]
 . rw[List.drop_of_length_le (by omega),List.drop_of_length_le (by omega)];simp[List.getElem?_eq_none (show a.length≤k+1 by omega),val]
theorem Q6q{v z r:Nat}(hr:r≤32):((v+4294967296*4294967296*z) / 2 ^ r)%4294967296=(v / 2 ^ r)%4294967296:=by
 rw[show 4294967296*4294967296*z=2 ^ r*(4294967296*(2 ^ (32 - r)*z)) by
  have:2 ^ r*2 ^ (32 - r)=4294967296:=by rw[←Nat.pow_add,show r+(32 - r)=32 by omega]
  calc 4294967296*4294967296*z=(2 ^ r*2 ^ (32 - r))*4294967296*z:=by rw[this]
   _=_:=by grind]
 rw[Nat.add_mul_div_left _ _ (Nat.two_pow_pos r),Nat.add_mul_mod_self_left]
theorem Q6r{k:Nat}{b:List Nat}{x:Nat}{β:Type}(f:Nat->Option β)(hb:Wd b)(hx:x<4294967296):(if ((k:Nat):Int)<(b.length:Int) then (getI b (k:Int)).bind (λy=>f (x ||| (y*2 ^ 32)%18446744073709551616)) else f x)=f (x+4294967296*b.getD k 0):=by
 by_cases h:k<b.length
 . rw[if_pos (by omega),Qbe h,sbind]
   have hy:=Za hb h
   rw[show(2:Nat) ^ 32=4294967296 by rfl,Nat.mod_eq_of_lt (by omega),Nat.or_comm,Qxi hx,Nat.mul_comm,Nat.add_comm]
   simp[h]
 . rw[if_neg (by omega)];simp[List.getElem?_eq_none (show b.length≤k by omega)]
theorem Q6s(X P:Nat):X%P+P*(X / P%4294967296)=X%(P*4294967296):=by
 rw[Nat.mod_mul]
theorem Qxl{n k:Nat}{a:List Nat}(hn:big≤n)(ha:a.length<8796093022208)(hw:Wd a)(hk:k≤4611686018427387904):Qh0 n a (k:Int)=some (toL (val a / 2 ^ k)):=by
 unfold Qh0
 rw[show max (k:Int) 0=(k:Int) by omega]
 rw[show Int.tdiv (k:Int) 32=((k / 32:Nat):Int) by rfl,show Int.tmod (k:Int) 32=((k%32:Nat):Int) by rfl]
 have hp:2 ^ k=bp (k / 32)*2 ^ (k%32):=by rw[Qib,←Nat.pow_add,Nat.div_add_mod]
 have hr:k%32≤31:=by omega
 have hwk:k / 32≤4611686018427387904:=by omega
 rw[hp]
 generalize k / 32=w at *
 generalize k%32=r at *
 rw[←Nat.div_div_eq_div_mul,Qok hw]
 rw[w64 (x:=(w:Int)) (by omega) (by omega),sbind,bifd]
 by_cases hle:a.length≤w
 . rw[if_pos (by omega),List.drop_of_length_le hle];simp[val,V5]
 . rw[if_neg (by omega),w64 (x:=(a.length:Int) - (w:Int)) (by omega) (by omega),sbind,show(a.length:Int) - (w:Int)=((a.length - w:Nat):Int) by omega,Qfc (by omega) (by omega),sbind]
   refine Qj2 (λj (s:List Nat)=>∃ m1,s=m1++List.replicate (a.length - w - j) 0∧m1.length=j∧Wd m1∧val m1=(val (a.drop w) / 2 ^ r)%bp j) ⟨[],by simp,rfl,Vd,by simp[val,X5,Nat.mod_one]⟩ ?_ ?_
   . rintro j x s hj ⟨m1,h1,h2,h3,h4⟩
     subst h1
     have hja:j<a.length - w:=by have:=Qhh hj;simpa using this
     have hwj:w+j<a.length:=by omega
     simp only[jn_eq,bifd]
     rw[w64 (x:=(w:Int)+(j:Int)) (by omega) (by omega),show(w:Int)+(j:Int)=((w+j:Nat):Int) by omega,sbind,Qbe hwj,sbind,sbind,w64 (x:=((w+j:Nat):Int)+1) (by omega) (by omega),show((w+j:Nat):Int)+1=((w+j+1:Nat):Int) by omega]
     simp only[sbind]
     rw[w64 (x:=((w+j:Nat):Int)+1) (by omega) (by omega),show((w+j:Nat):Int)+1=((w+j+1:Nat):Int) by omega]
     rw[Q6r (β:=Lp (List Nat) (List Nat)) (λ(v:Nat)=>(grd (decide (0≤(r:Int)))).bind λ_=>(getI (m1++List.replicate (a.length - w - j) 0) (j:Int)).bind λ_=>some (Lp.go (List.set (m1++List.replicate (a.length - w - j) 0) (Int.toNat (j:Int)) (v / 2 ^ (min (Int.toNat (r:Int)) 64)%4294967296)))) hw (Za hw hwj)]
     rw[grd_t (by simp),sbind,Int.toNat_natCast (n:=r),Nat.min_eq_left (by omega)]
     obtain⟨d,hd⟩:∃ d,a.length - w - j=d+1:=⟨a.length - w - j - 1,by omega⟩
     rw[hd,List.replicate_succ,K7 h2,sbind,W6 h2]
     refine⟨_,rfl,m1++[(a[w+j]+4294967296*a.getD (w+j+1) 0) / 2 ^ r%4294967296],by rw[show a.length - w - (j+1)=d by omega];simp,by simp[h2],Jr.2 ⟨h3,Ju.2 ⟨by omega,Vd⟩⟩,?_⟩
     rw[Kh,h2,K5,←Q6s,h4,Nat.div_div_eq_div_mul (val (a.drop w)),Nat.mul_comm (2 ^ r) (bp j),←Nat.div_div_eq_div_mul (val (a.drop w)),Qok (Qi5 hw),List.drop_drop,Q5e hwj,Nat.mul_add,←Nat.add_assoc,←Nat.mul_assoc,Q6q (by omega)]
   . rintro s ⟨m1,h1,h2,h3,h4⟩
     subst h1
     simp only[Xi]
     rw[List.length_replicate] at h2 h4
     rw[List.length_replicate,Nat.sub_self,List.replicate_zero,List.append_nil,Wi hn (by omega),sbind,←Jv h3,h4,Nat.mod_eq_of_lt]
     have:=W2 (Qi5 (k:=w) hw)
     rw[List.length_drop] at this
     exact Nat.lt_of_le_of_lt (Nat.div_le_self _ _) this
theorem Q2v{q r x0 x1 x2 x3 x4:Nat}(h1:q*x3+r=x0*4294967296+x1)(h2:q*x4≤r*4294967296+x2):q*(x3*4294967296+x4)≤(x0*4294967296+x1)*4294967296+x2:=by
 rw[←h1];grind
theorem Q77{q r x0 x1 x2 x3 x4:Nat}(h1:(q+1)*x3+r=x0*4294967296+x1)(h2:r*4294967296+x2<(q+1)*x4):(x0*4294967296+x1)*4294967296+x2<(q+1)*(x3*4294967296+x4):=by
 rw[←h1];grind
theorem Q78{q r x3:Nat}{U:Nat}(h1:(q+1)*x3+r=U):q*x3+(r+x3)=U:=by rw[←h1];grind
theorem Q2w{q r x0 x1 x2 x3 x4:Nat}(h1:q*x3+r=x0*4294967296+x1)(hr:4294967296≤r)(hq:q<4294967296)(h4:x4<4294967296):q*(x3*4294967296+x4)≤(x0*4294967296+x1)*4294967296+x2:=by
 have e1:q*x4≤4294967295*4294967295:=Nat.mul_le_mul (by omega) (by omega)
 exact Q2v h1 (by omega)
theorem Q90{X u w x2:Nat}(h:X<u)(h2:x2<4294967296):X*4294967296+x2<u*4294967296+w:=by omega
theorem Q91{q x0 x1 x2 x3 x4:Nat}(h:x0*4294967296+x1<(q+1)*x3)(h2:x2<4294967296):(x0*4294967296+x1)*4294967296+x2<(q+1)*(x3*4294967296+x4):=by
 have e2:(q+1)*(x3*4294967296+x4)=((q+1)*x3)*4294967296+(q+1)*x4:=by rw[Nat.mul_add,Nat.mul_assoc]
 rw[e2]
 exact Q90 h h2
theorem Qvy{n q0 r0 x0 x1 x2 x3 x4:Nat}(hn:big≤n)(h2:x2<4294967296)(h3:x3<4294967296)(h4:x4<4294967296)(hq:q0<4294967296)(hr:r0<4294967296)
 (he:q0*x3+r0=x0*4294967296+x1) (hm:q0+1=4294967296∨(x0*4294967296+x1)*4294967296+x2<(q0+1)*(x3*4294967296+x4)) :
 ∃ q,(loopM (λ(s34:Nat×Nat)=>
   (Qcm s34.1 x4 0 0).bind λr35=>
   jn (λ(j37:(Bool)->Option _)=>
    bif decide (r35.1<s34.2) then (
     j37 true)
    else (
     bif decide (r35.1=s34.2) then (
      j37 (decide (r35.2≤x2)))
     else (
      j37 false))) (λ(s39:Bool)=>
    bif s39 then (
     some (Lp.out s34.1))
    else (
     (Zc s34.2 x3 0).bind λr40=>
     bif decide (0<r40.2) then (
      some (Lp.out ((s34.1+4294967296 - 1)%4294967296)))
     else (
      some (Lp.go (((s34.1+4294967296 - 1)%4294967296),r40.1)))))) n (q0,r0)).bind (λ(t32:Nat)=>some t32)=some q ∧
   (q<4294967296∧q*(x3*4294967296+x4)≤(x0*4294967296+x1)*4294967296+x2∧(q+1=4294967296∨(x0*4294967296+x1)*4294967296+x2<(q+1)*(x3*4294967296+x4))):=by
 unfold big at hn
 refine Qd7 (λs=>s.1) (λs=>s.1<4294967296∧s.2<4294967296∧s.1*x3+s.2=x0*4294967296+x1∧(s.1+1=4294967296∨(x0*4294967296+x1)*4294967296+x2<(s.1+1)*(x3*4294967296+x4)))
  (λq=>q<4294967296∧q*(x3*4294967296+x4)≤(x0*4294967296+x1)*4294967296+x2∧(q+1=4294967296∨(x0*4294967296+x1)*4294967296+x2<(q+1)*(x3*4294967296+x4))) ⟨hq,hr,he,hm⟩ (by simp only[];omega) ?_ (λt ht=>⟨t,rfl,ht⟩)
 rintro⟨q,r⟩ ⟨g1,g2,g3,g4⟩
 simp only at g1 g2 g3 g4
 simp only[jn_eq,bifd]
 rw[Ql3 g1 h4 (by omega) (by omega),sbind]
 simp only[Nat.add_zero]
 have key:(bif decide (q*x4≤r*4294967296+x2) then some (Lp.out q) else
  (Zc r x3 0).bind λr40=>if 0<r40.2 then some (Lp.out ((q+4294967296 - 1)%4294967296)) else some (Lp.go ((q+4294967296 - 1)%4294967296,r40.1)):Option (Lp (Nat×Nat) Nat)) =
  (if q*x4 / 4294967296<r then bif true then some (Lp.out q) else
   (Zc r x3 0).bind λr40=>if 0<r40.2 then some (Lp.out ((q+4294967296 - 1)%4294967296)) else some (Lp.go ((q+4294967296 - 1)%4294967296,r40.1))
   else if q*x4 / 4294967296=r then if q*x4%4294967296≤x2 then some (Lp.out q) else
    (Zc r x3 0).bind λr40=>if 0<r40.2 then some (Lp.out ((q+4294967296 - 1)%4294967296)) else some (Lp.go ((q+4294967296 - 1)%4294967296,r40.1))
   else bif false then some (Lp.out q) else
    (Zc r x3 0).bind λr40=>if 0<r40.2 then some (Lp.out ((q+4294967296 - 1)%4294967296)) else some (Lp.go ((q+4294967296 - 1)%4294967296,r40.1))):=by
  have hd:=Nat.div_add_mod (q*x4) 4294967296
  have hm:=Nat.mod_lt (q*x4) (show 4294967296 > 0 by decide)
  by_cases c1:q*x4 / 4294967296<r
  . rw[if_pos c1,decide_eq_true (by omega)]
  . rw[if_neg c1]
    by_cases c2:q*x4 / 4294967296=r
    . rw[if_pos c2,←bifd];congr 1;exact decide_eq_decide.2 (by omega)
    . rw[if_neg c2,decide_eq_false (by omega)]
 rw[←key,bifd]
 by_cases hs:q*x4≤r*4294967296+x2
 . right
   rw[if_pos hs]
   exact⟨q,rfl,g1,Q2v g3 hs,g4⟩
 . rw[if_neg hs,Qii g2 h3 (by omega),sbind]
   obtain⟨q',rfl⟩:∃ q',q=q'+1:=⟨q - 1,by
    have:q≠0:=by rintro rfl;simp at hs
    omega⟩
   have hq':(q'+1+4294967296 - 1)%4294967296=q':=by omega
   have hnx:=Q77 (x2:=x2) (x4:=x4) g3 (by omega)
   have hdn:=Q78 g3
   simp only[Nat.add_zero]
   rw[hq']
   by_cases ho:0<(r+x3) / 4294967296
   . right
     rw[if_pos ho]
     exact⟨q',rfl,by omega,Q2w hdn (by omega) (by omega) h4,.inr hnx⟩
   . left
     rw[if_neg ho]
     refine⟨_,rfl,⟨by simp only[];omega,by simp only[];omega,?_,.inr hnx⟩,by simp only[];omega⟩
     simp only[]
     rw[Nat.mod_eq_of_lt (by omega)];exact hdn
theorem Qvz{n x0 x1 x2 x3 x4:Nat}(hn:big≤n)(h0:x0≤x3)(h1:x1<4294967296)(h2:x2<4294967296)(h3:x3<4294967296)(h4:x4<4294967296)(hz:x3≠0):
 ∃ q,Qet n x0 x1 x2 x3 x4=some q∧(q<4294967296∧q*(x3*4294967296+x4)≤(x0*4294967296+x1)*4294967296+x2∧(q+1=4294967296∨(x0*4294967296+x1)*4294967296+x2<(q+1)*(x3*4294967296+x4))):=by
 unfold Qet
 by_cases hlt:x0<x3
 . rw[Qrz hlt h1 h3,sbind]
   have hq:(x0*4294967296+x1) / x3<4294967296:=Nat.div_lt_of_lt_mul (by
    have:x0*4294967296+4294967296≤x3*4294967296:=by omega
    omega)
   have hr:(x0*4294967296+x1)%x3<x3:=Nat.mod_lt _ (by omega)
   exact Qvy hn h2 h3 h4 hq (Nat.lt_trans hr h3) (by rw[Nat.mul_comm];exact Nat.div_add_mod _ _) (.inr (Q91 ((Nat.div_lt_iff_lt_mul (by omega)).1 (Nat.lt_succ_self _)) h2))
 . obtain rfl:x0=x3:=by omega
   rw[show Qdy x0 x1 x0=some (0,0,false) by unfold Qdy;rw[bifd,if_pos (by omega)],sbind]
   rw[jn_eq]
   simp only[Bool.not_false,bifT]
   rw[Qii h1 h3 (by omega),sbind,jn_eq,bifd,if_neg (by omega)]
   simp only[Nat.add_zero]
   rw[bifd]
   have he:4294967295*x0+(x1+x0)=x0*4294967296+x1:=by omega
   by_cases ho:0<(x1+x0) / 4294967296
   . rw[if_pos ho]
     exact⟨_,rfl,by omega,Q2w he (by omega) (by omega) h4,.inl rfl⟩
   . rw[if_neg ho,Nat.mod_eq_of_lt (by omega)]
     exact Qvy hn h2 h3 h4 (by omega) (by omega) he (.inl rfl)
theorem Qys(P M c b d lo hi b' q y u V W:Nat)(e1:4294967296*hi+lo=q*y+c)(e2:d+lo+b=u+4294967296*b')(h:W+q*V=M+P*(c+b)):W+P*d+q*(V+P*y)=M+P*u+P*4294967296*(hi+b'):=by
 have e3:P*d+P*lo+P*b=P*u+P*4294967296*b':=by rw[←Nat.mul_add,←Nat.mul_add,e2];grind
 have e4:P*4294967296*hi+P*lo=P*(q*y)+P*c:=by rw[←Nat.mul_add,←e1];grind
 grind
theorem Qxm{p m q' v:List Nat}{z q:Nat}(hm:m.length=v.length)(hp:p.length+m.length+1+q'.length≤4611686018427387904)(hwm:Wd m)(hwv:Wd v)(hz:z<4294967296)(hq:q<4294967296):
 ∃ r b,Qcv (p++m++z::q') (p.length:Int) v q=some (decide (0<b),p++r++q')∧r.length=v.length+1∧Wd r∧b≤1∧val r+q*val v=val (m++[z])+bp (v.length+1)*b:=by
 have key:∃ R,Qcv (p++m++z::q') (p.length:Int) v q=some R∧∃ r b,R=(decide (0<b),p++r++q')∧r.length=v.length+1∧Wd r∧b≤1∧val r+q*val v=val (m++[z])+bp (v.length+1)*b:=by
  unfold Qcv
  refine Qpu (λj (s:List Nat×Nat×Nat)=>∃ m1,s.1=p++m1++(m.drop j++z::q')∧m1.length=j∧j≤v.length∧Wd m1∧s.2.1<4294967296∧s.2.2≤1∧val m1+q*val (v.take j)=val (m.take j)+bp j*(s.2.1+s.2.2)) ⟨[],by simp,rfl,Nat.zero_le _,Vd,by simp,by simp,by simp[val]⟩ ?_ ?_
  . rintro j y ⟨o,c,b⟩ hj ⟨m1,h1,h2,h3,h4,h5,h6,h7⟩
    simp only at h1 h5 h6 h7
    subst h1
    have hjv:j<v.length:=Qhh hj
    have hy:v[j]=y:=by simpa [hjv] using hj
    have hyw:y<4294967296:=by rw[←hy];exact Za hwv hjv
    have hmj:j<m.length:=by omega
    have hmw:=Za hwm hmj
    have hlen:(p++m1).length=p.length+j:=by simp;omega
    have hmul:=Qrl hq hyw h5 (show 0<4294967296 by omega)
    obtain⟨d,b',g1,g2,g3,g4⟩:=Ql4 (x:=m[j]) (y:=(q*y+c+0)%4294967296) (c:=b) hmw (by omega) h6
    rw[Ql3 hq hyw h5 (by omega),sbind,w64 (by omega) (by omega),show((p.length:Int)+(j:Int))=((p.length+j:Nat):Int) by omega,List.drop_eq_getElem_cons hmj,List.cons_append]
    simp only[]
    rw[K7 hlen,sbind,g1,sbind,sbind,W6 hlen]
    refine⟨_,rfl,m1++[d],by simp,by simp[h2],by omega,Jr.2 ⟨h4,Ju.2 ⟨g2,Vd⟩⟩,by simp only[];omega,g3,?_⟩
    simp only[]
    rw[Wk,Kv hmj,Kh,Kh,h2,K5,show v.getD j 0=y by rw[←hy];simp[hjv],List.length_take,Nat.min_eq_left (by omega)]
    exact Qys _ _ _ _ _ _ _ _ _ _ _ _ _ (Nat.div_add_mod (q*y+c) 4294967296) g4 h7
  . rintro⟨o,c,b⟩ ⟨m1,h1,h2,h3,h4,h5,h6,h7⟩
    simp only at h1 h5 h6 h7
    subst h1
    simp only[Xi]
    have hlen:(p++m1).length=p.length+v.length:=by simp;omega
    obtain⟨d,b',g1,g2,g3,g4⟩:=Ql4 (x:=z) (y:=c) (c:=b) hz h5 h6
    rw[w64 (by omega) (by omega),show((p.length:Int)+(v.length:Int))=((p.length+v.length:Nat):Int) by omega,List.drop_of_length_le (by omega),List.nil_append,K7 hlen,sbind,g1,sbind,sbind,W6 hlen]
    refine⟨_,rfl,m1++[d],b',by simp,by simp[h2],Jr.2 ⟨h4,Ju.2 ⟨g2,Vd⟩⟩,g3,?_⟩
    rw[List.take_of_length_le (Nat.le_refl _),List.take_of_length_le (by omega)] at h7
    rw[Kh,Kh,h2,hm,K5]
    have:=Qys (bp v.length) (val m) c b d c 0 b' q 0 z (val v) (val m1) (by omega) g4 h7
    simpa using this
 obtain⟨R,h1,r,b,h2,h3⟩:=key
 exact⟨r,b,by rw[h1,h2],h3⟩
theorem Qyt(P M c d c' y u V W:Nat)(e1:4294967296*c'+d=u+y+c)(h:W+P*c=M+V):W+P*d+P*4294967296*c'=M+P*u+(V+P*y):=by grind
theorem Qxn{p m q' v:List Nat}{z:Nat}(hm:m.length=v.length)(hp:p.length+m.length+1+q'.length≤4611686018427387904)(hwm:Wd m)(hwv:Wd v)(hz:z<4294967296):
 ∃ r b,Qee (p++m++z::q') (p.length:Int) v=some (p++r++q')∧r.length=v.length+1∧Wd r∧b≤1∧val r+bp (v.length+1)*b=val (m++[z])+val v:=by
 have key:∃ R,Qee (p++m++z::q') (p.length:Int) v=some R∧∃ r b,R=p++r++q'∧r.length=v.length+1∧Wd r∧b≤1∧val r+bp (v.length+1)*b=val (m++[z])+val v:=by
  unfold Qee
  refine Qpu (λj (s:List Nat×Nat)=>∃ m1,s.1=p++m1++(m.drop j++z::q')∧m1.length=j∧j≤v.length∧Wd m1∧s.2≤1∧val m1+bp j*s.2=val (m.take j)+val (v.take j)) ⟨[],by simp,rfl,Nat.zero_le _,Vd,by simp,by simp[val]⟩ ?_ ?_
  . rintro j y ⟨o,c⟩ hj ⟨m1,h1,h2,h3,h4,h6,h7⟩
    simp only at h1 h6 h7
    subst h1
    have hjv:j<v.length:=Qhh hj
    have hy:v[j]=y:=by simpa [hjv] using hj
    have hyw:y<4294967296:=by rw[←hy];exact Za hwv hjv
    have hmj:j<m.length:=by omega
    have hmw:=Za hwm hmj
    have hlen:(p++m1).length=p.length+j:=by simp;omega
    rw[w64 (by omega) (by omega),show((p.length:Int)+(j:Int))=((p.length+j:Nat):Int) by omega,List.drop_eq_getElem_cons hmj,List.cons_append]
    rw[K7 hlen,sbind,Qii hmw hyw (by simp only[];omega),sbind,sbind,W6 hlen]
    refine⟨_,rfl,m1++[(m[j]+y+c)%4294967296],by simp,by simp[h2],by omega,Jr.2 ⟨h4,Ju.2 ⟨by omega,Vd⟩⟩,by simp only[];omega,?_⟩
    simp only[]
    rw[Wk,Wk,Kh,h2,K5,show v.getD j 0=y by rw[←hy];simp[hjv],show m.getD j 0=m[j] by simp[hmj]]
    exact Qyt _ _ _ _ _ _ _ _ _ (Nat.div_add_mod (m[j]+y+c) 4294967296) h7
  . rintro⟨o,c⟩ ⟨m1,h1,h2,h3,h4,h6,h7⟩
    simp only at h1 h6 h7
    subst h1
    simp only[Xi]
    have hlen:(p++m1).length=p.length+v.length:=by simp;omega
    rw[w64 (by omega) (by omega),show((p.length:Int)+(v.length:Int))=((p.length+v.length:Nat):Int) by omega,List.drop_of_length_le (by omega),List.nil_append,K7 hlen,sbind,sbind,W6 hlen,sbind]
    refine⟨_,rfl,m1++[(z+c)%4294967296],(z+c) / 4294967296,by simp,by simp[h2],Jr.2 ⟨h4,Ju.2 ⟨by omega,Vd⟩⟩,by omega,?_⟩
    rw[List.take_of_length_le (Nat.le_refl _),List.take_of_length_le (by omega)] at h7
    rw[Kh,Kh,h2,hm,K5]
    have:=Qyt (bp v.length) (val m) c ((z+c)%4294967296) ((z+c) / 4294967296) 0 z (val v) (val m1) (by omega) h7
    simpa using this
 obtain⟨R,h1,r,b,h2,h3⟩:=key
 exact⟨r,b,by rw[h1,h2],h3⟩
theorem kn_a{P vl V2 ul U3 q qh:Nat}(h1:ul<P)(hq:q<4294967296)(hU:q*(vl+P*V2)≤ul+P*U3)(hm:qh+1=4294967296∨U3<(qh+1)*V2):q≤qh:=by
 rcases hm with hm | hm
 . omega
 . have e1:P*(q*V2)≤q*(vl+P*V2):=by rw[Nat.mul_add,Nat.mul_left_comm];exact Nat.le_add_left _ _
   have e2:P*(q*V2)<P*(U3+1):=by rw[Nat.mul_add,Nat.mul_one];omega
   have e3:q*V2<U3+1:=Nat.lt_of_mul_lt_mul_left e2
   have e4:q*V2<(qh+1)*V2:=by omega
   exact Nat.le_of_lt_succ (Nat.lt_of_mul_lt_mul_right e4)
theorem kn_b{P vl V2 ul U3 qh:Nat}(h1:vl<P)(hq:qh<4294967296)(h2:4294967296≤V2)(hm:qh*V2≤U3):qh*(vl+P*V2)≤(ul+P*U3)+(vl+P*V2):=by
 have e1:qh*(vl+P*V2)=qh*vl+P*(qh*V2):=by rw[Nat.mul_add,Nat.mul_left_comm]
 have e2:P*(qh*V2)≤P*U3:=Nat.mul_le_mul_left _ hm
 have e3:qh*vl≤V2*P:=Nat.mul_le_mul (by omega) (by omega)
 rw[e1]
 rw[Nat.mul_comm V2 P] at e3
 omega
theorem kn_z{P vl v3 v4 ul z x1 x2:Nat}(h1:vl<P)(h4:v4<4294967296)(hU:ul+P*((z*4294967296+x1)*4294967296+x2)<4294967296*(vl+P*(v3*4294967296+v4))):z≤v3:=by
 have e1:P*(z*4294967296*4294967296)≤P*((z*4294967296+x1)*4294967296+x2):=Nat.mul_le_mul_left _ (by omega)
 have e2:vl+P*(v3*4294967296+v4)<P*((v3+1)*4294967296):=by
  have:P*(v3*4294967296+v4+1)≤P*((v3+1)*4294967296):=Nat.mul_le_mul_left _ (by omega)
  rw[Nat.mul_add _ _ 1,Nat.mul_one] at this
  omega
 have e3:P*(z*4294967296*4294967296)<P*((v3+1)*4294967296*4294967296):=by
  have a1:P*((v3+1)*4294967296*4294967296)=P*((v3+1)*4294967296)*4294967296:=(Nat.mul_assoc _ _ _).symm
  omega
 have e4:=Nat.lt_of_mul_lt_mul_left e3
 omega
theorem dm_of{U V q r:Nat}(h:r+q*V=U)(hr:r<V):U / V=q∧U%V=r:=by
 subst h
 rw[Nat.add_mul_div_right _ _ (by omega),Nat.div_eq_of_lt hr,Nat.add_mul_mod_self_right,Nat.mod_eq_of_lt hr];omega
theorem last2{l:List Nat}{m:Nat}(h:l.length=m+2):∃ l' a b,l=l'++[a,b]∧l'.length=m:=by
 refine⟨l.take m,l[m],l[m+1],?_,by simp;omega⟩
 have h1:=Kv (a:=l) (k:=m) (by omega)
 have h2:=Kv (a:=l) (k:=m+1) (by omega)
 rw[List.take_of_length_le (by omega)] at h2
 refine h2.trans ?_
 rw[h1,List.append_assoc];rfl
theorem Q6t(p y w qs V U j:Nat)(q r:Nat)(hU:U=y+4294967296*w)(h:r+q*V=U):(p+j*y)+j*4294967296*(w+V*qs)=p+j*(r+V*(q+4294967296*qs)):=by grind
theorem Q35{n:Nat}{p w rest v:List Nat}{z:Nat}(hn:big≤n){vl wl:List Nat}{v3 v4 x1 x2:Nat}(hv:v=vl++[v4,v3])(hw:w=wl++[x2,x1])(hl:wl.length=vl.length)
 (hwv:Wd v) (hww:Wd w) (hz:z<4294967296) (h3:v3≠0) (hp:p.length+w.length+1+rest.length≤4611686018427387904) (hU:val (w++[z])<4294967296*val v) :
 ∃ r qh,Qet n z x1 x2 v3 v4=some qh∧r.length=v.length+1∧Wd r∧val r=val (w++[z])%val v∧val (w++[z]) / val v<4294967296 ∧
   ((Qcv (p++w++z::rest) (p.length:Int) v qh=some (false,p++r++rest)∧qh=val (w++[z]) / val v) ∨
    (∃ r1,Qcv (p++w++z::rest) (p.length:Int) v qh=some (true,r1)∧Qee r1 (p.length:Int) v=some (p++r++rest)∧(qh+4294967296 - 1)%4294967296=val (w++[z]) / val v)):=by
 have hwl:w.length=v.length:=by rw[hv,hw];simp[hl]
 have w1:Wd vl∧v4<4294967296∧v3<4294967296:=by rw[hv] at hwv;exact⟨(Jr.1 hwv).1,(Ju.1 (Jr.1 hwv).2).1,(Ju.1 (Ju.1 (Jr.1 hwv).2).2).1⟩
 have w2:Wd wl∧x2<4294967296∧x1<4294967296:=by rw[hw] at hww;exact⟨(Jr.1 hww).1,(Ju.1 (Jr.1 hww).2).1,(Ju.1 (Ju.1 (Jr.1 hww).2).2).1⟩
 obtain⟨w1,w3,w4⟩:=w1
 obtain⟨w2,w5,w6⟩:=w2
 have hV:val v=val vl+bp vl.length*(v3*4294967296+v4):=by rw[hv,Wq];simp only[val];congr 2;omega
 have hW:val (w++[z])=val wl+bp vl.length*((z*4294967296+x1)*4294967296+x2):=by rw[hw,List.append_assoc,Wq,hl];simp only[List.cons_append,List.nil_append,val];congr 2;omega
 have l1:=W2 w1
 have l2:=W2 w2
 rw[hl] at l2
 have hz3:z≤v3:=by rw[hV,hW] at hU;exact kn_z l1 w3 hU
 obtain⟨qh,g1,g2,g3,g4⟩:=Qvz hn hz3 w6 w5 w4 w3 h3
 have hVp:0<val v:=by
  rcases Nat.eq_zero_or_pos (val v) with h | h
  . rw[h] at hU;omega
  . exact h
 have hqB:val (w++[z]) / val v<4294967296:=(Nat.div_lt_iff_lt_mul hVp).2 hU
 have hqa:val (w++[z]) / val v≤qh:=by
  have:=Nat.div_mul_le_self (val (w++[z])) (val v)
  exact kn_a (vl:=val vl) l2 hqB (by rw[←hV,←hW];exact this) g4
 have hqb:qh*val v≤val (w++[z])+val v:=by
  rw[hV,hW];exact kn_b l1 g2 (by omega) g3
 have hUq:val (w++[z])<(qh+1)*val v:=Nat.lt_of_lt_of_le ((Nat.div_lt_iff_lt_mul hVp).1 (Nat.lt_succ_self _)) (Nat.mul_le_mul_right _ (by omega))
 obtain⟨r,b,t1,t2,t3,t4,t5⟩:=Qxm (p:=p) (m:=w) (q':=rest) (v:=v) (z:=z) (q:=qh) hwl hp hww hwv hz g2
 rw[Nat.add_mul,Nat.one_mul] at hUq
 have hvb:=W2 hwv
 have hbb:bp v.length≤bp (v.length+1):=bp_le (by omega)
 by_cases hb:b=0
 . subst hb
   rw[Nat.mul_zero,Nat.add_zero] at t5
   obtain⟨d1,d2⟩:=dm_of t5 (by omega)
   exact⟨r,qh,g1,t2,t3,d2.symm,hqB,.inl ⟨t1,d1.symm⟩⟩
 . obtain rfl:b=1:=by omega
   rw[Nat.mul_one] at t5
   have hr:=W2 t3
   rw[t2] at hr
   obtain⟨r0,rz,e1⟩:∃ r0 rz,r=r0++[rz]:=by
    rcases List.eq_nil_or_concat r with h | ⟨r0,rz,h⟩
    . rw[h] at t2;simp at t2
    . exact⟨r0,rz,by rw[h,List.concat_eq_append]⟩
   have e2:r0.length=v.length:=by rw[e1] at t2;simpa using t2
   have e3:Wd r0∧rz<4294967296:=by rw[e1] at t3;exact⟨(Jr.1 t3).1,(Ju.1 (Jr.1 t3).2).1⟩
   obtain⟨r',b2,u1,u2,u3,u4,u5⟩:=Qxn (p:=p) (m:=r0) (q':=rest) (v:=v) (z:=rz) e2 (by omega) e3.1 hwv e3.2
   have hr':=W2 u3
   rw[u2] at hr'
   rw[←e1] at u5
   obtain⟨qq,rfl⟩:∃ qq,qh=qq+1:=⟨qh - 1,by
    have:qh≠0:=by rintro rfl;omega
    omega⟩
   rw[Nat.add_mul,Nat.one_mul] at *
   have hb2:b2=1:=by
    rcases Nat.eq_zero_or_pos b2 with h | h
    . subst h;rw[Nat.mul_zero] at u5;omega
    . omega
   subst hb2
   rw[Nat.mul_one] at u5
   obtain⟨d1,d2⟩:=dm_of (U:=val (w++[z])) (V:=val v) (q:=qq) (r:=val r') (by omega) (by omega)
   refine⟨r',qq+1,g1,u2,u3,d2.symm,hqB,.inr ⟨p++r++rest,t1,?_,by rw[d1];omega⟩⟩
   rw[e1,show p++(r0++[rz])++rest=p++r0++rz::rest by simp];exact u1
theorem Qxo{n:Nat}{u v vl:List Nat}{v3 v4:Nat}(hn:big≤n)(hv:v=vl++[v4,v3])(h3:v3≠0)(hwu:Wd u)(hwv:Wd v)(hu:u.length<35184372088832)(hl:v.length≤u.length)(ht:val (u.drop (u.length - v.length))<val v):
 ∃ r,Qhz n u v=some r∧(r.1.length=u.length - v.length∧Wd r.1∧r.2.length=u.length∧Wd r.2∧val u=val v*val r.1+val r.2∧val r.2<val v):=by
 unfold Qhz
 have hn':=hn
 unfold big at hn'
 have hvl:v.length=vl.length+2:=by rw[hv];simp
 rw[w64 (x:=(u.length:Int) - (v.length:Int)) (by omega) (by omega),show(u.length:Int) - (v.length:Int)=((u.length - v.length:Nat):Int) by omega,Qfc (by omega) (by omega),sbind]
 refine Qd7 (λs=>(s.2.2+1).toNat) (λs=>∃(k:Nat) (p w qs:List Nat),s.2.2=(k:Int) - 1∧k≤u.length - v.length∧s.1=p++w∧p.length=k∧w.length=u.length - k∧Wd p∧Wd w∧val w<val v∧s.2.1=List.replicate k 0++qs∧qs.length=u.length - v.length - k∧Wd qs∧val u=val p+bp k*(val w+val v*val qs))
  (λt=>t.2.length=u.length - v.length∧Wd t.2∧t.1.length=u.length∧Wd t.1∧val u=val v*val t.2+val t.1∧val t.1<val v) ⟨u.length - v.length,u.take (u.length - v.length),u.drop (u.length - v.length),[],?_,Nat.le_refl _,by simp only[List.take_append_drop],by simp,by simp,Qmo hwu,Qi5 hwu,ht,by simp only[List.append_nil],by simp,Vd,?_⟩ ?_ ?_ (λt ht=>⟨_,rfl,ht⟩)
 . simp only[];rw[List.length_replicate,w64 (by omega) (by omega)]
 . simp only[val,Nat.mul_zero,Nat.add_zero]
   conv=>lhs;rw[←List.take_append_drop (u.length - v.length) u]
   rw[Wq,List.length_take,Nat.min_eq_left (by omega)]
 . simp only[];rw[List.length_replicate,w64 (by omega) (by omega)];omega
 . rintro⟨uu,qq,i⟩ ⟨k,p,w,qs,i1,i2,i3,i4,i5,i6,i7,i8,i9,i10,i11,i12⟩
   simp only at i1 i3 i9
   subst i1 i3 i9
   simp only[jn_eq,bifd]
   by_cases h0:0<k
   . left
     obtain⟨j,rfl⟩:∃ j,k=j+1:=⟨k - 1,by omega⟩
     obtain⟨p1,y,e1⟩:∃ p1 y,p=p1++[y]:=by
      rcases List.eq_nil_or_concat p with h | ⟨p1,y,h⟩
      . rw[h] at i4;simp at i4
      . exact⟨p1,y,by rw[h,List.concat_eq_append]⟩
     subst e1
     have e2:p1.length=j:=by simpa using i4
     have e3:Wd p1∧y<4294967296:=⟨(Jr.1 i6).1,(Ju.1 (Jr.1 i6).2).1⟩
     have e4:Wd (y::w):=Ju.2 ⟨e3.2,i7⟩
     have e5:v.length<(y::w).length:=by simp;omega
     have e6:y::w=(y::w).take v.length++(y::w)[v.length]::(y::w).drop (v.length+1):=Q49 e5
     have e7:val ((y::w).drop (v.length+1))=0:=by
      rw[List.drop_succ_cons,←Qok i7]
      exact Nat.div_eq_of_lt (Nat.lt_trans i8 (W2 hwv))
     have e8:val ((y::w).take v.length++[(y::w)[v.length]])=y+4294967296*val w:=by
      have:=congrArg val e6
      rw[show ∀(a b:List Nat) (x:Nat),a++x::b=(a++[x])++b by intro a b x;simp,Wq,e7,Nat.mul_zero,Nat.add_zero] at this
      rw[←this];rfl
     have w1:Wd ((y::w).take v.length):=Qmo e4
     have w2:(y::w)[v.length]<4294967296:=Za e4 e5
     have w3:Wd ((y::w).drop (v.length+1)):=Qi5 e4
     have w4:((y::w).take v.length).length=v.length:=by rw[List.length_take,Nat.min_eq_left (by omega)]
     have w5:((y::w).drop (v.length+1)).length=u.length - j - (v.length+1):=by rw[List.length_drop,List.length_cons];omega
     rw[show p1++[y]++w=p1++(y::w) by simp,e6]
     generalize (y::w).take v.length=W at *
     generalize (y::w)[v.length]=z at *
     generalize (y::w).drop (v.length+1)=R at *
     obtain⟨wl,x2,x1,f1,f2⟩:=last2 (l:=W) (m:=vl.length) (by omega)
     obtain⟨r,qh,g1,g2,g3,g4,g5,g6⟩:=Q35 (p:=p1) (w:=W) (rest:=R) (v:=v) (z:=z) hn hv f1 f2 hwv w1 w2 h3 (by rw[w4,w5];omega) (by rw[e8];omega)
     rw[if_pos (by omega),show((j+1:Nat):Int) - 1=(j:Int) by omega]
     rw[w64 (x:=(j:Int)+(v.length:Int)) (by omega) (by omega),show(j:Int)+(v.length:Int)=((j+vl.length+2:Nat):Int) by omega]
     rw[w64 (x:=((j+vl.length+2:Nat):Int) - 1) (by omega) (by omega),w64 (x:=((j+vl.length+2:Nat):Int) - 2) (by omega) (by omega),show((j+vl.length+2:Nat):Int) - 1=((j+vl.length+1:Nat):Int) by omega,show((j+vl.length+2:Nat):Int) - 2=((j+vl.length:Nat):Int) by omega]
     rw[w64 (x:=(v.length:Int) - 1) (by omega) (by omega),w64 (x:=(v.length:Int) - 2) (by omega) (by omega),show(v.length:Int) - 1=((vl.length+1:Nat):Int) by omega,show(v.length:Int) - 2=((vl.length:Nat):Int) by omega]
     have a1:getI (p1++(W++z::R)) ((j+vl.length+2:Nat):Int)=some z:=by
      rw[←List.append_assoc];exact K7 (by rw[List.length_append,w4];omega)
     have a2:getI (p1++(W++z::R)) ((j+vl.length+1:Nat):Int)=some x1:=by
      rw[f1,show p1++(wl++[x2,x1]++z::R)=(p1++wl++[x2])++x1::(z::R) by simp];exact K7 (by simp;omega)
     have a3:getI (p1++(W++z::R)) ((j+vl.length:Nat):Int)=some x2:=by
      rw[f1,show p1++(wl++[x2,x1]++z::R)=(p1++wl)++x2::(x1::z::R) by simp];exact K7 (by simp;omega)
     have a4:getI v ((vl.length+1:Nat):Int)=some v3:=by
      rw[hv,show vl++[v4,v3]=(vl++[v4])++v3::[] by simp];exact K7 (by simp)
     have a5:getI v ((vl.length:Nat):Int)=some v4:=by
      rw[hv];exact K7 rfl
     rw[a1,sbind,a2,sbind,a3,sbind,a4,sbind,a5,sbind,g1,sbind]
     have a6:∀(q':Nat),getI (List.replicate (j+1) 0++qs) (j:Int)=some 0∧(List.replicate (j+1) 0++qs).set (Int.toNat (j:Int)) q'=List.replicate j 0++q'::qs:=λq'=>by
      rw[List.replicate_succ',List.append_assoc,List.singleton_append];exact⟨K7 (by simp),W6 (by simp)⟩
     rw[e2,List.append_assoc] at g6
     have hfin:∀ q',q'=val (W++[z]) / val v->∃ s',(some (Lp.go (p1++r++R,List.replicate j 0++q'::qs,wrap64 ((j:Int) - 1))):Option (Lp (List Nat×List Nat×Int) (List Nat×List Nat)))=some (Lp.go s')∧(∃(k:Nat) (p w qs:List Nat),s'.2.2=(k:Int) - 1∧k≤u.length - v.length∧s'.1=p++w∧p.length=k∧w.length=u.length - k∧Wd p∧Wd w∧val w<val v∧s'.2.1=List.replicate k 0++qs∧qs.length=u.length - v.length - k∧Wd qs∧val u=val p+bp k*(val w+val v*val qs))∧(s'.2.2+1).toNat<((j:Int)+1).toNat:=by
      intro q' hq'
      have hVp:0<val v:=by omega
      rw[w64 (by omega) (by omega)]
      refine⟨_,rfl,⟨j,p1,r++R,q'::qs,rfl,by omega,by rw[List.append_assoc],e2,by rw[List.length_append,g2,w5];omega,e3.1,Jr.2 ⟨g3,w3⟩,?_,rfl,by rw[List.length_cons];omega,Ju.2 ⟨by omega,i11⟩,?_⟩,by simp only[];omega⟩
      . rw[Wq,e7,Nat.mul_zero,Nat.add_zero,g4];exact Nat.mod_lt _ hVp
      . rw[i12,Kh,e2,K5,Wq,e7,Nat.mul_zero,Nat.add_zero]
        simp only[val]
        refine Q6t _ _ _ _ _ _ _ _ _ e8 ?_
        rw[g4,hq',Nat.mul_comm];exact Nat.mod_add_div _ _
     rcases g6 with ⟨t1,t2⟩ | ⟨r1,t1,t2,t3⟩
     . rw[t1,sbind]
       simp only[bifF]
       rw[(a6 qh).1,sbind,(a6 qh).2]
       exact hfin _ t2
     . rw[t1,sbind]
       simp only[bifT]
       rw[t2,sbind,(a6 ((qh+4294967296 - 1)%4294967296)).1,sbind,(a6 _).2]
       exact hfin _ t3
   . right
     obtain rfl:k=0:=by omega
     obtain rfl:p=[]:=List.eq_nil_of_length_eq_zero i4
     rw[if_neg (by omega)]
     refine⟨_,rfl,by simp only[List.replicate_zero,List.nil_append];omega,by simpa using i11,by simp only[List.nil_append];omega,by simpa using i7,?_,by simpa using i8⟩
     rw[i12,X5];simp[val];omega
theorem Q92{x:Nat}(h2:x<4294967296):blen x≤32:=by
 rcases Nat.lt_or_ge 32 (blen x) with h | h
 . have h0:x≠0:=by rintro rfl;rw[Qff] at h;omega
   have g1:=Qks h0
   have g2:2 ^ 32≤2 ^ (blen x - 1):=Nat.pow_le_pow_right (by decide) (by omega)
   rw[show(2:Nat) ^ 32=4294967296 by decide] at g2
   omega
 . exact h
theorem Jj{a:List Nat}(hw:Wd a):(toL (val a)).length≤a.length:=by rw[Jv hw];exact Xv a
theorem Quf{v s:Nat}(hs:s≤32):(toL (v*2 ^ s)).length≤(toL v).length+1:=by
 refine Qai ?_
 have h1:=W2 (Qy v)
 rw[Qo] at h1
 rw[K5]
 exact Nat.lt_of_lt_of_le (Nat.mul_lt_mul_of_pos_right h1 (Nat.two_pow_pos s)) (Nat.mul_le_mul_left _ (Qrn hs))
theorem len2{v:Nat}(h:4294967296≤v):∃ vl v4 v3,toL v=vl++[v4,v3]∧v3≠0:=by
 have h0:toL v≠[]:=by rw[Qar (by omega)];simp
 obtain⟨p,x,h1,h2,h3,h4⟩:=Qur h0
 rcases List.eq_nil_or_concat p with h5 | ⟨p',y,h5⟩
 . exfalso
   have:=Qo v
   rw[h1,h5] at this;simp[val] at this;omega
 . exact⟨p',y,x,by rw[h1,h5,List.concat_eq_append];simp,h2⟩
theorem Q93{v:Nat}(h:v≠0):bp ((toL v).length - 1)≤v:=by
 have h0:toL v≠[]:=by rw[Qar h];simp
 obtain⟨p,x,h1,h2,h3,h4⟩:=Qur h0
 have:=Qo v
 rw[h1,Kh] at this
 rw[h1,List.length_append,List.length_singleton,Nat.add_sub_cancel,←this]
 have:bp p.length*1≤bp p.length*x:=Nat.mul_le_mul_left _ (by omega)
 omega
theorem Qf2{n:Nat}{a b:List Nat}(hn:big≤n)(ha:a.length<4398046511104)(hb:b.length<4398046511104)(hwa:Wd a)(hwb:Wd b):
 Qcn n a b=some (if val b=0 then ([],[],false) else (toL (val a / val b),toL (val a%val b),true)):=by
 unfold Qcn
 have hlb:=Jj hwb
 have hla:=Jj hwa
 rw[Wi hn (by omega),sbind,←Jv hwb,bifd]
 by_cases h0:val b=0
 . rw[h0,V5,if_pos (by rfl),if_pos rfl]
 . have hne:toL (val b)≠[]:=by rw[Qar h0];simp
   have hl0:(toL (val b)).length≠0:=λh=>hne (List.eq_nil_of_length_eq_zero h)
   rw[if_neg (by omega),if_neg h0,Qg5 hn (by omega) (by omega) hwa (Qy _),sbind,Qo,bifd]
   by_cases hlt:val a<val b
   . rw[if_pos (by rw[cmpI,if_pos hlt];decide),Wi hn (by omega),sbind,Nat.div_eq_of_lt hlt,Nat.mod_eq_of_lt hlt,V5,Jv hwa]
   . rw[if_neg (by rw[cmpI,if_neg hlt];split<;>decide),bifd]
     by_cases h1:(toL (val b)).length=1
     . rw[if_pos (by omega)]
       obtain⟨y,hy⟩:=List.length_eq_one_iff.1 h1
       have hv:=Qo (val b)
       have hw:=Qy (val b)
       rw[hy] at hv hw
       simp only[val,Nat.mul_zero,Nat.add_zero] at hv
       have hyw:=(Ju.1 hw).1
       rw[hy,show getI [y] (0:Int)=some y by rfl,sbind,Qxj hn (by omega) hwa (by omega) hyw,sbind]
       simp only[]
       have:=Nat.mod_lt (val a) (show y > 0 by omega)
       rw[Qej hn (by omega),sbind,←hv]
     . rw[if_neg (by omega)]
       have hbig:4294967296≤val b:=by
        rcases Nat.lt_or_ge (val b) 4294967296 with h | h
        . have:=Qai (n:=val b) (k:=1) (by rw[K5,X5];omega)
          omega
        . exact h
       obtain⟨bl,b4,b3,e1,e2⟩:=len2 hbig
       have hwb':=Qy (val b)
       have hb3:b3<4294967296:=by rw[e1] at hwb';exact(Ju.1 (Ju.1 (Jr.1 hwb').2).2).1
       have hbl:(toL (val b)).length=bl.length+2:=by rw[e1];simp
       rw[w64 (x:=((toL (val b)).length:Int) - 1) (by omega) (by omega),show((toL (val b)).length:Int) - 1=((bl.length+1:Nat):Int) by omega]
       rw[show getI (toL (val b)) ((bl.length+1:Nat):Int)=some b3 by rw[e1,show bl++[b4,b3]=(bl++[b4])++b3::[] by simp];exact K7 (by simp),sbind,Qr1 hn hb3,sbind]
       have hs:=Q92 hb3
       rw[w64 (x:=(32:Int) - (blen b3:Int)) (by omega) (by omega),show(32:Int) - (blen b3:Int)=((32 - blen b3:Nat):Int) by omega]
       have hs':32 - blen b3≤32:=by omega
       generalize 32 - blen b3=s at *
       have hS:=Nat.two_pow_pos s
       rw[Qs0 hn (by omega) hwa (by omega),sbind]
       have l1:=Quf (v:=val a) hs'
       have l2:=Quf (v:=val b) hs'
       rw[Wz (by simp;omega) (by simp;omega),sbind,Qs0 hn (by omega) hwb' (by omega),sbind,Qo]
       have hbs:val b≤val b*2 ^ s:=Nat.le_mul_of_pos_right _ hS
       obtain⟨vl,v4,v3,f1,f2⟩:=len2 (v:=val b*2 ^ s) (by omega)
       have hab:val b*2 ^ s≤val a*2 ^ s:=Nat.mul_le_mul_right _ (by omega)
       have hll:=K3 hab
       have hge:=Q93 (v:=val b*2 ^ s) (by omega)
       have hvl:(toL (val b*2 ^ s)).length=vl.length+2:=by rw[f1];simp
       have hwu:Wd (toL (val a*2 ^ s)++[0]):=Jr.2 ⟨Qy _,Ju.2 ⟨by omega,Vd⟩⟩
       obtain⟨⟨q,r⟩,g1,g2,g3,g4,g5,g6,g7⟩:=Qxo (u:=toL (val a*2 ^ s)++[0]) (v:=toL (val b*2 ^ s)) hn f1 f2 hwu (Qy _) (by simp;omega) (by simp;omega) (by
        rw[List.length_append,List.length_singleton,List.drop_append_of_le_length (by omega),Kh,Nat.mul_zero,Nat.add_zero,Qo]
        have:=W2 (Qi5 (k:=(toL (val a*2 ^ s)).length+1 - (toL (val b*2 ^ s)).length) (Qy (val a*2 ^ s)))
        rw[List.length_drop] at this
        exact Nat.lt_of_lt_of_le this (Nat.le_trans (bp_le (by omega)) hge))
       simp only at g2 g3 g4 g5 g6 g7
       rw[Kh,Nat.mul_zero,Nat.add_zero,Qo,Qo] at g6
       rw[Qo] at g7
       rw[List.length_append,List.length_singleton] at g2 g4
       rw[g1,sbind]
       simp only[]
       rw[Wi hn (by omega),sbind,Qxl hn (by omega) g5 (by omega),sbind,←Jv g3]
       obtain⟨d1,d2⟩:=dm_of (U:=val a*2 ^ s) (V:=val b*2 ^ s) (q:=val q) (r:=val r) (by rw[g6,Nat.mul_comm (val q)];omega) g7
       rw[Nat.mul_div_mul_right _ _ hS] at d1
       rw[Nat.mul_mod_mul_right] at d2
       rw[←d1,←d2,Nat.mul_div_cancel _ hS]
theorem Qt0{n x y:Nat}(hn:big≤n)(hy:y<18446744073709551616):Qeu n x y=some (Nat.gcd x y):=by
 unfold Qeu
 unfold big at hn
 refine Y9 (λs=>s.2) (λs=>s.2<18446744073709551616∧Nat.gcd s.1 s.2=Nat.gcd x y) (λt=>t=Nat.gcd x y) ⟨hy,rfl⟩ (by simp only[];omega) ?_ (λt ht=>by rw[ht])
 rintro⟨u,v⟩ ⟨h1,h2⟩
 simp only at h1 h2
 simp only[bifnd]
 by_cases h0:v=0
 . right
   rw[if_pos h0]
   exact⟨_,rfl,by rw[←h2,h0,Nat.gcd_zero_right]⟩
 . left
   rw[if_neg h0,grd_t (by simp[h0]),sbind]
   have:=Nat.mod_lt u (show v > 0 by omega)
   exact⟨_,rfl,⟨by simp only[];omega,by rw[←h2,Nat.gcd_comm u v,Nat.gcd_rec v u,Nat.gcd_comm]⟩,this⟩
theorem Qv0{v:Nat}:Qgs (toL v)=some (decide (v=1)):=by
 unfold Qgs
 simp only[jn_eq,bifd]
 by_cases h:(toL v).length=1
 . obtain⟨x,hx⟩:=List.length_eq_one_iff.1 h
   have:=Qo v
   rw[hx] at this;simp[val] at this
   rw[hx,if_pos (by simp),show getI [x] (0:Int)=some x by rfl,sbind,this]
 . rw[if_neg (by omega)]
   have:v≠1:=by
    rintro rfl;apply h;rw[Qar (by decide),show 1 / 4294967296=0 by decide,V5];rfl
   rw[decide_eq_false this]
theorem Q79{v k:Nat}(h:v<2 ^ k):blen v≤k:=by
 rcases Nat.lt_or_ge k (blen v) with h1 | h1
 . have h0:v≠0:=by rintro rfl;rw[Qff] at h1;omega
   have g1:=Qks h0
   have g2:2 ^ k≤2 ^ (blen v - 1):=Nat.pow_le_pow_right (by decide) (by omega)
   omega
 . exact h1
theorem Q8a{r u:Nat}(h:2*r<u):blen r<blen u:=by
 have hu:=Qmp (x:=u)
 by_cases h0:r=0
 . subst h0
   rw[Qff];exact Qrm (by omega)
 . have g1:=Qks h0
   have g2:=Qrm h0
   have g3:2 ^ blen r=2 ^ (blen r - 1)*2:=by rw[←Nat.pow_succ,show(blen r - 1).succ=blen r by omega]
   have g4:2 ^ blen r<2 ^ blen u:=by omega
   exact(Nat.pow_lt_pow_iff_right (by decide)).1 g4
theorem Qro{v:Nat}:blen v≤32*(toL v).length:=by
 refine Q79 ?_
 rw[←Qib]
 have:=W2 (Qy v)
 rwa [Qo] at this
theorem Q6u{u v:Nat}(h0:v≠0):blen v+blen (u%v)+(if v<u%v then 1 else 0)<blen u+blen v+(if u<v then 1 else 0):=by
 have hm:=Nat.mod_lt u (show v > 0 by omega)
 rw[if_neg (by omega)]
 by_cases h:u<v
 . rw[if_pos h,Nat.mod_eq_of_lt h];omega
 . rw[if_neg h]
   have h1:2*(u%v)<u:=by
    have e1:=Nat.div_add_mod u v
    have e2:1≤u / v:=(Nat.le_div_iff_mul_le (by omega)).2 (by omega)
    have e3:v*1≤v*(u / v):=Nat.mul_le_mul_left _ e2
    omega
   have:=Q8a h1
   omega
theorem Qv1{n:Nat}{a b:List Nat}(hn:big≤n)(ha:a.length<4398046511104)(hb:b.length<4398046511104)(hwa:Wd a)(hwb:Wd b):Qgr n a b=some (toL (Nat.gcd (val a) (val b))):=by
 unfold Qgr
 have hla:=Jj hwa
 have hlb:=Jj hwb
 rw[Wi hn (by omega),sbind,Wi hn (by omega),sbind,←Jv hwa,←Jv hwb]
 have hn':=hn
 unfold big at hn'
 refine Y9 (λs=>blen (val s.1)+blen (val s.2)+(if val s.1<val s.2 then 1 else 0)) (λs=>∃ u v,s=(toL u,toL v)∧Nat.gcd u v=Nat.gcd (val a) (val b)∧(toL u).length<4398046511104∧(toL v).length<4398046511104)
  (λt=>∃ u v,t=(toL u,toL v)∧Nat.gcd u v=Nat.gcd (val a) (val b)∧(toL u).length<4398046511104∧(toL v).length≤2) ⟨val a,val b,rfl,rfl,by omega,by omega⟩ ?_ ?_ ?_
 . simp only[Qo]
   have h1:=Qro (v:=val a)
   have h2:=Qro (v:=val b)
   split<;>omega
 . rintro s ⟨u,v,rfl,h2,h3,h4⟩
   simp only[bifd,Qo]
   by_cases h0:2<(toL v).length
   . left
     have hv0:v≠0:=by rintro rfl;rw[V5] at h0;simp at h0
     rw[if_pos (by omega),Qf2 hn h3 h4 (Qy _) (Qy _),sbind,Qo,Qo,if_neg hv0]
     refine⟨_,rfl,⟨v,u%v,rfl,?_,h4,?_⟩,?_⟩
     . rw[←h2,Nat.gcd_comm u v,Nat.gcd_rec v u,Nat.gcd_comm]
     . exact Nat.lt_of_le_of_lt (K3 (Nat.le_of_lt (Nat.mod_lt u (by omega)))) h4
     . simp only[Qo];exact Q6u hv0
   . right
     rw[if_neg (by omega)]
     exact⟨_,rfl,u,v,rfl,h2,h3,by omega⟩
 . rintro t ⟨u,v,rfl,h2,h3,h4⟩
   simp only[bifd]
   by_cases h0:v=0
   . subst h0
     rw[V5,if_pos (by rfl),←h2,Nat.gcd_zero_right]
   . have hne:(toL v).length≠0:=λh=>by rw[Qar h0] at h;simp at h
     have hv64:v<18446744073709551616:=by
      rcases Nat.lt_or_ge v 18446744073709551616 with h | h
      . exact h
      . have:=Q2s h;omega
     have hm:=Nat.mod_lt u (show v > 0 by omega)
     have hlm:=K3 (Nat.le_of_lt hm)
     rw[if_neg (by omega),Qf2 hn h3 (by omega) (Qy _) (Qy _),sbind,Qo,Qo,if_neg h0]
     simp only[]
     rw[Qqi hn (by omega) (Qy _),sbind,Qqi hn (by omega) (Qy _),sbind,Qo,Qo,if_pos hv64,if_pos (by omega)]
     simp only[]
     rw[Qt0 hn (by omega),sbind,Qej hn (Nat.lt_of_le_of_lt (Nat.gcd_le_left _ (by omega)) hv64),sbind,←h2,Nat.gcd_comm u v,Nat.gcd_rec v u,Nat.gcd_comm]
theorem Qs1{n:Nat}{a b:List Nat}(hn:big≤n)(ha:a.length<4398046511104)(hb:b.length<4398046511104)(hwa:Wd a)(hwb:Wd b):
 Qdz n a b=some (toL (val a / Nat.gcd (val a) (val b)),toL (val b / Nat.gcd (val a) (val b))):=by
 unfold Qdz
 rw[Qv1 hn ha hb hwa hwb,sbind,bifd]
 have hg1:Nat.gcd (val a) (val b) ∣ val a:=Nat.gcd_dvd_left _ _
 have hg2:Nat.gcd (val a) (val b) ∣ val b:=Nat.gcd_dvd_right _ _
 have hla:=Jj hwa
 have hlb:=Jj hwb
 have hgl:Nat.gcd (val a) (val b)=0∨(toL (Nat.gcd (val a) (val b))).length<4398046511104:=by
  by_cases h:val a=0
  . rw[h,Nat.gcd_zero_left];right;omega
  . right
    exact Nat.lt_of_le_of_lt (K3 (Nat.gcd_le_left _ (by omega))) (by omega)
 by_cases h0:Nat.gcd (val a) (val b)=0
 . rw[h0,V5,if_pos (by rfl),Nat.div_zero,Nat.div_zero,V5]
 . have hne:(toL (Nat.gcd (val a) (val b))).length≠0:=λh=>by rw[Qar h0] at h;simp at h
   rw[if_neg (by omega),Qv0,sbind,bifd]
   by_cases h1:Nat.gcd (val a) (val b)=1
   . rw[if_pos h1,Wi hn (by omega),sbind,Wi hn (by omega),sbind,h1,Nat.div_one,Nat.div_one,Jv hwa,Jv hwb]
   . have hgl:(toL (Nat.gcd (val a) (val b))).length<4398046511104:=by rcases hgl with h | h;exact absurd h h0;exact h
     rw[if_neg h1,Qf2 hn ha hgl hwa (Qy _),sbind,Qf2 hn hb hgl hwb (Qy _),sbind,Qo,if_neg h0,if_neg h0]
def wv(w:Qf):Int:=if w.Neg then -(val w.Abs:Int) else (val w.Abs:Int)
def toW(z:Int):Qf:=⟨decide (z<0),toL z.natAbs⟩
theorem Zx(z:Int):wv (toW z)=z:=by
 unfold wv toW
 simp only[decide_eq_true_eq,Qo]
 split<;>omega
theorem Qek{v:Nat}:0<(toL v).length↔v≠0:=by
 constructor
 . rintro h rfl;rw[V5] at h;simp at h
 . intro h;rw[Qar h];simp
theorem Xl{s:Bool}{v:Nat}:Vx s (toL v)=some (toW (if s then -(v:Int) else (v:Int))):=by
 unfold Vx toW
 rw[jn_eq]
 cases s
 . rw[bifF];congr 2
 . rw[bifT];congr 2
   . exact decide_eq_decide.2 (by simp only[if_true];have:=@Qek v;omega)
   . simp
def Ww(w:Qf):Prop:=Wd w.Abs∧w.Abs.length<4398046511104
theorem Qj4{n:Nat}{w:Qf}(hn:big≤n)(h:Ww w):Qa1 n w=some (toW (wv w)):=by
 unfold Qa1
 rw[Wi hn (by have:=h.2;omega),sbind,←Jv h.1,Xl,sbind];rfl
theorem Q2x(s t:Bool)(x y:Nat):(if (s != t) then -((x*y:Nat):Int) else ((x*y:Nat):Int))=(if s then -(x:Int) else (x:Int))*(if t then -(y:Int) else (y:Int)):=by
 cases s<;>cases t<;>simp[Int.neg_mul,Int.mul_neg]
theorem Qkt{n:Nat}{w u:Qf}(hn:big≤n)(hw:Ww w)(hu:Ww u):Qec n w u=some (toW (wv w*wv u)):=by
 unfold Qec
 rw[Qdm hn (by have:=hw.2;omega) (by have:=hu.2;omega) hw.1 hu.1,sbind,Xl,sbind,Q2x];rfl
theorem Q1c{x y:Nat}:cmpI x y<0↔x<y:=by
 by_cases h:x<y
 . simp[cmpI,h]
 . rw[cmpI,if_neg h];split<;>omega
theorem Qku{n:Nat}{w u:Qf}(hn:big≤n)(hw:Ww w)(hu:Ww u):Qed n w u=some (toW (wv w+wv u)):=by
 unfold Qed
 have l1:=hw.2
 have l2:=hu.2
 rw[Q09 hn (by omega) (by omega) hw.1 hu.1,sbind,Xl,sbind,Q1a hn (by omega) (by omega) hw.1 hu.1,sbind,bifd,Xl,sbind,Xl,sbind]
 unfold wv
 rcases w with ⟨s,a⟩
 rcases u with ⟨t,b⟩
 simp only[]
 generalize val a=x
 generalize val b=y
 have hc:=@Q1c x y
 cases s<;>cases t<;>simp only[beq_self_eq_true,bifT,bifF,Bool.false_eq_true,if_true,if_false,show(false == true)=false by rfl,show(true == false)=false by rfl,hc]
 . congr 2
 . split<;>congr 2<;>omega
 . split<;>congr 2<;>omega
 . congr 2;omega
theorem Qqj{n:Nat}{w:Qf}(hn:big≤n)(h:Ww w):Qf5 n w=some (toW (-wv w)):=by
 unfold Qf5
 rw[Wi hn (by have:=h.2;omega),sbind,←Jv h.1,Xl,sbind]
 unfold wv
 cases w.Neg<;>simp
theorem Q8b(z:Int):(toW (-z)).Abs=(toW z).Abs:=by unfold toW;simp
theorem Qbr(z:Int):Wd (toW z).Abs:=Qy _
theorem Qd8{n:Nat}{w:Qf}(hn:big≤n)(h:Ww w):Qa2 n w=some (Int.sign (wv w)):=by
 unfold Qa2 wv
 rw[Ql2 hn (by have:=h.2;omega) h.1,sbind,bifd]
 by_cases h0:val w.Abs=0
 . rw[if_pos h0,h0];cases w.Neg<;>rfl
 . rw[if_neg h0]
   cases w.Neg
   . rw[bifF,if_neg (by decide),Int.sign_eq_one_of_pos (by omega)]
   . rw[bifT,if_pos rfl,Int.sign_eq_neg_one_of_neg (by omega)]
theorem Qd9(w:Qf):(wv w).natAbs=val w.Abs:=by unfold wv;split<;>omega
theorem Q94{w:Qf}(h:Ww w):Ww (toW (-wv w)):=by
 refine⟨Qbr _,?_⟩
 rw[Q8b]
 show(toL (wv w).natAbs).length<_
 rw[Qd9]
 exact Nat.lt_of_le_of_lt (Jj h.1) h.2
theorem Qhi{n:Nat}{w u:Qf}(hn:big≤n)(hw:Ww w)(hu:Ww u):Qcu n w u=some (toW (wv w - wv u)):=by
 unfold Qcu
 rw[Qqj hn hu,sbind,Qku hn hw (Q94 hu),sbind,Zx,Int.sub_eq_add_neg]
theorem Qxp{n:Nat}{w u:Qf}(hn:big≤n)(hw:Ww w)(hu:Ww u)(h:Ww (toW (wv w - wv u))):Qh1 n w u=some (Int.sign (wv w - wv u)):=by
 unfold Qh1
 rw[Qhi hn hw hu,sbind,Qd8 hn h,sbind,Zx]
def fv(f:Qb):Rat:=mkRat (wv f.Num) (val f.Den)
def toF(q:Rat):Qb:=⟨toW q.num,toL q.den⟩
theorem Kf(q:Rat):fv (toF q)=q:=by
 unfold fv toF
 rw[Zx,Qo];exact Rat.mkRat_self q
theorem Qci{z:Int}{d:Nat}(hd:d≠0):(mkRat z d).num=z / (Nat.gcd z.natAbs d:Int)∧(mkRat z d).den=d / Nat.gcd z.natAbs d:=by
 rw[←Rat.normalize_eq_mkRat hd,Rat.normalize_eq]
 exact⟨rfl,rfl⟩
theorem Q2y(s:Bool)(x g:Nat)(h:g ∣ x):(if s then -((x / g:Nat):Int) else ((x / g:Nat):Int))=(if s then -(x:Int) else (x:Int)) / (g:Int):=by
 cases s
 . simp
 . simp only[if_true]
   rw[Int.neg_ediv_of_dvd (Int.natCast_dvd_natCast.2 h)];simp
theorem Qbw{n:Nat}{w:Qf}{d:List Nat}(hn:big≤n)(hw:Ww w)(hd:Wd d)(hl:d.length<4398046511104)(h0:val d≠0):Zb n w d=some (toF (mkRat (wv w) (val d))):=by
 unfold Zb
 have h1:=hw.2
 have hg:Nat.gcd (val w.Abs) (val d) ∣ val w.Abs:=Nat.gcd_dvd_left _ _
 have hlw:(toL (val w.Abs / Nat.gcd (val w.Abs) (val d))).length<4398046511104:=Nat.lt_of_le_of_lt (Nat.le_trans (K3 (Nat.div_le_self _ _)) (Jj hw.1)) h1
 rw[Qs1 hn h1 hl hw.1 hd,sbind,Qj4 hn ⟨Qy _,hlw⟩,sbind]
 obtain⟨e1,e2⟩:=Qci (z:=wv w) h0
 unfold toF
 rw[e1,e2,Qd9]
 congr 2
 unfold wv
 rw[Qo]
 congr 1
 exact Q2y _ _ _ hg
def Fw(f:Qb):Prop:=Ww f.Num∧Wd f.Den∧f.Den.length<4398046511104
theorem Qol{n:Nat}{f:Qb}(hn:big≤n)(hf:Fw f):∃ p,Vo n f=some p∧Ww p.1∧Wd p.2∧p.2.length≤max 1 f.Den.length∧p.1.Abs.length≤f.Num.Abs.length∧val p.2≠0∧mkRat (wv p.1) (val p.2)=fv f:=by
 obtain⟨h1,h2,h3⟩:=hf
 unfold Vo fv
 rw[Ql2 hn (by omega) h2,sbind,bifd]
 by_cases h0:val f.Den=0
 . rw[if_pos h0,Qej hn (by omega),sbind]
   refine⟨_,rfl,⟨Vd,by simp⟩,Qy _,?_,by simp,by simp only[Qo];decide,?_⟩
   . have:=Qai (n:=1) (k:=1) (by rw[K5,X5];omega)
     simp only[];omega
   . simp only[Qo,h0,Rat.mkRat_zero]
     rfl
 . rw[if_neg h0]
   exact⟨_,rfl,h1,h2,by simp only[];omega,Nat.le_refl _,h0,rfl⟩
theorem Vj{n:Nat}{f:Qb}(hn:big≤n)(hf:Fw f):K1 n f=some (toF (fv f)):=by
 obtain⟨p,h1,h2,h3,h4,h5,h6,h7⟩:=Qol hn hf
 unfold K1
 rw[h1,sbind,Qbw hn h2 h3 (by have:=hf.2.2;omega) h6,sbind,h7]
theorem Yq{x y:Nat}:(toL (x*y)).length≤(toL x).length+(toL y).length:=by
 refine Qai ?_
 have h1:=W2 (Qy x)
 have h2:=W2 (Qy y)
 rw[Qo] at h1 h2
 rw[Q9z]
 exact Nat.mul_lt_mul'' h1 h2
theorem Qmq{x y k:Nat}(h1:(toL x).length≤k)(h2:(toL y).length≤k):(toL (x+y)).length≤k+1:=by
 refine Qai ?_
 have g1:=W2 (Qy x)
 have g2:=W2 (Qy y)
 rw[Qo] at g1 g2
 have g3:=bp_le h1
 have g4:=bp_le h2
 rw[K5];omega
theorem Qbf{n:Nat}{w:Qf}{d:List Nat}(hn:big≤n)(hw:Ww w)(hd:Wd d)(hl:d.length<4398046511104):Y5 n w d=some (toW (wv w*(val d:Int))):=by
 unfold Y5
 rw[Qkt hn hw ⟨hd,hl⟩,sbind];rfl
def Fk(k:Nat)(f:Qb):Prop:=Wd f.Num.Abs∧f.Num.Abs.length≤k∧Wd f.Den∧f.Den.length≤k
theorem Fk_Fw{k:Nat}{f:Qb}(h:Fk k f)(hk:k<4398046511104):Fw f:=⟨⟨h.1,by have:=h.2.1;omega⟩,h.2.2.1,by have:=h.2.2.2;omega⟩
theorem Qdn{n k:Nat}{f:Qb}(hn:big≤n)(hf:Fk k f)(h1:1≤k)(hk:k<4398046511104):∃ w d,Vo n f=some (w,d)∧Wd w.Abs∧w.Abs.length≤k∧Wd d∧d.length≤k∧val d≠0∧mkRat (wv w) (val d)=fv f:=by
 obtain⟨⟨w,d⟩,h1,h2,h3,h4,h5,h6,h7⟩:=Qol hn (Fk_Fw hf hk)
 exact⟨w,d,h1,h2.1,Nat.le_trans h5 hf.2.1,h3,by have:=hf.2.2.2;simp only at h4;omega,h6,h7⟩
theorem Qip{w:Qf}{y k j:Nat}(h1:Wd w.Abs)(h2:w.Abs.length≤k)(h3:(toL y).length≤j):(toW (wv w*(y:Int))).Abs.length≤k+j:=by
 unfold toW
 simp only[]
 rw[Int.natAbs_mul,Qd9,Int.natAbs_natCast]
 have:=@Yq (val w.Abs) y
 have:=Jj h1
 omega
theorem Qdo{n k:Nat}{f g:Qb}(hn:big≤n)(h1:1≤k)(hk:k<1099511627776)(hf:Fk k f)(hg:Fk k g):Qa4 n f g=some (toF (fv f+fv g)):=by
 obtain⟨w,d,a1,a2,a3,a4,a5,a6,a7⟩:=Qdn hn hf h1 (by omega)
 obtain⟨u,e,b1,b2,b3,b4,b5,b6,b7⟩:=Qdn hn hg h1 (by omega)
 have l1:=Qip a2 a3 (Nat.le_trans (Jj b4) b5)
 have l2:=Qip b2 b3 (Nat.le_trans (Jj a4) a5)
 unfold Qa4
 rw[a1,sbind,b1,sbind,Qbf hn ⟨a2,by omega⟩ b4 (by omega),sbind,Qbf hn ⟨b2,by omega⟩ a4 (by omega),sbind,Qku hn ⟨Qbr _,by omega⟩ ⟨Qbr _,by omega⟩,sbind,Qdm hn (by omega) (by omega) a4 b4,sbind]
 have l3:=@Yq (val d) (val e)
 have l4:=Jj a4
 have l5:=Jj b4
 rw[Zx,Zx]
 have hs:(toW (wv w * ↑(val e)+wv u * ↑(val d))).Abs.length≤2*k+1:=by
  unfold toW at l1 l2 ⊢
  simp only[] at l1 l2 ⊢
  have:=Int.natAbs_add_le (wv w * ↑(val e)) (wv u * ↑(val d))
  exact Nat.le_trans (K3 this) (Qmq (by omega) (by omega))
 rw[Qbw hn ⟨Qbr _,by omega⟩ (Qy _) (by omega) (by rw[Qo];exact Nat.mul_ne_zero a6 b6),sbind,Qo,Zx,←a7,←b7,Rat.mkRat_add_mkRat _ _ a6 b6]
theorem Qr3{n k:Nat}{f g:Qb}(hn:big≤n)(h1:1≤k)(hk:k<1099511627776)(hf:Fk k f)(hg:Fk k g):Qhb n f g=some (toF (fv f - fv g)):=by
 obtain⟨w,d,a1,a2,a3,a4,a5,a6,a7⟩:=Qdn hn hf h1 (by omega)
 obtain⟨u,e,b1,b2,b3,b4,b5,b6,b7⟩:=Qdn hn hg h1 (by omega)
 have l1:=Qip a2 a3 (Nat.le_trans (Jj b4) b5)
 have l2:=Qip b2 b3 (Nat.le_trans (Jj a4) a5)
 unfold Qhb
 rw[a1,sbind,b1,sbind,Qbf hn ⟨a2,by omega⟩ b4 (by omega),sbind,Qbf hn ⟨b2,by omega⟩ a4 (by omega),sbind,Qhi hn ⟨Qbr _,by omega⟩ ⟨Qbr _,by omega⟩,sbind,Qdm hn (by omega) (by omega) a4 b4,sbind]
 have l3:=@Yq (val d) (val e)
 have l4:=Jj a4
 have l5:=Jj b4
 rw[Zx,Zx]
 have hs:(toW (wv w * ↑(val e) - wv u * ↑(val d))).Abs.length≤2*k+1:=by
  unfold toW at l1 l2 ⊢
  simp only[] at l1 l2 ⊢
  have:=Int.natAbs_sub_le (wv w * ↑(val e)) (wv u * ↑(val d))
  exact Nat.le_trans (K3 this) (Qmq (by omega) (by omega))
 rw[Qbw hn ⟨Qbr _,by omega⟩ (Qy _) (by omega) (by rw[Qo];exact Nat.mul_ne_zero a6 b6),sbind,Qo,Zx,←a7,←b7,Rat.sub_eq_add_neg,Rat.neg_mkRat,Rat.mkRat_add_mkRat _ _ a6 b6,Int.neg_mul,←Int.sub_eq_add_neg]
theorem Qcj{n k:Nat}{f g:Qb}(hn:big≤n)(h1:1≤k)(hk:k<1099511627776)(hf:Fk k f)(hg:Fk k g):Qae n f g=some (toF (fv f*fv g)):=by
 obtain⟨w,d,a1,a2,a3,a4,a5,a6,a7⟩:=Qdn hn hf h1 (by omega)
 obtain⟨u,e,b1,b2,b3,b4,b5,b6,b7⟩:=Qdn hn hg h1 (by omega)
 unfold Qae
 rw[a1,sbind,b1,sbind,Qkt hn ⟨a2,by omega⟩ ⟨b2,by omega⟩,sbind,Qdm hn (by omega) (by omega) a4 b4,sbind]
 have l3:=@Yq (val d) (val e)
 have l4:=Jj a4
 have l5:=Jj b4
 have hs:(toW (wv w*wv u)).Abs.length≤2*k:=by
  unfold toW
  simp only[]
  rw[Int.natAbs_mul,Qd9,Qd9]
  have g1:=@Yq (val w.Abs) (val u.Abs)
  have g2:=Jj a2
  have g3:=Jj b2
  omega
 rw[Qbw hn ⟨Qbr _,by omega⟩ (Qy _) (by omega) (by rw[Qo];exact Nat.mul_ne_zero a6 b6),sbind,Qo,Zx,←a7,←b7,Rat.mkRat_mul_mkRat]
theorem Q8c(q:Rat):toF (-q)=⟨toW (-q.num),toL q.den⟩:=rfl
theorem Q95{f:Qb}(hf:Fw f):Ww (toF (fv f)).Num:=by
 refine⟨Qbr _,?_⟩
 show(toL (fv f).num.natAbs).length<_
 by_cases h0:val f.Den=0
 . unfold fv;rw[h0,Rat.mkRat_zero];simp[V5]
 . obtain⟨e1,_⟩:=Qci (z:=wv f.Num) h0
   unfold fv
   rw[e1]
   have h1:(wv f.Num / (Nat.gcd (wv f.Num).natAbs (val f.Den):Int)).natAbs≤val f.Num.Abs:=by
    rw[←Qd9];exact Int.natAbs_ediv_le_natAbs _ _
   exact Nat.lt_of_le_of_lt (Nat.le_trans (K3 h1) (Jj hf.1.1)) hf.1.2
theorem Qzn{n:Nat}{f:Qb}(hn:big≤n)(hf:Fw f):Qjp n f=some (toF (-fv f)):=by
 unfold Qjp
 have h:=Q95 hf
 rw[Vj hn hf,sbind,Qqj hn h,sbind,Q8c]
 unfold toF
 simp only[Zx]
theorem Qqk{a b:Int}{d e:Nat}(hd:d≠0)(he:e≠0):Int.sign (a*(e:Int) - b*(d:Int))=Int.sign (mkRat a d - mkRat b e).num:=by
 rw[Rat.sub_eq_add_neg,Rat.neg_mkRat,Rat.mkRat_add_mkRat _ _ hd he,Int.neg_mul,←Int.sub_eq_add_neg]
 generalize a*(e:Int) - b*(d:Int)=z
 have h0:d*e≠0:=Nat.mul_ne_zero hd he
 obtain⟨e1,_⟩:=Qci (z:=z) h0
 rw[e1]
 have hg:(Nat.gcd z.natAbs (d*e):Int) ∣ z:=Int.dvd_natAbs.1 (Int.natCast_dvd_natCast.2 (Nat.gcd_dvd_left _ _))
 obtain⟨c,hc⟩:=hg
 have hp:0<Nat.gcd z.natAbs (d*e):=Nat.gcd_pos_of_pos_right _ (by omega)
 generalize Nat.gcd z.natAbs (d*e)=g at *
 subst hc
 rw[Int.mul_ediv_cancel_left _ (by omega),Int.sign_mul,Int.sign_eq_one_of_pos (by omega),Int.one_mul]
theorem Yc{n k:Nat}{f g:Qb}(hn:big≤n)(h1:1≤k)(hk:k<1099511627776)(hf:Fk k f)(hg:Fk k g):X8 n f g=some (Int.sign (fv f - fv g).num):=by
 obtain⟨w,d,a1,a2,a3,a4,a5,a6,a7⟩:=Qdn hn hf h1 (by omega)
 obtain⟨u,e,b1,b2,b3,b4,b5,b6,b7⟩:=Qdn hn hg h1 (by omega)
 have l1:=Qip a2 a3 (Nat.le_trans (Jj b4) b5)
 have l2:=Qip b2 b3 (Nat.le_trans (Jj a4) a5)
 have hs:(toW (wv w * ↑(val e) - wv u * ↑(val d))).Abs.length≤2*k+1:=by
  unfold toW at l1 l2 ⊢
  simp only[] at l1 l2 ⊢
  have:=Int.natAbs_sub_le (wv w * ↑(val e)) (wv u * ↑(val d))
  exact Nat.le_trans (K3 this) (Qmq (by omega) (by omega))
 unfold X8
 rw[a1,sbind,b1,sbind,Qbf hn ⟨a2,by omega⟩ b4 (by omega),sbind,Qbf hn ⟨b2,by omega⟩ a4 (by omega),sbind,Qxp hn ⟨Qbr _,by omega⟩ ⟨Qbr _,by omega⟩ (by rw[Zx,Zx];exact⟨Qbr _,by omega⟩),sbind,Zx,Zx,Qqk a6 b6,a7,b7]
def runG{α β τ:Type}(g:Nat->α->β->β ⊕ τ)(e:β->τ):List α->Nat->β->τ
 | [],_,b=>e b
 | x::xs,i,b=>match g i x b with
   | .inl b'=>runG g e xs (i+1) b'
   | .inr t=>t
def toLpp{β σ τ0 τ:Type}(mk:β->Nat->σ)(i:Nat):β ⊕ τ->Lp σ (Lp τ0 τ)
 | .inl b=>.go (mk b (i+1))
 | .inr t=>.out (.out t)
theorem Qus{α β σ τ0 τ:Type}{f:σ->Option (Lp σ (Lp τ0 τ))}{k:τ0->Option τ}{s0:σ}(mk:β->Nat->σ)(g:Nat->α->β->β ⊕ τ)(e0:β->τ0)(e:β->τ)(I:Nat->β->Prop)(xs:List α)(b:β){n:Nat}
 (hb:∀ i x b,xs[i]?=some x->I i b->f (mk b i)=some (toLpp mk i (g i x b))∧∀ b',g i x b=.inl b'->I (i+1) b')
 (he:∀ b,I xs.length b->f (mk b xs.length)=some (.out (.go (e0 b)))) (hk:∀ b,I xs.length b->k (e0 b)=some (e b)) (h0:I 0 b) (hn:xs.length<n) (hs:s0=mk b 0:=by rfl) :
 (loopM f n s0).bind (lpK k)=some (runG g e xs 0 b):=by
 have key:∀(xs:List α) (j:Nat) (b:β) (n:Nat),
  (∀ i x b,xs[i]?=some x->I (j+i) b->f (mk b (j+i))=some (toLpp mk (j+i) (g (j+i) x b))∧∀ b',g (j+i) x b=.inl b'->I (j+i+1) b') →
  (∀ b,I (j+xs.length) b->f (mk b (j+xs.length))=some (.out (.go (e0 b))))->(∀ b,I (j+xs.length) b->k (e0 b)=some (e b))->I j b->xs.length<n->(loopM f n (mk b j)).bind (lpK k)=some (runG g e xs j b):=by
  intro xs
  induction xs with
  | nil=>
    intro j b n _ he hk h0 hn
    simp only[List.length_nil,Nat.add_zero] at he hk
    rw[Wb (he b h0) (by omega),Option.bind_some]
    exact hk b h0
  | cons x xs ih=>
    intro j b n hb he hk h0 hn
    obtain⟨m,rfl⟩:∃ m,n=m+1:=⟨n - 1,by simp at hn;omega⟩
    obtain⟨h1,h2⟩:=hb 0 x b rfl h0
    simp only[Nat.add_zero] at h1 h2
    simp only[runG]
    cases hg:g j x b with
    | inl b'=>
      rw[hg] at h1
      rw[Qhf h1]
      refine ih (j+1) b' m (λi y c hy hc=>?_) (λc hc=>?_) (λc hc=>?_) (h2 b' hg) (by simp at hn;omega)
      . have:=hb (i+1) y c (by simpa using hy)
        rw[show j+(i+1)=j+1+i by omega] at this
        exact this hc
      . have:=he c
        rw[List.length_cons,show j+(xs.length+1)=j+1+xs.length by omega] at this
        exact this hc
      . have:=hk c
        rw[List.length_cons,show j+(xs.length+1)=j+1+xs.length by omega] at this
        exact this hc
    | inr t=>rw[hg] at h1;rw[Wb h1 (by omega)];rfl
 rw[hs]
 exact key xs 0 b n (λi x c hx hc=>by rw[Nat.zero_add] at hc ⊢;exact hb i x c hx hc) (λc hc=>by rw[Nat.zero_add] at hc ⊢;exact he c hc) (λc hc=>hk c (by rwa [Nat.zero_add] at hc)) h0 hn
theorem J9{α:Type}{l:List α}{i:Nat}{x:α}(h:l[i]?=some x):getI l (i:Int)=some x:=by rw[Qd6,h]
theorem Ky{α:Type}{l:List α}{i:Nat}{x:α}(h:l[i]?=some x):i<l.length:=by
 rcases Nat.lt_or_ge i l.length with h1 | h1
 . exact h1
 . rw[List.getElem?_eq_none h1] at h;cases h
theorem Kt{α:Type}{l:List α}{i:Nat}{x:α}(h:l[i]?=some x):x∈l:=List.mem_of_getElem? h
theorem w1{i:Nat}(h:i<9223372036854775807):wrap64 ((i:Int)+1)=((i+1:Nat):Int):=by rw[w64 (by omega) (by omega)];omega
theorem Qrp{α:Type}{l:List α}{x:α}(h:l.length<9223372036854775807):getI (l++[x]) (wrap64 (((l++[x]).length:Int) - 1))=some x:=by
 rw[List.length_append,List.length_singleton,w64 (by omega) (by omega),show(((l.length+1:Nat):Int) - 1)=((l.length:Nat):Int) by omega,Qd6];simp
theorem Q5f{α:Type}{l:List α}{x y:α}(h:l.length<9223372036854775807):List.set (l++[x]) (Int.toNat (wrap64 (((l++[x]).length:Int) - 1))) y=l++[y]:=by
 rw[List.length_append,List.length_singleton,w64 (by omega) (by omega),show(((l.length+1:Nat):Int) - 1)=((l.length:Nat):Int) by omega,Int.toNat_natCast];simp
theorem Qyu{σ τ:Type}{f:σ->Option (Lp σ τ)}(F:Nat->σ){t:τ}:∀(N k n:Nat),(∀ i,i<N->f (F (k+i))=some (.go (F (k+i+1))))->f (F (k+N))=some (.out t)->N<n->loopM f n (F k)=some t
 | 0,k,n,_,he,hn=>Wb he (by omega)
 | N+1,k,n,hb,he,hn=>by
   obtain⟨m,rfl⟩:∃ m,n=m+1:=⟨n - 1,by omega⟩
   have h0:=hb 0 (by omega)
   simp only[Nat.add_zero] at h0
   rw[Qhf h0]
   exact Qyu F N (k+1) m (λi hi=>by have:=hb (i+1) (by omega);rw[show k+(i+1)=k+1+i by omega] at this;exact this) (by rw[show k+1+N=k+(N+1) by omega];exact he) (by omega)
theorem Xf{σ τ R:Type}{f:σ->Option (Lp σ τ)}{s:σ}{K:τ->Option R}{n:Nat}(F:Nat->σ)(N:Nat)(t:τ)(hb:∀ i,i<N->f (F i)=some (.go (F (i+1))))(he:f (F N)=some (.out t))(hn:N<n)(hs:s=F 0):(loopM f n s).bind K=K t:=by
 rw[hs,Qyu F (t:=t) N 0 n (λi hi=>by rw[Nat.zero_add];exact hb i hi) (by rw[Nat.zero_add];exact he) hn,Option.bind_some]
theorem Qv2{α σ τ:Type}{f:Nat->α->σ->Option (Lp σ τ)}(F:Nat->σ):∀(xs:List α) (k:Nat),(∀ i x,xs[i]?=some x->f (k+i) x (F (k+i))=some (.go (F (k+i+1))))->rangeL f xs k (F k)=some (.go (F (k+xs.length)))
 | [],_,_=>rfl
 | x::xs,k,hb=>by
   have h0:=hb 0 x rfl
   simp only[Nat.add_zero] at h0
   simp only[rangeL,h0,Option.bind_some]
   rw[Qv2 F xs (k+1) (λi y hy=>by have:=hb (i+1) y (by simpa using hy);rw[show k+(i+1)=k+1+i by omega] at this;exact this),List.length_cons,show k+1+xs.length=k+(xs.length+1) by omega]
theorem Qi6{α σ τ R:Type}{f:Nat->α->σ->Option (Lp σ τ)}{s:σ}{K:Lp σ τ->Option R}(F:Nat->σ)(xs:List α)(hb:∀ i x,xs[i]?=some x->f i x (F i)=some (.go (F (i+1))))(hs:s=F 0):(rangeL f xs 0 s).bind K=K (.go (F xs.length)):=by
 rw[hs,Qv2 F xs 0 (λi x hx=>by rw[Nat.zero_add];exact hb i x hx),Option.bind_some,Nat.zero_add]
theorem Qv3{α R:Type}{f:Nat->α->Unit->Option (Lp Unit R)}{r:R}(P:Nat->α->Prop):∀(xs:List α) (k:Nat),(∀ i x,xs[i]?=some x->(P (k+i) x->f (k+i) x ()=some (.go ()))∧(¬ P (k+i) x->f (k+i) x ()=some (.out r))) →
 ((∀ i x,xs[i]?=some x->P (k+i) x)->rangeL f xs k ()=some (.go ()))∧(¬(∀ i x,xs[i]?=some x->P (k+i) x)->rangeL f xs k ()=some (.out r))
 | [],k,_=>⟨λ_=>rfl,λh=>absurd (λi x hx=>by simp at hx) h⟩
 | x::xs,k,hb=>by
   obtain⟨h1,h2⟩:=hb 0 x rfl
   simp only[Nat.add_zero] at h1 h2
   obtain⟨g1,g2⟩:=Qv3 P xs (k+1) (λi y hy=>by have:=hb (i+1) y (by simpa using hy);rw[show k+(i+1)=k+1+i by omega] at this;exact this)
   by_cases hp:P k x
   . have e:(∀ i y,(x::xs)[i]?=some y->P (k+i) y)↔(∀ i y,xs[i]?=some y->P (k+1+i) y):=by
      constructor
      . intro h i y hy;have:=h (i+1) y (by simpa using hy);rw[show k+(i+1)=k+1+i by omega] at this;exact this
      . intro h i y hy
        cases i with
        | zero=>simp at hy;subst hy;exact hp
        | succ i=>rw[show k+(i+1)=k+1+i by omega];exact h i y (by simpa using hy)
     rw[e]
     simp only[rangeL,h1 hp,Option.bind_some]
     exact⟨g1,g2⟩
   . refine⟨λh=>absurd (h 0 x rfl) hp,λ_=>?_⟩
     simp only[rangeL,h2 hp,Option.bind_some]
open Classical in
theorem Qfg{α R:Type}{f:Nat->α->Unit->Option (Lp Unit R)}{K:Unit->Option R}{r:R}(P:Nat->α->Prop)(xs:List α)
 (hb:∀ i x,xs[i]?=some x->(P i x->f i x ()=some (.go ()))∧(¬ P i x->f i x ()=some (.out r))) :
 (rangeL f xs 0 ()).bind (lpK K)=if (∀ i x,xs[i]?=some x->P i x) then K () else some r:=by
 obtain⟨g1,g2⟩:=Qv3 P xs 0 (λi x hx=>by rw[Nat.zero_add];exact hb i x hx)
 simp only[Nat.zero_add] at g1 g2
 by_cases h:∀ i x,xs[i]?=some x->P i x
 . rw[if_pos h,g1 h,Option.bind_some,Xi]
 . rw[if_neg h,g2 h,Option.bind_some,Qc2]
theorem Qyv{R:Type}{f:Int->Option (Lp Int (Lp Unit R))}{r:R}(P:Nat->Prop):∀(N k n:Nat),(∀ i,i<k+N->k≤i->(P i->f (i:Int)=some (.go ((i+1:Nat):Int)))∧(¬ P i->f (i:Int)=some (.out (.out r))))->f ((k+N:Nat):Int)=some (.out (.go ()))->N<n →
 ((∀ i,k≤i->i<k+N->P i)->loopM f n (k:Int)=some (.go ()))∧(¬(∀ i,k≤i->i<k+N->P i)->loopM f n (k:Int)=some (.out r))
 | 0,k,n,_,he,hn=>⟨λ_=>Wb he (by omega),λh=>absurd (λi h1 h2=>by omega) h⟩
 | N+1,k,n,hb,he,hn=>by
   obtain⟨m,rfl⟩:∃ m,n=m+1:=⟨n - 1,by omega⟩
   obtain⟨h1,h2⟩:=hb k (by omega) (Nat.le_refl _)
   obtain⟨g1,g2⟩:=Qyv P N (k+1) m (λi hi hk=>hb i (by omega) (by omega)) (by rw[show k+1+N=k+(N+1) by omega];exact he) (by omega)
   by_cases hp:P k
   . have e:(∀ i,k≤i->i<k+(N+1)->P i)↔(∀ i,k+1≤i->i<k+1+N->P i):=by
      constructor
      . intro h i a b;exact h i (by omega) (by omega)
      . intro h i a b
        rcases Nat.eq_or_lt_of_le a with c | c
        . exact c ▸ hp
        . exact h i c (by omega)
     rw[e,Qhf (h1 hp)]
     exact⟨g1,g2⟩
   . exact⟨λh=>absurd (h k (Nat.le_refl _) (by omega)) hp,λ_=>Wb (h2 hp) (by omega)⟩
open Classical in
theorem Qkv{R:Type}{f:Int->Option (Lp Int (Lp Unit R))}{K:Unit->Option R}{r:R}{n:Nat}(P:Nat->Prop)(N:Nat)
 (hb:∀ i,i<N->(P i->f (i:Int)=some (.go ((i+1:Nat):Int)))∧(¬ P i->f (i:Int)=some (.out (.out r)))) (he:f (N:Int)=some (.out (.go ()))) (hn:N<n) :
 (loopM f n 0).bind (lpK K)=if (∀ i,i<N->P i) then K () else some r:=by
 obtain⟨g1,g2⟩:=Qyv (n:=n) (r:=r) P N 0 (λi hi _=>hb i (by omega)) (by rw[Nat.zero_add];exact he) hn
 simp only[Nat.zero_add,Nat.zero_le,true_implies] at g1 g2
 by_cases h:∀ i,i<N->P i
 . rw[if_pos h]
   have:=g1 h
   rw[show((0:Nat):Int)=0 from rfl] at this
   rw[this,Option.bind_some,Xi]
 . rw[if_neg h]
   have:=g2 h
   rw[show((0:Nat):Int)=0 from rfl] at this
   rw[this,Option.bind_some,Qc2]
theorem Qdp{α β:Type}(h:α->β){l:List α}{i:Nat}{x:α}(hx:l[i]?=some x):(l.take (i+1)).map h=(l.take i).map h++[h x]:=by
 rw[List.take_succ_eq_append_getElem (Ky hx),List.map_append]
 have:l[i]'(Ky hx)=x:=by
  have:=List.getElem?_eq_getElem (Ky hx)
  rw[this] at hx;exact Option.some.inj hx
 simp[this]
theorem Qxq:∀ {a b:List Nat},Wd a->Wd b->a.length=b.length->val a=val b->a=b
 | [],[],_,_,_,_=>rfl
 | [],_::_,_,_,h,_=>by simp at h
 | _::_,[],_,_,h,_=>by simp at h
 | x::a,y::b,ha,hb,hl,hv=>by
   obtain⟨h1,h2⟩:=Ju.1 ha
   obtain⟨h3,h4⟩:=Ju.1 hb
   simp only[val] at hv
   have:x=y:=by omega
   subst this
   rw[Qxq h2 h4 (by simpa using hl) (by omega)]
theorem Qom{x y:Nat}:cmpI x y=0↔x=y:=by
 unfold cmpI
 split
 . constructor<;>intro h<;>omega
 . split
   . constructor<;>intro h<;>omega
   . constructor<;>intro h<;>omega
open Classical in
theorem Qon{n:Nat}{f:Qb}(hn:big≤n)(hf:Fw f):Wm n f=some (decide (f=toF (fv f))):=by
 unfold Wm
 rw[Vj hn hf,sbind,jn_eq]
 have w1:Wd (toF (fv f)).Num.Abs:=Qy _
 have w2:Wd (toF (fv f)).Den:=Qy _
 generalize toF (fv f)=g at *
 obtain⟨⟨h1,h2⟩,h3,h4⟩:=hf
 obtain⟨⟨s,a⟩,d⟩:=f
 obtain⟨⟨t,b⟩,e⟩:=g
 simp only at h1 h2 h3 h4 w1 w2 ⊢
 have hno:∀ {P:Prop},(P->False)->(some false:Option Bool)=some (decide P):=λh=>by rw[decide_eq_false h]
 by_cases c1:s=t
 . subst c1
   rw[show(s == s)=true by simp,bifT]
   by_cases c2:(a.length:Int)=(b.length:Int)
   . rw[decide_eq_true c2,bifT]
     by_cases c3:(d.length:Int)=(e.length:Int)
     . rw[decide_eq_true c3,bifT,Qg5 hn (by omega) (by omega) h1 w1,sbind]
       by_cases c4:val a=val b
       . rw[decide_eq_true (Qom.2 c4),bifT,Qg5 hn (by omega) (by omega) h3 w2,sbind]
         by_cases c5:val d=val e
         . rw[decide_eq_true (Qom.2 c5),Qxq h1 w1 (by omega) c4,Qxq h3 w2 (by omega) c5,decide_eq_true rfl]
         . rw[decide_eq_false λh=>c5 (Qom.1 h)];exact hno λh=>by cases h;exact c5 rfl
       . rw[decide_eq_false λh=>c4 (Qom.1 h),bifF];exact hno λh=>by cases h;exact c4 rfl
     . rw[decide_eq_false c3,bifF];exact hno λh=>by cases h;exact c3 rfl
   . rw[decide_eq_false c2,bifF];exact hno λh=>by cases h;exact c2 rfl
 . rw[show(s == t)=false by simpa using c1,bifF];exact hno λh=>by cases h;exact c1 rfl
def qw(q:Rat):Nat:=max (toL q.num.natAbs).length (toL q.den).length
theorem Vt{j k:Nat}{f:Qb}(h:Fk j f)(hk:j≤k):Fk k f:=⟨h.1,by have:=h.2.1;omega,h.2.2.1,by have:=h.2.2.2;omega⟩
theorem Ve{q:Rat}{k:Nat}(h:qw q≤k):Fk k (toF q):=by
 unfold qw at h
 exact⟨Qbr _,by show(toL q.num.natAbs).length≤k;omega,Qy _,by show(toL q.den).length≤k;omega⟩
theorem toL1:(toL 1).length=1:=by rw[Qar (by decide)];simp[V5]
theorem Qrq{z:Int}{d k:Nat}(hd:d≠0)(h1:(toL z.natAbs).length≤k)(h2:(toL d).length≤k):qw (mkRat z d)≤k:=by
 obtain⟨e1,e2⟩:=Qci (z:=z) hd
 unfold qw
 rw[e1,e2]
 have g1:=K3 (Int.natAbs_ediv_le_natAbs z (Nat.gcd z.natAbs d:Int))
 have g2:=K3 (Nat.div_le_self d (Nat.gcd z.natAbs d))
 omega
theorem Qbx:qw 0=1:=by
 unfold qw
 rw[show(0:Rat).num=0 from rfl,show(0:Rat).den=1 from rfl,toL1]
 simp[V5]
theorem Q1d(q:Rat):1≤qw q:=by
 have:=(Qek (v:=q.den)).2 q.den_nz
 unfold qw;omega
theorem qw_fv{f:Qb}{k:Nat}(h:Fk k f)(h1:1≤k):qw (fv f)≤k:=by
 unfold fv
 by_cases h0:val f.Den=0
 . rw[h0,Rat.mkRat_zero,Qbx];exact h1
 . refine Qrq h0 ?_ ?_
   . rw[Qd9];exact Nat.le_trans (Jj h.1) h.2.1
   . exact Nat.le_trans (Jj h.2.2.1) h.2.2.2
theorem Qas(q:Rat):(toL q.num.natAbs).length≤qw q:=by unfold qw;omega
theorem Qcl(q:Rat):(toL q.den).length≤qw q:=by unfold qw;omega
theorem Qab{a b:Rat}{j k:Nat}(ha:qw a≤j)(hb:qw b≤k):qw (a*b)≤j+k:=by
 rw[←Rat.mkRat_self a,←Rat.mkRat_self b,Rat.mkRat_mul_mkRat]
 have n1:=Qas a;have n2:=Qas b;have d1:=Qcl a;have d2:=Qcl b
 have:=@Yq a.num.natAbs b.num.natAbs
 have:=@Yq a.den b.den
 exact Qrq (Nat.mul_ne_zero a.den_nz b.den_nz) (by rw[Int.natAbs_mul];omega) (by omega)
theorem Qg6{a b:Rat}{j k:Nat}(ha:qw a≤j)(hb:qw b≤k):qw (a+b)≤j+k+1:=by
 rw[←Rat.mkRat_self a,←Rat.mkRat_self b,Rat.mkRat_add_mkRat _ _ a.den_nz b.den_nz]
 have n1:=Qas a;have n2:=Qas b;have d1:=Qcl a;have d2:=Qcl b
 have m1:=@Yq a.num.natAbs b.den
 have m2:=@Yq b.num.natAbs a.den
 have m3:=@Yq a.den b.den
 refine Qrq (Nat.mul_ne_zero a.den_nz b.den_nz) ?_ (by omega)
 refine Nat.le_trans (K3 (Int.natAbs_add_le _ _)) ?_
 rw[Int.natAbs_mul,Int.natAbs_mul,Int.natAbs_natCast,Int.natAbs_natCast]
 exact Qmq (by omega) (by omega)
theorem Qtl(a:Rat):(-a).num=-a.num:=rfl
theorem Qxr(a:Rat):(-a).den=a.den:=rfl
theorem Qs2(a:Rat):qw (-a)=qw a:=by unfold qw;rw[Qtl,Qxr,Int.natAbs_neg]
theorem Qv4{a b:Rat}{j k:Nat}(ha:qw a≤j)(hb:qw b≤k):qw (a - b)≤j+k+1:=by
 rw[Rat.sub_eq_add_neg];exact Qg6 ha (by rw[Qs2];exact hb)
theorem Q1e{a:Rat}{j:Nat}(ha:qw a≤j):qw a⁻¹≤j:=by
 have n1:=Qas a;have d1:=Qcl a;have p:=Q1d a
 unfold qw
 rw[Rat.num_inv,Rat.den_inv]
 have h1:(toL (a.num.sign*(a.den:Int)).natAbs).length≤j:=by
  rw[Int.natAbs_mul,Int.natAbs_natCast]
  refine Nat.le_trans (K3 (y:=a.den) ?_) (by omega)
  have:a.num.sign.natAbs≤1:=by rw[Int.natAbs_sign];split<;>omega
  calc a.num.sign.natAbs*a.den≤1*a.den:=Nat.mul_le_mul_right _ this
   _=a.den:=Nat.one_mul _
 have h2:(toL (if a.num=0 then 1 else a.num.natAbs)).length≤j:=by
  split
  . rw[toL1];omega
  . omega
 omega
theorem Qs3{a b:Rat}{j k:Nat}(ha:qw a≤j)(hb:qw b≤k):qw (a / b)≤j+k:=by
 rw[Rat.div_def];exact Qab ha (Q1e hb)
theorem Q1f{a:Rat}{j:Nat}(ha:qw a≤j):∀ n:Nat,qw (a ^ n)≤n*j+1
 | 0=>by rw[Rat.pow_zero];unfold qw;rw[show(1:Rat).num=1 from rfl,show(1:Rat).den=1 from rfl,show(1:Int).natAbs=1 from rfl,toL1];omega
 | n+1=>by
   have:=Qab (Q1f ha n) ha
   rw[Rat.pow_succ,Nat.succ_mul];omega
theorem Q8d(x:Int):toF (x:Rat)=⟨toW x,toL 1⟩:=by unfold toF;rw[Rat.num_intCast,Rat.den_intCast]
theorem Ql5{n:Nat}{x:Int}(hn:big≤n)(h1:-9223372036854775808≤x)(h2:x≤9223372036854775807):Qfl n x=some (toW x):=by
 unfold Qfl
 rw[bifd]
 split
 . rename_i h
   have e:(18446744073709551616 - Int.toNat (x%18446744073709551616))%18446744073709551616=x.natAbs:=by omega
   rw[sbind,e,Qej hn (by omega),sbind,Xl,sbind,if_pos rfl,show -((x.natAbs:Nat):Int)=x by omega]
 . rename_i h
   have e:Int.toNat (x%18446744073709551616)=x.natAbs:=by omega
   rw[e,Qej hn (by omega),sbind,Xl,sbind,if_neg (by decide),show((x.natAbs:Nat):Int)=x by omega]
theorem Qj5{n:Nat}{x:Int}(hn:big≤n)(h1:-9223372036854775808≤x)(h2:x≤9223372036854775807):Kx n x=some (toF (x:Rat)):=by
 unfold Kx
 rw[Ql5 hn h1 h2,sbind,Qej hn (by decide),sbind,Q8d]
theorem Qat{n:Nat}(hn:big≤n):Kx n 0=some (toF 0):=Qj5 hn (by decide) (by decide)
theorem Qij{n:Nat}(hn:big≤n):Kx n 1=some (toF 1):=Qj5 hn (by decide) (by decide)
theorem Q36{z:Int}{d:Nat}(hd:d≠0):(mkRat z d).num.sign=z.sign:=by
 have:=Qqk (a:=z) (b:=0) hd (e:=1) (by decide)
 rw[Rat.zero_mkRat,show mkRat z d - 0=mkRat z d by rw[Rat.sub_eq_add_neg,show(-0:Rat)=0 from rfl,Rat.add_zero]] at this
 rw[←this];simp
theorem Qfd{n k:Nat}{f:Qb}(hn:big≤n)(h1:1≤k)(hk:k<1099511627776)(hf:Fk k f):Qaz n f=some (fv f).num.sign:=by
 obtain⟨w,d,a1,a2,a3,a4,a5,a6,a7⟩:=Qdn hn hf h1 (by omega)
 unfold Qaz
 rw[a1,sbind,Qd8 hn ⟨a2,by omega⟩,sbind,←a7,Q36 a6]
theorem Q1g{a b:Rat}:(a - b).num=0↔a=b:=by
 rw[Rat.num_eq_zero];grind
theorem Qkw{n k:Nat}{f g:Qb}(hn:big≤n)(h1:1≤k)(hk:k<1099511627776)(hf:Fk k f)(hg:Fk k g):Zz n f g=some (decide (fv f=fv g)):=by
 unfold Zz
 rw[Yc hn h1 hk hf hg,sbind]
 refine congrArg some (decide_eq_decide.2 ?_)
 rw[Int.sign_eq_zero_iff_zero,Q1g]
def absQ(q:Rat):Rat:=if q.num<0 then -q else q
theorem Q8e(q:Rat):toF (absQ q)=⟨⟨false,(toF q).Num.Abs⟩,(toF q).Den⟩:=by
 unfold absQ toF toW
 split
 . rw[Qtl,Qxr,Int.natAbs_neg,decide_eq_false (by omega)]
 . rw[decide_eq_false (by omega)]
theorem Qzo{n k:Nat}{f:Qb}(hn:big≤n)(hk:k<1099511627776)(hf:Fk k f):Qjr n f=some (toF (absQ (fv f))):=by
 unfold Qjr
 rw[Vj hn (Fk_Fw hf (by omega)),sbind,Q8e]
def qz(q:Rat):Nat:=blen q.num.natAbs+blen q.den
theorem Qxs{n k:Nat}{f:Qb}(hn:big≤n)(hk:k<1099511627776)(hf:Fk k f):Wc n f=some ((blen (val f.Num.Abs)+blen (val f.Den):Nat):Int):=by
 unfold Wc
 obtain⟨h1,h2,h3,h4⟩:=hf
 have b1:=@Qro (val f.Num.Abs)
 have b2:=@Qro (val f.Den)
 have b3:=Jj h1
 have b4:=Jj h3
 rw[Qr2 hn (by omega) h1,sbind,Qr2 hn (by omega) h3,sbind,w64 (by omega) (by omega)]
 rfl
theorem Qoo{n:Nat}{q:Rat}(hn:big≤n)(hk:qw q<1099511627776):Wc n (toF q)=some (qz q:Int):=by
 rw[Qxs hn hk (Ve (Nat.le_refl _))]
 unfold qz toF toW
 simp only[Qo]
theorem Qv5{v b:Nat}(h:blen v≤b):(toL v).length≤b / 32+1:=by
 refine Qai ?_
 have h1:=@Qmp v
 rw[Qib]
 exact Nat.lt_of_lt_of_le h1 (Nat.pow_le_pow_right (by decide) (by omega))
theorem qw_qz{q:Rat}{b:Nat}(h:qz q≤b):qw q≤b / 32+1:=by
 unfold qz at h
 have h1:=@Qv5 q.num.natAbs b (by omega)
 have h2:=@Qv5 q.den b (by omega)
 unfold qw;omega
theorem Q8f:∀ {u:Qf},wv u≠0->(wv u).sign=if u.Neg then -1 else 1
 | ⟨false,a⟩,h=>by
   have e:wv ⟨false,a⟩=(val a:Int):=rfl
   rw[e] at h ⊢;rw[Int.sign_eq_one_of_pos (by omega)];rfl
 | ⟨true,a⟩,h=>by
   have e:wv ⟨true,a⟩=-(val a:Int):=rfl
   rw[e] at h ⊢;rw[Int.sign_eq_neg_one_of_neg (by omega)];rfl
theorem Qs4{z:Int}{d:Nat}(hz:z≠0)(hd:d≠0):(mkRat z d)⁻¹=mkRat (z.sign*(d:Int)) z.natAbs:=by
 have h0:mkRat z d≠0:=λh=>hz ((Rat.mkRat_eq_zero hd).1 h)
 have h1:mkRat z d*mkRat (z.sign*(d:Int)) z.natAbs=1:=by
  rw[Rat.mkRat_mul_mkRat,←Int.mul_assoc,Int.mul_sign_self,show(1:Rat)=mkRat 1 1 from rfl,Rat.mkRat_eq_iff (Nat.mul_ne_zero hd (by omega)) (by decide)]
  simp[Int.mul_comm]
 grind
theorem Qr4{n k:Nat}{f g:Qb}(hn:big≤n)(h1:1≤k)(hk:k<1099511627776)(hf:Fk k f)(hg:Fk k g):Qfm n f g=some (if fv g=0 then (toF 0,false) else (toF (fv f / fv g),true)):=by
 obtain⟨w,d,a1,a2,a3,a4,a5,a6,a7⟩:=Qdn hn hf h1 (by omega)
 obtain⟨u,e,b1,b2,b3,b4,b5,b6,b7⟩:=Qdn hn hg h1 (by omega)
 unfold Qfm
 rw[a1,sbind,b1,sbind,Qd8 hn ⟨b2,by omega⟩,sbind,bifd]
 have hz:(wv u).sign=0↔fv g=0:=by rw[←b7,Rat.mkRat_eq_zero b6,Int.sign_eq_zero_iff_zero]
 by_cases h0:fv g=0
 . rw[if_pos (hz.2 h0),if_pos h0,Qat hn,sbind]
 . rw[if_neg (λh=>h0 (hz.1 h)),if_neg h0,Qbf hn ⟨a2,by omega⟩ b4 (by omega),sbind,Qdm hn (by omega) (by omega) a4 b2,sbind]
   have l1:=Qip a2 a3 (Nat.le_trans (Jj b4) b5)
   have l3:=@Yq (val d) (val u.Abs)
   have l4:=Jj a4
   have l5:=Jj b2
   have hu0:wv u≠0:=λh=>h0 (by rw[←b7,h,Rat.zero_mkRat])
   have hv0:val u.Abs≠0:=by rw[←Qd9];omega
   rw[Qbw (w:=⟨(toW (wv w * ↑(val e))).Neg != u.Neg,(toW (wv w * ↑(val e))).Abs⟩) hn ⟨Qbr (wv w * ↑(val e)),by show(toW (wv w * ↑(val e))).Abs.length<_;omega⟩ (Qy _) (by omega) (by rw[Qo];exact Nat.mul_ne_zero a6 hv0),sbind,Qo]
   refine congrArg some (Prod.ext ?_ rfl)
   refine congrArg toF ?_
   have e1:wv (⟨((toW (wv w * ↑(val e))).Neg != u.Neg),(toW (wv w * ↑(val e))).Abs⟩:Qf)=(wv w*(val e:Int))*(wv u).sign:=by
    have t:=Zx (wv w * ↑(val e))
    generalize toW (wv w * ↑(val e))=x at t ⊢
    rw[←t]
    have hs:=Q8f hu0
    rw[hs]
    unfold wv
    cases x.Neg<;>cases u.Neg<;>simp
   rw[e1,←a7,←b7,Rat.div_def]
   have e2:=Qs4 hu0 b6
   rw[Qd9] at e2
   rw[e2,Rat.mkRat_mul_mkRat]
   congr 1
   rw[Int.mul_assoc,Int.mul_comm (val e:Int)]
def padL(l:Nat)(a:List Nat):List Nat:=a++List.replicate (l - a.length) 0
theorem Q1h{l:Nat}{a:List Nat}(h:a.length≤l):(padL l a).length=l:=by unfold padL;simp;omega
theorem Q1i(l:Nat)(a:List Nat):val (padL l a)=val a:=by unfold padL;rw[Wq,Qei];simp
theorem Q2z{l:Nat}{a:List Nat}(h:Wd a):Wd (padL l a):=Jr.2 ⟨h,Qj3 (by omega)⟩
theorem Q1j{l:Nat}{a:List Nat}{j:Nat}(h:j<(padL l a).length):(padL l a)[j]=a.getD j 0:=by
 unfold padL at h ⊢
 by_cases hj:j<a.length
 . rw[List.getElem_append_left hj];simp[hj]
 . rw[List.getElem_append_right (by omega),List.getElem_replicate];simp[List.getElem?_eq_none (show a.length≤j by omega)]
theorem Qkx{n:Nat}{a b:List Nat}(hn:big≤n)(ha:a.length≤4611686018427387904)(hb:b.length≤4611686018427387904)(hwa:Wd a)(hwb:Wd b):Xp n a b=some (cmpI (val a) (val b)):=by
 unfold Xp
 obtain⟨l,hl⟩:∃ l:Nat,l=max a.length b.length:=⟨_,rfl⟩
 have hmax:max (a.length:Int) (b.length:Int)=(l:Int):=by omega
 have la:=Q1h (l:=l) (a:=a) (by omega)
 have lb:=Q1h (l:=l) (a:=b) (by omega)
 have wa:=Q2z (l:=l) hwa
 have wb:=Q2z (l:=l) hwb
 have ga:∀ j (h:j<(padL l a).length),(padL l a)[j]=a.getD j 0:=λj h=>Q1j h
 have gb:∀ j (h:j<(padL l b).length),(padL l b)[j]=b.getD j 0:=λj h=>Q1j h
 rw[hmax,←Q1i l a,←Q1i l b]
 generalize padL l a=a' at *
 generalize padL l b=b' at *
 unfold big at hn
 rw[w64 (by omega) (by omega)]
 refine Y9 (λs=>(s+1).toNat) (λs=>∃ k:Nat,s=(k:Int) - 1∧k≤l∧a'.drop k=b'.drop k) (λt=>(t=.go ()∧a'=b')∨(t=.out (-1)∧val a'<val b')∨(t=.out 1∧val b'<val a')) ⟨l,rfl,Nat.le_refl _,by rw[List.drop_of_length_le (by omega),List.drop_of_length_le (by omega)]⟩ (by omega) ?_ ?_
 . rintro s ⟨k,rfl,hk,ht⟩
   simp only[bifd]
   by_cases h0:0<k
   . obtain⟨j,rfl⟩:∃ j,k=j+1:=⟨k - 1,by omega⟩
     have hj:j<a'.length:=by omega
     have hj':j<b'.length:=by omega
     rw[if_pos (by omega),show((j+1:Nat):Int) - 1=(j:Nat) by omega,Qch,sbind,Qch,sbind,←ga j hj,←gb j hj']
     by_cases g1:a'[j]<b'[j]
     . right
       rw[if_pos g1]
       exact⟨_,rfl,.inr (.inl ⟨rfl,Qtk wa hj hj' ht g1⟩)⟩
     . rw[if_neg g1]
       by_cases g2:b'[j]<a'[j]
       . right
         rw[if_pos g2]
         exact⟨_,rfl,.inr (.inr ⟨rfl,Qtk wb hj' hj ht.symm g2⟩)⟩
       . left
         rw[if_neg g2,w64 (by omega) (by omega)]
         refine⟨_,rfl,⟨j,rfl,by omega,?_⟩,by omega⟩
         rw[List.drop_eq_getElem_cons hj,List.drop_eq_getElem_cons hj',ht,show a'[j]=b'[j] by omega]
   . right
     obtain rfl:k=0:=by omega
     rw[if_neg (by omega)]
     exact⟨_,rfl,.inl ⟨rfl,by simpa using ht⟩⟩
 . rintro t (⟨rfl,h⟩ | ⟨rfl,h⟩ | ⟨rfl,h⟩)
   . rw[Xi,h];simp[cmpI]
   . rw[Qc2,cmpI,if_pos h]
   . rw[Qc2,cmpI,if_neg (by omega),if_pos h]
theorem Q1k{x y c:Nat}(hx:x<4294967296)(hy:y<4294967296)(hc:c≤1):∃ d c',d<4294967296∧c'≤1∧d+y+c=x+4294967296*c' ∧
 ∀ {R:Type}(k:Nat×Nat->R),(if x<(y+c)%18446744073709551616 then k (1,(x+4294967296)%18446744073709551616) else k (0,x))=k (c',x+4294967296*c')∧(x+4294967296*c'+18446744073709551616 - (y+c)%18446744073709551616)%18446744073709551616%4294967296=d:=by
 rw[Nat.mod_eq_of_lt (show y+c<18446744073709551616 by omega)]
 by_cases h:x<y+c
 . exact⟨x+4294967296 - (y+c),1,by omega,by omega,by omega,λk=>⟨by rw[if_pos h,Nat.mod_eq_of_lt (by omega)],by omega⟩⟩
 . exact⟨x - (y+c),0,by omega,by omega,by omega,λk=>⟨by rw[if_neg h];rfl,by omega⟩⟩
theorem Qyw{P s o av bv:Nat}(h:o+bv=av+P*s)(hle:bv≤av)(ho:o<P):s=0:=by
 rcases Nat.eq_zero_or_pos s with h' | h'
 . exact h'
 . exfalso
   have:P*1≤P*s:=Nat.mul_le_mul_left _ h'
   omega
theorem Qql{n:Nat}{a b:List Nat}(hn:big≤n)(ha:a.length<17592186044416)(hb:b.length<17592186044416)(hwa:Wd a)(hwb:Wd b)(hle:val b≤val a):Ws n a b=some (toL (val a - val b)):=by
 unfold Ws
 unfold big at hn
 obtain⟨l,hl⟩:∃ l:Nat,l=max a.length b.length:=⟨_,rfl⟩
 have hmax:max (a.length:Int) (b.length:Int)=(l:Int):=by omega
 rw[hmax,Qfc (by omega) (by omega),sbind]
 refine Y9 (λs=>l - s.2.2.toNat) (λs=>∃(k:Nat) (o:List Nat),s.2.2=k∧k≤l∧s.1=o++List.replicate (l - k) 0∧o.length=k∧Wd o∧s.2.1≤1∧val o+val (b.take k)=val (a.take k)+bp k*s.2.1)
  (λt=>t.length=l∧Wd t∧val t=val a - val b) ⟨0,[],rfl,by omega,by simp,rfl,Vd,by simp,by simp[val,X5]⟩ (by simp only[];omega) ?_ ?_
 . rintro⟨q,s,i⟩ ⟨k,o,h1,h2,h3,h4,h5,h6,h7⟩
   simp only at h1 h3 h6 h7
   subst h1 h3
   simp only[sbind,bifd,jn_eq]
   by_cases hk:k<l
   . left
     have hx:=Qhg hwa k
     have hy:=Qhg hwb k
     obtain⟨d,c',g1,g2,g3,g4⟩:=Q1k hx hy h6
     rw[if_pos (by omega),Qch,sbind,Qch,sbind]
     have g5:=(g4 (λs34:Nat×Nat=>(getI (o++List.replicate (l - k) 0) (k:Int)).bind λ_=>some (Lp.go (σ:=List Nat×Nat×Int) (τ:=List Nat) ((o++List.replicate (l - k) 0).set (Int.toNat (k:Int)) ((s34.2+18446744073709551616 - (b.getD k 0+s)%18446744073709551616)%18446744073709551616%4294967296),s34.1,wrap64 ((k:Int)+1))))).1
     have g6:=(g4 (λ_=>())).2
     rw[g5]
     simp only[]
     rw[g6]
     obtain⟨j,hj⟩:∃ j,l - k=j+1:=⟨l - k - 1,by omega⟩
     rw[hj,List.replicate_succ,K7 h4,sbind,W6 h4,w64 (by omega) (by omega)]
     refine⟨_,rfl,⟨k+1,o++[d],by simp only[];omega,by omega,?_,by simp[h4],Jr.2 ⟨h5,Ju.2 ⟨g1,Vd⟩⟩,g2,?_⟩,by simp only[];omega⟩
     . simp only[];rw[show l - (k+1)=j by omega];simp
     . simp only[]
       rw[Wk,Wk,Kh,h4,K5]
       exact Quq _ _ _ _ _ _ _ _ _ g3 h7
   . right
     obtain rfl:k=l:=by omega
     rw[if_neg (by omega)]
     refine⟨_,rfl,by simp[h4],by simpa using h5,?_⟩
     rw[List.take_of_length_le (by omega),List.take_of_length_le (by omega)] at h7
     have h8:s=0:=Qyw h7 hle (by rw[←h4];exact W2 h5)
     rw[h8,Nat.mul_zero,Nat.add_zero] at h7
     simp only[Nat.sub_self,List.replicate_zero,List.append_nil]
     omega
 . rintro t ⟨h1,h2,h3⟩
   rw[Wj (by unfold big;exact hn) (by omega),sbind,←Jv h2,h3]
theorem Qiq{k l:Nat}(h:k<l):grd (winS (k:Int) l)=some ():=grd_t (by unfold winS;simp;omega)
theorem Qop{n:Nat}{p a q b:List Nat}(hn:big≤n)(hl:p.length+a.length+q.length<17592186044416)(hb:b.length≤a.length)(hwa:Wd a)(hwb:Wd b)(hle:val b≤val a):
 ∃ r,Wf n (p++a++q) p.length a.length b=some (p++r++q)∧r.length=a.length∧Wd r∧val r=val a - val b:=by
 have key:∃ r,Wf n (p++a++q) p.length a.length b=some r∧∃ r',r=p++r'++q∧r'.length=a.length∧Wd r'∧val r'=val a - val b:=by
  unfold Wf
  unfold big at hn
  refine Qd7 (λs=>a.length - s.2.2.toNat) (λs=>∃(k:Nat) (o:List Nat),s.2.2=k∧k≤a.length∧s.1=p++o++(a.drop k++q)∧o.length=k∧Wd o∧s.2.1≤1∧val o+val (b.take k)=val (a.take k)+bp k*s.2.1)
   (λt=>∃ o,t=p++o++q∧o.length=a.length∧Wd o∧val o=val a - val b) ⟨0,[],rfl,by omega,by simp,rfl,Vd,by simp,by simp[val,X5]⟩ (by simp only[];omega) ?_ ?_
  . rintro⟨w,s,i⟩ ⟨k,o,h1,h2,h3,h4,h5,h6,h7⟩
    simp only at h1 h3 h6 h7
    subst h1 h3
    simp only[sbind,bifd,jn_eq]
    by_cases hk:k<a.length
    . left
      have hx:=Za hwa hk
      have hy:=Qhg hwb k
      obtain⟨d,c',g1,g2,g3,g4⟩:=Q1k hx hy h6
      rw[if_pos (by omega),Qiq hk,sbind,show((p.length:Int)+(k:Int))=((p.length+k:Nat):Int) by omega,List.drop_eq_getElem_cons hk,List.cons_append,K7 (by simp;omega),sbind,Qch,sbind]
      have g5:=(g4 (λs38:Nat×Nat=>(getI (p++o++a[k]::(a.drop (k+1)++q)) ((p.length+k:Nat):Int)).bind λ_=>some (Lp.go (σ:=List Nat×Nat×Int) (τ:=List Nat) ((p++o++a[k]::(a.drop (k+1)++q)).set (Int.toNat ((p.length+k:Nat):Int)) ((s38.2+18446744073709551616 - (b.getD k 0+s)%18446744073709551616)%18446744073709551616%4294967296),s38.1,wrap64 ((k:Int)+1))))).1
      have g6:=(g4 (λ_=>())).2
      rw[K7 (by simp;omega)] at g5
      simp only[sbind,Qiq hk] at g5 ⊢
      rw[g5,g6,W6 (by simp;omega),w64 (by omega) (by omega)]
      refine⟨_,rfl,⟨k+1,o++[d],by simp only[];omega,by omega,by simp,by simp[h4],Jr.2 ⟨h5,Ju.2 ⟨g1,Vd⟩⟩,g2,?_⟩,by simp only[];omega⟩
      simp only[]
      rw[Wk,Kv hk,Kh,Kh,List.length_take,Nat.min_eq_left (by omega),h4,K5]
      exact Quq _ _ _ _ _ _ _ _ _ g3 h7
    . right
      obtain rfl:k=a.length:=by omega
      rw[if_neg (by omega)]
      refine⟨_,rfl,o,by simp,h4,h5,?_⟩
      rw[List.take_of_length_le (by omega),List.take_of_length_le (by omega)] at h7
      have h8:s=0:=Qyw h7 hle (by rw[←h4];exact W2 h5)
      rw[h8,Nat.mul_zero,Nat.add_zero] at h7
      omega
  . rintro t ⟨o,rfl,h1,h2,h3⟩
    exact⟨_,rfl,o,rfl,h1,h2,h3⟩
 obtain⟨r,h1,r',h2,h3,h4,h5⟩:=key
 exact⟨r',by rw[h1,h2],h3,h4,h5⟩
theorem Q6v(P y c c' d V A m:Nat)(e:d+4294967296*c'=2*y+c)(h:V+P*c=2*A+m):V+P*d+P*4294967296*c'=2*(A+P*y)+m:=by grind
theorem Ql8{n:Nat}{a:List Nat}{b:Bool}(hn:big≤n)(hl:a.length<17592186044416)(hwa:Wd a):
 ∃ r c,Wn n a b=some r∧r.length=a.length∧Wd r∧val r+bp a.length*c=2*val a+b.toNat:=by
 have key:∃ r,Wn n a b=some r∧∃ c,r.length=a.length∧Wd r∧val r+bp a.length*c=2*val a+b.toNat:=by
  unfold Wn
  unfold big at hn
  have e:∀ k:Nat->Option (List Nat),jn (λ(j1:(Nat)->Option _)=>bif b then (j1 1) else (j1 0)) k=k b.toNat:=by intro k;cases b<;>rfl
  rw[e]
  refine Qd7 (λs=>a.length - s.2.2.toNat) (λs=>∃(k:Nat) (o:List Nat),s.2.2=k∧k≤a.length∧s.1=o++a.drop k∧o.length=k∧Wd o∧s.2.1≤1∧val o+bp k*s.2.1=2*val (a.take k)+b.toNat)
   (λt=>∃ c,t.length=a.length∧Wd t∧val t+bp a.length*c=2*val a+b.toNat) ⟨0,[],rfl,by omega,by simp,rfl,Vd,by simp only[];cases b<;>decide,by simp[val,X5]⟩ (by simp only[];omega) ?_ ?_
  . rintro⟨w,s,i⟩ ⟨k,o,h1,h2,h3,h4,h5,h6,h7⟩
    simp only at h1 h3 h6 h7
    subst h1 h3
    simp only[sbind,bifd]
    have hol:(o++a.drop k).length=a.length:=by simp;omega
    by_cases hk:k<a.length
    . left
      have hx:=Za hwa hk
      rw[if_pos (by rw[hol];omega),List.drop_eq_getElem_cons hk,K7 h4,sbind,sbind,sbind,W6 h4,w64 (by omega) (by omega)]
      refine⟨_,rfl,⟨k+1,o++[(a[k]*2%4294967296+s)%4294967296],by simp only[];omega,by omega,by simp,by simp[h4],Jr.2 ⟨h5,Ju.2 ⟨by omega,Vd⟩⟩,by simp only[];omega,?_⟩,by simp only[];omega⟩
      simp only[]
      rw[Kv hk,Kh,Kh,List.length_take,Nat.min_eq_left (by omega),h4,K5]
      exact Q6v _ _ _ _ _ _ _ _ (by omega) h7
    . right
      obtain rfl:k=a.length:=by omega
      rw[if_neg (by rw[hol];omega)]
      rw[List.take_of_length_le (by omega)] at h7
      exact⟨_,rfl,s,by simp;omega,by simpa using h5,by simpa using h7⟩
  . rintro t ⟨c,h1,h2,h3⟩
    exact⟨_,rfl,c,h1,h2,h3⟩
 obtain⟨r,h1,c,h2⟩:=key
 exact⟨r,c,h1,h2⟩
theorem Q6w(w t r:Nat)(hr:r<32):(w+4294967296*t) / 2 ^ r%2=w / 2 ^ r%2:=by
 have e:(4294967296:Nat)=2 ^ r*(2*2 ^ (31 - r)):=by
  rw[←Nat.mul_assoc,Nat.mul_comm (2 ^ r) 2,Nat.mul_assoc,←Nat.pow_add,show r+(31 - r)=31 by omega]
 rw[e,Nat.mul_assoc,Nat.add_mul_div_left _ _ (Nat.two_pow_pos r),Nat.mul_assoc 2,Nat.add_mul_mod_self_left]
theorem Q20{a:List Nat}(hw:Wd a)(q r:Nat)(hr:r<32):val a / 2 ^ (32*q+r)%2=a.getD q 0 / 2 ^ r%2:=by
 rw[Nat.pow_add,←Qib,←Nat.div_div_eq_div_mul,Qok hw]
 by_cases h:q<a.length
 . rw[List.drop_eq_getElem_cons h]
   simp only[val]
   rw[Q6w _ _ _ hr];simp[h]
 . rw[List.drop_of_length_le (by omega)];simp[val,List.getElem?_eq_none (show a.length≤q by omega)]
theorem Qxt{n i:Nat}{a:List Nat}(hn:big≤n)(hi:i<4611686018427387904)(hw:Wd a):Qan n a (i:Int)=some (decide (val a / 2 ^ i%2=1)):=by
 unfold Qan
 have hd:Int.tdiv (i:Int) 32=((i / 32:Nat):Int):=rfl
 have hm:Int.tmod (i:Int) 32=((i%32:Nat):Int):=rfl
 have hb:=Q20 hw (i / 32) (i%32) (Nat.mod_lt _ (by decide))
 rw[show 32*(i / 32)+i%32=i by omega] at hb
 rw[hd,hm,w64 (by omega) (by omega),hb]
 simp only[jn_eq,bifd]
 rw[if_neg (by omega)]
 by_cases h:i / 32<a.length
 . rw[if_neg (by omega),Qbe h,sbind]
   rw[Xf (λk=>(a[i / 32] / 2 ^ k,(k:Int))) (i%32) (a[i / 32] / 2 ^ (i%32))]
   . simp[h]
   . intro k hk
     simp only[]
     rw[if_pos (by omega),Nat.div_div_eq_div_mul,←Nat.pow_succ,w1 (by omega)]
   . simp only[]
     rw[if_neg (by omega)]
   . unfold big at hn;omega
   . simp
 . rw[if_pos (by omega)]
   simp[List.getElem?_eq_none (show a.length≤i / 32 by omega)]
theorem Qky{n:Nat}{a:List Nat}(hn:big≤n)(hl:a.length<17592186044416)(hw:Wd a):Xq n a=some (blen (val a):Int):=by
 unfold Xq
 rw[w64 (by omega) (by omega)]
 have h0:val a<2 ^ (32*a.length):=by rw[←Qib];exact W2 hw
 refine Y9 (λs=>s.toNat) (λs=>∃ k:Nat,s=k∧k≤32*a.length∧val a<2 ^ k) (λt=>t=(blen (val a):Int)) ⟨32*a.length,by omega,Nat.le_refl _,h0⟩ (by unfold big at hn;omega) ?_ ?_
 . rintro s ⟨k,rfl,hk,hv⟩
   simp only[jn_eq,bifd]
   by_cases h:0<k
   . obtain⟨j,rfl⟩:∃ j,k=j+1:=⟨k - 1,by omega⟩
     rw[if_pos (by omega),w64 (by omega) (by omega),show((j+1:Nat):Int) - 1=(j:Nat) by omega,Qxt hn (by omega) hw,sbind]
     by_cases hb:val a / 2 ^ j%2=1
     . right
       rw[decide_eq_true hb,Bool.not_true,bifF]
       refine⟨_,rfl,?_⟩
       have h1:2 ^ j≤val a:=by
        rcases Nat.lt_or_ge (val a) (2 ^ j) with g | g
        . rw[Nat.div_eq_of_lt g] at hb;cases hb
        . exact g
       rw[Qxk h1 hv]
     . left
       rw[decide_eq_false hb,Bool.not_false,bifT]
       refine⟨_,rfl,⟨j,rfl,by omega,?_⟩,by omega⟩
       have h2:val a / 2 ^ j<2:=Nat.div_lt_of_lt_mul (by rw[←Nat.pow_succ];exact hv)
       have h3:val a / 2 ^ j=0:=by
        clear hv h0
        generalize val a / 2 ^ j=z at *
        omega
       rcases Nat.lt_or_ge (val a) (2 ^ j) with g | g
       . exact g
       . have:=Nat.div_pos g (Nat.two_pow_pos j);omega
   . right
     obtain rfl:k=0:=by omega
     rw[if_neg (by omega),bifF]
     refine⟨_,rfl,?_⟩
     have:val a=0:=by simpa using hv
     rw[this,Qff]
 . rintro t rfl;rfl
theorem Qyx{P c x:Nat}(h:P*c≤x)(hx:x<P):c=0:=by
 rcases Nat.eq_zero_or_pos c with h' | h'
 . exact h'
 . exfalso
   have:P*1≤P*c:=Nat.mul_le_mul_left _ h'
   omega
theorem Q6x(x j:Nat):x / 2 ^ j=2*(x / 2 ^ (j+1))+x / 2 ^ j%2:=by
 rw[Nat.pow_succ,←Nat.div_div_eq_div_mul]
 generalize x / 2 ^ j=z
 omega
theorem Q5g{a b q r:Nat}(h:a=q*b+r)(hr:r<b):q=a / b∧r=a%b:=by
 have h0:0<b:=by omega
 rw[h,Nat.mul_comm q b,Nat.mul_add_div h0,Nat.mul_add_mod,Nat.div_eq_of_lt hr,Nat.mod_eq_of_lt hr]
 exact⟨by omega,rfl⟩
theorem Q5h{A A2 q q2 r r2 b t:Nat}(e:A=2*A2+t)(h:A2=q*b+r)(h1:q2=2*q)(h2:r2=2*r+t):A=q2*b+r2:=by subst h1 h2;grind
theorem Q5i{A A2 q q2 q3 r r2 r3 b t:Nat}(e:A=2*A2+t)(h:A2=q*b+r)(h1:q2=2*q)(h2:r2=2*r+t)(h3:q3=q2+1)(h4:r3=r2 - b)(h5:b≤r2):A=q3*b+r3:=by
 obtain⟨d,rfl⟩:∃ d,r2=b+d:=⟨r2 - b,by omega⟩
 have:r3=d:=by omega
 subst this h3 h1
 grind
theorem Q21{x y:Nat}:0≤cmpI x y↔y≤x:=by
 unfold cmpI
 split
 . constructor<;>intro h<;>omega
 . split<;>constructor<;>intro h<;>omega
theorem Q1l{k:Nat}(h:k<32):(1*2 ^ min (Int.toNat (k:Int)) 32)%4294967296=2 ^ k:=by
 rw[Int.toNat_natCast,Nat.min_eq_left (by omega),Nat.one_mul]
 exact Nat.mod_eq_of_lt (Nat.lt_of_lt_of_le (Nat.pow_lt_pow_right (by decide) h) (by decide))
theorem Qr5{a:List Nat}(hw:Wd a):blen (val a)≤32*a.length:=by
 by_cases h:val a=0
 . rw[h,Qff];omega
 . have h1:=Qks h
   have h2:=W2 hw
   rw[Qib] at h2
   have h3:=(Nat.pow_lt_pow_iff_right (show 1<2 by decide)).1 (Nat.lt_of_le_of_lt h1 h2)
   omega
theorem Qqm{n:Nat}{a b:List Nat}(hn:big≤n)(ha:a.length<17592186044410)(hb:b.length<17592186044410)(hwa:Wd a)(hwb:Wd b)(h0:val b≠0):
 Yw n a b=some (toL (val a / val b),toL (val a%val b)):=by
 unfold Yw
 have hbl:=Qr5 hwa
 have hbb:=W2 hwb
 have hva:=W2 hwa
 rw[w64 (x:=(b.length:Int)+1) (by omega) (by omega),show((b.length:Int)+1)=((b.length+1:Nat):Int) by omega,Qfc (by omega) (by omega),sbind,Qfc (by omega) (by omega),sbind,Qky hn (by omega) hwa,sbind,w64 (by omega) (by omega)]
 refine Y9 (λs=>(s.2.2+1).toNat) (λs=>∃ k:Nat,s.2.2=(k:Int) - 1∧k≤blen (val a)∧s.1.length=a.length∧s.2.1.length=b.length+1∧Wd s.1∧Wd s.2.1∧val s.2.1<val b∧val a / 2 ^ k=val s.1*val b+val s.2.1)
  (λt=>t.1.length=a.length∧t.2.length=b.length+1∧Wd t.1∧Wd t.2∧val t.2<val b∧val a=val t.1*val b+val t.2) ⟨blen (val a),rfl,Nat.le_refl _,by simp,by simp,Qj3 (by decide),Qj3 (by decide),by simp only[];rw[Qei];omega,by simp only[];rw[Qei,Qei,Nat.div_eq_of_lt Qmp];simp⟩ (by simp only[];unfold big at hn;omega) ?_ ?_
 . rintro⟨q,r,i⟩ ⟨k,h1,h2,h3,h4,h5,h6,h7,h8⟩
   simp only at h1 h3 h4 h5 h6 h7 h8
   subst h1
   simp only[jn_eq,sbind]
   by_cases hk:0<k
   . left
     obtain⟨j,rfl⟩:∃ j,k=j+1:=⟨k - 1,by omega⟩
     have hd:Int.tdiv (j:Int) 32=((j / 32:Nat):Int):=rfl
     have hm:Int.tmod (j:Int) 32=((j%32:Nat):Int):=rfl
     have hq:j / 32<a.length:=by omega
     have hp:(1*2 ^ min (Int.toNat ((j%32:Nat):Int)) 32)%4294967296=2 ^ (j%32):=Q1l (Nat.mod_lt _ (by decide))
     have hbit:=Q20 hwa (j / 32) (j%32) (Nat.mod_lt _ (by decide))
     rw[show 32*(j / 32)+j%32=j by omega,show a.getD (j / 32) 0=a[j / 32] by simp[hq]] at hbit
     have hp0:0<2 ^ (j%32):=Nat.two_pow_pos _
     obtain⟨r2,c1,d1,d2,d3,d4⟩:=Ql8 (b:=decide (a[j / 32] / 2 ^ (j%32)%2=1)) hn (show r.length<17592186044416 by omega) h6
     obtain⟨q2,c2,e1,e2,e3,e4⟩:=Ql8 (b:=false) hn (show q.length<17592186044416 by omega) h5
     have hhb:=Q6x (val a) j
     have ht:(decide (a[j / 32] / 2 ^ (j%32)%2=1)).toNat=val a / 2 ^ j%2:=by
      rw[hbit]
      generalize a[j / 32] / 2 ^ (j%32)=z
      by_cases g:z%2=1
      . rw[decide_eq_true g,g];rfl
      . rw[decide_eq_false g];simp only[Bool.toNat_false];omega
     rw[ht] at d4
     have ht2:val a / 2 ^ j%2<2:=Nat.mod_lt _ (by decide)
     have hAle:val a / 2 ^ j≤val a:=Nat.div_le_self _ _
     generalize hA:val a / 2 ^ j=A at *
     generalize hA2:val a / 2 ^ (j+1)=A2 at *
     generalize A%2=t at *
     have hqb:val q≤val q*val b:=Nat.le_mul_of_pos_right _ (by omega)
     have c1z:c1=0:=by
      rw[h4,K5] at d4
      refine Qyx (P:=bp b.length*4294967296) (x:=2*val r+t) (by omega) ?_
      omega
     have c2z:c2=0:=by
      rw[h3] at e4
      refine Qyx (P:=bp a.length) (x:=2*val q+0) (by simp only[Bool.toNat_false] at e4;omega) (by omega)
     subst c1z c2z
     simp only[Nat.mul_zero,Nat.add_zero,Bool.toNat_false] at d4 e4
     simp only[show((j+1:Nat):Int) - 1=(j:Nat) by omega,hd,hm,w64 (x:=((j / 32:Nat):Int)) (by omega) (by omega),hp]
     rw[decide_eq_true (show(0:Int)≤(j:Int) by omega),bifT,Qbe hq,sbind,grd_t (decide_eq_true (Int.natCast_nonneg _)),sbind,grd_t (bne_iff_ne.2 (by omega)),sbind,d1,sbind,e1,sbind,Qkx hn (by omega) (by omega) d3 hwb,sbind,bifd]
     by_cases hge:val b≤val r2
     . rw[if_pos (Q21.2 hge)]
       obtain⟨r3,l1,l2,l3,l4⟩:=Qop (p:=[]) (q:=[]) hn (by simp;omega) (show b.length≤r2.length by omega) d3 hwb hge
       simp only[List.nil_append,List.append_nil,List.length_nil] at l1
       rw[l1,sbind]
       cases q2 with
       | nil=>simp at e2;omega
       | cons x t2=>
         obtain⟨x1,x2⟩:=Ju.1 e3
         have hv:val (x::t2)=x+4294967296*val t2:=rfl
         rw[hv] at e4
         rw[show getI (x::t2) 0=some x from rfl,sbind,sbind,show(x::t2).set (Int.toNat 0) ((x+1)%4294967296)=(x+1)%4294967296::t2 from rfl,w64 (by omega) (by omega)]
         have hx:(x+1)%4294967296=x+1:=by omega
         rw[hx]
         refine⟨_,rfl,⟨j,rfl,by omega,by simpa [h3] using e2,by simp only[];omega,Ju.2 ⟨by omega,x2⟩,l3,by simp only[];omega,?_⟩,by simp only[];omega⟩
         simp only[]
         rw[hA]
         exact Q5i hhb h8 e4 d4 (by simp only[val];omega) l4 hge
     . rw[if_neg (λh=>hge (Q21.1 h)),w64 (by omega) (by omega)]
       refine⟨_,rfl,⟨j,rfl,by omega,by simp only[];omega,by simp only[];omega,e3,d3,by simp only[];omega,?_⟩,by simp only[];omega⟩
       simp only[]
       rw[hA]
       exact Q5h hhb h8 e4 d4
   . right
     obtain rfl:k=0:=by omega
     rw[decide_eq_false (by omega),bifF]
     rw[Nat.pow_zero,Nat.div_one] at h8
     exact⟨_,rfl,h3,h4,h5,h6,h7,h8⟩
 . rintro⟨q,r⟩ ⟨h1,h2,h3,h4,h5,h6⟩
   simp only at h1 h2 h3 h4 h5 h6
   obtain⟨e1,e2⟩:=Q5g h6 h5
   simp only[]
   rw[Wj hn (by omega),sbind,Wj hn (by omega),sbind,←Jv h3,←Jv h4,←e1,←e2]
theorem Q6y{x c y:Nat}(h:x=2 ^ c*y)(h2:y%2=0):x=2 ^ (c+1)*(y / 2):=by
 rw[Nat.pow_succ,Nat.mul_assoc,h];congr 1;omega
theorem Q5j{x c y k:Nat}(h:x=2 ^ c*y)(h0:y≠0)(hx:x<2 ^ k):c<k:=by
 have h1:2 ^ c*1≤2 ^ c*y:=Nat.mul_le_mul_left _ (by omega)
 exact(Nat.pow_lt_pow_iff_right (show 1<2 by decide)).1 (show 2 ^ c<2 ^ k by omega)
theorem Qut{n x:Nat}(hn:big≤n)(h0:x≠0)(hx:x<4294967296):∃ z o:Nat,Xy n x=some (z:Int)∧z<32∧x=2 ^ z*o∧o%2=1:=by
 have hx2:x<2 ^ 32:=hx
 have key:∃ r:Int,Xy n x=some r∧∃ z o:Nat,r=z∧z<32∧x=2 ^ z*o∧o%2=1:=by
  unfold Xy
  rw[bifd,if_neg h0]
  refine Qd7 (λs=>s.1) (λs=>∃ c:Nat,s.2=c∧x=2 ^ c*s.1∧s.1≠0) (λt=>∃ z o:Nat,t=z∧z<32∧x=2 ^ z*o∧o%2=1) ⟨0,rfl,by simp,h0⟩ (by simp only[];unfold big at hn;omega) ?_ ?_
  . rintro⟨y,i⟩ ⟨c,h1,h2,h3⟩
    simp only at h1 h2 h3
    subst h1
    have hc:=Q5j h2 h3 hx2
    simp only[bifd]
    by_cases h:y%2=0
    . left
      rw[if_pos h,w1 (by omega)]
      exact⟨_,rfl,⟨c+1,rfl,Q6y h2 h,by simp only[];omega⟩,by simp only[];omega⟩
    . right
      rw[if_neg h]
      exact⟨_,rfl,c,y,rfl,hc,h2,by omega⟩
  . rintro t ⟨z,o,rfl,h1,h2,h3⟩
    exact⟨_,rfl,z,o,rfl,h1,h2,h3⟩
 obtain⟨r,h1,z,o,rfl,h2,h3,h4⟩:=key
 exact⟨z,o,h1,h2,h3,h4⟩
theorem Qqn(a:List Nat):Yv a=some (decide (a=[1])):=by
 unfold Yv
 simp only[jn_eq,bifd]
 match a with
 | []=>rfl
 | [x]=>rw[if_pos (show(([x]:List Nat).length:Int)=1 from rfl)];exact congrArg some (decide_eq_decide.2 (by simp))
 | x::y::t=>rw[if_neg (by simp;omega)];simp
theorem mid2{α:Type}(l:List α)(x y:α)(r:List α):l++x::y::r=(l++[x])++y::r:=by simp
theorem Q5k{a a' V z:Nat}(hz:z<32)(ha:a<4294967296)(ha':a'<4294967296):
 (a+4294967296*(a'+4294967296*V)) / 2 ^ z=((a'*4294967296)%18446744073709551616+a)%18446744073709551616 / 2 ^ (min z 64)%4294967296+4294967296*((a'+4294967296*V) / 2 ^ z):=by
 rw[Nat.mod_eq_of_lt (show a'*4294967296<18446744073709551616 by omega),Nat.mod_eq_of_lt (show a'*4294967296+a<18446744073709551616 by omega),Nat.min_eq_left (by omega)]
 have h1:(a+4294967296*(a'+4294967296*V)) / 2 ^ z / 4294967296=(a'+4294967296*V) / 2 ^ z:=by
  rw[Nat.div_div_eq_div_mul,Nat.mul_comm (2 ^ z) 4294967296,←Nat.div_div_eq_div_mul]
  congr 1;omega
 have h2:(a+4294967296*(a'+4294967296*V)) / 2 ^ z%4294967296=(a'*4294967296+a) / 2 ^ z%4294967296:=by
  have e:(4294967296:Nat)=2 ^ z*2 ^ (32 - z):=by rw[←Nat.pow_add,show z+(32 - z)=32 by omega]
  have e2:a+4294967296*(a'+4294967296*V)=(a'*4294967296+a)+2 ^ z*(4294967296*(2 ^ (32 - z)*V)):=by
   rw[Nat.mul_left_comm (2 ^ z),←Nat.mul_assoc (2 ^ z),←e];omega
  rw[e2,Nat.add_mul_div_left _ _ (Nat.two_pow_pos z),Nat.add_mul_mod_self_left]
 rw[←h1,←h2];omega
theorem Qik{a:List Nat}{k:Nat}(h:k<a.length):val (a.drop k)=a[k]+4294967296*val (a.drop (k+1)):=by
 rw[List.drop_eq_getElem_cons h];rfl
theorem Qzp{a:List Nat}{k:Nat}:val (a.drop k)=a.getD k 0+4294967296*val (a.drop (k+1)):=by
 by_cases h:k<a.length
 . rw[Qik h];simp[h]
 . rw[List.drop_of_length_le (by omega),List.drop_of_length_le (by omega)];simp[val,List.getElem?_eq_none (show a.length≤k by omega)]
theorem Q5l(P w V2 V V1 A:Nat)(e:V=w+4294967296*V2)(h:V1+P*V=A):V1+P*w+P*4294967296*V2=A:=by grind
theorem Qv6{n z:Nat}{p a q:List Nat}(hn:big≤n)(hl:p.length+a.length+q.length<17592186044416)(hwa:Wd a)(hz:z<32):
 ∃ r k,Yg n (p++a++q) p.length a.length (z:Int)=some (p.length,k,p++r++q)∧r.length=a.length∧Wd r∧k≤r.length∧r.take k=toL (val a / 2 ^ z):=by
 have key:∃ w,Yg n (p++a++q) p.length a.length (z:Int)=some w∧∃ r k,w=(p.length,k,p++r++q)∧r.length=a.length∧Wd r∧k≤r.length∧r.take k=toL (val a / 2 ^ z):=by
  unfold Yg
  refine Qd7 (λs=>a.length - s.2.toNat) (λs=>∃(k:Nat) (o:List Nat),s.2=k∧k≤a.length∧s.1=p++o++(a.drop k++q)∧o.length=k∧Wd o∧val o+bp k*(val (a.drop k) / 2 ^ z)=val a / 2 ^ z)
   (λt=>∃ o,t=p++o++q∧o.length=a.length∧Wd o∧val o=val a / 2 ^ z) ⟨0,[],rfl,by omega,by simp,rfl,Vd,by simp[val,X5]⟩ (by simp only[];unfold big at hn;omega) ?_ ?_
  . rintro⟨w,i⟩ ⟨k,o,h1,h2,h3,h4,h5,h6⟩
    simp only at h1 h3 h6
    subst h1 h3
    simp only[bifd,jn_eq,sbind]
    by_cases hk:k<a.length
    . left
      have hx:=Za hwa hk
      have hy:=Qhg hwa (k+1)
      have hdw:=Q5k (V:=val (a.drop (k+1+1))) hz hx hy
      have hget:∀(K:Nat->Option (Lp (List Nat×Int) (List Nat))),(if wrap64 ((k:Int)+1)<(a.length:Int) then (grd (winS (wrap64 ((k:Int)+1)) a.length)).bind λ_=>(getI (p++o++(a.drop k++q)) ((p.length:Int)+wrap64 ((k:Int)+1))).bind λy48=>K y48 else K 0)=K (a.getD (k+1) 0):=by
       intro K
       rw[w1 (by omega)]
       by_cases hk1:k+1<a.length
       . rw[if_pos (by omega),Qiq hk1,sbind,show((p.length:Int)+((k+1:Nat):Int))=((p.length+k+1:Nat):Int) by omega,List.drop_eq_getElem_cons hk,List.drop_eq_getElem_cons hk1,List.cons_append,List.cons_append,mid2,K7 (by simp;omega),sbind]
         simp[hk1]
       . rw[if_neg (by omega)];simp[List.getElem?_eq_none (show a.length≤k+1 by omega)]
      rw[if_pos (by omega),hget (λs47=>(grd (winS (k:Int) a.length)).bind λ_=>(getI (p++o++(a.drop k++q)) ((p.length:Int)+(k:Int))).bind λy51=>(grd (decide (0≤(z:Int)))).bind λ_=>(grd (winS (k:Int) a.length)).bind λ_=>(getI (p++o++(a.drop k++q)) ((p.length:Int)+(k:Int))).bind λ_=>some (Lp.go ((p++o++(a.drop k++q)).set (Int.toNat ((p.length:Int)+(k:Int))) (((s47*4294967296)%18446744073709551616+y51)%18446744073709551616 / 2 ^ (min (Int.toNat (z:Int)) 64)%4294967296),wrap64 ((k:Int)+1))))]
      rw[Qiq hk,sbind,show((p.length:Int)+(k:Int))=((p.length+k:Nat):Int) by omega,List.drop_eq_getElem_cons hk,List.cons_append,K7 (by simp;omega),sbind,grd_t (decide_eq_true (Int.natCast_nonneg _)),sbind,sbind,sbind,W6 (by simp;omega),w1 (by omega),Int.toNat_natCast]
      have hwl:(a.getD (k+1) 0*4294967296%18446744073709551616+a[k])%18446744073709551616 / 2 ^ min z 64%4294967296<4294967296:=Nat.mod_lt _ (by decide)
      generalize (a.getD (k+1) 0*4294967296%18446744073709551616+a[k])%18446744073709551616 / 2 ^ min z 64%4294967296=w at hdw hwl ⊢
      refine⟨_,rfl,⟨k+1,o++[w],rfl,by omega,by simp,by simp[h4],Jr.2 ⟨h5,Ju.2 ⟨hwl,Vd⟩⟩,?_⟩,by simp only[];omega⟩
      rw[Kh,h4,K5]
      refine Q5l _ _ _ _ _ _ ?_ h6
      rw[Qik hk,Qzp (k:=k+1)]
      exact hdw
    . right
      obtain rfl:k=a.length:=by omega
      rw[if_neg (by omega)]
      rw[List.drop_of_length_le (Nat.le_refl _)] at h6
      exact⟨_,rfl,o,by simp,h4,h5,by simpa [val] using h6⟩
  . rintro t ⟨o,rfl,h1,h2,h3⟩
    refine Qd7 (λs=>s.2) (λs=>s.1=p.length∧s.2≤o.length∧trimZ o=trimZ (o.take s.2)) (λt=>t.1=p.length∧t.2≤o.length∧trimZ o=o.take t.2) ⟨rfl,by simp only[];omega,by simp only[];rw[←h1,List.take_length]⟩ (by simp only[];unfold big at hn;omega) ?_ ?_
    . rintro⟨s1,k⟩ ⟨rfl,g2,g3⟩
      simp only at g2 g3
      simp only[jn_eq,bifd]
      by_cases h0:0<k
      . obtain⟨j,rfl⟩:∃ j,k=j+1:=⟨k - 1,by omega⟩
        have hj:j<o.length:=by omega
        rw[Kv hj] at g3
        rw[if_pos (by omega),w64 (by omega) (by omega),show((j+1:Nat):Int) - 1=(j:Nat) by omega,Qiq (by omega),sbind,show((p.length:Int)+(j:Int))=((p.length+j:Nat):Int) by omega]
        have hg:getI (p++o++q) ((p.length+j:Nat):Int)=some o[j]:=by
         rw[Qd6,List.append_assoc,List.getElem?_append_right (by omega),Nat.add_sub_cancel_left,List.getElem?_append_left hj,List.getElem?_eq_getElem hj]
        rw[hg,sbind]
        by_cases hz0:o[j]=0
        . left
          rw[if_pos hz0,grd_t (by unfold winC;simp;omega),sbind]
          exact⟨_,rfl,⟨by simp,by simp only[];omega,by simp only[];rw[g3,hz0,Qpv];simp⟩,by simp only[];omega⟩
        . right
          rw[if_neg hz0]
          exact⟨_,rfl,rfl,g2,by simp only[];rw[g3,Kv hj,Qvw _ hz0]⟩
      . right
        obtain rfl:k=0:=by omega
        rw[if_neg (by omega),bifF]
        exact⟨_,rfl,rfl,by simp only[];omega,by simp only[];rw[g3];simp[trimZ]⟩
    . rintro⟨s1,k⟩ ⟨rfl,g2,g3⟩
      simp only at g2 g3
      exact⟨_,rfl,o,k,rfl,h1,h2,g2,by rw[←g3,←Jv h2,h3]⟩
 obtain⟨w,h1,r,k,rfl,h2⟩:=key
 exact⟨r,k,h1,h2⟩
def Win(X:List Nat)(o l:Nat)(b:List Nat):Prop:=∃ p q,X=p++b++q∧p.length=o∧b.length=l
theorem Qtm{X:List Nat}{o l:Nat}{b:List Nat}(h:Win X o l b):subW X o l=some b:=by
 obtain⟨p,q,rfl,rfl,rfl⟩:=h
 unfold subW
 rw[if_pos (by simp)];simp
theorem Q22(b:List Nat):Win b 0 b.length b:=⟨[],[],by simp,rfl,rfl⟩
theorem oddw{w z o R:Nat}(hz:z<32)(e:w=2 ^ z*o)(ho:o%2=1):(w+4294967296*R) / 2 ^ z%2=1∧w+4294967296*R=2 ^ z*((w+4294967296*R) / 2 ^ z):=by
 have e2:(4294967296:Nat)=2 ^ z*(2*2 ^ (31 - z)):=by
  rw[←Nat.mul_assoc,Nat.mul_comm (2 ^ z) 2,Nat.mul_assoc,←Nat.pow_add,show z+(31 - z)=31 by omega]
 have e3:w+4294967296*R=2 ^ z*(o+2*(2 ^ (31 - z)*R)):=by
  rw[Nat.mul_add,←e,←Nat.mul_assoc 2,←Nat.mul_assoc (2 ^ z),←e2]
 rw[e3,Nat.mul_div_cancel_left _ (Nat.two_pow_pos z)]
 exact⟨by omega,rfl⟩
theorem Qkz{n o l:Nat}{X a:List Nat}(hn:big≤n)(hX:X.length<17592186044416)(hw:Win X o l a)(hwa:Wd a)(h0:val a≠0):
 ∃ o' l' t X',Vz n X o l=some (o',l',((t:Nat):Int),X')∧X'.length=X.length∧∃ u,val a=2 ^ t*u∧u%2=1∧Win X' o' l' (toL u)∧t≤32*a.length:=by
 obtain⟨p,q,rfl,rfl,rfl⟩:=hw
 have key:∃ w,Vz n (p++a++q) p.length a.length=some w∧∃ o' l' t X',w=(o',l',((t:Nat):Int),X')∧X'.length=(p++a++q).length∧∃ u,val a=2 ^ t*u∧u%2=1∧Win X' o' l' (toL u)∧t≤32*a.length:=by
  unfold Vz
  simp only[List.length_append] at hX
  have hlt:∀ j,val a=bp j*val (a.drop j)->j<a.length:=by
   intro j hj
   rcases Nat.lt_or_ge j a.length with h | h
   . exact h
   . rw[List.drop_of_length_le h] at hj;exact absurd hj (by simpa [val] using h0)
  refine Qd7 (λs=>s.2.1) (λs=>∃ j:Nat,s.1=p.length+j∧s.2.1=a.length - j∧s.2.2=((32*j:Nat):Int)∧val a=bp j*val (a.drop j))
   (λs=>∃ j:Nat,s.1=p.length+j∧s.2.1=a.length - j∧s.2.2=((32*j:Nat):Int)∧val a=bp j*val (a.drop j)∧a.getD j 0≠0) ⟨0,rfl,rfl,rfl,by rw[X5];simp⟩ (by simp only[];unfold big at hn;omega) ?_ ?_
  . rintro⟨s1,s2,s3⟩ ⟨j,rfl,rfl,rfl,h4⟩
    have hj:=hlt j h4
    have hg:getI (p++a++q) (((p.length+j:Nat):Int)+0)=some a[j]:=by
     rw[show(((p.length+j:Nat):Int)+0)=((p.length+j:Nat):Int) by omega,Qd6,List.append_assoc,List.getElem?_append_right (by omega),Nat.add_sub_cancel_left,List.getElem?_append_left hj,List.getElem?_eq_getElem hj]
    simp only[bifd]
    rw[show(0:Int)=((0:Nat):Int) from rfl,Qiq (by omega),sbind,show((0:Nat):Int)=0 from rfl,hg,sbind]
    by_cases hz:a[j]=0
    . left
      rw[if_pos hz,grd_t (by unfold winC;simp;omega),sbind,w64 (by omega) (by omega)]
      refine⟨_,rfl,⟨j+1,by simp only[];omega,by simp only[];omega,by simp only[];omega,?_⟩,by simp only[];omega⟩
      rw[h4,Qik hj,hz,K5,Nat.zero_add,Nat.mul_assoc]
    . right
      rw[if_neg hz]
      exact⟨_,rfl,j,rfl,rfl,rfl,h4,by simpa [hj] using hz⟩
  . rintro⟨s1,s2,s3⟩ ⟨j,rfl,rfl,rfl,h4,h5⟩
    have hj:=hlt j h4
    have hg:getI (p++a++q) (((p.length+j:Nat):Int)+0)=some a[j]:=by
     rw[show(((p.length+j:Nat):Int)+0)=((p.length+j:Nat):Int) by omega,Qd6,List.append_assoc,List.getElem?_append_right (by omega),Nat.add_sub_cancel_left,List.getElem?_append_left hj,List.getElem?_eq_getElem hj]
    have hx:=Za hwa hj
    have hz0:a[j]≠0:=by simpa [hj] using h5
    obtain⟨z,od,z1,z2,z3,z4⟩:=Qut hn hz0 hx
    simp only[]
    rw[show(0:Int)=((0:Nat):Int) from rfl,Qiq (by omega),sbind,show((0:Nat):Int)=0 from rfl,hg,sbind,z1,sbind]
    have hsp:p++a++q=(p++a.take j)++a.drop j++q:=by simp
    have hpl:(p++a.take j).length=p.length+j:=by simp;omega
    have hal:(a.drop j).length=a.length - j:=by simp
    obtain⟨r,k,d1,d2,d3,d4,d5⟩:=Qv6 (p:=p++a.take j) (a:=a.drop j) (q:=q) hn (by rw[hpl,hal];omega) (Qi5 hwa) z2
    rw[hpl,hal,←hsp] at d1
    rw[d1,sbind,w64 (by omega) (by omega)]
    obtain⟨w1,w2⟩:=oddw (R:=val (a.drop (j+1))) z2 z3 z4
    rw[←Qik hj] at w1 w2
    refine⟨_,rfl,p.length+j,k,32*j+z,p++a.take j++r++q,by simp,by simp;omega,val (a.drop j) / 2 ^ z,?_,w1,?_,by omega⟩
    . rw[Nat.pow_add,←Qib,Nat.mul_assoc,←w2];exact h4
    . refine⟨p++a.take j,r.drop k++q,?_,hpl,?_⟩
      . rw[←d5];simp only[List.append_assoc];rw[←List.append_assoc (r.take k),List.take_append_drop]
      . rw[←d5,List.length_take,Nat.min_eq_left (by omega)]
 obtain⟨w,h1,o',l',t,X',rfl,h2⟩:=key
 exact⟨o',l',t,X',h1,h2⟩
theorem Qt1{n t:Nat}{a:List Nat}(hn:big≤n)(hl:a.length<1099511627776)(ht:t<35184372088832)(hwa:Wd a):Y7 n a (t:Int)=some (toL (2 ^ t*val a)):=by
 unfold Y7
 have hd:Int.tdiv (t:Int) 32=((t / 32:Nat):Int):=rfl
 have hm:Int.tmod (t:Int) 32=((t%32:Nat):Int):=rfl
 have hp:(1*2 ^ min (Int.toNat ((t%32:Nat):Int)) 32)%4294967296=2 ^ (t%32):=Q1l (Nat.mod_lt _ (by decide))
 have hb:2 ^ (t%32)<4294967296:=Nat.lt_of_lt_of_le (Nat.pow_lt_pow_right (by decide) (Nat.mod_lt t (show 0<32 by decide))) (by decide)
 rw[hd,hm,w64 (by omega) (by omega),Qfc (by omega) (by omega),sbind,Wz (by simp;omega) (by simp;omega),sbind,grd_t (decide_eq_true (Int.natCast_nonneg _)),sbind,hp,sbind,Zj hn (by simp;omega) (by simp) (Jr.2 ⟨Qj3 (by decide),hwa⟩) (Ju.2 ⟨hb,Vd⟩),sbind,Wq,Qei,List.length_replicate,Qib,Nat.zero_add]
 congr 2
 simp only[val,Nat.mul_zero,Nat.add_zero]
 rw[Nat.mul_assoc,Nat.mul_comm (val a),←Nat.mul_assoc,←Nat.pow_add,show 32*(t / 32)+t%32=t by omega]
theorem Qxu{u t:Nat}(h:u%2=1):Nat.Coprime (2 ^ t) u:=Nat.Coprime.pow_left t (by
 have:Nat.gcd 2 u=1:=by rw[Nat.gcd_rec,h];rfl
 exact this)
theorem Q8g{m k u v:Nat}(hu:u%2=1)(hv:v%2=1):Nat.gcd (2 ^ m*u) (2 ^ k*v)=2 ^ (min m k)*Nat.gcd u v:=by
 by_cases h:m≤k
 . rw[Nat.min_eq_left h,show k=m+(k - m) by omega,Nat.pow_add,Nat.mul_assoc,Nat.gcd_mul_left,Nat.Coprime.gcd_mul_left_cancel_right _ (Qxu hu)]
 . rw[Nat.min_eq_right (by omega),show m=k+(m - k) by omega,Nat.pow_add,Nat.mul_assoc,Nat.gcd_mul_left,Nat.Coprime.gcd_mul_left_cancel _ (Qxu hv)]
theorem Qug{x k:Nat}(h:x<2 ^ k):blen x≤k:=by
 by_cases h0:x=0
 . rw[h0,Qff];omega
 . have h1:=Qks h0
   have:=(Nat.pow_lt_pow_iff_right (show 1<2 by decide)).1 (Nat.lt_of_le_of_lt h1 h)
   omega
theorem Q5m{x y t:Nat}(h:x=2 ^ t*y)(ht:t≠0)(h0:x≠0):blen y<blen x:=by
 have h1:=Qmp (x:=x)
 have hp:=Qrm h0
 obtain⟨k,hk⟩:∃ k,blen x=k+1:=⟨_,(Nat.sub_add_cancel hp).symm⟩
 rw[hk] at h1 ⊢
 have h2:y<2 ^ k:=by
  obtain⟨s,rfl⟩:∃ s,t=s+1:=⟨t - 1,by omega⟩
  rw[Nat.pow_succ] at h h1
  have h3:1*y≤2 ^ s*y:=Nat.mul_le_mul_right _ (Nat.two_pow_pos s)
  have h4:x=2*(2 ^ s*y):=by rw[h,Nat.mul_comm (2 ^ s) 2,Nat.mul_assoc]
  omega
 have:=Qug h2
 omega
theorem Q5n{x y:Nat}(h:x≤y):blen x≤blen y:=Qug (Nat.lt_of_le_of_lt h Qmp)
theorem Qoq{v:Nat}:blen v≤32*(toL v).length:=by
 have:=Qr5 (Qy v);rwa [Qo] at this
theorem Qqo{X:List Nat}{o l:Nat}{b:List Nat}(h:Win X o l b):b.length≤X.length∧b.length=l:=by
 obtain⟨p,q,rfl,rfl,rfl⟩:=h
 exact⟨by simp;omega,rfl⟩
def wval(X:List Nat)(o l:Nat):Nat:=val ((subW X o l).getD [])
theorem Qmr{X:List Nat}{o l u:Nat}(h:Win X o l (toL u)):wval X o l=u:=by
 unfold wval;rw[Qtm h,Option.getD_some,Qo]
theorem Q8h{u v:Nat}(hu:u%2=1)(hv:v%2=1)(h:v<u):(u - v)≠0∧(u - v)%2=0:=by omega
theorem Qj6{a:List Nat}(hw:Wd a):(trimZ a).length=0↔val a=0:=by
 rw[←Qsy hw]
 constructor
 . intro h;exact List.eq_nil_of_length_eq_zero h
 . intro h;rw[h];rfl
set_option maxHeartbeats 1000000 in
theorem Qxv{n:Nat}{a b:List Nat}(hn:big≤n)(ha:a.length<1099511627776)(hb:b.length<1099511627776)(hwa:Wd a)(hwb:Wd b):Qam n a b=some (toL (Nat.gcd (val a) (val b))):=by
 unfold Qam
 have la:=Xv a
 have lb:=Xv b
 rw[Wj hn (by omega),sbind,Wj hn (by omega),sbind]
 by_cases h0:val a=0
 . have:=(Qj6 hwa).2 h0
   rw[decide_eq_true (by omega),bifT,h0,Nat.gcd_zero_left,Jv hwb]
 rw[decide_eq_false (λh=>h0 ((Qj6 hwa).1 (by omega))),bifF]
 by_cases h0':val b=0
 . have:=(Qj6 hwb).2 h0'
   rw[decide_eq_true (by omega),bifT,h0',Nat.gcd_zero_right,Jv hwa]
 rw[decide_eq_false (λh=>h0' ((Qj6 hwb).1 (by omega))),bifF]
 obtain⟨o1,l1,t1,X1,e1,e2,u,e3,e4,e5,e6⟩:=Qkz hn (show(trimZ a).length<_ by omega) (Q22 _) (Q07 hwa) (by rw[Qoi];exact h0)
 obtain⟨o2,l2,t2,X2,f1,f2,v,f3,f4,f5,f6⟩:=Qkz hn (show(trimZ b).length<_ by omega) (Q22 _) (Q07 hwb) (by rw[Qoi];exact h0')
 rw[Qoi] at e3 f3
 rw[e1,sbind,f1,sbind,e3,f3,Q8g e4 f4]
 simp only[]
 have i1:=Qqo e5
 have i2:=Qqo f5
 have j1:=@Qoq u
 have j2:=@Qoq v
 have k1:=Qek (v:=u)
 refine Y9 (λs=>blen (wval s.1 s.2.1 s.2.2.1)+blen (wval s.2.2.2.1 s.2.2.2.2.1 s.2.2.2.2.2))
  (λs=>∃ x y:Nat,Win s.1 s.2.1 s.2.2.1 (toL x)∧Win s.2.2.2.1 s.2.2.2.2.1 s.2.2.2.2.2 (toL y)∧x%2=1∧y%2=1∧Nat.gcd x y=Nat.gcd u v∧s.1.length<1099511627776∧s.2.2.2.1.length<1099511627776)
  (λt=>Win t.1 t.2.1 t.2.2 (toL (Nat.gcd u v))∧t.1.length<1099511627776) ⟨u,v,e5,f5,e4,f4,rfl,by simp only[];omega,by simp only[];omega⟩ (by simp only[];rw[Qmr e5,Qmr f5];unfold big at hn;omega) ?_ ?_
 . 
  have round:∀(X:List Nat) (o l:Nat) (Y:List Nat) (o' l' x y:Nat),Win X o l (toL x)->Win Y o' l' (toL y)->x%2=1->y%2=1->Nat.gcd x y=Nat.gcd u v->X.length<1099511627776->Y.length<1099511627776->y<x →
   ∃ s':List Nat×Nat×Nat×List Nat×Nat×Nat,((some (toL y)).bind λy53=>(Wf n X o l y53).bind λr55=>(Vz n r55 o l).bind λr57=>some (Lp.go (σ:=List Nat×Nat×Nat×List Nat×Nat×Nat) (τ:=List Nat×Nat×Nat) (r57.2.2.2,r57.1,r57.2.1,Y,o',l')))=some (.go s') ∧
     (∃ x y:Nat,Win s'.1 s'.2.1 s'.2.2.1 (toL x)∧Win s'.2.2.2.1 s'.2.2.2.2.1 s'.2.2.2.2.2 (toL y)∧x%2=1∧y%2=1∧Nat.gcd x y=Nat.gcd u v∧s'.1.length<1099511627776∧s'.2.2.2.1.length<1099511627776) ∧
     blen (wval s'.1 s'.2.1 s'.2.2.1)+blen (wval s'.2.2.2.1 s'.2.2.2.2.1 s'.2.2.2.2.2)<blen x+blen y:=by
   intro X o l Y o' l' x y hX hY hx hy hg lX lY hlt
   obtain⟨p,q,rfl,rfl,rfl⟩:=hX
   obtain⟨r,g1,g2,g3,g4⟩:=Qop (p:=p) (a:=toL x) (q:=q) (b:=toL y) hn (by simp at lX;omega) (K3 (by omega)) (Qy _) (Qy _) (by rw[Qo,Qo];omega)
   rw[Qo,Qo] at g4
   obtain⟨s1,s2⟩:=Q8h hx hy hlt
   obtain⟨o3,l3,t3,X3,h1,h2,w,h3,h4,h5,h6⟩:=Qkz (X:=p++r++q) (o:=p.length) (l:=(toL x).length) (a:=r) hn (by simp[g2];simp at lX;omega) ⟨p,q,rfl,rfl,g2⟩ g3 (by rw[g4];exact s1)
   rw[g4] at h3
   have ht:t3≠0:=by rintro rfl;rw[Nat.pow_zero,Nat.one_mul] at h3;omega
   refine⟨(X3,o3,l3,Y,o',l'),by rw[sbind,g1,sbind,h1,sbind],⟨w,y,h5,hY,h4,hy,?_,?_,lY⟩,?_⟩
   . rw[←hg,←Nat.Coprime.gcd_mul_left_cancel (k:=2 ^ t3) w (Qxu hy),←h3,Nat.gcd_sub_self_left (by omega)]
   . rw[h2];simp[g2];simp at lX;omega
   . simp only[]
     rw[Qmr h5,Qmr hY]
     have c1:=Q5m h3 ht s1
     have c2:=Q5n (Nat.sub_le x y)
     omega
  rintro⟨X,o,l,Y,o',l'⟩ ⟨x,y,w1,w2,hx,hy,hg,lX,lY⟩
  simp only at w1 w2 lX lY
  have i3:=Qqo w1
  have i4:=Qqo w2
  simp only[jn_eq]
  rw[Qtm w1,sbind,Qtm w2,sbind,Qkx hn (by omega) (by omega) (Qy _) (Qy _),sbind,Qo,Qo,Qmr w1,Qmr w2,bifd,bifd]
  unfold cmpI
  by_cases c1:x<y
  . left
    rw[if_pos c1,if_neg (by decide),if_pos (by decide)]
    obtain⟨s',r1,r2,r3⟩:=round Y o' l' X o l y x w2 w1 hy hx (by rw[Nat.gcd_comm];exact hg) lY lX c1
    exact⟨s',r1,r2,by omega⟩
  . rw[if_neg c1]
    by_cases c2:y<x
    . left
      rw[if_pos c2,if_neg (by decide),if_neg (by decide)]
      exact round X o l Y o' l' x y w1 w2 hx hy hg lX lY c2
    . right
      rw[if_neg c2,if_pos rfl]
      obtain rfl:x=y:=by omega
      refine⟨_,rfl,?_,lX⟩
      rw[←hg,Nat.gcd_self];exact w1
 . rintro⟨X,o,l⟩ ⟨w1,lX⟩
   simp only at w1 lX
   have i3:=Qqo w1
   simp only[]
   have hmin:min (t1:Int) (t2:Int)=((min t1 t2:Nat):Int):=by omega
   rw[Qtm w1,sbind,hmin,Qt1 hn (by omega) (by omega) (Qy _),sbind,Qo]
theorem Qor{n:Nat}{a g:List Nat}(hn:big≤n)(ha:a.length<1099511627776)(hb:g.length<1099511627776)(hwa:Wd a)(hwg:Wd g)(h0:val g≠0):Yh n a g=some (toL (val a / val g)):=by
 unfold Yh
 rw[Qqn,sbind,bifd]
 split
 . rename_i h
   rw[h,Wj hn (by omega),sbind,←Jv hwa]
   simp[val]
 . rw[Qqm hn (by omega) (by omega) hwa hwg h0,sbind]
def wy(w:Qk):Int:=if w.Neg then -(val w.Abs:Int) else (val w.Abs:Int)
def rW(z:Int):Qk:=⟨decide (z<0),toL z.natAbs⟩
theorem wy_rW(z:Int):wy (rW z)=z:=by
 unfold wy rW
 simp only[Qo]
 by_cases h:z<0
 . rw[decide_eq_true h,if_pos rfl];omega
 . rw[decide_eq_false h,if_neg (by decide)];omega
theorem Qbg{n:Nat}{w:Qk}(hn:big≤n)(hw:Wd w.Abs)(hl:w.Abs.length≤35184372088832):J1 n w=some (rW (wy w)):=by
 unfold J1 rW wy
 rw[Wj hn hl,sbind,←Jv hw,jn_eq]
 cases w.Neg
 . rw[bifF,if_neg (by decide),decide_eq_false (by omega),Int.natAbs_natCast]
 . rw[bifT,if_pos rfl,Int.natAbs_neg,Int.natAbs_natCast]
   have:=Qek (v:=val w.Abs)
   refine congrArg (λb=>some (⟨b,_⟩:Qk)) (decide_eq_decide.2 ?_)
   omega
theorem Qqp{n:Nat}{w u:Qk}(hn:big≤n)(hw:Wd w.Abs)(hu:Wd u.Abs)(hl:w.Abs.length<17592186044410)(hl2:u.Abs.length<17592186044410):Yy n w u=some (rW (wy w+wy u)):=by
 unfold Yy
 have g1:=Jj hw
 have g2:=Jj hu
 have len:∀ z,z≤val w.Abs+val u.Abs->(toL z).length≤35184372088832:=λz hz=>Nat.le_trans (K3 hz) (Nat.le_trans (Qmq (k:=17592186044410) (by omega) (by omega)) (by decide))
 rw[Qqh hn (by omega) (by omega) hw hu,sbind,Qkx hn (by omega) (by omega) hw hu,sbind,bifd]
 obtain⟨s,a⟩:=w
 obtain⟨t,b⟩:=u
 simp only at *
 have hsum:∀ s,J1 n ⟨s,toL (val a+val b)⟩=some (rW (if s then -((val a+val b:Nat):Int) else ((val a+val b:Nat):Int))):=λs=>by
  rw[Qbg hn (Qy _) (len _ (Nat.le_refl _))];unfold wy;simp only[Qo]
 have hd1:∀ s,val b≤val a->(Ws n a b).bind (λr=>(J1 n ⟨s,r⟩).bind λr13=>some r13)=some (rW (if s then -((val a - val b:Nat):Int) else ((val a - val b:Nat):Int))):=λs h=>by
  rw[Qql hn (by omega) (by omega) hw hu h,sbind,Qbg hn (Qy _) (len _ (by omega)),sbind];unfold wy;simp only[Qo]
 have hd2:∀ s,val a≤val b->(Ws n b a).bind (λr=>(J1 n ⟨s,r⟩).bind λr13=>some r13)=some (rW (if s then -((val b - val a:Nat):Int) else ((val b - val a:Nat):Int))):=λs h=>by
  rw[Qql hn (by omega) (by omega) hu hw h,sbind,Qbg hn (Qy _) (len _ (by omega)),sbind];unfold wy;simp only[Qo]
 have hc:=@Q1c (val a) (val b)
 unfold wy
 simp only[hsum,sbind]
 by_cases h:val a<val b
 . rw[if_pos (hc.2 h),hd2 t (by omega)]
   cases s<;>cases t<;>simp only[beq_self_eq_true,bifT,bifF,Bool.false_eq_true,if_true,if_false,show(false == true)=false by rfl,show(true == false)=false by rfl]<;>congr 2<;>omega
 . rw[if_neg (λg=>h (hc.1 g)),hd1 s (by omega)]
   cases s<;>cases t<;>simp only[beq_self_eq_true,bifT,bifF,Bool.false_eq_true,if_true,if_false,show(false == true)=false by rfl,show(true == false)=false by rfl]<;>congr 2<;>omega
def rF(q:Rat):Qa:=⟨decide (q.num<0),toL q.num.natAbs,toL q.den⟩
def fr(f:Qa):Rat:=mkRat (if f.Neg then -(val f.N:Int) else (val f.N:Int)) (val f.D)
theorem Qqq(z:Int):(if decide (z<0) then -(z.natAbs:Int) else (z.natAbs:Int))=z:=by
 by_cases h:z<0
 . rw[decide_eq_true h,if_pos rfl];omega
 . rw[decide_eq_false h,if_neg (by decide)];omega
theorem fr_rF(q:Rat):fr (rF q)=q:=by
 unfold fr rF
 simp only[Qo]
 rw[Qqq];exact Rat.mkRat_self q
theorem Q96{p q:Rat}(h:rF p=rF q):p=q:=by rw[←fr_rF p,h,fr_rF]
theorem Q8i:toL 1=[1]:=by rw[Qar (by decide)];rw[show(1:Nat)%4294967296=1 from rfl,show(1:Nat) / 4294967296=0 from rfl,V5]
theorem Q23:rF 0=⟨false,[],[1]⟩:=by unfold rF;rw[show(0:Rat).num=0 from rfl,show(0:Rat).den=1 from rfl,Q8i,show(0:Int).natAbs=0 from rfl,V5];rfl
theorem rF_mk{s:Bool}{x d:Nat}(hx:x≠0)(hd:d≠0):rF (mkRat (if s then -(x:Int) else (x:Int)) d)=⟨s,toL (x / Nat.gcd x d),toL (d / Nat.gcd x d)⟩:=by
 obtain⟨e1,e2⟩:=Qci (z:=if s then -(x:Int) else (x:Int)) hd
 have e3:(if s then -(x:Int) else (x:Int)).natAbs=x:=by cases s<;>simp
 have hg:Nat.gcd x d ∣ x:=Nat.gcd_dvd_left _ _
 have hp:x / Nat.gcd x d≠0:=by
  have:=Nat.div_pos (Nat.le_of_dvd (Nat.pos_of_ne_zero hx) hg) (Nat.gcd_pos_of_pos_left d (Nat.pos_of_ne_zero hx))
  omega
 rw[e3] at e1 e2
 rw[←Q2y s x _ hg] at e1
 unfold rF
 rw[e1,e2]
 generalize x / Nat.gcd x d=y at hp
 cases s
 . rw[if_neg (by decide),decide_eq_false (by omega),Int.natAbs_natCast]
 . rw[if_pos rfl,decide_eq_true (by omega),Int.natAbs_neg,Int.natAbs_natCast]
theorem Wl{n:Nat}{f:Qa}(hn:big≤n)(hN:Wd f.N)(hD:Wd f.D)(lN:f.N.length<1099511627776)(lD:f.D.length<1099511627776):Jd n f=some (rF (fr f)):=by
 unfold Jd
 have g1:=Jj hN
 have g2:=Jj hD
 rw[Wj hn (by omega),sbind,Wj hn (by omega),sbind,←Jv hN,←Jv hD]
 simp only[jn_eq,bifd]
 have z1:=Qek (v:=val f.N)
 have z2:=Qek (v:=val f.D)
 unfold fr
 by_cases hd:val f.D=0
 . rw[if_pos (by omega),hd,Rat.mkRat_zero,Q23];rfl
 rw[if_neg (by omega)]
 by_cases hx:val f.N=0
 . rw[if_pos (by omega),hx]
   have:(if f.Neg=true then -((0:Nat):Int) else ((0:Nat):Int))=0:=by split<;>rfl
   rw[this,Rat.zero_mkRat,Q23]
 rw[if_neg (by omega),rF_mk hx hd,Qqn,sbind]
 have hg:Nat.gcd (val f.N) (val f.D)≠0:=by
  have:=Nat.gcd_pos_of_pos_left (val f.D) (Nat.pos_of_ne_zero hx);omega
 have lg:(toL (Nat.gcd (val f.N) (val f.D))).length<1099511627776:=Nat.lt_of_le_of_lt (K3 (Nat.gcd_le_left _ (Nat.pos_of_ne_zero hx))) (by omega)
 by_cases h1:toL (val f.D)=[1]
 . rw[decide_eq_true h1,Bool.not_true,bifF]
   have:val f.D=1:=by rw[←Qo (val f.D),h1];rfl
   rw[this,Nat.gcd_one_right,Nat.div_one,Nat.div_one]
 . rw[decide_eq_false h1,Bool.not_false,bifT,Qxv hn (by omega) (by omega) (Qy _) (Qy _),sbind,Qo,Qo,Qor hn (by omega) lg (Qy _) (Qy _) (by rw[Qo];exact hg),sbind,Qor hn (by omega) lg (Qy _) (Qy _) (by rw[Qo];exact hg),sbind,Qo,Qo,Qo]
theorem wy_mk(z:Int)(d:Nat):wy ⟨decide (z<0),toL (z.natAbs*d)⟩=z*(d:Int):=by
 unfold wy
 simp only[Qo,Int.natCast_mul]
 by_cases h:z<0
 . rw[decide_eq_true h,if_pos rfl,←Int.neg_mul];congr 1;omega
 . rw[decide_eq_false h,if_neg (by decide)];congr 1;omega
theorem Qau{n k:Nat}{p q:Rat}(hn:big≤n)(hk:k<274877906944)(hp:qw p≤k)(hq:qw q≤k):Kk n (rF p) (rF q)=some (rF (p+q)):=by
 have n1:=Qas p;have n2:=Qas q;have d1:=Qcl p;have d2:=Qcl q
 have m1:=@Yq p.num.natAbs q.den
 have m2:=@Yq q.num.natAbs p.den
 have m3:=@Yq p.den q.den
 unfold Kk rF
 simp only[]
 rw[Zj hn (by omega) (by omega) (Qy _) (Qy _),sbind,Zj hn (by omega) (by omega) (Qy _) (Qy _),sbind,Qo,Qo,Qo,Qo,Qqp hn (Qy _) (Qy _) (by simp only[];omega) (by simp only[];omega),sbind,wy_mk,wy_mk,Zj hn (by omega) (by omega) (Qy _) (Qy _),sbind,Qo,Qo]
 have hs:(toL (p.num*(q.den:Int)+q.num*(p.den:Int)).natAbs).length≤2*k+1:=by
  refine Nat.le_trans (K3 (Int.natAbs_add_le _ _)) ?_
  rw[Int.natAbs_mul,Int.natAbs_mul,Int.natAbs_natCast,Int.natAbs_natCast]
  exact Qmq (by omega) (by omega)
 rw[Wl hn (Qy _) (Qy _) (by unfold rW;simp only[];omega) (by simp only[];omega),sbind]
 have e:fr ⟨(rW (p.num*(q.den:Int)+q.num*(p.den:Int))).Neg,(rW (p.num*(q.den:Int)+q.num*(p.den:Int))).Abs,toL (p.den*q.den)⟩=p+q:=by
  unfold fr rW
  simp only[Qo]
  rw[Qqq,←Rat.mkRat_add_mkRat _ _ p.den_nz q.den_nz,Rat.mkRat_self,Rat.mkRat_self]
 rw[e];rfl
theorem Q97(z:Int)(hz:z≠0):(if (!decide (z<0)) then -(z.natAbs:Int) else (z.natAbs:Int))=-z:=by
 by_cases h:z<0
 . rw[decide_eq_true h,Bool.not_true,if_neg (by decide)];omega
 . rw[decide_eq_false h,Bool.not_false,if_pos rfl];omega
theorem Qqr{n k:Nat}{q:Rat}(hn:big≤n)(hk:k<274877906944)(hq:qw q≤k):Yx n (rF q)=some (rF (-q)):=by
 have n2:=Qas q;have d2:=Qcl q
 unfold Yx rF
 simp only[]
 rw[Wl hn (Qy _) (Qy _) (by simp only[];omega) (by simp only[];omega),sbind]
 have e:fr ⟨!decide (q.num<0),toL q.num.natAbs,toL q.den⟩=-q:=by
  unfold fr
  simp only[Qo]
  by_cases h0:q.num=0
  . rw[h0]
    have:q=0:=Rat.num_eq_zero.1 h0
    subst this;rfl
  . rw[Q97 _ h0,←Rat.neg_mkRat,Rat.mkRat_self]
 rw[e];rfl
theorem Qhj{n k:Nat}{p q:Rat}(hn:big≤n)(hk:k<274877906944)(hp:qw p≤k)(hq:qw q≤k):Wt n (rF p) (rF q)=some (rF (p - q)):=by
 unfold Wt
 rw[Qqr hn hk hq,sbind,Qau hn hk hp (by rw[Qs2];exact hq),sbind,Rat.sub_eq_add_neg]
theorem Q6z(z u:Int):(if (decide (z<0) != decide (u<0)) then -((z.natAbs*u.natAbs:Nat):Int) else ((z.natAbs*u.natAbs:Nat):Int))=z*u:=by
 rw[Q2x,Qqq,Qqq]
theorem Zk{n k:Nat}{p q:Rat}(hn:big≤n)(hk:k<274877906944)(hp:qw p≤k)(hq:qw q≤k):Jx n (rF p) (rF q)=some (rF (p*q)):=by
 have n1:=Qas p;have n2:=Qas q;have d1:=Qcl p;have d2:=Qcl q
 have m1:=@Yq p.num.natAbs q.num.natAbs
 have m3:=@Yq p.den q.den
 unfold Jx rF
 simp only[]
 rw[Zj hn (by omega) (by omega) (Qy _) (Qy _),sbind,Zj hn (by omega) (by omega) (Qy _) (Qy _),sbind,Qo,Qo,Qo,Qo,Wl hn (Qy _) (Qy _) (by simp only[];omega) (by simp only[];omega),sbind]
 have e:fr ⟨decide (p.num<0) != decide (q.num<0),toL (p.num.natAbs*q.num.natAbs),toL (p.den*q.den)⟩=p*q:=by
  unfold fr
  simp only[Qo]
  rw[Q6z,←Rat.mkRat_mul_mkRat,Rat.mkRat_self,Rat.mkRat_self]
 rw[e];rfl
theorem Q60{z u:Int}{d:Nat}(hu:u≠0):(if (decide (z<0) != decide (u<0)) then -((z.natAbs*d:Nat):Int) else ((z.natAbs*d:Nat):Int))=z*(u.sign*(d:Int)):=by
 rw[←Int.mul_assoc,Int.natCast_mul]
 have h1:=Qqq z
 by_cases h:u<0
 . rw[decide_eq_true h,Int.sign_eq_neg_one_of_neg h] at *
   by_cases h':z<0
   . rw[decide_eq_true h'] at *;simp only[bne_self_eq_false,Bool.false_eq_true,if_false,if_true] at *;rw[show z * -1=(z.natAbs:Int) by omega]
   . rw[decide_eq_false h'] at *;simp only[show(false != true)=true from rfl,if_true,Bool.false_eq_true,if_false] at *;rw[show z * -1=-(z.natAbs:Int) by omega,Int.neg_mul]
 . rw[decide_eq_false h,Int.sign_eq_one_of_pos (by omega)] at *
   by_cases h':z<0
   . rw[decide_eq_true h'] at *;simp only[show(true != false)=true from rfl,if_true] at *;rw[show z*1=-(z.natAbs:Int) by omega,Int.neg_mul]
   . rw[decide_eq_false h'] at *;simp only[bne_self_eq_false,Bool.false_eq_true,if_false] at *;rw[show z*1=(z.natAbs:Int) by omega]
theorem Qtn{v j:Nat}(h:(toL v).length≤j):∀ t,(toL (v ^ t)).length≤t*j+1
 | 0=>by rw[Nat.pow_zero,toL1];omega
 | t+1=>by
   have:=Qtn h t
   have:=@Yq (v ^ t) v
   rw[Nat.pow_succ,Nat.succ_mul];omega
theorem Qos{n j t:Nat}{a:List Nat}(hn:big≤n)(ha:Wd a)(hl:a.length≤j)(hj:j<1099511627776)(ht:t≤7+1):Qex n a (t:Int)=some (toL (val a ^ t)):=by
 unfold Qex
 rw[Qej hn (by decide),sbind]
 rw[Xf (λi=>(toL (val a ^ i),(i:Int))) t (toL (val a ^ t))]
 . intro i hi
   have h1:=Qtn (Nat.le_trans (Jj ha) hl) i
   have h2:i*j≤8*j:=Nat.mul_le_mul_right _ (by omega)
   simp only[bifd]
   rw[if_pos (by omega),Qdm hn (by omega) (by omega) (Qy _) ha,sbind,Qo,w1 (by omega),Nat.pow_succ]
 . simp only[bifd];rw[if_neg (by omega)]
 . unfold big at hn;omega
 . rfl
theorem Q24(z:Int)(t:Nat):(if (decide (z<0) && decide (t%2=1))=true then -((z.natAbs ^ t:Nat):Int) else ((z.natAbs ^ t:Nat):Int))=z ^ t:=by
 rw[Int.natCast_pow]
 by_cases hz:z<0
 . have e:(z.natAbs:Int)=-z:=by omega
   rw[e,decide_eq_true hz,Bool.true_and]
   rcases Nat.mod_two_eq_zero_or_one t with h | h
   . rw[if_neg (by rw[h];decide)]
     obtain⟨m,rfl⟩:∃ m,t=2*m:=⟨t / 2,by omega⟩
     rw[Int.pow_mul,Int.pow_mul];congr 1
     rw[Int.pow_succ,Int.pow_succ,Int.pow_succ,Int.pow_succ];simp[Int.neg_mul_neg]
   . rw[if_pos (by rw[h];decide)]
     obtain⟨m,rfl⟩:∃ m,t=2*m+1:=⟨t / 2,by omega⟩
     rw[Int.pow_succ,Int.pow_succ,Int.pow_mul,Int.pow_mul]
     have:(-z) ^ 2=z ^ 2:=by rw[Int.pow_succ,Int.pow_succ,Int.pow_succ,Int.pow_succ];simp[Int.neg_mul_neg]
     rw[this,Int.mul_neg,Int.neg_neg]
 . have e:(z.natAbs:Int)=z:=by omega
   rw[decide_eq_false hz,Bool.false_and,if_neg (by decide),e]
theorem Qzq{n k:Nat}{f:Qb}{e:Int}(hn:big≤n)(h1:1≤k)(hk:k<1099511627)(hf:Fk k f):
 Qjq n f e=some (if e < -8∨8<e∨(e<0∧fv f=0) then (toF 0,false) else (toF (fv f ^ e),true)):=by
 unfold Qjq
 simp only[jn_eq]
 by_cases c1:e < -8
 . rw[decide_eq_true c1,bifT,bifT,Qat hn,sbind,if_pos (.inl c1)]
 rw[decide_eq_false c1,bifF]
 by_cases c2:8<e
 . rw[decide_eq_true c2,bifT,bifT,Qat hn,sbind,if_pos (.inr (.inl c2))]
 rw[decide_eq_false c2,bifF]
 have hS:=Qfd hn h1 (by omega) hf
 have hq:=qw_fv hf h1
 have hF:Fk k (toF (fv f)):=Ve hq
 obtain⟨g1,g2,g3,g4⟩:=hF
 have hN:=Vj hn (Fk_Fw hf (by omega))
 have ht:max e (wrap64 (-e))=((e.natAbs:Nat):Int):=by rw[w64 (by omega) (by omega)];omega
 have p1:=Qos (t:=e.natAbs) hn g1 g2 (by omega) (by omega)
 have p2:=Qos (t:=e.natAbs) hn g3 g4 (by omega) (by omega)
 have l1:=Qtn (Nat.le_trans (Jj g1) g2) e.natAbs
 have l2:=Qtn (Nat.le_trans (Jj g3) g4) e.natAbs
 have l3:e.natAbs*k≤8*k:=Nat.mul_le_mul_right _ (by omega)
 have hmod:decide (Int.tmod ((e.natAbs:Nat):Int) 2=1)=decide (e.natAbs%2=1):=by
  refine decide_eq_decide.2 ?_
  rw[Int.tmod_eq_emod_of_nonneg (by omega)];omega
 have v1:val (toF (fv f)).Num.Abs=(fv f).num.natAbs:=Qo _
 have v2:val (toF (fv f)).Den=(fv f).den:=Qo _
 have v3:(toF (fv f)).Num.Neg=decide ((fv f).num<0):=rfl
 rw[v1] at p1 l1
 rw[v2] at p2 l2
 have fin:∀(u d:Nat),(toL u).length≤8*k+1->(if (toF (fv f)).Num.Neg=true then (Qa1 n (⟨decide (Int.tmod (max e (wrap64 (-e))) 2=1),toL u⟩:Qf)).bind λr26=>some ((⟨r26,toL d⟩:Qb),true) else (Qa1 n (⟨false,toL u⟩:Qf)).bind λr28=>some ((⟨r28,toL d⟩:Qb),true)) =
  some (⟨toW (if (decide ((fv f).num<0) && decide (e.natAbs%2=1))=true then -(u:Int) else (u:Int)),toL d⟩,true):=by
  intro u d hu
  rw[ht,hmod,v3]
  by_cases hz:(fv f).num<0
  . rw[if_pos (decide_eq_true hz),Qj4 hn ⟨Qy _,by show(toL u).length<_;omega⟩,sbind,decide_eq_true hz,Bool.true_and]
    unfold wv
    simp only[Qo]
  . rw[if_neg (by rw[decide_eq_false hz];decide),Qj4 hn ⟨Qy _,by show(toL u).length<_;omega⟩,sbind,decide_eq_false hz,Bool.false_and]
    unfold wv
    simp only[Qo]
 have bifi:∀ {α:Type}(b:Bool) (x y:α),(bif b then x else y)=if b=true then x else y:=λb x y=>by cases b<;>rfl
 by_cases c3:e<0
 . rw[decide_eq_true c3,bifT,hS,sbind]
   by_cases c4:fv f=0
   . rw[c4,show((0:Rat).num.sign)=0 from rfl,decide_eq_true rfl,bifT,Qat hn,sbind,if_pos (.inr (.inr ⟨c3,c4 ▸ rfl⟩))]
   . have hn0:(fv f).num≠0:=λh=>c4 (Rat.num_eq_zero.1 h)
     rw[decide_eq_false (by rw[Int.sign_eq_zero_iff_zero];exact hn0),bifF,hN,sbind,ht,p1,sbind,p2,sbind,bifT]
     rw[bifi,←ht,fin _ _ (by omega),if_neg (c:=e < -8∨8<e∨(e<0∧fv f=0)) (by rintro(h | h | h);exact c1 h;exact c2 h;exact c4 h.2)]
     refine congrArg some (Prod.ext ?_ rfl)
     have ee:e=-((e.natAbs:Nat):Int):=by omega
     have es:fv f ^ e=(fv f ^ e.natAbs)⁻¹:=by
      rw[←Rat.zpow_natCast,←Rat.zpow_neg,←ee]
     rw[es]
     unfold toF
     rw[Rat.num_inv,Rat.den_inv,Rat.num_pow,Rat.den_pow]
     have hnp:(fv f).num ^ e.natAbs≠0:=Int.pow_ne_zero hn0
     rw[if_neg hnp,Int.natAbs_pow]
     have hs:=Q24 (fv f).num e.natAbs
     have hp:0<(fv f).num.natAbs ^ e.natAbs:=Nat.pow_pos (by omega)
     congr 2
     rw[←hs]
     by_cases hc:(decide ((fv f).num<0) && decide (e.natAbs%2=1))=true
     . rw[if_pos hc,if_pos hc,Int.sign_eq_neg_one_of_neg (by omega),Int.neg_mul,Int.one_mul]
     . rw[if_neg hc,if_neg hc,Int.sign_eq_one_of_pos (by omega),Int.one_mul]
 . rw[decide_eq_false c3,bifF,bifF,hN,sbind,ht,p1,sbind,p2,sbind,bifF]
   rw[bifi,←ht,fin _ _ (by omega),if_neg (c:=e < -8∨8<e∨(e<0∧fv f=0)) (by rintro(h | h | h);exact c1 h;exact c2 h;exact c3 h.1)]
   refine congrArg some (Prod.ext ?_ rfl)
   have es:fv f ^ e=fv f ^ e.natAbs:=by
    rw[←Rat.zpow_natCast,show((e.natAbs:Nat):Int)=e by omega]
   rw[es]
   unfold toF
   rw[Rat.num_pow,Rat.den_pow,Q24]
theorem Q25{a:Rat}{j:Nat}(ha:qw a≤j){e:Int}(h:e.natAbs≤8):qw (a ^ e)≤8*j+1:=by
 have l3:e.natAbs*j≤8*j:=Nat.mul_le_mul_right _ (by omega)
 have h1:=Q1f ha e.natAbs
 rcases Int.lt_or_le e 0 with c | c
 . have es:a ^ e=(a ^ e.natAbs)⁻¹:=by
    rw[←Rat.zpow_natCast,←Rat.zpow_neg,show -((e.natAbs:Nat):Int)=e by omega]
   rw[es];exact Q1e (by omega)
 . have es:a ^ e=a ^ e.natAbs:=by
    rw[←Rat.zpow_natCast,show((e.natAbs:Nat):Int)=e by omega]
   rw[es];omega
def maxQ(a b:Rat):Rat:=if 0<(b - a).num.sign then b else a
theorem Qxw{n k:Nat}{f g:Qb}(hn:big≤n)(h1:1≤k)(hk:k<1099511627776)(hf:Fk k f)(hg:Fk k g):Qjs n [f,g]=some (toF (maxQ (fv f) (fv g))):=by
 unfold Qjs
 simp only[jn_eq,rangeL]
 have hF:Fk k (toF (fv f)):=Ve (qw_fv hf h1)
 rw[Qat hn,sbind,show decide (((0:Nat):Int)=0)=true from rfl,bifT,bifT,Vj hn (Fk_Fw hf (by omega)),sbind,sbind]
 simp only[]
 rw[show decide (((0+1:Nat):Int)=0)=false from rfl,bifF,Yc hn h1 hk hg hF,sbind,Kf,bifd]
 unfold maxQ
 split
 . rw[Vj hn (Fk_Fw hg (by omega)),sbind];rfl
 . rfl
def rv(l:List Qb):List Rat:=l.map fv
def toR(l:List Rat):List Qb:=l.map toF
theorem Qln(l:List Rat):rv (toR l)=l:=by
 unfold rv toR;rw[List.map_map]
 conv=>rhs;rw[←List.map_id l]
 exact List.map_congr_left λq _=>Kf q
theorem W9(l:List Qb):(rv l).length=l.length:=by unfold rv;simp
theorem Zl(l:List Rat):(toR l).length=l.length:=by unfold toR;simp
def FR(k:Nat)(l:List Qb):Prop:=∀ x∈l,Fk k x
def QR(k:Nat)(l:List Rat):Prop:=∀ x∈l,qw x≤k
theorem Qf3{k:Nat}{l:List Rat}(h:QR k l):FR k (toR l):=λx hx=>by
 unfold toR at hx
 obtain⟨q,hq,rfl⟩:=List.mem_map.1 hx
 exact Ve (h q hq)
theorem QR_rv{k:Nat}{l:List Qb}(h:FR k l)(h1:1≤k):QR k (rv l):=λx hx=>by
 unfold rv at hx
 obtain⟨q,hq,rfl⟩:=List.mem_map.1 hx
 exact qw_fv (h q hq) h1
theorem Qcd{j k:Nat}{l:List Qb}(h:FR j l)(hk:j≤k):FR k l:=λx hx=>Vt (h x hx) hk
theorem X6{j k:Nat}{l:List Rat}(h:QR j l)(hk:j≤k):QR k l:=λx hx=>Nat.le_trans (h x hx) hk
theorem Qxx{α:Type}{n:Nat}{a:List α}{g:α->Rat}{f:Nat->α->List Qb->Option (Lp (List Qb) (List Qb))}(_:big≤n)(hl:a.length≤1000000)
 (hb:∀ i x s,a[i]?=some x->f i x s=(appM 56 s [toF (g x)]).bind λy=>some (Lp.go y)):(rangeL f a 0 []).bind (lpK λs=>some s)=some (toR (a.map g)):=by
 rw[Qi6 (λi=>(a.take i).map λx=>toF (g x)) a,Xi,List.take_length]
 . unfold toR;rw[List.map_map];rfl
 . intro i x hx
   have:=Ky hx
   rw[hb i x _ hx,Wz (by simp;omega) (by simp;omega),sbind,Qdp _ hx]
 . rfl
theorem Qr6{n k:Nat}{a:List Qb}(hn:big≤n)(hk:k<1099511627776)(ha:FR k a)(hl:a.length≤1000000):Qjo n a=some (toR (rv a)):=by
 unfold Qjo
 refine Qxx (g:=fv) hn hl λi x s hx=>?_
 rw[Vj hn (Fk_Fw (ha x (Kt hx)) (by omega)),sbind]
theorem Qot{n k:Nat}{a:List Qb}(hn:big≤n)(hk:k<1099511627776)(ha:FR k a)(hl:a.length≤1000000):Qgv n a=some (toR (rv a)):=Qr6 hn hk ha hl
def scaleQ(c:Rat)(l:List Rat):List Rat:=l.map (c * ·)
theorem Qhk{n k:Nat}{c:Qb}{a:List Qb}(hn:big≤n)(h1:1≤k)(hk:k<1099511627776)(hc:Fk k c)(ha:FR k a)(hl:a.length≤1000000):Qby n c a=some (toR (scaleQ (fv c) (rv a))):=by
 unfold Qby
 rw[Qxx (g:=λx=>fv c*fv x) hn hl λi x s hx=>?_]
 . unfold scaleQ rv;rw[List.map_map];rfl
 . rw[Qcj hn h1 hk hc (ha x (Kt hx)),sbind]
theorem Quu{j k:Nat}{c:Rat}{l:List Rat}(hc:qw c≤j)(h:QR k l):QR (j+k) (scaleQ c l):=λx hx=>by
 unfold scaleQ at hx
 obtain⟨q,hq,rfl⟩:=List.mem_map.1 hx
 exact Qab hc (h q hq)
theorem Qyy{α β τ R:Type}{f:Nat->α->List β->Option (Lp (List β) τ)}{K:Lp (List β) τ->Option R}(g:α->β->β)(xs:List α)(s:List β)(h:xs.length=s.length)
 (hb:∀ i x y s',xs[i]?=some x->s[i]?=some y->s'[i]?=some y->f i x s'=some (.go (s'.set i (g x y)))):(rangeL f xs 0 s).bind K=K (.go (List.zipWith g xs s)):=by
 have hlen:∀ i,i≤xs.length->(List.zipWith g (xs.take i) (s.take i)).length=i:=λi hi=>by simp;omega
 rw[Qi6 (λi=>List.zipWith g (xs.take i) (s.take i)++s.drop i) xs]
 . rw[List.take_length,h,List.take_length,List.drop_length,List.append_nil]
 . intro i x hx
   have hi:=Ky hx
   have hy:s[i]?=some s[i]:=List.getElem?_eq_getElem (by omega)
   have hg:(List.zipWith g (xs.take i) (s.take i)++s.drop i)[i]?=some s[i]:=by
    rw[List.getElem?_append_right (by rw[hlen i (by omega)];exact Nat.le_refl _),hlen i (by omega),Nat.sub_self,List.getElem?_drop,Nat.add_zero,hy]
   rw[hb i x s[i] _ hx hy hg]
   refine congrArg (λz=>some (Lp.go z)) ?_
   have hd:s.drop i=s[i]::s.drop (i+1):=List.drop_eq_getElem_cons (by omega)
   have e1:xs.take (i+1)=xs.take i++[x]:=by
    rw[List.take_add_one,hx];rfl
   have e2:s.take (i+1)=s.take i++[s[i]]:=by
    rw[List.take_add_one,hy];rfl
   rw[hd,List.set_append_right _ _ (by rw[hlen i (by omega)];exact Nat.le_refl _),hlen i (by omega),Nat.sub_self,List.set_cons_zero,e1,e2,List.zipWith_append (by simp;omega)]
   simp
 . simp
def addQ(a b:List Rat):List Rat:=List.zipWith (·+·) a b
theorem Q5o{α:Type}{x:α}{l:List α}:getI (x::l) 0=some x:=rfl
theorem Qs5{n k:Nat}{a b:List Qb}(hn:big≤n)(h1:1≤k)(hk:k<1099511627776)(ha:FR k a)(hb:FR k b)(hl:a.length≤1000000):
 Qiw n [a,b]=some (if a.length=b.length then (toR (addQ (rv a) (rv b)),true) else ([],false)):=by
 unfold Qiw
 have hs:sub [a,b] (1:Int) (([a,b]:List (List Qb)).length:Int)=some [b]:=rfl
 rw[show decide ((([a,b]:List (List Qb)).length:Int)=0)=false from rfl,bifF,Q5o,sbind,Qr6 hn hk ha hl,sbind,hs,sbind]
 simp only[rangeL]
 rw[Zl,W9]
 by_cases h:a.length=b.length
 . rw[if_pos h,decide_eq_true (show(b.length:Int)=(a.length:Int) by omega),Bool.not_true,bifF,Qyy (λ(x:Qb) (y:Qb)=>toF (fv y+fv x)) b (toR (rv a)) (by rw[Zl,W9,h]),Xi,sbind]
   . simp only[]
     rw[sbind,Xi]
     refine congrArg some (Prod.ext ?_ rfl)
     simp only[]
     unfold addQ toR rv
     rw[List.map_zipWith,List.map_map,List.zipWith_map_right,List.zipWith_map,List.zipWith_comm]
     . congr 1
       funext x y
       simp only[Function.comp,Kf]
   . intro i x y s' hx hy hy'
     have hy2:Fk k y:=Qf3 (QR_rv ha h1) y (Kt hy)
     rw[J9 hy',sbind,Qdo hn h1 hk hy2 (hb x (Kt hx)),sbind,sbind,Int.toNat_natCast]
 . rw[if_neg h,decide_eq_false (show ¬(b.length:Int)=(a.length:Int) by omega),Bool.not_false,bifT,sbind]
   rfl
theorem Qxy{α β γ:Type}{g:α->β->γ}{P:γ->Prop}:∀ {a:List α}{b:List β},(∀ x∈a,∀ y∈b,P (g x y))->∀ z∈List.zipWith g a b,P z
 | [],_,_,z,hz=>by simp at hz
 | _::_,[],_,z,hz=>by simp at hz
 | x::a,y::b,h,z,hz=>by
   rcases List.mem_cons.1 hz with rfl | hz
   . exact h x (.head _) y (.head _)
   . exact Qxy (λx' hx y' hy=>h x' (.tail _ hx) y' (.tail _ hy)) z hz
theorem Q5p{j k:Nat}{a b:List Rat}(ha:QR j a)(hb:QR k b):QR (j+k+1) (addQ a b):=Qxy λx hx y hy=>Qg6 (ha x hx) (hb y hy)
theorem Qrr{a b:List Rat}:(addQ a b).length=min a.length b.length:=by unfold addQ;simp
theorem Qj7{c:Rat}{a:List Rat}:(scaleQ c a).length=a.length:=by unfold scaleQ;simp
theorem Qzr{n m:Nat}(hn:big≤n)(hm:m≤300):Qhd n (m:Int)=some (toR (List.replicate m 0)):=by
 unfold Qhd
 have e:min (max (m:Int) 0) 300=(m:Int):=by omega
 rw[e,Qfc (by omega) (by omega),sbind]
 rw[Xf (λi=>(List.replicate i (toF 0)++List.replicate (m - i) (⟨⟨false,[]⟩,[]⟩:Qb),(i:Int))) m (toR (List.replicate m 0))]
 . intro i hi
   simp only[bifd]
   have hd:List.replicate (m - i) (⟨⟨false,[]⟩,[]⟩:Qb)=⟨⟨false,[]⟩,[]⟩::List.replicate (m - (i+1)) ⟨⟨false,[]⟩,[]⟩:=by
    rw[show m - i=(m - (i+1))+1 by omega,List.replicate_succ]
   rw[if_pos (by omega),Qat hn,sbind,hd,K7 (by simp),sbind,W6 (by simp),w1 (by omega)]
   refine congrArg (λz=>some (Lp.go (z,_))) ?_
   rw[List.replicate_succ',List.append_assoc];rfl
 . simp only[bifd]
   rw[if_neg (by omega),Nat.sub_self,List.replicate_zero,List.append_nil]
   unfold toR;rw[List.map_replicate]
 . unfold big at hn;omega
 . simp
def mixQ:List Rat->List (List Rat)->List Rat->List Rat
 | c::cs,a::l,z=>mixQ cs l (List.zipWith (λx o=>o+c*x) a z)
 | _,_,z=>z
theorem Qyz:∀ {cs:List Rat}{l:List (List Rat)}{z:List Rat}{c a},cs.length=l.length->mixQ (cs++[c]) (l++[a]) z=List.zipWith (λx o=>o+c*x) a (mixQ cs l z)
 | [],[],z,c,a,_=>rfl
 | [],_::_,_,_,_,h=>by simp at h
 | _::_,[],_,_,_,h=>by simp at h
 | x::cs,y::l,z,c,a,h=>by
   simp only[List.cons_append,mixQ]
   exact Qyz (by simpa using h)
theorem Qnj{m:Nat}:∀ {cs:List Rat}{l:List (List Rat)}{z:List Rat},(∀ a∈l,a.length=m)->z.length=m->(mixQ cs l z).length=m
 | [],_,z,_,h=>by simpa [mixQ] using h
 | _::_,[],z,_,h=>by simpa [mixQ] using h
 | x::cs,y::l,z,hl,h=>by
   simp only[mixQ]
   exact Qnj (λa ha=>hl a (.tail _ ha)) (by have:=hl y (.head _);simp;omega)
theorem Qv7{j k:Nat}:∀ {cs:List Rat}{l:List (List Rat)}{z:List Rat}{b:Nat},QR j cs->(∀ a∈l,QR k a)->QR b z->QR (b+l.length*(j+k+1)) (mixQ cs l z)
 | [],_,z,b,_,_,h=>X6 h (by omega)
 | _::_,[],z,b,_,_,h=>X6 h (by omega)
 | x::cs,y::l,z,b,hc,hl,h=>by
   simp only[mixQ]
   have h2:QR (b+(j+k)+1) (List.zipWith (λx' o=>o+x*x') y z):=Qxy λu hu o ho=>Qg6 (h o ho) (Qab (hc x (.head _)) (hl y (.head _) u hu))
   refine X6 (Qv7 (λq hq=>hc q (.tail _ hq)) (λa ha=>hl a (.tail _ ha)) h2) ?_
   rw[List.length_cons,Nat.succ_mul];omega
theorem Q1m{m:Nat}:∀ {a z:List Rat},a.length=m->z.length=m->List.zipWith (λx o=>o+0*x) a z=z
 | [],[],_,_=>rfl
 | [],_::_,h,h'=>by simp at h h';omega
 | _::_,[],h,h'=>by simp at h h';omega
 | x::a,y::z,h,h'=>by
   simp only[List.length_cons] at h h'
   rw[List.zipWith_cons_cons,Q1m (m:=m - 1) (by omega) (by omega)]
   congr 1;grind
theorem Q1n{α:Type}{l:List (List α)}{m:Nat}:(∀(i:Nat) x,l[i]?=some x->x.length=m)↔∀ a∈l,a.length=m:=by
 constructor
 . intro h a ha
   obtain⟨j,hj⟩:=List.getElem?_of_mem ha
   exact h j a hj
 . intro h i x hx;exact h x (Kt hx)
theorem Quv{n:Nat}{c:List Qb}{l:List (List Qb)}{m:Int}:Qjn n c l m=Qsj n c l m:=Eq.symm (Eq.symm rfl)
theorem Q8j(l:List Qb)(i:Nat):rv (l.take i)=(rv l).take i:=by unfold rv;rw[List.map_take]
open Classical in
theorem Q1o{n j k m:Nat}{c:List Qb}{l:List (List Qb)}(hn:big≤n)(h1:1≤j)(h2:1≤k)(hj:j<1048576)(hk:k<1048576)(hc:FR j c)(hl:∀ a∈l,FR k a)(hm:m≤300)(hll:l.length≤10000):
 Qsj n c l (m:Int)=some (if c.length=l.length∧∀ a∈l,a.length=m then (toR (mixQ (rv c) (l.map rv) (List.replicate m 0)),true) else ([],false)):=by
 unfold Qsj
 simp only[jn_eq]
 by_cases g1:c.length=l.length
 . rw[decide_eq_true (show(c.length:Int)=(l.length:Int) by omega),Bool.not_true,bifF,decide_eq_false (show ¬(m:Int)<0 by omega),bifF,decide_eq_false (show ¬(300:Int)<(m:Int) by omega),bifF]
   rw[Qfg (λ_ (a:List Qb)=>a.length=m) (r:=(([]:List Qb),false))]
   . rw[Q1n]
     by_cases g2:∀ a∈l,a.length=m
     . rw[if_pos g2,if_pos ⟨g1,g2⟩,Qzr hn hm,sbind]
       have hcr:=QR_rv hc h1
       rw[Qi6 (λi=>toR (mixQ (rv (c.take i)) ((l.take i).map rv) (List.replicate m 0))) l,Xi,←g1,List.take_length,g1,List.take_length]
       . intro i a hx
         have hi:=Ky hx
         have hci:c[i]?=some c[i]:=List.getElem?_eq_getElem (by omega)
         have hck:Fk j c[i]:=hc _ (List.getElem_mem (by omega))
         have ha:=hl a (Kt hx)
         have hal:=g2 a (Kt hx)
         generalize c[i]'(by omega)=ck at hci hck
         have e1:c.take (i+1)=c.take i++[ck]:=by rw[List.take_add_one,hci];rfl
         have e2:l.take (i+1)=l.take i++[a]:=by rw[List.take_add_one,hx];rfl
         have e3:rv (c.take (i+1))=rv (c.take i)++[fv ck]:=by unfold rv;rw[e1,List.map_append];rfl
         have e4:(l.take (i+1)).map rv=(l.take i).map rv++[rv a]:=by rw[e2,List.map_append];rfl
         have e5:(rv (c.take i)).length=((l.take i).map rv).length:=by rw[W9];simp;omega
         rw[J9 hci,sbind,Qfd hn h1 (by omega) hck,sbind,bifd,e3,e4,Qyz e5]
         have hz0:(mixQ (rv (c.take i)) ((l.take i).map rv) (List.replicate m 0)).length=m:=Qnj (λb hb=>by
          obtain⟨d,hd,rfl⟩:=List.mem_map.1 hb
          rw[W9];exact g2 d (List.mem_of_mem_take hd)) (by simp)
         have hzq:QR (1+(l.take i).length*(j+k+1)) (mixQ (rv (c.take i)) ((l.take i).map rv) (List.replicate m 0)):=by
          have:=Qv7 (j:=j) (k:=k) (b:=1) (cs:=rv (c.take i)) (l:=(l.take i).map rv) (z:=List.replicate m 0) (λq hq=>by rw[Q8j] at hq;exact hcr q (List.mem_of_mem_take hq)) (λb hb=>by
           obtain⟨d,hd,rfl⟩:=List.mem_map.1 hb
           exact QR_rv (hl d (List.mem_of_mem_take hd)) h2) (λq hq=>by rw[(List.mem_replicate.1 hq).2,Qbx];exact Nat.le_refl _)
          rwa [List.length_map] at this
         have hb1:(l.take i).length*(j+k+1)≤10000*2097152:=Nat.mul_le_mul (by simp;omega) (by omega)
         have hzq2:=X6 hzq (show _≤20971520001 by omega)
         generalize mixQ (rv (c.take i)) ((l.take i).map rv) (List.replicate m 0)=z at hz0 hzq2
         by_cases g3:(fv ck).num.sign=0
         . rw[if_pos g3]
           have h0:fv ck=0:=Rat.num_eq_zero.1 (Int.sign_eq_zero_iff_zero.1 g3)
           rw[h0,Q1m (m:=m) (by rw[W9,hal]) hz0]
         . rw[if_neg g3,Qyy (λ(x:Qb) (o:Qb)=>toF (fv o+fv ck*fv x)) a (toR z) (by rw[Zl,hal,hz0]),Xi]
           . refine congrArg (λz=>some (Lp.go z)) ?_
             unfold toR rv
             rw[List.map_zipWith,List.zipWith_map_right,List.zipWith_map_left]
             congr 1
             funext x y
             rw[Kf]
           . intro i' x y s' hx' hy hy'
             have hy2:Fk 20971520001 y:=Qf3 hzq2 y (Kt hy)
             have hxk:=ha x (Kt hx')
             have hp:qw (fv ck*fv x)≤j+k:=Qab (qw_fv hck h1) (qw_fv hxk h2)
             rw[J9 hy',sbind,sbind,Qcj (k:=j+k) hn (by omega) (by omega) (Vt hck (by omega)) (Vt hxk (by omega)),sbind,Qdo (k:=20971520001) hn (by omega) (by omega) hy2 (Ve (by omega)),sbind,sbind,Int.toNat_natCast,Kf]
       . rfl
     . rw[if_neg g2,if_neg (λh=>g2 h.2)]
   . intro i x hx
     constructor
     . intro h;rw[decide_eq_true (show(x.length:Int)=(m:Int) by omega)];rfl
     . intro h;rw[decide_eq_false (show ¬(x.length:Int)=(m:Int) by omega)];rfl
 . rw[decide_eq_false (show ¬(c.length:Int)=(l.length:Int) by omega),if_neg (λh=>g1 h.1)];rfl
def normQ(l:List Rat):Rat:=l.foldl (λb x=>maxQ b (absQ x)) 0
theorem Qs6(q:Rat):qw (absQ q)=qw q:=by unfold absQ;split;exact Qs2 q;rfl
theorem Q1p{a b:Rat}{k:Nat}(ha:qw a≤k)(hb:qw b≤k):qw (maxQ a b)≤k:=by unfold maxQ;split<;>assumption
theorem Qzs{n k:Nat}{a:List Qb}(hn:big≤n)(h1:1≤k)(hk:k<1099511627776)(ha:FR k a):Qjt n a=some (toF (normQ (rv a))):=by
 unfold Qjt
 have hq:∀(l:List Rat) (b:Rat),QR k l->qw b≤k->qw (l.foldl (λb x=>maxQ b (absQ x)) b)≤k:=by
  intro l
  induction l with
  | nil=>intro b _ hb;exact hb
  | cons x l ih=>intro b hl hb;exact ih _ (λq hq=>hl q (.tail _ hq)) (Q1p hb (by rw[Qs6];exact hl x (.head _)))
 rw[Qat hn,sbind,Qi6 (λi=>toF ((rv (a.take i)).foldl (λb x=>maxQ b (absQ x)) 0)) a,Xi,List.take_length]
 . rfl
 . intro i x hx
   have e1:a.take (i+1)=a.take i++[x]:=by rw[List.take_add_one,hx];rfl
   have e3:rv (a.take (i+1))=rv (a.take i)++[fv x]:=by unfold rv;rw[e1,List.map_append];rfl
   have hx1:=ha x (Kt hx)
   have hb:=hq (rv (a.take i)) 0 (QR_rv (λy hy=>ha y (List.mem_of_mem_take hy)) h1) (by rw[Qbx];exact h1)
   rw[Qzo hn hk hx1,sbind,Qxw hn h1 hk (Ve hb) (Ve (by rw[Qs6];exact qw_fv hx1 h1)),sbind,e3,List.foldl_append,Kf,Kf]
   rfl
 . rfl
theorem Qhl{n k:Nat}{p q:Rat}(hn:big≤n)(hk:k<274877906944)(hp:qw p≤k)(hq:qw q≤k):V0 n (rF p) (rF q)=some (rF (p / q)):=by
 have n1:=Qas p;have n2:=Qas q;have d1:=Qcl p;have d2:=Qcl q
 have m1:=@Yq p.num.natAbs q.den
 have m3:=@Yq p.den q.num.natAbs
 unfold V0 rF
 simp only[]
 rw[Zj hn (by omega) (by omega) (Qy _) (Qy _),sbind,Zj hn (by omega) (by omega) (Qy _) (Qy _),sbind,Qo,Qo,Qo,Qo,Wl hn (Qy _) (Qy _) (by simp only[];omega) (by simp only[];omega),sbind]
 have e:fr ⟨decide (p.num<0) != decide (q.num<0),toL (p.num.natAbs*q.den),toL (p.den*q.num.natAbs)⟩=p / q:=by
  unfold fr
  simp only[Qo]
  by_cases h0:q.num=0
  . rw[h0,show(0:Int).natAbs=0 from rfl,Nat.mul_zero,Rat.mkRat_zero,Rat.num_eq_zero.1 h0];grind
  . rw[Q60 h0,Rat.div_def]
    have e2:=Qs4 h0 q.den_nz
    rw[Rat.mkRat_self] at e2
    rw[e2]
    conv=>rhs;rw[←Rat.mkRat_self p]
    rw[Rat.mkRat_mul_mkRat]
 rw[e];rfl
theorem Quw{v:Nat}:((toL v).length:Int)=0↔v=0:=by
 have:=Qek (v:=v)
 omega
theorem Qce(q:Rat):J2 (rF q)=some q.num.sign:=by
 unfold J2 rF
 simp only[bifd]
 by_cases h:q.num=0
 . rw[if_pos (Quw.2 (by omega)),h];rfl
 . rw[if_neg (λg=>h (by have:=Quw.1 g;omega))]
   by_cases h':q.num<0
   . rw[if_pos h',Int.sign_eq_neg_one_of_neg h']
   . rw[if_neg h',Int.sign_eq_one_of_pos (by omega)]
theorem Qge(q:Rat):Wg (rF q)=some (decide (q=0)):=by
 unfold Wg rF
 refine congrArg some (decide_eq_decide.2 ?_)
 simp only[Quw]
 rw[←Rat.num_eq_zero];omega
theorem Qxz(q:Rat):Qap (rF q)=some (rF (absQ q)):=by
 unfold Qap rF absQ
 refine congrArg some ?_
 split
 . rw[Qtl,Qxr,Int.natAbs_neg,decide_eq_false (show ¬ -q.num<0 by omega)]
 . rename_i h;rw[decide_eq_false h]
theorem Xw{n k:Nat}{p q:Rat}(hn:big≤n)(hk:k<274877906944)(hp:qw p≤k)(hq:qw q≤k):Q4 n (rF p) (rF q)=some (Int.sign (p - q).num):=by
 unfold Q4
 rw[Qhj hn hk hp hq,sbind,Qce,sbind]
open Classical in
theorem Qgf{n:Nat}{f g:Qa}(hn:big≤n)(h1:f.N.length≤4611686018427387904)(h2:f.D.length≤4611686018427387904):Jb n f g=some (decide (f=g)):=by
 unfold Jb
 simp only[jn_eq]
 obtain⟨s,a,d⟩:=f
 obtain⟨t,b,e⟩:=g
 simp only at *
 by_cases c1:s=t
 . subst c1
   rw[show(s == s)=true by simp,bifT,Qoj hn h1,sbind]
   by_cases c2:a=b
   . subst c2
     rw[decide_eq_true rfl,bifT,Qoj hn h2,sbind]
     exact congrArg some (decide_eq_decide.2 ⟨λh=>by rw[h],λh=>by cases h;rfl⟩)
   . rw[decide_eq_false c2,bifF,decide_eq_false (λh=>by cases h;exact c2 rfl)]
 . rw[show(s == t)=false by simpa using c1,bifF,decide_eq_false (λh=>by cases h;exact c1 rfl)]
theorem Qnk{n k:Nat}{p q:Rat}(hn:big≤n)(hk:k<274877906944)(hp:qw p≤k):Jb n (rF p) (rF q)=some (decide (p=q)):=by
 have n1:=Qas p;have d1:=Qcl p
 rw[Qgf hn (by show(toL p.num.natAbs).length≤_;omega) (by show(toL p.den).length≤_;omega)]
 exact congrArg some (decide_eq_decide.2 ⟨Q96,λh=>by rw[h]⟩)
theorem Qgg{n k:Nat}{q:Rat}(hn:big≤n)(hk:k<274877906944)(hq:qw q≤k):Xc n (rF q)=some (qz q:Int):=by
 have n1:=Qas q;have d1:=Qcl q
 have b1:=@Qoq q.num.natAbs
 have b2:=@Qoq q.den
 unfold Xc rF qz
 simp only[]
 rw[Qky hn (by omega) (Qy _),sbind,Qky hn (by omega) (Qy _),sbind,Qo,Qo,w64 (by omega) (by omega)]
 rfl
theorem Qs7{n x:Nat}(hn:big≤n)(hx:x<18446744073709551616):Ze n x=some (toL x):=by
 unfold Ze
 have hw:Wd [x%4294967296%4294967296,x / 4294967296%4294967296]:=Ju.2 ⟨by omega,Ju.2 ⟨by omega,Vd⟩⟩
 have hv:val [x%4294967296%4294967296,x / 4294967296%4294967296]=x:=by simp only[val];omega
 rw[sbind,Wj hn (by simp),sbind,←Jv hw,hv]
theorem Qj8{n:Nat}{x:Int}(hn:big≤n)(h1:-9223372036854775808≤x)(h2:x≤9223372036854775807):Jw n x=some (rF (x:Rat)):=by
 unfold Jw
 have w1':Wd [1]:=Ju.2 ⟨by decide,Vd⟩
 have v1:val [1]=1:=rfl
 have l2:∀ z,z<18446744073709551616->(toL z).length≤2:=λz hz=>Qai (by rw[K5,K5,X5];omega)
 rw[bifd]
 by_cases h:x<0
 . have e:Int.toNat (wrap64 (-(wrap64 (x+1)))%18446744073709551616)=x.natAbs - 1:=by
    rw[w64 (x:=x+1) (by omega) (by omega),w64 (by omega) (by omega)];omega
   have hl:=l2 (x.natAbs - 1) (by omega)
   have hl2:=l2 x.natAbs (by omega)
   rw[if_pos h,sbind,e,Qs7 hn (by omega),sbind,Qqh hn (by omega) (by simp) (Qy _) w1',sbind,Qo,v1,show x.natAbs - 1+1=x.natAbs by omega,Wl hn (Qy _) w1' (by simp only[];omega) (by simp),sbind]
   congr 2
   unfold fr
   simp only[Qo,v1]
   rw[if_pos trivial,show -((x.natAbs:Nat):Int)=x by omega,←Rat.mkRat_one]
 . have e:Int.toNat (x%18446744073709551616)=x.natAbs:=by omega
   have hl2:=l2 x.natAbs (by omega)
   rw[if_neg h,e,Qs7 hn (by omega),sbind,Wl hn (Qy _) w1' (by simp only[];omega) (by simp),sbind]
   congr 2
   unfold fr
   simp only[Qo,v1]
   rw[if_neg (by decide),show((x.natAbs:Nat):Int)=x by omega,←Rat.mkRat_one]
theorem Qdd{n:Nat}(hn:big≤n):Jw n 0=some (rF 0):=Qj8 hn (by decide) (by decide)
theorem Qj9{n:Nat}(hn:big≤n):Jw n 1=some (rF 1):=Qj8 hn (by decide) (by decide)
theorem Q5q{q:Rat}(m:Nat):q⁻¹ ^ m / q=q⁻¹ ^ (m+1):=by rw[Rat.pow_succ,Rat.div_def]
theorem Qx0{n k:Nat}{q:Rat}{e:Int}(hn:big≤n)(hk:k<1073741824)(hq:qw q≤k):
 Qao n (rF q) e=some (if e < -8∨8<e∨(e<0∧q=0) then (rF 0,false) else (rF (q ^ e),true)):=by
 have h1:=Q1d q
 unfold Qao
 simp only[jn_eq,bifd]
 rw[Qdd hn,sbind,Qj9 hn,sbind]
 by_cases c1:e < -8
 . rw[if_pos c1,bifT,if_pos (.inl c1)]
 rw[if_neg c1]
 by_cases c2:8<e
 . rw[if_pos c2,bifT,if_pos (.inr (.inl c2))]
 rw[if_neg c2]
 have bnd:∀ m:Nat,m≤8->∀ q:Rat,qw q≤k->qw (q ^ m)≤9*k:=λm hm q hq=>by
  have:=Q1f hq m
  have h2:m*k≤8*k:=Nat.mul_le_mul_right _ hm
  have:=Nat.le_trans (Q1d q) hq
  omega
 have main:∀(hz:¬(e<0∧q=0)),((loopM (λ(s20:Qa×Int)=>
  if s20.2<e then (
   (Jx n s20.1 (rF q)).bind λr21=>
   some (Lp.go (r21,wrap64 (s20.2+(1:Int)))))
  else (
   some (Lp.out s20.1))) n (rF 1,(0:Int))).bind λ(t18:Qa)=>
  (loopM (λ(s31:Qa×Int)=>
   if e<s31.2 then (
    (V0 n s31.1 (rF q)).bind λr32=>
    some (Lp.go (r32,wrap64 (s31.2 - (1:Int)))))
   else (
    some (Lp.out s31.1))) n (t18,(0:Int))).bind λ(t29:Qa)=>
  some (t29,true))=some (rF (q ^ e),true):=by
  intro hz
  by_cases h:e<0
  . obtain⟨m,rfl⟩:∃ m:Nat,e=-(m:Int):=⟨e.natAbs,by omega⟩
    rw[Xf (λ_=>(rF 1,(0:Int))) 0 (rF 1) (λi hi=>absurd hi (Nat.not_lt_zero _)) (by rw[if_neg (by omega)]) (by unfold big at hn;omega) rfl]
    have hne:q≠0:=λg=>hz ⟨h,g⟩
    rw[Xf (λi=>(rF (q⁻¹ ^ i),-(i:Int))) m (rF (q⁻¹ ^ m))]
    . rw[Rat.zpow_neg,Rat.zpow_natCast]
      congr 3
      clear bnd hz c1 c2 h
      induction m with
      | zero=>rw[Rat.pow_zero,Rat.pow_zero];grind
      | succ m ih=>rw[Rat.pow_succ,Rat.pow_succ,ih];grind
    . intro i hi
      rw[if_pos (by omega),Qhl (k:=9*k) hn (by omega) (bnd i (by omega) _ (Q1e hq)) (by omega),sbind,Q5q,w64 (by omega) (by omega)]
      congr 3;omega
    . rw[if_neg (by omega)]
    . unfold big at hn;omega
    . rw[Rat.pow_zero];rfl
  . obtain⟨m,rfl⟩:∃ m:Nat,e=(m:Int):=⟨e.natAbs,by omega⟩
    rw[Xf (λi=>(rF (q ^ i),(i:Int))) m (rF (q ^ m))]
    . rw[Xf (λ_=>(rF (q ^ m),(0:Int))) 0 (rF (q ^ m)) (λi hi=>absurd hi (Nat.not_lt_zero _)) (by rw[if_neg (by omega)]) (by unfold big at hn;omega) rfl,Rat.zpow_natCast]
    . intro i hi
      rw[if_pos (by omega),Zk (k:=9*k) hn (by omega) (bnd i (by omega) _ hq) (by omega),sbind,←Rat.pow_succ,w1 (by omega)]
    . rw[if_neg (by omega)]
    . unfold big at hn;omega
    . rw[Rat.pow_zero];rfl
 by_cases h:e<0
 . rw[if_pos h,Qge,sbind,bifd]
   by_cases h0:q=0
   . rw[if_pos h0,if_pos (.inr (.inr ⟨h,h0⟩))]
   . rw[if_neg h0,main (λg=>h0 g.2),if_neg (by rintro(g | g | g);exact c1 g;exact c2 g;exact h0 g.2)]
 . rw[if_neg h,bifF,main (λg=>h g.1),if_neg (by rintro(g | g | g);exact c1 g;exact c2 g;exact h g.1)]
theorem Qgh(x m:Int):Y6 x m=some (decide (0≤x∧x<m)):=by
 unfold Y6;simp only[jn_eq,bifd]
 by_cases h:0≤x
 . rw[if_pos h];simp[h]
 . rw[if_neg h];simp[h]
def rdT(i:Q5):List Int:=if i.Op=6∨i.Op=11 then [i.A] else if i.Op=7∨i.Op=8∨i.Op=9∨i.Op=10 then [i.A,i.B] else []
theorem Qou(i:Q5):Qev i=some (rdT i):=by
 unfold Qev rdT
 simp only[jn_eq,bifd]
 by_cases h6:i.Op=6
 . simp[h6]
 by_cases h11:i.Op=11
 . simp[h11]
 by_cases h7:i.Op=7
 . simp[h7]
 by_cases h8:i.Op=8
 . simp[h8]
 by_cases h9:i.Op=9
 . simp[h9]
 by_cases h10:i.Op=10
 . simp[h10]
 simp[h6,h7,h8,h9,h10,h11]
def TW(t:Q1):Prop:=∀ c∈t.Code,Fw c.N
end Go.Proofs.YtlihkcaoachkdaaGreatDoor
