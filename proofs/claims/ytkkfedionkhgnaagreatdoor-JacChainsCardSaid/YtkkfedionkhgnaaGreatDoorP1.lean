import Derived.Test.YtkkfedionkhgnaaGreatDoorMod
namespace Go.Proofs.YtkkfedionkhgnaaGreatDoor
open Go Go.RowKit
def big:Nat:=18446744073709551616
theorem w64{x:Int}(h1:-9223372036854775808≤x)(h2:x≤9223372036854775807):wrap64 x=x:=by unfold wrap64;omega
theorem bifd{α:Type}(p:Prop)[Decidable p](a b:α):(bif decide p then a else b)=if p then a else b:=by by_cases h:p<;>simp[h]
theorem bifnd{α:Type}(p:Prop)[Decidable p](a b:α):(bif !decide p then a else b)=if p then b else a:=by by_cases h:p<;>simp[h]
theorem bifT{α:Type}(a b:α):(bif true then a else b)=a:=Eq.symm (Eq.symm rfl)
theorem bifF{α:Type}(a b:α):(bif false then a else b)=b:=Eq.symm (Eq.symm rfl)
theorem jn_eq{σ ρ:Type}(A:(σ->Option ρ)->Option ρ)(k:σ->Option ρ):jn A k=A k:=Eq.symm (Eq.symm rfl)
theorem Wu{τ ρ:Type}(k:τ->Option ρ)(t:τ):lpK k (.go t)=k t:=Eq.symm (Eq.symm rfl)
theorem Qiu{τ ρ:Type}(k:τ->Option ρ)(r:ρ):lpK k (.out r)=some r:=Eq.symm (Eq.symm rfl)
theorem sbind{α β:Type}(a:α)(f:α->Option β):(some a).bind f=f a:=Eq.symm (Eq.symm rfl)
theorem Qg4{α:Type}(l:List α)(i:Nat):getI l (i:Int)=l[i]?:=by simp[getI]
theorem Y2{α:Type}{l:List α}{i:Nat}(h:i<l.length):getI l (i:Int)=some l[i]:=by rw[Qg4];simp[h]
theorem grd_t{b:Bool}(h:b=true):grd b=some ():=by rw[h];rfl
theorem Q37{α:Type}{l:List α}{k:Nat}(h:k≤l.length):sub l 0 (k:Int)=some (l.take k):=by unfold sub;rw[if_pos (by omega)];simp
theorem Q5e{α:Type}{l:List α}{i k:Nat}(h1:i≤k)(h:k≤l.length):sub l (i:Int) (k:Int)=some ((l.take k).drop i):=by unfold sub;rw[if_pos (by omega)];simp
theorem Xy{α:Type}{b:Nat}{l r:List α}(h:(l.length+r.length)*b≤140737488355328)(h2:l.length+r.length≤9223372036854775807):appM b l r=some (l++r):=by unfold appM;rw[if_pos ⟨h,h2⟩]
theorem Qcz{α:Type}{b:Nat}{z:α}{n:Nat}(h:n*b≤140737488355328)(h2:n≤9223372036854775807):mkM b z (n:Int)=some (List.replicate n z):=by unfold mkM;rw[if_pos (by omega)];simp
theorem Qpa{σ τ:Type}{f:σ->Option (Lp σ τ)}(μ:σ->Nat)(I:σ->Prop)(Q:τ->Prop)
 (hb:∀ s,I s->(∃ s',f s=some (.go s')∧I s'∧μ s'<μ s)∨(∃ t,f s=some (.out t)∧Q t)):∀(n:Nat) (s:σ),I s->μ s<n->∃ t,loopM f n s=some t∧Q t
 | 0,_,_,h=>absurd h (Nat.not_lt_zero _)
 | n+1,s,hI,hn=>by rcases hb s hI with ⟨s',h1,h2,h3⟩ | ⟨t,h1,h2⟩;obtain⟨t,h4,h5⟩:=Qpa μ I Q hb n s' h2 (by omega);exact⟨t,by simp only[loopM,h1,Option.bind_some];exact h4,h5⟩;exact⟨t,by simp only[loopM,h1,Option.bind_some],h2⟩
theorem Xx{σ τ R:Type}{f:σ->Option (Lp σ τ)}{n:Nat}{s:σ}{k:τ->Option R}{r:R}(μ:σ->Nat)(I:σ->Prop)(Q:τ->Prop)(h0:I s)(hn:μ s<n)
 (hb:∀ s,I s->(∃ s',f s=some (.go s')∧I s'∧μ s'<μ s)∨(∃ t,f s=some (.out t)∧Q t)) (hk:∀ t,Q t->k t=some r):(loopM f n s).bind k=some r:=by
 obtain⟨t,h1,h2⟩:=Qpa μ I Q hb n s h0 hn;rw[h1,Option.bind_some];exact hk t h2
theorem Qba{σ τ R:Type}{f:σ->Option (Lp σ τ)}{n:Nat}{s:σ}{k:τ->Option R}{P:R->Prop}(μ:σ->Nat)(I:σ->Prop)(Q:τ->Prop)(h0:I s)(hn:μ s<n)
 (hb:∀ s,I s->(∃ s',f s=some (.go s')∧I s'∧μ s'<μ s)∨(∃ t,f s=some (.out t)∧Q t)) (hk:∀ t,Q t->∃ r,k t=some r∧P r):∃ r,(loopM f n s).bind k=some r∧P r:=by
 obtain⟨t,h1,h2⟩:=Qpa μ I Q hb n s h0 hn;rw[h1,Option.bind_some];exact hk t h2
theorem Q1n{σ τ R β:Type}{f:σ->Option (Lp σ τ)}{n:Nat}{s:σ}{k:τ->Option R}{g:β->R}{P:β->Prop}(μ:σ->Nat)(I:σ->Prop)(Q:τ->Prop)(h0:I s)(hn:μ s<n)
 (hb:∀ s,I s->(∃ s',f s=some (.go s')∧I s'∧μ s'<μ s)∨(∃ t,f s=some (.out t)∧Q t)) (hk:∀ t,Q t->∃ b,k t=some (g b)∧P b):∃ b,(loopM f n s).bind k=some (g b)∧P b:=by
 obtain⟨t,h1,h2⟩:=Qpa μ I Q hb n s h0 hn;rw[h1,Option.bind_some];exact hk t h2
theorem Qz7{σ τ:Type}{f:σ->Option (Lp σ τ)}{s s':σ}{n:Nat}(h:f s=some (.go s')):loopM f (n+1) s=loopM f n s':=by simp only[loopM,h,Option.bind_some]
theorem Qsj{σ τ:Type}{f:σ->Option (Lp σ τ)}{s:σ}{t:τ}{n:Nat}(h:f s=some (.out t))(hn:0<n):loopM f n s=some t:=by
 obtain⟨m,rfl⟩:∃ m,n=m+1:=⟨n - 1,by omega⟩
 simp only[loopM,h,Option.bind_some]
theorem Qq0{α σ τ:Type}{f:Nat->α->σ->Option (Lp σ τ)}(I:Nat->σ->Prop):∀(xs:List α) (i:Nat) (s:σ),I i s->(∀ j x s,xs[j]?=some x->I (i+j) s->∃ s',f (i+j) x s=some (.go s')∧I (i+j+1) s') →
 ∃ s',rangeL f xs i s=some (.go s')∧I (i+xs.length) s'
 | [],i,s,h,_=>⟨s,rfl,h⟩
 | x::xs,i,s,h,hb=>by
   obtain⟨s1,h1,h2⟩:=hb 0 x s rfl h;simp only[Nat.add_zero] at h1 h2
   obtain⟨s2,h3,h4⟩:=Qq0 I xs (i+1) s1 h2 (λj y t hj ht=>by
    have:=hb (j+1) y t (by simpa using hj) (by rw[show i+(j+1)=i+1+j by omega];exact ht);rw[show i+(j+1)=i+1+j by omega] at this
    exact this)
   refine⟨s2,by simp only[rangeL,h1,Option.bind_some];exact h3,?_⟩;rw[List.length_cons,show i+(xs.length+1)=i+1+xs.length by omega];exact h4
theorem Qh8{α σ τ R:Type}{f:Nat->α->σ->Option (Lp σ τ)}{xs:List α}{s:σ}{k:Lp σ τ->Option R}{r:R}(I:Nat->σ->Prop)(h0:I 0 s)
 (hb:∀ j x s,xs[j]?=some x->I j s->∃ s',f j x s=some (.go s')∧I (j+1) s') (hk:∀ t,I xs.length t->k (.go t)=some r):(rangeL f xs 0 s).bind k=some r:=by
 obtain⟨s',h1,h2⟩:=Qq0 I xs 0 s h0 (λj x s hj hs=>by rw[Nat.zero_add] at hs ⊢;exact hb j x s hj hs);rw[h1,Option.bind_some];exact hk s' (by simpa using h2)
theorem Qnc{α σ τ R:Type}{f:Nat->α->σ->Option (Lp σ τ)}{xs:List α}{s:σ}{k:Lp σ τ->Option R}{P:R->Prop}(I:Nat->σ->Prop)(h0:I 0 s)
 (hb:∀ j x s,xs[j]?=some x->I j s->∃ s',f j x s=some (.go s')∧I (j+1) s') (hk:∀ t,I xs.length t->∃ r,k (.go t)=some r∧P r):∃ r,(rangeL f xs 0 s).bind k=some r∧P r:=by
 obtain⟨s',h1,h2⟩:=Qq0 I xs 0 s h0 (λj x s hj hs=>by rw[Nat.zero_add] at hs ⊢;exact hb j x s hj hs);rw[h1,Option.bind_some];exact hk s' (by simpa using h2)
def val:List Nat->Nat
 | []=>0
 | x::a=>x+4294967296*val a
def bp(k:Nat):Nat:=4294967296 ^ k
theorem Xp:bp 0=1:=by unfold bp;rw[Nat.pow_zero]
theorem Kl(k:Nat):bp (k+1)=bp k*4294967296:=by unfold bp;rw[Nat.pow_succ]
theorem bp_le{j k:Nat}(h:j≤k):bp j≤bp k:=by unfold bp;exact Nat.pow_le_pow_right (by decide) h
theorem Q7h(k:Nat):0<bp k:=by unfold bp;exact Nat.pow_pos (by decide)
theorem Q7i(j k:Nat):bp (j+k)=bp j*bp k:=by unfold bp;rw[Nat.pow_add]
def Wd(a:List Nat):Prop:=∀ x∈a,x<4294967296
def trimZ:List Nat->List Nat
 | []=>[]
 | x::a=>if trimZ a=[]∧x=0 then [] else x::trimZ a
def toL(n:Nat):List Nat:=if n=0 then [] else n%4294967296::toL (n / 4294967296)
termination_by n
decreasing_by omega
theorem Kf:Wd []:=λ_ h=>by cases h
theorem Jk{x a}:Wd (x::a)↔x<4294967296∧Wd a:=by simp[Wd]
theorem Ji{a b}:Wd (a++b)↔Wd a∧Wd b:=by constructor;intro h;exact⟨λx hx=>h x (List.mem_append_left _ hx),λx hx=>h x (List.mem_append_right _ hx)⟩;rintro⟨h1,h2⟩ x hx;rcases List.mem_append.1 hx with h | h;exact h1 x h;exact h2 x h
theorem Qkm{a k}(h:Wd a):Wd (a.take k):=λx hx=>h x (List.mem_of_mem_take hx)
theorem Qg5{a k}(h:Wd a):Wd (a.drop k):=λx hx=>h x (List.mem_of_mem_drop hx)
theorem Qh9{k x}(h:x<4294967296):Wd (List.replicate k x):=λy hy=>by rw[(List.mem_replicate.1 hy).2];exact h
theorem Xh{a:List Nat}(h:Wd a){i:Nat}(hi:i<a.length):a[i]<4294967296:=h _ (List.getElem_mem hi)
theorem K8:toL 0=[]:=by rw[toL];rfl
theorem Yp{n:Nat}(h:n≠0):toL n=n%4294967296::toL (n / 4294967296):=by rw[toL];rw[if_neg h]
theorem Qt(n:Nat):val (toL n)=n:=by
 induction n using Nat.strongRecOn with
 | _ n ih=>
   by_cases h:n=0;subst h;rw[K8];rfl;rw[Yp h];simp only[val];rw[ih (n / 4294967296) (by omega)];omega
theorem Q1(n:Nat):Wd (toL n):=by
 induction n using Nat.strongRecOn with
 | _ n ih=>
   by_cases h:n=0;subst h;rw[K8];exact Kf;rw[Yp h];exact Jk.2 ⟨by omega,ih (n / 4294967296) (by omega)⟩
theorem Jn{a:List Nat}(h:Wd a):toL (val a)=trimZ a:=by
 induction a with
 | nil=>simp[val,K8,trimZ]
 | cons x a ih=>
   obtain⟨hx,ha⟩:=Jk.1 h;have ih:=ih ha;simp only[val,trimZ];by_cases hv:val a=0;rw[hv,K8] at ih;rw[←ih,hv];by_cases hx0:x=0;subst hx0;simp[K8];rw[if_neg (λh=>hx0 h.2),Yp (by omega)];rw[show(x+4294967296*0)%4294967296=x by omega,show(x+4294967296*0) / 4294967296=0 by omega,K8];have hne:trimZ a≠[]:=by rw[←ih,Yp hv];simp
   rw[if_neg (λh=>hne h.1),Yp (by omega),show(x+4294967296*val a)%4294967296=x by omega,show(x+4294967296*val a) / 4294967296=val a by omega,ih]
theorem Qme(a:List Nat):val (trimZ a)=val a:=by
 induction a with
 | nil=>rfl
 | cons x a ih=>
   simp only[trimZ];split;rename_i h;rw[h.1] at ih;simp[val] at ih ⊢;omega;simp[val,ih]
theorem Qyq{a:List Nat}(h:Wd a):Wd (trimZ a):=by rw[←Jn h];exact Q1 _
theorem Wv(a:List Nat):(trimZ a).length≤a.length:=by
 induction a with
 | nil=>simp[trimZ]
 | cons x a ih=>simp only[trimZ];split<;>simp;omega
theorem Q24{a:List Nat}(h:trimZ a=[]):val a=0:=by rw[←Qme,h];rfl
theorem Qq1{a:List Nat}(h:Wd a):trimZ a=[]↔val a=0:=by constructor;exact Q24;intro hv;rw[←Jn h,hv,K8]
theorem Q25(n:Nat):trimZ (toL n)=toL n:=by rw[←Jn (Q1 n),Qt]
theorem Qnd(a:List Nat):trimZ (a++[0])=trimZ a:=by
 induction a with
 | nil=>simp[trimZ]
 | cons x a ih=>simp only[List.cons_append,trimZ,ih]
theorem Qtk(a:List Nat){x:Nat}(h:x≠0):trimZ (a++[x])=a++[x]:=by
 induction a with
 | nil=>simp[trimZ,h]
 | cons y a ih=>simp only[List.cons_append,trimZ,ih];rw[if_neg (by simp)]
theorem Vk(a b:List Nat):val (a++b)=val a+bp a.length*val b:=by
 induction a with
 | nil=>simp[val,Xp]
 | cons x a ih=>simp only[List.cons_append,val,ih,List.length_cons,Kl];rw[Nat.mul_add,←Nat.mul_assoc,Nat.mul_comm 4294967296 (bp a.length)];omega
theorem Vv{a:List Nat}(h:Wd a):val a<bp a.length:=by
 induction a with
 | nil=>simp[val,Xp]
 | cons x a ih=>
   obtain⟨hx,ha⟩:=Jk.1 h;have:=ih ha;simp only[val,List.length_cons,Kl];omega
theorem Qbr(k:Nat):val (List.replicate k 0)=0:=by
 induction k with
 | zero=>rfl
 | succ k ih=>simp[List.replicate_succ,val,ih]
theorem Qbb{n k:Nat}(h:n<bp k):(toL n).length≤k:=by
 induction k generalizing n with
 | zero=>rw[Xp] at h;obtain rfl:n=0:=by omega
         simp[K8]
 | succ k ih=>
   by_cases h0:n=0;subst h0;simp[K8];rw[Yp h0,List.length_cons];have:=@ih (n / 4294967296) (by rw[Kl] at h;exact Nat.div_lt_of_lt_mul (by rw[Nat.mul_comm];exact h));omega
theorem J8{α:Type}{a:List α}{k:Nat}(h:k<a.length):a.take (k+1)=a.take k++[a[k]]:=by simp[]
theorem Vp{n:Nat}{a:List Nat}(hn:big≤n)(ha:a.length≤4611686018427387904):V3 n a=some (trimZ a):=by
 unfold V3;unfold big at hn;refine Xx (λs=>s.toNat) (λs=>∃ k:Nat,s=k∧k≤a.length∧trimZ a=trimZ (a.take k)) (λt=>∃ k:Nat,t=k∧k≤a.length∧trimZ a=a.take k) ⟨a.length,rfl,Nat.le_refl _,by simp⟩ (by simp;omega) ?_ ?_;rintro s ⟨k,rfl,hk,ht⟩;simp only[jn_eq,bifd];by_cases h0:0<k;obtain⟨j,rfl⟩:∃ j,k=j+1:=⟨k - 1,by omega⟩
 rw[if_pos (by omega),w64 (by omega) (by omega),show((j+1:Nat):Int) - 1=(j:Nat) by omega,Y2 (show j<a.length by omega),sbind];rw[J8 (show j<a.length by omega)] at ht;by_cases hz:a[j]=0;left;refine⟨(j:Nat),by simp[hz],⟨j,rfl,by omega,?_⟩,by omega⟩;rw[ht,hz,Qnd];right;refine⟨((j+1:Nat):Int),by simp[hz],j+1,rfl,hk,?_⟩;rw[ht,J8 (show j<a.length by omega),Qtk _ hz];right;obtain rfl:k=0:=by omega
 exact⟨0,by simp,0,rfl,Nat.zero_le _,by rw[ht];simp[trimZ]⟩;rintro t ⟨k,rfl,hk,ht⟩;rw[Q37 hk,sbind,ht]
theorem Q38{a:List Nat}{k:Nat}:cpyL (List.replicate (a.length+k) 0) a=a++List.replicate k 0:=by unfold cpyL;rw[List.length_replicate,List.take_of_length_le (by omega),List.drop_replicate,Nat.add_sub_cancel_left]
theorem Qiv{a:List Nat}{k:Nat}(h:a.length+k≤35184372088832):Qbj a (k:Int)=some (a++List.replicate k 0):=by unfold Qbj;rw[w64 (by omega) (by omega),show((a.length:Int)+(k:Int))=((a.length+k:Nat):Int) by omega,Qcz (by omega) (by omega),sbind,Q38]
theorem Vq{n:Nat}{a:List Nat}(hn:big≤n)(ha:a.length≤35184372088832):K0 n a=some (trimZ a):=by unfold K0;have hl:=Wv a;rw[Vp hn (by omega),sbind,show(0:Int)=((0:Nat):Int) by rfl,Qiv (by omega),sbind];simp
theorem Qpn{n:Nat}{a:List Nat}(hn:big≤n)(ha:a.length≤4611686018427387904)(hw:Wd a):Zz n a=some (decide (val a=0)):=by unfold Zz;rw[Vp hn ha,sbind];congr 1;rw[Bool.eq_iff_iff];simp only[decide_eq_true_eq];rw[←Qq1 hw];constructor;intro h;exact List.eq_nil_of_length_eq_zero (by omega);intro h;rw[h];rfl
theorem Qpb{x y c d:Nat}(hx:x<4294967296)(hy:y<4294967296)(hc:c<4294967296)(hd:d<4294967296):x*y+c+d<18446744073709551616:=by have:x*y≤4294967295*4294967295:=Nat.mul_le_mul (by omega) (by omega);omega
theorem Qj5{x y c d:Nat}(hx:x<4294967296)(hy:y<4294967296)(hc:c<4294967296)(hd:d<4294967296):
 Z0 x y c d=some ((x*y+c+d) / 4294967296,(x*y+c+d)%4294967296):=by
 have h:=Qpb hx hy hc hd;unfold Z0;rw[Nat.mod_eq_of_lt (show x*y<18446744073709551616 by omega),Nat.mod_eq_of_lt (show x*y+c<18446744073709551616 by omega),Nat.mod_eq_of_lt h,sbind];rw[show(2:Nat) ^ 32=4294967296 by rfl,Nat.mod_eq_of_lt (show(x*y+c+d) / 4294967296<4294967296 by omega)]
theorem Qu0{x y:Nat}(hy:y<4294967296):x*4294967296 ||| y=x*4294967296+y:=by have:=Nat.two_pow_add_eq_or_of_lt (i:=32) (b:=y) (by simpa using hy) x;rw[show(2:Nat) ^ 32=4294967296 by rfl,Nat.mul_comm] at this;exact this.symm
theorem Qpo{h l y:Nat}(hh:h<y)(hl:l<4294967296)(hy:y<4294967296):
 Qa1 h l y=some ((h*4294967296+l) / y,(h*4294967296+l)%y,true):=by
 unfold Qa1;rw[bifd,if_neg (by omega),grd_t (by simp;omega),sbind,sbind];rw[show(2:Nat) ^ 32=4294967296 by rfl,Nat.mod_eq_of_lt (show h*4294967296<18446744073709551616 by omega),Qu0 hl]
 have h1:(h*4294967296+l) / y<4294967296:=Nat.div_lt_of_lt_mul (by
  have:h*4294967296+4294967296≤y*4294967296:=by omega
  omega)
 have h2:(h*4294967296+l)%y<y:=Nat.mod_lt _ (by omega);rw[Nat.mod_eq_of_lt h1,Nat.mod_eq_of_lt (show(h*4294967296+l)%y<4294967296 by omega)]
theorem Q5f{α:Type}(p:List α)(y:α)(r:List α):(p++y::r)[p.length]?=some y:=by simp
theorem Q5g{α:Type}(p:List α)(y z:α)(r:List α):(p++y::r).set p.length z=p++z::r:=by simp
theorem Kk{α:Type}{k:Nat}{p:List α}{y:α}{r:List α}(h:p.length=k):getI (p++y::r) (k:Int)=some y:=by rw[Qg4,←h,Q5f]
theorem Vx{α:Type}{k:Nat}{p:List α}{y z:α}{r:List α}(h:p.length=k):(p++y::r).set (k:Int).toNat z=p++z::r:=by rw[Int.toNat_natCast,←h,Q5g]
theorem Jw(a:List Nat)(x:Nat):val (a++[x])=val a+bp a.length*x:=by rw[Vk];simp[val]
theorem Q26{α:Type}{l:List α}{k:Nat}(h:k<l.length):l=l.take k++l[k]::l.drop (k+1):=by simp
theorem Q39(P x y m cy u v V M A c:Nat)(e:4294967296*u+v=x*y+m+cy)(h6:V+P*cy=M+x*A+c):V+P*v+P*4294967296*u=M+P*m+x*(A+P*y)+c:=by grind
theorem Qwx{p m q a:List Nat}{z x c:Nat}(hm:m.length=a.length)(hp:p.length+m.length+1+q.length≤4611686018427387904)(hwm:Wd m)(hwa:Wd a)(hx:x<4294967296)(hc:c<4294967296):
 ∃ r,Qa0 (p++m++z::q) (p.length:Int) a x c=some (p++r++q)∧r.length=a.length+1∧Wd r∧val r=val m+x*val a+c:=by
 have key:∃ r,Qa0 (p++m++z::q) (p.length:Int) a x c=some r∧∃ r',r=p++r'++q∧r'.length=a.length+1∧Wd r'∧val r'=val m+x*val a+c:=by
  unfold Qa0;refine Qnc (λj (s:List Nat×Nat)=>∃ m1,s.1=p++m1++(m.drop j++z::q)∧m1.length=j∧j≤a.length∧Wd m1∧s.2<4294967296∧val m1+bp j*s.2=val (m.take j)+x*val (a.take j)+c) ⟨[],by simp,rfl,Nat.zero_le _,Kf,hc,by simp[val,Xp]⟩ ?_ ?_;rintro j y ⟨o,cy⟩ hj ⟨m1,h1,h2,h3,h4,h5,h6⟩;simp only at h1 h5 h6;subst h1;have hja:j<a.length:=by rcases Nat.lt_or_ge j a.length with h | h;exact h;simp[List.getElem?_eq_none h] at hj
  have hy:a[j]=y:=by simpa [hja] using hj
  have hyw:y<4294967296:=by rw[←hy];exact Xh hwa hja
  have hmj:j<m.length:=by omega
  have hmw:m[j]<4294967296:=Xh hwm hmj;rw[w64 (by omega) (by omega),show((p.length:Int)+(j:Int))=((p.length+j:Nat):Int) by omega,List.drop_eq_getElem_cons hmj,List.cons_append];rw[Kk (by simp;omega),sbind,Qj5 hx hyw hmw h5,sbind,sbind,Vx (by simp;omega)];refine⟨_,rfl,m1++[(x*y+m[j]+cy)%4294967296],by simp,by simp[h2],by omega,Ji.2 ⟨h4,Jk.2 ⟨by omega,Kf⟩⟩,by have:=Qpb hx hyw hmw h5;simp only[];omega,?_⟩;rw[J8 hmj,J8 hja,Jw,Jw,Jw,hy,h2,List.length_take,List.length_take,Nat.min_eq_left (by omega),Nat.min_eq_left (by omega),Kl];exact Q39 _ _ _ _ _ _ _ _ _ _ _ (Nat.div_add_mod (x*y+m[j]+cy) 4294967296) h6;rintro⟨o,cy⟩ ⟨m1,h1,h2,h3,h4,h5,h6⟩;simp only at h1 h5 h6;subst h1;simp only[Wu];rw[w64 (by omega) (by omega),show((p.length:Int)+(a.length:Int))=((p.length+a.length:Nat):Int) by omega,List.drop_of_length_le (by omega),List.nil_append];rw[Kk (by simp;omega),sbind,Vx (by simp;omega)];refine⟨_,rfl,m1++[cy],by simp,by simp[h2],Ji.2 ⟨h4,Jk.2 ⟨h5,Kf⟩⟩,?_⟩;rw[Jw,h2,h6,List.take_of_length_le (by omega),List.take_of_length_le (Nat.le_refl _)]
 obtain⟨r,h1,r',h2,h3,h4,h5⟩:=key;exact⟨r',by rw[h1,h2],h3,h4,h5⟩
theorem Qne{n x:Nat}(hn:big≤n)(hx:x<18446744073709551616):Xw n x=some (toL x):=by
 unfold Xw
 rw[show(2:Nat) ^ 32=4294967296 by rfl,Vp hn (by simp),sbind,←Jn (by
  intro y hy;simp only[List.mem_cons,List.not_mem_nil,or_false] at hy
  rcases hy with rfl | rfl<;>omega)]
 congr 2;simp only[val];omega
theorem Q4a(P q r' r x s y vd:Nat)(e:x*q+r'=r*P+y)(h:vd=x*s+r):y+P*vd=x*(q+P*s)+r':=by grind
theorem Qu1{n:Nat}{a:List Nat}{x:Nat}(hn:big≤n)(ha:a.length<35184372088832)(hw:Wd a)(hx0:x≠0)(hx:x<4294967296):Qda n a x=some (toL (val a / x),val a%x,true):=by
 unfold Qda;unfold big at hn;rw[bifd,if_neg hx0,Qcz (by omega) (by omega),sbind]
 refine Xx (λs=>(s.2.2+1).toNat) (λs=>∃(k:Nat) (qs:List Nat),s.2.2=(k:Int) - 1∧k≤a.length∧s.1=List.replicate k 0++qs∧qs.length=a.length - k∧Wd qs∧s.2.1<x∧val (a.drop k)=x*val qs+s.2.1)
  (λt=>t.1.length=a.length∧Wd t.1∧t.2<x∧val a=x*val t.1+t.2) ⟨a.length,[],by simp only[];rw[w64 (by omega) (by omega)],Nat.le_refl _,by simp,by simp,Kf,by simp only[];omega,by simp[val]⟩ (by simp only[];rw[w64 (by omega) (by omega)];omega) ?_ ?_
 rintro⟨q,r,i⟩ ⟨k,qs,h1,h2,h3,h4,h5,h6,h7⟩;simp only at h1 h3 h6 h7;subst h1 h3;simp only[bifd];by_cases h0:0<k;obtain⟨j,rfl⟩:∃ j,k=j+1:=⟨k - 1,by omega⟩
 have hj:j<a.length:=by omega
 left;rw[if_pos (by omega),show((j+1:Nat):Int) - 1=(j:Nat) by omega,Y2 hj,sbind,Qpo h6 (Xh hw hj) hx,sbind];simp only[];rw[List.replicate_succ',List.append_assoc,List.singleton_append,Kk (by simp),sbind,Vx (by simp),w64 (by omega) (by omega)];refine⟨_,rfl,⟨j,((r*4294967296+a[j]) / x)::qs,rfl,by omega,rfl,by simp;omega,Jk.2 ⟨?_,h5⟩,Nat.mod_lt _ (by omega),?_⟩,by simp only[];omega⟩;have:=Xh hw hj
 exact Nat.div_lt_of_lt_mul (by
  have:r*4294967296+4294967296≤x*4294967296:=by omega
  omega)
 rw[List.drop_eq_getElem_cons hj];simp only[val];exact Q4a 4294967296 _ _ _ _ _ _ _ (Nat.div_add_mod (r*4294967296+a[j]) x) h7;right;obtain rfl:k=0:=by omega
 rw[if_neg (by omega)];exact⟨_,rfl,by simp at h4 ⊢;omega,by simpa using h5,h6,by simpa using h7⟩;rintro⟨q,r⟩ ⟨h1,h2,h3,h4⟩;simp only at h1 h2 h3 h4;simp only[];rw[Vq (by unfold big;exact hn) (by omega),sbind,←Jn h2,h4,Nat.mul_add_div (by omega),Nat.mul_add_mod,Nat.div_eq_of_lt h3,Nat.mod_eq_of_lt h3,Nat.add_zero]
theorem Vh{n:Nat}{a:List Nat}(hn:big≤n)(ha:a.length≤35184372088832):Jh n a=some (trimZ a):=by
 have h:=Vp hn (show a.length≤4611686018427387904 by omega);have hl:=Wv a;unfold Jh;unfold V3 at h
 cases hk:loopM (λ(s19:Int)=>
  jn (λ(j22:(Bool)->Option _)=>
   bif decide ((0:Int)<s19) then (
    (getI a (wrap64 (s19 - (1:Int)))).bind λy25=>
    j22 (decide (y25=0)))
   else (
    j22 false)) (λ(s24:Bool)=>
   bif s24 then (
    some (Lp.go (wrap64 (s19 - (1:Int)))))
   else (
    some (Lp.out s19)))) n (a.length:Int) with
 | none=>rw[hk] at h;cases h
 | some t=>
   rw[hk] at h;rw[sbind] at h ⊢;cases hs:sub a (0:Int) t with
   | none=>rw[hs] at h;cases h
   | some b=>
     rw[hs,sbind] at h;rw[sbind];obtain rfl:b=trimZ a:=by simpa using h
     rw[Xy (by simp;omega) (by simp;omega),sbind,List.nil_append]
theorem Qmf{n:Nat}{a b:List Nat}(hn:big≤n)(ha:a.length≤4611686018427387904):Wx n a b=some (decide (a=b)):=by unfold Wx;unfold big at hn;rw[bifnd];by_cases hl:a.length=b.length;rw[if_pos (by omega)];refine Xx (λs=>a.length - s.toNat) (λs=>∃ k:Nat,s=k∧k≤a.length∧a.take k=b.take k) (λt=>(t=.go ()∧a=b)∨(t=.out false∧a≠b)) ⟨0,rfl,Nat.zero_le _,by simp⟩ (by omega) ?_ ?_;rintro s ⟨k,rfl,hk,ht⟩;simp only[bifd,bifnd];by_cases h:k<a.length;rw[if_pos (by omega),Y2 h,sbind,Y2 (show k<b.length by omega),sbind];by_cases e:a[k]=b[k];left;rw[if_pos e,w64 (by omega) (by omega)];refine⟨_,rfl,⟨k+1,by omega,by omega,?_⟩,by omega⟩;rw[J8 h,J8 (show k<b.length by omega),ht,e];right;rw[if_neg e];exact⟨_,rfl,.inr ⟨rfl,λh=>e (by simp[h])⟩⟩;right;rw[if_neg (by omega)];refine⟨_,rfl,.inl ⟨rfl,?_⟩⟩;rw[List.take_of_length_le (by omega),List.take_of_length_le (by omega)] at ht;exact ht;rintro t (⟨rfl,h⟩ | ⟨rfl,h⟩);rw[Wu];simp[h];rw[Qiu];simp[h];rw[if_neg (by omega)];have:a≠b:=λh=>hl (by rw[h]);simp[this]
theorem Qe1{a:List Nat}(h:Wd a)(i:Nat):a.getD i 0<4294967296:=by rw[List.getD_eq_getElem?_getD];by_cases hi:i<a.length;simp[hi];exact Xh h hi;simp[List.getElem?_eq_none (show a.length≤i by omega)]
theorem Vi(a:List Nat)(k:Nat):val (a.take (k+1))=val (a.take k)+bp k*a.getD k 0:=by by_cases h:k<a.length;rw[J8 h,Jw,List.length_take,Nat.min_eq_left (by omega)];simp[h];rw[List.take_of_length_le (by omega),List.take_of_length_le (by omega)];simp[List.getElem?_eq_none (show a.length≤k by omega)]
theorem Zw{a:List Nat}{k:Nat}:Kj a (k:Int)=some (a.getD k 0):=by unfold Kj;rw[bifd];by_cases h:k<a.length;rw[if_pos (by omega),Y2 h,sbind];simp[h];rw[if_neg (by omega)];simp[List.getElem?_eq_none (show a.length≤k by omega)]
theorem Q4b(P s x y u v V A C:Nat)(e:4294967296*u+v=s+(x+y))(h:V+P*s=A+C):V+P*v+P*4294967296*u=A+P*x+(C+P*y):=by grind
theorem Q1o(P Q s o av bv:Nat)(_:Nat)(h7:o+P*s=av+bv)(ha:av<Q)(hb:bv<Q)(h5:P=Q*4294967296):s=0:=by rcases Nat.eq_zero_or_pos s with h | h;exact h;exfalso;have g6:P*1≤P*s:=Nat.mul_le_mul_left _ h;omega
theorem Qn0{n:Nat}{a b:List Nat}(hn:big≤n)(ha:a.length<17592186044416)(hb:b.length<17592186044416)(hwa:Wd a)(hwb:Wd b):W6 n a b=some (toL (val a+val b)):=by
 unfold W6;unfold big at hn;obtain⟨l,hl⟩:∃ l:Nat,l=max a.length b.length:=⟨_,rfl⟩
 have hmax:max (a.length:Int) (b.length:Int)=(l:Int):=by omega
 have hla:a.length≤l:=by omega
 have hlb:b.length≤l:=by omega
 have hll:l<17592186044416:=by omega
 rw[hmax,w64 (by omega) (by omega),show((l:Int)+1)=((l+1:Nat):Int) by omega,Qcz (by omega) (by omega),sbind]
 refine Xx (λs=>(l+1) - s.2.2.toNat) (λs=>∃(k:Nat) (o:List Nat),s.2.2=k∧k≤l+1∧s.1=o++List.replicate (l+1 - k) 0∧o.length=k∧Wd o∧s.2.1<4294967296∧val o+bp k*s.2.1=val (a.take k)+val (b.take k))
  (λt=>t.length=l+1∧Wd t∧val t=val a+val b) ⟨0,[],rfl,by omega,by simp,rfl,Kf,by simp,by simp[val,Xp]⟩ (by simp only[];omega) ?_ ?_
 rintro⟨q,s,i⟩ ⟨k,o,h1,h2,h3,h4,h5,h6,h7⟩;simp only at h1 h3 h6 h7;subst h1 h3;simp only[sbind,bifd];by_cases hk:k<l+1;left;have hx:=Qe1 hwa k;have hy:=Qe1 hwb k;rw[if_pos (by omega),Zw,sbind,Zw,sbind];obtain⟨j,hj⟩:∃ j,l+1 - k=j+1:=⟨l - k,by omega⟩
 rw[hj,List.replicate_succ,Kk h4,sbind,Vx h4,w64 (by omega) (by omega)];rw[Nat.mod_eq_of_lt (show a.getD k 0+b.getD k 0<18446744073709551616 by omega),Nat.mod_eq_of_lt (show s+(a.getD k 0+b.getD k 0)<18446744073709551616 by omega),Nat.mod_mod];refine⟨_,rfl,⟨k+1,o++[(s+(a.getD k 0+b.getD k 0))%4294967296],by simp only[];omega,by omega,?_,by simp[h4],Ji.2 ⟨h5,Jk.2 ⟨by omega,Kf⟩⟩,by simp only[];omega,?_⟩,by simp only[];omega⟩;simp only[];rw[show l+1 - (k+1)=j by omega];simp;simp only[];rw[Vi,Vi,Jw,h4,Kl];exact Q4b _ _ _ _ _ _ _ _ _ (Nat.div_add_mod (s+(a.getD k 0+b.getD k 0)) 4294967296) h7;right;obtain rfl:k=l+1:=by omega
 rw[if_neg (by omega)];refine⟨_,rfl,by simp[h4],by simpa using h5,?_⟩;rw[List.take_of_length_le (by omega),List.take_of_length_le (by omega)] at h7;have h8:s=0:=by have g1:=Vv hwa;have g2:=Vv hwb;have g3:bp a.length≤bp l:=bp_le hla;have g4:bp b.length≤bp l:=bp_le hlb;have g5:bp (l+1)=bp l*4294967296:=Kl _;exact Q1o _ _ _ _ _ _ 0 h7 (Nat.lt_of_lt_of_le g1 g3) (Nat.lt_of_lt_of_le g2 g4) g5
 rw[h8,Nat.mul_zero,Nat.add_zero] at h7
 simpa using h7
 rintro t ⟨h1,h2,h3⟩;rw[Vh (by unfold big;exact hn) (by omega),sbind,←Jn h2,h3]
theorem Q4c(P x y m cy u v V M A:Nat)(e:4294967296*u+v=cy+(x*y+m))(h6:V+P*cy=M+x*A):V+P*v+P*4294967296*u=M+P*m+x*(A+P*y):=by grind
theorem Q5h(P Q A x b O R c p _ M z:Nat)(h1:O=p+P*M)(h2:R+Q*c=M+x*b)(h3:O=A*b)(h4:z=p+P*(R+Q*c)):z=(A+P*x)*b:=by grind
theorem Qaf{n:Nat}{a b:List Nat}(hn:big≤n)(ha:a.length<17592186044416)(hb:b.length<17592186044416)(hwa:Wd a)(hwb:Wd b):Km n a b=some (toL (val a*val b)):=by
 unfold Km;unfold big at hn;rw[w64 (by omega) (by omega),show((a.length:Int)+(b.length:Int))=((a.length+b.length:Nat):Int) by omega,Qcz (by omega) (by omega),sbind]
 refine Xx (λs=>a.length - s.2.toNat) (λs=>∃(i:Nat) (o:List Nat),s.2=i∧i≤a.length∧s.1=o++List.replicate (a.length - i) 0∧o.length=i+b.length∧Wd o∧val o=val (a.take i)*val b)
  (λt=>t.length=a.length+b.length∧Wd t∧val t=val a*val b) ⟨0,List.replicate b.length 0,rfl,Nat.zero_le _,by simp only[Nat.sub_zero,List.replicate_append_replicate];rw[Nat.add_comm],by simp,Qh9 (by omega),by rw[Qbr];simp[val]⟩ (by simp only[];omega) ?_ ?_
 rintro⟨q,i'⟩ ⟨i,o,h1,h2,h3,h4,h5,h6⟩;simp only at h1 h3;subst h1 h3;simp only[bifd];by_cases hi:i<a.length;left;have hxw:=Xh hwa hi;obtain⟨j,hj⟩:∃ j,a.length - i=j+1:=⟨a.length - i - 1,by omega⟩
 rw[if_pos (by omega),hj,List.replicate_succ];obtain⟨p,hp⟩:∃ p,p=o.take i:=⟨_,rfl⟩
 obtain⟨m,hm⟩:∃ m,m=o.drop i:=⟨_,rfl⟩
 have ho:o=p++m:=by rw[hp,hm,List.take_append_drop]
 have hpl:p.length=i:=by rw[hp,List.length_take];omega
 have hml:m.length=b.length:=by rw[hm,List.length_drop];omega
 have hwp:Wd p:=by rw[hp];exact Qkm h5
 have hwm:Wd m:=by rw[hm];exact Qg5 h5
 have hov:val o=val p+bp i*val m:=by rw[ho,Vk,hpl]
 rw[ho]
 refine Q1n (λs=>b.length - s.2.2.toNat) (λs=>∃(k:Nat) (m1:List Nat),s.2.2=k∧k≤b.length∧s.1=p++m1++(m.drop k++0::List.replicate j 0)∧m1.length=k∧Wd m1∧s.2.1<4294967296∧val m1+bp k*s.2.1=val (m.take k)+a[i]*val (b.take k))
  (λt=>∃ m1:List Nat,t.1=p++m1++0::List.replicate j 0∧m1.length=b.length∧Wd m1∧t.2<4294967296∧val m1+bp b.length*t.2=val m+a[i]*val b) ⟨0,[],rfl,Nat.zero_le _,by simp,rfl,Kf,by simp,by simp[val]⟩ (by simp only[];omega) ?_ ?_
 rintro⟨q,cy,k'⟩ ⟨k,m1,g1,g2,g3,g4,g5,g6,g7⟩;simp only at g1 g3 g6 g7;subst g1 g3;simp only[];by_cases hk:k<b.length;left;have hyw:=Xh hwb hk;have hmk:k<m.length:=by omega
 have hmw:=Xh hwm hmk;have hmul:=Qpb hxw hyw hmw g6;rw[if_pos (by omega),Y2 hi,sbind,Y2 hk,sbind,w64 (x:=(i:Int)+(k:Int)) (by omega) (by omega),show((i:Int)+(k:Int))=((i+k:Nat):Int) by omega];rw[List.drop_eq_getElem_cons hmk,List.cons_append,Kk (by simp;omega),sbind,sbind,sbind,sbind,Vx (by simp;omega),sbind,w64 (by omega) (by omega)];rw[Nat.mod_eq_of_lt (show a[i]*b[k]<18446744073709551616 by omega),Nat.mod_eq_of_lt (show a[i]*b[k]+m[k]<18446744073709551616 by omega),Nat.mod_eq_of_lt (show cy+(a[i]*b[k]+m[k])<18446744073709551616 by omega),Nat.mod_mod];refine⟨_,rfl,⟨k+1,m1++[(cy+(a[i]*b[k]+m[k]))%4294967296],by simp only[];omega,by omega,by simp,by simp[g4],Ji.2 ⟨g5,Jk.2 ⟨by omega,Kf⟩⟩,by simp only[];omega,?_⟩,by simp only[];omega⟩;simp only[];rw[J8 hmk,J8 hk,Jw,Jw,Jw,g4,List.length_take,List.length_take,Nat.min_eq_left (by omega),Nat.min_eq_left (by omega),Kl];exact Q4c _ _ _ _ _ _ _ _ _ _ (Nat.div_add_mod (cy+(a[i]*b[k]+m[k])) 4294967296) g7;right;obtain rfl:k=b.length:=by omega
 rw[if_neg (by omega)];refine⟨_,rfl,m1,by simp only[];rw[List.drop_of_length_le (by omega)];simp,g4,g5,g6,?_⟩;rw[List.take_of_length_le (by omega),List.take_of_length_le (by omega)] at g7;exact g7;rintro⟨q,c⟩ ⟨m1,g1,g2,g3,g4,g5⟩;simp only at g1 g4 g5;subst g1;rw[w64 (x:=(i:Int)+(b.length:Int)) (by omega) (by omega),show((i:Int)+(b.length:Int))=((i+b.length:Nat):Int) by omega];simp only[];rw[Kk (by simp;omega),sbind,Vx (by simp;omega),sbind,w64 (by omega) (by omega),Nat.mod_eq_of_lt g4];refine⟨_,rfl,⟨i+1,p++m1++[c],by simp only[];omega,by omega,by simp only[];rw[show a.length - (i+1)=j by omega];simp,by simp[hpl,g2];omega,Ji.2 ⟨Ji.2 ⟨hwp,g3⟩,Jk.2 ⟨g4,Kf⟩⟩,?_⟩,by simp only[];omega⟩;rw[List.append_assoc,Vk,Jw,hpl,g2,J8 hi,Jw,List.length_take,Nat.min_eq_left (by omega)];exact Q5h _ _ _ _ _ _ _ _ _ 0 _ _ hov g5 h6 rfl;right;obtain rfl:i=a.length:=by omega
 rw[if_neg (by omega)];exact⟨_,rfl,by simp[h4],by simpa using h5,by simpa using h6⟩;rintro t ⟨h1,h2,h3⟩;rw[Vh (by unfold big;exact hn) (by omega),sbind,←Jn h2,h3]
def cmpI(x y:Nat):Int:=if x<y then -1 else if y<x then 1 else 0
theorem Q5i{n:Nat}(h:n≠0):bp ((toL n).length - 1)≤n:=by
 induction n using Nat.strongRecOn with
 | _ n ih=>
   rw[Yp h,List.length_cons,Nat.add_sub_cancel];by_cases h1:n / 4294967296=0;rw[h1,K8,List.length_nil,Xp];omega;have:=ih (n / 4294967296) (by omega) h1;have hl:(toL (n / 4294967296)).length≠0:=by rw[Yp h1];simp
   obtain⟨m,hm⟩:∃ m,(toL (n / 4294967296)).length=m+1:=⟨(toL (n / 4294967296)).length - 1,by omega⟩
   rw[hm,Nat.add_sub_cancel] at this;rw[hm,Kl];have h2:bp m*4294967296≤n / 4294967296*4294967296:=Nat.mul_le_mul_right _ this;have h3:n / 4294967296*4294967296≤n:=Nat.div_mul_le_self _ _;exact Nat.le_trans h2 h3
theorem Qtl{m n:Nat}(h:(toL m).length<(toL n).length):m<n:=by
 have h1:=Vv (Q1 m);rw[Qt] at h1;have hn:n≠0:=by rintro rfl;rw[K8] at h;simp at h
 have h2:=Q5i hn;have h3:bp (toL m).length≤bp ((toL n).length - 1):=bp_le (by omega);exact Nat.lt_of_lt_of_le h1 (Nat.le_trans h3 h2)
theorem Qyr(a:List Nat)(k:Nat):val a=val (a.take k)+bp (a.take k).length*val (a.drop k):=by
 conv=>lhs;rw[←List.take_append_drop k a]
 rw[Vk]
theorem Q4d{P x y u v A:Nat}(hA:A<P)(hxy:x<y)(e1:u=A+P*x)(e2:P*y≤v):u<v:=by have:P*(x+1)≤P*y:=Nat.mul_le_mul_left _ hxy;rw[Nat.mul_add] at this;omega
theorem Qre{a b:List Nat}{j:Nat}(ha:Wd a)(hj:j<a.length)(hj':j<b.length)(ht:a.drop (j+1)=b.drop (j+1))(h:a[j]<b[j]):val a<val b:=by have e1:=Qyr a (j+1);have e2:=Qyr b (j+1);rw[List.length_take,Nat.min_eq_left (by omega)] at e1 e2;rw[e1,e2,ht];refine Nat.add_lt_add_right ?_ _;rw[J8 hj,J8 hj',Jw,Jw,List.length_take,List.length_take,Nat.min_eq_left (by omega),Nat.min_eq_left (by omega)];have h1:=Vv (Qkm (k:=j) ha);rw[List.length_take,Nat.min_eq_left (by omega)] at h1;exact Q4d h1 h rfl (Nat.le_add_left _ _)
theorem Qek{n:Nat}{a b:List Nat}(hn:big≤n)(ha:a.length≤4611686018427387904)(hb:b.length≤4611686018427387904)(hwa:Wd a)(hwb:Wd b):Z9 n a b=some (cmpI (val a) (val b)):=by
 unfold Z9;rw[Vp hn ha,sbind,Vp hn hb,sbind,←Jn hwa,←Jn hwb];have hla:(toL (val a)).length≤4611686018427387904:=by rw[Jn hwa];exact Nat.le_trans (Wv a) ha
 have hva:=Qt (val a);have hvb:=Qt (val b);have hwa':=Q1 (val a);have hwb':=Q1 (val b);have l1:=@Qtl (val a) (val b);have l2:=@Qtl (val b) (val a);generalize val a=x at *;generalize val b=y at *;generalize toL x=a' at *;generalize toL y=b' at *;unfold big at hn;rw[bifd,bifd];by_cases h1:a'.length<b'.length;rw[if_pos (by omega),cmpI,if_pos (l1 h1)];rw[if_neg (by omega)];by_cases h2:b'.length<a'.length;rw[if_pos (by omega),cmpI,if_neg (by have:=l2 h2;omega),if_pos (l2 h2)];rw[if_neg (by omega),w64 (by omega) (by omega)];refine Xx (λs=>(s+1).toNat) (λs=>∃ k:Nat,s=(k:Int) - 1∧k≤a'.length∧a'.drop k=b'.drop k) (λt=>(t=.go ()∧a'=b')∨(t=.out (-1)∧x<y)∨(t=.out 1∧y<x)) ⟨a'.length,rfl,Nat.le_refl _,by rw[List.drop_of_length_le (Nat.le_refl _),List.drop_of_length_le (by omega)]⟩ (by omega) ?_ ?_;rintro s ⟨k,rfl,hk,ht⟩;simp only[bifd];by_cases h0:0<k;obtain⟨j,rfl⟩:∃ j,k=j+1:=⟨k - 1,by omega⟩
 have hj:j<a'.length:=by omega
 have hj':j<b'.length:=by omega
 rw[if_pos (by omega),show((j+1:Nat):Int) - 1=(j:Nat) by omega,Y2 hj,sbind,Y2 hj',sbind];by_cases g1:a'[j]<b'[j];right;rw[if_pos g1];refine⟨_,rfl,.inr (.inl ⟨rfl,?_⟩)⟩;rw[←hva,←hvb];exact Qre hwa' hj hj' ht g1;rw[if_neg g1,sbind,sbind];by_cases g2:b'[j]<a'[j];right;rw[if_pos g2];refine⟨_,rfl,.inr (.inr ⟨rfl,?_⟩)⟩;rw[←hva,←hvb];exact Qre hwb' hj' hj ht.symm g2;left;rw[if_neg g2,w64 (by omega) (by omega)];refine⟨_,rfl,⟨j,rfl,by omega,?_⟩,by omega⟩;rw[List.drop_eq_getElem_cons hj,List.drop_eq_getElem_cons hj',ht,show a'[j]=b'[j] by omega];right;obtain rfl:k=0:=by omega
 rw[if_neg (by omega)];exact⟨_,rfl,.inl ⟨rfl,by simpa using ht⟩⟩;rintro t (⟨rfl,h⟩ | ⟨rfl,h⟩ | ⟨rfl,h⟩);rw[Wu];have:x=y:=by rw[←hva,←hvb,h]
 simp[cmpI,this];rw[Qiu,cmpI,if_pos h];rw[Qiu,cmpI,if_neg (by omega),if_pos h]
theorem Q27{v:Nat}(h:v<18446744073709551616):toL v=[]∨(∃ x,toL v=[x]∧x=v)∨(∃ x y,toL v=[x,y]∧x<4294967296∧y<4294967296∧x+4294967296*y=v):=by
 have hl:=Qbb (n:=v) (k:=2) (by rw[Kl,Kl,Xp];omega);have hv:=Qt v;have hw:=Q1 v
 match hm:toL v,hl with
 | [],_=>exact .inl rfl
 | [x],_=>rw[hm] at hv;simp[val] at hv;exact .inr (.inl ⟨x,rfl,hv⟩)
 | [x,y],_=>
   rw[hm] at hv hw;simp[val] at hv;exact .inr (.inr ⟨x,y,rfl,(Jk.1 hw).1,(Jk.1 (Jk.1 hw).2).1,by omega⟩)
 | _::_::_::_,h=>simp at h
theorem Qz8{v:Nat}(h:18446744073709551616≤v):2<(toL v).length:=by rcases Nat.lt_or_ge 2 (toL v).length with h1 | h1;exact h1;have h2:=Vv (Q1 v);rw[Qt] at h2;have h3:=bp_le h1;rw[Kl,Kl,Xp] at h3;omega
theorem Qn1{n:Nat}{a:List Nat}(hn:big≤n)(ha:a.length≤4611686018427387904)(hw:Wd a):Qdb n a=some (if val a<18446744073709551616 then (val a,true) else (0,false)):=by unfold Qdb;rw[Vp hn ha,sbind,←Jn hw,bifd];by_cases h:val a<18446744073709551616;rw[if_pos h];rcases Q27 h with h1 | ⟨x,h1,h2⟩ | ⟨x,y,h1,h2,h3,h4⟩;have:=Qt (val a);rw[h1] at this ⊢;rw[if_neg (by decide)];simp only[val] at this;simp only[rangeL,sbind,Wu,←this];rw[h1,if_neg (by simp)];simp only[rangeL];rw[w64 (by omega) (by omega),grd_t (by decide),sbind,sbind,sbind,sbind];simp only[Wu];subst h2;simp;omega;rw[h1,if_neg (by simp)];simp only[rangeL];rw[w64 (x:=32*((0:Nat):Int)) (by omega) (by omega),grd_t (by decide),sbind,sbind,sbind,w64 (by omega) (by omega),grd_t (by decide)];simp only[sbind,Wu];rw[show(2:Nat) ^ min (Int.toNat (32*((0:Nat):Int))) 64=1 by rfl,show(2:Nat) ^ min (Int.toNat (32*((0+1:Nat):Int))) 64=4294967296 by rfl,Nat.mul_one,Nat.mod_eq_of_lt (show x<18446744073709551616 by omega),Nat.mod_eq_of_lt (show y*4294967296<18446744073709551616 by omega),Nat.zero_or,Nat.or_comm,Qu0 h2];congr 2;omega;rw[if_neg h];have:=Qz8 (v:=val a) (by omega);rw[if_pos (by omega)]
theorem Qgg{x y c:Nat}(hx:x<4294967296)(hy:y<4294967296)(hc:c<4294967296):
 Xk x y c=some ((x+y+c)%4294967296,(x+y+c) / 4294967296):=by
 unfold Xk;simp only[jn_eq,bifd];split<;>split<;>congr 1<;>refine Prod.ext ?_ ?_<;>simp only[]<;>omega
theorem Qj6{x y c:Nat}(hx:x<4294967296)(hy:y<4294967296)(hc:c≤1):
 ∃ d b,Qcl x y c=some (d,b)∧d<4294967296∧b≤1∧d+y+c=x+4294967296*b:=by
 unfold Qcl;simp only[jn_eq,bifd,sbind];split<;>split<;>refine⟨_,_,rfl,?_,?_,?_⟩<;>omega
theorem Q28(P s x y u v V A C:Nat)(e:4294967296*u+v=x+y+s)(h:V+P*s=A+C):V+P*v+P*4294967296*u=A+P*x+(C+P*y):=by grind
theorem Qz9{k:Nat}{b:List Nat}{β:Type}(f:Nat->Option β):(if (k:Int)<(b.length:Int) then (getI b (k:Int)).bind f else f 0)=f (b.getD k 0):=by by_cases h:k<b.length;rw[if_pos (by omega),Y2 h,sbind];simp[h];rw[if_neg (by omega)];simp[List.getElem?_eq_none (show b.length≤k by omega)]
theorem Q0a{n:Nat}{a b:List Nat}(hn:big≤n)(ha:a.length<17592186044416)(hl:b.length≤a.length)(hwa:Wd a)(hwb:Wd b):Qck n a b=some (toL (val a+val b)):=by
 unfold Qck;simp only[jn_eq,bifd];rw[if_neg (by omega)];rw[show(1:Int)=((1:Nat):Int) by rfl,Qiv (by omega),sbind];refine Qh8 (λj (s:List Nat×Nat)=>∃ m1,s.1=m1++(List.drop j a++[0])∧m1.length=j∧j≤a.length∧Wd m1∧s.2≤1∧val m1+bp j*s.2=val (a.take j)+val (b.take j)) ⟨[],by simp,rfl,Nat.zero_le _,Kf,by simp,by simp[val,Xp]⟩ ?_ ?_;rintro j y ⟨o,cy⟩ hj ⟨m1,h1,h2,h3,h4,h5,h6⟩;simp only at h1 h5 h6;subst h1;have hja:j<a.length:=by
  rcases Nat.lt_or_ge j a.length with h | h;exact h;simp[List.getElem?_eq_none h] at hj
 have hy:a[j]=y:=by simpa [hja] using hj
 have hyw:y<4294967296:=by rw[←hy];exact Xh hwa hja
 rw[Qz9,Qgg hyw (Qe1 hwb j) (by simp only[];omega),sbind,List.drop_eq_getElem_cons hja,List.cons_append,Kk h2,sbind,Vx h2];refine⟨_,rfl,m1++[(y+b.getD j 0+cy)%4294967296],by simp,by simp[h2],by omega,Ji.2 ⟨h4,Jk.2 ⟨by omega,Kf⟩⟩,?_,?_⟩;have:=Qe1 hwb j;simp only[];omega;rw[Vi,Vi,Jw,h2,Kl];rw[show a.getD j 0=y by rw[←hy];simp[hja]];exact Q28 _ _ _ _ _ _ _ _ _ (Nat.div_add_mod (y+b.getD j 0+cy) 4294967296) h6;rintro⟨o,cy⟩ ⟨m1,h1,h2,h3,h4,h5,h6⟩;simp only at h1 h5 h6;subst h1;simp only[Wu];rw[List.drop_of_length_le (Nat.le_refl _),List.nil_append,Kk h2,sbind,Vx h2,Vp hn (by simp;omega),sbind,←Jn (Ji.2 ⟨h4,Jk.2 ⟨by omega,Kf⟩⟩),Jw,h2,h6,List.take_of_length_le (Nat.le_refl _),List.take_of_length_le hl]
theorem Qpp{n:Nat}{a b:List Nat}(hn:big≤n)(ha:a.length<17592186044416)(hb:b.length<17592186044416)(hwa:Wd a)(hwb:Wd b):Qck n a b=some (toL (val a+val b)):=by by_cases hl:b.length≤a.length;exact Q0a hn ha hl hwa hwb;rw[Nat.add_comm,←Q0a hn hb (by omega) hwb hwa];unfold Qck;simp only[jn_eq,bifd];rw[if_pos (by omega),if_neg (by omega)]
theorem Qys{n:Nat}{a b:List Nat}(hn:big≤n)(ha:a.length<17592186044410)(hb:b.length<17592186044410)(hwa:Wd a)(hwb:Wd b):Qdy n [a,b]=some (toL (val a+val b)):=by unfold Qdy;have e1:=Qpp (a:=[]) (b:=toL (val a)) hn (by simp) (by have:=Wv a;rw[Jn hwa];omega) Kf (Q1 _);have e2:=Qpp (a:=toL (val a)) (b:=toL (val b)) hn (by have:=Wv a;rw[Jn hwa];omega) (by have:=Wv b;rw[Jn hwb];omega) (Q1 _) (Q1 _);rw[Qt] at e1 e2;rw[Qt] at e2;simp only[val,Nat.zero_add] at e1;simp only[rangeL,Vp hn (show a.length≤4611686018427387904 by omega),Vp hn (show b.length≤4611686018427387904 by omega),sbind,←Jn hwa,←Jn hwb,e1,e2,Wu]
theorem Qe2{α:Type}{l:List α}{i:Nat}{x:α}(h:l[i]?=some x):i<l.length:=by rcases Nat.lt_or_ge i l.length with h1 | h1;exact h1;rw[List.getElem?_eq_none h1] at h;cases h
theorem V6{x y:Nat}(h:x≤y):(toL x).length≤(toL y).length:=by refine Qbb ?_;have:=Vv (Q1 y);rw[Qt] at this;omega
theorem Qsk(P c c' x y d V A B:Nat)(e:d+y+c=x+4294967296*c')(h:V+B=A+P*c):V+P*d+(B+P*y)=A+P*x+P*4294967296*c':=by grind
theorem Qq2{n:Nat}{a b:List Nat}(hn:big≤n)(ha:a.length<17592186044416)(hb:b.length<17592186044416)(hwa:Wd a)(hwb:Wd b):
 Qjg n a b=some (if val a<val b then ([],false) else (toL (val a - val b),true)):=by
 unfold Qjg;have hla:(toL (val a)).length<17592186044416:=by rw[Jn hwa];exact Nat.lt_of_le_of_lt (Wv a) ha
 have hlb:(toL (val b)).length<17592186044416:=by rw[Jn hwb];exact Nat.lt_of_le_of_lt (Wv b) hb
 rw[Vp hn (by omega),sbind,Vp hn (by omega),sbind,←Jn hwa,←Jn hwb,Qek hn (by omega) (by omega) (Q1 _) (Q1 _),sbind,Qt,Qt];have hva:=Qt (val a);have hvb:=Qt (val b);have hwa':=Q1 (val a);have hwb':=Q1 (val b);have hl:=λh=>V6 (x:=val b) (y:=val a) h;generalize val a=x at *;generalize val b=y at *;generalize toL x=a' at *;generalize toL y=b' at *;rw[bifd];by_cases hxy:x<y;rw[if_pos (by rw[cmpI,if_pos hxy];decide),if_pos hxy];rw[if_neg (by rw[cmpI,if_neg hxy];split<;>decide),if_neg hxy];have hl:=hl (by omega);simp only[jn_eq,bifd];rw[show(0:Int)=((0:Nat):Int) by rfl,Qiv (by omega),sbind];refine Qh8 (λj (s:List Nat×Nat)=>∃ m1,s.1=m1++List.drop j a'∧m1.length=j∧j≤a'.length∧Wd m1∧s.2≤1∧val m1+val (b'.take j)=val (a'.take j)+bp j*s.2) ⟨[],by simp,rfl,Nat.zero_le _,Kf,by simp,by simp[val]⟩ ?_ ?_;rintro j w ⟨o,cy⟩ hj ⟨m1,h1,h2,h3,h4,h5,h6⟩;simp only at h1 h5 h6;subst h1;have hja:j<a'.length:=Qe2 hj;have hy:a'[j]=w:=by simpa [hja] using hj
 have hyw:w<4294967296:=by rw[←hy];exact Xh hwa' hja
 obtain⟨d,c',g1,g2,g3,g4⟩:=Qj6 hyw (Qe1 hwb' j) h5;rw[Qz9,g1,sbind,List.drop_eq_getElem_cons hja,Kk h2,sbind,Vx h2];refine⟨_,rfl,m1++[d],by simp,by simp[h2],by omega,Ji.2 ⟨h4,Jk.2 ⟨g2,Kf⟩⟩,g3,?_⟩;rw[Vi,Vi,Jw,h2,Kl];rw[show a'.getD j 0=w by rw[←hy];simp[hja]];exact Qsk _ _ _ _ _ _ _ _ _ g4 h6;rintro⟨o,cy⟩ ⟨m1,h1,h2,h3,h4,h5,h6⟩;simp only at h1 h5 h6;subst h1;simp only[Wu];rw[List.take_of_length_le (Nat.le_refl _),List.take_of_length_le hl,hva,hvb] at h6;rw[List.drop_of_length_le (Nat.le_refl _),List.append_nil,Vp hn (by omega),sbind,←Jn h4];have h7:cy=0:=by
  have g1:=Vv h4;rw[h2] at g1;rcases Nat.eq_zero_or_pos cy with h | h;exact h;have g6:bp a'.length*1≤bp a'.length*cy:=Nat.mul_le_mul_left _ h;omega
 subst h7;rw[Nat.mul_zero] at h6;congr 3;omega
theorem Qyt{n:Nat}{a b:List Nat}(hn:big≤n)(ha:a.length<17592186044416)(hb:b.length<17592186044416)(hwa:Wd a)(hwb:Wd b):
 Qjh n a b=some (toL (val a - val b+(val b - val a)),cmpI (val a) (val b)):=by
 unfold Qjh;rw[Qek hn (by omega) (by omega) hwa hwb,sbind];simp only[jn_eq,bifd];by_cases h:val a<val b;rw[if_pos (by rw[cmpI,if_pos h];decide),Qq2 hn hb ha hwb hwa,if_neg (by omega),sbind];rw[show val a - val b+(val b - val a)=val b - val a by omega];rw[if_neg (by rw[cmpI,if_neg h];split<;>decide),Qq2 hn ha hb hwa hwb,if_neg h,sbind];rw[show val a - val b+(val b - val a)=val a - val b by omega]
def blen(x:Nat):Nat:=if x=0 then 0 else Nat.log2 x+1
theorem Qel:blen 0=0:=by unfold blen;rw[if_pos rfl]
theorem Qu2{x k:Nat}(h1:2 ^ k≤x)(h2:x<2 ^ (k+1)):blen x=k+1:=by
 have h0:x≠0:=by have:=Nat.two_pow_pos k;omega
 unfold blen;rw[if_neg h0,(Nat.log2_eq_iff h0).2 ⟨h1,h2⟩]
theorem Qn2{x:Nat}:x<2 ^ blen x:=by unfold blen;by_cases h0:x=0;rw[if_pos h0,h0];decide;rw[if_neg h0];exact Nat.lt_log2_self
theorem Qkn{x:Nat}(h0:x≠0):2 ^ (blen x - 1)≤x:=by unfold blen;rw[if_neg h0];exact Nat.log2_self_le h0
theorem Qpc{x:Nat}(h0:x≠0):1≤blen x:=by unfold blen;rw[if_neg h0];omega
theorem Q4e{x w:Nat}(h:x / 2 ^ w≠0):blen x=blen (x / 2 ^ w)+w:=by
 have h1:=Qkn h;have h2:=Qn2 (x:=x / 2 ^ w);have h3:=Qpc h;obtain⟨k,hk⟩:∃ k,blen (x / 2 ^ w)=k+1:=⟨_,(Nat.sub_add_cancel h3).symm⟩
 rw[hk,Nat.add_sub_cancel] at h1;rw[hk] at h2 ⊢;rw[show k+1+w=(k+w)+1 by omega];refine Qu2 ?_ ?_;rw[Nat.pow_add];exact(Nat.le_div_iff_mul_le (Nat.two_pow_pos w)).1 h1;rw[show k+w+1=(k+1)+w by omega,Nat.pow_add];exact(Nat.div_lt_iff_lt_mul (Nat.two_pow_pos w)).1 h2
theorem Qwy{n x:Nat}(hn:big≤n)(hx:x<4294967296):Qep n x=some (blen x:Int):=by
 unfold Qep;unfold big at hn
 refine Xx (λs=>s.2.2.toNat) (λs=>∃(w k B:Nat),s.2.2=w∧s.2.1=k∧(w,B)∈[(16,4294967296),(8,65536),(4,256),(2,16),(1,4),(0,2)]∧s.1<B∧k+2*w≤32∧blen x=k+blen s.1)
  (λt=>∃ k:Nat,t.2=k∧k≤32∧t.1<2∧blen x=k+blen t.1) ⟨16,0,4294967296,rfl,rfl,by decide,hx,by decide,by simp⟩ (by simp only[];omega) ?_ ?_
 rintro⟨y,c,w'⟩ ⟨w,k,B,h1,h2,h3,h4,h5,h6⟩;simp only at h1 h2 h4 h6;subst h1 h2;simp only[jn_eq,bifd,bifnd];by_cases h0:0<w;left;rw[if_pos (by omega),grd_t (by simp),sbind,sbind,Int.toNat_natCast];have hw:w≤16:=by omega
 have hd:Int.tdiv (w:Int) 2=((w / 2:Nat):Int):=by rfl
 rw[hd,Nat.min_eq_left (by omega),w64 (x:=((w / 2:Nat):Int)) (by omega) (by omega),w64 (by omega) (by omega)];have hB:∃ B',(w / 2,B')∈[(16,4294967296),(8,65536),(4,256),(2,16),(1,4),(0,2)]∧B'*2 ^ w=B∧(2 ^ w≤B'):=by simp only[List.mem_cons,List.not_mem_nil,or_false,Prod.mk.injEq] at h3;rcases h3 with ⟨rfl,rfl⟩ | ⟨rfl,rfl⟩ | ⟨rfl,rfl⟩ | ⟨rfl,rfl⟩ | ⟨rfl,rfl⟩ | ⟨rfl,rfl⟩;exact⟨65536,by decide,by decide,by decide⟩;exact⟨256,by decide,by decide,by decide⟩;exact⟨16,by decide,by decide,by decide⟩;exact⟨4,by decide,by decide,by decide⟩;exact⟨2,by decide,by decide,by decide⟩;omega
 obtain⟨B',g1,g2,g3⟩:=hB;by_cases hz:y / 2 ^ w=0;rw[if_pos hz];refine⟨_,rfl,⟨w / 2,k,B',rfl,rfl,g1,?_,by omega,h6⟩,by simp only[];omega⟩;have:=(Nat.div_eq_zero_iff_lt (Nat.two_pow_pos w)).1 hz;exact Nat.lt_of_lt_of_le this g3;rw[if_neg hz];refine⟨_,rfl,⟨w / 2,k+w,B',rfl,by simp only[];omega,g1,?_,by omega,?_⟩,by simp only[];omega⟩;rw[←g2] at h4;exact(Nat.div_lt_iff_lt_mul (Nat.two_pow_pos w)).2 h4;rw[h6,Q4e hz];simp only[];omega;right;obtain rfl:w=0:=by omega
 rw[if_neg (by omega)];simp only[List.mem_cons,List.not_mem_nil,or_false,Prod.mk.injEq] at h3;refine⟨_,rfl,k,rfl,by omega,by simp only[];omega,h6⟩;rintro⟨y,c⟩ ⟨k,h1,h2,h3,h4⟩;simp only at h1 h3 h4;subst h1;rw[h4,w64 (by simp only[];omega) (by simp only[];omega)];have:blen y=y:=by
  have:y=0∨y=1:=by omega
  rcases this with rfl | rfl;rw[Qel];exact Qu2 (k:=0) (by decide) (by decide)
 rw[this];simp
theorem Qjm(k:Nat):bp k=2 ^ (32*k):=by unfold bp;rw[Nat.pow_mul]
theorem Qyu{v:Nat}(h:toL v≠[]):∃ p x,toL v=p++[x]∧x≠0∧x<4294967296∧Wd p:=by have hw:=Q1 v;rcases List.eq_nil_or_concat (toL v) with h0 | ⟨p,x,h1⟩;exact absurd h0 h;rw[List.concat_eq_append] at h1;refine⟨p,x,h1,?_,?_,?_⟩;rintro rfl;have h2:=Q25 v;rw[h1,Qnd] at h2;have:=Wv p;rw[h2] at this;simp at this;omega;rw[h1] at hw;exact(Jk.1 (Ji.1 hw).2).1;rw[h1] at hw;exact(Ji.1 hw).1
theorem Q29(P M R x A B m V:Nat)(h1:V=M+P*m)(h2:R=m+x*A+0)(h3:V=A*B):M+P*R=A*(B+P*x):=by grind
theorem Qgh{n:Nat}{a b:List Nat}(hn:big≤n)(ha:a.length<8796093022208)(hb:b.length<8796093022208)(hwa:Wd a)(hwb:Wd b):Yc n a b=some (toL (val a*val b)):=by
 unfold Yc;rw[w64 (x:=(a.length:Int)+(b.length:Int)) (by omega) (by omega),w64 (by omega) (by omega),show((a.length:Int)+(b.length:Int))+1=((a.length+b.length+1:Nat):Int) by omega,Qcz (by omega) (by omega),sbind];refine Qh8 (λj (s:List Nat)=>∃ m1,s=m1++List.replicate (b.length+1 - j) 0∧m1.length=j+a.length∧j≤b.length∧Wd m1∧val m1=val a*val (b.take j)) ⟨List.replicate a.length 0,by rw[List.replicate_append_replicate];congr 1,by simp,Nat.zero_le _,Qh9 (by omega),by simp[val,Qbr]⟩ ?_ ?_
 . rintro j x o hj ⟨m1,h1,h2,h3,h4,h5⟩
   subst h1;have hjb:j<b.length:=Qe2 hj;have hx:b[j]=x:=by simpa [hjb] using hj
   have hxw:x<4294967296:=by rw[←hx];exact Xh hwb hjb
   obtain⟨r,g1,g2,g3,g4⟩:=Qwx (p:=m1.take j) (m:=m1.drop j) (q:=List.replicate (b.length - j) 0) (a:=a) (z:=0) (x:=x) (c:=0) (by simp;omega) (by simp;omega) (Qg5 h4) hwa hxw (by omega);have hpj:(m1.take j).length=j:=by simp;omega
   rw[hpj,List.take_append_drop] at g1;rw[show b.length+1 - j=(b.length - j)+1 by omega,List.replicate_succ,g1,sbind];refine⟨_,rfl,m1.take j++r,by rw[show b.length+1 - (j+1)=b.length - j by omega],by simp;omega,by omega,Ji.2 ⟨Qkm h4,g3⟩,?_⟩;have hv:val m1=val (m1.take j)+bp j*val (m1.drop j):=by
    conv=>lhs;rw[←List.take_append_drop j m1]
    rw[Vk,hpj]
   rw[Vk,hpj,Vi,show b.getD j 0=x by rw[←hx];simp[hjb]];exact Q29 _ _ _ _ _ _ _ _ hv g4 h5
 . rintro o ⟨m1,h1,h2,h3,h4,h5⟩
   subst h1;simp only[Wu];rw[Vq hn (by simp;omega),sbind,←Jn (Ji.2 ⟨h4,Qh9 (by omega)⟩),Vk,Qbr,Nat.mul_zero,Nat.add_zero,h5,List.take_of_length_le (Nat.le_refl _)]
theorem lo_eq{x r:Nat}(hr:r≤32):(x*2 ^ r)%4294967296=(x%2 ^ (32 - r))*2 ^ r:=by rw[show(4294967296:Nat)=2 ^ (32 - r)*2 ^ r by rw[←Nat.pow_add,show 32 - r+r=32 by omega],Nat.mul_mod_mul_right]
theorem or_lo{c x r:Nat}(hr:r≤32)(hc:c<2 ^ r):c ||| (x*2 ^ r)%4294967296=c+(x*2 ^ r)%4294967296:=by rw[lo_eq hr,Nat.or_comm,Nat.mul_comm,←Nat.two_pow_add_eq_or_of_lt hc,Nat.add_comm]
theorem hi_lt{x r:Nat}(hx:x<4294967296):(x*2 ^ r) / 4294967296<2 ^ r:=
 Nat.div_lt_of_lt_mul (Nat.mul_lt_mul_of_pos_right hx (Nat.two_pow_pos r))
theorem Qpd{r:Nat}(hr:r≤32):2 ^ r≤4294967296:=by have h:2 ^ r≤2 ^ 32:=Nat.pow_le_pow_right (by decide) hr;rwa [show(2:Nat) ^ 32=4294967296 by rfl] at h
theorem sh_lt{x r:Nat}(hr:r≤32)(hx:x<4294967296):x*2 ^ r<18446744073709551616:=by have h:=Qpd hr;have:x*2 ^ r≤4294967295*4294967296:=Nat.mul_le_mul (by omega) h;omega
theorem Q5j(P c V A R x lo hi:Nat)(e:4294967296*hi+lo=x*R)(h:V+P*c=A*R):V+P*(c+lo)+P*4294967296*hi=(A+P*x)*R:=by grind
theorem Qq3{n k:Nat}{a:List Nat}(hn:big≤n)(ha:a.length<8796093022208)(hw:Wd a)(hk:k≤4096):Qdz n a (k:Int)=some (toL (val a*2 ^ k)):=by
 unfold Qdz;rw[show min (max (k:Int) 0) 4096=(k:Int) by omega];rw[show Int.tdiv (k:Int) 32=((k / 32:Nat):Int) by rfl,show Int.tmod (k:Int) 32=((k%32:Nat):Int) by rfl];have hp:2 ^ k=bp (k / 32)*2 ^ (k%32):=by rw[Qjm,←Nat.pow_add,Nat.div_add_mod]
 have hwk:k / 32≤128:=by omega
 have hr:k%32≤31:=by omega
 rw[hp];generalize k / 32=w at *;generalize k%32=r at *;rw[w64 (x:=(w:Int)) (by omega) (by omega),sbind,w64 (x:=(w:Int)+(a.length:Int)) (by omega) (by omega),w64 (by omega) (by omega),show(w:Int)+(a.length:Int)+1=((w+a.length+1:Nat):Int) by omega,Qcz (by omega) (by omega),sbind];refine Qh8 (λj (s:List Nat)=>∃ m1 c,s=(List.replicate w 0++m1)++c::List.replicate (a.length - j) 0∧m1.length=j∧j≤a.length∧Wd m1∧c<2 ^ r∧val m1+bp j*c=val (a.take j)*2 ^ r) ⟨[],0,by rw[List.append_nil,←List.replicate_succ,List.replicate_append_replicate];congr 1,rfl,Nat.zero_le _,Kf,Nat.two_pow_pos r,by simp[val]⟩ ?_ ?_;rintro j x s hj ⟨m1,c,h1,h2,h3,h4,h5,h6⟩;subst h1;have hja:j<a.length:=Qe2 hj;have hx:a[j]=x:=by simpa [hja] using hj
 have hxw:x<4294967296:=by rw[←hx];exact Xh hw hja
 have hlen:(List.replicate w 0++m1).length=w+j:=by simp;omega
 have g1:=sh_lt (r:=r) (by omega) hxw;have g2:=hi_lt (r:=r) hxw;have g3:=Qpd (r:=r) (by omega);have g4:=or_lo (x:=x) (show r≤32 by omega) h5;rw[grd_t (by simp),sbind,Int.toNat_natCast,Nat.min_eq_left (by omega),Nat.mod_eq_of_lt g1,sbind,w64 (x:=(w:Int)+(j:Int)) (by omega) (by omega),sbind,show(w:Int)+(j:Int)=((w+j:Nat):Int) by omega];rw[Kk hlen,sbind,sbind,sbind,Vx hlen,g4,show(2:Nat) ^ 32=4294967296 by rfl,Nat.mod_eq_of_lt (show x*2 ^ r / 4294967296<4294967296 by omega)];obtain⟨d,hd⟩:∃ d,a.length - j=d+1:=⟨a.length - j - 1,by omega⟩
 rw[w64 (by omega) (by omega),show((w+j:Nat):Int)+1=((w+j+1:Nat):Int) by omega,hd,List.replicate_succ];rw[show ∀(y:Nat) (l:List Nat),List.replicate w 0++m1++y::l=(List.replicate w 0++(m1++[y]))++l by intro y l;simp];have hlen2:(List.replicate w 0++(m1++[c+x*2 ^ r%4294967296])).length=w+j+1:=by simp;omega
 rw[Kk hlen2,sbind,Vx hlen2,sbind];refine⟨_,rfl,m1++[c+x*2 ^ r%4294967296],x*2 ^ r / 4294967296,by rw[show a.length - (j+1)=d by omega],by simp[h2],by omega,Ji.2 ⟨h4,Jk.2 ⟨?_,Kf⟩⟩,g2,?_⟩;rw[lo_eq (by omega)];have e1:x%2 ^ (32 - r)+1≤2 ^ (32 - r):=Nat.mod_lt _ (Nat.two_pow_pos _);have e2:=Nat.mul_le_mul_right (2 ^ r) e1;rw[←Nat.pow_add,show 32 - r+r=32 by omega,show(2:Nat) ^ 32=4294967296 by rfl,Nat.add_mul,Nat.one_mul] at e2;omega;rw[Vi,Jw,h2,Kl,show a.getD j 0=x by rw[←hx];simp[hja]];exact Q5j _ _ _ _ _ _ _ _ (Nat.div_add_mod (x*2 ^ r) 4294967296) h6;rintro s ⟨m1,c,h1,h2,h3,h4,h5,h6⟩;subst h1;simp only[Wu];have g3:=Qpd (r:=r) (by omega);rw[Vq hn (by simp;omega),sbind,←Jn (Ji.2 ⟨Ji.2 ⟨Qh9 (by omega),h4⟩,Jk.2 ⟨by omega,Qh9 (by omega)⟩⟩)];rw[List.append_assoc,Vk,Qbr,List.length_replicate,Nat.zero_add,Vk];simp only[val];rw[Qbr,h2,Nat.mul_zero,Nat.add_zero,h6,List.take_of_length_le (Nat.le_refl _),Nat.mul_left_comm]
theorem Qmg{a:List Nat}(hw:Wd a)(k:Nat):val a / bp k=val (a.drop k):=by
 rcases Nat.lt_or_ge k a.length with h | h
 . have h1:val a=val (a.take k)+bp k*val (a.drop k):=by
    conv=>lhs;rw[←List.take_append_drop k a]
    rw[Vk,List.length_take,Nat.min_eq_left (by omega)]
   have h2:=Vv (Qkm (k:=k) hw);rw[List.length_take,Nat.min_eq_left (by omega)] at h2;rw[h1,Nat.add_mul_div_left _ _ (Q7h k),Nat.div_eq_of_lt h2,Nat.zero_add]
 . rw[List.drop_of_length_le h]
   exact Nat.div_eq_of_lt (Nat.lt_of_lt_of_le (Vv hw) (bp_le h))
theorem Q3a{a:List Nat}{k:Nat}(h:k<a.length):val (a.drop k)=a[k]+4294967296*(a.getD (k+1) 0+4294967296*val (a.drop (k+2))):=by rw[List.drop_eq_getElem_cons h];simp only[val];by_cases h2:k+1<a.length;rw[List.drop_eq_getElem_cons h2];simp[val,h2];rw[List.drop_of_length_le (by omega),List.drop_of_length_le (by omega)];simp[List.getElem?_eq_none (show a.length≤k+1 by omega),val]
theorem Q4f{v z r:Nat}(hr:r≤32):((v+4294967296*4294967296*z) / 2 ^ r)%4294967296=(v / 2 ^ r)%4294967296:=by
 rw[show 4294967296*4294967296*z=2 ^ r*(4294967296*(2 ^ (32 - r)*z)) by
  have:2 ^ r*2 ^ (32 - r)=4294967296:=by rw[←Nat.pow_add,show r+(32 - r)=32 by omega]
  calc 4294967296*4294967296*z=(2 ^ r*2 ^ (32 - r))*4294967296*z:=by rw[this]
   _=_:=by grind]
 rw[Nat.add_mul_div_left _ _ (Nat.two_pow_pos r),Nat.add_mul_mod_self_left]
theorem Q4g{k:Nat}{b:List Nat}{x:Nat}{β:Type}(f:Nat->Option β)(hb:Wd b)(hx:x<4294967296):(if ((k:Nat):Int)<(b.length:Int) then (getI b (k:Int)).bind (λy=>f (x ||| (y*2 ^ 32)%18446744073709551616)) else f x)=f (x+4294967296*b.getD k 0):=by by_cases h:k<b.length;rw[if_pos (by omega),Y2 h,sbind];have hy:=Xh hb h;rw[show(2:Nat) ^ 32=4294967296 by rfl,Nat.mod_eq_of_lt (by omega),Nat.or_comm,Qu0 hx,Nat.mul_comm,Nat.add_comm];simp[h];rw[if_neg (by omega)];simp[List.getElem?_eq_none (show b.length≤k by omega)]
theorem Q4h(X P:Nat):X%P+P*(X / P%4294967296)=X%(P*4294967296):=by rw[Nat.mod_mul]
theorem Qu3{n k:Nat}{a:List Nat}(hn:big≤n)(ha:a.length<8796093022208)(hw:Wd a)(hk:k≤4611686018427387904):Qfn n a (k:Int)=some (toL (val a / 2 ^ k)):=by
 unfold Qfn;rw[show max (k:Int) 0=(k:Int) by omega];rw[show Int.tdiv (k:Int) 32=((k / 32:Nat):Int) by rfl,show Int.tmod (k:Int) 32=((k%32:Nat):Int) by rfl];have hp:2 ^ k=bp (k / 32)*2 ^ (k%32):=by rw[Qjm,←Nat.pow_add,Nat.div_add_mod]
 have hr:k%32≤31:=by omega
 have hwk:k / 32≤4611686018427387904:=by omega
 rw[hp];generalize k / 32=w at *;generalize k%32=r at *;rw[←Nat.div_div_eq_div_mul,Qmg hw];rw[w64 (x:=(w:Int)) (by omega) (by omega),sbind,bifd];by_cases hle:a.length≤w;rw[if_pos (by omega),List.drop_of_length_le hle];simp[val,K8];rw[if_neg (by omega),w64 (x:=(a.length:Int) - (w:Int)) (by omega) (by omega),sbind,show(a.length:Int) - (w:Int)=((a.length - w:Nat):Int) by omega,Qcz (by omega) (by omega),sbind];refine Qh8 (λj (s:List Nat)=>∃ m1,s=m1++List.replicate (a.length - w - j) 0∧m1.length=j∧Wd m1∧val m1=(val (a.drop w) / 2 ^ r)%bp j) ⟨[],by simp,rfl,Kf,by simp[val,Xp,Nat.mod_one]⟩ ?_ ?_;rintro j x s hj ⟨m1,h1,h2,h3,h4⟩;subst h1;have hja:j<a.length - w:=by have:=Qe2 hj;simpa using this
 have hwj:w+j<a.length:=by omega
 simp only[jn_eq,bifd];rw[w64 (x:=(w:Int)+(j:Int)) (by omega) (by omega),show(w:Int)+(j:Int)=((w+j:Nat):Int) by omega,sbind,Y2 hwj,sbind,sbind,w64 (x:=((w+j:Nat):Int)+1) (by omega) (by omega),show((w+j:Nat):Int)+1=((w+j+1:Nat):Int) by omega];simp only[sbind];rw[w64 (x:=((w+j:Nat):Int)+1) (by omega) (by omega),show((w+j:Nat):Int)+1=((w+j+1:Nat):Int) by omega];rw[Q4g (β:=Lp (List Nat) (List Nat)) (λ(v:Nat)=>(grd (decide (0≤(r:Int)))).bind λ_=>(getI (m1++List.replicate (a.length - w - j) 0) (j:Int)).bind λ_=>some (Lp.go (List.set (m1++List.replicate (a.length - w - j) 0) (Int.toNat (j:Int)) (v / 2 ^ (min (Int.toNat (r:Int)) 64)%4294967296)))) hw (Xh hw hwj)];rw[grd_t (by simp),sbind,Int.toNat_natCast (n:=r),Nat.min_eq_left (by omega)];obtain⟨d,hd⟩:∃ d,a.length - w - j=d+1:=⟨a.length - w - j - 1,by omega⟩
 rw[hd,List.replicate_succ,Kk h2,sbind,Vx h2];refine⟨_,rfl,m1++[(a[w+j]+4294967296*a.getD (w+j+1) 0) / 2 ^ r%4294967296],by rw[show a.length - w - (j+1)=d by omega];simp,by simp[h2],Ji.2 ⟨h3,Jk.2 ⟨by omega,Kf⟩⟩,?_⟩;rw[Jw,h2,Kl,←Q4h,h4,Nat.div_div_eq_div_mul (val (a.drop w)),Nat.mul_comm (2 ^ r) (bp j),←Nat.div_div_eq_div_mul (val (a.drop w)),Qmg (Qg5 hw),List.drop_drop,Q3a hwj,Nat.mul_add,←Nat.add_assoc,←Nat.mul_assoc,Q4f (by omega)];rintro s ⟨m1,h1,h2,h3,h4⟩;subst h1;simp only[Wu];rw[List.length_replicate] at h2 h4;rw[List.length_replicate,Nat.sub_self,List.replicate_zero,List.append_nil,Vq hn (by omega),sbind,←Jn h3,h4,Nat.mod_eq_of_lt];have:=Vv (Qg5 (k:=w) hw);rw[List.length_drop] at this;exact Nat.lt_of_le_of_lt (Nat.div_le_self _ _) this
theorem Q0b{q r x0 x1 x2 x3 x4:Nat}(h1:q*x3+r=x0*4294967296+x1)(h2:q*x4≤r*4294967296+x2):q*(x3*4294967296+x4)≤(x0*4294967296+x1)*4294967296+x2:=by rw[←h1];grind
theorem Q5k{q r x0 x1 x2 x3 x4:Nat}(h1:(q+1)*x3+r=x0*4294967296+x1)(h2:r*4294967296+x2<(q+1)*x4):(x0*4294967296+x1)*4294967296+x2<(q+1)*(x3*4294967296+x4):=by rw[←h1];grind
theorem Q5l{q r x3:Nat}{U:Nat}(h1:(q+1)*x3+r=U):q*x3+(r+x3)=U:=by rw[←h1];grind
theorem Q0c{q r x0 x1 x2 x3 x4:Nat}(h1:q*x3+r=x0*4294967296+x1)(hr:4294967296≤r)(hq:q<4294967296)(h4:x4<4294967296):q*(x3*4294967296+x4)≤(x0*4294967296+x1)*4294967296+x2:=by have e1:q*x4≤4294967295*4294967295:=Nat.mul_le_mul (by omega) (by omega);exact Q0b h1 (by omega)
theorem Q7j{X u w x2:Nat}(h:X<u)(h2:x2<4294967296):X*4294967296+x2<u*4294967296+w:=by omega
theorem Q7k{q x0 x1 x2 x3 x4:Nat}(h:x0*4294967296+x1<(q+1)*x3)(h2:x2<4294967296):(x0*4294967296+x1)*4294967296+x2<(q+1)*(x3*4294967296+x4):=by
 have e2:(q+1)*(x3*4294967296+x4)=((q+1)*x3)*4294967296+(q+1)*x4:=by rw[Nat.mul_add,Nat.mul_assoc]
 rw[e2];exact Q7j h h2
theorem Qtm{n q0 r0 x0 x1 x2 x3 x4:Nat}(hn:big≤n)(h2:x2<4294967296)(h3:x3<4294967296)(h4:x4<4294967296)(hq:q0<4294967296)(hr:r0<4294967296)
 (he:q0*x3+r0=x0*4294967296+x1) (hm:q0+1=4294967296∨(x0*4294967296+x1)*4294967296+x2<(q0+1)*(x3*4294967296+x4)) :
 ∃ q,(loopM (λ(s34:Nat×Nat)=>
   (Z0 s34.1 x4 0 0).bind λr35=>
   jn (λ(j37:(Bool)->Option _)=>
    bif decide (r35.1<s34.2) then (
     j37 true)
    else (
     bif decide (r35.1=s34.2) then (
      j37 (decide (r35.2≤x2)))
     else (
      j37 false))) (λ(s39:Bool)=>
    bif s39 then (
     some (Lp.out s34.1))
    else (
     (Xk s34.2 x3 0).bind λr40=>
     bif decide (0<r40.2) then (
      some (Lp.out ((s34.1+4294967296 - 1)%4294967296)))
     else (
      some (Lp.go (((s34.1+4294967296 - 1)%4294967296),r40.1)))))) n (q0,r0)).bind (λ(t32:Nat)=>some t32)=some q ∧
   (q<4294967296∧q*(x3*4294967296+x4)≤(x0*4294967296+x1)*4294967296+x2∧(q+1=4294967296∨(x0*4294967296+x1)*4294967296+x2<(q+1)*(x3*4294967296+x4))):=by
 unfold big at hn
 refine Qba (λs=>s.1) (λs=>s.1<4294967296∧s.2<4294967296∧s.1*x3+s.2=x0*4294967296+x1∧(s.1+1=4294967296∨(x0*4294967296+x1)*4294967296+x2<(s.1+1)*(x3*4294967296+x4)))
  (λq=>q<4294967296∧q*(x3*4294967296+x4)≤(x0*4294967296+x1)*4294967296+x2∧(q+1=4294967296∨(x0*4294967296+x1)*4294967296+x2<(q+1)*(x3*4294967296+x4))) ⟨hq,hr,he,hm⟩ (by simp only[];omega) ?_ (λt ht=>⟨t,rfl,ht⟩)
 rintro⟨q,r⟩ ⟨g1,g2,g3,g4⟩;simp only at g1 g2 g3 g4;simp only[jn_eq,bifd];rw[Qj5 g1 h4 (by omega) (by omega),sbind];simp only[Nat.add_zero]
 have key:(bif decide (q*x4≤r*4294967296+x2) then some (Lp.out q) else
  (Xk r x3 0).bind λr40=>if 0<r40.2 then some (Lp.out ((q+4294967296 - 1)%4294967296)) else some (Lp.go ((q+4294967296 - 1)%4294967296,r40.1)):Option (Lp (Nat×Nat) Nat)) =
  (if q*x4 / 4294967296<r then bif true then some (Lp.out q) else
   (Xk r x3 0).bind λr40=>if 0<r40.2 then some (Lp.out ((q+4294967296 - 1)%4294967296)) else some (Lp.go ((q+4294967296 - 1)%4294967296,r40.1))
   else if q*x4 / 4294967296=r then if q*x4%4294967296≤x2 then some (Lp.out q) else
    (Xk r x3 0).bind λr40=>if 0<r40.2 then some (Lp.out ((q+4294967296 - 1)%4294967296)) else some (Lp.go ((q+4294967296 - 1)%4294967296,r40.1))
   else bif false then some (Lp.out q) else
    (Xk r x3 0).bind λr40=>if 0<r40.2 then some (Lp.out ((q+4294967296 - 1)%4294967296)) else some (Lp.go ((q+4294967296 - 1)%4294967296,r40.1))):=by
  have hd:=Nat.div_add_mod (q*x4) 4294967296;have hm:=Nat.mod_lt (q*x4) (show 4294967296 > 0 by decide);by_cases c1:q*x4 / 4294967296<r;rw[if_pos c1,decide_eq_true (by omega)];rw[if_neg c1];by_cases c2:q*x4 / 4294967296=r;rw[if_pos c2,←bifd];congr 1;exact decide_eq_decide.2 (by omega);rw[if_neg c2,decide_eq_false (by omega)]
 rw[←key,bifd];by_cases hs:q*x4≤r*4294967296+x2;right;rw[if_pos hs];exact⟨q,rfl,g1,Q0b g3 hs,g4⟩;rw[if_neg hs,Qgg g2 h3 (by omega),sbind]
 obtain⟨q',rfl⟩:∃ q',q=q'+1:=⟨q - 1,by
  have:q≠0:=by rintro rfl;simp at hs
  omega⟩
 have hq':(q'+1+4294967296 - 1)%4294967296=q':=by omega
 have hnx:=Q5k (x2:=x2) (x4:=x4) g3 (by omega);have hdn:=Q5l g3;simp only[Nat.add_zero];rw[hq'];by_cases ho:0<(r+x3) / 4294967296;right;rw[if_pos ho];exact⟨q',rfl,by omega,Q0c hdn (by omega) (by omega) h4,.inr hnx⟩;left;rw[if_neg ho];refine⟨_,rfl,⟨by simp only[];omega,by simp only[];omega,?_,.inr hnx⟩,by simp only[];omega⟩;simp only[];rw[Nat.mod_eq_of_lt (by omega)];exact hdn
theorem Qtn{n x0 x1 x2 x3 x4:Nat}(hn:big≤n)(h0:x0≤x3)(h1:x1<4294967296)(h2:x2<4294967296)(h3:x3<4294967296)(h4:x4<4294967296)(hz:x3≠0):
 ∃ q,Qb1 n x0 x1 x2 x3 x4=some q∧(q<4294967296∧q*(x3*4294967296+x4)≤(x0*4294967296+x1)*4294967296+x2∧(q+1=4294967296∨(x0*4294967296+x1)*4294967296+x2<(q+1)*(x3*4294967296+x4))):=by
 unfold Qb1;by_cases hlt:x0<x3;rw[Qpo hlt h1 h3,sbind]
 have hq:(x0*4294967296+x1) / x3<4294967296:=Nat.div_lt_of_lt_mul (by
  have:x0*4294967296+4294967296≤x3*4294967296:=by omega
  omega)
 have hr:(x0*4294967296+x1)%x3<x3:=Nat.mod_lt _ (by omega);exact Qtm hn h2 h3 h4 hq (Nat.lt_trans hr h3) (by rw[Nat.mul_comm];exact Nat.div_add_mod _ _) (.inr (Q7k ((Nat.div_lt_iff_lt_mul (by omega)).1 (Nat.lt_succ_self _)) h2));obtain rfl:x0=x3:=by omega
 rw[show Qa1 x0 x1 x0=some (0,0,false) by unfold Qa1;rw[bifd,if_pos (by omega)],sbind];rw[jn_eq];simp only[Bool.not_false,bifT];rw[Qgg h1 h3 (by omega),sbind,jn_eq,bifd,if_neg (by omega)];simp only[Nat.add_zero];rw[bifd];have he:4294967295*x0+(x1+x0)=x0*4294967296+x1:=by omega
 by_cases ho:0<(x1+x0) / 4294967296;rw[if_pos ho];exact⟨_,rfl,by omega,Q0c he (by omega) (by omega) h4,.inl rfl⟩;rw[if_neg ho,Nat.mod_eq_of_lt (by omega)];exact Qtm hn h2 h3 h4 (by omega) (by omega) he (.inl rfl)
theorem Qv6(P M c b d lo hi b' q y u V W:Nat)(e1:4294967296*hi+lo=q*y+c)(e2:d+lo+b=u+4294967296*b')(h:W+q*V=M+P*(c+b)):W+P*d+q*(V+P*y)=M+P*u+P*4294967296*(hi+b'):=by
 have e3:P*d+P*lo+P*b=P*u+P*4294967296*b':=by rw[←Nat.mul_add,←Nat.mul_add,e2];grind
 have e4:P*4294967296*hi+P*lo=P*(q*y)+P*c:=by rw[←Nat.mul_add,←e1];grind
 grind
theorem Qu4{p m q' v:List Nat}{z q:Nat}(hm:m.length=v.length)(hp:p.length+m.length+1+q'.length≤4611686018427387904)(hwm:Wd m)(hwv:Wd v)(hz:z<4294967296)(hq:q<4294967296):
 ∃ r b,Qaa (p++m++z::q') (p.length:Int) v q=some (decide (0<b),p++r++q')∧r.length=v.length+1∧Wd r∧b≤1∧val r+q*val v=val (m++[z])+bp (v.length+1)*b:=by
 have key:∃ R,Qaa (p++m++z::q') (p.length:Int) v q=some R∧∃ r b,R=(decide (0<b),p++r++q')∧r.length=v.length+1∧Wd r∧b≤1∧val r+q*val v=val (m++[z])+bp (v.length+1)*b:=by
  unfold Qaa;refine Qnc (λj (s:List Nat×Nat×Nat)=>∃ m1,s.1=p++m1++(m.drop j++z::q')∧m1.length=j∧j≤v.length∧Wd m1∧s.2.1<4294967296∧s.2.2≤1∧val m1+q*val (v.take j)=val (m.take j)+bp j*(s.2.1+s.2.2)) ⟨[],by simp,rfl,Nat.zero_le _,Kf,by simp,by simp,by simp[val]⟩ ?_ ?_;rintro j y ⟨o,c,b⟩ hj ⟨m1,h1,h2,h3,h4,h5,h6,h7⟩;simp only at h1 h5 h6 h7;subst h1;have hjv:j<v.length:=Qe2 hj;have hy:v[j]=y:=by simpa [hjv] using hj
  have hyw:y<4294967296:=by rw[←hy];exact Xh hwv hjv
  have hmj:j<m.length:=by omega
  have hmw:=Xh hwm hmj;have hlen:(p++m1).length=p.length+j:=by simp;omega
  have hmul:=Qpb hq hyw h5 (show 0<4294967296 by omega);obtain⟨d,b',g1,g2,g3,g4⟩:=Qj6 (x:=m[j]) (y:=(q*y+c+0)%4294967296) (c:=b) hmw (by omega) h6;rw[Qj5 hq hyw h5 (by omega),sbind,w64 (by omega) (by omega),show((p.length:Int)+(j:Int))=((p.length+j:Nat):Int) by omega,List.drop_eq_getElem_cons hmj,List.cons_append];simp only[];rw[Kk hlen,sbind,g1,sbind,sbind,Vx hlen];refine⟨_,rfl,m1++[d],by simp,by simp[h2],by omega,Ji.2 ⟨h4,Jk.2 ⟨g2,Kf⟩⟩,by simp only[];omega,g3,?_⟩;simp only[];rw[Vi,J8 hmj,Jw,Jw,h2,Kl,show v.getD j 0=y by rw[←hy];simp[hjv],List.length_take,Nat.min_eq_left (by omega)];exact Qv6 _ _ _ _ _ _ _ _ _ _ _ _ _ (Nat.div_add_mod (q*y+c) 4294967296) g4 h7;rintro⟨o,c,b⟩ ⟨m1,h1,h2,h3,h4,h5,h6,h7⟩;simp only at h1 h5 h6 h7;subst h1;simp only[Wu];have hlen:(p++m1).length=p.length+v.length:=by simp;omega
  obtain⟨d,b',g1,g2,g3,g4⟩:=Qj6 (x:=z) (y:=c) (c:=b) hz h5 h6;rw[w64 (by omega) (by omega),show((p.length:Int)+(v.length:Int))=((p.length+v.length:Nat):Int) by omega,List.drop_of_length_le (by omega),List.nil_append,Kk hlen,sbind,g1,sbind,sbind,Vx hlen];refine⟨_,rfl,m1++[d],b',by simp,by simp[h2],Ji.2 ⟨h4,Jk.2 ⟨g2,Kf⟩⟩,g3,?_⟩;rw[List.take_of_length_le (Nat.le_refl _),List.take_of_length_le (by omega)] at h7;rw[Jw,Jw,h2,hm,Kl];have:=Qv6 (bp v.length) (val m) c b d c 0 b' q 0 z (val v) (val m1) (by omega) g4 h7
  simpa using this
 obtain⟨R,h1,r,b,h2,h3⟩:=key;exact⟨r,b,by rw[h1,h2],h3⟩
theorem Qv7(P M c d c' y u V W:Nat)(e1:4294967296*c'+d=u+y+c)(h:W+P*c=M+V):W+P*d+P*4294967296*c'=M+P*u+(V+P*y):=by grind
theorem Qu5{p m q' v:List Nat}{z:Nat}(hm:m.length=v.length)(hp:p.length+m.length+1+q'.length≤4611686018427387904)(hwm:Wd m)(hwv:Wd v)(hz:z<4294967296):
 ∃ r b,Qbk (p++m++z::q') (p.length:Int) v=some (p++r++q')∧r.length=v.length+1∧Wd r∧b≤1∧val r+bp (v.length+1)*b=val (m++[z])+val v:=by
 have key:∃ R,Qbk (p++m++z::q') (p.length:Int) v=some R∧∃ r b,R=p++r++q'∧r.length=v.length+1∧Wd r∧b≤1∧val r+bp (v.length+1)*b=val (m++[z])+val v:=by
  unfold Qbk;refine Qnc (λj (s:List Nat×Nat)=>∃ m1,s.1=p++m1++(m.drop j++z::q')∧m1.length=j∧j≤v.length∧Wd m1∧s.2≤1∧val m1+bp j*s.2=val (m.take j)+val (v.take j)) ⟨[],by simp,rfl,Nat.zero_le _,Kf,by simp,by simp[val]⟩ ?_ ?_;rintro j y ⟨o,c⟩ hj ⟨m1,h1,h2,h3,h4,h6,h7⟩;simp only at h1 h6 h7;subst h1;have hjv:j<v.length:=Qe2 hj;have hy:v[j]=y:=by simpa [hjv] using hj
  have hyw:y<4294967296:=by rw[←hy];exact Xh hwv hjv
  have hmj:j<m.length:=by omega
  have hmw:=Xh hwm hmj;have hlen:(p++m1).length=p.length+j:=by simp;omega
  rw[w64 (by omega) (by omega),show((p.length:Int)+(j:Int))=((p.length+j:Nat):Int) by omega,List.drop_eq_getElem_cons hmj,List.cons_append];rw[Kk hlen,sbind,Qgg hmw hyw (by simp only[];omega),sbind,sbind,Vx hlen];refine⟨_,rfl,m1++[(m[j]+y+c)%4294967296],by simp,by simp[h2],by omega,Ji.2 ⟨h4,Jk.2 ⟨by omega,Kf⟩⟩,by simp only[];omega,?_⟩;simp only[];rw[Vi,Vi,Jw,h2,Kl,show v.getD j 0=y by rw[←hy];simp[hjv],show m.getD j 0=m[j] by simp[hmj]];exact Qv7 _ _ _ _ _ _ _ _ _ (Nat.div_add_mod (m[j]+y+c) 4294967296) h7;rintro⟨o,c⟩ ⟨m1,h1,h2,h3,h4,h6,h7⟩;simp only at h1 h6 h7;subst h1;simp only[Wu];have hlen:(p++m1).length=p.length+v.length:=by simp;omega
  rw[w64 (by omega) (by omega),show((p.length:Int)+(v.length:Int))=((p.length+v.length:Nat):Int) by omega,List.drop_of_length_le (by omega),List.nil_append,Kk hlen,sbind,sbind,Vx hlen,sbind];refine⟨_,rfl,m1++[(z+c)%4294967296],(z+c) / 4294967296,by simp,by simp[h2],Ji.2 ⟨h4,Jk.2 ⟨by omega,Kf⟩⟩,by omega,?_⟩;rw[List.take_of_length_le (Nat.le_refl _),List.take_of_length_le (by omega)] at h7;rw[Jw,Jw,h2,hm,Kl];have:=Qv7 (bp v.length) (val m) c ((z+c)%4294967296) ((z+c) / 4294967296) 0 z (val v) (val m1) (by omega) h7
  simpa using this
 obtain⟨R,h1,r,b,h2,h3⟩:=key;exact⟨r,b,by rw[h1,h2],h3⟩
theorem kn_a{P vl V2 ul U3 q qh:Nat}(h1:ul<P)(hq:q<4294967296)(hU:q*(vl+P*V2)≤ul+P*U3)(hm:qh+1=4294967296∨U3<(qh+1)*V2):q≤qh:=by
 rcases hm with hm | hm;omega;have e1:P*(q*V2)≤q*(vl+P*V2):=by rw[Nat.mul_add,Nat.mul_left_comm];exact Nat.le_add_left _ _
 have e2:P*(q*V2)<P*(U3+1):=by rw[Nat.mul_add,Nat.mul_one];omega
 have e3:q*V2<U3+1:=Nat.lt_of_mul_lt_mul_left e2;have e4:q*V2<(qh+1)*V2:=by omega
 exact Nat.le_of_lt_succ (Nat.lt_of_mul_lt_mul_right e4)
theorem kn_b{P vl V2 ul U3 qh:Nat}(h1:vl<P)(hq:qh<4294967296)(h2:4294967296≤V2)(hm:qh*V2≤U3):qh*(vl+P*V2)≤(ul+P*U3)+(vl+P*V2):=by
 have e1:qh*(vl+P*V2)=qh*vl+P*(qh*V2):=by rw[Nat.mul_add,Nat.mul_left_comm]
 have e2:P*(qh*V2)≤P*U3:=Nat.mul_le_mul_left _ hm;have e3:qh*vl≤V2*P:=Nat.mul_le_mul (by omega) (by omega);rw[e1];rw[Nat.mul_comm V2 P] at e3;omega
theorem kn_z{P vl v3 v4 ul z x1 x2:Nat}(h1:vl<P)(h4:v4<4294967296)(hU:ul+P*((z*4294967296+x1)*4294967296+x2)<4294967296*(vl+P*(v3*4294967296+v4))):z≤v3:=by
 have e1:P*(z*4294967296*4294967296)≤P*((z*4294967296+x1)*4294967296+x2):=Nat.mul_le_mul_left _ (by omega);have e2:vl+P*(v3*4294967296+v4)<P*((v3+1)*4294967296):=by have:P*(v3*4294967296+v4+1)≤P*((v3+1)*4294967296):=Nat.mul_le_mul_left _ (by omega);rw[Nat.mul_add _ _ 1,Nat.mul_one] at this;omega
 have e3:P*(z*4294967296*4294967296)<P*((v3+1)*4294967296*4294967296):=by have a1:P*((v3+1)*4294967296*4294967296)=P*((v3+1)*4294967296)*4294967296:=(Nat.mul_assoc _ _ _).symm;omega
 have e4:=Nat.lt_of_mul_lt_mul_left e3;omega
theorem dm_of{U V q r:Nat}(h:r+q*V=U)(hr:r<V):U / V=q∧U%V=r:=by subst h;rw[Nat.add_mul_div_right _ _ (by omega),Nat.div_eq_of_lt hr,Nat.add_mul_mod_self_right,Nat.mod_eq_of_lt hr];omega
theorem last2{l:List Nat}{m:Nat}(h:l.length=m+2):∃ l' a b,l=l'++[a,b]∧l'.length=m:=by refine⟨l.take m,l[m],l[m+1],?_,by simp;omega⟩;have h1:=J8 (a:=l) (k:=m) (by omega);have h2:=J8 (a:=l) (k:=m+1) (by omega);rw[List.take_of_length_le (by omega)] at h2;refine h2.trans ?_;rw[h1,List.append_assoc];rfl
theorem Q4i(p y w qs V U j:Nat)(q r:Nat)(hU:U=y+4294967296*w)(h:r+q*V=U):(p+j*y)+j*4294967296*(w+V*qs)=p+j*(r+V*(q+4294967296*qs)):=by grind
theorem Q1p{n:Nat}{p w rest v:List Nat}{z:Nat}(hn:big≤n){vl wl:List Nat}{v3 v4 x1 x2:Nat}(hv:v=vl++[v4,v3])(hw:w=wl++[x2,x1])(hl:wl.length=vl.length)
 (hwv:Wd v) (hww:Wd w) (hz:z<4294967296) (h3:v3≠0) (hp:p.length+w.length+1+rest.length≤4611686018427387904) (hU:val (w++[z])<4294967296*val v) :
 ∃ r qh,Qb1 n z x1 x2 v3 v4=some qh∧r.length=v.length+1∧Wd r∧val r=val (w++[z])%val v∧val (w++[z]) / val v<4294967296 ∧
   ((Qaa (p++w++z::rest) (p.length:Int) v qh=some (false,p++r++rest)∧qh=val (w++[z]) / val v) ∨
    (∃ r1,Qaa (p++w++z::rest) (p.length:Int) v qh=some (true,r1)∧Qbk r1 (p.length:Int) v=some (p++r++rest)∧(qh+4294967296 - 1)%4294967296=val (w++[z]) / val v)):=by
 have hwl:w.length=v.length:=by rw[hv,hw];simp[hl]
 have w1:Wd vl∧v4<4294967296∧v3<4294967296:=by rw[hv] at hwv;exact⟨(Ji.1 hwv).1,(Jk.1 (Ji.1 hwv).2).1,(Jk.1 (Jk.1 (Ji.1 hwv).2).2).1⟩
 have w2:Wd wl∧x2<4294967296∧x1<4294967296:=by rw[hw] at hww;exact⟨(Ji.1 hww).1,(Jk.1 (Ji.1 hww).2).1,(Jk.1 (Jk.1 (Ji.1 hww).2).2).1⟩
 obtain⟨w1,w3,w4⟩:=w1;obtain⟨w2,w5,w6⟩:=w2;have hV:val v=val vl+bp vl.length*(v3*4294967296+v4):=by rw[hv,Vk];simp only[val];congr 2;omega
 have hW:val (w++[z])=val wl+bp vl.length*((z*4294967296+x1)*4294967296+x2):=by rw[hw,List.append_assoc,Vk,hl];simp only[List.cons_append,List.nil_append,val];congr 2;omega
 have l1:=Vv w1;have l2:=Vv w2;rw[hl] at l2;have hz3:z≤v3:=by rw[hV,hW] at hU;exact kn_z l1 w3 hU
 obtain⟨qh,g1,g2,g3,g4⟩:=Qtn hn hz3 w6 w5 w4 w3 h3;have hVp:0<val v:=by rcases Nat.eq_zero_or_pos (val v) with h | h;rw[h] at hU;omega;exact h
 have hqB:val (w++[z]) / val v<4294967296:=(Nat.div_lt_iff_lt_mul hVp).2 hU;have hqa:val (w++[z]) / val v≤qh:=by have:=Nat.div_mul_le_self (val (w++[z])) (val v);exact kn_a (vl:=val vl) l2 hqB (by rw[←hV,←hW];exact this) g4
 have hqb:qh*val v≤val (w++[z])+val v:=by rw[hV,hW];exact kn_b l1 g2 (by omega) g3
 have hUq:val (w++[z])<(qh+1)*val v:=Nat.lt_of_lt_of_le ((Nat.div_lt_iff_lt_mul hVp).1 (Nat.lt_succ_self _)) (Nat.mul_le_mul_right _ (by omega));obtain⟨r,b,t1,t2,t3,t4,t5⟩:=Qu4 (p:=p) (m:=w) (q':=rest) (v:=v) (z:=z) (q:=qh) hwl hp hww hwv hz g2;rw[Nat.add_mul,Nat.one_mul] at hUq;have hvb:=Vv hwv;have hbb:bp v.length≤bp (v.length+1):=bp_le (by omega);by_cases hb:b=0;subst hb;rw[Nat.mul_zero,Nat.add_zero] at t5;obtain⟨d1,d2⟩:=dm_of t5 (by omega);exact⟨r,qh,g1,t2,t3,d2.symm,hqB,.inl ⟨t1,d1.symm⟩⟩;obtain rfl:b=1:=by omega
 rw[Nat.mul_one] at t5;have hr:=Vv t3;rw[t2] at hr;obtain⟨r0,rz,e1⟩:∃ r0 rz,r=r0++[rz]:=by rcases List.eq_nil_or_concat r with h | ⟨r0,rz,h⟩;rw[h] at t2;simp at t2;exact⟨r0,rz,by rw[h,List.concat_eq_append]⟩
 have e2:r0.length=v.length:=by rw[e1] at t2;simpa using t2
 have e3:Wd r0∧rz<4294967296:=by rw[e1] at t3;exact⟨(Ji.1 t3).1,(Jk.1 (Ji.1 t3).2).1⟩
 obtain⟨r',b2,u1,u2,u3,u4,u5⟩:=Qu5 (p:=p) (m:=r0) (q':=rest) (v:=v) (z:=rz) e2 (by omega) e3.1 hwv e3.2;have hr':=Vv u3;rw[u2] at hr';rw[←e1] at u5
 obtain⟨qq,rfl⟩:∃ qq,qh=qq+1:=⟨qh - 1,by
  have:qh≠0:=by rintro rfl;omega
  omega⟩
 rw[Nat.add_mul,Nat.one_mul] at *;have hb2:b2=1:=by rcases Nat.eq_zero_or_pos b2 with h | h;subst h;rw[Nat.mul_zero] at u5;omega;omega
 subst hb2;rw[Nat.mul_one] at u5;obtain⟨d1,d2⟩:=dm_of (U:=val (w++[z])) (V:=val v) (q:=qq) (r:=val r') (by omega) (by omega);refine⟨r',qq+1,g1,u2,u3,d2.symm,hqB,.inr ⟨p++r++rest,t1,?_,by rw[d1];omega⟩⟩;rw[e1,show p++(r0++[rz])++rest=p++r0++rz::rest by simp];exact u1
theorem Qu6{n:Nat}{u v vl:List Nat}{v3 v4:Nat}(hn:big≤n)(hv:v=vl++[v4,v3])(h3:v3≠0)(hwu:Wd u)(hwv:Wd v)(hu:u.length<35184372088832)(hl:v.length≤u.length)(ht:val (u.drop (u.length - v.length))<val v):
 ∃ r,Qfm n u v=some r∧(r.1.length=u.length - v.length∧Wd r.1∧r.2.length=u.length∧Wd r.2∧val u=val v*val r.1+val r.2∧val r.2<val v):=by
 unfold Qfm;have hn':=hn;unfold big at hn';have hvl:v.length=vl.length+2:=by rw[hv];simp
 rw[w64 (x:=(u.length:Int) - (v.length:Int)) (by omega) (by omega),show(u.length:Int) - (v.length:Int)=((u.length - v.length:Nat):Int) by omega,Qcz (by omega) (by omega),sbind]
 refine Qba (λs=>(s.2.2+1).toNat) (λs=>∃(k:Nat) (p w qs:List Nat),s.2.2=(k:Int) - 1∧k≤u.length - v.length∧s.1=p++w∧p.length=k∧w.length=u.length - k∧Wd p∧Wd w∧val w<val v∧s.2.1=List.replicate k 0++qs∧qs.length=u.length - v.length - k∧Wd qs∧val u=val p+bp k*(val w+val v*val qs))
  (λt=>t.2.length=u.length - v.length∧Wd t.2∧t.1.length=u.length∧Wd t.1∧val u=val v*val t.2+val t.1∧val t.1<val v) ⟨u.length - v.length,u.take (u.length - v.length),u.drop (u.length - v.length),[],?_,Nat.le_refl _,by simp only[List.take_append_drop],by simp,by simp,Qkm hwu,Qg5 hwu,ht,by simp only[List.append_nil],by simp,Kf,?_⟩ ?_ ?_ (λt ht=>⟨_,rfl,ht⟩)
 . simp only[];rw[List.length_replicate,w64 (by omega) (by omega)]
 . simp only[val,Nat.mul_zero,Nat.add_zero]
   conv=>lhs;rw[←List.take_append_drop (u.length - v.length) u]
   rw[Vk,List.length_take,Nat.min_eq_left (by omega)]
 . simp only[];rw[List.length_replicate,w64 (by omega) (by omega)];omega
 . rintro⟨uu,qq,i⟩ ⟨k,p,w,qs,i1,i2,i3,i4,i5,i6,i7,i8,i9,i10,i11,i12⟩
   simp only at i1 i3 i9;subst i1 i3 i9;simp only[jn_eq,bifd];by_cases h0:0<k
   . left
     obtain⟨j,rfl⟩:∃ j,k=j+1:=⟨k - 1,by omega⟩
     obtain⟨p1,y,e1⟩:∃ p1 y,p=p1++[y]:=by
      rcases List.eq_nil_or_concat p with h | ⟨p1,y,h⟩
      . rw[h] at i4;simp at i4
      . exact⟨p1,y,by rw[h,List.concat_eq_append]⟩
     subst e1;have e2:p1.length=j:=by simpa using i4
     have e3:Wd p1∧y<4294967296:=⟨(Ji.1 i6).1,(Jk.1 (Ji.1 i6).2).1⟩
     have e4:Wd (y::w):=Jk.2 ⟨e3.2,i7⟩;have e5:v.length<(y::w).length:=by simp;omega
     have e6:y::w=(y::w).take v.length++(y::w)[v.length]::(y::w).drop (v.length+1):=Q26 e5;have e7:val ((y::w).drop (v.length+1))=0:=by rw[List.drop_succ_cons,←Qmg i7];exact Nat.div_eq_of_lt (Nat.lt_trans i8 (Vv hwv))
     have e8:val ((y::w).take v.length++[(y::w)[v.length]])=y+4294967296*val w:=by have:=congrArg val e6;rw[show ∀(a b:List Nat) (x:Nat),a++x::b=(a++[x])++b by intro a b x;simp,Vk,e7,Nat.mul_zero,Nat.add_zero] at this;rw[←this];rfl
     have w1:Wd ((y::w).take v.length):=Qkm e4;have w2:(y::w)[v.length]<4294967296:=Xh e4 e5;have w3:Wd ((y::w).drop (v.length+1)):=Qg5 e4;have w4:((y::w).take v.length).length=v.length:=by rw[List.length_take,Nat.min_eq_left (by omega)]
     have w5:((y::w).drop (v.length+1)).length=u.length - j - (v.length+1):=by rw[List.length_drop,List.length_cons];omega
     rw[show p1++[y]++w=p1++(y::w) by simp,e6];generalize (y::w).take v.length=W at *;generalize (y::w)[v.length]=z at *;generalize (y::w).drop (v.length+1)=R at *;obtain⟨wl,x2,x1,f1,f2⟩:=last2 (l:=W) (m:=vl.length) (by omega);obtain⟨r,qh,g1,g2,g3,g4,g5,g6⟩:=Q1p (p:=p1) (w:=W) (rest:=R) (v:=v) (z:=z) hn hv f1 f2 hwv w1 w2 h3 (by rw[w4,w5];omega) (by rw[e8];omega);rw[if_pos (by omega),show((j+1:Nat):Int) - 1=(j:Int) by omega];rw[w64 (x:=(j:Int)+(v.length:Int)) (by omega) (by omega),show(j:Int)+(v.length:Int)=((j+vl.length+2:Nat):Int) by omega];rw[w64 (x:=((j+vl.length+2:Nat):Int) - 1) (by omega) (by omega),w64 (x:=((j+vl.length+2:Nat):Int) - 2) (by omega) (by omega),show((j+vl.length+2:Nat):Int) - 1=((j+vl.length+1:Nat):Int) by omega,show((j+vl.length+2:Nat):Int) - 2=((j+vl.length:Nat):Int) by omega];rw[w64 (x:=(v.length:Int) - 1) (by omega) (by omega),w64 (x:=(v.length:Int) - 2) (by omega) (by omega),show(v.length:Int) - 1=((vl.length+1:Nat):Int) by omega,show(v.length:Int) - 2=((vl.length:Nat):Int) by omega];have a1:getI (p1++(W++z::R)) ((j+vl.length+2:Nat):Int)=some z:=by
      rw[←List.append_assoc];exact Kk (by rw[List.length_append,w4];omega)
     have a2:getI (p1++(W++z::R)) ((j+vl.length+1:Nat):Int)=some x1:=by rw[f1,show p1++(wl++[x2,x1]++z::R)=(p1++wl++[x2])++x1::(z::R) by simp];exact Kk (by simp;omega)
     have a3:getI (p1++(W++z::R)) ((j+vl.length:Nat):Int)=some x2:=by rw[f1,show p1++(wl++[x2,x1]++z::R)=(p1++wl)++x2::(x1::z::R) by simp];exact Kk (by simp;omega)
     have a4:getI v ((vl.length+1:Nat):Int)=some v3:=by rw[hv,show vl++[v4,v3]=(vl++[v4])++v3::[] by simp];exact Kk (by simp)
     have a5:getI v ((vl.length:Nat):Int)=some v4:=by rw[hv];exact Kk rfl
     rw[a1,sbind,a2,sbind,a3,sbind,a4,sbind,a5,sbind,g1,sbind]
     have a6:∀(q':Nat),getI (List.replicate (j+1) 0++qs) (j:Int)=some 0∧(List.replicate (j+1) 0++qs).set (Int.toNat (j:Int)) q'=List.replicate j 0++q'::qs:=λq'=>by rw[List.replicate_succ',List.append_assoc,List.singleton_append];exact⟨Kk (by simp),Vx (by simp)⟩
     rw[e2,List.append_assoc] at g6;have hfin:∀ q',q'=val (W++[z]) / val v->∃ s',(some (Lp.go (p1++r++R,List.replicate j 0++q'::qs,wrap64 ((j:Int) - 1))):Option (Lp (List Nat×List Nat×Int) (List Nat×List Nat)))=some (Lp.go s')∧(∃(k:Nat) (p w qs:List Nat),s'.2.2=(k:Int) - 1∧k≤u.length - v.length∧s'.1=p++w∧p.length=k∧w.length=u.length - k∧Wd p∧Wd w∧val w<val v∧s'.2.1=List.replicate k 0++qs∧qs.length=u.length - v.length - k∧Wd qs∧val u=val p+bp k*(val w+val v*val qs))∧(s'.2.2+1).toNat<((j:Int)+1).toNat:=by
      intro q' hq';have hVp:0<val v:=by omega
      rw[w64 (by omega) (by omega)];refine⟨_,rfl,⟨j,p1,r++R,q'::qs,rfl,by omega,by rw[List.append_assoc],e2,by rw[List.length_append,g2,w5];omega,e3.1,Ji.2 ⟨g3,w3⟩,?_,rfl,by rw[List.length_cons];omega,Jk.2 ⟨by omega,i11⟩,?_⟩,by simp only[];omega⟩
      . rw[Vk,e7,Nat.mul_zero,Nat.add_zero,g4];exact Nat.mod_lt _ hVp
      . rw[i12,Jw,e2,Kl,Vk,e7,Nat.mul_zero,Nat.add_zero]
        simp only[val];refine Q4i _ _ _ _ _ _ _ _ _ e8 ?_;rw[g4,hq',Nat.mul_comm];exact Nat.mod_add_div _ _
     rcases g6 with ⟨t1,t2⟩ | ⟨r1,t1,t2,t3⟩
     . rw[t1,sbind]
       simp only[bifF];rw[(a6 qh).1,sbind,(a6 qh).2];exact hfin _ t2
     . rw[t1,sbind]
       simp only[bifT];rw[t2,sbind,(a6 ((qh+4294967296 - 1)%4294967296)).1,sbind,(a6 _).2];exact hfin _ t3
   . right
     obtain rfl:k=0:=by omega
     obtain rfl:p=[]:=List.eq_nil_of_length_eq_zero i4;rw[if_neg (by omega)];refine⟨_,rfl,by simp only[List.replicate_zero,List.nil_append];omega,by simpa using i11,by simp only[List.nil_append];omega,by simpa using i7,?_,by simpa using i8⟩;rw[i12,Xp];simp[val];omega
theorem Q7l{x:Nat}(h2:x<4294967296):blen x≤32:=by
 rcases Nat.lt_or_ge 32 (blen x) with h | h;have h0:x≠0:=by rintro rfl;rw[Qel] at h;omega
 have g1:=Qkn h0;have g2:2 ^ 32≤2 ^ (blen x - 1):=Nat.pow_le_pow_right (by decide) (by omega);rw[show(2:Nat) ^ 32=4294967296 by decide] at g2;omega;exact h
theorem Jt{a:List Nat}(hw:Wd a):(toL (val a)).length≤a.length:=by rw[Jn hw];exact Wv a
theorem Qr6{v s:Nat}(hs:s≤32):(toL (v*2 ^ s)).length≤(toL v).length+1:=by refine Qbb ?_;have h1:=Vv (Q1 v);rw[Qt] at h1;rw[Kl];exact Nat.lt_of_lt_of_le (Nat.mul_lt_mul_of_pos_right h1 (Nat.two_pow_pos s)) (Nat.mul_le_mul_left _ (Qpd hs))
theorem len2{v:Nat}(h:4294967296≤v):∃ vl v4 v3,toL v=vl++[v4,v3]∧v3≠0:=by
 have h0:toL v≠[]:=by rw[Yp (by omega)];simp
 obtain⟨p,x,h1,h2,h3,h4⟩:=Qyu h0;rcases List.eq_nil_or_concat p with h5 | ⟨p',y,h5⟩;exfalso;have:=Qt v;rw[h1,h5] at this;simp[val] at this;omega;exact⟨p',y,x,by rw[h1,h5,List.concat_eq_append];simp,h2⟩
theorem Q7m{v:Nat}(h:v≠0):bp ((toL v).length - 1)≤v:=by
 have h0:toL v≠[]:=by rw[Yp h];simp
 obtain⟨p,x,h1,h2,h3,h4⟩:=Qyu h0;have:=Qt v;rw[h1,Jw] at this;rw[h1,List.length_append,List.length_singleton,Nat.add_sub_cancel,←this];have:bp p.length*1≤bp p.length*x:=Nat.mul_le_mul_left _ (by omega);omega
theorem Qgi{n:Nat}{a b:List Nat}(hn:big≤n)(ha:a.length<4398046511104)(hb:b.length<4398046511104)(hwa:Wd a)(hwb:Wd b):
 Qa2 n a b=some (if val b=0 then ([],[],false) else (toL (val a / val b),toL (val a%val b),true)):=by
 unfold Qa2;have hlb:=Jt hwb;have hla:=Jt hwa;rw[Vq hn (by omega),sbind,←Jn hwb,bifd];by_cases h0:val b=0;rw[h0,K8,if_pos (by rfl),if_pos rfl];have hne:toL (val b)≠[]:=by rw[Yp h0];simp
 have hl0:(toL (val b)).length≠0:=λh=>hne (List.eq_nil_of_length_eq_zero h);rw[if_neg (by omega),if_neg h0,Qek hn (by omega) (by omega) hwa (Q1 _),sbind,Qt,bifd];by_cases hlt:val a<val b;rw[if_pos (by rw[cmpI,if_pos hlt];decide),Vq hn (by omega),sbind,Nat.div_eq_of_lt hlt,Nat.mod_eq_of_lt hlt,K8,Jn hwa];rw[if_neg (by rw[cmpI,if_neg hlt];split<;>decide),bifd];by_cases h1:(toL (val b)).length=1;rw[if_pos (by omega)];obtain⟨y,hy⟩:=List.length_eq_one_iff.1 h1;have hv:=Qt (val b);have hw:=Q1 (val b);rw[hy] at hv hw;simp only[val,Nat.mul_zero,Nat.add_zero] at hv;have hyw:=(Jk.1 hw).1;rw[hy,show getI [y] (0:Int)=some y by rfl,sbind,Qu1 hn (by omega) hwa (by omega) hyw,sbind];simp only[];have:=Nat.mod_lt (val a) (show y > 0 by omega);rw[Qne hn (by omega),sbind,←hv];rw[if_neg (by omega)];have hbig:4294967296≤val b:=by
  rcases Nat.lt_or_ge (val b) 4294967296 with h | h;have:=Qbb (n:=val b) (k:=1) (by rw[Kl,Xp];omega);omega;exact h
 obtain⟨bl,b4,b3,e1,e2⟩:=len2 hbig;have hwb':=Q1 (val b);have hb3:b3<4294967296:=by rw[e1] at hwb';exact(Jk.1 (Jk.1 (Ji.1 hwb').2).2).1
 have hbl:(toL (val b)).length=bl.length+2:=by rw[e1];simp
 rw[w64 (x:=((toL (val b)).length:Int) - 1) (by omega) (by omega),show((toL (val b)).length:Int) - 1=((bl.length+1:Nat):Int) by omega];rw[show getI (toL (val b)) ((bl.length+1:Nat):Int)=some b3 by rw[e1,show bl++[b4,b3]=(bl++[b4])++b3::[] by simp];exact Kk (by simp),sbind,Qwy hn hb3,sbind];have hs:=Q7l hb3;rw[w64 (x:=(32:Int) - (blen b3:Int)) (by omega) (by omega),show(32:Int) - (blen b3:Int)=((32 - blen b3:Nat):Int) by omega];have hs':32 - blen b3≤32:=by omega
 generalize 32 - blen b3=s at *;have hS:=Nat.two_pow_pos s;rw[Qq3 hn (by omega) hwa (by omega),sbind];have l1:=Qr6 (v:=val a) hs';have l2:=Qr6 (v:=val b) hs';rw[Xy (by simp;omega) (by simp;omega),sbind,Qq3 hn (by omega) hwb' (by omega),sbind,Qt];have hbs:val b≤val b*2 ^ s:=Nat.le_mul_of_pos_right _ hS;obtain⟨vl,v4,v3,f1,f2⟩:=len2 (v:=val b*2 ^ s) (by omega);have hab:val b*2 ^ s≤val a*2 ^ s:=Nat.mul_le_mul_right _ (by omega);have hll:=V6 hab;have hge:=Q7m (v:=val b*2 ^ s) (by omega);have hvl:(toL (val b*2 ^ s)).length=vl.length+2:=by rw[f1];simp
 have hwu:Wd (toL (val a*2 ^ s)++[0]):=Ji.2 ⟨Q1 _,Jk.2 ⟨by omega,Kf⟩⟩
 obtain⟨⟨q,r⟩,g1,g2,g3,g4,g5,g6,g7⟩:=Qu6 (u:=toL (val a*2 ^ s)++[0]) (v:=toL (val b*2 ^ s)) hn f1 f2 hwu (Q1 _) (by simp;omega) (by simp;omega) (by
  rw[List.length_append,List.length_singleton,List.drop_append_of_le_length (by omega),Jw,Nat.mul_zero,Nat.add_zero,Qt];have:=Vv (Qg5 (k:=(toL (val a*2 ^ s)).length+1 - (toL (val b*2 ^ s)).length) (Q1 (val a*2 ^ s)));rw[List.length_drop] at this
  exact Nat.lt_of_lt_of_le this (Nat.le_trans (bp_le (by omega)) hge))
 simp only at g2 g3 g4 g5 g6 g7;rw[Jw,Nat.mul_zero,Nat.add_zero,Qt,Qt] at g6;rw[Qt] at g7;rw[List.length_append,List.length_singleton] at g2 g4;rw[g1,sbind];simp only[];rw[Vq hn (by omega),sbind,Qu3 hn (by omega) g5 (by omega),sbind,←Jn g3];obtain⟨d1,d2⟩:=dm_of (U:=val a*2 ^ s) (V:=val b*2 ^ s) (q:=val q) (r:=val r) (by rw[g6,Nat.mul_comm (val q)];omega) g7;rw[Nat.mul_div_mul_right _ _ hS] at d1;rw[Nat.mul_mod_mul_right] at d2;rw[←d1,←d2,Nat.mul_div_cancel _ hS]
theorem Qrq{n x y:Nat}(hn:big≤n)(hy:y<18446744073709551616):Qb2 n x y=some (Nat.gcd x y):=by unfold Qb2;unfold big at hn;refine Xx (λs=>s.2) (λs=>s.2<18446744073709551616∧Nat.gcd s.1 s.2=Nat.gcd x y) (λt=>t=Nat.gcd x y) ⟨hy,rfl⟩ (by simp only[];omega) ?_ (λt ht=>by rw[ht]);rintro⟨u,v⟩ ⟨h1,h2⟩;simp only at h1 h2;simp only[bifnd];by_cases h0:v=0;right;rw[if_pos h0];exact⟨_,rfl,by rw[←h2,h0,Nat.gcd_zero_right]⟩;left;rw[if_neg h0,grd_t (by simp[h0]),sbind];have:=Nat.mod_lt u (show v > 0 by omega);exact⟨_,rfl,⟨by simp only[];omega,by rw[←h2,Nat.gcd_comm u v,Nat.gcd_rec v u,Nat.gcd_comm]⟩,this⟩
theorem Qto{v:Nat}:Qd1 (toL v)=some (decide (v=1)):=by
 unfold Qd1;simp only[jn_eq,bifd];by_cases h:(toL v).length=1;obtain⟨x,hx⟩:=List.length_eq_one_iff.1 h;have:=Qt v;rw[hx] at this;simp[val] at this;rw[hx,if_pos (by simp),show getI [x] (0:Int)=some x by rfl,sbind,this];rw[if_neg (by omega)];have:v≠1:=by rintro rfl;apply h;rw[Yp (by decide),show 1 / 4294967296=0 by decide,K8];rfl
 rw[decide_eq_false this]
theorem Q5m{v k:Nat}(h:v<2 ^ k):blen v≤k:=by
 rcases Nat.lt_or_ge k (blen v) with h1 | h1;have h0:v≠0:=by rintro rfl;rw[Qel] at h1;omega
 have g1:=Qkn h0;have g2:2 ^ k≤2 ^ (blen v - 1):=Nat.pow_le_pow_right (by decide) (by omega);omega;exact h1
theorem Q5n{r u:Nat}(h:2*r<u):blen r<blen u:=by
 have hu:=Qn2 (x:=u);by_cases h0:r=0;subst h0;rw[Qel];exact Qpc (by omega);have g1:=Qkn h0;have g2:=Qpc h0;have g3:2 ^ blen r=2 ^ (blen r - 1)*2:=by rw[←Nat.pow_succ,show(blen r - 1).succ=blen r by omega]
 have g4:2 ^ blen r<2 ^ blen u:=by omega
 exact(Nat.pow_lt_pow_iff_right (by decide)).1 g4
theorem Qyv{v:Nat}:blen v≤32*(toL v).length:=by refine Q5m ?_;rw[←Qjm];have:=Vv (Q1 v);rwa [Qt] at this
theorem Q4j{u v:Nat}(h0:v≠0):blen v+blen (u%v)+(if v<u%v then 1 else 0)<blen u+blen v+(if u<v then 1 else 0):=by
 have hm:=Nat.mod_lt u (show v > 0 by omega);rw[if_neg (by omega)];by_cases h:u<v;rw[if_pos h,Nat.mod_eq_of_lt h];omega;rw[if_neg h];have h1:2*(u%v)<u:=by have e1:=Nat.div_add_mod u v;have e2:1≤u / v:=(Nat.le_div_iff_mul_le (by omega)).2 (by omega);have e3:v*1≤v*(u / v):=Nat.mul_le_mul_left _ e2;omega
 have:=Q5n h1;omega
theorem Qtp{n:Nat}{a b:List Nat}(hn:big≤n)(ha:a.length<4398046511104)(hb:b.length<4398046511104)(hwa:Wd a)(hwb:Wd b):Qd0 n a b=some (toL (Nat.gcd (val a) (val b))):=by
 unfold Qd0;have hla:=Jt hwa;have hlb:=Jt hwb;rw[Vq hn (by omega),sbind,Vq hn (by omega),sbind,←Jn hwa,←Jn hwb];have hn':=hn;unfold big at hn'
 refine Xx (λs=>blen (val s.1)+blen (val s.2)+(if val s.1<val s.2 then 1 else 0)) (λs=>∃ u v,s=(toL u,toL v)∧Nat.gcd u v=Nat.gcd (val a) (val b)∧(toL u).length<4398046511104∧(toL v).length<4398046511104)
  (λt=>∃ u v,t=(toL u,toL v)∧Nat.gcd u v=Nat.gcd (val a) (val b)∧(toL u).length<4398046511104∧(toL v).length≤2) ⟨val a,val b,rfl,rfl,by omega,by omega⟩ ?_ ?_ ?_
 simp only[Qt];have h1:=Qyv (v:=val a);have h2:=Qyv (v:=val b);split<;>omega;rintro s ⟨u,v,rfl,h2,h3,h4⟩;simp only[bifd,Qt];by_cases h0:2<(toL v).length;left;have hv0:v≠0:=by rintro rfl;rw[K8] at h0;simp at h0
 rw[if_pos (by omega),Qgi hn h3 h4 (Q1 _) (Q1 _),sbind,Qt,Qt,if_neg hv0];refine⟨_,rfl,⟨v,u%v,rfl,?_,h4,?_⟩,?_⟩;rw[←h2,Nat.gcd_comm u v,Nat.gcd_rec v u,Nat.gcd_comm];exact Nat.lt_of_le_of_lt (V6 (Nat.le_of_lt (Nat.mod_lt u (by omega)))) h4;simp only[Qt];exact Q4j hv0;right;rw[if_neg (by omega)];exact⟨_,rfl,u,v,rfl,h2,h3,by omega⟩;rintro t ⟨u,v,rfl,h2,h3,h4⟩;simp only[bifd];by_cases h0:v=0;subst h0;rw[K8,if_pos (by rfl),←h2,Nat.gcd_zero_right];have hne:(toL v).length≠0:=λh=>by rw[Yp h0] at h;simp at h
 have hv64:v<18446744073709551616:=by rcases Nat.lt_or_ge v 18446744073709551616 with h | h;exact h;have:=Qz8 h;omega
 have hm:=Nat.mod_lt u (show v > 0 by omega);have hlm:=V6 (Nat.le_of_lt hm);rw[if_neg (by omega),Qgi hn h3 (by omega) (Q1 _) (Q1 _),sbind,Qt,Qt,if_neg h0];simp only[];rw[Qn1 hn (by omega) (Q1 _),sbind,Qn1 hn (by omega) (Q1 _),sbind,Qt,Qt,if_pos hv64,if_pos (by omega)];simp only[];rw[Qrq hn (by omega),sbind,Qne hn (Nat.lt_of_le_of_lt (Nat.gcd_le_left _ (by omega)) hv64),sbind,←h2,Nat.gcd_comm u v,Nat.gcd_rec v u,Nat.gcd_comm]
theorem Qq4{n:Nat}{a b:List Nat}(hn:big≤n)(ha:a.length<4398046511104)(hb:b.length<4398046511104)(hwa:Wd a)(hwb:Wd b):
 Qa3 n a b=some (toL (val a / Nat.gcd (val a) (val b)),toL (val b / Nat.gcd (val a) (val b))):=by
 unfold Qa3;rw[Qtp hn ha hb hwa hwb,sbind,bifd];have hg1:Nat.gcd (val a) (val b) ∣ val a:=Nat.gcd_dvd_left _ _;have hg2:Nat.gcd (val a) (val b) ∣ val b:=Nat.gcd_dvd_right _ _;have hla:=Jt hwa;have hlb:=Jt hwb;have hgl:Nat.gcd (val a) (val b)=0∨(toL (Nat.gcd (val a) (val b))).length<4398046511104:=by by_cases h:val a=0;rw[h,Nat.gcd_zero_left];right;omega;right;exact Nat.lt_of_le_of_lt (V6 (Nat.gcd_le_left _ (by omega))) (by omega)
 by_cases h0:Nat.gcd (val a) (val b)=0;rw[h0,K8,if_pos (by rfl),Nat.div_zero,Nat.div_zero,K8];have hne:(toL (Nat.gcd (val a) (val b))).length≠0:=λh=>by rw[Yp h0] at h;simp at h
 rw[if_neg (by omega),Qto,sbind,bifd];by_cases h1:Nat.gcd (val a) (val b)=1;rw[if_pos h1,Vq hn (by omega),sbind,Vq hn (by omega),sbind,h1,Nat.div_one,Nat.div_one,Jn hwa,Jn hwb];have hgl:(toL (Nat.gcd (val a) (val b))).length<4398046511104:=by rcases hgl with h | h;exact absurd h h0;exact h
 rw[if_neg h1,Qgi hn ha hgl hwa (Q1 _),sbind,Qgi hn hb hgl hwb (Q1 _),sbind,Qt,if_neg h0,if_neg h0]
def wv(w:Qh):Int:=if w.Neg then -(val w.Ao:Int) else (val w.Ao:Int)
def toW(z:Int):Qh:=⟨decide (z<0),toL z.natAbs⟩
theorem Qbc(z:Int):wv (toW z)=z:=by unfold wv toW;simp only[decide_eq_true_eq,Qt];split<;>omega
theorem Qf8{v:Nat}:0<(toL v).length↔v≠0:=by constructor;rintro h rfl;rw[K8] at h;simp at h;intro h;rw[Yp h];simp
theorem Y3{s:Bool}{v:Nat}:Vg s (toL v)=some (toW (if s then -(v:Int) else (v:Int))):=by unfold Vg toW;rw[jn_eq];cases s;rw[bifF];congr 2;rw[bifT];congr 2;exact decide_eq_decide.2 (by simp only[if_true];have:=@Qf8 v;omega);simp
def Ww(w:Qh):Prop:=Wd w.Ao∧w.Ao.length<4398046511104
theorem Qtq{n:Nat}{w:Qh}(hn:big≤n)(h:Ww w):Qai n w=some (toW (wv w)):=by unfold Qai;rw[Vq hn (by have:=h.2;omega),sbind,←Jn h.1,Y3,sbind];rfl
theorem Q0d(s t:Bool)(x y:Nat):(if (s != t) then -((x*y:Nat):Int) else ((x*y:Nat):Int))=(if s then -(x:Int) else (x:Int))*(if t then -(y:Int) else (y:Int)):=by cases s<;>cases t<;>simp[Int.neg_mul,Int.mul_neg]
theorem Qn3{n:Nat}{w u:Qh}(hn:big≤n)(hw:Ww w)(hu:Ww u):Qc6 n w u=some (toW (wv w*wv u)):=by unfold Qc6;rw[Qgh hn (by have:=hw.2;omega) (by have:=hu.2;omega) hw.1 hu.1,sbind,Y3,sbind,Q0d];rfl
theorem Qyw{x y:Nat}:cmpI x y<0↔x<y:=by by_cases h:x<y;simp[cmpI,h];rw[cmpI,if_neg h];split<;>omega
theorem Qn4{n:Nat}{w u:Qh}(hn:big≤n)(hw:Ww w)(hu:Ww u):Qc8 n w u=some (toW (wv w+wv u)):=by unfold Qc8;have l1:=hw.2;have l2:=hu.2;rw[Qys hn (by omega) (by omega) hw.1 hu.1,sbind,Y3,sbind,Qyt hn (by omega) (by omega) hw.1 hu.1,sbind,bifd,Y3,sbind,Y3,sbind];unfold wv;rcases w with ⟨s,a⟩;rcases u with ⟨t,b⟩;simp only[];generalize val a=x;generalize val b=y;have hc:=@Qyw x y;cases s<;>cases t<;>simp only[beq_self_eq_true,bifT,bifF,Bool.false_eq_true,if_true,if_false,show(false == true)=false by rfl,show(true == false)=false by rfl,hc];congr 2;split<;>congr 2<;>omega;split<;>congr 2<;>omega;congr 2;omega
theorem Qu7{n:Nat}{w:Qh}(hn:big≤n)(h:Ww w):Qc7 n w=some (toW (-wv w)):=by unfold Qc7;rw[Vq hn (by have:=h.2;omega),sbind,←Jn h.1,Y3,sbind];unfold wv;cases w.Neg<;>simp
theorem Q5o(z:Int):(toW (-z)).Ao=(toW z).Ao:=by unfold toW;simp
theorem Qc0(z:Int):Wd (toW z).Ao:=Q1 _
theorem Qtr{n:Nat}{w:Qh}(hn:big≤n)(h:Ww w):Zm n w=some (Int.sign (wv w)):=by unfold Zm wv;rw[Qpn hn (by have:=h.2;omega) h.1,sbind,bifd];by_cases h0:val w.Ao=0;rw[if_pos h0,h0];cases w.Neg<;>rfl;rw[if_neg h0];cases w.Neg;rw[bifF,if_neg (by decide),Int.sign_eq_one_of_pos (by omega)];rw[bifT,if_pos rfl,Int.sign_eq_neg_one_of_neg (by omega)]
theorem Qg6(w:Qh):(wv w).natAbs=val w.Ao:=by unfold wv;split<;>omega
theorem Q7n{w:Qh}(h:Ww w):Ww (toW (-wv w)):=by refine⟨Qc0 _,?_⟩;rw[Q5o];show(toL (wv w).natAbs).length<_;rw[Qg6];exact Nat.lt_of_le_of_lt (Jt h.1) h.2
theorem Qn5{n:Nat}{w u:Qh}(hn:big≤n)(hw:Ww w)(hu:Ww u):Qc9 n w u=some (toW (wv w - wv u)):=by unfold Qc9;rw[Qu7 hn hu,sbind,Qn4 hn hw (Q7n hu),sbind,Qbc,Int.sub_eq_add_neg]
theorem Qu8{n:Nat}{w u:Qh}(hn:big≤n)(hw:Ww w)(hu:Ww u)(h:Ww (toW (wv w - wv u))):Qfo n w u=some (Int.sign (wv w - wv u)):=by unfold Qfo;rw[Qn5 hn hw hu,sbind,Qtr hn h,sbind,Qbc]
def fv(f:Qa):Rat:=mkRat (wv f.Num) (val f.Den)
def toF(q:Rat):Qa:=⟨toW q.num,toL q.den⟩
theorem Qyx(q:Rat):fv (toF q)=q:=by unfold fv toF;rw[Qbc,Qt];exact Rat.mkRat_self q
theorem Qgj{z:Int}{d:Nat}(hd:d≠0):(mkRat z d).num=z / (Nat.gcd z.natAbs d:Int)∧(mkRat z d).den=d / Nat.gcd z.natAbs d:=by rw[←Rat.normalize_eq_mkRat hd,Rat.normalize_eq];exact⟨rfl,rfl⟩
theorem Q0e(s:Bool)(x g:Nat)(h:g ∣ x):(if s then -((x / g:Nat):Int) else ((x / g:Nat):Int))=(if s then -(x:Int) else (x:Int)) / (g:Int):=by cases s;simp;simp only[if_true];rw[Int.neg_ediv_of_dvd (Int.natCast_dvd_natCast.2 h)];simp
theorem Qcs{n:Nat}{w:Qh}{d:List Nat}(hn:big≤n)(hw:Ww w)(hd:Wd d)(hl:d.length<4398046511104)(h0:val d≠0):Xi n w d=some (toF (mkRat (wv w) (val d))):=by unfold Xi;have h1:=hw.2;have hg:Nat.gcd (val w.Ao) (val d) ∣ val w.Ao:=Nat.gcd_dvd_left _ _;have hlw:(toL (val w.Ao / Nat.gcd (val w.Ao) (val d))).length<4398046511104:=Nat.lt_of_le_of_lt (Nat.le_trans (V6 (Nat.div_le_self _ _)) (Jt hw.1)) h1;rw[Qq4 hn h1 hl hw.1 hd,sbind,Qtq hn ⟨Q1 _,hlw⟩,sbind];obtain⟨e1,e2⟩:=Qgj (z:=wv w) h0;unfold toF;rw[e1,e2,Qg6];congr 2;unfold wv;rw[Qt];congr 1;exact Q0e _ _ _ hg
def Fw(f:Qa):Prop:=Ww f.Num∧Wd f.Den∧f.Den.length<4398046511104
theorem Qmh{n:Nat}{f:Qa}(hn:big≤n)(hf:Fw f):∃ p,Ky n f=some p∧Ww p.1∧Wd p.2∧p.2.length≤max 1 f.Den.length∧p.1.Ao.length≤f.Num.Ao.length∧val p.2≠0∧mkRat (wv p.1) (val p.2)=fv f:=by obtain⟨h1,h2,h3⟩:=hf;unfold Ky fv;rw[Qpn hn (by omega) h2,sbind,bifd];by_cases h0:val f.Den=0;rw[if_pos h0,Qne hn (by omega),sbind];refine⟨_,rfl,⟨Kf,by simp⟩,Q1 _,?_,by simp,by simp only[Qt];decide,?_⟩;have:=Qbb (n:=1) (k:=1) (by rw[Kl,Xp];omega);simp only[];omega;simp only[Qt,h0,Rat.mkRat_zero];rfl;rw[if_neg h0];exact⟨_,rfl,h1,h2,by simp only[];omega,Nat.le_refl _,h0,rfl⟩
theorem Qn6{n:Nat}{f:Qa}(hn:big≤n)(hf:Fw f):Kh n f=some (toF (fv f)):=by obtain⟨p,h1,h2,h3,h4,h5,h6,h7⟩:=Qmh hn hf;unfold Kh;rw[h1,sbind,Qcs hn h2 h3 (by have:=hf.2.2;omega) h6,sbind,h7]
theorem Ze{x y:Nat}:(toL (x*y)).length≤(toL x).length+(toL y).length:=by refine Qbb ?_;have h1:=Vv (Q1 x);have h2:=Vv (Q1 y);rw[Qt] at h1 h2;rw[Q7i];exact Nat.mul_lt_mul'' h1 h2
theorem Qko{x y k:Nat}(h1:(toL x).length≤k)(h2:(toL y).length≤k):(toL (x+y)).length≤k+1:=by refine Qbb ?_;have g1:=Vv (Q1 x);have g2:=Vv (Q1 y);rw[Qt] at g1 g2;have g3:=bp_le h1;have g4:=bp_le h2;rw[Kl];omega
theorem Zs{n:Nat}{w:Qh}{d:List Nat}(hn:big≤n)(hw:Ww w)(hd:Wd d)(hl:d.length<4398046511104):Xc n w d=some (toW (wv w*(val d:Int))):=by unfold Xc;rw[Qn3 hn hw ⟨hd,hl⟩,sbind];rfl
def Fk(k:Nat)(f:Qa):Prop:=Wd f.Num.Ao∧f.Num.Ao.length≤k∧Wd f.Den∧f.Den.length≤k
theorem Fk_Fw{k:Nat}{f:Qa}(h:Fk k f)(hk:k<4398046511104):Fw f:=⟨⟨h.1,by have:=h.2.1;omega⟩,h.2.2.1,by have:=h.2.2.2;omega⟩
theorem Qg7{n k:Nat}{f:Qa}(hn:big≤n)(hf:Fk k f)(h1:1≤k)(hk:k<4398046511104):∃ w d,Ky n f=some (w,d)∧Wd w.Ao∧w.Ao.length≤k∧Wd d∧d.length≤k∧val d≠0∧mkRat (wv w) (val d)=fv f:=by obtain⟨⟨w,d⟩,h1,h2,h3,h4,h5,h6,h7⟩:=Qmh hn (Fk_Fw hf hk);exact⟨w,d,h1,h2.1,Nat.le_trans h5 hf.2.1,h3,by have:=hf.2.2.2;simp only at h4;omega,h6,h7⟩
theorem Qiw{w:Qh}{y k j:Nat}(h1:Wd w.Ao)(h2:w.Ao.length≤k)(h3:(toL y).length≤j):(toW (wv w*(y:Int))).Ao.length≤k+j:=by unfold toW;simp only[];rw[Int.natAbs_mul,Qg6,Int.natAbs_natCast];have:=@Ze (val w.Ao) y;have:=Jt h1;omega
theorem Qpq{n k:Nat}{f g:Qa}(hn:big≤n)(h1:1≤k)(hk:k<1099511627776)(hf:Fk k f)(hg:Fk k g):Kw n f g=some (toF (fv f+fv g)):=by
 obtain⟨w,d,a1,a2,a3,a4,a5,a6,a7⟩:=Qg7 hn hf h1 (by omega);obtain⟨u,e,b1,b2,b3,b4,b5,b6,b7⟩:=Qg7 hn hg h1 (by omega);have l1:=Qiw a2 a3 (Nat.le_trans (Jt b4) b5);have l2:=Qiw b2 b3 (Nat.le_trans (Jt a4) a5);unfold Kw;rw[a1,sbind,b1,sbind,Zs hn ⟨a2,by omega⟩ b4 (by omega),sbind,Zs hn ⟨b2,by omega⟩ a4 (by omega),sbind,Qn4 hn ⟨Qc0 _,by omega⟩ ⟨Qc0 _,by omega⟩,sbind,Qgh hn (by omega) (by omega) a4 b4,sbind];have l3:=@Ze (val d) (val e);have l4:=Jt a4;have l5:=Jt b4;rw[Qbc,Qbc];have hs:(toW (wv w * ↑(val e)+wv u * ↑(val d))).Ao.length≤2*k+1:=by
  unfold toW at l1 l2 ⊢;simp only[] at l1 l2 ⊢;have:=Int.natAbs_add_le (wv w * ↑(val e)) (wv u * ↑(val d));exact Nat.le_trans (V6 this) (Qko (by omega) (by omega))
 rw[Qcs hn ⟨Qc0 _,by omega⟩ (Q1 _) (by omega) (by rw[Qt];exact Nat.mul_ne_zero a6 b6),sbind,Qt,Qbc,←a7,←b7,Rat.mkRat_add_mkRat _ _ a6 b6]
theorem Q5w{n k:Nat}{f g:Qa}(hn:big≤n)(h1:1≤k)(hk:k<1099511627776)(hf:Fk k f)(hg:Fk k g):Qa4 n f g=some (toF (fv f - fv g)):=by
 obtain⟨w,d,a1,a2,a3,a4,a5,a6,a7⟩:=Qg7 hn hf h1 (by omega);obtain⟨u,e,b1,b2,b3,b4,b5,b6,b7⟩:=Qg7 hn hg h1 (by omega);have l1:=Qiw a2 a3 (Nat.le_trans (Jt b4) b5);have l2:=Qiw b2 b3 (Nat.le_trans (Jt a4) a5);unfold Qa4;rw[a1,sbind,b1,sbind,Zs hn ⟨a2,by omega⟩ b4 (by omega),sbind,Zs hn ⟨b2,by omega⟩ a4 (by omega),sbind,Qn5 hn ⟨Qc0 _,by omega⟩ ⟨Qc0 _,by omega⟩,sbind,Qgh hn (by omega) (by omega) a4 b4,sbind];have l3:=@Ze (val d) (val e);have l4:=Jt a4;have l5:=Jt b4;rw[Qbc,Qbc];have hs:(toW (wv w * ↑(val e) - wv u * ↑(val d))).Ao.length≤2*k+1:=by
  unfold toW at l1 l2 ⊢;simp only[] at l1 l2 ⊢;have:=Int.natAbs_sub_le (wv w * ↑(val e)) (wv u * ↑(val d));exact Nat.le_trans (V6 this) (Qko (by omega) (by omega))
 rw[Qcs hn ⟨Qc0 _,by omega⟩ (Q1 _) (by omega) (by rw[Qt];exact Nat.mul_ne_zero a6 b6),sbind,Qt,Qbc,←a7,←b7,Rat.sub_eq_add_neg,Rat.neg_mkRat,Rat.mkRat_add_mkRat _ _ a6 b6,Int.neg_mul,←Int.sub_eq_add_neg]
theorem Qwz{n k:Nat}{f g:Qa}(hn:big≤n)(h1:1≤k)(hk:k<1099511627776)(hf:Fk k f)(hg:Fk k g):K7 n f g=some (toF (fv f*fv g)):=by
 obtain⟨w,d,a1,a2,a3,a4,a5,a6,a7⟩:=Qg7 hn hf h1 (by omega);obtain⟨u,e,b1,b2,b3,b4,b5,b6,b7⟩:=Qg7 hn hg h1 (by omega);unfold K7;rw[a1,sbind,b1,sbind,Qn3 hn ⟨a2,by omega⟩ ⟨b2,by omega⟩,sbind,Qgh hn (by omega) (by omega) a4 b4,sbind];have l3:=@Ze (val d) (val e);have l4:=Jt a4;have l5:=Jt b4;have hs:(toW (wv w*wv u)).Ao.length≤2*k:=by unfold toW;simp only[];rw[Int.natAbs_mul,Qg6,Qg6];have g1:=@Ze (val w.Ao) (val u.Ao);have g2:=Jt a2;have g3:=Jt b2;omega
 rw[Qcs hn ⟨Qc0 _,by omega⟩ (Q1 _) (by omega) (by rw[Qt];exact Nat.mul_ne_zero a6 b6),sbind,Qt,Qbc,←a7,←b7,Rat.mkRat_mul_mkRat]
theorem Qu9{a b:Int}{d e:Nat}(hd:d≠0)(he:e≠0):Int.sign (a*(e:Int) - b*(d:Int))=Int.sign (mkRat a d - mkRat b e).num:=by rw[Rat.sub_eq_add_neg,Rat.neg_mkRat,Rat.mkRat_add_mkRat _ _ hd he,Int.neg_mul,←Int.sub_eq_add_neg];generalize a*(e:Int) - b*(d:Int)=z;have h0:d*e≠0:=Nat.mul_ne_zero hd he;obtain⟨e1,_⟩:=Qgj (z:=z) h0;rw[e1];have hg:(Nat.gcd z.natAbs (d*e):Int) ∣ z:=Int.dvd_natAbs.1 (Int.natCast_dvd_natCast.2 (Nat.gcd_dvd_left _ _));obtain⟨c,hc⟩:=hg;have hp:0<Nat.gcd z.natAbs (d*e):=Nat.gcd_pos_of_pos_right _ (by omega);generalize Nat.gcd z.natAbs (d*e)=g at *;subst hc;rw[Int.mul_ediv_cancel_left _ (by omega),Int.sign_mul,Int.sign_eq_one_of_pos (by omega),Int.one_mul]
theorem Qw0{n k:Nat}{f g:Qa}(hn:big≤n)(h1:1≤k)(hk:k<1099511627776)(hf:Fk k f)(hg:Fk k g):Qcm n f g=some (Int.sign (fv f - fv g).num):=by
 obtain⟨w,d,a1,a2,a3,a4,a5,a6,a7⟩:=Qg7 hn hf h1 (by omega);obtain⟨u,e,b1,b2,b3,b4,b5,b6,b7⟩:=Qg7 hn hg h1 (by omega);have l1:=Qiw a2 a3 (Nat.le_trans (Jt b4) b5);have l2:=Qiw b2 b3 (Nat.le_trans (Jt a4) a5);have hs:(toW (wv w * ↑(val e) - wv u * ↑(val d))).Ao.length≤2*k+1:=by unfold toW at l1 l2 ⊢;simp only[] at l1 l2 ⊢;have:=Int.natAbs_sub_le (wv w * ↑(val e)) (wv u * ↑(val d));exact Nat.le_trans (V6 this) (Qko (by omega) (by omega))
 unfold Qcm;rw[a1,sbind,b1,sbind,Zs hn ⟨a2,by omega⟩ b4 (by omega),sbind,Zs hn ⟨b2,by omega⟩ a4 (by omega),sbind,Qu8 hn ⟨Qc0 _,by omega⟩ ⟨Qc0 _,by omega⟩ (by rw[Qbc,Qbc];exact⟨Qc0 _,by omega⟩),sbind,Qbc,Qbc,Qu9 a6 b6,a7,b7]
theorem Kn{α:Type}{l:List α}{i:Nat}{x:α}(h:l[i]?=some x):getI l (i:Int)=some x:=by rw[Qg4,h]
theorem Qem{α:Type}{l:List α}{i:Nat}{x:α}(h:l[i]?=some x):i<l.length:=by rcases Nat.lt_or_ge i l.length with h1 | h1;exact h1;rw[List.getElem?_eq_none h1] at h;cases h
theorem K9{α:Type}{l:List α}{i:Nat}{x:α}(h:l[i]?=some x):x∈l:=List.mem_of_getElem? h
theorem w1{i:Nat}(h:i<9223372036854775807):wrap64 ((i:Int)+1)=((i+1:Nat):Int):=by rw[w64 (by omega) (by omega)];omega
theorem Qv8{σ τ:Type}{f:σ->Option (Lp σ τ)}(F:Nat->σ){t:τ}:∀(N k n:Nat),(∀ i,i<N->f (F (k+i))=some (.go (F (k+i+1))))->f (F (k+N))=some (.out t)->N<n->loopM f n (F k)=some t
 | 0,k,n,_,he,hn=>Qsj he (by omega)
 | N+1,k,n,hb,he,hn=>by
   obtain⟨m,rfl⟩:∃ m,n=m+1:=⟨n - 1,by omega⟩
   have h0:=hb 0 (by omega);simp only[Nat.add_zero] at h0;rw[Qz7 h0];exact Qv8 F N (k+1) m (λi hi=>by have:=hb (i+1) (by omega);rw[show k+(i+1)=k+1+i by omega] at this;exact this) (by rw[show k+1+N=k+(N+1) by omega];exact he) (by omega)
theorem Zf{σ τ R:Type}{f:σ->Option (Lp σ τ)}{s:σ}{K:τ->Option R}{n:Nat}(F:Nat->σ)(N:Nat)(t:τ)(hb:∀ i,i<N->f (F i)=some (.go (F (i+1))))(he:f (F N)=some (.out t))(hn:N<n)(hs:s=F 0):(loopM f n s).bind K=K t:=by rw[hs,Qv8 F (t:=t) N 0 n (λi hi=>by rw[Nat.zero_add];exact hb i hi) (by rw[Nat.zero_add];exact he) hn,Option.bind_some]
theorem Qts{α σ τ:Type}{f:Nat->α->σ->Option (Lp σ τ)}(F:Nat->σ):∀(xs:List α) (k:Nat),(∀ i x,xs[i]?=some x->f (k+i) x (F (k+i))=some (.go (F (k+i+1))))->rangeL f xs k (F k)=some (.go (F (k+xs.length)))
 | [],_,_=>rfl
 | x::xs,k,hb=>by have h0:=hb 0 x rfl;simp only[Nat.add_zero] at h0;simp only[rangeL,h0,Option.bind_some];rw[Qts F xs (k+1) (λi y hy=>by have:=hb (i+1) y (by simpa using hy);rw[show k+(i+1)=k+1+i by omega] at this;exact this),List.length_cons,show k+1+xs.length=k+(xs.length+1) by omega]
theorem Qg8{α σ τ R:Type}{f:Nat->α->σ->Option (Lp σ τ)}{s:σ}{K:Lp σ τ->Option R}(F:Nat->σ)(xs:List α)(hb:∀ i x,xs[i]?=some x->f i x (F i)=some (.go (F (i+1))))(hs:s=F 0):(rangeL f xs 0 s).bind K=K (.go (F xs.length)):=by rw[hs,Qts F xs 0 (λi x hx=>by rw[Nat.zero_add];exact hb i x hx),Option.bind_some,Nat.zero_add]
theorem Qtt{α R:Type}{f:Nat->α->Unit->Option (Lp Unit R)}{r:R}(P:Nat->α->Prop):∀(xs:List α) (k:Nat),(∀ i x,xs[i]?=some x->(P (k+i) x->f (k+i) x ()=some (.go ()))∧(¬ P (k+i) x->f (k+i) x ()=some (.out r))) →
 ((∀ i x,xs[i]?=some x->P (k+i) x)->rangeL f xs k ()=some (.go ()))∧(¬(∀ i x,xs[i]?=some x->P (k+i) x)->rangeL f xs k ()=some (.out r))
 | [],k,_=>⟨λ_=>rfl,λh=>absurd (λi x hx=>by simp at hx) h⟩
 | x::xs,k,hb=>by
   obtain⟨h1,h2⟩:=hb 0 x rfl;simp only[Nat.add_zero] at h1 h2;obtain⟨g1,g2⟩:=Qtt P xs (k+1) (λi y hy=>by have:=hb (i+1) y (by simpa using hy);rw[show k+(i+1)=k+1+i by omega] at this;exact this);by_cases hp:P k x;have e:(∀ i y,(x::xs)[i]?=some y->P (k+i) y)↔(∀ i y,xs[i]?=some y->P (k+1+i) y):=by
    constructor;intro h i y hy;have:=h (i+1) y (by simpa using hy);rw[show k+(i+1)=k+1+i by omega] at this;exact this;intro h i y hy;cases i with
    | zero=>simp at hy;subst hy;exact hp
    | succ i=>rw[show k+(i+1)=k+1+i by omega];exact h i y (by simpa using hy)
   rw[e];simp only[rangeL,h1 hp,Option.bind_some];exact⟨g1,g2⟩;refine⟨λh=>absurd (h 0 x rfl) hp,λ_=>?_⟩;simp only[rangeL,h2 hp,Option.bind_some]
open Classical in
theorem Qjn{α R:Type}{f:Nat->α->Unit->Option (Lp Unit R)}{K:Unit->Option R}{r:R}(P:Nat->α->Prop)(xs:List α)
 (hb:∀ i x,xs[i]?=some x->(P i x->f i x ()=some (.go ()))∧(¬ P i x->f i x ()=some (.out r))) :
 (rangeL f xs 0 ()).bind (lpK K)=if (∀ i x,xs[i]?=some x->P i x) then K () else some r:=by
 obtain⟨g1,g2⟩:=Qtt P xs 0 (λi x hx=>by rw[Nat.zero_add];exact hb i x hx);simp only[Nat.zero_add] at g1 g2;by_cases h:∀ i x,xs[i]?=some x->P i x;rw[if_pos h,g1 h,Option.bind_some,Wu];rw[if_neg h,g2 h,Option.bind_some,Qiu]
theorem Qv9{R:Type}{f:Int->Option (Lp Int (Lp Unit R))}{r:R}(P:Nat->Prop):∀(N k n:Nat),(∀ i,i<k+N->k≤i->(P i->f (i:Int)=some (.go ((i+1:Nat):Int)))∧(¬ P i->f (i:Int)=some (.out (.out r))))->f ((k+N:Nat):Int)=some (.out (.go ()))->N<n →
 ((∀ i,k≤i->i<k+N->P i)->loopM f n (k:Int)=some (.go ()))∧(¬(∀ i,k≤i->i<k+N->P i)->loopM f n (k:Int)=some (.out r))
 | 0,k,n,_,he,hn=>⟨λ_=>Qsj he (by omega),λh=>absurd (λi h1 h2=>by omega) h⟩
 | N+1,k,n,hb,he,hn=>by
   obtain⟨m,rfl⟩:∃ m,n=m+1:=⟨n - 1,by omega⟩
   obtain⟨h1,h2⟩:=hb k (by omega) (Nat.le_refl _);obtain⟨g1,g2⟩:=Qv9 P N (k+1) m (λi hi hk=>hb i (by omega) (by omega)) (by rw[show k+1+N=k+(N+1) by omega];exact he) (by omega);by_cases hp:P k;have e:(∀ i,k≤i->i<k+(N+1)->P i)↔(∀ i,k+1≤i->i<k+1+N->P i):=by constructor;intro h i a b;exact h i (by omega) (by omega);intro h i a b;rcases Nat.eq_or_lt_of_le a with c | c;exact c ▸ hp;exact h i c (by omega)
   rw[e,Qz7 (h1 hp)];exact⟨g1,g2⟩;exact⟨λh=>absurd (h k (Nat.le_refl _) (by omega)) hp,λ_=>Qsj (h2 hp) (by omega)⟩
open Classical in
theorem Qix{R:Type}{f:Int->Option (Lp Int (Lp Unit R))}{K:Unit->Option R}{r:R}{n:Nat}(P:Nat->Prop)(N:Nat)
 (hb:∀ i,i<N->(P i->f (i:Int)=some (.go ((i+1:Nat):Int)))∧(¬ P i->f (i:Int)=some (.out (.out r)))) (he:f (N:Int)=some (.out (.go ()))) (hn:N<n) :
 (loopM f n 0).bind (lpK K)=if (∀ i,i<N->P i) then K () else some r:=by
 obtain⟨g1,g2⟩:=Qv9 (n:=n) (r:=r) P N 0 (λi hi _=>hb i (by omega)) (by rw[Nat.zero_add];exact he) hn;simp only[Nat.zero_add,Nat.zero_le,true_implies] at g1 g2;by_cases h:∀ i,i<N->P i;rw[if_pos h];have:=g1 h;rw[show((0:Nat):Int)=0 from rfl] at this;rw[this,Option.bind_some,Wu];rw[if_neg h];have:=g2 h;rw[show((0:Nat):Int)=0 from rfl] at this;rw[this,Option.bind_some,Qiu]
theorem Qgk{α β:Type}(h:α->β){l:List α}{i:Nat}{x:α}(hx:l[i]?=some x):(l.take (i+1)).map h=(l.take i).map h++[h x]:=by
 rw[List.take_succ_eq_append_getElem (Qem hx),List.map_append];have:l[i]'(Qem hx)=x:=by have:=List.getElem?_eq_getElem (Qem hx);rw[this] at hx;exact Option.some.inj hx
 simp[this]
theorem Qva:∀ {a b:List Nat},Wd a->Wd b->a.length=b.length->val a=val b->a=b
 | [],[],_,_,_,_=>rfl
 | [],_::_,_,_,h,_=>by simp at h
 | _::_,[],_,_,h,_=>by simp at h
 | x::a,y::b,ha,hb,hl,hv=>by
   obtain⟨h1,h2⟩:=Jk.1 ha;obtain⟨h3,h4⟩:=Jk.1 hb;simp only[val] at hv;have:x=y:=by omega
   subst this;rw[Qva h2 h4 (by simpa using hl) (by omega)]
theorem Qmi{x y:Nat}:cmpI x y=0↔x=y:=by unfold cmpI;split;constructor<;>intro h<;>omega;split;constructor<;>intro h<;>omega;constructor<;>intro h<;>omega
open Classical in
theorem Qtu{n:Nat}{f:Qa}(hn:big≤n)(hf:Fw f):Qaj n f=some (decide (f=toF (fv f))):=by
 unfold Qaj;rw[Qn6 hn hf,sbind,jn_eq];have w1:Wd (toF (fv f)).Num.Ao:=Q1 _;have w2:Wd (toF (fv f)).Den:=Q1 _;generalize toF (fv f)=g at *;obtain⟨⟨h1,h2⟩,h3,h4⟩:=hf;obtain⟨⟨s,a⟩,d⟩:=f;obtain⟨⟨t,b⟩,e⟩:=g;simp only at h1 h2 h3 h4 w1 w2 ⊢;have hno:∀ {P:Prop},(P->False)->(some false:Option Bool)=some (decide P):=λh=>by rw[decide_eq_false h]
 by_cases c1:s=t;subst c1;rw[show(s == s)=true by simp,bifT];by_cases c2:(a.length:Int)=(b.length:Int)
 rw[decide_eq_true c2,bifT];by_cases c3:(d.length:Int)=(e.length:Int)
 rw[decide_eq_true c3,bifT,Qek hn (by omega) (by omega) h1 w1,sbind];by_cases c4:val a=val b;rw[decide_eq_true (Qmi.2 c4),bifT,Qek hn (by omega) (by omega) h3 w2,sbind];by_cases c5:val d=val e;rw[decide_eq_true (Qmi.2 c5),Qva h1 w1 (by omega) c4,Qva h3 w2 (by omega) c5,decide_eq_true rfl];rw[decide_eq_false λh=>c5 (Qmi.1 h)];exact hno λh=>by cases h;exact c5 rfl
 rw[decide_eq_false λh=>c4 (Qmi.1 h),bifF];exact hno λh=>by cases h;exact c4 rfl
 rw[decide_eq_false c3,bifF];exact hno λh=>by cases h;exact c3 rfl
 rw[decide_eq_false c2,bifF];exact hno λh=>by cases h;exact c2 rfl
 rw[show(s == t)=false by simpa using c1,bifF];exact hno λh=>by cases h;exact c1 rfl
def qw(q:Rat):Nat:=max (toL q.num.natAbs).length (toL q.den).length
theorem Qg9{j k:Nat}{f:Qa}(h:Fk j f)(hk:j≤k):Fk k f:=⟨h.1,by have:=h.2.1;omega,h.2.2.1,by have:=h.2.2.2;omega⟩
theorem Q7o{q:Rat}{k:Nat}(h:qw q≤k):Fk k (toF q):=by unfold qw at h;exact⟨Qc0 _,by show(toL q.num.natAbs).length≤k;omega,Q1 _,by show(toL q.den).length≤k;omega⟩
theorem toL1:(toL 1).length=1:=by rw[Yp (by decide)];simp[K8]
theorem Qsl{z:Int}{d k:Nat}(hd:d≠0)(h1:(toL z.natAbs).length≤k)(h2:(toL d).length≤k):qw (mkRat z d)≤k:=by obtain⟨e1,e2⟩:=Qgj (z:=z) hd;unfold qw;rw[e1,e2];have g1:=V6 (Int.natAbs_ediv_le_natAbs z (Nat.gcd z.natAbs d:Int));have g2:=V6 (Nat.div_le_self d (Nat.gcd z.natAbs d));omega
theorem Qvb:qw 0=1:=by unfold qw;rw[show(0:Rat).num=0 from rfl,show(0:Rat).den=1 from rfl,toL1];simp[K8]
theorem qw_fv{f:Qa}{k:Nat}(h:Fk k f)(h1:1≤k):qw (fv f)≤k:=by unfold fv;by_cases h0:val f.Den=0;rw[h0,Rat.mkRat_zero,Qvb];exact h1;refine Qsl h0 ?_ ?_;rw[Qg6];exact Nat.le_trans (Jt h.1) h.2.1;exact Nat.le_trans (Jt h.2.2.1) h.2.2.2
theorem Qia(q:Rat):(toL q.num.natAbs).length≤qw q:=by unfold qw;omega
theorem Qib(q:Rat):(toL q.den).length≤qw q:=by unfold qw;omega
theorem Qyy{a b:Rat}{j k:Nat}(ha:qw a≤j)(hb:qw b≤k):qw (a*b)≤j+k:=by rw[←Rat.mkRat_self a,←Rat.mkRat_self b,Rat.mkRat_mul_mkRat];have n1:=Qia a;have n2:=Qia b;have d1:=Qib a;have d2:=Qib b;have:=@Ze a.num.natAbs b.num.natAbs;have:=@Ze a.den b.den;exact Qsl (Nat.mul_ne_zero a.den_nz b.den_nz) (by rw[Int.natAbs_mul];omega) (by omega)
theorem Q3b{a b:Rat}{j k:Nat}(ha:qw a≤j)(hb:qw b≤k):qw (a+b)≤j+k+1:=by rw[←Rat.mkRat_self a,←Rat.mkRat_self b,Rat.mkRat_add_mkRat _ _ a.den_nz b.den_nz];have n1:=Qia a;have n2:=Qia b;have d1:=Qib a;have d2:=Qib b;have m1:=@Ze a.num.natAbs b.den;have m2:=@Ze b.num.natAbs a.den;have m3:=@Ze a.den b.den;refine Qsl (Nat.mul_ne_zero a.den_nz b.den_nz) ?_ (by omega);refine Nat.le_trans (V6 (Int.natAbs_add_le _ _)) ?_;rw[Int.natAbs_mul,Int.natAbs_mul,Int.natAbs_natCast,Int.natAbs_natCast];exact Qko (by omega) (by omega)
theorem Qyz{a b:Rat}:(a - b).num=0↔a=b:=by rw[Rat.num_eq_zero];grind
theorem Qvc{n k:Nat}{f g:Qa}(hn:big≤n)(h1:1≤k)(hk:k<1099511627776)(hf:Fk k f)(hg:Fk k g):Yq n f g=some (decide (fv f=fv g)):=by unfold Yq;rw[Qw0 hn h1 hk hf hg,sbind];refine congrArg some (decide_eq_decide.2 ?_);rw[Int.sign_eq_zero_iff_zero,Qyz]
def qz(q:Rat):Nat:=blen q.num.natAbs+blen q.den
def rv(l:List Qa):List Rat:=l.map fv
def toR(l:List Rat):List Qa:=l.map toF
theorem Qy0(l:List Rat):rv (toR l)=l:=by
 unfold rv toR;rw[List.map_map]
 conv=>rhs;rw[←List.map_id l]
 exact List.map_congr_left λq _=>Qyx q
theorem Qjo(l:List Qa):(rv l).length=l.length:=by unfold rv;simp
theorem Qe3(l:List Rat):(toR l).length=l.length:=by unfold toR;simp
def FR(k:Nat)(l:List Qa):Prop:=∀ x∈l,Fk k x
def QR(k:Nat)(l:List Rat):Prop:=∀ x∈l,qw x≤k
theorem Qq5{k:Nat}{l:List Rat}(h:QR k l):FR k (toR l):=λx hx=>by unfold toR at hx;obtain⟨q,hq,rfl⟩:=List.mem_map.1 hx;exact Q7o (h q hq)
theorem QR_rv{k:Nat}{l:List Qa}(h:FR k l)(h1:1≤k):QR k (rv l):=λx hx=>by unfold rv at hx;obtain⟨q,hq,rfl⟩:=List.mem_map.1 hx;exact qw_fv (h q hq) h1
theorem Qiy{j k:Nat}{l:List Qa}(h:FR j l)(hk:j≤k):FR k l:=λx hx=>Qg9 (h x hx) hk
theorem Qha{j k:Nat}{l:List Rat}(h:QR j l)(hk:j≤k):QR k l:=λx hx=>Nat.le_trans (h x hx) hk
theorem Q0f{α:Type}{n:Nat}{a:List α}{g:α->Rat}{f:Nat->α->List Qa->Option (Lp (List Qa) (List Qa))}(_:big≤n)(hl:a.length≤1000000)
 (hb:∀ i x s,a[i]?=some x->f i x s=(appM 56 s [toF (g x)]).bind λy=>some (Lp.go y)):(rangeL f a 0 []).bind (lpK λs=>some s)=some (toR (a.map g)):=by
 rw[Qg8 (λi=>(a.take i).map λx=>toF (g x)) a,Wu,List.take_length];unfold toR;rw[List.map_map];rfl;intro i x hx;have:=Qem hx;rw[hb i x _ hx,Xy (by simp;omega) (by simp;omega),sbind,Qgk _ hx];rfl
theorem Qpr{n k:Nat}{a:List Qa}(hn:big≤n)(hk:k<1099511627776)(ha:FR k a)(hl:a.length≤1000000):Qhk n a=some (toR (rv a)):=by unfold Qhk;refine Q0f (g:=fv) hn hl λi x s hx=>?_;rw[Qn6 hn (Fk_Fw (ha x (K9 hx)) (by omega)),sbind]
def scaleQ(c:Rat)(l:List Rat):List Rat:=l.map (c * ·)
theorem Qvd{n k:Nat}{c:Qa}{a:List Qa}(hn:big≤n)(h1:1≤k)(hk:k<1099511627776)(hc:Fk k c)(ha:FR k a)(hl:a.length≤1000000):Vn n c a=some (toR (scaleQ (fv c) (rv a))):=by unfold Vn;rw[Q0f (g:=λx=>fv c*fv x) hn hl λi x s hx=>?_];unfold scaleQ rv;rw[List.map_map];rfl;rw[Qwz hn h1 hk hc (ha x (K9 hx)),sbind]
theorem Q4k{j k:Nat}{c:Rat}{l:List Rat}(hc:qw c≤j)(h:QR k l):QR (j+k) (scaleQ c l):=λx hx=>by unfold scaleQ at hx;obtain⟨q,hq,rfl⟩:=List.mem_map.1 hx;exact Qyy hc (h q hq)
theorem Qwa{α β τ R:Type}{f:Nat->α->List β->Option (Lp (List β) τ)}{K:Lp (List β) τ->Option R}(g:α->β->β)(xs:List α)(s:List β)(h:xs.length=s.length)
 (hb:∀ i x y s',xs[i]?=some x->s[i]?=some y->s'[i]?=some y->f i x s'=some (.go (s'.set i (g x y)))):(rangeL f xs 0 s).bind K=K (.go (List.zipWith g xs s)):=by
 have hlen:∀ i,i≤xs.length->(List.zipWith g (xs.take i) (s.take i)).length=i:=λi hi=>by simp;omega
 rw[Qg8 (λi=>List.zipWith g (xs.take i) (s.take i)++s.drop i) xs];rw[List.take_length,h,List.take_length,List.drop_length,List.append_nil];intro i x hx;have hi:=Qem hx;have hy:s[i]?=some s[i]:=List.getElem?_eq_getElem (by omega);have hg:(List.zipWith g (xs.take i) (s.take i)++s.drop i)[i]?=some s[i]:=by rw[List.getElem?_append_right (by rw[hlen i (by omega)];exact Nat.le_refl _),hlen i (by omega),Nat.sub_self,List.getElem?_drop,Nat.add_zero,hy]
 rw[hb i x s[i] _ hx hy hg];refine congrArg (λz=>some (Lp.go z)) ?_;have hd:s.drop i=s[i]::s.drop (i+1):=List.drop_eq_getElem_cons (by omega);have e1:xs.take (i+1)=xs.take i++[x]:=by rw[List.take_add_one,hx];rfl
 have e2:s.take (i+1)=s.take i++[s[i]]:=by rw[List.take_add_one,hy];rfl
 rw[hd,List.set_append_right _ _ (by rw[hlen i (by omega)];exact Nat.le_refl _),hlen i (by omega),Nat.sub_self,List.set_cons_zero,e1,e2,List.zipWith_append (by simp;omega)];simp;simp
def addQ(a b:List Rat):List Rat:=List.zipWith (·+·) a b
theorem Q3c{α:Type}{x:α}{l:List α}:getI (x::l) 0=some x:=rfl
theorem Qy1{n k:Nat}{a b:List Qa}(hn:big≤n)(h1:1≤k)(hk:k<1099511627776)(ha:FR k a)(hb:FR k b)(hl:a.length≤1000000):
 Xe n [a,b]=some (if a.length=b.length then (toR (addQ (rv a) (rv b)),true) else ([],false)):=by
 unfold Xe;have hs:sub [a,b] (1:Int) (([a,b]:List (List Qa)).length:Int)=some [b]:=rfl;rw[show decide ((([a,b]:List (List Qa)).length:Int)=0)=false from rfl,bifF,Q3c,sbind,Qpr hn hk ha hl,sbind,hs,sbind];simp only[rangeL];rw[Qe3,Qjo];by_cases h:a.length=b.length;rw[if_pos h,decide_eq_true (show(b.length:Int)=(a.length:Int) by omega),Bool.not_true,bifF,Qwa (λ(x:Qa) (y:Qa)=>toF (fv y+fv x)) b (toR (rv a)) (by rw[Qe3,Qjo,h]),Wu,sbind];simp only[];rw[sbind,Wu];refine congrArg some (Prod.ext ?_ rfl);simp only[];unfold addQ toR rv;rw[List.map_zipWith,List.map_map,List.zipWith_map_right,List.zipWith_map,List.zipWith_comm];congr 1;funext x y;simp only[Function.comp,Qyx];intro i x y s' hx hy hy';have hy2:Fk k y:=Qq5 (QR_rv ha h1) y (K9 hy);rw[Kn hy',sbind,Qpq hn h1 hk hy2 (hb x (K9 hx)),sbind,sbind,Int.toNat_natCast];rw[if_neg h,decide_eq_false (show ¬(b.length:Int)=(a.length:Int) by omega),Bool.not_false,bifT,sbind];rfl
theorem Qn7{α β γ:Type}{g:α->β->γ}{P:γ->Prop}:∀ {a:List α}{b:List β},(∀ x∈a,∀ y∈b,P (g x y))->∀ z∈List.zipWith g a b,P z
 | [],_,_,z,hz=>by simp at hz
 | _::_,[],_,z,hz=>by simp at hz
 | x::a,y::b,h,z,hz=>by rcases List.mem_cons.1 hz with rfl | hz;exact h x (.head _) y (.head _);exact Qn7 (λx' hx y' hy=>h x' (.tail _ hx) y' (.tail _ hy)) z hz
theorem Q3d{j k:Nat}{a b:List Rat}(ha:QR j a)(hb:QR k b):QR (j+k+1) (addQ a b):=Qn7 λx hx y hy=>Q3b (ha x hx) (hb y hy)
theorem Qlr{a b:List Rat}:(addQ a b).length=min a.length b.length:=by unfold addQ;simp
theorem Qe4{c:Rat}{a:List Rat}:(scaleQ c a).length=a.length:=by unfold scaleQ;simp
theorem Qve(l:List Qa)(i:Nat):(rv l)[i]?=(l[i]?).map fv:=by unfold rv;simp
theorem Qw1{n k:Nat}{a b:List Qa}(hn:big≤n)(h1:1≤k)(hk:k<1099511627776)(ha:FR k a)(hb:FR k b):Qew n a b=some (decide (rv a=rv b)):=by
 classical
 unfold Qew;by_cases h:a.length=b.length;rw[decide_eq_true (show(a.length:Int)=(b.length:Int) by omega),Bool.not_true,bifF];rw[Qjn (λi (x:Qa)=>∀ y,b[i]?=some y->fv x=fv y) (r:=false)];have e:(∀(i:Nat) x,a[i]?=some x->∀ y,b[i]?=some y->fv x=fv y)↔rv a=rv b:=by constructor;intro g;refine List.ext_getElem? λi=>?_;rw[Qve,Qve];rcases Nat.lt_or_ge i a.length with hi | hi;have e1:a[i]?=some a[i]:=List.getElem?_eq_getElem hi;have e2:b[i]?=some (b[i]'(by omega)):=List.getElem?_eq_getElem (by omega);have:=g i _ e1 _ e2;rw[e1,e2];exact congrArg some this;rw[List.getElem?_eq_none hi,List.getElem?_eq_none (by omega)];intro g i x hx y hy;have:=congrArg (·[i]?) g;simp only[Qve,hx,hy,Option.map_some] at this;exact Option.some.inj this
 by_cases hd:rv a=rv b;rw[if_pos (e.2 hd),decide_eq_true hd];rw[if_neg (λg=>hd (e.1 g)),decide_eq_false hd];intro i x hx;have hi:=Qem hx;have e2:b[i]?=some (b[i]'(by omega)):=List.getElem?_eq_getElem (by omega);rw[Kn e2,sbind,Qvc hn h1 hk (ha x (K9 hx)) (hb _ (K9 e2)),sbind];constructor;intro g;rw[decide_eq_true (g _ e2)];rfl;intro g;rw[decide_eq_false (λg'=>g λy hy=>by rw[e2] at hy;cases hy;exact g')];rfl;rw[decide_eq_false (show ¬(a.length:Int)=(b.length:Int) by omega),Bool.not_false,bifT,decide_eq_false];intro g;apply h;rw[←Qjo a,g,Qjo]
theorem Qdq(x m:Int):Xd x m=some (decide (0≤x∧x<m)):=by unfold Xd;simp only[jn_eq,bifd];by_cases h:0≤x;rw[if_pos h];simp[h];rw[if_neg h];simp[h]
def rdT(i:Q8):List Int:=if i.Op=6∨i.Op=11 then [i.A] else if i.Op=7∨i.Op=8∨i.Op=9∨i.Op=10 then [i.A,i.B] else []
theorem Qmj(i:Q8):Qb3 i=some (rdT i):=by unfold Qb3 rdT;simp only[jn_eq,bifd];by_cases h6:i.Op=6;simp[h6];by_cases h11:i.Op=11;simp[h11];by_cases h7:i.Op=7;simp[h7];by_cases h8:i.Op=8;simp[h8];by_cases h9:i.Op=9;simp[h9];by_cases h10:i.Op=10;simp[h10];simp[h6,h7,h8,h9,h10,h11]
def TW(t:Qx):Prop:=∀ c∈t.Code,Fw c.N
theorem Qy2{α:Type}{l:List α}{P:α->Prop}:(∀(i:Nat) x,l[i]?=some x->P x)↔∀ a∈l,P a:=by constructor;intro h a ha;obtain⟨j,hj⟩:=List.getElem?_of_mem ha;exact h j a hj;intro h i x hx;exact h x (K9 hx)
noncomputable def dP(p:Prop):Bool:=@decide p (Classical.propDecidable p)
theorem decP{p:Prop}[Decidable p]:decide p=dP p:=by unfold dP;congr
theorem dP_t{p:Prop}(h:p):dP p=true:=by unfold dP;exact @decide_eq_true p (Classical.propDecidable p) h
theorem dP_f{p:Prop}(h:¬ p):dP p=false:=by unfold dP;exact @decide_eq_false p (Classical.propDecidable p) h
theorem dP_c{p q:Prop}(h:p↔q):dP p=dP q:=by rw[show p=q from propext h]
theorem Qen{p q:Prop}[Decidable p](h:p↔q):some (decide p)=some (dP q):=by rw[decP,dP_c h]
theorem Q0g{p q:Prop}(h:p↔q):some (dP p)=some (dP q):=by rw[dP_c h]
theorem Qrf{p q r:Prop}[Decidable p][Decidable q](h:p∧q↔r):(if p then some (decide q) else some false)=some (dP r):=by by_cases hp:p;rw[if_pos hp];exact Qen ⟨λhq=>h.1 ⟨hp,hq⟩,λhr=>(h.2 hr).2⟩;rw[if_neg hp,dP_f λhr=>hp (h.2 hr).1]
theorem Q7p{p q r:Prop}[Decidable p](h:p∧q↔r):(if p then some (dP q) else some false)=some (dP r):=by by_cases hp:p;rw[if_pos hp];exact Q0g ⟨λhq=>h.1 ⟨hp,hq⟩,λhr=>(h.2 hr).2⟩;rw[if_neg hp,dP_f λhr=>hp (h.2 hr).1]
def blankF(f:Qa):Prop:=f.Num.Neg=false∧f.Num.Ao=[]∧f.Den=[]
theorem Qtv(f:Qa):Qd3 f=some (dP (blankF f)):=by unfold Qd3 blankF;obtain⟨⟨s,a⟩,d⟩:=f;simp only[jn_eq];cases s;simp only[Bool.not_false,bifT,bifd];refine Qrf ⟨λh=>⟨trivial,List.eq_nil_of_length_eq_zero (by omega),List.eq_nil_of_length_eq_zero (by omega)⟩,λh=>?_⟩;obtain⟨_,rfl,rfl⟩:=h;exact⟨rfl,rfl⟩;simp only[Bool.not_true,bifF];rw[dP_f λh=>by cases h.1]
theorem bifnP{α:Type}(p:Prop)(a b:α):(bif !dP p then a else b)=@ite _ p (Classical.propDecidable p) b a:=by by_cases h:p;rw[dP_t h,if_pos h];rfl;rw[dP_f h,if_neg h];rfl
def mayR(t:Qx)(i:Nat)(x:Q8):Prop:=
 if x.Op=1 then x.A=0∧x.B=0∧x.N=toF (fv x.N) else
 blankF x.N∧(∀ r∈rdT x,0≤r∧r<(i:Int)) ∧
 if x.Op=2 then x.A=0∧x.B=0 else if x.Op=3 then (0≤x.A∧x.A<t.Dim)∧x.B=0 else if x.Op=4 then (0≤x.A∧x.A<t.Par)∧x.B=0 else
 if x.Op=6 then x.B=0 else if x.Op=11 then -8≤x.B∧x.B≤8 else (rdT x).length=2
theorem Qw2{n:Nat}{t:Qx}{i:Nat}{x:Q8}(hn:big≤n)(ht:Fw x.N)(hx:t.Code[i]?=some x):Qeq n t (i:Int)=some (dP (mayR t i x)):=by
 unfold Qeq mayR;rw[Kn hx,sbind,bifd];by_cases h1:x.Op=1
 have e1:(if x.Op=1 then x.A=0∧x.B=0∧x.N=toF (fv x.N) else blankF x.N∧(∀ r∈rdT x,0≤r∧r<(i:Int)) ∧
  if x.Op=2 then x.A=0∧x.B=0 else if x.Op=3 then (0≤x.A∧x.A<t.Dim)∧x.B=0 else if x.Op=4 then (0≤x.A∧x.A<t.Par)∧x.B=0 else
  if x.Op=6 then x.B=0 else if x.Op=11 then -8≤x.B∧x.B≤8 else (rdT x).length=2)=(x.A=0∧x.B=0∧x.N=toF (fv x.N)):=if_pos h1
 simp only[e1];rw[if_pos h1];have hR:=Qtu hn ht;simp only[jn_eq,Qgv,sbind];have e2:Zc (⟨x.Op,x.A,x.B⟩:Jz) ⟨1,0,0⟩=decide (x.A=0∧x.B=0):=by unfold Zc;simp only[h1];by_cases a:x.A=0<;>by_cases b:x.B=0<;>simp[a,b]
 rw[e2,hR,sbind,bifd];rw[@decP _ (Classical.propDecidable _)];refine Q7p ⟨λh=>⟨h.1.1,h.1.2,h.2⟩,λh=>⟨⟨h.1,h.2.1⟩,h.2.2⟩⟩
 have e1:(if x.Op=1 then x.A=0∧x.B=0∧x.N=toF (fv x.N) else blankF x.N∧(∀ r∈rdT x,0≤r∧r<(i:Int)) ∧
  if x.Op=2 then x.A=0∧x.B=0 else if x.Op=3 then (0≤x.A∧x.A<t.Dim)∧x.B=0 else if x.Op=4 then (0≤x.A∧x.A<t.Par)∧x.B=0 else
  if x.Op=6 then x.B=0 else if x.Op=11 then -8≤x.B∧x.B≤8 else (rdT x).length=2)=(blankF x.N∧(∀ r∈rdT x,0≤r∧r<(i:Int)) ∧
  if x.Op=2 then x.A=0∧x.B=0 else if x.Op=3 then (0≤x.A∧x.A<t.Dim)∧x.B=0 else if x.Op=4 then (0≤x.A∧x.A<t.Par)∧x.B=0 else
  if x.Op=6 then x.B=0 else if x.Op=11 then -8≤x.B∧x.B≤8 else (rdT x).length=2):=if_neg h1
 simp only[e1];rw[if_neg h1,Qtv,sbind,bifnP];by_cases hb:blankF x.N;rw[if_pos hb,Qmj,sbind,Qjn (λ_ (r:Int)=>0≤r∧r<(i:Int)) (r:=false)];rw[Qy2];by_cases hr:∀ r∈rdT x,0≤r∧r<(i:Int);rw[if_pos hr];have fin:∀ {o:Option Bool}{p:Prop},o=some (dP p)->o=some (dP (blankF x.N∧(∀ r∈rdT x,0≤r∧r<(i:Int))∧p)):=λh=>h.trans (Q0g ⟨λg=>⟨hb,hr,g⟩,λg=>g.2.2⟩);refine fin ?_;simp only[jn_eq,Qgv,sbind,Qdq,bifd];by_cases g2:x.Op=2;simp only[if_pos g2];refine congrArg some ?_;unfold Zc;simp only[g2];rw[←decP];by_cases a:x.A=0<;>by_cases b:x.B=0<;>simp[a,b];simp only[if_neg g2];by_cases g3:x.Op=3;simp only[if_pos g3];exact Qrf Iff.rfl;simp only[if_neg g3];by_cases g4:x.Op=4;simp only[if_pos g4];exact Qrf Iff.rfl;simp only[if_neg g4];by_cases g6:x.Op=6;simp only[if_pos g6];exact Qen Iff.rfl;simp only[if_neg g6];by_cases g11:x.Op=11;simp only[if_pos g11];exact Qrf Iff.rfl;simp only[if_neg g11];exact Qen (by omega);rw[if_neg hr,dP_f λh=>hr h.2.1];intro j r _;simp only[Qdq,sbind];constructor;intro h;rw[decide_eq_true h];rfl;intro h;rw[decide_eq_false h];rfl;rw[if_neg hb,dP_f λh=>hb h.1]
def wholeR(t:Qx):Prop:=(1≤t.Dim∧t.Dim≤6)∧(0≤t.Par∧t.Par≤6)∧(t.Outs.length:Int)=t.Dim∧t.Code.length≤300
def tapeR(t:Qx):Prop:=wholeR t∧(∀(i:Nat) x,t.Code[i]?=some x->mayR t i x)∧∀ o∈t.Outs,0≤o∧o<(t.Code.length:Int)
theorem Qtw(t:Qx)(h:-9223372036854775808≤t.Dim∧t.Dim≤9223372036854775807):Qd2 t=some (dP (wholeR t)):=by
 unfold Qd2 wholeR;simp only[jn_eq,Qdq,sbind,bifd];have hw:(0≤wrap64 (t.Dim - 1)∧wrap64 (t.Dim - 1)<6)↔(0≤t.Dim - 1∧t.Dim - 1<6):=by unfold wrap64;omega
 by_cases g1:0≤t.Dim - 1∧t.Dim - 1<6;rw[if_pos (hw.2 g1)];by_cases g2:0≤t.Par∧t.Par<7;rw[if_pos g2];by_cases g3:(t.Outs.length:Int)=t.Dim;rw[if_pos g3];exact Qen (by omega);rw[if_neg g3,dP_f (by omega)];rw[if_neg g2,dP_f (by omega)];rw[if_neg (λh=>g1 (hw.1 h)),dP_f (by omega)]
theorem Q1q{R:Type}{f:Nat->Q8->Unit->Option (Lp Unit R)}{K:Unit->Option R}{xs:List Q8}(P:Nat->Q8->Prop)(r:Nat->R)
 (hb:∀ i x,xs[i]?=some x->(P i x->f i x ()=some (.go ()))∧(¬ P i x->f i x ()=some (.out (r i)))) :
 ((∀(i:Nat) x,xs[i]?=some x->P i x)∧(rangeL f xs 0 ()).bind (lpK K)=K ())∨(¬(∀(i:Nat) x,xs[i]?=some x->P i x)∧∃ j,(rangeL f xs 0 ()).bind (lpK K)=some (r j)):=by
 have key:∀(xs:List Q8) (k:Nat),(∀ i x,xs[i]?=some x->(P (k+i) x->f (k+i) x ()=some (.go ()))∧(¬ P (k+i) x->f (k+i) x ()=some (.out (r (k+i))))) →
  ((∀(i:Nat) x,xs[i]?=some x->P (k+i) x)∧(rangeL f xs k ()).bind (lpK K)=K ())∨(¬(∀(i:Nat) x,xs[i]?=some x->P (k+i) x)∧∃ j,(rangeL f xs k ()).bind (lpK K)=some (r j)):=by
  intro xs
  induction xs with
  | nil=>intro k _;exact .inl ⟨λi x h=>by simp at h,rfl⟩
  | cons x xs ih=>
    intro k hb;have h0:=hb 0 x rfl;simp only[Nat.add_zero] at h0;by_cases hp:P k x;have:=ih (k+1) (λi y hy=>by have:=hb (i+1) y (by simpa using hy);rw[show k+(i+1)=k+1+i by omega] at this;exact this);simp only[rangeL,h0.1 hp,sbind];rcases this with ⟨h3,h4⟩ | ⟨h3,h4⟩;refine .inl ⟨λi y hy=>?_,h4⟩;cases i with
    | zero=>simp at hy;subst hy;exact hp
    | succ i=>rw[show k+(i+1)=k+1+i by omega];exact h3 i y (by simpa using hy)
    refine .inr ⟨λh=>h3 λi y hy=>?_,h4⟩;have:=h (i+1) y (by simpa using hy);rwa [show k+(i+1)=k+1+i by omega] at this;refine .inr ⟨λh=>hp (h 0 x rfl),k,?_⟩;simp only[rangeL,h0.2 hp,sbind];rfl
 have:=key xs 0 (λi x hx=>by rw[Nat.zero_add];exact hb i x hx);simp only[Nat.zero_add] at this;exact this
theorem Qtx{n:Nat}{t:Qx}(hn:big≤n)(ht:TW t)(hd:-9223372036854775808≤t.Dim∧t.Dim≤9223372036854775807):Yt n t=some (dP (tapeR t)):=by
 unfold Yt Qhi;rw[Qtw t hd,sbind,bifnP];by_cases hw:wholeR t;rw[if_pos hw]
 have key:=Q1q (K:=λ(_:Unit)=>(rangeL (λ(_:Nat) (x26:Int) (_:Unit)=>
  (Xd x26 (t.Code.length:Int)).bind λr28=>
  bif !r28 then (
   some (Lp.out ((t.Code.length:Int))))
  else (
   some (Lp.go ()))) t.Outs 0 ()).bind (lpK λ(_:Unit)=>
 some (-1:Int))) (f:=λ(i11:Nat) (_:Q8) (_:Unit)=>
  (Qeq n t (i11:Int)).bind λr14=>
  bif !r14 then (
   some (Lp.out ((i11:Int))))
  else (
   some (Lp.go ()))) (xs:=t.Code) (λi x=>mayR t i x) (λi=>(i:Int)) (λi x hx=>by
  rw[Qw2 hn (ht x (K9 hx)) hx,sbind];constructor;intro h;rw[dP_t h];rfl
  intro h;rw[dP_f h];rfl)
 rcases key with ⟨k1,k2⟩ | ⟨k1,j,k2⟩;rw[k2,Qjn (λ_ (o:Int)=>0≤o∧o<(t.Code.length:Int)) (r:=(t.Code.length:Int))];rw[Qy2];by_cases ho:∀ o∈t.Outs,0≤o∧o<(t.Code.length:Int);rw[if_pos ho,sbind];exact Qen ⟨λ_=>⟨hw,k1,ho⟩,λ_=>rfl⟩;rw[if_neg ho,sbind];exact Qen ⟨λh=>by omega,λh=>absurd h.2.2 ho⟩;intro i o _;simp only[Qdq,sbind];constructor;intro h;rw[decide_eq_true h];rfl;intro h;rw[decide_eq_false h];rfl;rw[k2,sbind];exact Qen ⟨λh=>by omega,λh=>absurd h.2.1 k1⟩;rw[if_neg hw,sbind];exact Qen ⟨λh=>by omega,λh=>absurd h.1 hw⟩
theorem Qkp{k:Nat}{l:List Rat}{i:Nat}(h:QR k l)(h1:1≤k):qw (l.getD i 0)≤k:=by rw[List.getD_eq_getElem?_getD];rcases Nat.lt_or_ge i l.length with hi | hi;rw[List.getElem?_eq_getElem hi];exact h _ (List.getElem_mem hi);rw[List.getElem?_eq_none hi];show qw 0≤k;rw[Qvb];exact h1
def digB(c:Nat):Bool:=decide (48≤c∧c≤57)
def letB(c:Nat):Bool:=decide (97≤c∧c≤122∨65≤c∧c≤90∨c=95)
def sgnL:List UInt8:=[43,45,42,47,94,40,41,91,93,44,59,61]
def sgnB(c:Nat):Bool:=sgnL.any (λx=>x.toNat=c)
def kindC(c:Nat):Int:=if digB c then 1 else if letB c then 2 else if sgnB c then 3 else 0
def goC(k:Int)(c:Nat):Bool:=(decide (k=1) && digB c) || (decide (k=2) && (letB c || digB c))
def mostC(k:Int):Nat:=if k=1 then 60 else if k=2 then 12 else 1
def wdB(k:Int):List UInt8->Bool
 | []=>false
 | c::r=>decide (k≠0) && (decide (kindC c.toNat=k) && (r.all (λb=>goC k b.toNat) && decide (r.length+1≤mostC k)))
structure Q7q(n k:Nat)(t:Qx):Prop where
 r:tapeR t
 h:Yt n t=some true
 w:∀ c∈t.Code,Fk k c.N
def sumQ(l:List Rat):Rat:=l.foldl (λo x=>o+x) 0
def numR(x:Qa):Prop:=x=toF (fv x)∧qz (fv x)≤190
def shapeR(s:Q0):Prop:=(1≤s.B.length∧s.B.length≤8)∧s.C.length=s.B.length∧s.A.length=s.B.length∧(s.E.length=s.B.length∨s.E.length=0)∧∀(i:Nat) r,s.A[i]?=some r->r.length=i
structure SchW(k:Nat)(s:Q0):Prop where
 a:∀ r∈s.A,FR k r
 b:FR k s.B
 c:FR k s.C
 e:FR k s.E
 n:s.Name.length≤4611686018427387904
def rowsR(s:Q0):Prop:=∀(i:Nat) r,s.A[i]?=some r->sumQ (rv r)=fv (s.C.getD i ⟨⟨false,[]⟩,[]⟩)
def schR(s:Q0):Prop:=wdB 2 s.Name=true∧shapeR s∧((∀ r∈s.A,∀ x∈r,numR x)∧∀ r∈[s.B,s.C,s.E],∀ x∈r,numR x)∧rowsR s∧sumQ (rv s.B)=1∧(s.E≠[]->sumQ (rv s.E)=1)
def toRR(l:List (List Rat)):List (List Qa):=l.map toR
theorem Qct(l:List (List Rat)):(toRR l).length=l.length:=by unfold toRR;simp
theorem Q5p(l:List (List Rat)):(toRR l).map rv=l:=by
 unfold toRR;rw[List.map_map]
 conv=>rhs;rw[←List.map_id l]
 exact List.map_congr_left λq _=>Qy0 q
section
variable {n k:Nat}{p:Qo}{t h:Qa}{y:List Qa}{g:Qn}{ys ks:List (List Qa)}{nx er:List Qa}
structure PrbOK(n k:Nat)(p:Qo)(t h:Qa)(y:List Qa):Prop where
 tp:Q7q n k p.Tape
 sw:SchW k p.An
 sr:schR p.An
 pk:FR k p.P
 pl:(p.P.length:Int)=p.Tape.Par
 tk:Fk k t
 hk:Fk k h
 yk:FR k y
 yl:(y.length:Int)=p.Tape.Dim
end
theorem Qty(f:Qc)(k:Nat):X6 f (k:Int)=some (!decide (f.N.length≤k∧f.D.length≤k)):=by unfold X6;simp only[jn_eq,bifd];by_cases h:(k:Int)<(f.N.length:Int);rw[if_pos h,decide_eq_false (by omega)];rfl;rw[if_neg h];by_cases g:(k:Int)<(f.D.length:Int);rw[decide_eq_true g,decide_eq_false (by omega)];rfl;rw[decide_eq_false g,decide_eq_true (by omega)];rfl
def tF(x:Qc):Qa:=⟨⟨x.Neg,x.N⟩,x.D⟩
theorem Qw3{n:Nat}{l:List Qc}(hn:big≤n)(h1:l.length≤1000000):Yz n l=some (l.map tF):=by unfold Yz;rw[Zf (λi=>((l.take i).map tF,(i:Int))) l.length (l.map tF)];intro i hi;have hp:l[i]?=some l[i]:=List.getElem?_eq_getElem hi;generalize l[i]=p at hp;simp only[bifd,Z6,sbind];rw[if_pos (by omega),Kn hp,sbind,Xy (by simp;omega) (by simp;omega),sbind,w1 (by omega),Qgk tF hp];rfl;simp only[bifd];rw[if_neg (by omega),List.take_length];unfold big at hn;omega;rfl
theorem Qgl{n:Nat}{l:List (List Qc)}(hn:big≤n)(h1:l.length≤1000000)(h2:∀ r∈l,r.length≤1000000):Vr n l=some (l.map (·.map tF)):=by unfold Vr;rw[Zf (λi=>((l.take i).map (·.map tF),(i:Int))) l.length (l.map (·.map tF))];intro i hi;have hp:l[i]?=some l[i]:=List.getElem?_eq_getElem hi;generalize l[i]=p at hp;simp only[bifd];rw[if_pos (by omega),Kn hp,sbind,Qw3 hn (h2 p (K9 hp)),sbind,Xy (by simp;omega) (by simp;omega),sbind,w1 (by omega),Qgk (·.map tF) hp];simp only[bifd];rw[if_neg (by omega),List.take_length];unfold big at hn;omega;rfl
def FL(many k:Nat)(l:List Qc):Prop:=l.length≤many∧∀ x∈l,x.N.length≤k∧x.D.length≤k
theorem Qtz{n:Nat}{l:List Qc}{many k:Nat}(hn:big≤n)(hm:many≤1000000):∃ v,Vb n l (many:Int) (k:Int)=some v∧(v=false->FL many k l):=by unfold Vb;rw[Qix (λi=>∀ c,l[i]?=some c->c.N.length≤k∧c.D.length≤k) (min l.length many) (r:=true)];by_cases h:∀ i,i<min l.length many->∀ c,l[i]?=some c->c.N.length≤k∧c.D.length≤k;rw[if_pos h];refine⟨_,rfl,λhv=>⟨by have:=of_decide_eq_false hv;omega,λc hc=>?_⟩⟩;have:=of_decide_eq_false hv;obtain⟨i,hi⟩:=List.getElem?_of_mem hc;exact h i (by have:=Qem hi;omega) c hi;rw[if_neg h];exact⟨true,rfl,λh=>by cases h⟩;intro i hi;have hp:l[i]?=some l[i]:=List.getElem?_eq_getElem (by omega);generalize l[i]=c at hp;simp only[jn_eq,bifd];rw[if_pos (by omega),if_pos (by omega),Kn hp,sbind,Qty,sbind];by_cases h:c.N.length≤k∧c.D.length≤k;rw[decide_eq_true h,Bool.not_true,bifF,w1 (by omega)];exact⟨λ_=>rfl,λg=>absurd (λd hd=>by rw[hp] at hd;cases hd;exact h) g⟩;rw[decide_eq_false h,Bool.not_false,bifT];exact⟨λg=>absurd (g c hp) h,λ_=>rfl⟩;simp only[jn_eq,bifd];by_cases h:min l.length many<l.length;rw[if_pos (by omega),if_neg (by omega)];rw[if_neg (by omega),bifF];unfold big at hn;omega
structure PrbW(k:Nat)(p:Qo):Prop where
 t:∀ c∈p.Tape.Code,Fk k c.N
 d:-9223372036854775808≤p.Tape.Dim∧p.Tape.Dim≤9223372036854775807
 s:SchW k p.An
 p:FR k p.P
def prbR(p:Qo):Prop:=tapeR p.Tape∧schR p.An∧(p.P.length:Int)=p.Tape.Par
theorem PrbW.tw{k:Nat}{p:Qo}(h:PrbW k p)(hk:k<1048576):TW p.Tape:=λc hc=>Fk_Fw (h.t c hc) (by omega)
theorem PrbW.ok{n k:Nat}{p:Qo}{t h:Qa}{y:List Qa}(hw:PrbW k p)(hn:big≤n)(hk:k<8000)(hr:prbR p)(ht:Fk k t)(hh:Fk k h)(hy:FR k y)(hl:(y.length:Int)=p.Tape.Dim):PrbOK n k p t h y:=
 ⟨⟨hr.1,by rw[Qtx hn (hw.tw (by omega)) hw.d,dP_t hr.1],hw.t⟩,hw.s,hr.2.1,hw.p,hr.2.2,ht,hh,hy,hl⟩
set_option maxRecDepth 100000
def turnQ(a q:Rat)(e:Int):Rat:=if 0<e then a ^ (e - 1) else if e<0 then q / a else 0
set_option maxRecDepth 100000
def linQ(c:Rat)(a b:List Rat):List Rat:=List.zipWith (λx y=>c*x+y) a b
theorem Q0h{c:Rat}{a b:List Rat}(h:b.length=a.length):(linQ c a b).length=a.length:=by unfold linQ;rw[List.length_zipWith,h,Nat.min_self]
theorem Qls{c:Rat}{a b:List Rat}{i:Nat}(h:b.length=a.length):(linQ c a b).getD i 0=c*a.getD i 0+b.getD i 0:=by unfold linQ;rw[List.getD_eq_getElem?_getD,List.getD_eq_getElem?_getD,List.getD_eq_getElem?_getD,List.getElem?_zipWith];by_cases hi:i<a.length;rw[List.getElem?_eq_getElem hi,List.getElem?_eq_getElem (show i<b.length by omega)];rfl;rw[List.getElem?_eq_none (show a.length≤i by omega),List.getElem?_eq_none (show b.length≤i by omega)];show(0:Rat)=c*0+0;grind
theorem Qwb{c:Rat}:∀ m:Nat,List.replicate m (0:Rat)=linQ c (List.replicate m 0) (List.replicate m 0)
 | 0=>rfl
 | m+1=>by have:=Qwb (c:=c) m;unfold linQ at this ⊢;rw[List.replicate_succ,List.zipWith_cons_cons,←this];congr 1;grind
set_option maxRecDepth 100000
theorem PrbW.mono{j k:Nat}{p:Qo}(h:PrbW j p)(hk:j≤k):PrbW k p:=
 ⟨λc hc=>Qg9 (h.t c hc) hk,h.d,⟨λr hr=>Qiy (h.s.a r hr) hk,Qiy h.s.b hk,Qiy h.s.c hk,Qiy h.s.e hk,h.s.n⟩,Qiy h.p hk⟩
def padL(l:Nat)(a:List Nat):List Nat:=a++List.replicate (l - a.length) 0
theorem Qy3{l:Nat}{a:List Nat}(h:a.length≤l):(padL l a).length=l:=by unfold padL;simp;omega
theorem Qy4(l:Nat)(a:List Nat):val (padL l a)=val a:=by unfold padL;rw[Vk,Qbr];simp
theorem Q0i{l:Nat}{a:List Nat}(h:Wd a):Wd (padL l a):=Ji.2 ⟨h,Qh9 (by omega)⟩
theorem Qy5{l:Nat}{a:List Nat}{j:Nat}(h:j<(padL l a).length):(padL l a)[j]=a.getD j 0:=by unfold padL at h ⊢;by_cases hj:j<a.length;rw[List.getElem_append_left hj];simp[hj];rw[List.getElem_append_right (by omega),List.getElem_replicate];simp[List.getElem?_eq_none (show a.length≤j by omega)]
theorem Qiz{n:Nat}{a b:List Nat}(hn:big≤n)(ha:a.length≤4611686018427387904)(hb:b.length≤4611686018427387904)(hwa:Wd a)(hwb:Wd b):Wc n a b=some (cmpI (val a) (val b)):=by
 unfold Wc;obtain⟨l,hl⟩:∃ l:Nat,l=max a.length b.length:=⟨_,rfl⟩
 have hmax:max (a.length:Int) (b.length:Int)=(l:Int):=by omega
 have la:=Qy3 (l:=l) (a:=a) (by omega);have lb:=Qy3 (l:=l) (a:=b) (by omega);have wa:=Q0i (l:=l) hwa;have wb:=Q0i (l:=l) hwb;have ga:∀ j (h:j<(padL l a).length),(padL l a)[j]=a.getD j 0:=λj h=>Qy5 h;have gb:∀ j (h:j<(padL l b).length),(padL l b)[j]=b.getD j 0:=λj h=>Qy5 h;rw[hmax,←Qy4 l a,←Qy4 l b];generalize padL l a=a' at *;generalize padL l b=b' at *;unfold big at hn;rw[w64 (by omega) (by omega)];refine Xx (λs=>(s+1).toNat) (λs=>∃ k:Nat,s=(k:Int) - 1∧k≤l∧a'.drop k=b'.drop k) (λt=>(t=.go ()∧a'=b')∨(t=.out (-1)∧val a'<val b')∨(t=.out 1∧val b'<val a')) ⟨l,rfl,Nat.le_refl _,by rw[List.drop_of_length_le (by omega),List.drop_of_length_le (by omega)]⟩ (by omega) ?_ ?_;rintro s ⟨k,rfl,hk,ht⟩;simp only[bifd];by_cases h0:0<k;obtain⟨j,rfl⟩:∃ j,k=j+1:=⟨k - 1,by omega⟩
 have hj:j<a'.length:=by omega
 have hj':j<b'.length:=by omega
 rw[if_pos (by omega),show((j+1:Nat):Int) - 1=(j:Nat) by omega,Zw,sbind,Zw,sbind,←ga j hj,←gb j hj'];by_cases g1:a'[j]<b'[j];right;rw[if_pos g1];exact⟨_,rfl,.inr (.inl ⟨rfl,Qre wa hj hj' ht g1⟩)⟩;rw[if_neg g1];by_cases g2:b'[j]<a'[j];right;rw[if_pos g2];exact⟨_,rfl,.inr (.inr ⟨rfl,Qre wb hj' hj ht.symm g2⟩)⟩;left;rw[if_neg g2,w64 (by omega) (by omega)];refine⟨_,rfl,⟨j,rfl,by omega,?_⟩,by omega⟩;rw[List.drop_eq_getElem_cons hj,List.drop_eq_getElem_cons hj',ht,show a'[j]=b'[j] by omega];right;obtain rfl:k=0:=by omega
 rw[if_neg (by omega)];exact⟨_,rfl,.inl ⟨rfl,by simpa using ht⟩⟩;rintro t (⟨rfl,h⟩ | ⟨rfl,h⟩ | ⟨rfl,h⟩);rw[Wu,h];simp[cmpI];rw[Qiu,cmpI,if_pos h];rw[Qiu,cmpI,if_neg (by omega),if_pos h]
theorem Qy6{x y c:Nat}(hx:x<4294967296)(hy:y<4294967296)(hc:c≤1):∃ d c',d<4294967296∧c'≤1∧d+y+c=x+4294967296*c' ∧
 ∀ {R:Type}(k:Nat×Nat->R),(if x<(y+c)%18446744073709551616 then k (1,(x+4294967296)%18446744073709551616) else k (0,x))=k (c',x+4294967296*c')∧(x+4294967296*c'+18446744073709551616 - (y+c)%18446744073709551616)%18446744073709551616%4294967296=d:=by
 rw[Nat.mod_eq_of_lt (show y+c<18446744073709551616 by omega)];by_cases h:x<y+c;exact⟨x+4294967296 - (y+c),1,by omega,by omega,by omega,λk=>⟨by rw[if_pos h,Nat.mod_eq_of_lt (by omega)],by omega⟩⟩;exact⟨x - (y+c),0,by omega,by omega,by omega,λk=>⟨by rw[if_neg h];rfl,by omega⟩⟩
theorem Qwc{P s o av bv:Nat}(h:o+bv=av+P*s)(hle:bv≤av)(ho:o<P):s=0:=by rcases Nat.eq_zero_or_pos s with h' | h';exact h';exfalso;have:P*1≤P*s:=Nat.mul_le_mul_left _ h';omega
theorem Qn8{n:Nat}{a b:List Nat}(hn:big≤n)(ha:a.length<17592186044416)(hb:b.length<17592186044416)(hwa:Wd a)(hwb:Wd b)(hle:val b≤val a):Vl n a b=some (toL (val a - val b)):=by
 unfold Vl;unfold big at hn;obtain⟨l,hl⟩:∃ l:Nat,l=max a.length b.length:=⟨_,rfl⟩
 have hmax:max (a.length:Int) (b.length:Int)=(l:Int):=by omega
 rw[hmax,Qcz (by omega) (by omega),sbind]
 refine Xx (λs=>l - s.2.2.toNat) (λs=>∃(k:Nat) (o:List Nat),s.2.2=k∧k≤l∧s.1=o++List.replicate (l - k) 0∧o.length=k∧Wd o∧s.2.1≤1∧val o+val (b.take k)=val (a.take k)+bp k*s.2.1)
  (λt=>t.length=l∧Wd t∧val t=val a - val b) ⟨0,[],rfl,by omega,by simp,rfl,Kf,by simp,by simp[val,Xp]⟩ (by simp only[];omega) ?_ ?_
 rintro⟨q,s,i⟩ ⟨k,o,h1,h2,h3,h4,h5,h6,h7⟩;simp only at h1 h3 h6 h7;subst h1 h3;simp only[sbind,bifd,jn_eq];by_cases hk:k<l;left;have hx:=Qe1 hwa k;have hy:=Qe1 hwb k;obtain⟨d,c',g1,g2,g3,g4⟩:=Qy6 hx hy h6;rw[if_pos (by omega),Zw,sbind,Zw,sbind];have g5:=(g4 (λs34:Nat×Nat=>(getI (o++List.replicate (l - k) 0) (k:Int)).bind λ_=>some (Lp.go (σ:=List Nat×Nat×Int) (τ:=List Nat) ((o++List.replicate (l - k) 0).set (Int.toNat (k:Int)) ((s34.2+18446744073709551616 - (b.getD k 0+s)%18446744073709551616)%18446744073709551616%4294967296),s34.1,wrap64 ((k:Int)+1))))).1;have g6:=(g4 (λ_=>())).2;rw[g5];simp only[];rw[g6];obtain⟨j,hj⟩:∃ j,l - k=j+1:=⟨l - k - 1,by omega⟩
 rw[hj,List.replicate_succ,Kk h4,sbind,Vx h4,w64 (by omega) (by omega)];refine⟨_,rfl,⟨k+1,o++[d],by simp only[];omega,by omega,?_,by simp[h4],Ji.2 ⟨h5,Jk.2 ⟨g1,Kf⟩⟩,g2,?_⟩,by simp only[];omega⟩;simp only[];rw[show l - (k+1)=j by omega];simp;simp only[];rw[Vi,Vi,Jw,h4,Kl];exact Qsk _ _ _ _ _ _ _ _ _ g3 h7;right;obtain rfl:k=l:=by omega
 rw[if_neg (by omega)];refine⟨_,rfl,by simp[h4],by simpa using h5,?_⟩;rw[List.take_of_length_le (by omega),List.take_of_length_le (by omega)] at h7;have h8:s=0:=Qwc h7 hle (by rw[←h4];exact Vv h5);rw[h8,Nat.mul_zero,Nat.add_zero] at h7;simp only[Nat.sub_self,List.replicate_zero,List.append_nil];omega;rintro t ⟨h1,h2,h3⟩;rw[Vh (by unfold big;exact hn) (by omega),sbind,←Jn h2,h3]
theorem Qgr{k l:Nat}(h:k<l):grd (winS (k:Int) l)=some ():=grd_t (by unfold winS;simp;omega)
theorem Qmk{n:Nat}{p a q b:List Nat}(hn:big≤n)(hl:p.length+a.length+q.length<17592186044416)(hb:b.length≤a.length)(hwa:Wd a)(hwb:Wd b)(hle:val b≤val a):
 ∃ r,Vc n (p++a++q) p.length a.length b=some (p++r++q)∧r.length=a.length∧Wd r∧val r=val a - val b:=by
 have key:∃ r,Vc n (p++a++q) p.length a.length b=some r∧∃ r',r=p++r'++q∧r'.length=a.length∧Wd r'∧val r'=val a - val b:=by
  unfold Vc;unfold big at hn
  refine Qba (λs=>a.length - s.2.2.toNat) (λs=>∃(k:Nat) (o:List Nat),s.2.2=k∧k≤a.length∧s.1=p++o++(a.drop k++q)∧o.length=k∧Wd o∧s.2.1≤1∧val o+val (b.take k)=val (a.take k)+bp k*s.2.1)
   (λt=>∃ o,t=p++o++q∧o.length=a.length∧Wd o∧val o=val a - val b) ⟨0,[],rfl,by omega,by simp,rfl,Kf,by simp,by simp[val,Xp]⟩ (by simp only[];omega) ?_ ?_
  rintro⟨w,s,i⟩ ⟨k,o,h1,h2,h3,h4,h5,h6,h7⟩;simp only at h1 h3 h6 h7;subst h1 h3;simp only[sbind,bifd,jn_eq];by_cases hk:k<a.length;left;have hx:=Xh hwa hk;have hy:=Qe1 hwb k;obtain⟨d,c',g1,g2,g3,g4⟩:=Qy6 hx hy h6;rw[if_pos (by omega),Qgr hk,sbind,show((p.length:Int)+(k:Int))=((p.length+k:Nat):Int) by omega,List.drop_eq_getElem_cons hk,List.cons_append,Kk (by simp;omega),sbind,Zw,sbind];have g5:=(g4 (λs38:Nat×Nat=>(getI (p++o++a[k]::(a.drop (k+1)++q)) ((p.length+k:Nat):Int)).bind λ_=>some (Lp.go (σ:=List Nat×Nat×Int) (τ:=List Nat) ((p++o++a[k]::(a.drop (k+1)++q)).set (Int.toNat ((p.length+k:Nat):Int)) ((s38.2+18446744073709551616 - (b.getD k 0+s)%18446744073709551616)%18446744073709551616%4294967296),s38.1,wrap64 ((k:Int)+1))))).1;have g6:=(g4 (λ_=>())).2;rw[Kk (by simp;omega)] at g5;simp only[sbind] at g5 ⊢;rw[g5,g6,Vx (by simp;omega),w64 (by omega) (by omega)];refine⟨_,rfl,⟨k+1,o++[d],by simp only[];omega,by omega,by simp,by simp[h4],Ji.2 ⟨h5,Jk.2 ⟨g1,Kf⟩⟩,g2,?_⟩,by simp only[];omega⟩;simp only[];rw[Vi,J8 hk,Jw,Jw,List.length_take,Nat.min_eq_left (by omega),h4,Kl];exact Qsk _ _ _ _ _ _ _ _ _ g3 h7;right;obtain rfl:k=a.length:=by omega
  rw[if_neg (by omega)];refine⟨_,rfl,o,by simp,h4,h5,?_⟩;rw[List.take_of_length_le (by omega),List.take_of_length_le (by omega)] at h7;have h8:s=0:=Qwc h7 hle (by rw[←h4];exact Vv h5);rw[h8,Nat.mul_zero,Nat.add_zero] at h7;omega;rintro t ⟨o,rfl,h1,h2,h3⟩;exact⟨_,rfl,o,rfl,h1,h2,h3⟩
 obtain⟨r,h1,r',h2,h3,h4,h5⟩:=key;exact⟨r',by rw[h1,h2],h3,h4,h5⟩
theorem Q4l(P y c c' d V A m:Nat)(e:d+4294967296*c'=2*y+c)(h:V+P*c=2*A+m):V+P*d+P*4294967296*c'=2*(A+P*y)+m:=by grind
theorem Qj7{n:Nat}{a:List Nat}{b:Bool}(hn:big≤n)(hl:a.length<17592186044416)(hwa:Wd a):
 ∃ r c,Vj n a b=some r∧r.length=a.length∧Wd r∧val r+bp a.length*c=2*val a+b.toNat:=by
 have key:∃ r,Vj n a b=some r∧∃ c,r.length=a.length∧Wd r∧val r+bp a.length*c=2*val a+b.toNat:=by
  unfold Vj;unfold big at hn;have e:∀ k:Nat->Option (List Nat),jn (λ(j1:(Nat)->Option _)=>bif b then (j1 1) else (j1 0)) k=k b.toNat:=by intro k;cases b<;>rfl
  rw[e]
  refine Qba (λs=>a.length - s.2.2.toNat) (λs=>∃(k:Nat) (o:List Nat),s.2.2=k∧k≤a.length∧s.1=o++a.drop k∧o.length=k∧Wd o∧s.2.1≤1∧val o+bp k*s.2.1=2*val (a.take k)+b.toNat)
   (λt=>∃ c,t.length=a.length∧Wd t∧val t+bp a.length*c=2*val a+b.toNat) ⟨0,[],rfl,by omega,by simp,rfl,Kf,by simp only[];cases b<;>decide,by simp[val,Xp]⟩ (by simp only[];omega) ?_ ?_
  rintro⟨w,s,i⟩ ⟨k,o,h1,h2,h3,h4,h5,h6,h7⟩;simp only at h1 h3 h6 h7;subst h1 h3;simp only[sbind,bifd];have hol:(o++a.drop k).length=a.length:=by simp;omega
  by_cases hk:k<a.length;left;have hx:=Xh hwa hk;rw[if_pos (by rw[hol];omega),List.drop_eq_getElem_cons hk,Kk h4,sbind,sbind,sbind,Vx h4,w64 (by omega) (by omega)];refine⟨_,rfl,⟨k+1,o++[(a[k]*2%4294967296+s)%4294967296],by simp only[];omega,by omega,by simp,by simp[h4],Ji.2 ⟨h5,Jk.2 ⟨by omega,Kf⟩⟩,by simp only[];omega,?_⟩,by simp only[];omega⟩;simp only[];rw[J8 hk,Jw,Jw,List.length_take,Nat.min_eq_left (by omega),h4,Kl];exact Q4l _ _ _ _ _ _ _ _ (by omega) h7;right;obtain rfl:k=a.length:=by omega
  rw[if_neg (by rw[hol];omega)];rw[List.take_of_length_le (by omega)] at h7;exact⟨_,rfl,s,by simp;omega,by simpa using h5,by simpa using h7⟩;rintro t ⟨c,h1,h2,h3⟩;exact⟨_,rfl,c,h1,h2,h3⟩
 obtain⟨r,h1,c,h2⟩:=key;exact⟨r,c,h1,h2⟩
theorem Q4m(w t r:Nat)(hr:r<32):(w+4294967296*t) / 2 ^ r%2=w / 2 ^ r%2:=by
 have e:(4294967296:Nat)=2 ^ r*(2*2 ^ (31 - r)):=by rw[←Nat.mul_assoc,Nat.mul_comm (2 ^ r) 2,Nat.mul_assoc,←Nat.pow_add,show r+(31 - r)=31 by omega]
 rw[e,Nat.mul_assoc,Nat.add_mul_div_left _ _ (Nat.two_pow_pos r),Nat.mul_assoc 2,Nat.add_mul_mod_self_left]
theorem Q0j{a:List Nat}(hw:Wd a)(q r:Nat)(hr:r<32):val a / 2 ^ (32*q+r)%2=a.getD q 0 / 2 ^ r%2:=by rw[Nat.pow_add,←Qjm,←Nat.div_div_eq_div_mul,Qmg hw];by_cases h:q<a.length;rw[List.drop_eq_getElem_cons h];simp only[val];rw[Q4m _ _ _ hr];simp[h];rw[List.drop_of_length_le (by omega)];simp[val,List.getElem?_eq_none (show a.length≤q by omega)]
theorem Qvf{n i:Nat}{a:List Nat}(hn:big≤n)(hi:i<4611686018427387904)(hw:Wd a):Yh n a (i:Int)=some (decide (val a / 2 ^ i%2=1)):=by unfold Yh;have hd:Int.tdiv (i:Int) 32=((i / 32:Nat):Int):=rfl;have hm:Int.tmod (i:Int) 32=((i%32:Nat):Int):=rfl;have hb:=Q0j hw (i / 32) (i%32) (Nat.mod_lt _ (by decide));rw[show 32*(i / 32)+i%32=i by omega] at hb;rw[hd,hm,w64 (by omega) (by omega),hb];simp only[jn_eq,bifd];rw[if_neg (by omega)];by_cases h:i / 32<a.length;rw[if_neg (by omega),Y2 h,sbind];rw[Zf (λk=>(a[i / 32] / 2 ^ k,(k:Int))) (i%32) (a[i / 32] / 2 ^ (i%32))];simp[h];intro k hk;simp only[];rw[if_pos (by omega),Nat.div_div_eq_div_mul,←Nat.pow_succ,w1 (by omega)];simp only[];rw[if_neg (by omega)];unfold big at hn;omega;simp;rw[if_pos (by omega)];simp[List.getElem?_eq_none (show a.length≤i / 32 by omega)]
theorem Qvg{n:Nat}{a:List Nat}(hn:big≤n)(hl:a.length<17592186044416)(hw:Wd a):Yi n a=some (blen (val a):Int):=by
 unfold Yi;rw[w64 (by omega) (by omega)];have h0:val a<2 ^ (32*a.length):=by rw[←Qjm];exact Vv hw
 refine Xx (λs=>s.toNat) (λs=>∃ k:Nat,s=k∧k≤32*a.length∧val a<2 ^ k) (λt=>t=(blen (val a):Int)) ⟨32*a.length,by omega,Nat.le_refl _,h0⟩ (by unfold big at hn;omega) ?_ ?_;rintro s ⟨k,rfl,hk,hv⟩;simp only[jn_eq,bifd];by_cases h:0<k;obtain⟨j,rfl⟩:∃ j,k=j+1:=⟨k - 1,by omega⟩
 rw[if_pos (by omega),w64 (by omega) (by omega),show((j+1:Nat):Int) - 1=(j:Nat) by omega,Qvf hn (by omega) hw,sbind];by_cases hb:val a / 2 ^ j%2=1;right;rw[decide_eq_true hb,Bool.not_true,bifF];refine⟨_,rfl,?_⟩;have h1:2 ^ j≤val a:=by rcases Nat.lt_or_ge (val a) (2 ^ j) with g | g;rw[Nat.div_eq_of_lt g] at hb;cases hb;exact g
 rw[Qu2 h1 hv];left;rw[decide_eq_false hb,Bool.not_false,bifT];refine⟨_,rfl,⟨j,rfl,by omega,?_⟩,by omega⟩;have h2:val a / 2 ^ j<2:=Nat.div_lt_of_lt_mul (by rw[←Nat.pow_succ];exact hv);have h3:val a / 2 ^ j=0:=by clear hv h0;generalize val a / 2 ^ j=z at *;omega
 rcases Nat.lt_or_ge (val a) (2 ^ j) with g | g;exact g;have:=Nat.div_pos g (Nat.two_pow_pos j);omega;right;obtain rfl:k=0:=by omega
 rw[if_neg (by omega),bifF];refine⟨_,rfl,?_⟩;have:val a=0:=by simpa using hv
 rw[this,Qel];rintro t rfl;rfl
theorem Qwd{P c x:Nat}(h:P*c≤x)(hx:x<P):c=0:=by rcases Nat.eq_zero_or_pos c with h' | h';exact h';exfalso;have:P*1≤P*c:=Nat.mul_le_mul_left _ h';omega
theorem Q4n(x j:Nat):x / 2 ^ j=2*(x / 2 ^ (j+1))+x / 2 ^ j%2:=by rw[Nat.pow_succ,←Nat.div_div_eq_div_mul];generalize x / 2 ^ j=z;omega
theorem Q3e{a b q r:Nat}(h:a=q*b+r)(hr:r<b):q=a / b∧r=a%b:=by
 have h0:0<b:=by omega
 rw[h,Nat.mul_comm q b,Nat.mul_add_div h0,Nat.mul_add_mod,Nat.div_eq_of_lt hr,Nat.mod_eq_of_lt hr];exact⟨by omega,rfl⟩
theorem Q3f{A A2 q q2 r r2 b t:Nat}(e:A=2*A2+t)(h:A2=q*b+r)(h1:q2=2*q)(h2:r2=2*r+t):A=q2*b+r2:=by subst h1 h2;grind
theorem Q3g{A A2 q q2 q3 r r2 r3 b t:Nat}(e:A=2*A2+t)(h:A2=q*b+r)(h1:q2=2*q)(h2:r2=2*r+t)(h3:q3=q2+1)(h4:r3=r2 - b)(h5:b≤r2):A=q3*b+r3:=by
 obtain⟨d,rfl⟩:∃ d,r2=b+d:=⟨r2 - b,by omega⟩
 have:r3=d:=by omega
 subst this h3 h1;grind
theorem Q0k{x y:Nat}:0≤cmpI x y↔y≤x:=by unfold cmpI;split;constructor<;>intro h<;>omega;split<;>constructor<;>intro h<;>omega
theorem Qy7{k:Nat}(h:k<32):(1*2 ^ min (Int.toNat (k:Int)) 32)%4294967296=2 ^ k:=by rw[Int.toNat_natCast,Nat.min_eq_left (by omega),Nat.one_mul];exact Nat.mod_eq_of_lt (Nat.lt_of_lt_of_le (Nat.pow_lt_pow_right (by decide) h) (by decide))
theorem Qps{a:List Nat}(hw:Wd a):blen (val a)≤32*a.length:=by by_cases h:val a=0;rw[h,Qel];omega;have h1:=Qkn h;have h2:=Vv hw;rw[Qjm] at h2;have h3:=(Nat.pow_lt_pow_iff_right (show 1<2 by decide)).1 (Nat.lt_of_le_of_lt h1 h2);omega
theorem Qvh{n:Nat}{a b:List Nat}(hn:big≤n)(ha:a.length<17592186044410)(hb:b.length<17592186044410)(hwa:Wd a)(hwb:Wd b)(h0:val b≠0):
 Yj n a b=some (toL (val a / val b),toL (val a%val b)):=by
 unfold Yj;have hbl:=Qps hwa;have hbb:=Vv hwb;have hva:=Vv hwa;rw[w64 (x:=(b.length:Int)+1) (by omega) (by omega),show((b.length:Int)+1)=((b.length+1:Nat):Int) by omega,Qcz (by omega) (by omega),sbind,Qcz (by omega) (by omega),sbind,Qvg hn (by omega) hwa,sbind,w64 (by omega) (by omega)]
 refine Xx (λs=>(s.2.2+1).toNat) (λs=>∃ k:Nat,s.2.2=(k:Int) - 1∧k≤blen (val a)∧s.1.length=a.length∧s.2.1.length=b.length+1∧Wd s.1∧Wd s.2.1∧val s.2.1<val b∧val a / 2 ^ k=val s.1*val b+val s.2.1)
  (λt=>t.1.length=a.length∧t.2.length=b.length+1∧Wd t.1∧Wd t.2∧val t.2<val b∧val a=val t.1*val b+val t.2) ⟨blen (val a),rfl,Nat.le_refl _,by simp,by simp,Qh9 (by decide),Qh9 (by decide),by simp only[];rw[Qbr];omega,by simp only[];rw[Qbr,Qbr,Nat.div_eq_of_lt Qn2];simp⟩ (by simp only[];unfold big at hn;omega) ?_ ?_
 rintro⟨q,r,i⟩ ⟨k,h1,h2,h3,h4,h5,h6,h7,h8⟩;simp only at h1 h3 h4 h5 h6 h7 h8;subst h1;simp only[jn_eq,sbind];by_cases hk:0<k;left;obtain⟨j,rfl⟩:∃ j,k=j+1:=⟨k - 1,by omega⟩
 have hd:Int.tdiv (j:Int) 32=((j / 32:Nat):Int):=rfl;have hm:Int.tmod (j:Int) 32=((j%32:Nat):Int):=rfl;have hq:j / 32<a.length:=by omega
 have hp:(1*2 ^ min (Int.toNat ((j%32:Nat):Int)) 32)%4294967296=2 ^ (j%32):=Qy7 (Nat.mod_lt _ (by decide));have hbit:=Q0j hwa (j / 32) (j%32) (Nat.mod_lt _ (by decide));rw[show 32*(j / 32)+j%32=j by omega,show a.getD (j / 32) 0=a[j / 32] by simp[hq]] at hbit;have hp0:0<2 ^ (j%32):=Nat.two_pow_pos _;obtain⟨r2,c1,d1,d2,d3,d4⟩:=Qj7 (b:=decide (a[j / 32] / 2 ^ (j%32)%2=1)) hn (show r.length<17592186044416 by omega) h6;obtain⟨q2,c2,e1,e2,e3,e4⟩:=Qj7 (b:=false) hn (show q.length<17592186044416 by omega) h5;have hhb:=Q4n (val a) j;have ht:(decide (a[j / 32] / 2 ^ (j%32)%2=1)).toNat=val a / 2 ^ j%2:=by
  rw[hbit];generalize a[j / 32] / 2 ^ (j%32)=z;by_cases g:z%2=1;rw[decide_eq_true g,g];rfl;rw[decide_eq_false g];simp only[Bool.toNat_false];omega
 rw[ht] at d4;have ht2:val a / 2 ^ j%2<2:=Nat.mod_lt _ (by decide);have hAle:val a / 2 ^ j≤val a:=Nat.div_le_self _ _;generalize hA:val a / 2 ^ j=A at *;generalize hA2:val a / 2 ^ (j+1)=A2 at *;generalize A%2=t at *;have hqb:val q≤val q*val b:=Nat.le_mul_of_pos_right _ (by omega);have c1z:c1=0:=by rw[h4,Kl] at d4;refine Qwd (P:=bp b.length*4294967296) (x:=2*val r+t) (by omega) ?_;omega
 have c2z:c2=0:=by rw[h3] at e4;refine Qwd (P:=bp a.length) (x:=2*val q+0) (by simp only[Bool.toNat_false] at e4;omega) (by omega)
 subst c1z c2z;simp only[Nat.mul_zero,Nat.add_zero,Bool.toNat_false] at d4 e4;simp only[show((j+1:Nat):Int) - 1=(j:Nat) by omega,hd,hm,w64 (x:=((j / 32:Nat):Int)) (by omega) (by omega),hp];rw[decide_eq_true (show(0:Int)≤(j:Int) by omega),bifT,Y2 hq,sbind,grd_t (decide_eq_true (Int.natCast_nonneg _)),sbind,grd_t (bne_iff_ne.2 (by omega)),sbind,d1,sbind,e1,sbind,Qiz hn (by omega) (by omega) d3 hwb,sbind,bifd];by_cases hge:val b≤val r2;rw[if_pos (Q0k.2 hge)];obtain⟨r3,l1,l2,l3,l4⟩:=Qmk (p:=[]) (q:=[]) hn (by simp;omega) (show b.length≤r2.length by omega) d3 hwb hge;simp only[List.nil_append,List.append_nil,List.length_nil] at l1;rw[l1,sbind];cases q2 with
 | nil=>simp at e2;omega
 | cons x t2=>
   obtain⟨x1,x2⟩:=Jk.1 e3;have hv:val (x::t2)=x+4294967296*val t2:=rfl;rw[hv] at e4;rw[show getI (x::t2) 0=some x from rfl,sbind,sbind,show(x::t2).set (Int.toNat 0) ((x+1)%4294967296)=(x+1)%4294967296::t2 from rfl,w64 (by omega) (by omega)];have hx:(x+1)%4294967296=x+1:=by omega
   rw[hx];refine⟨_,rfl,⟨j,rfl,by omega,by simpa [h3] using e2,by simp only[];omega,Jk.2 ⟨by omega,x2⟩,l3,by simp only[];omega,?_⟩,by simp only[];omega⟩;simp only[];rw[hA];exact Q3g hhb h8 e4 d4 (by simp only[val];omega) l4 hge
 rw[if_neg (λh=>hge (Q0k.1 h)),w64 (by omega) (by omega)];refine⟨_,rfl,⟨j,rfl,by omega,by simp only[];omega,by simp only[];omega,e3,d3,by simp only[];omega,?_⟩,by simp only[];omega⟩;simp only[];rw[hA];exact Q3f hhb h8 e4 d4;right;obtain rfl:k=0:=by omega
 rw[decide_eq_false (by omega),bifF];rw[Nat.pow_zero,Nat.div_one] at h8;exact⟨_,rfl,h3,h4,h5,h6,h7,h8⟩;rintro⟨q,r⟩ ⟨h1,h2,h3,h4,h5,h6⟩;simp only at h1 h2 h3 h4 h5 h6;obtain⟨e1,e2⟩:=Q3e h6 h5;simp only[];rw[Vh hn (by omega),sbind,Vh hn (by omega),sbind,←Jn h3,←Jn h4,←e1,←e2]
theorem Q4o{x c y:Nat}(h:x=2 ^ c*y)(h2:y%2=0):x=2 ^ (c+1)*(y / 2):=by rw[Nat.pow_succ,Nat.mul_assoc,h];congr 1;omega
theorem Q3h{x c y k:Nat}(h:x=2 ^ c*y)(h0:y≠0)(hx:x<2 ^ k):c<k:=by have h1:2 ^ c*1≤2 ^ c*y:=Nat.mul_le_mul_left _ (by omega);exact(Nat.pow_lt_pow_iff_right (show 1<2 by decide)).1 (show 2 ^ c<2 ^ k by omega)
theorem Qsm{n x:Nat}(hn:big≤n)(h0:x≠0)(hx:x<4294967296):∃ z o:Nat,Wj n x=some (z:Int)∧z<32∧x=2 ^ z*o∧o%2=1:=by
 have hx2:x<2 ^ 32:=hx;have key:∃ r:Int,Wj n x=some r∧∃ z o:Nat,r=z∧z<32∧x=2 ^ z*o∧o%2=1:=by unfold Wj;rw[bifd,if_neg h0];refine Qba (λs=>s.1) (λs=>∃ c:Nat,s.2=c∧x=2 ^ c*s.1∧s.1≠0) (λt=>∃ z o:Nat,t=z∧z<32∧x=2 ^ z*o∧o%2=1) ⟨0,rfl,by simp,h0⟩ (by simp only[];unfold big at hn;omega) ?_ ?_;rintro⟨y,i⟩ ⟨c,h1,h2,h3⟩;simp only at h1 h2 h3;subst h1;have hc:=Q3h h2 h3 hx2;simp only[bifd];by_cases h:y%2=0;left;rw[if_pos h,w1 (by omega)];exact⟨_,rfl,⟨c+1,rfl,Q4o h2 h,by simp only[];omega⟩,by simp only[];omega⟩;right;rw[if_neg h];exact⟨_,rfl,c,y,rfl,hc,h2,by omega⟩;rintro t ⟨z,o,rfl,h1,h2,h3⟩;exact⟨_,rfl,z,o,rfl,h1,h2,h3⟩
 obtain⟨r,h1,z,o,rfl,h2,h3,h4⟩:=key;exact⟨z,o,h1,h2,h3,h4⟩
theorem Qn9(a:List Nat):W5 a=some (decide (a=[1])):=by
 unfold W5;simp only[jn_eq,bifd]
 match a with
 | []=>rfl
 | [x]=>rw[if_pos (show(([x]:List Nat).length:Int)=1 from rfl)];exact congrArg some (decide_eq_decide.2 (by simp))
 | x::y::t=>rw[if_neg (by simp;omega)];simp
theorem mid2{α:Type}(l:List α)(x y:α)(r:List α):l++x::y::r=(l++[x])++y::r:=by simp
theorem Q3i{a a' V z:Nat}(hz:z<32)(ha:a<4294967296)(ha':a'<4294967296):
 (a+4294967296*(a'+4294967296*V)) / 2 ^ z=((a'*4294967296)%18446744073709551616+a)%18446744073709551616 / 2 ^ (min z 64)%4294967296+4294967296*((a'+4294967296*V) / 2 ^ z):=by
 rw[Nat.mod_eq_of_lt (show a'*4294967296<18446744073709551616 by omega),Nat.mod_eq_of_lt (show a'*4294967296+a<18446744073709551616 by omega),Nat.min_eq_left (by omega)];have h1:(a+4294967296*(a'+4294967296*V)) / 2 ^ z / 4294967296=(a'+4294967296*V) / 2 ^ z:=by rw[Nat.div_div_eq_div_mul,Nat.mul_comm (2 ^ z) 4294967296,←Nat.div_div_eq_div_mul];congr 1;omega
 have h2:(a+4294967296*(a'+4294967296*V)) / 2 ^ z%4294967296=(a'*4294967296+a) / 2 ^ z%4294967296:=by
  have e:(4294967296:Nat)=2 ^ z*2 ^ (32 - z):=by rw[←Nat.pow_add,show z+(32 - z)=32 by omega]
  have e2:a+4294967296*(a'+4294967296*V)=(a'*4294967296+a)+2 ^ z*(4294967296*(2 ^ (32 - z)*V)):=by rw[Nat.mul_left_comm (2 ^ z),←Nat.mul_assoc (2 ^ z),←e];omega
  rw[e2,Nat.add_mul_div_left _ _ (Nat.two_pow_pos z),Nat.add_mul_mod_self_left]
 rw[←h1,←h2];omega
theorem Qgm{a:List Nat}{k:Nat}(h:k<a.length):val (a.drop k)=a[k]+4294967296*val (a.drop (k+1)):=by rw[List.drop_eq_getElem_cons h];rfl
theorem Qw4{a:List Nat}{k:Nat}:val (a.drop k)=a.getD k 0+4294967296*val (a.drop (k+1)):=by by_cases h:k<a.length;rw[Qgm h];simp[h];rw[List.drop_of_length_le (by omega),List.drop_of_length_le (by omega)];simp[val,List.getElem?_eq_none (show a.length≤k by omega)]
theorem Q3j(P w V2 V V1 A:Nat)(e:V=w+4294967296*V2)(h:V1+P*V=A):V1+P*w+P*4294967296*V2=A:=by grind
theorem Qt0{n z:Nat}{p a q:List Nat}(hn:big≤n)(hl:p.length+a.length+q.length<17592186044416)(hwa:Wd a)(hz:z<32):
 ∃ r k,Wy n (p++a++q) p.length a.length (z:Int)=some (p.length,k,p++r++q)∧r.length=a.length∧Wd r∧k≤r.length∧r.take k=toL (val a / 2 ^ z):=by
 have key:∃ w,Wy n (p++a++q) p.length a.length (z:Int)=some w∧∃ r k,w=(p.length,k,p++r++q)∧r.length=a.length∧Wd r∧k≤r.length∧r.take k=toL (val a / 2 ^ z):=by
  unfold Wy
  refine Qba (λs=>a.length - s.2.toNat) (λs=>∃(k:Nat) (o:List Nat),s.2=k∧k≤a.length∧s.1=p++o++(a.drop k++q)∧o.length=k∧Wd o∧val o+bp k*(val (a.drop k) / 2 ^ z)=val a / 2 ^ z)
   (λt=>∃ o,t=p++o++q∧o.length=a.length∧Wd o∧val o=val a / 2 ^ z) ⟨0,[],rfl,by omega,by simp,rfl,Kf,by simp[val,Xp]⟩ (by simp only[];unfold big at hn;omega) ?_ ?_
  rintro⟨w,i⟩ ⟨k,o,h1,h2,h3,h4,h5,h6⟩;simp only at h1 h3 h6;subst h1 h3;simp only[bifd,jn_eq,sbind];by_cases hk:k<a.length;left;have hx:=Xh hwa hk;have hy:=Qe1 hwa (k+1);have hdw:=Q3i (V:=val (a.drop (k+1+1))) hz hx hy;have hget:∀(K:Nat->Option (Lp (List Nat×Int) (List Nat))),(if wrap64 ((k:Int)+1)<(a.length:Int) then (grd (winS (wrap64 ((k:Int)+1)) a.length)).bind λ_=>(getI (p++o++(a.drop k++q)) ((p.length:Int)+wrap64 ((k:Int)+1))).bind λy48=>K y48 else K 0)=K (a.getD (k+1) 0):=by
   intro K;rw[w1 (by omega)];by_cases hk1:k+1<a.length;rw[if_pos (by omega),Qgr hk1,sbind,show((p.length:Int)+((k+1:Nat):Int))=((p.length+k+1:Nat):Int) by omega,List.drop_eq_getElem_cons hk,List.drop_eq_getElem_cons hk1,List.cons_append,List.cons_append,mid2,Kk (by simp;omega),sbind];simp[hk1];rw[if_neg (by omega)];simp[List.getElem?_eq_none (show a.length≤k+1 by omega)]
  rw[if_pos (by omega),hget (λs47=>(grd (winS (k:Int) a.length)).bind λ_=>(getI (p++o++(a.drop k++q)) ((p.length:Int)+(k:Int))).bind λy51=>(grd (decide (0≤(z:Int)))).bind λ_=>(grd (winS (k:Int) a.length)).bind λ_=>(getI (p++o++(a.drop k++q)) ((p.length:Int)+(k:Int))).bind λ_=>some (Lp.go ((p++o++(a.drop k++q)).set (Int.toNat ((p.length:Int)+(k:Int))) (((s47*4294967296)%18446744073709551616+y51)%18446744073709551616 / 2 ^ (min (Int.toNat (z:Int)) 64)%4294967296),wrap64 ((k:Int)+1))))];rw[Qgr hk,sbind,show((p.length:Int)+(k:Int))=((p.length+k:Nat):Int) by omega,List.drop_eq_getElem_cons hk,List.cons_append,Kk (by simp;omega),sbind,grd_t (decide_eq_true (Int.natCast_nonneg _)),sbind,sbind,sbind,Vx (by simp;omega),w1 (by omega),Int.toNat_natCast];have hwl:(a.getD (k+1) 0*4294967296%18446744073709551616+a[k])%18446744073709551616 / 2 ^ min z 64%4294967296<4294967296:=Nat.mod_lt _ (by decide);generalize (a.getD (k+1) 0*4294967296%18446744073709551616+a[k])%18446744073709551616 / 2 ^ min z 64%4294967296=w at hdw hwl ⊢;refine⟨_,rfl,⟨k+1,o++[w],rfl,by omega,by simp,by simp[h4],Ji.2 ⟨h5,Jk.2 ⟨hwl,Kf⟩⟩,?_⟩,by simp only[];omega⟩;rw[Jw,h4,Kl];refine Q3j _ _ _ _ _ _ ?_ h6;rw[Qgm hk,Qw4 (k:=k+1)];exact hdw;right;obtain rfl:k=a.length:=by omega
  rw[if_neg (by omega)];rw[List.drop_of_length_le (Nat.le_refl _)] at h6;exact⟨_,rfl,o,by simp,h4,h5,by simpa [val] using h6⟩;rintro t ⟨o,rfl,h1,h2,h3⟩;refine Qba (λs=>s.2) (λs=>s.1=p.length∧s.2≤o.length∧trimZ o=trimZ (o.take s.2)) (λt=>t.1=p.length∧t.2≤o.length∧trimZ o=o.take t.2) ⟨rfl,by simp only[];omega,by simp only[];rw[←h1,List.take_length]⟩ (by simp only[];unfold big at hn;omega) ?_ ?_;rintro⟨s1,k⟩ ⟨rfl,g2,g3⟩;simp only at g2 g3;simp only[jn_eq,bifd];by_cases h0:0<k;obtain⟨j,rfl⟩:∃ j,k=j+1:=⟨k - 1,by omega⟩
  have hj:j<o.length:=by omega
  rw[J8 hj] at g3;rw[if_pos (by omega),w64 (by omega) (by omega),show((j+1:Nat):Int) - 1=(j:Nat) by omega,Qgr (by omega),sbind,show((p.length:Int)+(j:Int))=((p.length+j:Nat):Int) by omega];have hg:getI (p++o++q) ((p.length+j:Nat):Int)=some o[j]:=by rw[Qg4,List.append_assoc,List.getElem?_append_right (by omega),Nat.add_sub_cancel_left,List.getElem?_append_left hj,List.getElem?_eq_getElem hj]
  rw[hg,sbind];by_cases hz0:o[j]=0;left;rw[if_pos hz0,grd_t (by unfold winC;simp;omega),sbind];exact⟨_,rfl,⟨by simp,by simp only[];omega,by simp only[];rw[g3,hz0,Qnd];simp⟩,by simp only[];omega⟩;right;rw[if_neg hz0];exact⟨_,rfl,rfl,g2,by simp only[];rw[g3,J8 hj,Qtk _ hz0]⟩;right;obtain rfl:k=0:=by omega
  rw[if_neg (by omega),bifF];exact⟨_,rfl,rfl,by simp only[];omega,by simp only[];rw[g3];simp[trimZ]⟩;rintro⟨s1,k⟩ ⟨rfl,g2,g3⟩;simp only at g2 g3;exact⟨_,rfl,o,k,rfl,h1,h2,g2,by rw[←g3,←Jn h2,h3]⟩
 obtain⟨w,h1,r,k,rfl,h2⟩:=key;exact⟨r,k,h1,h2⟩
def Win(X:List Nat)(o l:Nat)(b:List Nat):Prop:=∃ p q,X=p++b++q∧p.length=o∧b.length=l
theorem Qrg{X:List Nat}{o l:Nat}{b:List Nat}(h:Win X o l b):subW X o l=some b:=by obtain⟨p,q,rfl,rfl,rfl⟩:=h;unfold subW;rw[if_pos (by simp)];simp
theorem Q0l(b:List Nat):Win b 0 b.length b:=⟨[],[],by simp,rfl,rfl⟩
theorem oddw{w z o R:Nat}(hz:z<32)(e:w=2 ^ z*o)(ho:o%2=1):(w+4294967296*R) / 2 ^ z%2=1∧w+4294967296*R=2 ^ z*((w+4294967296*R) / 2 ^ z):=by
 have e2:(4294967296:Nat)=2 ^ z*(2*2 ^ (31 - z)):=by rw[←Nat.mul_assoc,Nat.mul_comm (2 ^ z) 2,Nat.mul_assoc,←Nat.pow_add,show z+(31 - z)=31 by omega]
 have e3:w+4294967296*R=2 ^ z*(o+2*(2 ^ (31 - z)*R)):=by rw[Nat.mul_add,←e,←Nat.mul_assoc 2,←Nat.mul_assoc (2 ^ z),←e2]
 rw[e3,Nat.mul_div_cancel_left _ (Nat.two_pow_pos z)];exact⟨by omega,rfl⟩
theorem Qi0{n o l:Nat}{X a:List Nat}(hn:big≤n)(hX:X.length<17592186044416)(hw:Win X o l a)(hwa:Wd a)(h0:val a≠0):
 ∃ o' l' t X',K1 n X o l=some (o',l',((t:Nat):Int),X')∧X'.length=X.length∧∃ u,val a=2 ^ t*u∧u%2=1∧Win X' o' l' (toL u)∧t≤32*a.length:=by
 obtain⟨p,q,rfl,rfl,rfl⟩:=hw;have key:∃ w,K1 n (p++a++q) p.length a.length=some w∧∃ o' l' t X',w=(o',l',((t:Nat):Int),X')∧X'.length=(p++a++q).length∧∃ u,val a=2 ^ t*u∧u%2=1∧Win X' o' l' (toL u)∧t≤32*a.length:=by
  unfold K1;simp only[List.length_append] at hX;have hlt:∀ j,val a=bp j*val (a.drop j)->j<a.length:=by intro j hj;rcases Nat.lt_or_ge j a.length with h | h;exact h;rw[List.drop_of_length_le h] at hj;exact absurd hj (by simpa [val] using h0)
  refine Qba (λs=>s.2.1) (λs=>∃ j:Nat,s.1=p.length+j∧s.2.1=a.length - j∧s.2.2=((32*j:Nat):Int)∧val a=bp j*val (a.drop j))
   (λs=>∃ j:Nat,s.1=p.length+j∧s.2.1=a.length - j∧s.2.2=((32*j:Nat):Int)∧val a=bp j*val (a.drop j)∧a.getD j 0≠0) ⟨0,rfl,rfl,rfl,by rw[Xp];simp⟩ (by simp only[];unfold big at hn;omega) ?_ ?_
  rintro⟨s1,s2,s3⟩ ⟨j,rfl,rfl,rfl,h4⟩;have hj:=hlt j h4;have hg:getI (p++a++q) (((p.length+j:Nat):Int)+0)=some a[j]:=by rw[show(((p.length+j:Nat):Int)+0)=((p.length+j:Nat):Int) by omega,Qg4,List.append_assoc,List.getElem?_append_right (by omega),Nat.add_sub_cancel_left,List.getElem?_append_left hj,List.getElem?_eq_getElem hj]
  simp only[bifd];rw[show(0:Int)=((0:Nat):Int) from rfl,Qgr (by omega),sbind,show((0:Nat):Int)=0 from rfl,hg,sbind];by_cases hz:a[j]=0;left;rw[if_pos hz,grd_t (by unfold winC;simp;omega),sbind,w64 (by omega) (by omega)];refine⟨_,rfl,⟨j+1,by simp only[];omega,by simp only[];omega,by simp only[];omega,?_⟩,by simp only[];omega⟩;rw[h4,Qgm hj,hz,Kl,Nat.zero_add,Nat.mul_assoc];right;rw[if_neg hz];exact⟨_,rfl,j,rfl,rfl,rfl,h4,by simpa [hj] using hz⟩;rintro⟨s1,s2,s3⟩ ⟨j,rfl,rfl,rfl,h4,h5⟩;have hj:=hlt j h4;have hg:getI (p++a++q) (((p.length+j:Nat):Int)+0)=some a[j]:=by
   rw[show(((p.length+j:Nat):Int)+0)=((p.length+j:Nat):Int) by omega,Qg4,List.append_assoc,List.getElem?_append_right (by omega),Nat.add_sub_cancel_left,List.getElem?_append_left hj,List.getElem?_eq_getElem hj]
  have hx:=Xh hwa hj;have hz0:a[j]≠0:=by simpa [hj] using h5
  obtain⟨z,od,z1,z2,z3,z4⟩:=Qsm hn hz0 hx;simp only[];rw[show(0:Int)=((0:Nat):Int) from rfl,Qgr (by omega),sbind,show((0:Nat):Int)=0 from rfl,hg,sbind,z1,sbind];have hsp:p++a++q=(p++a.take j)++a.drop j++q:=by simp
  have hpl:(p++a.take j).length=p.length+j:=by simp;omega
  have hal:(a.drop j).length=a.length - j:=by simp
  obtain⟨r,k,d1,d2,d3,d4,d5⟩:=Qt0 (p:=p++a.take j) (a:=a.drop j) (q:=q) hn (by rw[hpl,hal];omega) (Qg5 hwa) z2;rw[hpl,hal,←hsp] at d1;rw[d1,sbind,w64 (by omega) (by omega)];obtain⟨w1,w2⟩:=oddw (R:=val (a.drop (j+1))) z2 z3 z4;rw[←Qgm hj] at w1 w2;refine⟨_,rfl,p.length+j,k,32*j+z,p++a.take j++r++q,by simp,by simp;omega,val (a.drop j) / 2 ^ z,?_,w1,?_,by omega⟩;rw[Nat.pow_add,←Qjm,Nat.mul_assoc,←w2];exact h4;refine⟨p++a.take j,r.drop k++q,?_,hpl,?_⟩;rw[←d5];simp only[List.append_assoc];rw[←List.append_assoc (r.take k),List.take_append_drop];rw[←d5,List.length_take,Nat.min_eq_left (by omega)]
 obtain⟨w,h1,o',l',t,X',rfl,h2⟩:=key;exact⟨o',l',t,X',h1,h2⟩
theorem Qrr{n t:Nat}{a:List Nat}(hn:big≤n)(hl:a.length<1099511627776)(ht:t<35184372088832)(hwa:Wd a):Xf n a (t:Int)=some (toL (2 ^ t*val a)):=by unfold Xf;have hd:Int.tdiv (t:Int) 32=((t / 32:Nat):Int):=rfl;have hm:Int.tmod (t:Int) 32=((t%32:Nat):Int):=rfl;have hp:(1*2 ^ min (Int.toNat ((t%32:Nat):Int)) 32)%4294967296=2 ^ (t%32):=Qy7 (Nat.mod_lt _ (by decide));have hb:2 ^ (t%32)<4294967296:=Nat.lt_of_lt_of_le (Nat.pow_lt_pow_right (by decide) (Nat.mod_lt t (show 0<32 by decide))) (by decide);rw[hd,hm,w64 (by omega) (by omega),Qcz (by omega) (by omega),sbind,Xy (by simp;omega) (by simp;omega),sbind,grd_t (decide_eq_true (Int.natCast_nonneg _)),sbind,hp,sbind,Qaf hn (by simp;omega) (by simp) (Ji.2 ⟨Qh9 (by decide),hwa⟩) (Jk.2 ⟨hb,Kf⟩),sbind,Vk,Qbr,List.length_replicate,Qjm,Nat.zero_add];congr 2;simp only[val,Nat.mul_zero,Nat.add_zero];rw[Nat.mul_assoc,Nat.mul_comm (val a),←Nat.mul_assoc,←Nat.pow_add,show 32*(t / 32)+t%32=t by omega]
theorem Qvi{u t:Nat}(h:u%2=1):Nat.Coprime (2 ^ t) u:=Nat.Coprime.pow_left t (by
 have:Nat.gcd 2 u=1:=by rw[Nat.gcd_rec,h];rfl
 exact this)
theorem Q5q{m k u v:Nat}(hu:u%2=1)(hv:v%2=1):Nat.gcd (2 ^ m*u) (2 ^ k*v)=2 ^ (min m k)*Nat.gcd u v:=by by_cases h:m≤k;rw[Nat.min_eq_left h,show k=m+(k - m) by omega,Nat.pow_add,Nat.mul_assoc,Nat.gcd_mul_left,Nat.Coprime.gcd_mul_left_cancel_right _ (Qvi hu)];rw[Nat.min_eq_right (by omega),show m=k+(m - k) by omega,Nat.pow_add,Nat.mul_assoc,Nat.gcd_mul_left,Nat.Coprime.gcd_mul_left_cancel _ (Qvi hv)]
theorem Qr7{x k:Nat}(h:x<2 ^ k):blen x≤k:=by by_cases h0:x=0;rw[h0,Qel];omega;have h1:=Qkn h0;have:=(Nat.pow_lt_pow_iff_right (show 1<2 by decide)).1 (Nat.lt_of_le_of_lt h1 h);omega
theorem Q3k{x y t:Nat}(h:x=2 ^ t*y)(ht:t≠0)(h0:x≠0):blen y<blen x:=by
 have h1:=Qn2 (x:=x);have hp:=Qpc h0;obtain⟨k,hk⟩:∃ k,blen x=k+1:=⟨_,(Nat.sub_add_cancel hp).symm⟩
 rw[hk] at h1 ⊢;have h2:y<2 ^ k:=by
  obtain⟨s,rfl⟩:∃ s,t=s+1:=⟨t - 1,by omega⟩
  rw[Nat.pow_succ] at h h1;have h3:1*y≤2 ^ s*y:=Nat.mul_le_mul_right _ (Nat.two_pow_pos s);have h4:x=2*(2 ^ s*y):=by rw[h,Nat.mul_comm (2 ^ s) 2,Nat.mul_assoc]
  omega
 have:=Qr7 h2;omega
theorem Q3l{x y:Nat}(h:x≤y):blen x≤blen y:=Qr7 (Nat.lt_of_le_of_lt h Qn2)
theorem Qwe{v:Nat}:blen v≤32*(toL v).length:=by have:=Qps (Q1 v);rwa [Qt] at this
theorem Qoa{X:List Nat}{o l:Nat}{b:List Nat}(h:Win X o l b):b.length≤X.length∧b.length=l:=by obtain⟨p,q,rfl,rfl,rfl⟩:=h;exact⟨by simp;omega,rfl⟩
def wval(X:List Nat)(o l:Nat):Nat:=val ((subW X o l).getD [])
theorem Qkq{X:List Nat}{o l u:Nat}(h:Win X o l (toL u)):wval X o l=u:=by unfold wval;rw[Qrg h,Option.getD_some,Qt]
theorem Q5r{u v:Nat}(hu:u%2=1)(hv:v%2=1)(h:v<u):(u - v)≠0∧(u - v)%2=0:=by omega
theorem Qic{a:List Nat}(hw:Wd a):(trimZ a).length=0↔val a=0:=by rw[←Qq1 hw];constructor;intro h;exact List.eq_nil_of_length_eq_zero h;intro h;rw[h];rfl
set_option maxHeartbeats 1000000 in
theorem Qvj{n:Nat}{a b:List Nat}(hn:big≤n)(ha:a.length<1099511627776)(hb:b.length<1099511627776)(hwa:Wd a)(hwb:Wd b):Yg n a b=some (toL (Nat.gcd (val a) (val b))):=by
 unfold Yg;have la:=Wv a;have lb:=Wv b;rw[Vh hn (by omega),sbind,Vh hn (by omega),sbind];by_cases h0:val a=0;have:=(Qic hwa).2 h0;rw[decide_eq_true (by omega),bifT,h0,Nat.gcd_zero_left,Jn hwb];rw[decide_eq_false (λh=>h0 ((Qic hwa).1 (by omega))),bifF];by_cases h0':val b=0;have:=(Qic hwb).2 h0';rw[decide_eq_true (by omega),bifT,h0',Nat.gcd_zero_right,Jn hwa];rw[decide_eq_false (λh=>h0' ((Qic hwb).1 (by omega))),bifF];obtain⟨o1,l1,t1,X1,e1,e2,u,e3,e4,e5,e6⟩:=Qi0 hn (show(trimZ a).length<_ by omega) (Q0l _) (Qyq hwa) (by rw[Qme];exact h0);obtain⟨o2,l2,t2,X2,f1,f2,v,f3,f4,f5,f6⟩:=Qi0 hn (show(trimZ b).length<_ by omega) (Q0l _) (Qyq hwb) (by rw[Qme];exact h0');rw[Qme] at e3 f3;rw[e1,sbind,f1,sbind,e3,f3,Q5q e4 f4];simp only[];have i1:=Qoa e5;have i2:=Qoa f5;have j1:=@Qwe u;have j2:=@Qwe v;have k1:=Qf8 (v:=u)
 refine Xx (λs=>blen (wval s.1 s.2.1 s.2.2.1)+blen (wval s.2.2.2.1 s.2.2.2.2.1 s.2.2.2.2.2))
  (λs=>∃ x y:Nat,Win s.1 s.2.1 s.2.2.1 (toL x)∧Win s.2.2.2.1 s.2.2.2.2.1 s.2.2.2.2.2 (toL y)∧x%2=1∧y%2=1∧Nat.gcd x y=Nat.gcd u v∧s.1.length<1099511627776∧s.2.2.2.1.length<1099511627776)
  (λt=>Win t.1 t.2.1 t.2.2 (toL (Nat.gcd u v))∧t.1.length<1099511627776) ⟨u,v,e5,f5,e4,f4,rfl,by simp only[];omega,by simp only[];omega⟩ (by simp only[];rw[Qkq e5,Qkq f5];unfold big at hn;omega) ?_ ?_
 have round:∀(X:List Nat) (o l:Nat) (Y:List Nat) (o' l' x y:Nat),Win X o l (toL x)->Win Y o' l' (toL y)->x%2=1->y%2=1->Nat.gcd x y=Nat.gcd u v->X.length<1099511627776->Y.length<1099511627776->y<x →
  ∃ s':List Nat×Nat×Nat×List Nat×Nat×Nat,((some (toL y)).bind λy53=>(Vc n X o l y53).bind λr55=>(K1 n r55 o l).bind λr57=>some (Lp.go (σ:=List Nat×Nat×Nat×List Nat×Nat×Nat) (τ:=List Nat×Nat×Nat) (r57.2.2.2,r57.1,r57.2.1,Y,o',l')))=some (.go s') ∧
    (∃ x y:Nat,Win s'.1 s'.2.1 s'.2.2.1 (toL x)∧Win s'.2.2.2.1 s'.2.2.2.2.1 s'.2.2.2.2.2 (toL y)∧x%2=1∧y%2=1∧Nat.gcd x y=Nat.gcd u v∧s'.1.length<1099511627776∧s'.2.2.2.1.length<1099511627776) ∧
    blen (wval s'.1 s'.2.1 s'.2.2.1)+blen (wval s'.2.2.2.1 s'.2.2.2.2.1 s'.2.2.2.2.2)<blen x+blen y:=by
  intro X o l Y o' l' x y hX hY hx hy hg lX lY hlt;obtain⟨p,q,rfl,rfl,rfl⟩:=hX;obtain⟨r,g1,g2,g3,g4⟩:=Qmk (p:=p) (a:=toL x) (q:=q) (b:=toL y) hn (by simp at lX;omega) (V6 (by omega)) (Q1 _) (Q1 _) (by rw[Qt,Qt];omega);rw[Qt,Qt] at g4;obtain⟨s1,s2⟩:=Q5r hx hy hlt;obtain⟨o3,l3,t3,X3,h1,h2,w,h3,h4,h5,h6⟩:=Qi0 (X:=p++r++q) (o:=p.length) (l:=(toL x).length) (a:=r) hn (by simp[g2];simp at lX;omega) ⟨p,q,rfl,rfl,g2⟩ g3 (by rw[g4];exact s1);rw[g4] at h3;have ht:t3≠0:=by rintro rfl;rw[Nat.pow_zero,Nat.one_mul] at h3;omega
  refine⟨(X3,o3,l3,Y,o',l'),by rw[sbind,g1,sbind,h1,sbind],⟨w,y,h5,hY,h4,hy,?_,?_,lY⟩,?_⟩;rw[←hg,←Nat.Coprime.gcd_mul_left_cancel (k:=2 ^ t3) w (Qvi hy),←h3,Nat.gcd_sub_self_left (by omega)];rw[h2];simp[g2];simp at lX;omega;simp only[];rw[Qkq h5,Qkq hY];have c1:=Q3k h3 ht s1;have c2:=Q3l (Nat.sub_le x y);omega
 rintro⟨X,o,l,Y,o',l'⟩ ⟨x,y,w1,w2,hx,hy,hg,lX,lY⟩;simp only at w1 w2 lX lY;have i3:=Qoa w1;have i4:=Qoa w2;simp only[jn_eq];rw[Qrg w1,sbind,Qrg w2,sbind,Qiz hn (by omega) (by omega) (Q1 _) (Q1 _),sbind,Qt,Qt,Qkq w1,Qkq w2,bifd,bifd];unfold cmpI;by_cases c1:x<y;left;rw[if_pos c1,if_neg (by decide),if_pos (by decide)];obtain⟨s',r1,r2,r3⟩:=round Y o' l' X o l y x w2 w1 hy hx (by rw[Nat.gcd_comm];exact hg) lY lX c1;exact⟨s',r1,r2,by omega⟩;rw[if_neg c1];by_cases c2:y<x;left;rw[if_pos c2,if_neg (by decide),if_neg (by decide)];exact round X o l Y o' l' x y w1 w2 hx hy hg lX lY c2;right;rw[if_neg c2,if_pos rfl];obtain rfl:x=y:=by omega
 refine⟨_,rfl,?_,lX⟩;rw[←hg,Nat.gcd_self];exact w1;rintro⟨X,o,l⟩ ⟨w1,lX⟩;simp only at w1 lX;have i3:=Qoa w1;simp only[];have hmin:min (t1:Int) (t2:Int)=((min t1 t2:Nat):Int):=by omega
 rw[Qrg w1,sbind,hmin,Qrr hn (by omega) (by omega) (Q1 _),sbind,Qt]
theorem Qml{n:Nat}{a g:List Nat}(hn:big≤n)(ha:a.length<1099511627776)(hb:g.length<1099511627776)(hwa:Wd a)(hwg:Wd g)(h0:val g≠0):Wz n a g=some (toL (val a / val g)):=by unfold Wz;rw[Qn9,sbind,bifd];split;rename_i h;rw[h,Vh hn (by omega),sbind,←Jn hwa];simp[val];rw[Qvh hn (by omega) (by omega) hwa hwg h0,sbind]
end Go.Proofs.YtkkfedionkhgnaaGreatDoor
