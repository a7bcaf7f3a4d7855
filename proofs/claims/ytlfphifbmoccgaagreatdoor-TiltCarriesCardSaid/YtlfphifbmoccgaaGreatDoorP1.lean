import Derived.Test.YtlfphifbmoccgaaGreatDoorMod
namespace Go.Proofs.YtlfphifbmoccgaaGreatDoor
open Go Go.RowKit
def big:Nat:=18446744073709551616
theorem w64{x:Int}(h1:-9223372036854775808≤x)(h2:x≤9223372036854775807):wrap64 x=x:=by unfold wrap64;omega
theorem bifd{α:Type}(p:Prop)[Decidable p](a b:α):(bif decide p then a else b)=if p then a else b:=by by_cases h:p<;>simp[h]
theorem bifnd{α:Type}(p:Prop)[Decidable p](a b:α):(bif !decide p then a else b)=if p then b else a:=by by_cases h:p<;>simp[h]
theorem bifT{α:Type}(a b:α):(bif true then a else b)=a:=Eq.symm (Eq.symm rfl)
theorem bifF{α:Type}(a b:α):(bif false then a else b)=b:=Eq.symm (Eq.symm rfl)
theorem jn_eq{σ ρ:Type}(A:(σ->Option ρ)->Option ρ)(k:σ->Option ρ):jn A k=A k:=Eq.symm (Eq.symm rfl)
theorem Xf{τ ρ:Type}(k:τ->Option ρ)(t:τ):lpK k (.go t)=k t:=Eq.symm (Eq.symm rfl)
theorem Zu{τ ρ:Type}(k:τ->Option ρ)(r:ρ):lpK k (.out r)=some r:=Eq.symm (Eq.symm rfl)
theorem sbind{α β:Type}(a:α)(f:α->Option β):(some a).bind f=f a:=Eq.symm (Eq.symm rfl)
theorem Qcg{α:Type}(l:List α)(i:Nat):getI l (i:Int)=l[i]?:=by simp[getI]
theorem Qa1{α:Type}{l:List α}{i:Nat}(h:i<l.length):getI l (i:Int)=some l[i]:=by rw[Qcg];simp[h]
theorem Qso(l:List UInt8)(i:Nat):getS l (i:Int)=(l[i]?).map (·.toNat):=by simp[getS]
theorem Q6t{l:List UInt8}{i:Nat}(h:i<l.length):getS l (i:Int)=some l[i].toNat:=by rw[Qso];simp[h]
theorem grd_t{b:Bool}(h:b=true):grd b=some ():=by rw[h];rfl
theorem Q6u{α:Type}{l:List α}{k:Nat}(h:k≤l.length):sub l 0 (k:Int)=some (l.take k):=by unfold sub;rw[if_pos (by omega)];simp
theorem Q73{α:Type}{l:List α}{i k:Nat}(h1:i≤k)(h:k≤l.length):sub l (i:Int) (k:Int)=some ((l.take k).drop i):=by unfold sub;rw[if_pos (by omega)];simp
theorem Vw{α:Type}{b:Nat}{l r:List α}(h:(l.length+r.length)*b≤140737488355328)(h2:l.length+r.length≤9223372036854775807):appM b l r=some (l++r):=by unfold appM;rw[if_pos ⟨h,h2⟩]
theorem Qe4{α:Type}{b:Nat}{z:α}{n:Nat}(h:n*b≤140737488355328)(h2:n≤9223372036854775807):mkM b z (n:Int)=some (List.replicate n z):=by unfold mkM;rw[if_pos (by omega)];simp
theorem Q74{l r:List UInt8}(h2:l.length+r.length≤9223372036854775807):catS l r=some (l++r):=by unfold catS;rw[if_pos h2]
theorem Qqy{σ τ:Type}{f:σ->Option (Lp σ τ)}(μ:σ->Nat)(I:σ->Prop)(Q:τ->Prop)
 (hb:∀ s,I s->(∃ s',f s=some (.go s')∧I s'∧μ s'<μ s)∨(∃ t,f s=some (.out t)∧Q t)):∀(n:Nat) (s:σ),I s->μ s<n->∃ t,loopM f n s=some t∧Q t
 | 0,_,_,h=>absurd h (Nat.not_lt_zero _)
 | n+1,s,hI,hn=>by rcases hb s hI with ⟨s',h1,h2,h3⟩ | ⟨t,h1,h2⟩;obtain⟨t,h4,h5⟩:=Qqy μ I Q hb n s' h2 (by omega);exact⟨t,by simp only[loopM,h1,Option.bind_some];exact h4,h5⟩;exact⟨t,by simp only[loopM,h1,Option.bind_some],h2⟩
theorem Y7{σ τ R:Type}{f:σ->Option (Lp σ τ)}{n:Nat}{s:σ}{k:τ->Option R}{r:R}(μ:σ->Nat)(I:σ->Prop)(Q:τ->Prop)(h0:I s)(hn:μ s<n)
 (hb:∀ s,I s->(∃ s',f s=some (.go s')∧I s'∧μ s'<μ s)∨(∃ t,f s=some (.out t)∧Q t)) (hk:∀ t,Q t->k t=some r):(loopM f n s).bind k=some r:=by
 obtain⟨t,h1,h2⟩:=Qqy μ I Q hb n s h0 hn;rw[h1,Option.bind_some];exact hk t h2
theorem Qdp{σ τ R:Type}{f:σ->Option (Lp σ τ)}{n:Nat}{s:σ}{k:τ->Option R}{P:R->Prop}(μ:σ->Nat)(I:σ->Prop)(Q:τ->Prop)(h0:I s)(hn:μ s<n)
 (hb:∀ s,I s->(∃ s',f s=some (.go s')∧I s'∧μ s'<μ s)∨(∃ t,f s=some (.out t)∧Q t)) (hk:∀ t,Q t->∃ r,k t=some r∧P r):∃ r,(loopM f n s).bind k=some r∧P r:=by
 obtain⟨t,h1,h2⟩:=Qqy μ I Q hb n s h0 hn;rw[h1,Option.bind_some];exact hk t h2
theorem Q38{σ τ R β:Type}{f:σ->Option (Lp σ τ)}{n:Nat}{s:σ}{k:τ->Option R}{g:β->R}{P:β->Prop}(μ:σ->Nat)(I:σ->Prop)(Q:τ->Prop)(h0:I s)(hn:μ s<n)
 (hb:∀ s,I s->(∃ s',f s=some (.go s')∧I s'∧μ s'<μ s)∨(∃ t,f s=some (.out t)∧Q t)) (hk:∀ t,Q t->∃ b,k t=some (g b)∧P b):∃ b,(loopM f n s).bind k=some (g b)∧P b:=by
 obtain⟨t,h1,h2⟩:=Qqy μ I Q hb n s h0 hn;rw[h1,Option.bind_some];exact hk t h2
theorem Qg7{σ τ:Type}{f:σ->Option (Lp σ τ)}{s s':σ}{n:Nat}(h:f s=some (.go s')):loopM f (n+1) s=loopM f n s':=by simp only[loopM,h,Option.bind_some]
theorem W4{σ τ:Type}{f:σ->Option (Lp σ τ)}{s:σ}{t:τ}{n:Nat}(h:f s=some (.out t))(hn:0<n):loopM f n s=some t:=by
 obtain⟨m,rfl⟩:∃ m,n=m+1:=⟨n - 1,by omega⟩
 simp only[loopM,h,Option.bind_some]
theorem Qsp{α σ τ:Type}{f:Nat->α->σ->Option (Lp σ τ)}(I:Nat->σ->Prop):∀(xs:List α) (i:Nat) (s:σ),I i s->(∀ j x s,xs[j]?=some x->I (i+j) s->∃ s',f (i+j) x s=some (.go s')∧I (i+j+1) s') →
 ∃ s',rangeL f xs i s=some (.go s')∧I (i+xs.length) s'
 | [],i,s,h,_=>⟨s,rfl,h⟩
 | x::xs,i,s,h,hb=>by
   obtain⟨s1,h1,h2⟩:=hb 0 x s rfl h;simp only[Nat.add_zero] at h1 h2
   obtain⟨s2,h3,h4⟩:=Qsp I xs (i+1) s1 h2 (λj y t hj ht=>by
    have:=hb (j+1) y t (by simpa using hj) (by rw[show i+(j+1)=i+1+j by omega];exact ht);rw[show i+(j+1)=i+1+j by omega] at this
    exact this)
   refine⟨s2,by simp only[rangeL,h1,Option.bind_some];exact h3,?_⟩;rw[List.length_cons,show i+(xs.length+1)=i+1+xs.length by omega];exact h4
theorem Qjw{α σ τ R:Type}{f:Nat->α->σ->Option (Lp σ τ)}{xs:List α}{s:σ}{k:Lp σ τ->Option R}{r:R}(I:Nat->σ->Prop)(h0:I 0 s)
 (hb:∀ j x s,xs[j]?=some x->I j s->∃ s',f j x s=some (.go s')∧I (j+1) s') (hk:∀ t,I xs.length t->k (.go t)=some r):(rangeL f xs 0 s).bind k=some r:=by
 obtain⟨s',h1,h2⟩:=Qsp I xs 0 s h0 (λj x s hj hs=>by rw[Nat.zero_add] at hs ⊢;exact hb j x s hj hs);rw[h1,Option.bind_some];exact hk s' (by simpa using h2)
theorem Qpd{α σ τ R:Type}{f:Nat->α->σ->Option (Lp σ τ)}{xs:List α}{s:σ}{k:Lp σ τ->Option R}{P:R->Prop}(I:Nat->σ->Prop)(h0:I 0 s)
 (hb:∀ j x s,xs[j]?=some x->I j s->∃ s',f j x s=some (.go s')∧I (j+1) s') (hk:∀ t,I xs.length t->∃ r,k (.go t)=some r∧P r):∃ r,(rangeL f xs 0 s).bind k=some r∧P r:=by
 obtain⟨s',h1,h2⟩:=Qsp I xs 0 s h0 (λj x s hj hs=>by rw[Nat.zero_add] at hs ⊢;exact hb j x s hj hs);rw[h1,Option.bind_some];exact hk s' (by simpa using h2)
def val:List Nat->Nat
 | []=>0
 | x::a=>x+4294967296*val a
def bp(k:Nat):Nat:=4294967296 ^ k
theorem Yo:bp 0=1:=by unfold bp;rw[Nat.pow_zero]
theorem K1(k:Nat):bp (k+1)=bp k*4294967296:=by unfold bp;rw[Nat.pow_succ]
theorem bp_le{j k:Nat}(h:j≤k):bp j≤bp k:=by unfold bp;exact Nat.pow_le_pow_right (by decide) h
theorem Q5p(k:Nat):0<bp k:=by unfold bp;exact Nat.pow_pos (by decide)
theorem Q97(j k:Nat):bp (j+k)=bp j*bp k:=by unfold bp;rw[Nat.pow_add]
def Wd(a:List Nat):Prop:=∀ x∈a,x<4294967296
def trimZ:List Nat->List Nat
 | []=>[]
 | x::a=>if trimZ a=[]∧x=0 then [] else x::trimZ a
def toL(n:Nat):List Nat:=if n=0 then [] else n%4294967296::toL (n / 4294967296)
termination_by n
decreasing_by omega
theorem K5:Wd []:=λ_ h=>by cases h
theorem Jx{x a}:Wd (x::a)↔x<4294967296∧Wd a:=by simp[Wd]
theorem Js{a b}:Wd (a++b)↔Wd a∧Wd b:=by constructor;intro h;exact⟨λx hx=>h x (List.mem_append_left _ hx),λx hx=>h x (List.mem_append_right _ hx)⟩;rintro⟨h1,h2⟩ x hx;rcases List.mem_append.1 hx with h | h;exact h1 x h;exact h2 x h
theorem Qmj{a k}(h:Wd a):Wd (a.take k):=λx hx=>h x (List.mem_of_mem_take hx)
theorem Qiw{a k}(h:Wd a):Wd (a.drop k):=λx hx=>h x (List.mem_of_mem_drop hx)
theorem Qjx{k x}(h:x<4294967296):Wd (List.replicate k x):=λy hy=>by rw[(List.mem_replicate.1 hy).2];exact h
theorem Y8{a:List Nat}(h:Wd a){i:Nat}(hi:i<a.length):a[i]<4294967296:=h _ (List.getElem_mem hi)
theorem Vx:toL 0=[]:=by rw[toL];rfl
theorem Qak{n:Nat}(h:n≠0):toL n=n%4294967296::toL (n / 4294967296):=by rw[toL];rw[if_neg h]
theorem Qt(n:Nat):val (toL n)=n:=by
 induction n using Nat.strongRecOn with
 | _ n ih=>
   by_cases h:n=0;subst h;rw[Vx];rfl;rw[Qak h];simp only[val];rw[ih (n / 4294967296) (by omega)];omega
theorem Q0(n:Nat):Wd (toL n):=by
 induction n using Nat.strongRecOn with
 | _ n ih=>
   by_cases h:n=0;subst h;rw[Vx];exact K5;rw[Qak h];exact Jx.2 ⟨by omega,ih (n / 4294967296) (by omega)⟩
theorem Jy{a:List Nat}(h:Wd a):toL (val a)=trimZ a:=by
 induction a with
 | nil=>simp[val,Vx,trimZ]
 | cons x a ih=>
   obtain⟨hx,ha⟩:=Jx.1 h;have ih:=ih ha;simp only[val,trimZ];by_cases hv:val a=0;rw[hv,Vx] at ih;rw[←ih,hv];by_cases hx0:x=0;subst hx0;simp[Vx];rw[if_neg (λh=>hx0 h.2),Qak (by omega)];rw[show(x+4294967296*0)%4294967296=x by omega,show(x+4294967296*0) / 4294967296=0 by omega,Vx];have hne:trimZ a≠[]:=by rw[←ih,Qak hv];simp
   rw[if_neg (λh=>hne h.1),Qak (by omega),show(x+4294967296*val a)%4294967296=x by omega,show(x+4294967296*val a) / 4294967296=val a by omega,ih]
theorem Qn1(a:List Nat):val (trimZ a)=val a:=by
 induction a with
 | nil=>rfl
 | cons x a ih=>
   simp only[trimZ];split;rename_i h;rw[h.1] at ih;simp[val] at ih ⊢;omega;simp[val,ih]
theorem Q1e{a:List Nat}(h:Wd a):Wd (trimZ a):=by rw[←Jy h];exact Q0 _
theorem Xv(a:List Nat):(trimZ a).length≤a.length:=by
 induction a with
 | nil=>simp[trimZ]
 | cons x a ih=>simp only[trimZ];split<;>simp;omega
theorem Qyn{a:List Nat}(h:trimZ a=[]):val a=0:=by rw[←Qn1,h];rfl
theorem Qsq{a:List Nat}(h:Wd a):trimZ a=[]↔val a=0:=by constructor;exact Qyn;intro hv;rw[←Jy h,hv,Vx]
theorem Q5q(n:Nat):trimZ (toL n)=toL n:=by rw[←Jy (Q0 n),Qt]
theorem Qpe(a:List Nat):trimZ (a++[0])=trimZ a:=by
 induction a with
 | nil=>simp[trimZ]
 | cons x a ih=>simp only[List.cons_append,trimZ,ih]
theorem Qv3(a:List Nat){x:Nat}(h:x≠0):trimZ (a++[x])=a++[x]:=by
 induction a with
 | nil=>simp[trimZ,h]
 | cons y a ih=>simp only[List.cons_append,trimZ,ih];rw[if_neg (by simp)]
theorem Wr(a b:List Nat):val (a++b)=val a+bp a.length*val b:=by
 induction a with
 | nil=>simp[val,Yo]
 | cons x a ih=>simp only[List.cons_append,val,ih,List.length_cons,K1];rw[Nat.mul_add,←Nat.mul_assoc,Nat.mul_comm 4294967296 (bp a.length)];omega
theorem W2{a:List Nat}(h:Wd a):val a<bp a.length:=by
 induction a with
 | nil=>simp[val,Yo]
 | cons x a ih=>
   obtain⟨hx,ha⟩:=Jx.1 h;have:=ih ha;simp only[val,List.length_cons,K1];omega
theorem Qd3(k:Nat):val (List.replicate k 0)=0:=by
 induction k with
 | zero=>rfl
 | succ k ih=>simp[List.replicate_succ,val,ih]
theorem Qa2{n k:Nat}(h:n<bp k):(toL n).length≤k:=by
 induction k generalizing n with
 | zero=>rw[Yo] at h;obtain rfl:n=0:=by omega
         simp[Vx]
 | succ k ih=>
   by_cases h0:n=0;subst h0;simp[Vx];rw[Qak h0,List.length_cons];have:=@ih (n / 4294967296) (by rw[K1] at h;exact Nat.div_lt_of_lt_mul (by rw[Nat.mul_comm];exact h));omega
theorem Kq{α:Type}{a:List α}{k:Nat}(h:k<a.length):a.take (k+1)=a.take k++[a[k]]:=by simp[]
theorem W7{n:Nat}{a:List Nat}(hn:big≤n)(ha:a.length≤4611686018427387904):Xm n a=some (trimZ a):=by
 unfold Xm;unfold big at hn;refine Y7 (λs=>s.toNat) (λs=>∃ k:Nat,s=k∧k≤a.length∧trimZ a=trimZ (a.take k)) (λt=>∃ k:Nat,t=k∧k≤a.length∧trimZ a=a.take k) ⟨a.length,rfl,Nat.le_refl _,by simp⟩ (by simp;omega) ?_ ?_;rintro s ⟨k,rfl,hk,ht⟩;simp only[jn_eq,bifd];by_cases h0:0<k;obtain⟨j,rfl⟩:∃ j,k=j+1:=⟨k - 1,by omega⟩
 rw[if_pos (by omega),w64 (by omega) (by omega),show((j+1:Nat):Int) - 1=(j:Nat) by omega,Qa1 (show j<a.length by omega),sbind];rw[Kq (show j<a.length by omega)] at ht;by_cases hz:a[j]=0;left;refine⟨(j:Nat),by simp[hz],⟨j,rfl,by omega,?_⟩,by omega⟩;rw[ht,hz,Qpe];right;refine⟨((j+1:Nat):Int),by simp[hz],j+1,rfl,hk,?_⟩;rw[ht,Kq (show j<a.length by omega),Qv3 _ hz];right;obtain rfl:k=0:=by omega
 exact⟨0,by simp,0,rfl,Nat.zero_le _,by rw[ht];simp[trimZ]⟩;rintro t ⟨k,rfl,hk,ht⟩;rw[Q6u hk,sbind,ht]
theorem Q6v{a:List Nat}{k:Nat}:cpyL (List.replicate (a.length+k) 0) a=a++List.replicate k 0:=by unfold cpyL;rw[List.length_replicate,List.take_of_length_le (by omega),List.drop_replicate,Nat.add_sub_cancel_left]
theorem Qkn{a:List Nat}{k:Nat}(h:a.length+k≤35184372088832):Qdw a (k:Int)=some (a++List.replicate k 0):=by unfold Qdw;rw[w64 (by omega) (by omega),show((a.length:Int)+(k:Int))=((a.length+k:Nat):Int) by omega,Qe4 (by omega) (by omega),sbind,Q6v]
theorem Wj{n:Nat}{a:List Nat}(hn:big≤n)(ha:a.length≤35184372088832):Vq n a=some (trimZ a):=by unfold Vq;have hl:=Xv a;rw[W7 hn (by omega),sbind,show(0:Int)=((0:Nat):Int) by rfl,Qkn (by omega),sbind];simp
theorem Qrf{n:Nat}{a:List Nat}(hn:big≤n)(ha:a.length≤4611686018427387904)(hw:Wd a):Qb5 n a=some (decide (val a=0)):=by unfold Qb5;rw[W7 hn ha,sbind];congr 1;rw[Bool.eq_iff_iff];simp only[decide_eq_true_eq];rw[←Qsq hw];constructor;intro h;exact List.eq_nil_of_length_eq_zero (by omega);intro h;rw[h];rfl
theorem Qqz{x y c d:Nat}(hx:x<4294967296)(hy:y<4294967296)(hc:c<4294967296)(hd:d<4294967296):x*y+c+d<18446744073709551616:=by have:x*y≤4294967295*4294967295:=Nat.mul_le_mul (by omega) (by omega);omega
theorem Qlv{x y c d:Nat}(hx:x<4294967296)(hy:y<4294967296)(hc:c<4294967296)(hd:d<4294967296):
 Qb6 x y c d=some ((x*y+c+d) / 4294967296,(x*y+c+d)%4294967296):=by
 have h:=Qqz hx hy hc hd;unfold Qb6;rw[Nat.mod_eq_of_lt (show x*y<18446744073709551616 by omega),Nat.mod_eq_of_lt (show x*y+c<18446744073709551616 by omega),Nat.mod_eq_of_lt h,sbind];rw[show(2:Nat) ^ 32=4294967296 by rfl,Nat.mod_eq_of_lt (show(x*y+c+d) / 4294967296<4294967296 by omega)]
theorem Qxj{x y:Nat}(hy:y<4294967296):x*4294967296 ||| y=x*4294967296+y:=by have:=Nat.two_pow_add_eq_or_of_lt (i:=32) (b:=y) (by simpa using hy) x;rw[show(2:Nat) ^ 32=4294967296 by rfl,Nat.mul_comm] at this;exact this.symm
theorem Qrg{h l y:Nat}(hh:h<y)(hl:l<4294967296)(hy:y<4294967296):
 Qdc h l y=some ((h*4294967296+l) / y,(h*4294967296+l)%y,true):=by
 unfold Qdc;rw[bifd,if_neg (by omega),grd_t (by simp;omega),sbind,sbind];rw[show(2:Nat) ^ 32=4294967296 by rfl,Nat.mod_eq_of_lt (show h*4294967296<18446744073709551616 by omega),Qxj hl]
 have h1:(h*4294967296+l) / y<4294967296:=Nat.div_lt_of_lt_mul (by
  have:h*4294967296+4294967296≤y*4294967296:=by omega
  omega)
 have h2:(h*4294967296+l)%y<y:=Nat.mod_lt _ (by omega);rw[Nat.mod_eq_of_lt h1,Nat.mod_eq_of_lt (show(h*4294967296+l)%y<4294967296 by omega)]
theorem Q75{α:Type}(p:List α)(y:α)(r:List α):(p++y::r)[p.length]?=some y:=by simp
theorem Q76{α:Type}(p:List α)(y z:α)(r:List α):(p++y::r).set p.length z=p++z::r:=by simp
theorem Kx{α:Type}{k:Nat}{p:List α}{y:α}{r:List α}(h:p.length=k):getI (p++y::r) (k:Int)=some y:=by rw[Qcg,←h,Q75]
theorem W5{α:Type}{k:Nat}{p:List α}{y z:α}{r:List α}(h:p.length=k):(p++y::r).set (k:Int).toNat z=p++z::r:=by rw[Int.toNat_natCast,←h,Q76]
theorem Kc(a:List Nat)(x:Nat):val (a++[x])=val a+bp a.length*x:=by rw[Wr];simp[val]
theorem Q5r{α:Type}{l:List α}{k:Nat}(h:k<l.length):l=l.take k++l[k]::l.drop (k+1):=by simp
theorem Q6w(P x y m cy u v V M A c:Nat)(e:4294967296*u+v=x*y+m+cy)(h6:V+P*cy=M+x*A+c):V+P*v+P*4294967296*u=M+P*m+x*(A+P*y)+c:=by grind
theorem Qzn{p m q a:List Nat}{z x c:Nat}(hm:m.length=a.length)(hp:p.length+m.length+1+q.length≤4611686018427387904)(hwm:Wd m)(hwa:Wd a)(hx:x<4294967296)(hc:c<4294967296):
 ∃ r,Qdb (p++m++z::q) (p.length:Int) a x c=some (p++r++q)∧r.length=a.length+1∧Wd r∧val r=val m+x*val a+c:=by
 have key:∃ r,Qdb (p++m++z::q) (p.length:Int) a x c=some r∧∃ r',r=p++r'++q∧r'.length=a.length+1∧Wd r'∧val r'=val m+x*val a+c:=by
  unfold Qdb;refine Qpd (λj (s:List Nat×Nat)=>∃ m1,s.1=p++m1++(m.drop j++z::q)∧m1.length=j∧j≤a.length∧Wd m1∧s.2<4294967296∧val m1+bp j*s.2=val (m.take j)+x*val (a.take j)+c) ⟨[],by simp,rfl,Nat.zero_le _,K5,hc,by simp[val,Yo]⟩ ?_ ?_;rintro j y ⟨o,cy⟩ hj ⟨m1,h1,h2,h3,h4,h5,h6⟩;simp only at h1 h5 h6;subst h1;have hja:j<a.length:=by rcases Nat.lt_or_ge j a.length with h | h;exact h;simp[List.getElem?_eq_none h] at hj
  have hy:a[j]=y:=by simpa [hja] using hj
  have hyw:y<4294967296:=by rw[←hy];exact Y8 hwa hja
  have hmj:j<m.length:=by omega
  have hmw:m[j]<4294967296:=Y8 hwm hmj;rw[w64 (by omega) (by omega),show((p.length:Int)+(j:Int))=((p.length+j:Nat):Int) by omega,List.drop_eq_getElem_cons hmj,List.cons_append];rw[Kx (by simp;omega),sbind,Qlv hx hyw hmw h5,sbind,sbind,W5 (by simp;omega)];refine⟨_,rfl,m1++[(x*y+m[j]+cy)%4294967296],by simp,by simp[h2],by omega,Js.2 ⟨h4,Jx.2 ⟨by omega,K5⟩⟩,by have:=Qqz hx hyw hmw h5;simp only[];omega,?_⟩;rw[Kq hmj,Kq hja,Kc,Kc,Kc,hy,h2,List.length_take,List.length_take,Nat.min_eq_left (by omega),Nat.min_eq_left (by omega),K1];exact Q6w _ _ _ _ _ _ _ _ _ _ _ (Nat.div_add_mod (x*y+m[j]+cy) 4294967296) h6;rintro⟨o,cy⟩ ⟨m1,h1,h2,h3,h4,h5,h6⟩;simp only at h1 h5 h6;subst h1;simp only[Xf];rw[w64 (by omega) (by omega),show((p.length:Int)+(a.length:Int))=((p.length+a.length:Nat):Int) by omega,List.drop_of_length_le (by omega),List.nil_append];rw[Kx (by simp;omega),sbind,W5 (by simp;omega)];refine⟨_,rfl,m1++[cy],by simp,by simp[h2],Js.2 ⟨h4,Jx.2 ⟨h5,K5⟩⟩,?_⟩;rw[Kc,h2,h6,List.take_of_length_le (by omega),List.take_of_length_le (Nat.le_refl _)]
 obtain⟨r,h1,r',h2,h3,h4,h5⟩:=key;exact⟨r',by rw[h1,h2],h3,h4,h5⟩
theorem Qd4{n x:Nat}(hn:big≤n)(hx:x<18446744073709551616):Zq n x=some (toL x):=by
 unfold Zq
 rw[show(2:Nat) ^ 32=4294967296 by rfl,W7 hn (by simp),sbind,←Jy (by
  intro y hy;simp only[List.mem_cons,List.not_mem_nil,or_false] at hy
  rcases hy with rfl | rfl<;>omega)]
 congr 2;simp only[val];omega
theorem Q6x(P q r' r x s y vd:Nat)(e:x*q+r'=r*P+y)(h:vd=x*s+r):y+P*vd=x*(q+P*s)+r':=by grind
theorem Qxk{n:Nat}{a:List Nat}{x:Nat}(hn:big≤n)(ha:a.length<35184372088832)(hw:Wd a)(hx0:x≠0)(hx:x<4294967296):Qfy n a x=some (toL (val a / x),val a%x,true):=by
 unfold Qfy;unfold big at hn;rw[bifd,if_neg hx0,Qe4 (by omega) (by omega),sbind]
 refine Y7 (λs=>(s.2.2+1).toNat) (λs=>∃(k:Nat) (qs:List Nat),s.2.2=(k:Int) - 1∧k≤a.length∧s.1=List.replicate k 0++qs∧qs.length=a.length - k∧Wd qs∧s.2.1<x∧val (a.drop k)=x*val qs+s.2.1)
  (λt=>t.1.length=a.length∧Wd t.1∧t.2<x∧val a=x*val t.1+t.2) ⟨a.length,[],by simp only[];rw[w64 (by omega) (by omega)],Nat.le_refl _,by simp,by simp,K5,by simp only[];omega,by simp[val]⟩ (by simp only[];rw[w64 (by omega) (by omega)];omega) ?_ ?_
 rintro⟨q,r,i⟩ ⟨k,qs,h1,h2,h3,h4,h5,h6,h7⟩;simp only at h1 h3 h6 h7;subst h1 h3;simp only[bifd];by_cases h0:0<k;obtain⟨j,rfl⟩:∃ j,k=j+1:=⟨k - 1,by omega⟩
 have hj:j<a.length:=by omega
 left;rw[if_pos (by omega),show((j+1:Nat):Int) - 1=(j:Nat) by omega,Qa1 hj,sbind,Qrg h6 (Y8 hw hj) hx,sbind];simp only[];rw[List.replicate_succ',List.append_assoc,List.singleton_append,Kx (by simp),sbind,W5 (by simp),w64 (by omega) (by omega)];refine⟨_,rfl,⟨j,((r*4294967296+a[j]) / x)::qs,rfl,by omega,rfl,by simp;omega,Jx.2 ⟨?_,h5⟩,Nat.mod_lt _ (by omega),?_⟩,by simp only[];omega⟩;have:=Y8 hw hj
 exact Nat.div_lt_of_lt_mul (by
  have:r*4294967296+4294967296≤x*4294967296:=by omega
  omega)
 rw[List.drop_eq_getElem_cons hj];simp only[val];exact Q6x 4294967296 _ _ _ _ _ _ _ (Nat.div_add_mod (r*4294967296+a[j]) x) h7;right;obtain rfl:k=0:=by omega
 rw[if_neg (by omega)];exact⟨_,rfl,by simp at h4 ⊢;omega,by simpa using h5,h6,by simpa using h7⟩;rintro⟨q,r⟩ ⟨h1,h2,h3,h4⟩;simp only at h1 h2 h3 h4;simp only[];rw[Wj (by unfold big;exact hn) (by omega),sbind,←Jy h2,h4,Nat.mul_add_div (by omega),Nat.mul_add_mod,Nat.div_eq_of_lt h3,Nat.mod_eq_of_lt h3,Nat.add_zero]
theorem Wk{n:Nat}{a:List Nat}(hn:big≤n)(ha:a.length≤35184372088832):Jo n a=some (trimZ a):=by
 have h:=W7 hn (show a.length≤4611686018427387904 by omega);have hl:=Xv a;unfold Jo;unfold Xm at h
 cases hk:loopM (λ(s19:Int)=>
  jn (λ(j22:(Bool)->Option _)=>
   bif decide ((0:Int)<s19) then (
    (getI a (wrap64 (s19 - (1:Int)))).bind λy25=>
    j22 (decide (y25=0)))
   else (
    j22 false)) (λ(s24:Bool)=>
   bif s24 then (
    some (Lp.go (wrap64 (s19 - (1:Int)))))
   else (
    some (Lp.out s19)))) n (a.length:Int) with
 | none=>rw[hk] at h;cases h
 | some t=>
   rw[hk] at h;rw[sbind] at h ⊢;cases hs:sub a (0:Int) t with
   | none=>rw[hs] at h;cases h
   | some b=>
     rw[hs,sbind] at h;rw[sbind];obtain rfl:b=trimZ a:=by simpa using h
     rw[Vw (by simp;omega) (by simp;omega),sbind,List.nil_append]
theorem Qn2{n:Nat}{a b:List Nat}(hn:big≤n)(ha:a.length≤4611686018427387904):Yg n a b=some (decide (a=b)):=by unfold Yg;unfold big at hn;rw[bifnd];by_cases hl:a.length=b.length;rw[if_pos (by omega)];refine Y7 (λs=>a.length - s.toNat) (λs=>∃ k:Nat,s=k∧k≤a.length∧a.take k=b.take k) (λt=>(t=.go ()∧a=b)∨(t=.out false∧a≠b)) ⟨0,rfl,Nat.zero_le _,by simp⟩ (by omega) ?_ ?_;rintro s ⟨k,rfl,hk,ht⟩;simp only[bifd,bifnd];by_cases h:k<a.length;rw[if_pos (by omega),Qa1 h,sbind,Qa1 (show k<b.length by omega),sbind];by_cases e:a[k]=b[k];left;rw[if_pos e,w64 (by omega) (by omega)];refine⟨_,rfl,⟨k+1,by omega,by omega,?_⟩,by omega⟩;rw[Kq h,Kq (show k<b.length by omega),ht,e];right;rw[if_neg e];exact⟨_,rfl,.inr ⟨rfl,λh=>e (by simp[h])⟩⟩;right;rw[if_neg (by omega)];refine⟨_,rfl,.inl ⟨rfl,?_⟩⟩;rw[List.take_of_length_le (by omega),List.take_of_length_le (by omega)] at ht;exact ht;rintro t (⟨rfl,h⟩ | ⟨rfl,h⟩);rw[Xf];simp[h];rw[Zu];simp[h];rw[if_neg (by omega)];have:a≠b:=λh=>hl (by rw[h]);simp[this]
theorem Qg8{a:List Nat}(h:Wd a)(i:Nat):a.getD i 0<4294967296:=by rw[List.getD_eq_getElem?_getD];by_cases hi:i<a.length;simp[hi];exact Y8 h hi;simp[List.getElem?_eq_none (show a.length≤i by omega)]
theorem Wl(a:List Nat)(k:Nat):val (a.take (k+1))=val (a.take k)+bp k*a.getD k 0:=by by_cases h:k<a.length;rw[Kq h,Kc,List.length_take,Nat.min_eq_left (by omega)];simp[h];rw[List.take_of_length_le (by omega),List.take_of_length_le (by omega)];simp[List.getElem?_eq_none (show a.length≤k by omega)]
theorem Qbz{a:List Nat}{k:Nat}:K9 a (k:Int)=some (a.getD k 0):=by unfold K9;rw[bifd];by_cases h:k<a.length;rw[if_pos (by omega),Qa1 h,sbind];simp[h];rw[if_neg (by omega)];simp[List.getElem?_eq_none (show a.length≤k by omega)]
theorem Q6y(P s x y u v V A C:Nat)(e:4294967296*u+v=s+(x+y))(h:V+P*s=A+C):V+P*v+P*4294967296*u=A+P*x+(C+P*y):=by grind
theorem Q39(P Q s o av bv:Nat)(_:Nat)(h7:o+P*s=av+bv)(ha:av<Q)(hb:bv<Q)(h5:P=Q*4294967296):s=0:=by rcases Nat.eq_zero_or_pos s with h | h;exact h;exfalso;have g6:P*1≤P*s:=Nat.mul_le_mul_left _ h;omega
theorem Qpx{n:Nat}{a b:List Nat}(hn:big≤n)(ha:a.length<17592186044416)(hb:b.length<17592186044416)(hwa:Wd a)(hwb:Wd b):Yx n a b=some (toL (val a+val b)):=by
 unfold Yx;unfold big at hn;obtain⟨l,hl⟩:∃ l:Nat,l=max a.length b.length:=⟨_,rfl⟩
 have hmax:max (a.length:Int) (b.length:Int)=(l:Int):=by omega
 have hla:a.length≤l:=by omega
 have hlb:b.length≤l:=by omega
 have hll:l<17592186044416:=by omega
 rw[hmax,w64 (by omega) (by omega),show((l:Int)+1)=((l+1:Nat):Int) by omega,Qe4 (by omega) (by omega),sbind]
 refine Y7 (λs=>(l+1) - s.2.2.toNat) (λs=>∃(k:Nat) (o:List Nat),s.2.2=k∧k≤l+1∧s.1=o++List.replicate (l+1 - k) 0∧o.length=k∧Wd o∧s.2.1<4294967296∧val o+bp k*s.2.1=val (a.take k)+val (b.take k))
  (λt=>t.length=l+1∧Wd t∧val t=val a+val b) ⟨0,[],rfl,by omega,by simp,rfl,K5,by simp,by simp[val,Yo]⟩ (by simp only[];omega) ?_ ?_
 rintro⟨q,s,i⟩ ⟨k,o,h1,h2,h3,h4,h5,h6,h7⟩;simp only at h1 h3 h6 h7;subst h1 h3;simp only[sbind,bifd];by_cases hk:k<l+1;left;have hx:=Qg8 hwa k;have hy:=Qg8 hwb k;rw[if_pos (by omega),Qbz,sbind,Qbz,sbind];obtain⟨j,hj⟩:∃ j,l+1 - k=j+1:=⟨l - k,by omega⟩
 rw[hj,List.replicate_succ,Kx h4,sbind,W5 h4,w64 (by omega) (by omega)];rw[Nat.mod_eq_of_lt (show a.getD k 0+b.getD k 0<18446744073709551616 by omega),Nat.mod_eq_of_lt (show s+(a.getD k 0+b.getD k 0)<18446744073709551616 by omega),Nat.mod_mod];refine⟨_,rfl,⟨k+1,o++[(s+(a.getD k 0+b.getD k 0))%4294967296],by simp only[];omega,by omega,?_,by simp[h4],Js.2 ⟨h5,Jx.2 ⟨by omega,K5⟩⟩,by simp only[];omega,?_⟩,by simp only[];omega⟩;simp only[];rw[show l+1 - (k+1)=j by omega];simp;simp only[];rw[Wl,Wl,Kc,h4,K1];exact Q6y _ _ _ _ _ _ _ _ _ (Nat.div_add_mod (s+(a.getD k 0+b.getD k 0)) 4294967296) h7;right;obtain rfl:k=l+1:=by omega
 rw[if_neg (by omega)];refine⟨_,rfl,by simp[h4],by simpa using h5,?_⟩;rw[List.take_of_length_le (by omega),List.take_of_length_le (by omega)] at h7;have h8:s=0:=by have g1:=W2 hwa;have g2:=W2 hwb;have g3:bp a.length≤bp l:=bp_le hla;have g4:bp b.length≤bp l:=bp_le hlb;have g5:bp (l+1)=bp l*4294967296:=K1 _;exact Q39 _ _ _ _ _ _ 0 h7 (Nat.lt_of_lt_of_le g1 g3) (Nat.lt_of_lt_of_le g2 g4) g5
 rw[h8,Nat.mul_zero,Nat.add_zero] at h7
 simpa using h7
 rintro t ⟨h1,h2,h3⟩;rw[Wk (by unfold big;exact hn) (by omega),sbind,←Jy h2,h3]
theorem Q6z(P x y m cy u v V M A:Nat)(e:4294967296*u+v=cy+(x*y+m))(h6:V+P*cy=M+x*A):V+P*v+P*4294967296*u=M+P*m+x*(A+P*y):=by grind
theorem Q77(P Q A x b O R c p _ M z:Nat)(h1:O=p+P*M)(h2:R+Q*c=M+x*b)(h3:O=A*b)(h4:z=p+P*(R+Q*c)):z=(A+P*x)*b:=by grind
theorem Qal{n:Nat}{a b:List Nat}(hn:big≤n)(ha:a.length<17592186044416)(hb:b.length<17592186044416)(hwa:Wd a)(hwb:Wd b):Kn n a b=some (toL (val a*val b)):=by
 unfold Kn;unfold big at hn;rw[w64 (by omega) (by omega),show((a.length:Int)+(b.length:Int))=((a.length+b.length:Nat):Int) by omega,Qe4 (by omega) (by omega),sbind]
 refine Y7 (λs=>a.length - s.2.toNat) (λs=>∃(i:Nat) (o:List Nat),s.2=i∧i≤a.length∧s.1=o++List.replicate (a.length - i) 0∧o.length=i+b.length∧Wd o∧val o=val (a.take i)*val b)
  (λt=>t.length=a.length+b.length∧Wd t∧val t=val a*val b) ⟨0,List.replicate b.length 0,rfl,Nat.zero_le _,by simp only[Nat.sub_zero,List.replicate_append_replicate];rw[Nat.add_comm],by simp,Qjx (by omega),by rw[Qd3];simp[val]⟩ (by simp only[];omega) ?_ ?_
 rintro⟨q,i'⟩ ⟨i,o,h1,h2,h3,h4,h5,h6⟩;simp only at h1 h3;subst h1 h3;simp only[bifd];by_cases hi:i<a.length;left;have hxw:=Y8 hwa hi;obtain⟨j,hj⟩:∃ j,a.length - i=j+1:=⟨a.length - i - 1,by omega⟩
 rw[if_pos (by omega),hj,List.replicate_succ];obtain⟨p,hp⟩:∃ p,p=o.take i:=⟨_,rfl⟩
 obtain⟨m,hm⟩:∃ m,m=o.drop i:=⟨_,rfl⟩
 have ho:o=p++m:=by rw[hp,hm,List.take_append_drop]
 have hpl:p.length=i:=by rw[hp,List.length_take];omega
 have hml:m.length=b.length:=by rw[hm,List.length_drop];omega
 have hwp:Wd p:=by rw[hp];exact Qmj h5
 have hwm:Wd m:=by rw[hm];exact Qiw h5
 have hov:val o=val p+bp i*val m:=by rw[ho,Wr,hpl]
 rw[ho]
 refine Q38 (λs=>b.length - s.2.2.toNat) (λs=>∃(k:Nat) (m1:List Nat),s.2.2=k∧k≤b.length∧s.1=p++m1++(m.drop k++0::List.replicate j 0)∧m1.length=k∧Wd m1∧s.2.1<4294967296∧val m1+bp k*s.2.1=val (m.take k)+a[i]*val (b.take k))
  (λt=>∃ m1:List Nat,t.1=p++m1++0::List.replicate j 0∧m1.length=b.length∧Wd m1∧t.2<4294967296∧val m1+bp b.length*t.2=val m+a[i]*val b) ⟨0,[],rfl,Nat.zero_le _,by simp,rfl,K5,by simp,by simp[val]⟩ (by simp only[];omega) ?_ ?_
 rintro⟨q,cy,k'⟩ ⟨k,m1,g1,g2,g3,g4,g5,g6,g7⟩;simp only at g1 g3 g6 g7;subst g1 g3;simp only[];by_cases hk:k<b.length;left;have hyw:=Y8 hwb hk;have hmk:k<m.length:=by omega
 have hmw:=Y8 hwm hmk;have hmul:=Qqz hxw hyw hmw g6;rw[if_pos (by omega),Qa1 hi,sbind,Qa1 hk,sbind,w64 (x:=(i:Int)+(k:Int)) (by omega) (by omega),show((i:Int)+(k:Int))=((i+k:Nat):Int) by omega];rw[List.drop_eq_getElem_cons hmk,List.cons_append,Kx (by simp;omega),sbind,sbind,sbind,sbind,W5 (by simp;omega),sbind,w64 (by omega) (by omega)];rw[Nat.mod_eq_of_lt (show a[i]*b[k]<18446744073709551616 by omega),Nat.mod_eq_of_lt (show a[i]*b[k]+m[k]<18446744073709551616 by omega),Nat.mod_eq_of_lt (show cy+(a[i]*b[k]+m[k])<18446744073709551616 by omega),Nat.mod_mod];refine⟨_,rfl,⟨k+1,m1++[(cy+(a[i]*b[k]+m[k]))%4294967296],by simp only[];omega,by omega,by simp,by simp[g4],Js.2 ⟨g5,Jx.2 ⟨by omega,K5⟩⟩,by simp only[];omega,?_⟩,by simp only[];omega⟩;simp only[];rw[Kq hmk,Kq hk,Kc,Kc,Kc,g4,List.length_take,List.length_take,Nat.min_eq_left (by omega),Nat.min_eq_left (by omega),K1];exact Q6z _ _ _ _ _ _ _ _ _ _ (Nat.div_add_mod (cy+(a[i]*b[k]+m[k])) 4294967296) g7;right;obtain rfl:k=b.length:=by omega
 rw[if_neg (by omega)];refine⟨_,rfl,m1,by simp only[];rw[List.drop_of_length_le (by omega)];simp,g4,g5,g6,?_⟩;rw[List.take_of_length_le (by omega),List.take_of_length_le (by omega)] at g7;exact g7;rintro⟨q,c⟩ ⟨m1,g1,g2,g3,g4,g5⟩;simp only at g1 g4 g5;subst g1;rw[w64 (x:=(i:Int)+(b.length:Int)) (by omega) (by omega),show((i:Int)+(b.length:Int))=((i+b.length:Nat):Int) by omega];simp only[];rw[Kx (by simp;omega),sbind,W5 (by simp;omega),sbind,w64 (by omega) (by omega),Nat.mod_eq_of_lt g4];refine⟨_,rfl,⟨i+1,p++m1++[c],by simp only[];omega,by omega,by simp only[];rw[show a.length - (i+1)=j by omega];simp,by simp[hpl,g2];omega,Js.2 ⟨Js.2 ⟨hwp,g3⟩,Jx.2 ⟨g4,K5⟩⟩,?_⟩,by simp only[];omega⟩;rw[List.append_assoc,Wr,Kc,hpl,g2,Kq hi,Kc,List.length_take,Nat.min_eq_left (by omega)];exact Q77 _ _ _ _ _ _ _ _ _ 0 _ _ hov g5 h6 rfl;right;obtain rfl:i=a.length:=by omega
 rw[if_neg (by omega)];exact⟨_,rfl,by simp[h4],by simpa using h5,by simpa using h6⟩;rintro t ⟨h1,h2,h3⟩;rw[Wk (by unfold big;exact hn) (by omega),sbind,←Jy h2,h3]
def cmpI(x y:Nat):Int:=if x<y then -1 else if y<x then 1 else 0
theorem Q78{n:Nat}(h:n≠0):bp ((toL n).length - 1)≤n:=by
 induction n using Nat.strongRecOn with
 | _ n ih=>
   rw[Qak h,List.length_cons,Nat.add_sub_cancel];by_cases h1:n / 4294967296=0;rw[h1,Vx,List.length_nil,Yo];omega;have:=ih (n / 4294967296) (by omega) h1;have hl:(toL (n / 4294967296)).length≠0:=by rw[Qak h1];simp
   obtain⟨m,hm⟩:∃ m,(toL (n / 4294967296)).length=m+1:=⟨(toL (n / 4294967296)).length - 1,by omega⟩
   rw[hm,Nat.add_sub_cancel] at this;rw[hm,K1];have h2:bp m*4294967296≤n / 4294967296*4294967296:=Nat.mul_le_mul_right _ this;have h3:n / 4294967296*4294967296≤n:=Nat.div_mul_le_self _ _;exact Nat.le_trans h2 h3
theorem Qv4{m n:Nat}(h:(toL m).length<(toL n).length):m<n:=by
 have h1:=W2 (Q0 m);rw[Qt] at h1;have hn:n≠0:=by rintro rfl;rw[Vx] at h;simp at h
 have h2:=Q78 hn;have h3:bp (toL m).length≤bp ((toL n).length - 1):=bp_le (by omega);exact Nat.lt_of_lt_of_le h1 (Nat.le_trans h3 h2)
theorem Q1f(a:List Nat)(k:Nat):val a=val (a.take k)+bp (a.take k).length*val (a.drop k):=by
 conv=>lhs;rw[←List.take_append_drop k a]
 rw[Wr]
theorem Q60{P x y u v A:Nat}(hA:A<P)(hxy:x<y)(e1:u=A+P*x)(e2:P*y≤v):u<v:=by have:P*(x+1)≤P*y:=Nat.mul_le_mul_left _ hxy;rw[Nat.mul_add] at this;omega
theorem Qtb{a b:List Nat}{j:Nat}(ha:Wd a)(hj:j<a.length)(hj':j<b.length)(ht:a.drop (j+1)=b.drop (j+1))(h:a[j]<b[j]):val a<val b:=by have e1:=Q1f a (j+1);have e2:=Q1f b (j+1);rw[List.length_take,Nat.min_eq_left (by omega)] at e1 e2;rw[e1,e2,ht];refine Nat.add_lt_add_right ?_ _;rw[Kq hj,Kq hj',Kc,Kc,List.length_take,List.length_take,Nat.min_eq_left (by omega),Nat.min_eq_left (by omega)];have h1:=W2 (Qmj (k:=j) ha);rw[List.length_take,Nat.min_eq_left (by omega)] at h1;exact Q60 h1 h rfl (Nat.le_add_left _ _)
theorem Qgx{n:Nat}{a b:List Nat}(hn:big≤n)(ha:a.length≤4611686018427387904)(hb:b.length≤4611686018427387904)(hwa:Wd a)(hwb:Wd b):Qcc n a b=some (cmpI (val a) (val b)):=by
 unfold Qcc;rw[W7 hn ha,sbind,W7 hn hb,sbind,←Jy hwa,←Jy hwb];have hla:(toL (val a)).length≤4611686018427387904:=by rw[Jy hwa];exact Nat.le_trans (Xv a) ha
 have hva:=Qt (val a);have hvb:=Qt (val b);have hwa':=Q0 (val a);have hwb':=Q0 (val b);have l1:=@Qv4 (val a) (val b);have l2:=@Qv4 (val b) (val a);generalize val a=x at *;generalize val b=y at *;generalize toL x=a' at *;generalize toL y=b' at *;unfold big at hn;rw[bifd,bifd];by_cases h1:a'.length<b'.length;rw[if_pos (by omega),cmpI,if_pos (l1 h1)];rw[if_neg (by omega)];by_cases h2:b'.length<a'.length;rw[if_pos (by omega),cmpI,if_neg (by have:=l2 h2;omega),if_pos (l2 h2)];rw[if_neg (by omega),w64 (by omega) (by omega)];refine Y7 (λs=>(s+1).toNat) (λs=>∃ k:Nat,s=(k:Int) - 1∧k≤a'.length∧a'.drop k=b'.drop k) (λt=>(t=.go ()∧a'=b')∨(t=.out (-1)∧x<y)∨(t=.out 1∧y<x)) ⟨a'.length,rfl,Nat.le_refl _,by rw[List.drop_of_length_le (Nat.le_refl _),List.drop_of_length_le (by omega)]⟩ (by omega) ?_ ?_;rintro s ⟨k,rfl,hk,ht⟩;simp only[bifd];by_cases h0:0<k;obtain⟨j,rfl⟩:∃ j,k=j+1:=⟨k - 1,by omega⟩
 have hj:j<a'.length:=by omega
 have hj':j<b'.length:=by omega
 rw[if_pos (by omega),show((j+1:Nat):Int) - 1=(j:Nat) by omega,Qa1 hj,sbind,Qa1 hj',sbind];by_cases g1:a'[j]<b'[j];right;rw[if_pos g1];refine⟨_,rfl,.inr (.inl ⟨rfl,?_⟩)⟩;rw[←hva,←hvb];exact Qtb hwa' hj hj' ht g1;rw[if_neg g1,sbind,sbind];by_cases g2:b'[j]<a'[j];right;rw[if_pos g2];refine⟨_,rfl,.inr (.inr ⟨rfl,?_⟩)⟩;rw[←hva,←hvb];exact Qtb hwb' hj' hj ht.symm g2;left;rw[if_neg g2,w64 (by omega) (by omega)];refine⟨_,rfl,⟨j,rfl,by omega,?_⟩,by omega⟩;rw[List.drop_eq_getElem_cons hj,List.drop_eq_getElem_cons hj',ht,show a'[j]=b'[j] by omega];right;obtain rfl:k=0:=by omega
 rw[if_neg (by omega)];exact⟨_,rfl,.inl ⟨rfl,by simpa using ht⟩⟩;rintro t (⟨rfl,h⟩ | ⟨rfl,h⟩ | ⟨rfl,h⟩);rw[Xf];have:x=y:=by rw[←hva,←hvb,h]
 simp[cmpI,this];rw[Zu,cmpI,if_pos h];rw[Zu,cmpI,if_neg (by omega),if_pos h]
theorem Q5s{v:Nat}(h:v<18446744073709551616):toL v=[]∨(∃ x,toL v=[x]∧x=v)∨(∃ x y,toL v=[x,y]∧x<4294967296∧y<4294967296∧x+4294967296*y=v):=by
 have hl:=Qa2 (n:=v) (k:=2) (by rw[K1,K1,Yo];omega);have hv:=Qt v;have hw:=Q0 v
 match hm:toL v,hl with
 | [],_=>exact .inl rfl
 | [x],_=>rw[hm] at hv;simp[val] at hv;exact .inr (.inl ⟨x,rfl,hv⟩)
 | [x,y],_=>
   rw[hm] at hv hw;simp[val] at hv;exact .inr (.inr ⟨x,y,rfl,(Jx.1 hw).1,(Jx.1 (Jx.1 hw).2).1,by omega⟩)
 | _::_::_::_,h=>simp at h
theorem Q2x{v:Nat}(h:18446744073709551616≤v):2<(toL v).length:=by rcases Nat.lt_or_ge 2 (toL v).length with h1 | h1;exact h1;have h2:=W2 (Q0 v);rw[Qt] at h2;have h3:=bp_le h1;rw[K1,K1,Yo] at h3;omega
theorem Qpy{n:Nat}{a:List Nat}(hn:big≤n)(ha:a.length≤4611686018427387904)(hw:Wd a):Qfz n a=some (if val a<18446744073709551616 then (val a,true) else (0,false)):=by unfold Qfz;rw[W7 hn ha,sbind,←Jy hw,bifd];by_cases h:val a<18446744073709551616;rw[if_pos h];rcases Q5s h with h1 | ⟨x,h1,h2⟩ | ⟨x,y,h1,h2,h3,h4⟩;have:=Qt (val a);rw[h1] at this ⊢;rw[if_neg (by decide)];simp only[val] at this;simp only[rangeL,sbind,Xf,←this];rw[h1,if_neg (by simp)];simp only[rangeL];rw[w64 (by omega) (by omega),grd_t (by decide),sbind,sbind,sbind,sbind];simp only[Xf];subst h2;simp;omega;rw[h1,if_neg (by simp)];simp only[rangeL];rw[w64 (x:=32*((0:Nat):Int)) (by omega) (by omega),grd_t (by decide),sbind,sbind,sbind,w64 (by omega) (by omega),grd_t (by decide)];simp only[sbind,Xf];rw[show(2:Nat) ^ min (Int.toNat (32*((0:Nat):Int))) 64=1 by rfl,show(2:Nat) ^ min (Int.toNat (32*((0+1:Nat):Int))) 64=4294967296 by rfl,Nat.mul_one,Nat.mod_eq_of_lt (show x<18446744073709551616 by omega),Nat.mod_eq_of_lt (show y*4294967296<18446744073709551616 by omega),Nat.zero_or,Nat.or_comm,Qxj h2];congr 2;omega;rw[if_neg h];have:=Q2x (v:=val a) (by omega);rw[if_pos (by omega)]
theorem Qic{x y c:Nat}(hx:x<4294967296)(hy:y<4294967296)(hc:c<4294967296):
 Zb x y c=some ((x+y+c)%4294967296,(x+y+c) / 4294967296):=by
 unfold Zb;simp only[jn_eq,bifd];split<;>split<;>congr 1<;>refine Prod.ext ?_ ?_<;>simp only[]<;>omega
theorem Qlw{x y c:Nat}(hx:x<4294967296)(hy:y<4294967296)(hc:c≤1):
 ∃ d b,Qfa x y c=some (d,b)∧d<4294967296∧b≤1∧d+y+c=x+4294967296*b:=by
 unfold Qfa;simp only[jn_eq,bifd,sbind];split<;>split<;>refine⟨_,_,rfl,?_,?_,?_⟩<;>omega
theorem Q5t(P s x y u v V A C:Nat)(e:4294967296*u+v=x+y+s)(h:V+P*s=A+C):V+P*v+P*4294967296*u=A+P*x+(C+P*y):=by grind
theorem Q2y{k:Nat}{b:List Nat}{β:Type}(f:Nat->Option β):(if (k:Int)<(b.length:Int) then (getI b (k:Int)).bind f else f 0)=f (b.getD k 0):=by by_cases h:k<b.length;rw[if_pos (by omega),Qa1 h,sbind];simp[h];rw[if_neg (by omega)];simp[List.getElem?_eq_none (show b.length≤k by omega)]
theorem Q2z{n:Nat}{a b:List Nat}(hn:big≤n)(ha:a.length<17592186044416)(hl:b.length≤a.length)(hwa:Wd a)(hwb:Wd b):Qe9 n a b=some (toL (val a+val b)):=by
 unfold Qe9;simp only[jn_eq,bifd];rw[if_neg (by omega)];rw[show(1:Int)=((1:Nat):Int) by rfl,Qkn (by omega),sbind];refine Qjw (λj (s:List Nat×Nat)=>∃ m1,s.1=m1++(List.drop j a++[0])∧m1.length=j∧j≤a.length∧Wd m1∧s.2≤1∧val m1+bp j*s.2=val (a.take j)+val (b.take j)) ⟨[],by simp,rfl,Nat.zero_le _,K5,by simp,by simp[val,Yo]⟩ ?_ ?_;rintro j y ⟨o,cy⟩ hj ⟨m1,h1,h2,h3,h4,h5,h6⟩;simp only at h1 h5 h6;subst h1;have hja:j<a.length:=by
  rcases Nat.lt_or_ge j a.length with h | h;exact h;simp[List.getElem?_eq_none h] at hj
 have hy:a[j]=y:=by simpa [hja] using hj
 have hyw:y<4294967296:=by rw[←hy];exact Y8 hwa hja
 rw[Q2y,Qic hyw (Qg8 hwb j) (by simp only[];omega),sbind,List.drop_eq_getElem_cons hja,List.cons_append,Kx h2,sbind,W5 h2];refine⟨_,rfl,m1++[(y+b.getD j 0+cy)%4294967296],by simp,by simp[h2],by omega,Js.2 ⟨h4,Jx.2 ⟨by omega,K5⟩⟩,?_,?_⟩;have:=Qg8 hwb j;simp only[];omega;rw[Wl,Wl,Kc,h2,K1];rw[show a.getD j 0=y by rw[←hy];simp[hja]];exact Q5t _ _ _ _ _ _ _ _ _ (Nat.div_add_mod (y+b.getD j 0+cy) 4294967296) h6;rintro⟨o,cy⟩ ⟨m1,h1,h2,h3,h4,h5,h6⟩;simp only at h1 h5 h6;subst h1;simp only[Xf];rw[List.drop_of_length_le (Nat.le_refl _),List.nil_append,Kx h2,sbind,W5 h2,W7 hn (by simp;omega),sbind,←Jy (Js.2 ⟨h4,Jx.2 ⟨by omega,K5⟩⟩),Kc,h2,h6,List.take_of_length_le (Nat.le_refl _),List.take_of_length_le hl]
theorem Qrh{n:Nat}{a b:List Nat}(hn:big≤n)(ha:a.length<17592186044416)(hb:b.length<17592186044416)(hwa:Wd a)(hwb:Wd b):Qe9 n a b=some (toL (val a+val b)):=by by_cases hl:b.length≤a.length;exact Q2z hn ha hl hwa hwb;rw[Nat.add_comm,←Q2z hn hb (by omega) hwb hwa];unfold Qe9;simp only[jn_eq,bifd];rw[if_pos (by omega),if_neg (by omega)]
theorem Q1g{n:Nat}{a b:List Nat}(hn:big≤n)(ha:a.length<17592186044410)(hb:b.length<17592186044410)(hwa:Wd a)(hwb:Wd b):Qgh n [a,b]=some (toL (val a+val b)):=by unfold Qgh;have e1:=Qrh (a:=[]) (b:=toL (val a)) hn (by simp) (by have:=Xv a;rw[Jy hwa];omega) K5 (Q0 _);have e2:=Qrh (a:=toL (val a)) (b:=toL (val b)) hn (by have:=Xv a;rw[Jy hwa];omega) (by have:=Xv b;rw[Jy hwb];omega) (Q0 _) (Q0 _);rw[Qt] at e1 e2;rw[Qt] at e2;simp only[val,Nat.zero_add] at e1;simp only[rangeL,W7 hn (show a.length≤4611686018427387904 by omega),W7 hn (show b.length≤4611686018427387904 by omega),sbind,←Jy hwa,←Jy hwb,e1,e2,Xf]
theorem Qg9{α:Type}{l:List α}{i:Nat}{x:α}(h:l[i]?=some x):i<l.length:=by rcases Nat.lt_or_ge i l.length with h1 | h1;exact h1;rw[List.getElem?_eq_none h1] at h;cases h
theorem Ws{x y:Nat}(h:x≤y):(toL x).length≤(toL y).length:=by refine Qa2 ?_;have:=W2 (Q0 y);rw[Qt] at this;omega
theorem Qus(P c c' x y d V A B:Nat)(e:d+y+c=x+4294967296*c')(h:V+B=A+P*c):V+P*d+(B+P*y)=A+P*x+P*4294967296*c':=by grind
theorem Qsr{n:Nat}{a b:List Nat}(hn:big≤n)(ha:a.length<17592186044416)(hb:b.length<17592186044416)(hwa:Wd a)(hwb:Wd b):
 Qk8 n a b=some (if val a<val b then ([],false) else (toL (val a - val b),true)):=by
 unfold Qk8;have hla:(toL (val a)).length<17592186044416:=by rw[Jy hwa];exact Nat.lt_of_le_of_lt (Xv a) ha
 have hlb:(toL (val b)).length<17592186044416:=by rw[Jy hwb];exact Nat.lt_of_le_of_lt (Xv b) hb
 rw[W7 hn (by omega),sbind,W7 hn (by omega),sbind,←Jy hwa,←Jy hwb,Qgx hn (by omega) (by omega) (Q0 _) (Q0 _),sbind,Qt,Qt];have hva:=Qt (val a);have hvb:=Qt (val b);have hwa':=Q0 (val a);have hwb':=Q0 (val b);have hl:=λh=>Ws (x:=val b) (y:=val a) h;generalize val a=x at *;generalize val b=y at *;generalize toL x=a' at *;generalize toL y=b' at *;rw[bifd];by_cases hxy:x<y;rw[if_pos (by rw[cmpI,if_pos hxy];decide),if_pos hxy];rw[if_neg (by rw[cmpI,if_neg hxy];split<;>decide),if_neg hxy];have hl:=hl (by omega);simp only[jn_eq,bifd];rw[show(0:Int)=((0:Nat):Int) by rfl,Qkn (by omega),sbind];refine Qjw (λj (s:List Nat×Nat)=>∃ m1,s.1=m1++List.drop j a'∧m1.length=j∧j≤a'.length∧Wd m1∧s.2≤1∧val m1+val (b'.take j)=val (a'.take j)+bp j*s.2) ⟨[],by simp,rfl,Nat.zero_le _,K5,by simp,by simp[val]⟩ ?_ ?_;rintro j w ⟨o,cy⟩ hj ⟨m1,h1,h2,h3,h4,h5,h6⟩;simp only at h1 h5 h6;subst h1;have hja:j<a'.length:=Qg9 hj;have hy:a'[j]=w:=by simpa [hja] using hj
 have hyw:w<4294967296:=by rw[←hy];exact Y8 hwa' hja
 obtain⟨d,c',g1,g2,g3,g4⟩:=Qlw hyw (Qg8 hwb' j) h5;rw[Q2y,g1,sbind,List.drop_eq_getElem_cons hja,Kx h2,sbind,W5 h2];refine⟨_,rfl,m1++[d],by simp,by simp[h2],by omega,Js.2 ⟨h4,Jx.2 ⟨g2,K5⟩⟩,g3,?_⟩;rw[Wl,Wl,Kc,h2,K1];rw[show a'.getD j 0=w by rw[←hy];simp[hja]];exact Qus _ _ _ _ _ _ _ _ _ g4 h6;rintro⟨o,cy⟩ ⟨m1,h1,h2,h3,h4,h5,h6⟩;simp only at h1 h5 h6;subst h1;simp only[Xf];rw[List.take_of_length_le (Nat.le_refl _),List.take_of_length_le hl,hva,hvb] at h6;rw[List.drop_of_length_le (Nat.le_refl _),List.append_nil,W7 hn (by omega),sbind,←Jy h4];have h7:cy=0:=by
  have g1:=W2 h4;rw[h2] at g1;rcases Nat.eq_zero_or_pos cy with h | h;exact h;have g6:bp a'.length*1≤bp a'.length*cy:=Nat.mul_le_mul_left _ h;omega
 subst h7;rw[Nat.mul_zero] at h6;congr 3;omega
theorem Q1h{n:Nat}{a b:List Nat}(hn:big≤n)(ha:a.length<17592186044416)(hb:b.length<17592186044416)(hwa:Wd a)(hwb:Wd b):
 Qk9 n a b=some (toL (val a - val b+(val b - val a)),cmpI (val a) (val b)):=by
 unfold Qk9;rw[Qgx hn (by omega) (by omega) hwa hwb,sbind];simp only[jn_eq,bifd];by_cases h:val a<val b;rw[if_pos (by rw[cmpI,if_pos h];decide),Qsr hn hb ha hwb hwa,if_neg (by omega),sbind];rw[show val a - val b+(val b - val a)=val b - val a by omega];rw[if_neg (by rw[cmpI,if_neg h];split<;>decide),Qsr hn ha hb hwa hwb,if_neg h,sbind];rw[show val a - val b+(val b - val a)=val a - val b by omega]
def blen(x:Nat):Nat:=if x=0 then 0 else Nat.log2 x+1
theorem Qe7:blen 0=0:=by unfold blen;rw[if_pos rfl]
theorem Qxl{x k:Nat}(h1:2 ^ k≤x)(h2:x<2 ^ (k+1)):blen x=k+1:=by
 have h0:x≠0:=by have:=Nat.two_pow_pos k;omega
 unfold blen;rw[if_neg h0,(Nat.log2_eq_iff h0).2 ⟨h1,h2⟩]
theorem Qmk{x:Nat}:x<2 ^ blen x:=by unfold blen;by_cases h0:x=0;rw[if_pos h0,h0];decide;rw[if_neg h0];exact Nat.lt_log2_self
theorem Qko{x:Nat}(h0:x≠0):2 ^ (blen x - 1)≤x:=by unfold blen;rw[if_neg h0];exact Nat.log2_self_le h0
theorem Qq0{x:Nat}(h0:x≠0):1≤blen x:=by unfold blen;rw[if_neg h0];omega
theorem Q1i{x w:Nat}(h:x / 2 ^ w≠0):blen x=blen (x / 2 ^ w)+w:=by
 have h1:=Qko h;have h2:=Qmk (x:=x / 2 ^ w);have h3:=Qq0 h;obtain⟨k,hk⟩:∃ k,blen (x / 2 ^ w)=k+1:=⟨_,(Nat.sub_add_cancel h3).symm⟩
 rw[hk,Nat.add_sub_cancel] at h1;rw[hk] at h2 ⊢;rw[show k+1+w=(k+w)+1 by omega];refine Qxl ?_ ?_;rw[Nat.pow_add];exact(Nat.le_div_iff_mul_le (Nat.two_pow_pos w)).1 h1;rw[show k+w+1=(k+1)+w by omega,Nat.pow_add];exact(Nat.div_lt_iff_lt_mul (Nat.two_pow_pos w)).1 h2
theorem Qri{n x:Nat}(hn:big≤n)(hx:x<4294967296):Qg5 n x=some (blen x:Int):=by
 unfold Qg5;unfold big at hn
 refine Y7 (λs=>s.2.2.toNat) (λs=>∃(w k B:Nat),s.2.2=w∧s.2.1=k∧(w,B)∈[(16,4294967296),(8,65536),(4,256),(2,16),(1,4),(0,2)]∧s.1<B∧k+2*w≤32∧blen x=k+blen s.1)
  (λt=>∃ k:Nat,t.2=k∧k≤32∧t.1<2∧blen x=k+blen t.1) ⟨16,0,4294967296,rfl,rfl,by decide,hx,by decide,by simp⟩ (by simp only[];omega) ?_ ?_
 rintro⟨y,c,w'⟩ ⟨w,k,B,h1,h2,h3,h4,h5,h6⟩;simp only at h1 h2 h4 h6;subst h1 h2;simp only[jn_eq,bifd,bifnd];by_cases h0:0<w;left;rw[if_pos (by omega),grd_t (by simp),sbind,sbind,Int.toNat_natCast];have hw:w≤16:=by omega
 have hd:Int.tdiv (w:Int) 2=((w / 2:Nat):Int):=by rfl
 rw[hd,Nat.min_eq_left (by omega),w64 (x:=((w / 2:Nat):Int)) (by omega) (by omega),w64 (by omega) (by omega)];have hB:∃ B',(w / 2,B')∈[(16,4294967296),(8,65536),(4,256),(2,16),(1,4),(0,2)]∧B'*2 ^ w=B∧(2 ^ w≤B'):=by simp only[List.mem_cons,List.not_mem_nil,or_false,Prod.mk.injEq] at h3;rcases h3 with ⟨rfl,rfl⟩ | ⟨rfl,rfl⟩ | ⟨rfl,rfl⟩ | ⟨rfl,rfl⟩ | ⟨rfl,rfl⟩ | ⟨rfl,rfl⟩;exact⟨65536,by decide,by decide,by decide⟩;exact⟨256,by decide,by decide,by decide⟩;exact⟨16,by decide,by decide,by decide⟩;exact⟨4,by decide,by decide,by decide⟩;exact⟨2,by decide,by decide,by decide⟩;omega
 obtain⟨B',g1,g2,g3⟩:=hB;by_cases hz:y / 2 ^ w=0;rw[if_pos hz];refine⟨_,rfl,⟨w / 2,k,B',rfl,rfl,g1,?_,by omega,h6⟩,by simp only[];omega⟩;have:=(Nat.div_eq_zero_iff_lt (Nat.two_pow_pos w)).1 hz;exact Nat.lt_of_lt_of_le this g3;rw[if_neg hz];refine⟨_,rfl,⟨w / 2,k+w,B',rfl,by simp only[];omega,g1,?_,by omega,?_⟩,by simp only[];omega⟩;rw[←g2] at h4;exact(Nat.div_lt_iff_lt_mul (Nat.two_pow_pos w)).2 h4;rw[h6,Q1i hz];simp only[];omega;right;obtain rfl:w=0:=by omega
 rw[if_neg (by omega)];simp only[List.mem_cons,List.not_mem_nil,or_false,Prod.mk.injEq] at h3;refine⟨_,rfl,k,rfl,by omega,by simp only[];omega,h6⟩;rintro⟨y,c⟩ ⟨k,h1,h2,h3,h4⟩;simp only at h1 h3 h4;subst h1;rw[h4,w64 (by simp only[];omega) (by simp only[];omega)];have:blen y=y:=by
  have:y=0∨y=1:=by omega
  rcases this with rfl | rfl;rw[Qe7];exact Qxl (k:=0) (by decide) (by decide)
 rw[this];simp
theorem Qh7(k:Nat):bp k=2 ^ (32*k):=by unfold bp;rw[Nat.pow_mul]
theorem Qut{v:Nat}(h:toL v≠[]):∃ p x,toL v=p++[x]∧x≠0∧x<4294967296∧Wd p:=by have hw:=Q0 v;rcases List.eq_nil_or_concat (toL v) with h0 | ⟨p,x,h1⟩;exact absurd h0 h;rw[List.concat_eq_append] at h1;refine⟨p,x,h1,?_,?_,?_⟩;rintro rfl;have h2:=Q5q v;rw[h1,Qpe] at h2;have:=Xv p;rw[h2] at this;simp at this;omega;rw[h1] at hw;exact(Jx.1 (Js.1 hw).2).1;rw[h1] at hw;exact(Js.1 hw).1
theorem Q5u{p:List Nat}{x:Nat}(hp:Wd p)(hx:x≠0):blen (val (p++[x]))=32*p.length+blen x:=by
 have hl:=W2 hp;have hd:val (p++[x]) / 2 ^ (32*p.length)=x:=by rw[←Qh7,Kc,Nat.add_mul_div_left _ _ (Q5p _),Nat.div_eq_of_lt hl,Nat.zero_add]
 rw[Q1i (w:=32*p.length) (by rw[hd];exact hx),hd,Nat.add_comm]
theorem Qrj{n:Nat}{a:List Nat}(hn:big≤n)(ha:a.length<17592186044416)(hw:Wd a):Qdg n a=some (blen (val a):Int):=by
 unfold Qdg;rw[Wj hn (by omega),sbind,←Jy hw,bifd];have hl:(toL (val a)).length<17592186044416:=by rw[Jy hw];exact Nat.lt_of_le_of_lt (Xv a) ha
 by_cases h:toL (val a)=[]
 rw[if_pos (by rw[h];rfl)];rw[Jy hw] at h;rw[Qyn h,Qe7];rfl;rw[if_neg (by intro h';exact h (List.eq_nil_of_length_eq_zero (by omega)))];obtain⟨p,x,h1,h2,h3,h4⟩:=Qut h;have hv:val a=val (p++[x]):=by rw[←h1,Qt]
 rw[hv,Q5u h4 h2];rw[hv] at h1 hl;rw[h1] at hl;rw[h1,List.length_append,List.length_singleton] at *;rw[w64 (x:=((p.length+1:Nat):Int) - 1) (by omega) (by omega),show((p.length+1:Nat):Int) - 1=(p.length:Nat) by omega,Kx rfl,sbind,Qri hn h3,sbind,sbind];have hb:blen x≤32:=by rcases Nat.lt_or_ge 32 (blen x) with h | h;have g1:=Qko h2;have g2:2 ^ 32≤2 ^ (blen x - 1):=Nat.pow_le_pow_right (by decide) (by omega);rw[show(2:Nat) ^ 32=4294967296 by decide] at g2;omega;exact h
 rw[w64 (x:=32*(p.length:Int)) (by omega) (by omega),w64 (by omega) (by omega)];congr 1
theorem Q5v(P M R x A B m V:Nat)(h1:V=M+P*m)(h2:R=m+x*A+0)(h3:V=A*B):M+P*R=A*(B+P*x):=by grind
theorem Qc5{n:Nat}{a b:List Nat}(hn:big≤n)(ha:a.length<8796093022208)(hb:b.length<8796093022208)(hwa:Wd a)(hwb:Wd b):Z7 n a b=some (toL (val a*val b)):=by
 unfold Z7;rw[w64 (x:=(a.length:Int)+(b.length:Int)) (by omega) (by omega),w64 (by omega) (by omega),show((a.length:Int)+(b.length:Int))+1=((a.length+b.length+1:Nat):Int) by omega,Qe4 (by omega) (by omega),sbind];refine Qjw (λj (s:List Nat)=>∃ m1,s=m1++List.replicate (b.length+1 - j) 0∧m1.length=j+a.length∧j≤b.length∧Wd m1∧val m1=val a*val (b.take j)) ⟨List.replicate a.length 0,by rw[List.replicate_append_replicate];congr 1,by simp,Nat.zero_le _,Qjx (by omega),by simp[val,Qd3]⟩ ?_ ?_
 . rintro j x o hj ⟨m1,h1,h2,h3,h4,h5⟩
   subst h1;have hjb:j<b.length:=Qg9 hj;have hx:b[j]=x:=by simpa [hjb] using hj
   have hxw:x<4294967296:=by rw[←hx];exact Y8 hwb hjb
   obtain⟨r,g1,g2,g3,g4⟩:=Qzn (p:=m1.take j) (m:=m1.drop j) (q:=List.replicate (b.length - j) 0) (a:=a) (z:=0) (x:=x) (c:=0) (by simp;omega) (by simp;omega) (Qiw h4) hwa hxw (by omega);have hpj:(m1.take j).length=j:=by simp;omega
   rw[hpj,List.take_append_drop] at g1;rw[show b.length+1 - j=(b.length - j)+1 by omega,List.replicate_succ,g1,sbind];refine⟨_,rfl,m1.take j++r,by rw[show b.length+1 - (j+1)=b.length - j by omega],by simp;omega,by omega,Js.2 ⟨Qmj h4,g3⟩,?_⟩;have hv:val m1=val (m1.take j)+bp j*val (m1.drop j):=by
    conv=>lhs;rw[←List.take_append_drop j m1]
    rw[Wr,hpj]
   rw[Wr,hpj,Wl,show b.getD j 0=x by rw[←hx];simp[hjb]];exact Q5v _ _ _ _ _ _ _ _ hv g4 h5
 . rintro o ⟨m1,h1,h2,h3,h4,h5⟩
   subst h1;simp only[Xf];rw[Wj hn (by simp;omega),sbind,←Jy (Js.2 ⟨h4,Qjx (by omega)⟩),Wr,Qd3,Nat.mul_zero,Nat.add_zero,h5,List.take_of_length_le (Nat.le_refl _)]
theorem lo_eq{x r:Nat}(hr:r≤32):(x*2 ^ r)%4294967296=(x%2 ^ (32 - r))*2 ^ r:=by rw[show(4294967296:Nat)=2 ^ (32 - r)*2 ^ r by rw[←Nat.pow_add,show 32 - r+r=32 by omega],Nat.mul_mod_mul_right]
theorem or_lo{c x r:Nat}(hr:r≤32)(hc:c<2 ^ r):c ||| (x*2 ^ r)%4294967296=c+(x*2 ^ r)%4294967296:=by rw[lo_eq hr,Nat.or_comm,Nat.mul_comm,←Nat.two_pow_add_eq_or_of_lt hc,Nat.add_comm]
theorem hi_lt{x r:Nat}(hx:x<4294967296):(x*2 ^ r) / 4294967296<2 ^ r:=
 Nat.div_lt_of_lt_mul (Nat.mul_lt_mul_of_pos_right hx (Nat.two_pow_pos r))
theorem Qq1{r:Nat}(hr:r≤32):2 ^ r≤4294967296:=by have h:2 ^ r≤2 ^ 32:=Nat.pow_le_pow_right (by decide) hr;rwa [show(2:Nat) ^ 32=4294967296 by rfl] at h
theorem sh_lt{x r:Nat}(hr:r≤32)(hx:x<4294967296):x*2 ^ r<18446744073709551616:=by have h:=Qq1 hr;have:x*2 ^ r≤4294967295*4294967296:=Nat.mul_le_mul (by omega) h;omega
theorem Q79(P c V A R x lo hi:Nat)(e:4294967296*hi+lo=x*R)(h:V+P*c=A*R):V+P*(c+lo)+P*4294967296*hi=(A+P*x)*R:=by grind
theorem Qss{n k:Nat}{a:List Nat}(hn:big≤n)(ha:a.length<8796093022208)(hw:Wd a)(hk:k≤4096):Qgi n a (k:Int)=some (toL (val a*2 ^ k)):=by
 unfold Qgi;rw[show min (max (k:Int) 0) 4096=(k:Int) by omega];rw[show Int.tdiv (k:Int) 32=((k / 32:Nat):Int) by rfl,show Int.tmod (k:Int) 32=((k%32:Nat):Int) by rfl];have hp:2 ^ k=bp (k / 32)*2 ^ (k%32):=by rw[Qh7,←Nat.pow_add,Nat.div_add_mod]
 have hwk:k / 32≤128:=by omega
 have hr:k%32≤31:=by omega
 rw[hp];generalize k / 32=w at *;generalize k%32=r at *;rw[w64 (x:=(w:Int)) (by omega) (by omega),sbind,w64 (x:=(w:Int)+(a.length:Int)) (by omega) (by omega),w64 (by omega) (by omega),show(w:Int)+(a.length:Int)+1=((w+a.length+1:Nat):Int) by omega,Qe4 (by omega) (by omega),sbind];refine Qjw (λj (s:List Nat)=>∃ m1 c,s=(List.replicate w 0++m1)++c::List.replicate (a.length - j) 0∧m1.length=j∧j≤a.length∧Wd m1∧c<2 ^ r∧val m1+bp j*c=val (a.take j)*2 ^ r) ⟨[],0,by rw[List.append_nil,←List.replicate_succ,List.replicate_append_replicate];congr 1,rfl,Nat.zero_le _,K5,Nat.two_pow_pos r,by simp[val]⟩ ?_ ?_;rintro j x s hj ⟨m1,c,h1,h2,h3,h4,h5,h6⟩;subst h1;have hja:j<a.length:=Qg9 hj;have hx:a[j]=x:=by simpa [hja] using hj
 have hxw:x<4294967296:=by rw[←hx];exact Y8 hw hja
 have hlen:(List.replicate w 0++m1).length=w+j:=by simp;omega
 have g1:=sh_lt (r:=r) (by omega) hxw;have g2:=hi_lt (r:=r) hxw;have g3:=Qq1 (r:=r) (by omega);have g4:=or_lo (x:=x) (show r≤32 by omega) h5;rw[grd_t (by simp),sbind,Int.toNat_natCast,Nat.min_eq_left (by omega),Nat.mod_eq_of_lt g1,sbind,w64 (x:=(w:Int)+(j:Int)) (by omega) (by omega),sbind,show(w:Int)+(j:Int)=((w+j:Nat):Int) by omega];rw[Kx hlen,sbind,sbind,sbind,W5 hlen,g4,show(2:Nat) ^ 32=4294967296 by rfl,Nat.mod_eq_of_lt (show x*2 ^ r / 4294967296<4294967296 by omega)];obtain⟨d,hd⟩:∃ d,a.length - j=d+1:=⟨a.length - j - 1,by omega⟩
 rw[w64 (by omega) (by omega),show((w+j:Nat):Int)+1=((w+j+1:Nat):Int) by omega,hd,List.replicate_succ];rw[show ∀(y:Nat) (l:List Nat),List.replicate w 0++m1++y::l=(List.replicate w 0++(m1++[y]))++l by intro y l;simp];have hlen2:(List.replicate w 0++(m1++[c+x*2 ^ r%4294967296])).length=w+j+1:=by simp;omega
 rw[Kx hlen2,sbind,W5 hlen2,sbind];refine⟨_,rfl,m1++[c+x*2 ^ r%4294967296],x*2 ^ r / 4294967296,by rw[show a.length - (j+1)=d by omega],by simp[h2],by omega,Js.2 ⟨h4,Jx.2 ⟨?_,K5⟩⟩,g2,?_⟩;rw[lo_eq (by omega)];have e1:x%2 ^ (32 - r)+1≤2 ^ (32 - r):=Nat.mod_lt _ (Nat.two_pow_pos _);have e2:=Nat.mul_le_mul_right (2 ^ r) e1;rw[←Nat.pow_add,show 32 - r+r=32 by omega,show(2:Nat) ^ 32=4294967296 by rfl,Nat.add_mul,Nat.one_mul] at e2;omega;rw[Wl,Kc,h2,K1,show a.getD j 0=x by rw[←hx];simp[hja]];exact Q79 _ _ _ _ _ _ _ _ (Nat.div_add_mod (x*2 ^ r) 4294967296) h6;rintro s ⟨m1,c,h1,h2,h3,h4,h5,h6⟩;subst h1;simp only[Xf];have g3:=Qq1 (r:=r) (by omega);rw[Wj hn (by simp;omega),sbind,←Jy (Js.2 ⟨Js.2 ⟨Qjx (by omega),h4⟩,Jx.2 ⟨by omega,Qjx (by omega)⟩⟩)];rw[List.append_assoc,Wr,Qd3,List.length_replicate,Nat.zero_add,Wr];simp only[val];rw[Qd3,h2,Nat.mul_zero,Nat.add_zero,h6,List.take_of_length_le (Nat.le_refl _),Nat.mul_left_comm]
theorem Qn3{a:List Nat}(hw:Wd a)(k:Nat):val a / bp k=val (a.drop k):=by
 rcases Nat.lt_or_ge k a.length with h | h
 . have h1:val a=val (a.take k)+bp k*val (a.drop k):=by
    conv=>lhs;rw[←List.take_append_drop k a]
    rw[Wr,List.length_take,Nat.min_eq_left (by omega)]
   have h2:=W2 (Qmj (k:=k) hw);rw[List.length_take,Nat.min_eq_left (by omega)] at h2;rw[h1,Nat.add_mul_div_left _ _ (Q5p k),Nat.div_eq_of_lt h2,Nat.zero_add]
 . rw[List.drop_of_length_le h]
   exact Nat.div_eq_of_lt (Nat.lt_of_lt_of_le (W2 hw) (bp_le h))
theorem Q5w{a:List Nat}{k:Nat}(h:k<a.length):val (a.drop k)=a[k]+4294967296*(a.getD (k+1) 0+4294967296*val (a.drop (k+2))):=by rw[List.drop_eq_getElem_cons h];simp only[val];by_cases h2:k+1<a.length;rw[List.drop_eq_getElem_cons h2];simp[val,h2];rw[List.drop_of_length_le (by omega),List.drop_of_length_le (by omega)];simp[List.getElem?_eq_none (show a.length≤k+1 by omega),val]
theorem Q61{v z r:Nat}(hr:r≤32):((v+4294967296*4294967296*z) / 2 ^ r)%4294967296=(v / 2 ^ r)%4294967296:=by
 rw[show 4294967296*4294967296*z=2 ^ r*(4294967296*(2 ^ (32 - r)*z)) by
  have:2 ^ r*2 ^ (32 - r)=4294967296:=by rw[←Nat.pow_add,show r+(32 - r)=32 by omega]
  calc 4294967296*4294967296*z=(2 ^ r*2 ^ (32 - r))*4294967296*z:=by rw[this]
   _=_:=by grind]
 rw[Nat.add_mul_div_left _ _ (Nat.two_pow_pos r),Nat.add_mul_mod_self_left]
theorem Q62{k:Nat}{b:List Nat}{x:Nat}{β:Type}(f:Nat->Option β)(hb:Wd b)(hx:x<4294967296):(if ((k:Nat):Int)<(b.length:Int) then (getI b (k:Int)).bind (λy=>f (x ||| (y*2 ^ 32)%18446744073709551616)) else f x)=f (x+4294967296*b.getD k 0):=by by_cases h:k<b.length;rw[if_pos (by omega),Qa1 h,sbind];have hy:=Y8 hb h;rw[show(2:Nat) ^ 32=4294967296 by rfl,Nat.mod_eq_of_lt (by omega),Nat.or_comm,Qxj hx,Nat.mul_comm,Nat.add_comm];simp[h];rw[if_neg (by omega)];simp[List.getElem?_eq_none (show b.length≤k by omega)]
theorem Q63(X P:Nat):X%P+P*(X / P%4294967296)=X%(P*4294967296):=by rw[Nat.mod_mul]
theorem Qxm{n k:Nat}{a:List Nat}(hn:big≤n)(ha:a.length<8796093022208)(hw:Wd a)(hk:k≤4611686018427387904):Qhr n a (k:Int)=some (toL (val a / 2 ^ k)):=by
 unfold Qhr;rw[show max (k:Int) 0=(k:Int) by omega];rw[show Int.tdiv (k:Int) 32=((k / 32:Nat):Int) by rfl,show Int.tmod (k:Int) 32=((k%32:Nat):Int) by rfl];have hp:2 ^ k=bp (k / 32)*2 ^ (k%32):=by rw[Qh7,←Nat.pow_add,Nat.div_add_mod]
 have hr:k%32≤31:=by omega
 have hwk:k / 32≤4611686018427387904:=by omega
 rw[hp];generalize k / 32=w at *;generalize k%32=r at *;rw[←Nat.div_div_eq_div_mul,Qn3 hw];rw[w64 (x:=(w:Int)) (by omega) (by omega),sbind,bifd];by_cases hle:a.length≤w;rw[if_pos (by omega),List.drop_of_length_le hle];simp[val,Vx];rw[if_neg (by omega),w64 (x:=(a.length:Int) - (w:Int)) (by omega) (by omega),sbind,show(a.length:Int) - (w:Int)=((a.length - w:Nat):Int) by omega,Qe4 (by omega) (by omega),sbind];refine Qjw (λj (s:List Nat)=>∃ m1,s=m1++List.replicate (a.length - w - j) 0∧m1.length=j∧Wd m1∧val m1=(val (a.drop w) / 2 ^ r)%bp j) ⟨[],by simp,rfl,K5,by simp[val,Yo,Nat.mod_one]⟩ ?_ ?_;rintro j x s hj ⟨m1,h1,h2,h3,h4⟩;subst h1;have hja:j<a.length - w:=by have:=Qg9 hj;simpa using this
 have hwj:w+j<a.length:=by omega
 simp only[jn_eq,bifd];rw[w64 (x:=(w:Int)+(j:Int)) (by omega) (by omega),show(w:Int)+(j:Int)=((w+j:Nat):Int) by omega,sbind,Qa1 hwj,sbind,sbind,w64 (x:=((w+j:Nat):Int)+1) (by omega) (by omega),show((w+j:Nat):Int)+1=((w+j+1:Nat):Int) by omega];simp only[sbind];rw[w64 (x:=((w+j:Nat):Int)+1) (by omega) (by omega),show((w+j:Nat):Int)+1=((w+j+1:Nat):Int) by omega];rw[Q62 (β:=Lp (List Nat) (List Nat)) (λ(v:Nat)=>(grd (decide (0≤(r:Int)))).bind λ_=>(getI (m1++List.replicate (a.length - w - j) 0) (j:Int)).bind λ_=>some (Lp.go (List.set (m1++List.replicate (a.length - w - j) 0) (Int.toNat (j:Int)) (v / 2 ^ (min (Int.toNat (r:Int)) 64)%4294967296)))) hw (Y8 hw hwj)];rw[grd_t (by simp),sbind,Int.toNat_natCast (n:=r),Nat.min_eq_left (by omega)];obtain⟨d,hd⟩:∃ d,a.length - w - j=d+1:=⟨a.length - w - j - 1,by omega⟩
 rw[hd,List.replicate_succ,Kx h2,sbind,W5 h2];refine⟨_,rfl,m1++[(a[w+j]+4294967296*a.getD (w+j+1) 0) / 2 ^ r%4294967296],by rw[show a.length - w - (j+1)=d by omega];simp,by simp[h2],Js.2 ⟨h3,Jx.2 ⟨by omega,K5⟩⟩,?_⟩;rw[Kc,h2,K1,←Q63,h4,Nat.div_div_eq_div_mul (val (a.drop w)),Nat.mul_comm (2 ^ r) (bp j),←Nat.div_div_eq_div_mul (val (a.drop w)),Qn3 (Qiw hw),List.drop_drop,Q5w hwj,Nat.mul_add,←Nat.add_assoc,←Nat.mul_assoc,Q61 (by omega)];rintro s ⟨m1,h1,h2,h3,h4⟩;subst h1;simp only[Xf];rw[List.length_replicate] at h2 h4;rw[List.length_replicate,Nat.sub_self,List.replicate_zero,List.append_nil,Wj hn (by omega),sbind,←Jy h3,h4,Nat.mod_eq_of_lt];have:=W2 (Qiw (k:=w) hw);rw[List.length_drop] at this;exact Nat.lt_of_le_of_lt (Nat.div_le_self _ _) this
theorem Q20{q r x0 x1 x2 x3 x4:Nat}(h1:q*x3+r=x0*4294967296+x1)(h2:q*x4≤r*4294967296+x2):q*(x3*4294967296+x4)≤(x0*4294967296+x1)*4294967296+x2:=by rw[←h1];grind
theorem Q8a{q r x0 x1 x2 x3 x4:Nat}(h1:(q+1)*x3+r=x0*4294967296+x1)(h2:r*4294967296+x2<(q+1)*x4):(x0*4294967296+x1)*4294967296+x2<(q+1)*(x3*4294967296+x4):=by rw[←h1];grind
theorem Q8b{q r x3:Nat}{U:Nat}(h1:(q+1)*x3+r=U):q*x3+(r+x3)=U:=by rw[←h1];grind
theorem Q21{q r x0 x1 x2 x3 x4:Nat}(h1:q*x3+r=x0*4294967296+x1)(hr:4294967296≤r)(hq:q<4294967296)(h4:x4<4294967296):q*(x3*4294967296+x4)≤(x0*4294967296+x1)*4294967296+x2:=by have e1:q*x4≤4294967295*4294967295:=Nat.mul_le_mul (by omega) (by omega);exact Q20 h1 (by omega)
theorem Q98{X u w x2:Nat}(h:X<u)(h2:x2<4294967296):X*4294967296+x2<u*4294967296+w:=by omega
theorem Q99{q x0 x1 x2 x3 x4:Nat}(h:x0*4294967296+x1<(q+1)*x3)(h2:x2<4294967296):(x0*4294967296+x1)*4294967296+x2<(q+1)*(x3*4294967296+x4):=by
 have e2:(q+1)*(x3*4294967296+x4)=((q+1)*x3)*4294967296+(q+1)*x4:=by rw[Nat.mul_add,Nat.mul_assoc]
 rw[e2];exact Q98 h h2
theorem Qv5{n q0 r0 x0 x1 x2 x3 x4:Nat}(hn:big≤n)(h2:x2<4294967296)(h3:x3<4294967296)(h4:x4<4294967296)(hq:q0<4294967296)(hr:r0<4294967296)
 (he:q0*x3+r0=x0*4294967296+x1) (hm:q0+1=4294967296∨(x0*4294967296+x1)*4294967296+x2<(q0+1)*(x3*4294967296+x4)) :
 ∃ q,(loopM (λ(s34:Nat×Nat)=>
   (Qb6 s34.1 x4 0 0).bind λr35=>
   jn (λ(j37:(Bool)->Option _)=>
    bif decide (r35.1<s34.2) then (
     j37 true)
    else (
     bif decide (r35.1=s34.2) then (
      j37 (decide (r35.2≤x2)))
     else (
      j37 false))) (λ(s39:Bool)=>
    bif s39 then (
     some (Lp.out s34.1))
    else (
     (Zb s34.2 x3 0).bind λr40=>
     bif decide (0<r40.2) then (
      some (Lp.out ((s34.1+4294967296 - 1)%4294967296)))
     else (
      some (Lp.go (((s34.1+4294967296 - 1)%4294967296),r40.1)))))) n (q0,r0)).bind (λ(t32:Nat)=>some t32)=some q ∧
   (q<4294967296∧q*(x3*4294967296+x4)≤(x0*4294967296+x1)*4294967296+x2∧(q+1=4294967296∨(x0*4294967296+x1)*4294967296+x2<(q+1)*(x3*4294967296+x4))):=by
 unfold big at hn
 refine Qdp (λs=>s.1) (λs=>s.1<4294967296∧s.2<4294967296∧s.1*x3+s.2=x0*4294967296+x1∧(s.1+1=4294967296∨(x0*4294967296+x1)*4294967296+x2<(s.1+1)*(x3*4294967296+x4)))
  (λq=>q<4294967296∧q*(x3*4294967296+x4)≤(x0*4294967296+x1)*4294967296+x2∧(q+1=4294967296∨(x0*4294967296+x1)*4294967296+x2<(q+1)*(x3*4294967296+x4))) ⟨hq,hr,he,hm⟩ (by simp only[];omega) ?_ (λt ht=>⟨t,rfl,ht⟩)
 rintro⟨q,r⟩ ⟨g1,g2,g3,g4⟩;simp only at g1 g2 g3 g4;simp only[jn_eq,bifd];rw[Qlv g1 h4 (by omega) (by omega),sbind];simp only[Nat.add_zero]
 have key:(bif decide (q*x4≤r*4294967296+x2) then some (Lp.out q) else
  (Zb r x3 0).bind λr40=>if 0<r40.2 then some (Lp.out ((q+4294967296 - 1)%4294967296)) else some (Lp.go ((q+4294967296 - 1)%4294967296,r40.1)):Option (Lp (Nat×Nat) Nat)) =
  (if q*x4 / 4294967296<r then bif true then some (Lp.out q) else
   (Zb r x3 0).bind λr40=>if 0<r40.2 then some (Lp.out ((q+4294967296 - 1)%4294967296)) else some (Lp.go ((q+4294967296 - 1)%4294967296,r40.1))
   else if q*x4 / 4294967296=r then if q*x4%4294967296≤x2 then some (Lp.out q) else
    (Zb r x3 0).bind λr40=>if 0<r40.2 then some (Lp.out ((q+4294967296 - 1)%4294967296)) else some (Lp.go ((q+4294967296 - 1)%4294967296,r40.1))
   else bif false then some (Lp.out q) else
    (Zb r x3 0).bind λr40=>if 0<r40.2 then some (Lp.out ((q+4294967296 - 1)%4294967296)) else some (Lp.go ((q+4294967296 - 1)%4294967296,r40.1))):=by
  have hd:=Nat.div_add_mod (q*x4) 4294967296;have hm:=Nat.mod_lt (q*x4) (show 4294967296 > 0 by decide);by_cases c1:q*x4 / 4294967296<r;rw[if_pos c1,decide_eq_true (by omega)];rw[if_neg c1];by_cases c2:q*x4 / 4294967296=r;rw[if_pos c2,←bifd];congr 1;exact decide_eq_decide.2 (by omega);rw[if_neg c2,decide_eq_false (by omega)]
 rw[←key,bifd];by_cases hs:q*x4≤r*4294967296+x2;right;rw[if_pos hs];exact⟨q,rfl,g1,Q20 g3 hs,g4⟩;rw[if_neg hs,Qic g2 h3 (by omega),sbind]
 obtain⟨q',rfl⟩:∃ q',q=q'+1:=⟨q - 1,by
  have:q≠0:=by rintro rfl;simp at hs
  omega⟩
 have hq':(q'+1+4294967296 - 1)%4294967296=q':=by omega
 have hnx:=Q8a (x2:=x2) (x4:=x4) g3 (by omega);have hdn:=Q8b g3;simp only[Nat.add_zero];rw[hq'];by_cases ho:0<(r+x3) / 4294967296;right;rw[if_pos ho];exact⟨q',rfl,by omega,Q21 hdn (by omega) (by omega) h4,.inr hnx⟩;left;rw[if_neg ho];refine⟨_,rfl,⟨by simp only[];omega,by simp only[];omega,?_,.inr hnx⟩,by simp only[];omega⟩;simp only[];rw[Nat.mod_eq_of_lt (by omega)];exact hdn
theorem Qv6{n x0 x1 x2 x3 x4:Nat}(hn:big≤n)(h0:x0≤x3)(h1:x1<4294967296)(h2:x2<4294967296)(h3:x3<4294967296)(h4:x4<4294967296)(hz:x3≠0):
 ∃ q,Qen n x0 x1 x2 x3 x4=some q∧(q<4294967296∧q*(x3*4294967296+x4)≤(x0*4294967296+x1)*4294967296+x2∧(q+1=4294967296∨(x0*4294967296+x1)*4294967296+x2<(q+1)*(x3*4294967296+x4))):=by
 unfold Qen;by_cases hlt:x0<x3;rw[Qrg hlt h1 h3,sbind]
 have hq:(x0*4294967296+x1) / x3<4294967296:=Nat.div_lt_of_lt_mul (by
  have:x0*4294967296+4294967296≤x3*4294967296:=by omega
  omega)
 have hr:(x0*4294967296+x1)%x3<x3:=Nat.mod_lt _ (by omega);exact Qv5 hn h2 h3 h4 hq (Nat.lt_trans hr h3) (by rw[Nat.mul_comm];exact Nat.div_add_mod _ _) (.inr (Q99 ((Nat.div_lt_iff_lt_mul (by omega)).1 (Nat.lt_succ_self _)) h2));obtain rfl:x0=x3:=by omega
 rw[show Qdc x0 x1 x0=some (0,0,false) by unfold Qdc;rw[bifd,if_pos (by omega)],sbind];rw[jn_eq];simp only[Bool.not_false,bifT];rw[Qic h1 h3 (by omega),sbind,jn_eq,bifd,if_neg (by omega)];simp only[Nat.add_zero];rw[bifd];have he:4294967295*x0+(x1+x0)=x0*4294967296+x1:=by omega
 by_cases ho:0<(x1+x0) / 4294967296;rw[if_pos ho];exact⟨_,rfl,by omega,Q21 he (by omega) (by omega) h4,.inl rfl⟩;rw[if_neg ho,Nat.mod_eq_of_lt (by omega)];exact Qv5 hn h2 h3 h4 (by omega) (by omega) he (.inl rfl)
theorem Qyo(P M c b d lo hi b' q y u V W:Nat)(e1:4294967296*hi+lo=q*y+c)(e2:d+lo+b=u+4294967296*b')(h:W+q*V=M+P*(c+b)):W+P*d+q*(V+P*y)=M+P*u+P*4294967296*(hi+b'):=by
 have e3:P*d+P*lo+P*b=P*u+P*4294967296*b':=by rw[←Nat.mul_add,←Nat.mul_add,e2];grind
 have e4:P*4294967296*hi+P*lo=P*(q*y)+P*c:=by rw[←Nat.mul_add,←e1];grind
 grind
theorem Qxn{p m q' v:List Nat}{z q:Nat}(hm:m.length=v.length)(hp:p.length+m.length+1+q'.length≤4611686018427387904)(hwm:Wd m)(hwv:Wd v)(hz:z<4294967296)(hq:q<4294967296):
 ∃ r b,Qcd (p++m++z::q') (p.length:Int) v q=some (decide (0<b),p++r++q')∧r.length=v.length+1∧Wd r∧b≤1∧val r+q*val v=val (m++[z])+bp (v.length+1)*b:=by
 have key:∃ R,Qcd (p++m++z::q') (p.length:Int) v q=some R∧∃ r b,R=(decide (0<b),p++r++q')∧r.length=v.length+1∧Wd r∧b≤1∧val r+q*val v=val (m++[z])+bp (v.length+1)*b:=by
  unfold Qcd;refine Qpd (λj (s:List Nat×Nat×Nat)=>∃ m1,s.1=p++m1++(m.drop j++z::q')∧m1.length=j∧j≤v.length∧Wd m1∧s.2.1<4294967296∧s.2.2≤1∧val m1+q*val (v.take j)=val (m.take j)+bp j*(s.2.1+s.2.2)) ⟨[],by simp,rfl,Nat.zero_le _,K5,by simp,by simp,by simp[val]⟩ ?_ ?_;rintro j y ⟨o,c,b⟩ hj ⟨m1,h1,h2,h3,h4,h5,h6,h7⟩;simp only at h1 h5 h6 h7;subst h1;have hjv:j<v.length:=Qg9 hj;have hy:v[j]=y:=by simpa [hjv] using hj
  have hyw:y<4294967296:=by rw[←hy];exact Y8 hwv hjv
  have hmj:j<m.length:=by omega
  have hmw:=Y8 hwm hmj;have hlen:(p++m1).length=p.length+j:=by simp;omega
  have hmul:=Qqz hq hyw h5 (show 0<4294967296 by omega);obtain⟨d,b',g1,g2,g3,g4⟩:=Qlw (x:=m[j]) (y:=(q*y+c+0)%4294967296) (c:=b) hmw (by omega) h6;rw[Qlv hq hyw h5 (by omega),sbind,w64 (by omega) (by omega),show((p.length:Int)+(j:Int))=((p.length+j:Nat):Int) by omega,List.drop_eq_getElem_cons hmj,List.cons_append];simp only[];rw[Kx hlen,sbind,g1,sbind,sbind,W5 hlen];refine⟨_,rfl,m1++[d],by simp,by simp[h2],by omega,Js.2 ⟨h4,Jx.2 ⟨g2,K5⟩⟩,by simp only[];omega,g3,?_⟩;simp only[];rw[Wl,Kq hmj,Kc,Kc,h2,K1,show v.getD j 0=y by rw[←hy];simp[hjv],List.length_take,Nat.min_eq_left (by omega)];exact Qyo _ _ _ _ _ _ _ _ _ _ _ _ _ (Nat.div_add_mod (q*y+c) 4294967296) g4 h7;rintro⟨o,c,b⟩ ⟨m1,h1,h2,h3,h4,h5,h6,h7⟩;simp only at h1 h5 h6 h7;subst h1;simp only[Xf];have hlen:(p++m1).length=p.length+v.length:=by simp;omega
  obtain⟨d,b',g1,g2,g3,g4⟩:=Qlw (x:=z) (y:=c) (c:=b) hz h5 h6;rw[w64 (by omega) (by omega),show((p.length:Int)+(v.length:Int))=((p.length+v.length:Nat):Int) by omega,List.drop_of_length_le (by omega),List.nil_append,Kx hlen,sbind,g1,sbind,sbind,W5 hlen];refine⟨_,rfl,m1++[d],b',by simp,by simp[h2],Js.2 ⟨h4,Jx.2 ⟨g2,K5⟩⟩,g3,?_⟩;rw[List.take_of_length_le (Nat.le_refl _),List.take_of_length_le (by omega)] at h7;rw[Kc,Kc,h2,hm,K1];have:=Qyo (bp v.length) (val m) c b d c 0 b' q 0 z (val v) (val m1) (by omega) g4 h7
  simpa using this
 obtain⟨R,h1,r,b,h2,h3⟩:=key;exact⟨r,b,by rw[h1,h2],h3⟩
theorem Qyp(P M c d c' y u V W:Nat)(e1:4294967296*c'+d=u+y+c)(h:W+P*c=M+V):W+P*d+P*4294967296*c'=M+P*u+(V+P*y):=by grind
theorem Qxo{p m q' v:List Nat}{z:Nat}(hm:m.length=v.length)(hp:p.length+m.length+1+q'.length≤4611686018427387904)(hwm:Wd m)(hwv:Wd v)(hz:z<4294967296):
 ∃ r b,Qdx (p++m++z::q') (p.length:Int) v=some (p++r++q')∧r.length=v.length+1∧Wd r∧b≤1∧val r+bp (v.length+1)*b=val (m++[z])+val v:=by
 have key:∃ R,Qdx (p++m++z::q') (p.length:Int) v=some R∧∃ r b,R=p++r++q'∧r.length=v.length+1∧Wd r∧b≤1∧val r+bp (v.length+1)*b=val (m++[z])+val v:=by
  unfold Qdx;refine Qpd (λj (s:List Nat×Nat)=>∃ m1,s.1=p++m1++(m.drop j++z::q')∧m1.length=j∧j≤v.length∧Wd m1∧s.2≤1∧val m1+bp j*s.2=val (m.take j)+val (v.take j)) ⟨[],by simp,rfl,Nat.zero_le _,K5,by simp,by simp[val]⟩ ?_ ?_;rintro j y ⟨o,c⟩ hj ⟨m1,h1,h2,h3,h4,h6,h7⟩;simp only at h1 h6 h7;subst h1;have hjv:j<v.length:=Qg9 hj;have hy:v[j]=y:=by simpa [hjv] using hj
  have hyw:y<4294967296:=by rw[←hy];exact Y8 hwv hjv
  have hmj:j<m.length:=by omega
  have hmw:=Y8 hwm hmj;have hlen:(p++m1).length=p.length+j:=by simp;omega
  rw[w64 (by omega) (by omega),show((p.length:Int)+(j:Int))=((p.length+j:Nat):Int) by omega,List.drop_eq_getElem_cons hmj,List.cons_append];rw[Kx hlen,sbind,Qic hmw hyw (by simp only[];omega),sbind,sbind,W5 hlen];refine⟨_,rfl,m1++[(m[j]+y+c)%4294967296],by simp,by simp[h2],by omega,Js.2 ⟨h4,Jx.2 ⟨by omega,K5⟩⟩,by simp only[];omega,?_⟩;simp only[];rw[Wl,Wl,Kc,h2,K1,show v.getD j 0=y by rw[←hy];simp[hjv],show m.getD j 0=m[j] by simp[hmj]];exact Qyp _ _ _ _ _ _ _ _ _ (Nat.div_add_mod (m[j]+y+c) 4294967296) h7;rintro⟨o,c⟩ ⟨m1,h1,h2,h3,h4,h6,h7⟩;simp only at h1 h6 h7;subst h1;simp only[Xf];have hlen:(p++m1).length=p.length+v.length:=by simp;omega
  rw[w64 (by omega) (by omega),show((p.length:Int)+(v.length:Int))=((p.length+v.length:Nat):Int) by omega,List.drop_of_length_le (by omega),List.nil_append,Kx hlen,sbind,sbind,W5 hlen,sbind];refine⟨_,rfl,m1++[(z+c)%4294967296],(z+c) / 4294967296,by simp,by simp[h2],Js.2 ⟨h4,Jx.2 ⟨by omega,K5⟩⟩,by omega,?_⟩;rw[List.take_of_length_le (Nat.le_refl _),List.take_of_length_le (by omega)] at h7;rw[Kc,Kc,h2,hm,K1];have:=Qyp (bp v.length) (val m) c ((z+c)%4294967296) ((z+c) / 4294967296) 0 z (val v) (val m1) (by omega) h7
  simpa using this
 obtain⟨R,h1,r,b,h2,h3⟩:=key;exact⟨r,b,by rw[h1,h2],h3⟩
theorem kn_a{P vl V2 ul U3 q qh:Nat}(h1:ul<P)(hq:q<4294967296)(hU:q*(vl+P*V2)≤ul+P*U3)(hm:qh+1=4294967296∨U3<(qh+1)*V2):q≤qh:=by
 rcases hm with hm | hm;omega;have e1:P*(q*V2)≤q*(vl+P*V2):=by rw[Nat.mul_add,Nat.mul_left_comm];exact Nat.le_add_left _ _
 have e2:P*(q*V2)<P*(U3+1):=by rw[Nat.mul_add,Nat.mul_one];omega
 have e3:q*V2<U3+1:=Nat.lt_of_mul_lt_mul_left e2;have e4:q*V2<(qh+1)*V2:=by omega
 exact Nat.le_of_lt_succ (Nat.lt_of_mul_lt_mul_right e4)
theorem kn_b{P vl V2 ul U3 qh:Nat}(h1:vl<P)(hq:qh<4294967296)(h2:4294967296≤V2)(hm:qh*V2≤U3):qh*(vl+P*V2)≤(ul+P*U3)+(vl+P*V2):=by
 have e1:qh*(vl+P*V2)=qh*vl+P*(qh*V2):=by rw[Nat.mul_add,Nat.mul_left_comm]
 have e2:P*(qh*V2)≤P*U3:=Nat.mul_le_mul_left _ hm;have e3:qh*vl≤V2*P:=Nat.mul_le_mul (by omega) (by omega);rw[e1];rw[Nat.mul_comm V2 P] at e3;omega
theorem kn_z{P vl v3 v4 ul z x1 x2:Nat}(h1:vl<P)(h4:v4<4294967296)(hU:ul+P*((z*4294967296+x1)*4294967296+x2)<4294967296*(vl+P*(v3*4294967296+v4))):z≤v3:=by
 have e1:P*(z*4294967296*4294967296)≤P*((z*4294967296+x1)*4294967296+x2):=Nat.mul_le_mul_left _ (by omega);have e2:vl+P*(v3*4294967296+v4)<P*((v3+1)*4294967296):=by have:P*(v3*4294967296+v4+1)≤P*((v3+1)*4294967296):=Nat.mul_le_mul_left _ (by omega);rw[Nat.mul_add _ _ 1,Nat.mul_one] at this;omega
 have e3:P*(z*4294967296*4294967296)<P*((v3+1)*4294967296*4294967296):=by have a1:P*((v3+1)*4294967296*4294967296)=P*((v3+1)*4294967296)*4294967296:=(Nat.mul_assoc _ _ _).symm;omega
 have e4:=Nat.lt_of_mul_lt_mul_left e3;omega
theorem dm_of{U V q r:Nat}(h:r+q*V=U)(hr:r<V):U / V=q∧U%V=r:=by subst h;rw[Nat.add_mul_div_right _ _ (by omega),Nat.div_eq_of_lt hr,Nat.add_mul_mod_self_right,Nat.mod_eq_of_lt hr];omega
theorem last2{l:List Nat}{m:Nat}(h:l.length=m+2):∃ l' a b,l=l'++[a,b]∧l'.length=m:=by refine⟨l.take m,l[m],l[m+1],?_,by simp;omega⟩;have h1:=Kq (a:=l) (k:=m) (by omega);have h2:=Kq (a:=l) (k:=m+1) (by omega);rw[List.take_of_length_le (by omega)] at h2;refine h2.trans ?_;rw[h1,List.append_assoc];rfl
theorem Q64(p y w qs V U j:Nat)(q r:Nat)(hU:U=y+4294967296*w)(h:r+q*V=U):(p+j*y)+j*4294967296*(w+V*qs)=p+j*(r+V*(q+4294967296*qs)):=by grind
theorem Q4a{n:Nat}{p w rest v:List Nat}{z:Nat}(hn:big≤n){vl wl:List Nat}{v3 v4 x1 x2:Nat}(hv:v=vl++[v4,v3])(hw:w=wl++[x2,x1])(hl:wl.length=vl.length)
 (hwv:Wd v) (hww:Wd w) (hz:z<4294967296) (h3:v3≠0) (hp:p.length+w.length+1+rest.length≤4611686018427387904) (hU:val (w++[z])<4294967296*val v) :
 ∃ r qh,Qen n z x1 x2 v3 v4=some qh∧r.length=v.length+1∧Wd r∧val r=val (w++[z])%val v∧val (w++[z]) / val v<4294967296 ∧
   ((Qcd (p++w++z::rest) (p.length:Int) v qh=some (false,p++r++rest)∧qh=val (w++[z]) / val v) ∨
    (∃ r1,Qcd (p++w++z::rest) (p.length:Int) v qh=some (true,r1)∧Qdx r1 (p.length:Int) v=some (p++r++rest)∧(qh+4294967296 - 1)%4294967296=val (w++[z]) / val v)):=by
 have hwl:w.length=v.length:=by rw[hv,hw];simp[hl]
 have w1:Wd vl∧v4<4294967296∧v3<4294967296:=by rw[hv] at hwv;exact⟨(Js.1 hwv).1,(Jx.1 (Js.1 hwv).2).1,(Jx.1 (Jx.1 (Js.1 hwv).2).2).1⟩
 have w2:Wd wl∧x2<4294967296∧x1<4294967296:=by rw[hw] at hww;exact⟨(Js.1 hww).1,(Jx.1 (Js.1 hww).2).1,(Jx.1 (Jx.1 (Js.1 hww).2).2).1⟩
 obtain⟨w1,w3,w4⟩:=w1;obtain⟨w2,w5,w6⟩:=w2;have hV:val v=val vl+bp vl.length*(v3*4294967296+v4):=by rw[hv,Wr];simp only[val];congr 2;omega
 have hW:val (w++[z])=val wl+bp vl.length*((z*4294967296+x1)*4294967296+x2):=by rw[hw,List.append_assoc,Wr,hl];simp only[List.cons_append,List.nil_append,val];congr 2;omega
 have l1:=W2 w1;have l2:=W2 w2;rw[hl] at l2;have hz3:z≤v3:=by rw[hV,hW] at hU;exact kn_z l1 w3 hU
 obtain⟨qh,g1,g2,g3,g4⟩:=Qv6 hn hz3 w6 w5 w4 w3 h3;have hVp:0<val v:=by rcases Nat.eq_zero_or_pos (val v) with h | h;rw[h] at hU;omega;exact h
 have hqB:val (w++[z]) / val v<4294967296:=(Nat.div_lt_iff_lt_mul hVp).2 hU;have hqa:val (w++[z]) / val v≤qh:=by have:=Nat.div_mul_le_self (val (w++[z])) (val v);exact kn_a (vl:=val vl) l2 hqB (by rw[←hV,←hW];exact this) g4
 have hqb:qh*val v≤val (w++[z])+val v:=by rw[hV,hW];exact kn_b l1 g2 (by omega) g3
 have hUq:val (w++[z])<(qh+1)*val v:=Nat.lt_of_lt_of_le ((Nat.div_lt_iff_lt_mul hVp).1 (Nat.lt_succ_self _)) (Nat.mul_le_mul_right _ (by omega));obtain⟨r,b,t1,t2,t3,t4,t5⟩:=Qxn (p:=p) (m:=w) (q':=rest) (v:=v) (z:=z) (q:=qh) hwl hp hww hwv hz g2;rw[Nat.add_mul,Nat.one_mul] at hUq;have hvb:=W2 hwv;have hbb:bp v.length≤bp (v.length+1):=bp_le (by omega);by_cases hb:b=0;subst hb;rw[Nat.mul_zero,Nat.add_zero] at t5;obtain⟨d1,d2⟩:=dm_of t5 (by omega);exact⟨r,qh,g1,t2,t3,d2.symm,hqB,.inl ⟨t1,d1.symm⟩⟩;obtain rfl:b=1:=by omega
 rw[Nat.mul_one] at t5;have hr:=W2 t3;rw[t2] at hr;obtain⟨r0,rz,e1⟩:∃ r0 rz,r=r0++[rz]:=by rcases List.eq_nil_or_concat r with h | ⟨r0,rz,h⟩;rw[h] at t2;simp at t2;exact⟨r0,rz,by rw[h,List.concat_eq_append]⟩
 have e2:r0.length=v.length:=by rw[e1] at t2;simpa using t2
 have e3:Wd r0∧rz<4294967296:=by rw[e1] at t3;exact⟨(Js.1 t3).1,(Jx.1 (Js.1 t3).2).1⟩
 obtain⟨r',b2,u1,u2,u3,u4,u5⟩:=Qxo (p:=p) (m:=r0) (q':=rest) (v:=v) (z:=rz) e2 (by omega) e3.1 hwv e3.2;have hr':=W2 u3;rw[u2] at hr';rw[←e1] at u5
 obtain⟨qq,rfl⟩:∃ qq,qh=qq+1:=⟨qh - 1,by
  have:qh≠0:=by rintro rfl;omega
  omega⟩
 rw[Nat.add_mul,Nat.one_mul] at *;have hb2:b2=1:=by rcases Nat.eq_zero_or_pos b2 with h | h;subst h;rw[Nat.mul_zero] at u5;omega;omega
 subst hb2;rw[Nat.mul_one] at u5;obtain⟨d1,d2⟩:=dm_of (U:=val (w++[z])) (V:=val v) (q:=qq) (r:=val r') (by omega) (by omega);refine⟨r',qq+1,g1,u2,u3,d2.symm,hqB,.inr ⟨p++r++rest,t1,?_,by rw[d1];omega⟩⟩;rw[e1,show p++(r0++[rz])++rest=p++r0++rz::rest by simp];exact u1
theorem Qxp{n:Nat}{u v vl:List Nat}{v3 v4:Nat}(hn:big≤n)(hv:v=vl++[v4,v3])(h3:v3≠0)(hwu:Wd u)(hwv:Wd v)(hu:u.length<35184372088832)(hl:v.length≤u.length)(ht:val (u.drop (u.length - v.length))<val v):
 ∃ r,Qhq n u v=some r∧(r.1.length=u.length - v.length∧Wd r.1∧r.2.length=u.length∧Wd r.2∧val u=val v*val r.1+val r.2∧val r.2<val v):=by
 unfold Qhq;have hn':=hn;unfold big at hn';have hvl:v.length=vl.length+2:=by rw[hv];simp
 rw[w64 (x:=(u.length:Int) - (v.length:Int)) (by omega) (by omega),show(u.length:Int) - (v.length:Int)=((u.length - v.length:Nat):Int) by omega,Qe4 (by omega) (by omega),sbind]
 refine Qdp (λs=>(s.2.2+1).toNat) (λs=>∃(k:Nat) (p w qs:List Nat),s.2.2=(k:Int) - 1∧k≤u.length - v.length∧s.1=p++w∧p.length=k∧w.length=u.length - k∧Wd p∧Wd w∧val w<val v∧s.2.1=List.replicate k 0++qs∧qs.length=u.length - v.length - k∧Wd qs∧val u=val p+bp k*(val w+val v*val qs))
  (λt=>t.2.length=u.length - v.length∧Wd t.2∧t.1.length=u.length∧Wd t.1∧val u=val v*val t.2+val t.1∧val t.1<val v) ⟨u.length - v.length,u.take (u.length - v.length),u.drop (u.length - v.length),[],?_,Nat.le_refl _,by simp only[List.take_append_drop],by simp,by simp,Qmj hwu,Qiw hwu,ht,by simp only[List.append_nil],by simp,K5,?_⟩ ?_ ?_ (λt ht=>⟨_,rfl,ht⟩)
 . simp only[];rw[List.length_replicate,w64 (by omega) (by omega)]
 . simp only[val,Nat.mul_zero,Nat.add_zero]
   conv=>lhs;rw[←List.take_append_drop (u.length - v.length) u]
   rw[Wr,List.length_take,Nat.min_eq_left (by omega)]
 . simp only[];rw[List.length_replicate,w64 (by omega) (by omega)];omega
 . rintro⟨uu,qq,i⟩ ⟨k,p,w,qs,i1,i2,i3,i4,i5,i6,i7,i8,i9,i10,i11,i12⟩
   simp only at i1 i3 i9;subst i1 i3 i9;simp only[jn_eq,bifd];by_cases h0:0<k
   . left
     obtain⟨j,rfl⟩:∃ j,k=j+1:=⟨k - 1,by omega⟩
     obtain⟨p1,y,e1⟩:∃ p1 y,p=p1++[y]:=by
      rcases List.eq_nil_or_concat p with h | ⟨p1,y,h⟩
      . rw[h] at i4;simp at i4
      . exact⟨p1,y,by rw[h,List.concat_eq_append]⟩
     subst e1;have e2:p1.length=j:=by simpa using i4
     have e3:Wd p1∧y<4294967296:=⟨(Js.1 i6).1,(Jx.1 (Js.1 i6).2).1⟩
     have e4:Wd (y::w):=Jx.2 ⟨e3.2,i7⟩;have e5:v.length<(y::w).length:=by simp;omega
     have e6:y::w=(y::w).take v.length++(y::w)[v.length]::(y::w).drop (v.length+1):=Q5r e5;have e7:val ((y::w).drop (v.length+1))=0:=by rw[List.drop_succ_cons,←Qn3 i7];exact Nat.div_eq_of_lt (Nat.lt_trans i8 (W2 hwv))
     have e8:val ((y::w).take v.length++[(y::w)[v.length]])=y+4294967296*val w:=by have:=congrArg val e6;rw[show ∀(a b:List Nat) (x:Nat),a++x::b=(a++[x])++b by intro a b x;simp,Wr,e7,Nat.mul_zero,Nat.add_zero] at this;rw[←this];rfl
     have w1:Wd ((y::w).take v.length):=Qmj e4;have w2:(y::w)[v.length]<4294967296:=Y8 e4 e5;have w3:Wd ((y::w).drop (v.length+1)):=Qiw e4;have w4:((y::w).take v.length).length=v.length:=by rw[List.length_take,Nat.min_eq_left (by omega)]
     have w5:((y::w).drop (v.length+1)).length=u.length - j - (v.length+1):=by rw[List.length_drop,List.length_cons];omega
     rw[show p1++[y]++w=p1++(y::w) by simp,e6];generalize (y::w).take v.length=W at *;generalize (y::w)[v.length]=z at *;generalize (y::w).drop (v.length+1)=R at *;obtain⟨wl,x2,x1,f1,f2⟩:=last2 (l:=W) (m:=vl.length) (by omega);obtain⟨r,qh,g1,g2,g3,g4,g5,g6⟩:=Q4a (p:=p1) (w:=W) (rest:=R) (v:=v) (z:=z) hn hv f1 f2 hwv w1 w2 h3 (by rw[w4,w5];omega) (by rw[e8];omega);rw[if_pos (by omega),show((j+1:Nat):Int) - 1=(j:Int) by omega];rw[w64 (x:=(j:Int)+(v.length:Int)) (by omega) (by omega),show(j:Int)+(v.length:Int)=((j+vl.length+2:Nat):Int) by omega];rw[w64 (x:=((j+vl.length+2:Nat):Int) - 1) (by omega) (by omega),w64 (x:=((j+vl.length+2:Nat):Int) - 2) (by omega) (by omega),show((j+vl.length+2:Nat):Int) - 1=((j+vl.length+1:Nat):Int) by omega,show((j+vl.length+2:Nat):Int) - 2=((j+vl.length:Nat):Int) by omega];rw[w64 (x:=(v.length:Int) - 1) (by omega) (by omega),w64 (x:=(v.length:Int) - 2) (by omega) (by omega),show(v.length:Int) - 1=((vl.length+1:Nat):Int) by omega,show(v.length:Int) - 2=((vl.length:Nat):Int) by omega];have a1:getI (p1++(W++z::R)) ((j+vl.length+2:Nat):Int)=some z:=by
      rw[←List.append_assoc];exact Kx (by rw[List.length_append,w4];omega)
     have a2:getI (p1++(W++z::R)) ((j+vl.length+1:Nat):Int)=some x1:=by rw[f1,show p1++(wl++[x2,x1]++z::R)=(p1++wl++[x2])++x1::(z::R) by simp];exact Kx (by simp;omega)
     have a3:getI (p1++(W++z::R)) ((j+vl.length:Nat):Int)=some x2:=by rw[f1,show p1++(wl++[x2,x1]++z::R)=(p1++wl)++x2::(x1::z::R) by simp];exact Kx (by simp;omega)
     have a4:getI v ((vl.length+1:Nat):Int)=some v3:=by rw[hv,show vl++[v4,v3]=(vl++[v4])++v3::[] by simp];exact Kx (by simp)
     have a5:getI v ((vl.length:Nat):Int)=some v4:=by rw[hv];exact Kx rfl
     rw[a1,sbind,a2,sbind,a3,sbind,a4,sbind,a5,sbind,g1,sbind]
     have a6:∀(q':Nat),getI (List.replicate (j+1) 0++qs) (j:Int)=some 0∧(List.replicate (j+1) 0++qs).set (Int.toNat (j:Int)) q'=List.replicate j 0++q'::qs:=λq'=>by rw[List.replicate_succ',List.append_assoc,List.singleton_append];exact⟨Kx (by simp),W5 (by simp)⟩
     rw[e2,List.append_assoc] at g6;have hfin:∀ q',q'=val (W++[z]) / val v->∃ s',(some (Lp.go (p1++r++R,List.replicate j 0++q'::qs,wrap64 ((j:Int) - 1))):Option (Lp (List Nat×List Nat×Int) (List Nat×List Nat)))=some (Lp.go s')∧(∃(k:Nat) (p w qs:List Nat),s'.2.2=(k:Int) - 1∧k≤u.length - v.length∧s'.1=p++w∧p.length=k∧w.length=u.length - k∧Wd p∧Wd w∧val w<val v∧s'.2.1=List.replicate k 0++qs∧qs.length=u.length - v.length - k∧Wd qs∧val u=val p+bp k*(val w+val v*val qs))∧(s'.2.2+1).toNat<((j:Int)+1).toNat:=by
      intro q' hq';have hVp:0<val v:=by omega
      rw[w64 (by omega) (by omega)];refine⟨_,rfl,⟨j,p1,r++R,q'::qs,rfl,by omega,by rw[List.append_assoc],e2,by rw[List.length_append,g2,w5];omega,e3.1,Js.2 ⟨g3,w3⟩,?_,rfl,by rw[List.length_cons];omega,Jx.2 ⟨by omega,i11⟩,?_⟩,by simp only[];omega⟩
      . rw[Wr,e7,Nat.mul_zero,Nat.add_zero,g4];exact Nat.mod_lt _ hVp
      . rw[i12,Kc,e2,K1,Wr,e7,Nat.mul_zero,Nat.add_zero]
        simp only[val];refine Q64 _ _ _ _ _ _ _ _ _ e8 ?_;rw[g4,hq',Nat.mul_comm];exact Nat.mod_add_div _ _
     rcases g6 with ⟨t1,t2⟩ | ⟨r1,t1,t2,t3⟩
     . rw[t1,sbind]
       simp only[bifF];rw[(a6 qh).1,sbind,(a6 qh).2];exact hfin _ t2
     . rw[t1,sbind]
       simp only[bifT];rw[t2,sbind,(a6 ((qh+4294967296 - 1)%4294967296)).1,sbind,(a6 _).2];exact hfin _ t3
   . right
     obtain rfl:k=0:=by omega
     obtain rfl:p=[]:=List.eq_nil_of_length_eq_zero i4;rw[if_neg (by omega)];refine⟨_,rfl,by simp only[List.replicate_zero,List.nil_append];omega,by simpa using i11,by simp only[List.nil_append];omega,by simpa using i7,?_,by simpa using i8⟩;rw[i12,Yo];simp[val];omega
theorem Jaa{x:Nat}(h2:x<4294967296):blen x≤32:=by
 rcases Nat.lt_or_ge 32 (blen x) with h | h;have h0:x≠0:=by rintro rfl;rw[Qe7] at h;omega
 have g1:=Qko h0;have g2:2 ^ 32≤2 ^ (blen x - 1):=Nat.pow_le_pow_right (by decide) (by omega);rw[show(2:Nat) ^ 32=4294967296 by decide] at g2;omega;exact h
theorem Ji{a:List Nat}(hw:Wd a):(toL (val a)).length≤a.length:=by rw[Jy hw];exact Xv a
theorem Quc{v s:Nat}(hs:s≤32):(toL (v*2 ^ s)).length≤(toL v).length+1:=by refine Qa2 ?_;have h1:=W2 (Q0 v);rw[Qt] at h1;rw[K1];exact Nat.lt_of_lt_of_le (Nat.mul_lt_mul_of_pos_right h1 (Nat.two_pow_pos s)) (Nat.mul_le_mul_left _ (Qq1 hs))
theorem len2{v:Nat}(h:4294967296≤v):∃ vl v4 v3,toL v=vl++[v4,v3]∧v3≠0:=by
 have h0:toL v≠[]:=by rw[Qak (by omega)];simp
 obtain⟨p,x,h1,h2,h3,h4⟩:=Qut h0;rcases List.eq_nil_or_concat p with h5 | ⟨p',y,h5⟩;exfalso;have:=Qt v;rw[h1,h5] at this;simp[val] at this;omega;exact⟨p',y,x,by rw[h1,h5,List.concat_eq_append];simp,h2⟩
theorem Jab{v:Nat}(h:v≠0):bp ((toL v).length - 1)≤v:=by
 have h0:toL v≠[]:=by rw[Qak h];simp
 obtain⟨p,x,h1,h2,h3,h4⟩:=Qut h0;have:=Qt v;rw[h1,Kc] at this;rw[h1,List.length_append,List.length_singleton,Nat.add_sub_cancel,←this];have:bp p.length*1≤bp p.length*x:=Nat.mul_le_mul_left _ (by omega);omega
theorem Qid{n:Nat}{a b:List Nat}(hn:big≤n)(ha:a.length<4398046511104)(hb:b.length<4398046511104)(hwa:Wd a)(hwb:Wd b):
 Qdd n a b=some (if val b=0 then ([],[],false) else (toL (val a / val b),toL (val a%val b),true)):=by
 unfold Qdd;have hlb:=Ji hwb;have hla:=Ji hwa;rw[Wj hn (by omega),sbind,←Jy hwb,bifd];by_cases h0:val b=0;rw[h0,Vx,if_pos (by rfl),if_pos rfl];have hne:toL (val b)≠[]:=by rw[Qak h0];simp
 have hl0:(toL (val b)).length≠0:=λh=>hne (List.eq_nil_of_length_eq_zero h);rw[if_neg (by omega),if_neg h0,Qgx hn (by omega) (by omega) hwa (Q0 _),sbind,Qt,bifd];by_cases hlt:val a<val b;rw[if_pos (by rw[cmpI,if_pos hlt];decide),Wj hn (by omega),sbind,Nat.div_eq_of_lt hlt,Nat.mod_eq_of_lt hlt,Vx,Jy hwa];rw[if_neg (by rw[cmpI,if_neg hlt];split<;>decide),bifd];by_cases h1:(toL (val b)).length=1;rw[if_pos (by omega)];obtain⟨y,hy⟩:=List.length_eq_one_iff.1 h1;have hv:=Qt (val b);have hw:=Q0 (val b);rw[hy] at hv hw;simp only[val,Nat.mul_zero,Nat.add_zero] at hv;have hyw:=(Jx.1 hw).1;rw[hy,show getI [y] (0:Int)=some y by rfl,sbind,Qxk hn (by omega) hwa (by omega) hyw,sbind];simp only[];have:=Nat.mod_lt (val a) (show y > 0 by omega);rw[Qd4 hn (by omega),sbind,←hv];rw[if_neg (by omega)];have hbig:4294967296≤val b:=by
  rcases Nat.lt_or_ge (val b) 4294967296 with h | h;have:=Qa2 (n:=val b) (k:=1) (by rw[K1,Yo];omega);omega;exact h
 obtain⟨bl,b4,b3,e1,e2⟩:=len2 hbig;have hwb':=Q0 (val b);have hb3:b3<4294967296:=by rw[e1] at hwb';exact(Jx.1 (Jx.1 (Js.1 hwb').2).2).1
 have hbl:(toL (val b)).length=bl.length+2:=by rw[e1];simp
 rw[w64 (x:=((toL (val b)).length:Int) - 1) (by omega) (by omega),show((toL (val b)).length:Int) - 1=((bl.length+1:Nat):Int) by omega];rw[show getI (toL (val b)) ((bl.length+1:Nat):Int)=some b3 by rw[e1,show bl++[b4,b3]=(bl++[b4])++b3::[] by simp];exact Kx (by simp),sbind,Qri hn hb3,sbind];have hs:=Jaa hb3;rw[w64 (x:=(32:Int) - (blen b3:Int)) (by omega) (by omega),show(32:Int) - (blen b3:Int)=((32 - blen b3:Nat):Int) by omega];have hs':32 - blen b3≤32:=by omega
 generalize 32 - blen b3=s at *;have hS:=Nat.two_pow_pos s;rw[Qss hn (by omega) hwa (by omega),sbind];have l1:=Quc (v:=val a) hs';have l2:=Quc (v:=val b) hs';rw[Vw (by simp;omega) (by simp;omega),sbind,Qss hn (by omega) hwb' (by omega),sbind,Qt];have hbs:val b≤val b*2 ^ s:=Nat.le_mul_of_pos_right _ hS;obtain⟨vl,v4,v3,f1,f2⟩:=len2 (v:=val b*2 ^ s) (by omega);have hab:val b*2 ^ s≤val a*2 ^ s:=Nat.mul_le_mul_right _ (by omega);have hll:=Ws hab;have hge:=Jab (v:=val b*2 ^ s) (by omega);have hvl:(toL (val b*2 ^ s)).length=vl.length+2:=by rw[f1];simp
 have hwu:Wd (toL (val a*2 ^ s)++[0]):=Js.2 ⟨Q0 _,Jx.2 ⟨by omega,K5⟩⟩
 obtain⟨⟨q,r⟩,g1,g2,g3,g4,g5,g6,g7⟩:=Qxp (u:=toL (val a*2 ^ s)++[0]) (v:=toL (val b*2 ^ s)) hn f1 f2 hwu (Q0 _) (by simp;omega) (by simp;omega) (by
  rw[List.length_append,List.length_singleton,List.drop_append_of_le_length (by omega),Kc,Nat.mul_zero,Nat.add_zero,Qt];have:=W2 (Qiw (k:=(toL (val a*2 ^ s)).length+1 - (toL (val b*2 ^ s)).length) (Q0 (val a*2 ^ s)));rw[List.length_drop] at this
  exact Nat.lt_of_lt_of_le this (Nat.le_trans (bp_le (by omega)) hge))
 simp only at g2 g3 g4 g5 g6 g7;rw[Kc,Nat.mul_zero,Nat.add_zero,Qt,Qt] at g6;rw[Qt] at g7;rw[List.length_append,List.length_singleton] at g2 g4;rw[g1,sbind];simp only[];rw[Wj hn (by omega),sbind,Qxm hn (by omega) g5 (by omega),sbind,←Jy g3];obtain⟨d1,d2⟩:=dm_of (U:=val a*2 ^ s) (V:=val b*2 ^ s) (q:=val q) (r:=val r) (by rw[g6,Nat.mul_comm (val q)];omega) g7;rw[Nat.mul_div_mul_right _ _ hS] at d1;rw[Nat.mul_mod_mul_right] at d2;rw[←d1,←d2,Nat.mul_div_cancel _ hS]
theorem Qts{n x y:Nat}(hn:big≤n)(hy:y<18446744073709551616):Qeo n x y=some (Nat.gcd x y):=by unfold Qeo;unfold big at hn;refine Y7 (λs=>s.2) (λs=>s.2<18446744073709551616∧Nat.gcd s.1 s.2=Nat.gcd x y) (λt=>t=Nat.gcd x y) ⟨hy,rfl⟩ (by simp only[];omega) ?_ (λt ht=>by rw[ht]);rintro⟨u,v⟩ ⟨h1,h2⟩;simp only at h1 h2;simp only[bifnd];by_cases h0:v=0;right;rw[if_pos h0];exact⟨_,rfl,by rw[←h2,h0,Nat.gcd_zero_right]⟩;left;rw[if_neg h0,grd_t (by simp[h0]),sbind];have:=Nat.mod_lt u (show v > 0 by omega);exact⟨_,rfl,⟨by simp only[];omega,by rw[←h2,Nat.gcd_comm u v,Nat.gcd_rec v u,Nat.gcd_comm]⟩,this⟩
theorem Qv7{v:Nat}:Qgk (toL v)=some (decide (v=1)):=by
 unfold Qgk;simp only[jn_eq,bifd];by_cases h:(toL v).length=1;obtain⟨x,hx⟩:=List.length_eq_one_iff.1 h;have:=Qt v;rw[hx] at this;simp[val] at this;rw[hx,if_pos (by simp),show getI [x] (0:Int)=some x by rfl,sbind,this];rw[if_neg (by omega)];have:v≠1:=by rintro rfl;apply h;rw[Qak (by decide),show 1 / 4294967296=0 by decide,Vx];rfl
 rw[decide_eq_false this]
theorem Q8c{v k:Nat}(h:v<2 ^ k):blen v≤k:=by
 rcases Nat.lt_or_ge k (blen v) with h1 | h1;have h0:v≠0:=by rintro rfl;rw[Qe7] at h1;omega
 have g1:=Qko h0;have g2:2 ^ k≤2 ^ (blen v - 1):=Nat.pow_le_pow_right (by decide) (by omega);omega;exact h1
theorem Q8d{r u:Nat}(h:2*r<u):blen r<blen u:=by
 have hu:=Qmk (x:=u);by_cases h0:r=0;subst h0;rw[Qe7];exact Qq0 (by omega);have g1:=Qko h0;have g2:=Qq0 h0;have g3:2 ^ blen r=2 ^ (blen r - 1)*2:=by rw[←Nat.pow_succ,show(blen r - 1).succ=blen r by omega]
 have g4:2 ^ blen r<2 ^ blen u:=by omega
 exact(Nat.pow_lt_pow_iff_right (by decide)).1 g4
theorem Qq2{v:Nat}:blen v≤32*(toL v).length:=by refine Q8c ?_;rw[←Qh7];have:=W2 (Q0 v);rwa [Qt] at this
theorem Q65{u v:Nat}(h0:v≠0):blen v+blen (u%v)+(if v<u%v then 1 else 0)<blen u+blen v+(if u<v then 1 else 0):=by
 have hm:=Nat.mod_lt u (show v > 0 by omega);rw[if_neg (by omega)];by_cases h:u<v;rw[if_pos h,Nat.mod_eq_of_lt h];omega;rw[if_neg h];have h1:2*(u%v)<u:=by have e1:=Nat.div_add_mod u v;have e2:1≤u / v:=(Nat.le_div_iff_mul_le (by omega)).2 (by omega);have e3:v*1≤v*(u / v):=Nat.mul_le_mul_left _ e2;omega
 have:=Q8d h1;omega
theorem Qv8{n:Nat}{a b:List Nat}(hn:big≤n)(ha:a.length<4398046511104)(hb:b.length<4398046511104)(hwa:Wd a)(hwb:Wd b):Qgj n a b=some (toL (Nat.gcd (val a) (val b))):=by
 unfold Qgj;have hla:=Ji hwa;have hlb:=Ji hwb;rw[Wj hn (by omega),sbind,Wj hn (by omega),sbind,←Jy hwa,←Jy hwb];have hn':=hn;unfold big at hn'
 refine Y7 (λs=>blen (val s.1)+blen (val s.2)+(if val s.1<val s.2 then 1 else 0)) (λs=>∃ u v,s=(toL u,toL v)∧Nat.gcd u v=Nat.gcd (val a) (val b)∧(toL u).length<4398046511104∧(toL v).length<4398046511104)
  (λt=>∃ u v,t=(toL u,toL v)∧Nat.gcd u v=Nat.gcd (val a) (val b)∧(toL u).length<4398046511104∧(toL v).length≤2) ⟨val a,val b,rfl,rfl,by omega,by omega⟩ ?_ ?_ ?_
 simp only[Qt];have h1:=Qq2 (v:=val a);have h2:=Qq2 (v:=val b);split<;>omega;rintro s ⟨u,v,rfl,h2,h3,h4⟩;simp only[bifd,Qt];by_cases h0:2<(toL v).length;left;have hv0:v≠0:=by rintro rfl;rw[Vx] at h0;simp at h0
 rw[if_pos (by omega),Qid hn h3 h4 (Q0 _) (Q0 _),sbind,Qt,Qt,if_neg hv0];refine⟨_,rfl,⟨v,u%v,rfl,?_,h4,?_⟩,?_⟩;rw[←h2,Nat.gcd_comm u v,Nat.gcd_rec v u,Nat.gcd_comm];exact Nat.lt_of_le_of_lt (Ws (Nat.le_of_lt (Nat.mod_lt u (by omega)))) h4;simp only[Qt];exact Q65 hv0;right;rw[if_neg (by omega)];exact⟨_,rfl,u,v,rfl,h2,h3,by omega⟩;rintro t ⟨u,v,rfl,h2,h3,h4⟩;simp only[bifd];by_cases h0:v=0;subst h0;rw[Vx,if_pos (by rfl),←h2,Nat.gcd_zero_right];have hne:(toL v).length≠0:=λh=>by rw[Qak h0] at h;simp at h
 have hv64:v<18446744073709551616:=by rcases Nat.lt_or_ge v 18446744073709551616 with h | h;exact h;have:=Q2x h;omega
 have hm:=Nat.mod_lt u (show v > 0 by omega);have hlm:=Ws (Nat.le_of_lt hm);rw[if_neg (by omega),Qid hn h3 (by omega) (Q0 _) (Q0 _),sbind,Qt,Qt,if_neg h0];simp only[];rw[Qpy hn (by omega) (Q0 _),sbind,Qpy hn (by omega) (Q0 _),sbind,Qt,Qt,if_pos hv64,if_pos (by omega)];simp only[];rw[Qts hn (by omega),sbind,Qd4 hn (Nat.lt_of_le_of_lt (Nat.gcd_le_left _ (by omega)) hv64),sbind,←h2,Nat.gcd_comm u v,Nat.gcd_rec v u,Nat.gcd_comm]
theorem Qst{n:Nat}{a b:List Nat}(hn:big≤n)(ha:a.length<4398046511104)(hb:b.length<4398046511104)(hwa:Wd a)(hwb:Wd b):
 Qde n a b=some (toL (val a / Nat.gcd (val a) (val b)),toL (val b / Nat.gcd (val a) (val b))):=by
 unfold Qde;rw[Qv8 hn ha hb hwa hwb,sbind,bifd];have hg1:Nat.gcd (val a) (val b) ∣ val a:=Nat.gcd_dvd_left _ _;have hg2:Nat.gcd (val a) (val b) ∣ val b:=Nat.gcd_dvd_right _ _;have hla:=Ji hwa;have hlb:=Ji hwb;have hgl:Nat.gcd (val a) (val b)=0∨(toL (Nat.gcd (val a) (val b))).length<4398046511104:=by by_cases h:val a=0;rw[h,Nat.gcd_zero_left];right;omega;right;exact Nat.lt_of_le_of_lt (Ws (Nat.gcd_le_left _ (by omega))) (by omega)
 by_cases h0:Nat.gcd (val a) (val b)=0;rw[h0,Vx,if_pos (by rfl),Nat.div_zero,Nat.div_zero,Vx];have hne:(toL (Nat.gcd (val a) (val b))).length≠0:=λh=>by rw[Qak h0] at h;simp at h
 rw[if_neg (by omega),Qv7,sbind,bifd];by_cases h1:Nat.gcd (val a) (val b)=1;rw[if_pos h1,Wj hn (by omega),sbind,Wj hn (by omega),sbind,h1,Nat.div_one,Nat.div_one,Jy hwa,Jy hwb];have hgl:(toL (Nat.gcd (val a) (val b))).length<4398046511104:=by rcases hgl with h | h;exact absurd h h0;exact h
 rw[if_neg h1,Qid hn ha hgl hwa (Q0 _),sbind,Qid hn hb hgl hwb (Q0 _),sbind,Qt,if_neg h0,if_neg h0]
def wv(w:Qf):Int:=if w.Neg then -(val w.Ao:Int) else (val w.Ao:Int)
def toW(z:Int):Qf:=⟨decide (z<0),toL z.natAbs⟩
theorem Qb2(z:Int):wv (toW z)=z:=by unfold wv toW;simp only[decide_eq_true_eq,Qt];split<;>omega
theorem Qd5{v:Nat}:0<(toL v).length↔v≠0:=by constructor;rintro h rfl;rw[Vx] at h;simp at h;intro h;rw[Qak h];simp
theorem Yq{s:Bool}{v:Nat}:Wf s (toL v)=some (toW (if s then -(v:Int) else (v:Int))):=by unfold Wf toW;rw[jn_eq];cases s;rw[bifF];congr 2;rw[bifT];congr 2;exact decide_eq_decide.2 (by simp only[if_true];have:=@Qd5 v;omega);simp
def Ww(w:Qf):Prop:=Wd w.Ao∧w.Ao.length<4398046511104
theorem Qjy{n:Nat}{w:Qf}(hn:big≤n)(h:Ww w):Qat n w=some (toW (wv w)):=by unfold Qat;rw[Wj hn (by have:=h.2;omega),sbind,←Jy h.1,Yq,sbind];rfl
theorem Q22(s t:Bool)(x y:Nat):(if (s != t) then -((x*y:Nat):Int) else ((x*y:Nat):Int))=(if s then -(x:Int) else (x:Int))*(if t then -(y:Int) else (y:Int)):=by cases s<;>cases t<;>simp[Int.neg_mul,Int.mul_neg]
theorem Qpz{n:Nat}{w u:Qf}(hn:big≤n)(hw:Ww w)(hu:Ww u):Qfu n w u=some (toW (wv w*wv u)):=by unfold Qfu;rw[Qc5 hn (by have:=hw.2;omega) (by have:=hu.2;omega) hw.1 hu.1,sbind,Yq,sbind,Q22];rfl
theorem Q1j{x y:Nat}:cmpI x y<0↔x<y:=by by_cases h:x<y;simp[cmpI,h];rw[cmpI,if_neg h];split<;>omega
theorem Qp0{n:Nat}{w u:Qf}(hn:big≤n)(hw:Ww w)(hu:Ww u):Qfw n w u=some (toW (wv w+wv u)):=by unfold Qfw;have l1:=hw.2;have l2:=hu.2;rw[Q1g hn (by omega) (by omega) hw.1 hu.1,sbind,Yq,sbind,Q1h hn (by omega) (by omega) hw.1 hu.1,sbind,bifd,Yq,sbind,Yq,sbind];unfold wv;rcases w with ⟨s,a⟩;rcases u with ⟨t,b⟩;simp only[];generalize val a=x;generalize val b=y;have hc:=@Q1j x y;cases s<;>cases t<;>simp only[beq_self_eq_true,bifT,bifF,Bool.false_eq_true,if_true,if_false,show(false == true)=false by rfl,show(true == false)=false by rfl,hc];congr 2;split<;>congr 2<;>omega;split<;>congr 2<;>omega;congr 2;omega
theorem Qp1{n:Nat}{w:Qf}(hn:big≤n)(h:Ww w):Qfv n w=some (toW (-wv w)):=by unfold Qfv;rw[Wj hn (by have:=h.2;omega),sbind,←Jy h.1,Yq,sbind];unfold wv;cases w.Neg<;>simp
theorem Q8e(z:Int):(toW (-z)).Ao=(toW z).Ao:=by unfold toW;simp
theorem Qdq(z:Int):Wd (toW z).Ao:=Q0 _
theorem Qjz{n:Nat}{w:Qf}(hn:big≤n)(h:Ww w):Qbj n w=some (Int.sign (wv w)):=by unfold Qbj wv;rw[Qrf hn (by have:=h.2;omega) h.1,sbind,bifd];by_cases h0:val w.Ao=0;rw[if_pos h0,h0];cases w.Neg<;>rfl;rw[if_neg h0];cases w.Neg;rw[bifF,if_neg (by decide),Int.sign_eq_one_of_pos (by omega)];rw[bifT,if_pos rfl,Int.sign_eq_neg_one_of_neg (by omega)]
theorem Qdr(w:Qf):(wv w).natAbs=val w.Ao:=by unfold wv;split<;>omega
theorem Jac{w:Qf}(h:Ww w):Ww (toW (-wv w)):=by refine⟨Qdq _,?_⟩;rw[Q8e];show(toL (wv w).natAbs).length<_;rw[Qdr];exact Nat.lt_of_le_of_lt (Ji h.1) h.2
theorem Qp2{n:Nat}{w u:Qf}(hn:big≤n)(hw:Ww w)(hu:Ww u):Qfx n w u=some (toW (wv w - wv u)):=by unfold Qfx;rw[Qp1 hn hu,sbind,Qp0 hn hw (Jac hu),sbind,Qb2,Int.sub_eq_add_neg]
theorem Qxq{n:Nat}{w u:Qf}(hn:big≤n)(hw:Ww w)(hu:Ww u)(h:Ww (toW (wv w - wv u))):Qhs n w u=some (Int.sign (wv w - wv u)):=by unfold Qhs;rw[Qp2 hn hw hu,sbind,Qjz hn h,sbind,Qb2]
def fv(f:Qb):Rat:=mkRat (wv f.Num) (val f.Den)
def toF(q:Rat):Qb:=⟨toW q.num,toL q.den⟩
theorem Jz(q:Rat):fv (toF q)=q:=by unfold fv toF;rw[Qb2,Qt];exact Rat.mkRat_self q
theorem Qfp{z:Int}{d:Nat}(hd:d≠0):(mkRat z d).num=z / (Nat.gcd z.natAbs d:Int)∧(mkRat z d).den=d / Nat.gcd z.natAbs d:=by rw[←Rat.normalize_eq_mkRat hd,Rat.normalize_eq];exact⟨rfl,rfl⟩
theorem Q23(s:Bool)(x g:Nat)(h:g ∣ x):(if s then -((x / g:Nat):Int) else ((x / g:Nat):Int))=(if s then -(x:Int) else (x:Int)) / (g:Int):=by cases s;simp;simp only[if_true];rw[Int.neg_ediv_of_dvd (Int.natCast_dvd_natCast.2 h)];simp
theorem Qcr{n:Nat}{w:Qf}{d:List Nat}(hn:big≤n)(hw:Ww w)(hd:Wd d)(hl:d.length<4398046511104)(h0:val d≠0):Y9 n w d=some (toF (mkRat (wv w) (val d))):=by unfold Y9;have h1:=hw.2;have hg:Nat.gcd (val w.Ao) (val d) ∣ val w.Ao:=Nat.gcd_dvd_left _ _;have hlw:(toL (val w.Ao / Nat.gcd (val w.Ao) (val d))).length<4398046511104:=Nat.lt_of_le_of_lt (Nat.le_trans (Ws (Nat.div_le_self _ _)) (Ji hw.1)) h1;rw[Qst hn h1 hl hw.1 hd,sbind,Qjy hn ⟨Q0 _,hlw⟩,sbind];obtain⟨e1,e2⟩:=Qfp (z:=wv w) h0;unfold toF;rw[e1,e2,Qdr];congr 2;unfold wv;rw[Qt];congr 1;exact Q23 _ _ _ hg
def Fw(f:Qb):Prop:=Ww f.Num∧Wd f.Den∧f.Den.length<4398046511104
theorem Qn4{n:Nat}{f:Qb}(hn:big≤n)(hf:Fw f):∃ p,Vn n f=some p∧Ww p.1∧Wd p.2∧p.2.length≤max 1 f.Den.length∧p.1.Ao.length≤f.Num.Ao.length∧val p.2≠0∧mkRat (wv p.1) (val p.2)=fv f:=by obtain⟨h1,h2,h3⟩:=hf;unfold Vn fv;rw[Qrf hn (by omega) h2,sbind,bifd];by_cases h0:val f.Den=0;rw[if_pos h0,Qd4 hn (by omega),sbind];refine⟨_,rfl,⟨K5,by simp⟩,Q0 _,?_,by simp,by simp only[Qt];decide,?_⟩;have:=Qa2 (n:=1) (k:=1) (by rw[K1,Yo];omega);simp only[];omega;simp only[Qt,h0,Rat.mkRat_zero];rfl;rw[if_neg h0];exact⟨_,rfl,h1,h2,by simp only[];omega,Nat.le_refl _,h0,rfl⟩
theorem Yp{n:Nat}{f:Qb}(hn:big≤n)(hf:Fw f):Xh n f=some (toF (fv f)):=by obtain⟨p,h1,h2,h3,h4,h5,h6,h7⟩:=Qn4 hn hf;unfold Xh;rw[h1,sbind,Qcr hn h2 h3 (by have:=hf.2.2;omega) h6,sbind,h7]
theorem Zh{x y:Nat}:(toL (x*y)).length≤(toL x).length+(toL y).length:=by refine Qa2 ?_;have h1:=W2 (Q0 x);have h2:=W2 (Q0 y);rw[Qt] at h1 h2;rw[Q97];exact Nat.mul_lt_mul'' h1 h2
theorem Qml{x y k:Nat}(h1:(toL x).length≤k)(h2:(toL y).length≤k):(toL (x+y)).length≤k+1:=by refine Qa2 ?_;have g1:=W2 (Q0 x);have g2:=W2 (Q0 y);rw[Qt] at g1 g2;have g3:=bp_le h1;have g4:=bp_le h2;rw[K1];omega
theorem Qa3{n:Nat}{w:Qf}{d:List Nat}(hn:big≤n)(hw:Ww w)(hd:Wd d)(hl:d.length<4398046511104):Y0 n w d=some (toW (wv w*(val d:Int))):=by unfold Y0;rw[Qpz hn hw ⟨hd,hl⟩,sbind];rfl
def Fk(k:Nat)(f:Qb):Prop:=Wd f.Num.Ao∧f.Num.Ao.length≤k∧Wd f.Den∧f.Den.length≤k
theorem Fk_Fw{k:Nat}{f:Qb}(h:Fk k f)(hk:k<4398046511104):Fw f:=⟨⟨h.1,by have:=h.2.1;omega⟩,h.2.2.1,by have:=h.2.2.2;omega⟩
theorem Qe5{n k:Nat}{f:Qb}(hn:big≤n)(hf:Fk k f)(h1:1≤k)(hk:k<4398046511104):∃ w d,Vn n f=some (w,d)∧Wd w.Ao∧w.Ao.length≤k∧Wd d∧d.length≤k∧val d≠0∧mkRat (wv w) (val d)=fv f:=by obtain⟨⟨w,d⟩,h1,h2,h3,h4,h5,h6,h7⟩:=Qn4 hn (Fk_Fw hf hk);exact⟨w,d,h1,h2.1,Nat.le_trans h5 hf.2.1,h3,by have:=hf.2.2.2;simp only at h4;omega,h6,h7⟩
theorem Qil{w:Qf}{y k j:Nat}(h1:Wd w.Ao)(h2:w.Ao.length≤k)(h3:(toL y).length≤j):(toW (wv w*(y:Int))).Ao.length≤k+j:=by unfold toW;simp only[];rw[Int.natAbs_mul,Qdr,Int.natAbs_natCast];have:=@Zh (val w.Ao) y;have:=Ji h1;omega
theorem Qa4{n k:Nat}{f g:Qb}(hn:big≤n)(h1:1≤k)(hk:k<1099511627776)(hf:Fk k f)(hg:Fk k g):Zc n f g=some (toF (fv f+fv g)):=by
 obtain⟨w,d,a1,a2,a3,a4,a5,a6,a7⟩:=Qe5 hn hf h1 (by omega);obtain⟨u,e,b1,b2,b3,b4,b5,b6,b7⟩:=Qe5 hn hg h1 (by omega);have l1:=Qil a2 a3 (Nat.le_trans (Ji b4) b5);have l2:=Qil b2 b3 (Nat.le_trans (Ji a4) a5);unfold Zc;rw[a1,sbind,b1,sbind,Qa3 hn ⟨a2,by omega⟩ b4 (by omega),sbind,Qa3 hn ⟨b2,by omega⟩ a4 (by omega),sbind,Qp0 hn ⟨Qdq _,by omega⟩ ⟨Qdq _,by omega⟩,sbind,Qc5 hn (by omega) (by omega) a4 b4,sbind];have l3:=@Zh (val d) (val e);have l4:=Ji a4;have l5:=Ji b4;rw[Qb2,Qb2];have hs:(toW (wv w * ↑(val e)+wv u * ↑(val d))).Ao.length≤2*k+1:=by
  unfold toW at l1 l2 ⊢;simp only[] at l1 l2 ⊢;have:=Int.natAbs_add_le (wv w * ↑(val e)) (wv u * ↑(val d));exact Nat.le_trans (Ws this) (Qml (by omega) (by omega))
 rw[Qcr hn ⟨Qdq _,by omega⟩ (Q0 _) (by omega) (by rw[Qt];exact Nat.mul_ne_zero a6 b6),sbind,Qt,Qb2,←a7,←b7,Rat.mkRat_add_mkRat _ _ a6 b6]
theorem Qie{n k:Nat}{f g:Qb}(hn:big≤n)(h1:1≤k)(hk:k<1099511627776)(hf:Fk k f)(hg:Fk k g):Qdf n f g=some (toF (fv f - fv g)):=by
 obtain⟨w,d,a1,a2,a3,a4,a5,a6,a7⟩:=Qe5 hn hf h1 (by omega);obtain⟨u,e,b1,b2,b3,b4,b5,b6,b7⟩:=Qe5 hn hg h1 (by omega);have l1:=Qil a2 a3 (Nat.le_trans (Ji b4) b5);have l2:=Qil b2 b3 (Nat.le_trans (Ji a4) a5);unfold Qdf;rw[a1,sbind,b1,sbind,Qa3 hn ⟨a2,by omega⟩ b4 (by omega),sbind,Qa3 hn ⟨b2,by omega⟩ a4 (by omega),sbind,Qp2 hn ⟨Qdq _,by omega⟩ ⟨Qdq _,by omega⟩,sbind,Qc5 hn (by omega) (by omega) a4 b4,sbind];have l3:=@Zh (val d) (val e);have l4:=Ji a4;have l5:=Ji b4;rw[Qb2,Qb2];have hs:(toW (wv w * ↑(val e) - wv u * ↑(val d))).Ao.length≤2*k+1:=by
  unfold toW at l1 l2 ⊢;simp only[] at l1 l2 ⊢;have:=Int.natAbs_sub_le (wv w * ↑(val e)) (wv u * ↑(val d));exact Nat.le_trans (Ws this) (Qml (by omega) (by omega))
 rw[Qcr hn ⟨Qdq _,by omega⟩ (Q0 _) (by omega) (by rw[Qt];exact Nat.mul_ne_zero a6 b6),sbind,Qt,Qb2,←a7,←b7,Rat.sub_eq_add_neg,Rat.neg_mkRat,Rat.mkRat_add_mkRat _ _ a6 b6,Int.neg_mul,←Int.sub_eq_add_neg]
theorem Za{n k:Nat}{f g:Qb}(hn:big≤n)(h1:1≤k)(hk:k<1099511627776)(hf:Fk k f)(hg:Fk k g):Xa n f g=some (toF (fv f*fv g)):=by
 obtain⟨w,d,a1,a2,a3,a4,a5,a6,a7⟩:=Qe5 hn hf h1 (by omega);obtain⟨u,e,b1,b2,b3,b4,b5,b6,b7⟩:=Qe5 hn hg h1 (by omega);unfold Xa;rw[a1,sbind,b1,sbind,Qpz hn ⟨a2,by omega⟩ ⟨b2,by omega⟩,sbind,Qc5 hn (by omega) (by omega) a4 b4,sbind];have l3:=@Zh (val d) (val e);have l4:=Ji a4;have l5:=Ji b4;have hs:(toW (wv w*wv u)).Ao.length≤2*k:=by unfold toW;simp only[];rw[Int.natAbs_mul,Qdr,Qdr];have g1:=@Zh (val w.Ao) (val u.Ao);have g2:=Ji a2;have g3:=Ji b2;omega
 rw[Qcr hn ⟨Qdq _,by omega⟩ (Q0 _) (by omega) (by rw[Qt];exact Nat.mul_ne_zero a6 b6),sbind,Qt,Qb2,←a7,←b7,Rat.mkRat_mul_mkRat]
theorem Q8f(q:Rat):toF (-q)=⟨toW (-q.num),toL q.den⟩:=rfl
theorem Jad{f:Qb}(hf:Fw f):Ww (toF (fv f)).Num:=by
 refine⟨Qdq _,?_⟩;show(toL (fv f).num.natAbs).length<_;by_cases h0:val f.Den=0;unfold fv;rw[h0,Rat.mkRat_zero];simp[Vx];obtain⟨e1,_⟩:=Qfp (z:=wv f.Num) h0;unfold fv;rw[e1];have h1:(wv f.Num / (Nat.gcd (wv f.Num).natAbs (val f.Den):Int)).natAbs≤val f.Num.Ao:=by rw[←Qdr];exact Int.natAbs_ediv_le_natAbs _ _
 exact Nat.lt_of_le_of_lt (Nat.le_trans (Ws h1) (Ji hf.1.1)) hf.1.2
theorem Qlx{n:Nat}{f:Qb}(hn:big≤n)(hf:Fw f):Qfc n f=some (toF (-fv f)):=by unfold Qfc;have h:=Jad hf;rw[Yp hn hf,sbind,Qp1 hn h,sbind,Q8f];unfold toF;simp only[Qb2]
theorem Qp3{a b:Int}{d e:Nat}(hd:d≠0)(he:e≠0):Int.sign (a*(e:Int) - b*(d:Int))=Int.sign (mkRat a d - mkRat b e).num:=by rw[Rat.sub_eq_add_neg,Rat.neg_mkRat,Rat.mkRat_add_mkRat _ _ hd he,Int.neg_mul,←Int.sub_eq_add_neg];generalize a*(e:Int) - b*(d:Int)=z;have h0:d*e≠0:=Nat.mul_ne_zero hd he;obtain⟨e1,_⟩:=Qfp (z:=z) h0;rw[e1];have hg:(Nat.gcd z.natAbs (d*e):Int) ∣ z:=Int.dvd_natAbs.1 (Int.natCast_dvd_natCast.2 (Nat.gcd_dvd_left _ _));obtain⟨c,hc⟩:=hg;have hp:0<Nat.gcd z.natAbs (d*e):=Nat.gcd_pos_of_pos_right _ (by omega);generalize Nat.gcd z.natAbs (d*e)=g at *;subst hc;rw[Int.mul_ediv_cancel_left _ (by omega),Int.sign_mul,Int.sign_eq_one_of_pos (by omega),Int.one_mul]
theorem Qzo{n k:Nat}{f g:Qb}(hn:big≤n)(h1:1≤k)(hk:k<1099511627776)(hf:Fk k f)(hg:Fk k g):Qja n f g=some (Int.sign (fv f - fv g).num):=by
 obtain⟨w,d,a1,a2,a3,a4,a5,a6,a7⟩:=Qe5 hn hf h1 (by omega);obtain⟨u,e,b1,b2,b3,b4,b5,b6,b7⟩:=Qe5 hn hg h1 (by omega);have l1:=Qil a2 a3 (Nat.le_trans (Ji b4) b5);have l2:=Qil b2 b3 (Nat.le_trans (Ji a4) a5);have hs:(toW (wv w * ↑(val e) - wv u * ↑(val d))).Ao.length≤2*k+1:=by unfold toW at l1 l2 ⊢;simp only[] at l1 l2 ⊢;have:=Int.natAbs_sub_le (wv w * ↑(val e)) (wv u * ↑(val d));exact Nat.le_trans (Ws this) (Qml (by omega) (by omega))
 unfold Qja;rw[a1,sbind,b1,sbind,Qa3 hn ⟨a2,by omega⟩ b4 (by omega),sbind,Qa3 hn ⟨b2,by omega⟩ a4 (by omega),sbind,Qxq hn ⟨Qdq _,by omega⟩ ⟨Qdq _,by omega⟩ (by rw[Qb2,Qb2];exact⟨Qdq _,by omega⟩),sbind,Qb2,Qb2,Qp3 a6 b6,a7,b7]
def runG{α β τ:Type}(g:Nat->α->β->β ⊕ τ)(e:β->τ):List α->Nat->β->τ
 | [],_,b=>e b
 | x::xs,i,b=>match g i x b with
   | .inl b'=>runG g e xs (i+1) b'
   | .inr t=>t
def toLpp{β σ τ0 τ:Type}(mk:β->Nat->σ)(i:Nat):β ⊕ τ->Lp σ (Lp τ0 τ)
 | .inl b=>.go (mk b (i+1))
 | .inr t=>.out (.out t)
theorem Quu{α β σ τ0 τ:Type}{f:σ->Option (Lp σ (Lp τ0 τ))}{k:τ0->Option τ}{s0:σ}(mk:β->Nat->σ)(g:Nat->α->β->β ⊕ τ)(e0:β->τ0)(e:β->τ)(I:Nat->β->Prop)(xs:List α)(b:β){n:Nat}
 (hb:∀ i x b,xs[i]?=some x->I i b->f (mk b i)=some (toLpp mk i (g i x b))∧∀ b',g i x b=.inl b'->I (i+1) b')
 (he:∀ b,I xs.length b->f (mk b xs.length)=some (.out (.go (e0 b)))) (hk:∀ b,I xs.length b->k (e0 b)=some (e b)) (h0:I 0 b) (hn:xs.length<n) (hs:s0=mk b 0:=by rfl) :
 (loopM f n s0).bind (lpK k)=some (runG g e xs 0 b):=by
 have key:∀(xs:List α) (j:Nat) (b:β) (n:Nat),
  (∀ i x b,xs[i]?=some x->I (j+i) b->f (mk b (j+i))=some (toLpp mk (j+i) (g (j+i) x b))∧∀ b',g (j+i) x b=.inl b'->I (j+i+1) b') →
  (∀ b,I (j+xs.length) b->f (mk b (j+xs.length))=some (.out (.go (e0 b))))->(∀ b,I (j+xs.length) b->k (e0 b)=some (e b))->I j b->xs.length<n->(loopM f n (mk b j)).bind (lpK k)=some (runG g e xs j b):=by
  intro xs
  induction xs with
  | nil=>
    intro j b n _ he hk h0 hn;simp only[List.length_nil,Nat.add_zero] at he hk;rw[W4 (he b h0) (by omega),Option.bind_some];exact hk b h0
  | cons x xs ih=>
    intro j b n hb he hk h0 hn;obtain⟨m,rfl⟩:∃ m,n=m+1:=⟨n - 1,by simp at hn;omega⟩
    obtain⟨h1,h2⟩:=hb 0 x b rfl h0;simp only[Nat.add_zero] at h1 h2;simp only[runG];cases hg:g j x b with
    | inl b'=>
      rw[hg] at h1;rw[Qg7 h1];refine ih (j+1) b' m (λi y c hy hc=>?_) (λc hc=>?_) (λc hc=>?_) (h2 b' hg) (by simp at hn;omega);have:=hb (i+1) y c (by simpa using hy);rw[show j+(i+1)=j+1+i by omega] at this;exact this hc;have:=he c;rw[List.length_cons,show j+(xs.length+1)=j+1+xs.length by omega] at this;exact this hc;have:=hk c;rw[List.length_cons,show j+(xs.length+1)=j+1+xs.length by omega] at this;exact this hc
    | inr t=>rw[hg] at h1;rw[W4 h1 (by omega)];rfl
 rw[hs];exact key xs 0 b n (λi x c hx hc=>by rw[Nat.zero_add] at hc ⊢;exact hb i x c hx hc) (λc hc=>by rw[Nat.zero_add] at hc ⊢;exact he c hc) (λc hc=>hk c (by rwa [Nat.zero_add] at hc)) h0 hn
theorem Jl{α:Type}{l:List α}{i:Nat}{x:α}(h:l[i]?=some x):getI l (i:Int)=some x:=by rw[Qcg,h]
theorem Kb{α:Type}{l:List α}{i:Nat}{x:α}(h:l[i]?=some x):i<l.length:=by rcases Nat.lt_or_ge i l.length with h1 | h1;exact h1;rw[List.getElem?_eq_none h1] at h;cases h
theorem Kj{α:Type}{l:List α}{i:Nat}{x:α}(h:l[i]?=some x):x∈l:=List.mem_of_getElem? h
theorem w1{i:Nat}(h:i<9223372036854775807):wrap64 ((i:Int)+1)=((i+1:Nat):Int):=by rw[w64 (by omega) (by omega)];omega
theorem Qq3{α:Type}{l:List α}{x:α}(h:l.length<9223372036854775807):getI (l++[x]) (wrap64 (((l++[x]).length:Int) - 1))=some x:=by rw[List.length_append,List.length_singleton,w64 (by omega) (by omega),show(((l.length+1:Nat):Int) - 1)=((l.length:Nat):Int) by omega,Qcg];simp
theorem Q5x{α:Type}{l:List α}{x y:α}(h:l.length<9223372036854775807):List.set (l++[x]) (Int.toNat (wrap64 (((l++[x]).length:Int) - 1))) y=l++[y]:=by rw[List.length_append,List.length_singleton,w64 (by omega) (by omega),show(((l.length+1:Nat):Int) - 1)=((l.length:Nat):Int) by omega,Int.toNat_natCast];simp
theorem Qyq{σ τ:Type}{f:σ->Option (Lp σ τ)}(F:Nat->σ){t:τ}:∀(N k n:Nat),(∀ i,i<N->f (F (k+i))=some (.go (F (k+i+1))))->f (F (k+N))=some (.out t)->N<n->loopM f n (F k)=some t
 | 0,k,n,_,he,hn=>W4 he (by omega)
 | N+1,k,n,hb,he,hn=>by
   obtain⟨m,rfl⟩:∃ m,n=m+1:=⟨n - 1,by omega⟩
   have h0:=hb 0 (by omega);simp only[Nat.add_zero] at h0;rw[Qg7 h0];exact Qyq F N (k+1) m (λi hi=>by have:=hb (i+1) (by omega);rw[show k+(i+1)=k+1+i by omega] at this;exact this) (by rw[show k+1+N=k+(N+1) by omega];exact he) (by omega)
theorem Wq{σ τ R:Type}{f:σ->Option (Lp σ τ)}{s:σ}{K:τ->Option R}{n:Nat}(F:Nat->σ)(N:Nat)(t:τ)(hb:∀ i,i<N->f (F i)=some (.go (F (i+1))))(he:f (F N)=some (.out t))(hn:N<n)(hs:s=F 0):(loopM f n s).bind K=K t:=by rw[hs,Qyq F (t:=t) N 0 n (λi hi=>by rw[Nat.zero_add];exact hb i hi) (by rw[Nat.zero_add];exact he) hn,Option.bind_some]
theorem Qv9{α σ τ:Type}{f:Nat->α->σ->Option (Lp σ τ)}(F:Nat->σ):∀(xs:List α) (k:Nat),(∀ i x,xs[i]?=some x->f (k+i) x (F (k+i))=some (.go (F (k+i+1))))->rangeL f xs k (F k)=some (.go (F (k+xs.length)))
 | [],_,_=>rfl
 | x::xs,k,hb=>by have h0:=hb 0 x rfl;simp only[Nat.add_zero] at h0;simp only[rangeL,h0,Option.bind_some];rw[Qv9 F xs (k+1) (λi y hy=>by have:=hb (i+1) y (by simpa using hy);rw[show k+(i+1)=k+1+i by omega] at this;exact this),List.length_cons,show k+1+xs.length=k+(xs.length+1) by omega]
theorem Qix{α σ τ R:Type}{f:Nat->α->σ->Option (Lp σ τ)}{s:σ}{K:Lp σ τ->Option R}(F:Nat->σ)(xs:List α)(hb:∀ i x,xs[i]?=some x->f i x (F i)=some (.go (F (i+1))))(hs:s=F 0):(rangeL f xs 0 s).bind K=K (.go (F xs.length)):=by rw[hs,Qv9 F xs 0 (λi x hx=>by rw[Nat.zero_add];exact hb i x hx),Option.bind_some,Nat.zero_add]
theorem Qwa{α R:Type}{f:Nat->α->Unit->Option (Lp Unit R)}{r:R}(P:Nat->α->Prop):∀(xs:List α) (k:Nat),(∀ i x,xs[i]?=some x->(P (k+i) x->f (k+i) x ()=some (.go ()))∧(¬ P (k+i) x->f (k+i) x ()=some (.out r))) →
 ((∀ i x,xs[i]?=some x->P (k+i) x)->rangeL f xs k ()=some (.go ()))∧(¬(∀ i x,xs[i]?=some x->P (k+i) x)->rangeL f xs k ()=some (.out r))
 | [],k,_=>⟨λ_=>rfl,λh=>absurd (λi x hx=>by simp at hx) h⟩
 | x::xs,k,hb=>by
   obtain⟨h1,h2⟩:=hb 0 x rfl;simp only[Nat.add_zero] at h1 h2;obtain⟨g1,g2⟩:=Qwa P xs (k+1) (λi y hy=>by have:=hb (i+1) y (by simpa using hy);rw[show k+(i+1)=k+1+i by omega] at this;exact this);by_cases hp:P k x;have e:(∀ i y,(x::xs)[i]?=some y->P (k+i) y)↔(∀ i y,xs[i]?=some y->P (k+1+i) y):=by
    constructor;intro h i y hy;have:=h (i+1) y (by simpa using hy);rw[show k+(i+1)=k+1+i by omega] at this;exact this;intro h i y hy;cases i with
    | zero=>simp at hy;subst hy;exact hp
    | succ i=>rw[show k+(i+1)=k+1+i by omega];exact h i y (by simpa using hy)
   rw[e];simp only[rangeL,h1 hp,Option.bind_some];exact⟨g1,g2⟩;refine⟨λh=>absurd (h 0 x rfl) hp,λ_=>?_⟩;simp only[rangeL,h2 hp,Option.bind_some]
open Classical in
theorem Qgy{α R:Type}{f:Nat->α->Unit->Option (Lp Unit R)}{K:Unit->Option R}{r:R}(P:Nat->α->Prop)(xs:List α)
 (hb:∀ i x,xs[i]?=some x->(P i x->f i x ()=some (.go ()))∧(¬ P i x->f i x ()=some (.out r))) :
 (rangeL f xs 0 ()).bind (lpK K)=if (∀ i x,xs[i]?=some x->P i x) then K () else some r:=by
 obtain⟨g1,g2⟩:=Qwa P xs 0 (λi x hx=>by rw[Nat.zero_add];exact hb i x hx);simp only[Nat.zero_add] at g1 g2;by_cases h:∀ i x,xs[i]?=some x->P i x;rw[if_pos h,g1 h,Option.bind_some,Xf];rw[if_neg h,g2 h,Option.bind_some,Zu]
theorem Qyr{R:Type}{f:Int->Option (Lp Int (Lp Unit R))}{r:R}(P:Nat->Prop):∀(N k n:Nat),(∀ i,i<k+N->k≤i->(P i->f (i:Int)=some (.go ((i+1:Nat):Int)))∧(¬ P i->f (i:Int)=some (.out (.out r))))->f ((k+N:Nat):Int)=some (.out (.go ()))->N<n →
 ((∀ i,k≤i->i<k+N->P i)->loopM f n (k:Int)=some (.go ()))∧(¬(∀ i,k≤i->i<k+N->P i)->loopM f n (k:Int)=some (.out r))
 | 0,k,n,_,he,hn=>⟨λ_=>W4 he (by omega),λh=>absurd (λi h1 h2=>by omega) h⟩
 | N+1,k,n,hb,he,hn=>by
   obtain⟨m,rfl⟩:∃ m,n=m+1:=⟨n - 1,by omega⟩
   obtain⟨h1,h2⟩:=hb k (by omega) (Nat.le_refl _);obtain⟨g1,g2⟩:=Qyr P N (k+1) m (λi hi hk=>hb i (by omega) (by omega)) (by rw[show k+1+N=k+(N+1) by omega];exact he) (by omega);by_cases hp:P k;have e:(∀ i,k≤i->i<k+(N+1)->P i)↔(∀ i,k+1≤i->i<k+1+N->P i):=by constructor;intro h i a b;exact h i (by omega) (by omega);intro h i a b;rcases Nat.eq_or_lt_of_le a with c | c;exact c ▸ hp;exact h i c (by omega)
   rw[e,Qg7 (h1 hp)];exact⟨g1,g2⟩;exact⟨λh=>absurd (h k (Nat.le_refl _) (by omega)) hp,λ_=>W4 (h2 hp) (by omega)⟩
open Classical in
theorem Qm9{R:Type}{f:Int->Option (Lp Int (Lp Unit R))}{K:Unit->Option R}{r:R}{n:Nat}(P:Nat->Prop)(N:Nat)
 (hb:∀ i,i<N->(P i->f (i:Int)=some (.go ((i+1:Nat):Int)))∧(¬ P i->f (i:Int)=some (.out (.out r)))) (he:f (N:Int)=some (.out (.go ()))) (hn:N<n) :
 (loopM f n 0).bind (lpK K)=if (∀ i,i<N->P i) then K () else some r:=by
 obtain⟨g1,g2⟩:=Qyr (n:=n) (r:=r) P N 0 (λi hi _=>hb i (by omega)) (by rw[Nat.zero_add];exact he) hn;simp only[Nat.zero_add,Nat.zero_le,true_implies] at g1 g2;by_cases h:∀ i,i<N->P i;rw[if_pos h];have:=g1 h;rw[show((0:Nat):Int)=0 from rfl] at this;rw[this,Option.bind_some,Xf];rw[if_neg h];have:=g2 h;rw[show((0:Nat):Int)=0 from rfl] at this;rw[this,Option.bind_some,Zu]
theorem Qfq{α β:Type}(h:α->β){l:List α}{i:Nat}{x:α}(hx:l[i]?=some x):(l.take (i+1)).map h=(l.take i).map h++[h x]:=by
 rw[List.take_succ_eq_append_getElem (Kb hx),List.map_append];have:l[i]'(Kb hx)=x:=by have:=List.getElem?_eq_getElem (Kb hx);rw[this] at hx;exact Option.some.inj hx
 simp[this]
theorem Qxr:∀ {a b:List Nat},Wd a->Wd b->a.length=b.length->val a=val b->a=b
 | [],[],_,_,_,_=>rfl
 | [],_::_,_,_,h,_=>by simp at h
 | _::_,[],_,_,h,_=>by simp at h
 | x::a,y::b,ha,hb,hl,hv=>by
   obtain⟨h1,h2⟩:=Jx.1 ha;obtain⟨h3,h4⟩:=Jx.1 hb;simp only[val] at hv;have:x=y:=by omega
   subst this;rw[Qxr h2 h4 (by simpa using hl) (by omega)]
theorem Qn5{x y:Nat}:cmpI x y=0↔x=y:=by unfold cmpI;split;constructor<;>intro h<;>omega;split;constructor<;>intro h<;>omega;constructor<;>intro h<;>omega
open Classical in
theorem Qn6{n:Nat}{f:Qb}(hn:big≤n)(hf:Fw f):Y2 n f=some (decide (f=toF (fv f))):=by
 unfold Y2;rw[Yp hn hf,sbind,jn_eq];have w1:Wd (toF (fv f)).Num.Ao:=Q0 _;have w2:Wd (toF (fv f)).Den:=Q0 _;generalize toF (fv f)=g at *;obtain⟨⟨h1,h2⟩,h3,h4⟩:=hf;obtain⟨⟨s,a⟩,d⟩:=f;obtain⟨⟨t,b⟩,e⟩:=g;simp only at h1 h2 h3 h4 w1 w2 ⊢;have hno:∀ {P:Prop},(P->False)->(some false:Option Bool)=some (decide P):=λh=>by rw[decide_eq_false h]
 by_cases c1:s=t;subst c1;rw[show(s == s)=true by simp,bifT];by_cases c2:(a.length:Int)=(b.length:Int)
 rw[decide_eq_true c2,bifT];by_cases c3:(d.length:Int)=(e.length:Int)
 rw[decide_eq_true c3,bifT,Qgx hn (by omega) (by omega) h1 w1,sbind];by_cases c4:val a=val b;rw[decide_eq_true (Qn5.2 c4),bifT,Qgx hn (by omega) (by omega) h3 w2,sbind];by_cases c5:val d=val e;rw[decide_eq_true (Qn5.2 c5),Qxr h1 w1 (by omega) c4,Qxr h3 w2 (by omega) c5,decide_eq_true rfl];rw[decide_eq_false λh=>c5 (Qn5.1 h)];exact hno λh=>by cases h;exact c5 rfl
 rw[decide_eq_false λh=>c4 (Qn5.1 h),bifF];exact hno λh=>by cases h;exact c4 rfl
 rw[decide_eq_false c3,bifF];exact hno λh=>by cases h;exact c3 rfl
 rw[decide_eq_false c2,bifF];exact hno λh=>by cases h;exact c2 rfl
 rw[show(s == t)=false by simpa using c1,bifF];exact hno λh=>by cases h;exact c1 rfl
def qw(q:Rat):Nat:=max (toL q.num.natAbs).length (toL q.den).length
theorem Wh{j k:Nat}{f:Qb}(h:Fk j f)(hk:j≤k):Fk k f:=⟨h.1,by have:=h.2.1;omega,h.2.2.1,by have:=h.2.2.2;omega⟩
theorem V0{q:Rat}{k:Nat}(h:qw q≤k):Fk k (toF q):=by unfold qw at h;exact⟨Qdq _,by show(toL q.num.natAbs).length≤k;omega,Q0 _,by show(toL q.den).length≤k;omega⟩
theorem toL1:(toL 1).length=1:=by rw[Qak (by decide)];simp[Vx]
theorem Quv{z:Int}{d k:Nat}(hd:d≠0)(h1:(toL z.natAbs).length≤k)(h2:(toL d).length≤k):qw (mkRat z d)≤k:=by obtain⟨e1,e2⟩:=Qfp (z:=z) hd;unfold qw;rw[e1,e2];have g1:=Ws (Int.natAbs_ediv_le_natAbs z (Nat.gcd z.natAbs d:Int));have g2:=Ws (Nat.div_le_self d (Nat.gcd z.natAbs d));omega
theorem Qam:qw 0=1:=by unfold qw;rw[show(0:Rat).num=0 from rfl,show(0:Rat).den=1 from rfl,toL1];simp[Vx]
theorem Qwb(q:Rat):1≤qw q:=by have:=(Qd5 (v:=q.den)).2 q.den_nz;unfold qw;omega
theorem qw_fv{f:Qb}{k:Nat}(h:Fk k f)(h1:1≤k):qw (fv f)≤k:=by unfold fv;by_cases h0:val f.Den=0;rw[h0,Rat.mkRat_zero,Qam];exact h1;refine Quv h0 ?_ ?_;rw[Qdr];exact Nat.le_trans (Ji h.1) h.2.1;exact Nat.le_trans (Ji h.2.2.1) h.2.2.2
theorem Qcs(q:Rat):(toL q.num.natAbs).length≤qw q:=by unfold qw;omega
theorem Qct(q:Rat):(toL q.den).length≤qw q:=by unfold qw;omega
theorem Xg{a b:Rat}{j k:Nat}(ha:qw a≤j)(hb:qw b≤k):qw (a*b)≤j+k:=by rw[←Rat.mkRat_self a,←Rat.mkRat_self b,Rat.mkRat_mul_mkRat];have n1:=Qcs a;have n2:=Qcs b;have d1:=Qct a;have d2:=Qct b;have:=@Zh a.num.natAbs b.num.natAbs;have:=@Zh a.den b.den;exact Quv (Nat.mul_ne_zero a.den_nz b.den_nz) (by rw[Int.natAbs_mul];omega) (by omega)
theorem Qb3{a b:Rat}{j k:Nat}(ha:qw a≤j)(hb:qw b≤k):qw (a+b)≤j+k+1:=by rw[←Rat.mkRat_self a,←Rat.mkRat_self b,Rat.mkRat_add_mkRat _ _ a.den_nz b.den_nz];have n1:=Qcs a;have n2:=Qcs b;have d1:=Qct a;have d2:=Qct b;have m1:=@Zh a.num.natAbs b.den;have m2:=@Zh b.num.natAbs a.den;have m3:=@Zh a.den b.den;refine Quv (Nat.mul_ne_zero a.den_nz b.den_nz) ?_ (by omega);refine Nat.le_trans (Ws (Int.natAbs_add_le _ _)) ?_;rw[Int.natAbs_mul,Int.natAbs_mul,Int.natAbs_natCast,Int.natAbs_natCast];exact Qml (by omega) (by omega)
theorem Q8g(a:Rat):(-a).num=-a.num:=rfl
theorem Q8h(a:Rat):(-a).den=a.den:=rfl
theorem Qna(a:Rat):qw (-a)=qw a:=by unfold qw;rw[Q8g,Q8h,Int.natAbs_neg]
theorem Qle{a b:Rat}{j k:Nat}(ha:qw a≤j)(hb:qw b≤k):qw (a - b)≤j+k+1:=by rw[Rat.sub_eq_add_neg];exact Qb3 ha (by rw[Qna];exact hb)
theorem Qsu{a:Rat}{j:Nat}(ha:qw a≤j):qw a⁻¹≤j:=by
 have n1:=Qcs a;have d1:=Qct a;have p:=Qwb a;unfold qw;rw[Rat.num_inv,Rat.den_inv];have h1:(toL (a.num.sign*(a.den:Int)).natAbs).length≤j:=by
  rw[Int.natAbs_mul,Int.natAbs_natCast];refine Nat.le_trans (Ws (y:=a.den) ?_) (by omega);have:a.num.sign.natAbs≤1:=by rw[Int.natAbs_sign];split<;>omega
  calc a.num.sign.natAbs*a.den≤1*a.den:=Nat.mul_le_mul_right _ this
   _=a.den:=Nat.one_mul _
 have h2:(toL (if a.num=0 then 1 else a.num.natAbs)).length≤j:=by
  split
  . rw[toL1];omega
  . omega
 omega
theorem Qnb{a b:Rat}{j k:Nat}(ha:qw a≤j)(hb:qw b≤k):qw (a / b)≤j+k:=by rw[Rat.div_def];exact Xg ha (Qsu hb)
theorem Qwc{a:Rat}{j:Nat}(ha:qw a≤j):∀ n:Nat,qw (a ^ n)≤n*j+1
 | 0=>by rw[Rat.pow_zero];unfold qw;rw[show(1:Rat).num=1 from rfl,show(1:Rat).den=1 from rfl,show(1:Int).natAbs=1 from rfl,toL1];omega
 | n+1=>by have:=Xg (Qwc ha n) ha;rw[Rat.pow_succ,Nat.succ_mul];omega
theorem Q8i(x:Int):toF (x:Rat)=⟨toW x,toL 1⟩:=by unfold toF;rw[Rat.num_intCast,Rat.den_intCast]
theorem Qzp{n:Nat}{x:Int}(hn:big≤n)(h1:-9223372036854775808≤x)(h2:x≤9223372036854775807):Qjc n x=some (toW x):=by
 unfold Qjc;rw[bifd];split;rename_i h;have e:(18446744073709551616 - Int.toNat (x%18446744073709551616))%18446744073709551616=x.natAbs:=by omega
 rw[sbind,e,Qd4 hn (by omega),sbind,Yq,sbind,if_pos rfl,show -((x.natAbs:Nat):Int)=x by omega];rename_i h;have e:Int.toNat (x%18446744073709551616)=x.natAbs:=by omega
 rw[e,Qd4 hn (by omega),sbind,Yq,sbind,if_neg (by decide),show((x.natAbs:Nat):Int)=x by omega]
theorem Qj0{n:Nat}{x:Int}(hn:big≤n)(h1:-9223372036854775808≤x)(h2:x≤9223372036854775807):K6 n x=some (toF (x:Rat)):=by unfold K6;rw[Qzp hn h1 h2,sbind,Qd4 hn (by decide),sbind,Q8i]
theorem Qan{n:Nat}(hn:big≤n):K6 n 0=some (toF 0):=Qj0 hn (by decide) (by decide)
theorem Qzq{n:Nat}(hn:big≤n):K6 n 1=some (toF 1):=Qj0 hn (by decide) (by decide)
theorem Q4b{z:Int}{d:Nat}(hd:d≠0):(mkRat z d).num.sign=z.sign:=by have:=Qp3 (a:=z) (b:=0) hd (e:=1) (by decide);rw[Rat.zero_mkRat,show mkRat z d - 0=mkRat z d by rw[Rat.sub_eq_add_neg,show(-0:Rat)=0 from rfl,Rat.add_zero]] at this;rw[←this];simp
theorem Qp4{n k:Nat}{f:Qb}(hn:big≤n)(h1:1≤k)(hk:k<1099511627776)(hf:Fk k f):Qdy n f=some (fv f).num.sign:=by obtain⟨w,d,a1,a2,a3,a4,a5,a6,a7⟩:=Qe5 hn hf h1 (by omega);unfold Qdy;rw[a1,sbind,Qjz hn ⟨a2,by omega⟩,sbind,←a7,Q4b a6]
theorem Q1k{a b:Rat}:(a - b).num=0↔a=b:=by rw[Rat.num_eq_zero];grind
theorem Qp5{n k:Nat}{f g:Qb}(hn:big≤n)(h1:1≤k)(hk:k<1099511627776)(hf:Fk k f)(hg:Fk k g):Qcf n f g=some (decide (fv f=fv g)):=by unfold Qcf;rw[Qzo hn h1 hk hf hg,sbind];refine congrArg some (decide_eq_decide.2 ?_);rw[Int.sign_eq_zero_iff_zero,Q1k]
def qz(q:Rat):Nat:=blen q.num.natAbs+blen q.den
theorem Qxs{n k:Nat}{f:Qb}(hn:big≤n)(hk:k<1099511627776)(hf:Fk k f):Yf n f=some ((blen (val f.Num.Ao)+blen (val f.Den):Nat):Int):=by unfold Yf;obtain⟨h1,h2,h3,h4⟩:=hf;have b1:=@Qq2 (val f.Num.Ao);have b2:=@Qq2 (val f.Den);have b3:=Ji h1;have b4:=Ji h3;rw[Qrj hn (by omega) h1,sbind,Qrj hn (by omega) h3,sbind,w64 (by omega) (by omega)];rfl
theorem Qn7{n:Nat}{q:Rat}(hn:big≤n)(hk:qw q<1099511627776):Yf n (toF q)=some (qz q:Int):=by rw[Qxs hn hk (V0 (Nat.le_refl _))];unfold qz toF toW;simp only[Qt]
theorem Qwd{v b:Nat}(h:blen v≤b):(toL v).length≤b / 32+1:=by refine Qa2 ?_;have h1:=@Qmk v;rw[Qh7];exact Nat.lt_of_lt_of_le h1 (Nat.pow_le_pow_right (by decide) (by omega))
theorem qw_qz{q:Rat}{b:Nat}(h:qz q≤b):qw q≤b / 32+1:=by unfold qz at h;have h1:=@Qwd q.num.natAbs b (by omega);have h2:=@Qwd q.den b (by omega);unfold qw;omega
theorem Q8j:∀ {u:Qf},wv u≠0->(wv u).sign=if u.Neg then -1 else 1
 | ⟨false,a⟩,h=>by have e:wv ⟨false,a⟩=(val a:Int):=rfl;rw[e] at h ⊢;rw[Int.sign_eq_one_of_pos (by omega)];rfl
 | ⟨true,a⟩,h=>by have e:wv ⟨true,a⟩=-(val a:Int):=rfl;rw[e] at h ⊢;rw[Int.sign_eq_neg_one_of_neg (by omega)];rfl
theorem Qys{z:Int}{d:Nat}(hz:z≠0)(hd:d≠0):(mkRat z d)⁻¹=mkRat (z.sign*(d:Int)) z.natAbs:=by
 have h0:mkRat z d≠0:=λh=>hz ((Rat.mkRat_eq_zero hd).1 h);have h1:mkRat z d*mkRat (z.sign*(d:Int)) z.natAbs=1:=by rw[Rat.mkRat_mul_mkRat,←Int.mul_assoc,Int.mul_sign_self,show(1:Rat)=mkRat 1 1 from rfl,Rat.mkRat_eq_iff (Nat.mul_ne_zero hd (by omega)) (by decide)];simp[Int.mul_comm]
 grind
theorem Qif{n k:Nat}{f g:Qb}(hn:big≤n)(h1:1≤k)(hk:k<1099511627776)(hf:Fk k f)(hg:Fk k g):Qb7 n f g=some (if fv g=0 then (toF 0,false) else (toF (fv f / fv g),true)):=by
 obtain⟨w,d,a1,a2,a3,a4,a5,a6,a7⟩:=Qe5 hn hf h1 (by omega);obtain⟨u,e,b1,b2,b3,b4,b5,b6,b7⟩:=Qe5 hn hg h1 (by omega);unfold Qb7;rw[a1,sbind,b1,sbind,Qjz hn ⟨b2,by omega⟩,sbind,bifd];have hz:(wv u).sign=0↔fv g=0:=by rw[←b7,Rat.mkRat_eq_zero b6,Int.sign_eq_zero_iff_zero]
 by_cases h0:fv g=0;rw[if_pos (hz.2 h0),if_pos h0,Qan hn,sbind];rw[if_neg (λh=>h0 (hz.1 h)),if_neg h0,Qa3 hn ⟨a2,by omega⟩ b4 (by omega),sbind,Qc5 hn (by omega) (by omega) a4 b2,sbind];have l1:=Qil a2 a3 (Nat.le_trans (Ji b4) b5);have l3:=@Zh (val d) (val u.Ao);have l4:=Ji a4;have l5:=Ji b2;have hu0:wv u≠0:=λh=>h0 (by rw[←b7,h,Rat.zero_mkRat]);have hv0:val u.Ao≠0:=by rw[←Qdr];omega
 rw[Qcr (w:=⟨(toW (wv w * ↑(val e))).Neg != u.Neg,(toW (wv w * ↑(val e))).Ao⟩) hn ⟨Qdq (wv w * ↑(val e)),by show(toW (wv w * ↑(val e))).Ao.length<_;omega⟩ (Q0 _) (by omega) (by rw[Qt];exact Nat.mul_ne_zero a6 hv0),sbind,Qt];refine congrArg some (Prod.ext ?_ rfl);refine congrArg toF ?_;have e1:wv (⟨((toW (wv w * ↑(val e))).Neg != u.Neg),(toW (wv w * ↑(val e))).Ao⟩:Qf)=(wv w*(val e:Int))*(wv u).sign:=by
  have t:=Qb2 (wv w * ↑(val e));generalize toW (wv w * ↑(val e))=x at t ⊢;rw[←t];have hs:=Q8j hu0;rw[hs];unfold wv;cases x.Neg<;>cases u.Neg<;>simp
 rw[e1,←a7,←b7,Rat.div_def];have e2:=Qys hu0 b6;rw[Qdr] at e2;rw[e2,Rat.mkRat_mul_mkRat];congr 1;rw[Int.mul_assoc,Int.mul_comm (val e:Int)]
theorem Qtc{v j:Nat}(h:(toL v).length≤j):∀ t,(toL (v ^ t)).length≤t*j+1
 | 0=>by rw[Nat.pow_zero,toL1];omega
 | t+1=>by have:=Qtc h t;have:=@Zh (v ^ t) v;rw[Nat.pow_succ,Nat.succ_mul];omega
theorem Qn8{n j t:Nat}{a:List Nat}(hn:big≤n)(ha:Wd a)(hl:a.length≤j)(hj:j<1099511627776)(ht:t≤7+1):Qes n a (t:Int)=some (toL (val a ^ t)):=by unfold Qes;rw[Qd4 hn (by decide),sbind];rw[Wq (λi=>(toL (val a ^ i),(i:Int))) t (toL (val a ^ t))];intro i hi;have h1:=Qtc (Nat.le_trans (Ji ha) hl) i;have h2:i*j≤8*j:=Nat.mul_le_mul_right _ (by omega);simp only[bifd];rw[if_pos (by omega),Qc5 hn (by omega) (by omega) (Q0 _) ha,sbind,Qt,w1 (by omega),Nat.pow_succ];simp only[bifd];rw[if_neg (by omega)];unfold big at hn;omega;rfl
theorem Q24(z:Int)(t:Nat):(if (decide (z<0) && decide (t%2=1))=true then -((z.natAbs ^ t:Nat):Int) else ((z.natAbs ^ t:Nat):Int))=z ^ t:=by
 rw[Int.natCast_pow];by_cases hz:z<0;have e:(z.natAbs:Int)=-z:=by omega
 rw[e,decide_eq_true hz,Bool.true_and];rcases Nat.mod_two_eq_zero_or_one t with h | h;rw[if_neg (by rw[h];decide)];obtain⟨m,rfl⟩:∃ m,t=2*m:=⟨t / 2,by omega⟩
 rw[Int.pow_mul,Int.pow_mul];congr 1;rw[Int.pow_succ,Int.pow_succ,Int.pow_succ,Int.pow_succ];simp[Int.neg_mul_neg];rw[if_pos (by rw[h];decide)];obtain⟨m,rfl⟩:∃ m,t=2*m+1:=⟨t / 2,by omega⟩
 rw[Int.pow_succ,Int.pow_succ,Int.pow_mul,Int.pow_mul];have:(-z) ^ 2=z ^ 2:=by rw[Int.pow_succ,Int.pow_succ,Int.pow_succ,Int.pow_succ];simp[Int.neg_mul_neg]
 rw[this,Int.mul_neg,Int.neg_neg];have e:(z.natAbs:Int)=z:=by omega
 rw[decide_eq_false hz,Bool.false_and,if_neg (by decide),e]
theorem Qly{n k:Nat}{f:Qb}{e:Int}(hn:big≤n)(h1:1≤k)(hk:k<1099511627)(hf:Fk k f):
 Qfd n f e=some (if e < -8∨8<e∨(e<0∧fv f=0) then (toF 0,false) else (toF (fv f ^ e),true)):=by
 unfold Qfd;simp only[jn_eq];by_cases c1:e < -8;rw[decide_eq_true c1,bifT,bifT,Qan hn,sbind,if_pos (.inl c1)];rw[decide_eq_false c1,bifF];by_cases c2:8<e;rw[decide_eq_true c2,bifT,bifT,Qan hn,sbind,if_pos (.inr (.inl c2))];rw[decide_eq_false c2,bifF];have hS:=Qp4 hn h1 (by omega) hf;have hq:=qw_fv hf h1;have hF:Fk k (toF (fv f)):=V0 hq;obtain⟨g1,g2,g3,g4⟩:=hF;have hN:=Yp hn (Fk_Fw hf (by omega));have ht:max e (wrap64 (-e))=((e.natAbs:Nat):Int):=by rw[w64 (by omega) (by omega)];omega
 have p1:=Qn8 (t:=e.natAbs) hn g1 g2 (by omega) (by omega);have p2:=Qn8 (t:=e.natAbs) hn g3 g4 (by omega) (by omega);have l1:=Qtc (Nat.le_trans (Ji g1) g2) e.natAbs;have l2:=Qtc (Nat.le_trans (Ji g3) g4) e.natAbs;have l3:e.natAbs*k≤8*k:=Nat.mul_le_mul_right _ (by omega);have hmod:decide (Int.tmod ((e.natAbs:Nat):Int) 2=1)=decide (e.natAbs%2=1):=by refine decide_eq_decide.2 ?_;rw[Int.tmod_eq_emod_of_nonneg (by omega)];omega
 have v1:val (toF (fv f)).Num.Ao=(fv f).num.natAbs:=Qt _;have v2:val (toF (fv f)).Den=(fv f).den:=Qt _;have v3:(toF (fv f)).Num.Neg=decide ((fv f).num<0):=rfl;rw[v1] at p1 l1;rw[v2] at p2 l2
 have fin:∀(u d:Nat),(toL u).length≤8*k+1->(if (toF (fv f)).Num.Neg=true then (Qat n (⟨decide (Int.tmod (max e (wrap64 (-e))) 2=1),toL u⟩:Qf)).bind λr26=>some ((⟨r26,toL d⟩:Qb),true) else (Qat n (⟨false,toL u⟩:Qf)).bind λr28=>some ((⟨r28,toL d⟩:Qb),true)) =
  some (⟨toW (if (decide ((fv f).num<0) && decide (e.natAbs%2=1))=true then -(u:Int) else (u:Int)),toL d⟩,true):=by
  intro u d hu;rw[ht,hmod,v3];by_cases hz:(fv f).num<0;rw[if_pos (decide_eq_true hz),Qjy hn ⟨Q0 _,by show(toL u).length<_;omega⟩,sbind,decide_eq_true hz,Bool.true_and];unfold wv;simp only[Qt];rw[if_neg (by rw[decide_eq_false hz];decide),Qjy hn ⟨Q0 _,by show(toL u).length<_;omega⟩,sbind,decide_eq_false hz,Bool.false_and];unfold wv;simp only[Qt]
 have bifi:∀ {α:Type}(b:Bool) (x y:α),(bif b then x else y)=if b=true then x else y:=λb x y=>by cases b<;>rfl
 by_cases c3:e<0;rw[decide_eq_true c3,bifT,hS,sbind];by_cases c4:fv f=0;rw[c4,show((0:Rat).num.sign)=0 from rfl,decide_eq_true rfl,bifT,Qan hn,sbind,if_pos (.inr (.inr ⟨c3,c4 ▸ rfl⟩))];have hn0:(fv f).num≠0:=λh=>c4 (Rat.num_eq_zero.1 h);rw[decide_eq_false (by rw[Int.sign_eq_zero_iff_zero];exact hn0),bifF,hN,sbind,ht,p1,sbind,p2,sbind,bifT];rw[bifi,←ht,fin _ _ (by omega),if_neg (c:=e < -8∨8<e∨(e<0∧fv f=0)) (by rintro(h | h | h);exact c1 h;exact c2 h;exact c4 h.2)];refine congrArg some (Prod.ext ?_ rfl);have ee:e=-((e.natAbs:Nat):Int):=by omega
 have es:fv f ^ e=(fv f ^ e.natAbs)⁻¹:=by rw[←Rat.zpow_natCast,←Rat.zpow_neg,←ee]
 rw[es];unfold toF;rw[Rat.num_inv,Rat.den_inv,Rat.num_pow,Rat.den_pow];have hnp:(fv f).num ^ e.natAbs≠0:=Int.pow_ne_zero hn0;rw[if_neg hnp,Int.natAbs_pow];have hs:=Q24 (fv f).num e.natAbs;have hp:0<(fv f).num.natAbs ^ e.natAbs:=Nat.pow_pos (by omega);congr 2;rw[←hs];by_cases hc:(decide ((fv f).num<0) && decide (e.natAbs%2=1))=true;rw[if_pos hc,if_pos hc,Int.sign_eq_neg_one_of_neg (by omega),Int.neg_mul,Int.one_mul];rw[if_neg hc,if_neg hc,Int.sign_eq_one_of_pos (by omega),Int.one_mul];rw[decide_eq_false c3,bifF,bifF,hN,sbind,ht,p1,sbind,p2,sbind,bifF];rw[bifi,←ht,fin _ _ (by omega),if_neg (c:=e < -8∨8<e∨(e<0∧fv f=0)) (by rintro(h | h | h);exact c1 h;exact c2 h;exact c3 h.1)];refine congrArg some (Prod.ext ?_ rfl);have es:fv f ^ e=fv f ^ e.natAbs:=by
  rw[←Rat.zpow_natCast,show((e.natAbs:Nat):Int)=e by omega]
 rw[es];unfold toF;rw[Rat.num_pow,Rat.den_pow,Q24]
theorem Qtd{a:Rat}{j:Nat}(ha:qw a≤j){e:Int}(h:e.natAbs≤8):qw (a ^ e)≤8*j+1:=by
 have l3:e.natAbs*j≤8*j:=Nat.mul_le_mul_right _ (by omega);have h1:=Qwc ha e.natAbs;rcases Int.lt_or_le e 0 with c | c;have es:a ^ e=(a ^ e.natAbs)⁻¹:=by rw[←Rat.zpow_natCast,←Rat.zpow_neg,show -((e.natAbs:Nat):Int)=e by omega]
 rw[es];exact Qsu (by omega);have es:a ^ e=a ^ e.natAbs:=by rw[←Rat.zpow_natCast,show((e.natAbs:Nat):Int)=e by omega]
 rw[es];omega
def rv(l:List Qb):List Rat:=l.map fv
def toR(l:List Rat):List Qb:=l.map toF
theorem Qgz(l:List Rat):rv (toR l)=l:=by
 unfold rv toR;rw[List.map_map]
 conv=>rhs;rw[←List.map_id l]
 exact List.map_congr_left λq _=>Jz q
theorem Ju(l:List Qb):(rv l).length=l.length:=by unfold rv;simp
theorem Vd(l:List Rat):(toR l).length=l.length:=by unfold toR;simp
def FR(k:Nat)(l:List Qb):Prop:=∀ x∈l,Fk k x
def QR(k:Nat)(l:List Rat):Prop:=∀ x∈l,qw x≤k
theorem Qds{k:Nat}{l:List Rat}(h:QR k l):FR k (toR l):=λx hx=>by unfold toR at hx;obtain⟨q,hq,rfl⟩:=List.mem_map.1 hx;exact V0 (h q hq)
theorem QR_rv{k:Nat}{l:List Qb}(h:FR k l)(h1:1≤k):QR k (rv l):=λx hx=>by unfold rv at hx;obtain⟨q,hq,rfl⟩:=List.mem_map.1 hx;exact qw_fv (h q hq) h1
theorem Yz{j k:Nat}{l:List Qb}(h:FR j l)(hk:j≤k):FR k l:=λx hx=>Wh (h x hx) hk
theorem W8{j k:Nat}{l:List Rat}(h:QR j l)(hk:j≤k):QR k l:=λx hx=>Nat.le_trans (h x hx) hk
theorem Qxt{α:Type}{n:Nat}{a:List α}{g:α->Rat}{f:Nat->α->List Qb->Option (Lp (List Qb) (List Qb))}(_:big≤n)(hl:a.length≤1000000)
 (hb:∀ i x s,a[i]?=some x->f i x s=(appM 56 s [toF (g x)]).bind λy=>some (Lp.go y)):(rangeL f a 0 []).bind (lpK λs=>some s)=some (toR (a.map g)):=by
 rw[Qix (λi=>(a.take i).map λx=>toF (g x)) a,Xf,List.take_length];unfold toR;rw[List.map_map];rfl;intro i x hx;have:=Kb hx;rw[hb i x _ hx,Vw (by simp;omega) (by simp;omega),sbind,Qfq _ hx];rfl
theorem Qrk{n k:Nat}{a:List Qb}(hn:big≤n)(hk:k<1099511627776)(ha:FR k a)(hl:a.length≤1000000):Qjh n a=some (toR (rv a)):=by unfold Qjh;refine Qxt (g:=fv) hn hl λi x s hx=>?_;rw[Yp hn (Fk_Fw (ha x (Kj hx)) (by omega)),sbind]
theorem Qbu{n k:Nat}{a:List Qb}(hn:big≤n)(hk:k<1099511627776)(ha:FR k a)(hl:a.length≤1000000):Qgp n a=some (toR (rv a)):=Qrk hn hk ha hl
def scaleQ(c:Rat)(l:List Rat):List Rat:=l.map (c * ·)
theorem Qkp{n k:Nat}{c:Qb}{a:List Qb}(hn:big≤n)(h1:1≤k)(hk:k<1099511627776)(hc:Fk k c)(ha:FR k a)(hl:a.length≤1000000):Qdz n c a=some (toR (scaleQ (fv c) (rv a))):=by unfold Qdz;rw[Qxt (g:=λx=>fv c*fv x) hn hl λi x s hx=>?_];unfold scaleQ rv;rw[List.map_map];rfl;rw[Za hn h1 hk hc (ha x (Kj hx)),sbind]
theorem Quw{j k:Nat}{c:Rat}{l:List Rat}(hc:qw c≤j)(h:QR k l):QR (j+k) (scaleQ c l):=λx hx=>by unfold scaleQ at hx;obtain⟨q,hq,rfl⟩:=List.mem_map.1 hx;exact Xg hc (h q hq)
theorem Qyt{α β τ R:Type}{f:Nat->α->List β->Option (Lp (List β) τ)}{K:Lp (List β) τ->Option R}(g:α->β->β)(xs:List α)(s:List β)(h:xs.length=s.length)
 (hb:∀ i x y s',xs[i]?=some x->s[i]?=some y->s'[i]?=some y->f i x s'=some (.go (s'.set i (g x y)))):(rangeL f xs 0 s).bind K=K (.go (List.zipWith g xs s)):=by
 have hlen:∀ i,i≤xs.length->(List.zipWith g (xs.take i) (s.take i)).length=i:=λi hi=>by simp;omega
 rw[Qix (λi=>List.zipWith g (xs.take i) (s.take i)++s.drop i) xs];rw[List.take_length,h,List.take_length,List.drop_length,List.append_nil];intro i x hx;have hi:=Kb hx;have hy:s[i]?=some s[i]:=List.getElem?_eq_getElem (by omega);have hg:(List.zipWith g (xs.take i) (s.take i)++s.drop i)[i]?=some s[i]:=by rw[List.getElem?_append_right (by rw[hlen i (by omega)];exact Nat.le_refl _),hlen i (by omega),Nat.sub_self,List.getElem?_drop,Nat.add_zero,hy]
 rw[hb i x s[i] _ hx hy hg];refine congrArg (λz=>some (Lp.go z)) ?_;have hd:s.drop i=s[i]::s.drop (i+1):=List.drop_eq_getElem_cons (by omega);have e1:xs.take (i+1)=xs.take i++[x]:=by rw[List.take_add_one,hx];rfl
 have e2:s.take (i+1)=s.take i++[s[i]]:=by rw[List.take_add_one,hy];rfl
 rw[hd,List.set_append_right _ _ (by rw[hlen i (by omega)];exact Nat.le_refl _),hlen i (by omega),Nat.sub_self,List.set_cons_zero,e1,e2,List.zipWith_append (by simp;omega)];simp;simp
def addQ(a b:List Rat):List Rat:=List.zipWith (·+·) a b
theorem Q5y{α:Type}{x:α}{l:List α}:getI (x::l) 0=some x:=rfl
theorem Qnc{n k:Nat}{a b:List Qb}(hn:big≤n)(h1:1≤k)(hk:k<1099511627776)(ha:FR k a)(hb:FR k b)(hl:a.length≤1000000):
 Qgo n [a,b]=some (if a.length=b.length then (toR (addQ (rv a) (rv b)),true) else ([],false)):=by
 unfold Qgo;have hs:sub [a,b] (1:Int) (([a,b]:List (List Qb)).length:Int)=some [b]:=rfl;rw[show decide ((([a,b]:List (List Qb)).length:Int)=0)=false from rfl,bifF,Q5y,sbind,Qrk hn hk ha hl,sbind,hs,sbind];simp only[rangeL];rw[Vd,Ju];by_cases h:a.length=b.length;rw[if_pos h,decide_eq_true (show(b.length:Int)=(a.length:Int) by omega),Bool.not_true,bifF,Qyt (λ(x:Qb) (y:Qb)=>toF (fv y+fv x)) b (toR (rv a)) (by rw[Vd,Ju,h]),Xf,sbind];simp only[];rw[sbind,Xf];refine congrArg some (Prod.ext ?_ rfl);simp only[];unfold addQ toR rv;rw[List.map_zipWith,List.map_map,List.zipWith_map_right,List.zipWith_map,List.zipWith_comm];congr 1;funext x y;simp only[Function.comp,Jz];intro i x y s' hx hy hy';have hy2:Fk k y:=Qds (QR_rv ha h1) y (Kj hy);rw[Jl hy',sbind,Qa4 hn h1 hk hy2 (hb x (Kj hx)),sbind,sbind,Int.toNat_natCast];rw[if_neg h,decide_eq_false (show ¬(b.length:Int)=(a.length:Int) by omega),Bool.not_false,bifT,sbind];rfl
theorem Qxu{α β γ:Type}{g:α->β->γ}{P:γ->Prop}:∀ {a:List α}{b:List β},(∀ x∈a,∀ y∈b,P (g x y))->∀ z∈List.zipWith g a b,P z
 | [],_,_,z,hz=>by simp at hz
 | _::_,[],_,z,hz=>by simp at hz
 | x::a,y::b,h,z,hz=>by rcases List.mem_cons.1 hz with rfl | hz;exact h x (.head _) y (.head _);exact Qxu (λx' hx y' hy=>h x' (.tail _ hx) y' (.tail _ hy)) z hz
theorem Q5z{j k:Nat}{a b:List Rat}(ha:QR j a)(hb:QR k b):QR (j+k+1) (addQ a b):=Qxu λx hx y hy=>Qb3 (ha x hx) (hb y hy)
theorem Qkq{a b:List Rat}:(addQ a b).length=min a.length b.length:=by unfold addQ;simp
theorem Qfh{c:Rat}{a:List Rat}:(scaleQ c a).length=a.length:=by unfold scaleQ;simp
theorem Qzr{n m:Nat}(hn:big≤n)(hm:m≤300):Qfb n (m:Int)=some (toR (List.replicate m 0)):=by
 unfold Qfb;have e:min (max (m:Int) 0) 300=(m:Int):=by omega
 rw[e,Qe4 (by omega) (by omega),sbind];rw[Wq (λi=>(List.replicate i (toF 0)++List.replicate (m - i) (⟨⟨false,[]⟩,[]⟩:Qb),(i:Int))) m (toR (List.replicate m 0))];intro i hi;simp only[bifd];have hd:List.replicate (m - i) (⟨⟨false,[]⟩,[]⟩:Qb)=⟨⟨false,[]⟩,[]⟩::List.replicate (m - (i+1)) ⟨⟨false,[]⟩,[]⟩:=by rw[show m - i=(m - (i+1))+1 by omega,List.replicate_succ]
 rw[if_pos (by omega),Qan hn,sbind,hd,Kx (by simp),sbind,W5 (by simp),w1 (by omega)];refine congrArg (λz=>some (Lp.go (z,_))) ?_;rw[List.replicate_succ',List.append_assoc];rfl;simp only[bifd];rw[if_neg (by omega),Nat.sub_self,List.replicate_zero,List.append_nil];unfold toR;rw[List.map_replicate];unfold big at hn;omega;simp
def mixQ:List Rat->List (List Rat)->List Rat->List Rat
 | c::cs,a::l,z=>mixQ cs l (List.zipWith (λx o=>o+c*x) a z)
 | _,_,z=>z
theorem Qyu:∀ {cs:List Rat}{l:List (List Rat)}{z:List Rat}{c a},cs.length=l.length->mixQ (cs++[c]) (l++[a]) z=List.zipWith (λx o=>o+c*x) a (mixQ cs l z)
 | [],[],z,c,a,_=>rfl
 | [],_::_,_,_,_,h=>by simp at h
 | _::_,[],_,_,_,h=>by simp at h
 | x::cs,y::l,z,c,a,h=>by simp only[List.cons_append,mixQ];exact Qyu (by simpa using h)
theorem Qkr{m:Nat}:∀ {cs:List Rat}{l:List (List Rat)}{z:List Rat},(∀ a∈l,a.length=m)->z.length=m->(mixQ cs l z).length=m
 | [],_,z,_,h=>by simpa [mixQ] using h
 | _::_,[],z,_,h=>by simpa [mixQ] using h
 | x::cs,y::l,z,hl,h=>by simp only[mixQ];exact Qkr (λa ha=>hl a (.tail _ ha)) (by have:=hl y (.head _);simp;omega)
theorem Qsv{j k:Nat}:∀ {cs:List Rat}{l:List (List Rat)}{z:List Rat}{b:Nat},QR j cs->(∀ a∈l,QR k a)->QR b z->QR (b+l.length*(j+k+1)) (mixQ cs l z)
 | [],_,z,b,_,_,h=>W8 h (by omega)
 | _::_,[],z,b,_,_,h=>W8 h (by omega)
 | x::cs,y::l,z,b,hc,hl,h=>by simp only[mixQ];have h2:QR (b+(j+k)+1) (List.zipWith (λx' o=>o+x*x') y z):=Qxu λu hu o ho=>Qb3 (h o ho) (Xg (hc x (.head _)) (hl y (.head _) u hu));refine W8 (Qsv (λq hq=>hc q (.tail _ hq)) (λa ha=>hl a (.tail _ ha)) h2) ?_;rw[List.length_cons,Nat.succ_mul];omega
theorem Q1l{m:Nat}:∀ {a z:List Rat},a.length=m->z.length=m->List.zipWith (λx o=>o+0*x) a z=z
 | [],[],_,_=>rfl
 | [],_::_,h,h'=>by simp at h h';omega
 | _::_,[],h,h'=>by simp at h h';omega
 | x::a,y::z,h,h'=>by simp only[List.length_cons] at h h';rw[List.zipWith_cons_cons,Q1l (m:=m - 1) (by omega) (by omega)];congr 1;grind
theorem Q1m{α:Type}{l:List (List α)}{m:Nat}:(∀(i:Nat) x,l[i]?=some x->x.length=m)↔∀ a∈l,a.length=m:=by constructor;intro h a ha;obtain⟨j,hj⟩:=List.getElem?_of_mem ha;exact h j a hj;intro h i x hx;exact h x (Kj hx)
theorem Qnd{n:Nat}{c:List Qb}{l:List (List Qb)}{m:Int}:Qgn n c l m=Qr4 n c l m:=Eq.symm (Eq.symm rfl)
theorem Q8k(l:List Qb)(i:Nat):rv (l.take i)=(rv l).take i:=by unfold rv;rw[List.map_take]
open Classical in
theorem Qsw{n j k m:Nat}{c:List Qb}{l:List (List Qb)}(hn:big≤n)(h1:1≤j)(h2:1≤k)(hj:j<1048576)(hk:k<1048576)(hc:FR j c)(hl:∀ a∈l,FR k a)(hm:m≤300)(hll:l.length≤10000):
 Qr4 n c l (m:Int)=some (if c.length=l.length∧∀ a∈l,a.length=m then (toR (mixQ (rv c) (l.map rv) (List.replicate m 0)),true) else ([],false)):=by
 unfold Qr4;simp only[jn_eq];by_cases g1:c.length=l.length;rw[decide_eq_true (show(c.length:Int)=(l.length:Int) by omega),Bool.not_true,bifF,decide_eq_false (show ¬(m:Int)<0 by omega),bifF,decide_eq_false (show ¬(300:Int)<(m:Int) by omega),bifF];rw[Qgy (λ_ (a:List Qb)=>a.length=m) (r:=(([]:List Qb),false))];rw[Q1m];by_cases g2:∀ a∈l,a.length=m;rw[if_pos g2,if_pos ⟨g1,g2⟩,Qzr hn hm,sbind];have hcr:=QR_rv hc h1;rw[Qix (λi=>toR (mixQ (rv (c.take i)) ((l.take i).map rv) (List.replicate m 0))) l,Xf,←g1,List.take_length,g1,List.take_length];intro i a hx;have hi:=Kb hx;have hci:c[i]?=some c[i]:=List.getElem?_eq_getElem (by omega);have hck:Fk j c[i]:=hc _ (List.getElem_mem (by omega));have ha:=hl a (Kj hx);have hal:=g2 a (Kj hx);generalize c[i]'(by omega)=ck at hci hck;have e1:c.take (i+1)=c.take i++[ck]:=by rw[List.take_add_one,hci];rfl
 have e2:l.take (i+1)=l.take i++[a]:=by rw[List.take_add_one,hx];rfl
 have e3:rv (c.take (i+1))=rv (c.take i)++[fv ck]:=by unfold rv;rw[e1,List.map_append];rfl
 have e4:(l.take (i+1)).map rv=(l.take i).map rv++[rv a]:=by rw[e2,List.map_append];rfl
 have e5:(rv (c.take i)).length=((l.take i).map rv).length:=by rw[Ju];simp;omega
 rw[Jl hci,sbind,Qp4 hn h1 (by omega) hck,sbind,bifd,e3,e4,Qyu e5]
 have hz0:(mixQ (rv (c.take i)) ((l.take i).map rv) (List.replicate m 0)).length=m:=Qkr (λb hb=>by
  obtain⟨d,hd,rfl⟩:=List.mem_map.1 hb
  rw[Ju];exact g2 d (List.mem_of_mem_take hd)) (by simp)
 have hzq:QR (1+(l.take i).length*(j+k+1)) (mixQ (rv (c.take i)) ((l.take i).map rv) (List.replicate m 0)):=by
  have:=Qsv (j:=j) (k:=k) (b:=1) (cs:=rv (c.take i)) (l:=(l.take i).map rv) (z:=List.replicate m 0) (λq hq=>by rw[Q8k] at hq;exact hcr q (List.mem_of_mem_take hq)) (λb hb=>by
   obtain⟨d,hd,rfl⟩:=List.mem_map.1 hb
   exact QR_rv (hl d (List.mem_of_mem_take hd)) h2) (λq hq=>by rw[(List.mem_replicate.1 hq).2,Qam];exact Nat.le_refl _)
  rwa [List.length_map] at this
 have hb1:(l.take i).length*(j+k+1)≤10000*2097152:=Nat.mul_le_mul (by simp;omega) (by omega);have hzq2:=W8 hzq (show _≤20971520001 by omega);generalize mixQ (rv (c.take i)) ((l.take i).map rv) (List.replicate m 0)=z at hz0 hzq2;by_cases g3:(fv ck).num.sign=0;rw[if_pos g3];have h0:fv ck=0:=Rat.num_eq_zero.1 (Int.sign_eq_zero_iff_zero.1 g3);rw[h0,Q1l (m:=m) (by rw[Ju,hal]) hz0];rw[if_neg g3,Qyt (λ(x:Qb) (o:Qb)=>toF (fv o+fv ck*fv x)) a (toR z) (by rw[Vd,hal,hz0]),Xf];refine congrArg (λz=>some (Lp.go z)) ?_;unfold toR rv;rw[List.map_zipWith,List.zipWith_map_right,List.zipWith_map_left];congr 1;funext x y;rw[Jz];intro i' x y s' hx' hy hy';have hy2:Fk 20971520001 y:=Qds hzq2 y (Kj hy);have hxk:=ha x (Kj hx');have hp:qw (fv ck*fv x)≤j+k:=Xg (qw_fv hck h1) (qw_fv hxk h2);rw[Jl hy',sbind,sbind,Za (k:=j+k) hn (by omega) (by omega) (Wh hck (by omega)) (Wh hxk (by omega)),sbind,Qa4 (k:=20971520001) hn (by omega) (by omega) hy2 (V0 (by omega)),sbind,sbind,Int.toNat_natCast,Jz];rfl;rw[if_neg g2,if_neg (λh=>g2 h.2)];intro i x hx;constructor;intro h;rw[decide_eq_true (show(x.length:Int)=(m:Int) by omega)];rfl;intro h;rw[decide_eq_false (show ¬(x.length:Int)=(m:Int) by omega)];rfl;rw[decide_eq_false (show ¬(c.length:Int)=(l.length:Int) by omega),if_neg (λh=>g1 h.1)];rfl
theorem Qf6(x m:Int):Y1 x m=some (decide (0≤x∧x<m)):=by unfold Y1;simp only[jn_eq,bifd];by_cases h:0≤x;rw[if_pos h];simp[h];rw[if_neg h];simp[h]
def rdT(i:Qv):List Int:=if i.Op=6∨i.Op=11 then [i.A] else if i.Op=7∨i.Op=8∨i.Op=9∨i.Op=10 then [i.A,i.B] else []
theorem Qn9(i:Qv):Qep i=some (rdT i):=by unfold Qep rdT;simp only[jn_eq,bifd];by_cases h6:i.Op=6;simp[h6];by_cases h11:i.Op=11;simp[h11];by_cases h7:i.Op=7;simp[h7];by_cases h8:i.Op=8;simp[h8];by_cases h9:i.Op=9;simp[h9];by_cases h10:i.Op=10;simp[h10];simp[h6,h7,h8,h9,h10,h11]
def TW(t:Qr):Prop:=∀ c∈t.Code,Fw c.N
theorem Qq4{α:Type}{l:List α}{P:α->Prop}:(∀(i:Nat) x,l[i]?=some x->P x)↔∀ a∈l,P a:=by constructor;intro h a ha;obtain⟨j,hj⟩:=List.getElem?_of_mem ha;exact h j a hj;intro h i x hx;exact h x (Kj hx)
noncomputable def dP(p:Prop):Bool:=@decide p (Classical.propDecidable p)
theorem decP{p:Prop}[Decidable p]:decide p=dP p:=by unfold dP;congr
theorem dP_t{p:Prop}(h:p):dP p=true:=by unfold dP;exact @decide_eq_true p (Classical.propDecidable p) h
theorem dP_f{p:Prop}(h:¬ p):dP p=false:=by unfold dP;exact @decide_eq_false p (Classical.propDecidable p) h
theorem dP_c{p q:Prop}(h:p↔q):dP p=dP q:=by rw[show p=q from propext h]
theorem Q50{p:Prop}:dP p=true↔p:=⟨λh=>by by_cases hp:p;exact hp;rw[dP_f hp] at h;exact absurd h (by decide),dP_t⟩
theorem Qcu{p q:Prop}[Decidable p](h:p↔q):some (decide p)=some (dP q):=by rw[decP,dP_c h]
theorem Qxv{p q:Prop}(h:p↔q):some (dP p)=some (dP q):=by rw[dP_c h]
theorem Qf2{p q r:Prop}[Decidable p][Decidable q](h:p∧q↔r):(if p then some (decide q) else some false)=some (dP r):=by by_cases hp:p;rw[if_pos hp];exact Qcu ⟨λhq=>h.1 ⟨hp,hq⟩,λhr=>(h.2 hr).2⟩;rw[if_neg hp,dP_f λhr=>hp (h.2 hr).1]
theorem Jae{p q r:Prop}[Decidable p](h:p∧q↔r):(if p then some (dP q) else some false)=some (dP r):=by by_cases hp:p;rw[if_pos hp];exact Qxv ⟨λhq=>h.1 ⟨hp,hq⟩,λhr=>(h.2 hr).2⟩;rw[if_neg hp,dP_f λhr=>hp (h.2 hr).1]
def blankF(f:Qb):Prop:=f.Num.Neg=false∧f.Num.Ao=[]∧f.Den=[]
theorem Qwe(f:Qb):Qgm f=some (dP (blankF f)):=by unfold Qgm blankF;obtain⟨⟨s,a⟩,d⟩:=f;simp only[jn_eq];cases s;simp only[Bool.not_false,bifT,bifd];refine Qf2 ⟨λh=>⟨trivial,List.eq_nil_of_length_eq_zero (by omega),List.eq_nil_of_length_eq_zero (by omega)⟩,λh=>?_⟩;obtain⟨_,rfl,rfl⟩:=h;exact⟨rfl,rfl⟩;simp only[Bool.not_true,bifF];rw[dP_f λh=>by cases h.1]
theorem bifP{α:Type}(p:Prop)(a b:α):(bif dP p then a else b)=@ite _ p (Classical.propDecidable p) a b:=by by_cases h:p;rw[dP_t h,if_pos h];rfl;rw[dP_f h,if_neg h];rfl
theorem bifnP{α:Type}(p:Prop)(a b:α):(bif !dP p then a else b)=@ite _ p (Classical.propDecidable p) b a:=by by_cases h:p;rw[dP_t h,if_pos h];rfl;rw[dP_f h,if_neg h];rfl
def mayR(t:Qr)(i:Nat)(x:Qv):Prop:=
 if x.Op=1 then x.A=0∧x.B=0∧x.N=toF (fv x.N) else
 blankF x.N∧(∀ r∈rdT x,0≤r∧r<(i:Int)) ∧
 if x.Op=2 then x.A=0∧x.B=0 else if x.Op=3 then (0≤x.A∧x.A<t.An)∧x.B=0 else if x.Op=4 then (0≤x.A∧x.A<t.Aq)∧x.B=0 else
 if x.Op=6 then x.B=0 else if x.Op=11 then -8≤x.B∧x.B≤8 else (rdT x).length=2
theorem Qzs{n:Nat}{t:Qr}{i:Nat}{x:Qv}(hn:big≤n)(ht:Fw x.N)(hx:t.Code[i]?=some x):Qg6 n t (i:Int)=some (dP (mayR t i x)):=by
 unfold Qg6 mayR;rw[Jl hx,sbind,bifd];by_cases h1:x.Op=1
 have e1:(if x.Op=1 then x.A=0∧x.B=0∧x.N=toF (fv x.N) else blankF x.N∧(∀ r∈rdT x,0≤r∧r<(i:Int)) ∧
  if x.Op=2 then x.A=0∧x.B=0 else if x.Op=3 then (0≤x.A∧x.A<t.An)∧x.B=0 else if x.Op=4 then (0≤x.A∧x.A<t.Aq)∧x.B=0 else
  if x.Op=6 then x.B=0 else if x.Op=11 then -8≤x.B∧x.B≤8 else (rdT x).length=2)=(x.A=0∧x.B=0∧x.N=toF (fv x.N)):=if_pos h1
 simp only[e1];rw[if_pos h1];have hR:=Qn6 hn ht;simp only[jn_eq,Qip,sbind];have e2:Qbe (⟨x.Op,x.A,x.B⟩:Ki) ⟨1,0,0⟩=decide (x.A=0∧x.B=0):=by unfold Qbe;simp only[h1];by_cases a:x.A=0<;>by_cases b:x.B=0<;>simp[a,b]
 rw[e2,hR,sbind,bifd];rw[@decP _ (Classical.propDecidable _)];refine Jae ⟨λh=>⟨h.1.1,h.1.2,h.2⟩,λh=>⟨⟨h.1,h.2.1⟩,h.2.2⟩⟩
 have e1:(if x.Op=1 then x.A=0∧x.B=0∧x.N=toF (fv x.N) else blankF x.N∧(∀ r∈rdT x,0≤r∧r<(i:Int)) ∧
  if x.Op=2 then x.A=0∧x.B=0 else if x.Op=3 then (0≤x.A∧x.A<t.An)∧x.B=0 else if x.Op=4 then (0≤x.A∧x.A<t.Aq)∧x.B=0 else
  if x.Op=6 then x.B=0 else if x.Op=11 then -8≤x.B∧x.B≤8 else (rdT x).length=2)=(blankF x.N∧(∀ r∈rdT x,0≤r∧r<(i:Int)) ∧
  if x.Op=2 then x.A=0∧x.B=0 else if x.Op=3 then (0≤x.A∧x.A<t.An)∧x.B=0 else if x.Op=4 then (0≤x.A∧x.A<t.Aq)∧x.B=0 else
  if x.Op=6 then x.B=0 else if x.Op=11 then -8≤x.B∧x.B≤8 else (rdT x).length=2):=if_neg h1
 simp only[e1];rw[if_neg h1,Qwe,sbind,bifnP];by_cases hb:blankF x.N;rw[if_pos hb,Qn9,sbind,Qgy (λ_ (r:Int)=>0≤r∧r<(i:Int)) (r:=false)];rw[Qq4];by_cases hr:∀ r∈rdT x,0≤r∧r<(i:Int);rw[if_pos hr];have fin:∀ {o:Option Bool}{p:Prop},o=some (dP p)->o=some (dP (blankF x.N∧(∀ r∈rdT x,0≤r∧r<(i:Int))∧p)):=λh=>h.trans (Qxv ⟨λg=>⟨hb,hr,g⟩,λg=>g.2.2⟩);refine fin ?_;simp only[jn_eq,Qip,sbind,Qf6,Qn9,bifd];by_cases g2:x.Op=2;simp only[if_pos g2];refine congrArg some ?_;unfold Qbe;simp only[g2];rw[←decP];by_cases a:x.A=0<;>by_cases b:x.B=0<;>simp[a,b];simp only[if_neg g2];by_cases g3:x.Op=3;simp only[if_pos g3];exact Qf2 Iff.rfl;simp only[if_neg g3];by_cases g4:x.Op=4;simp only[if_pos g4];exact Qf2 Iff.rfl;simp only[if_neg g4];by_cases g6:x.Op=6;simp only[if_pos g6];exact Qcu Iff.rfl;simp only[if_neg g6];by_cases g11:x.Op=11;simp only[if_pos g11];exact Qf2 Iff.rfl;simp only[if_neg g11];exact Qcu (by omega);rw[if_neg hr,dP_f λh=>hr h.2.1];intro j r _;simp only[Qf6,sbind];constructor;intro h;rw[decide_eq_true h];rfl;intro h;rw[decide_eq_false h];rfl;rw[if_neg hb,dP_f λh=>hb h.1]
def wholeR(t:Qr):Prop:=(1≤t.An∧t.An≤6)∧(0≤t.Aq∧t.Aq≤6)∧(t.Al.length:Int)=t.An∧t.Code.length≤300
def tapeR(t:Qr):Prop:=wholeR t∧(∀(i:Nat) x,t.Code[i]?=some x->mayR t i x)∧∀ o∈t.Al,0≤o∧o<(t.Code.length:Int)
theorem Qwf(t:Qr)(h:-9223372036854775808≤t.An∧t.An≤9223372036854775807):Qgl t=some (dP (wholeR t)):=by
 unfold Qgl wholeR;simp only[jn_eq,Qf6,sbind,bifd];have hw:(0≤wrap64 (t.An - 1)∧wrap64 (t.An - 1)<6)↔(0≤t.An - 1∧t.An - 1<6):=by unfold wrap64;omega
 by_cases g1:0≤t.An - 1∧t.An - 1<6;rw[if_pos (hw.2 g1)];by_cases g2:0≤t.Aq∧t.Aq<7;rw[if_pos g2];by_cases g3:(t.Al.length:Int)=t.An;rw[if_pos g3];exact Qcu (by omega);rw[if_neg g3,dP_f (by omega)];rw[if_neg g2,dP_f (by omega)];rw[if_neg (λh=>g1 (hw.1 h)),dP_f (by omega)]
theorem Q4c{R:Type}{f:Nat->Qv->Unit->Option (Lp Unit R)}{K:Unit->Option R}{xs:List Qv}(P:Nat->Qv->Prop)(r:Nat->R)
 (hb:∀ i x,xs[i]?=some x->(P i x->f i x ()=some (.go ()))∧(¬ P i x->f i x ()=some (.out (r i)))) :
 ((∀(i:Nat) x,xs[i]?=some x->P i x)∧(rangeL f xs 0 ()).bind (lpK K)=K ())∨(¬(∀(i:Nat) x,xs[i]?=some x->P i x)∧∃ j,(rangeL f xs 0 ()).bind (lpK K)=some (r j)):=by
 have key:∀(xs:List Qv) (k:Nat),(∀ i x,xs[i]?=some x->(P (k+i) x->f (k+i) x ()=some (.go ()))∧(¬ P (k+i) x->f (k+i) x ()=some (.out (r (k+i))))) →
  ((∀(i:Nat) x,xs[i]?=some x->P (k+i) x)∧(rangeL f xs k ()).bind (lpK K)=K ())∨(¬(∀(i:Nat) x,xs[i]?=some x->P (k+i) x)∧∃ j,(rangeL f xs k ()).bind (lpK K)=some (r j)):=by
  intro xs
  induction xs with
  | nil=>intro k _;exact .inl ⟨λi x h=>by simp at h,rfl⟩
  | cons x xs ih=>
    intro k hb;have h0:=hb 0 x rfl;simp only[Nat.add_zero] at h0;by_cases hp:P k x;have:=ih (k+1) (λi y hy=>by have:=hb (i+1) y (by simpa using hy);rw[show k+(i+1)=k+1+i by omega] at this;exact this);simp only[rangeL,h0.1 hp,sbind];rcases this with ⟨h3,h4⟩ | ⟨h3,h4⟩;refine .inl ⟨λi y hy=>?_,h4⟩;cases i with
    | zero=>simp at hy;subst hy;exact hp
    | succ i=>rw[show k+(i+1)=k+1+i by omega];exact h3 i y (by simpa using hy)
    refine .inr ⟨λh=>h3 λi y hy=>?_,h4⟩;have:=h (i+1) y (by simpa using hy);rwa [show k+(i+1)=k+1+i by omega] at this;refine .inr ⟨λh=>hp (h 0 x rfl),k,?_⟩;simp only[rangeL,h0.2 hp,sbind];rfl
 have:=key xs 0 (λi x hx=>by rw[Nat.zero_add];exact hb i x hx);simp only[Nat.zero_add] at this;exact this
theorem Qoa{n:Nat}{t:Qr}(hn:big≤n)(ht:TW t)(hd:-9223372036854775808≤t.An∧t.An≤9223372036854775807):Y3 n t=some (dP (tapeR t)):=by
 unfold Y3 Qjb;rw[Qwf t hd,sbind,bifnP];by_cases hw:wholeR t;rw[if_pos hw]
 have key:=Q4c (K:=λ(_:Unit)=>(rangeL (λ(_:Nat) (x26:Int) (_:Unit)=>
  (Y1 x26 (t.Code.length:Int)).bind λr28=>
  bif !r28 then (
   some (Lp.out ((t.Code.length:Int))))
  else (
   some (Lp.go ()))) t.Al 0 ()).bind (lpK λ(_:Unit)=>
 some (-1:Int))) (f:=λ(i11:Nat) (_:Qv) (_:Unit)=>
  (Qg6 n t (i11:Int)).bind λr14=>
  bif !r14 then (
   some (Lp.out ((i11:Int))))
  else (
   some (Lp.go ()))) (xs:=t.Code) (λi x=>mayR t i x) (λi=>(i:Int)) (λi x hx=>by
  rw[Qzs hn (ht x (Kj hx)) hx,sbind];constructor;intro h;rw[dP_t h];rfl
  intro h;rw[dP_f h];rfl)
 rcases key with ⟨k1,k2⟩ | ⟨k1,j,k2⟩;rw[k2,Qgy (λ_ (o:Int)=>0≤o∧o<(t.Code.length:Int)) (r:=(t.Code.length:Int))];rw[Qq4];by_cases ho:∀ o∈t.Al,0≤o∧o<(t.Code.length:Int);rw[if_pos ho,sbind];exact Qcu ⟨λ_=>⟨hw,k1,ho⟩,λ_=>rfl⟩;rw[if_neg ho,sbind];exact Qcu ⟨λh=>by omega,λh=>absurd h.2.2 ho⟩;intro i o _;simp only[Qf6,sbind];constructor;intro h;rw[decide_eq_true h];rfl;intro h;rw[decide_eq_false h];rfl;rw[k2,sbind];exact Qcu ⟨λh=>by omega,λh=>absurd h.2.1 k1⟩;rw[if_neg hw,sbind];exact Qcu ⟨λh=>by omega,λh=>absurd h.1 hw⟩
theorem Yr(f:Qe):Q1 f f=true:=by simp[Q1]
theorem Qao{k a b c:Int}(h:k≠0):Q1 ⟨k,a,b,c⟩ ⟨0,0,0,0⟩=false:=by unfold Q1;rw[show(k == 0)=false by simpa using h];rfl
def noteG(g:Ql)(q:Rat):Ql:=⟨⟨wrap64 (g.Count.Seen+1),max g.Count.Peak (qz q:Int)⟩,g.limit⟩
theorem Qob{n:Nat}{g:Ql}{q:Rat}(hn:big≤n)(hq:qw q<1099511627776):Vr n g (toF q)=some (decide ((qz q:Int)≤g.limit),noteG g q):=by unfold Vr Qbn;rw[Qn7 hn hq,sbind,sbind];rfl
def fitQ(lim:Int):List Rat->Nat->Option Nat
 | [],_=>none
 | q::l,i=>if (qz q:Int)≤lim then fitQ lim l (i+1) else some i
theorem Q1n{n:Nat}{g:Ql}{l:List Rat}(hn:big≤n)(hl:QR 1099511627775 l):
 ∃ g',g'.limit=g.limit∧Zd n g (toR l)=some (match fitQ g.limit l 0 with | none=>((l.length:Int),true,g') | some i=>((i:Int),false,g')):=by
 unfold Zd
 have key:∀(l:List Rat) (i:Nat) (g:Ql) (K:Ql->Option (Int×Bool×Ql)),QR 1099511627775 l->∃ g',g'.limit=g.limit ∧
  (rangeL (λ(i15:Nat) (x16:Qb) (s14:Ql)=>
   (Vr n s14 x16).bind λr18=>
   bif !r18.1 then (some (Lp.out (((i15:Int),false,r18.2)))) else (some (Lp.go r18.2))) (toR l) i g).bind (lpK K)=match fitQ g.limit l i with | none=>K g' | some i=>some ((i:Int),false,g'):=by
  intro l
  induction l with
  | nil=>intro i g K _;exact⟨g,rfl,rfl⟩
  | cons q l ih=>
    intro i g K hl;simp only[toR,List.map_cons,rangeL,fitQ];rw[Qob hn (by have:=hl q (.head _);omega),sbind];simp only[];by_cases h:(qz q:Int)≤g.limit;rw[decide_eq_true h,if_pos h,Bool.not_true,bifF,sbind];obtain⟨g',h1,h2⟩:=ih (i+1) (noteG g q) K λx hx=>hl x (.tail _ hx);exact⟨g',h1,h2⟩;rw[decide_eq_false h,if_neg h,Bool.not_false,bifT,sbind];exact⟨noteG g q,rfl,rfl⟩
 obtain⟨g',h1,h2⟩:=key l 0 g (λs20=>some (((toR l).length:Int),true,s20)) hl;refine⟨g',h1,?_⟩;rw[h2,Vd];cases fitQ g.limit l 0<;>rfl
def opQ(x:Qv)(T:Rat)(Y P done:List Rat):Option Rat:=
 if x.Op=6 then some (-done.getD x.A.toNat 0) else
 if x.Op=11 then (if x.B < -8∨8<x.B∨(x.B<0∧done.getD x.A.toNat 0=0) then none else some (done.getD x.A.toNat 0 ^ x.B)) else
 if x.Op=7 then some (done.getD x.A.toNat 0+done.getD x.B.toNat 0) else
 if x.Op=8 then some (done.getD x.A.toNat 0 - done.getD x.B.toNat 0) else
 if x.Op=9 then some (done.getD x.A.toNat 0*done.getD x.B.toNat 0) else
 if x.Op=10 then (if done.getD x.B.toNat 0=0 then none else some (done.getD x.A.toNat 0 / done.getD x.B.toNat 0)) else
 if x.Op=1 then some (fv x.N) else
 if x.Op=3 then some (Y.getD x.A.toNat 0) else
 if x.Op=4 then some (P.getD x.A.toNat 0) else some T
def runQ(lim:Int)(T:Rat)(Y P:List Rat):List Qv->Nat->List Rat->(Int×Nat) ⊕ List Rat
 | [],_,done=>.inr done
 | x::c,i,done=>match opQ x T Y P done with
   | none=>.inl (3,i)
   | some q=>if (qz q:Int)≤lim then runQ lim T Y P c (i+1) (done++[q]) else .inl (6,i)
theorem Qne{l:List Rat}{r:Int}(h1:0≤r)(h2:r<(l.length:Int)):getI (toR l) r=some (toF (l.getD r.toNat 0)):=by
 obtain⟨k,rfl⟩:∃ k:Nat,r=(k:Int):=⟨r.toNat,by omega⟩
 have hk:k<l.length:=by omega
 rw[Qcg,Int.toNat_natCast];unfold toR;rw[List.getElem?_map,List.getElem?_eq_getElem hk,List.getD_eq_getElem?_getD,List.getElem?_eq_getElem hk];rfl
theorem Vl{k:Nat}{l:List Rat}{i:Nat}(h:QR k l)(h1:1≤k):qw (l.getD i 0)≤k:=by rw[List.getD_eq_getElem?_getD];rcases Nat.lt_or_ge i l.length with hi | hi;rw[List.getElem?_eq_getElem hi];exact h _ (List.getElem_mem hi);rw[List.getElem?_eq_none hi];show qw 0≤k;rw[Qam];exact h1
theorem rdT_A{x:Qv}(h:x.Op=6∨x.Op=11∨x.Op=7∨x.Op=8∨x.Op=9∨x.Op=10):x.A∈rdT x:=by unfold rdT;by_cases a:x.Op=6∨x.Op=11;rw[if_pos a];simp;rw[if_neg a,if_pos (by omega)];simp
theorem rdT_B{x:Qv}(h:x.Op=7∨x.Op=8∨x.Op=9∨x.Op=10):x.B∈rdT x:=by unfold rdT;rw[if_neg (by omega),if_pos (by omega)];simp
theorem Qte{t:Qr}{i:Nat}{x:Qv}(h:mayR t i x):∀ r∈rdT x,0≤r∧r<(i:Int):=by unfold mayR at h;by_cases h1:x.Op=1;intro r hr;unfold rdT at hr;rw[if_neg (by omega),if_neg (by omega)] at hr;cases hr;rw[if_neg h1] at h;exact h.2.1
theorem Qwg{t:Qr}{i:Nat}{x:Qv}(h:mayR t i x)(h3:x.Op=3):0≤x.A∧x.A<t.An:=by unfold mayR at h;rw[if_neg (by omega),if_neg (by omega),if_pos h3] at h;exact h.2.2.1
theorem Qwh{t:Qr}{i:Nat}{x:Qv}(h:mayR t i x)(h3:x.Op=4):0≤x.A∧x.A<t.Aq:=by unfold mayR at h;rw[if_neg (by omega),if_neg (by omega),if_neg (by omega),if_pos h3] at h;exact h.2.2.1
theorem Q4d{n k:Nat}{g:Ql}{t:Qr}{x:Qv}{T:Rat}{Y P done:List Rat}(hn:big≤n)(h1:1≤k)(hk:k<1048576)(hx:mayR t done.length x)(hN:Fk k x.N)
 (hT:qw T≤k) (hY:QR k Y) (hP:QR k P) (hD:QR k done) (hy:(Y.length:Int)=t.An) (hp:(P.length:Int)=t.Aq) :
 ∃ v,Kd n g x ⟨toF T,toR Y,toR P⟩ (toR done)=some (match opQ x T Y P done with | none=>(v,false) | some q=>(toF q,true))∧∀ q,opQ x T Y P done=some q->qw q≤8*k+1:=by
 unfold Kd opQ;have rd:=Qte hx;have dA:x.Op=6∨x.Op=11∨x.Op=7∨x.Op=8∨x.Op=9∨x.Op=10->getI (toR done) x.A=some (toF (done.getD x.A.toNat 0)):=λh=>Qne (rd _ (rdT_A h)).1 (rd _ (rdT_A h)).2;have dB:x.Op=7∨x.Op=8∨x.Op=9∨x.Op=10->getI (toR done) x.B=some (toF (done.getD x.B.toNat 0)):=λh=>Qne (rd _ (rdT_B h)).1 (rd _ (rdT_B h)).2;have qA:qw (done.getD x.A.toNat 0)≤k:=Vl hD h1;have qB:qw (done.getD x.B.toNat 0)≤k:=Vl hD h1;generalize done.getD x.A.toNat 0=a at dA qA ⊢;generalize done.getD x.B.toNat 0=b at dB qB ⊢;have fA:Fk k (toF a):=V0 qA;have fB:Fk k (toF b):=V0 qB;simp only[bifd];by_cases o6:x.Op=6
 . simp only[if_pos o6]
   unfold Qd9;rw[dA (by omega),sbind,Qlx hn (Fk_Fw fA (by omega)),sbind,sbind,Jz];exact⟨toF 0,rfl,λq hq=>by cases hq;rw[Qna];omega⟩
 simp only[if_neg o6];by_cases o11:x.Op=11
 . simp only[if_pos o11]
   unfold Qea;rw[dA (by omega),sbind,Qly hn h1 (by omega) fA,sbind,Jz];refine⟨toF 0,?_,λq hq=>?_⟩
   . split<;>rfl
   . split at hq
     . cases hq
     . rename_i hc
       cases hq;exact Qtd qA (by omega)
 simp only[if_neg o11];by_cases o7:x.Op=7
 . simp only[if_pos o7]
   unfold Qeb;rw[dA (by omega),sbind,dB (by omega),sbind,Qa4 hn h1 (by omega) fA fB,sbind,sbind,Jz,Jz];exact⟨toF 0,rfl,λq hq=>by cases hq;have:=Qb3 qA qB;omega⟩
 simp only[if_neg o7];by_cases o8:x.Op=8
 . simp only[if_pos o8]
   unfold Qec;rw[dA (by omega),sbind,dB (by omega),sbind,Qie hn h1 (by omega) fA fB,sbind,sbind,Jz,Jz];exact⟨toF 0,rfl,λq hq=>by cases hq;have:=Qle qA qB;omega⟩
 simp only[if_neg o8];by_cases o9:x.Op=9
 . simp only[if_pos o9]
   unfold Qed;rw[dA (by omega),sbind,dB (by omega),sbind,Za hn h1 (by omega) fA fB,sbind,sbind,Jz,Jz];exact⟨toF 0,rfl,λq hq=>by cases hq;have:=Xg qA qB;omega⟩
 simp only[if_neg o9];by_cases o10:x.Op=10
 . simp only[if_pos o10]
   unfold Qee;rw[dA (by omega),sbind,dB (by omega),sbind,Qif hn h1 (by omega) fA fB,sbind,Jz,Jz];refine⟨toF 0,?_,λq hq=>?_⟩
   . split<;>rfl
   . split at hq
     . cases hq
     . cases hq
       have:=Qnb qA qB;omega
 simp only[if_neg o10];unfold Vs;simp only[bifd];by_cases o1:x.Op=1
 . simp only[if_pos o1]
   unfold Qfe;rw[Yp hn (Fk_Fw hN (by omega)),sbind,sbind,sbind];exact⟨toF 0,rfl,λq hq=>by cases hq;have:=qw_fv hN h1;omega⟩
 simp only[if_neg o1];by_cases o3:x.Op=3
 . simp only[if_pos o3]
   obtain⟨a1,a2⟩:=Qwg hx o3;rw[Qne a1 (by omega),sbind,sbind];exact⟨toF 0,rfl,λq hq=>by cases hq;have:=Vl (i:=x.A.toNat) hY h1;omega⟩
 simp only[if_neg o3];by_cases o4:x.Op=4
 . simp only[if_pos o4]
   obtain⟨a1,a2⟩:=Qwh hx o4;rw[Qne a1 (by omega),sbind,sbind];exact⟨toF 0,rfl,λq hq=>by cases hq;have:=Vl (i:=x.A.toNat) hP h1;omega⟩
 simp only[if_neg o4];exact⟨toF 0,rfl,λq hq=>by cases hq;omega⟩
theorem Qux(l:List Rat)(q:Rat):toR l++[toF q]=toR (l++[q]):=by unfold toR;simp
theorem Q66{n k:Nat}{g:Ql}{t:Qr}{T:Rat}{Y P:List Rat}(hn:big≤n)(h1:129≤k)(hk:k<1048576)(ht:tapeR t)(hR:Y3 n t=some true)(hN:∀ c∈t.Code,Fk k c.N)
 (hT:qw T≤k) (hY:QR k Y) (hP:QR k P) (hy:(Y.length:Int)=t.An) (hp:(P.length:Int)=t.Aq) (hg:g.limit≤4096) :
 ∃ g',K3 n g t ⟨toF T,toR Y,toR P⟩=some (match runQ g.limit T Y P t.Code 0 [] with | .inl e=>([],⟨e.1,0,0,(e.2:Int)⟩,g') | .inr l=>(toR l,⟨0,0,0,0⟩,g')):=by
 unfold K3;simp only[jn_eq,hR,sbind,Bool.not_true,bifF];rw[Vd,Vd,decide_eq_true hy,decide_eq_true hp,Bool.not_true,bifF,bifF]
 have key:∀(c:List Qv) (done:List Rat) (g:Ql) (K:Ql×List Qb->Option (List Qb×Qe×Ql)),(∀(j:Nat) x,c[j]?=some x->mayR t (done.length+j) x)->(∀ x∈c,Fk k x.N)->QR k done->g.limit≤4096->done.length+c.length≤300 →
  ∃ g',(rangeL (λ(i30:Nat) (x31:Qv) (s29:Ql×(List Qb))=>
    (Kd n s29.1 x31 ⟨toF T,toR Y,toR P⟩ s29.2).bind λr33=>
    bif !r33.2 then (
     some (Lp.out ((([]:List Qb),(⟨(3:Int),0,0,(i30:Int)⟩:Qe),s29.1))))
    else (
     (Qbl n s29.1 r33.1).bind λr35=>
     bif !r35.1 then (
      some (Lp.out ((([]:List Qb),(⟨(6:Int),0,0,(i30:Int)⟩:Qe),r35.2))))
     else (
      (appM 56 s29.2 ([r33.1]:List Qb)).bind λy37=>
      some (Lp.go (r35.2,y37))))) c done.length (g,toR done)).bind (lpK K)=match runQ g.limit T Y P c done.length done with | .inl e=>some ([],⟨e.1,0,0,(e.2:Int)⟩,g') | .inr l=>K (g',toR l):=by
  intro c
  induction c with
  | nil=>intro done g K _ _ _ _ _;exact⟨g,rfl⟩
  | cons x c ih=>
    intro done g K hm hN hD hg hl;simp only[rangeL,runQ];obtain⟨v,e1,e2⟩:=Q4d (g:=g) hn (by omega) hk (by have:=hm 0 x rfl;rwa [Nat.add_zero] at this) (hN x (.head _)) hT hY hP hD hy hp;rw[e1,sbind];cases hq:opQ x T Y P done with
    | none=>exact⟨g,rfl⟩
    | some q=>
      have hqk:=e2 q hq;simp only[Bool.not_true,bifF];unfold Qbl;rw[Qob hn (by omega),sbind,sbind];simp only[];by_cases hf:(qz q:Int)≤g.limit
      . rw[decide_eq_true hf,if_pos hf,Bool.not_true,bifF,Vw (by rw[Vd];simp at hl ⊢;omega) (by rw[Vd];simp at hl ⊢;omega),sbind,sbind]
        simp only[];have hq2:qw q≤k:=by have:=qw_qz (q:=q) (b:=4096) (by omega);omega
        have hlen:(done++[q]).length=done.length+1:=by simp
        obtain⟨g',h⟩:=ih (done++[q]) (noteG g q) K (λj y hy=>by
         rw[hlen,show done.length+1+j=done.length+(j+1) by omega];exact hm (j+1) y (by simpa using hy)) (λy hy=>hN y (.tail _ hy)) (λz hz=>by
         rcases List.mem_append.1 hz with hz | hz
         . exact hD z hz
         . rw[List.mem_singleton.1 hz];exact hq2) hg (by rw[hlen];simp at hl;omega)
        refine⟨g',?_⟩;rw[hlen] at h;rw[Qux];exact h
      . rw[decide_eq_false hf,if_neg hf,Bool.not_false,bifT,sbind]
        exact⟨noteG g q,rfl⟩
 obtain⟨⟨d1,d2,d3,d4⟩,m1,m2⟩:=ht;obtain⟨g',h⟩:=key t.Code [] g (λs39=>some (s39.2,(⟨0,0,0,0⟩:Qe),s39.1)) (λj x hx=>by rw[show([]:List Rat).length+j=j by simp];exact m1 j x hx) hN (λ_ h=>by cases h) hg (by simpa using d4);refine⟨g',?_⟩;rw[show(([]:List Rat).length)=0 from rfl,show toR []=[] from rfl] at h;rw[h];cases runQ g.limit T Y P t.Code 0 []<;>rfl
def digB(c:Nat):Bool:=decide (48≤c∧c≤57)
def letB(c:Nat):Bool:=decide (97≤c∧c≤122∨65≤c∧c≤90∨c=95)
def sgnL:List UInt8:=[43,45,42,47,94,40,41,91,93,44,59,61]
def sgnB(c:Nat):Bool:=sgnL.any (λx=>x.toNat=c)
def kindC(c:Nat):Int:=if digB c then 1 else if letB c then 2 else if sgnB c then 3 else 0
def goC(k:Int)(c:Nat):Bool:=(decide (k=1) && digB c) || (decide (k=2) && (letB c || digB c))
def mostC(k:Int):Nat:=if k=1 then 60 else if k=2 then 12 else 1
def wdB(k:Int):List UInt8->Bool
 | []=>false
 | c::r=>decide (k≠0) && (decide (kindC c.toNat=k) && (r.all (λb=>goC k b.toNat) && decide (r.length+1≤mostC k)))
theorem Qp6(c:Nat):Qce c=some (digB c):=by unfold Qce digB;simp only[jn_eq,bifd];grind
theorem Qoc(c:Nat):Qcm c=some (letB c):=by unfold Qcm letB;simp only[jn_eq,bifd];grind
theorem Q4e{s:List UInt8}{p:Nat}{c:UInt8}(h:s[p]?=some c)(hc:c.toNat<128):decR s p=c.toNat∧decW s p=1:=by
 have h1:((⟨s.toArray⟩:ByteArray).get! (p+0)).toNat=c.toNat:=by
  have hp:=Kb h;have:((⟨s.toArray⟩:ByteArray).get! (p+0))=c:=by show s.toArray[p+0]! = c;simp[h]
  rw[this]
 unfold decR decW Utf8.decode;simp only[h1];rw[if_pos hc];exact⟨rfl,rfl⟩
theorem Qzt{n c:Nat}(hn:big≤n):Qjd n c=some (sgnB c):=by
 unfold Qjd;unfold big at hn;have e:sgnB c=runG (τ:=Bool) (λ_ (x:UInt8) (_:Unit)=>if x.toNat=c then .inr true else .inl ()) (λ_=>false) sgnL 0 ():=by
  unfold sgnB;have:∀(l:List UInt8) (i:Nat),l.any (λx=>decide (x.toNat=c))=runG (τ:=Bool) (λ_ (x:UInt8) (_:Unit)=>if x.toNat=c then .inr true else .inl ()) (λ_=>false) l i ():=by
   intro l
   induction l with
   | nil=>intro i;rfl
   | cons x l ih=>
     intro i;simp only[List.any_cons,runG];by_cases h:x.toNat=c;simp[h];simp only[decide_eq_false h,if_neg h,Bool.false_or];exact ih (i+1)
  exact this _ 0
 rw[e];refine Quu (λ_ i=>i) (λ_ (x:UInt8) (_:Unit)=>if x.toNat=c then .inr true else .inl ()) (λ_=>()) _ (λ_ _=>True) sgnL () (λi x b hx _=>⟨?_,λ_ _=>trivial⟩) (λb _=>by simp[bifd,sgnL]) (λb _=>rfl) trivial (by simp[sgnL];omega);have hi:=Kb hx;have hlt:x.toNat<128:=by
  have:∀ y∈sgnL,y.toNat<128:=by decide
  exact this x (Kj hx)
 obtain⟨e1,e2⟩:=Q4e hx hlt;have e1':decR [43,45,42,47,94,40,41,91,93,44,59,61] i=x.toNat:=e1;have e2':decW [43,45,42,47,94,40,41,91,93,44,59,61] i=1:=e2;have hi':i<([43,45,42,47,94,40,41,91,93,44,59,61]:List UInt8).length:=hi;simp only[bifd,if_pos hi',sbind,e1',e2'];rw[show Int.toNat ((x.toNat:Int)%256)=x.toNat by omega];by_cases h:x.toNat=c;rw[if_pos h,if_pos h];rfl;rw[if_neg h,if_neg h];rfl
theorem Qzu{n c:Nat}(hn:big≤n):Qje n c=some (kindC c):=by
 unfold Qje kindC;rw[Qp6,sbind];cases digB c with
 | true=>rfl
 | false=>
   rw[bifF,Qoc,sbind];cases letB c with
   | true=>rfl
   | false=>rw[bifF,Qzt hn,sbind];cases sgnB c<;>rfl
theorem Qzv(k:Int)(c:Nat):Qjf k c=some (goC k c):=by unfold Qjf goC;simp only[jn_eq,Qp6,Qoc,sbind,bifd];by_cases h1:k=1;subst h1;cases digB c<;>simp;by_cases h2:k=2;subst h2;cases letB c<;>cases digB c<;>simp;simp[h1,h2]
theorem Qzw(k:Int):Qjg k=some (mostC k:Int):=by unfold Qjg mostC;simp only[bifd];grind
def firstL(k:Int)(s:List UInt8):Nat:=1+((s.drop 1).takeWhile (λc=>goC k c.toNat)).length
theorem Qp7{α:Type}(p:α->Bool)(l:List α):(l.takeWhile p)=l.take (l.takeWhile p).length:=by
 induction l with
 | nil=>rfl
 | cons x l ih=>
   rw[List.takeWhile_cons];cases p x with
   | true=>simp only[if_true,List.length_cons,List.take_succ_cons];rw[←ih]
   | false=>rfl
theorem Qrl{α:Type}{p:α->Bool}:∀ {l:List α}{i:Nat},i<(l.takeWhile p).length->∃ x,l[i]?=some x∧p x=true
 | [],i,h=>by simp at h
 | y::l,0,h=>by
   cases hy:p y with
   | true=>exact⟨y,rfl,hy⟩
   | false=>rw[List.takeWhile_cons,hy] at h;simp at h
 | y::l,i+1,h=>by
   rw[List.takeWhile_cons] at h;cases hy:p y with
   | true=>rw[hy] at h;simp only[if_true,List.length_cons] at h;exact Qrl (l:=l) (i:=i) (by omega)
   | false=>rw[hy] at h;simp at h
theorem Qlz{α:Type}{p:α->Bool}:∀ {l:List α}{x:α},l[(l.takeWhile p).length]?=some x->p x=false
 | [],x,h=>by simp at h
 | y::l,x,h=>by
   rw[List.takeWhile_cons] at h;cases hy:p y with
   | true=>rw[hy] at h;simp only[if_true,List.length_cons,List.getElem?_cons_succ] at h;exact Qlz h
   | false=>rw[hy] at h;simp at h;rw[←h];exact hy
theorem Qnf{α:Type}(p:α->Bool)(l:List α):(l.takeWhile p).length≤l.length:=(List.takeWhile_sublist p).length_le
theorem Qxw{n:Nat}{s:List UInt8}{k:Int}(hn:big≤n)(hs:s.length≤4611686018427387904):Qht n s k=some (firstL k s:Int):=by
 unfold Qht;unfold big at hn;generalize hp:(λc:UInt8=>goC k c.toNat)=p;have hp':∀ c:UInt8,goC k c.toNat=p c:=λc=>by rw[←hp]
 have hlen:((s.drop 1).takeWhile p).length≤s.length:=Nat.le_trans (Qnf _ _) (by simp);have hF:firstL k s=1+((s.drop 1).takeWhile p).length:=by unfold firstL;rw[hp]
 rw[hF];refine Y7 (λs':Int=>s.length+2 - s'.toNat) (λs'=>∃ j:Nat,s'=((1+j:Nat):Int)∧j≤((s.drop 1).takeWhile p).length) (λt=>t=((1+((s.drop 1).takeWhile p).length:Nat):Int)) ⟨0,rfl,Nat.zero_le _⟩ (by simp;omega) (λs' hI=>?_) (λt ht=>by rw[ht]);obtain⟨j,rfl,hj⟩:=hI;simp only[jn_eq,bifd];by_cases hl:1+j<s.length;rw[if_pos (by omega),Q6t hl,sbind,Qzv,sbind];have hg:(s.drop 1)[j]?=some s[1+j]:=by rw[List.getElem?_drop,List.getElem?_eq_getElem hl]
 by_cases hj2:j<((s.drop 1).takeWhile p).length;obtain⟨x,h1,h2⟩:=Qrl hj2;rw[hg] at h1;cases h1;left;refine⟨((1+(j+1):Nat):Int),?_,⟨j+1,rfl,by omega⟩,by omega⟩;have:goC k (s[1+j]).toNat=true:=by rw[hp'];exact h2
 rw[this,bifT,w1 (by omega)];rfl;right;obtain rfl:j=((s.drop 1).takeWhile p).length:=by omega
 have h2:=Qlz hg;refine⟨_,?_,rfl⟩;have:goC k (s[1+((s.drop 1).takeWhile p).length]).toNat=false:=by rw[hp'];exact h2
 rw[this,bifF];right;rw[if_neg (by omega)];refine⟨_,rfl,?_⟩;have:((s.drop 1).takeWhile p).length≤(s.drop 1).length:=Qnf _ _;rw[List.length_drop] at this;have:j=((s.drop 1).takeWhile p).length:=by omega
 rw[this]
theorem Qig{α:Type}{p:α->Bool}:∀ {l:List α},(l.takeWhile p).length=l.length↔l.all p=true
 | []=>by simp
 | x::l=>by
   rw[List.takeWhile_cons];cases hx:p x with
   | true=>simp[hx,Qig]
   | false=>simp[hx]
theorem Qxx{n:Nat}{w:Qg4}(hn:big≤n)(hs:w.Ap.length≤4611686018427387904):Qf0 n w=some (wdB w.Ak w.Ap):=by
 unfold Qf0;simp only[jn_eq,Qxw hn hs,sbind,Qzw,bifd];cases hw:w.Ap with
 | nil=>rfl
 | cons c r=>
   rw[if_neg (by simp)];by_cases h0:w.Ak=0;rw[if_pos h0,bifT];simp[wdB,h0];rw[if_neg h0,show getS (c::r) (0:Int)=some c.toNat by rfl,sbind,Qzu hn,sbind];by_cases hk:kindC c.toNat=w.Ak;simp only[decide_eq_true hk,Bool.not_true,bifF];have hl:(firstL w.Ak (c::r):Int)=((c::r).length:Int)↔r.all (λb=>goC w.Ak b.toNat)=true:=by rw[←Qig];unfold firstL;simp only[List.drop_succ_cons,List.drop_zero,List.length_cons];omega
   by_cases ha:r.all (λb=>goC w.Ak b.toNat)=true;rw[if_pos (hl.2 ha)];simp only[wdB,ha,hk];simp;congr 1;rw[Bool.eq_iff_iff];simp;omega;rw[if_neg (λh=>ha (hl.1 h))];have:r.all (λb=>goC w.Ak b.toNat)=false:=by simpa using ha
   simp only[wdB,this,Bool.false_and,Bool.and_false];simp only[decide_eq_false hk,Bool.not_false,bifT];simp[wdB,hk]
theorem Qng(c:Nat):Vy c=some (digB c):=by unfold Vy digB;simp only[jn_eq,bifd];grind
theorem Ql0(c:Nat):Wo c=some (letB c):=by unfold Wo letB;simp only[jn_eq,bifd];grind
theorem Qwi(k:Int)(c:Nat):Z1 k c=some (goC k c):=by unfold Z1 goC;simp only[jn_eq,Qng,Ql0,sbind,bifd];by_cases h1:k=1;subst h1;cases digB c<;>simp;by_cases h2:k=2;subst h2;cases letB c<;>cases digB c<;>simp;simp[h1,h2]
theorem Qwj(k:Int):Z3 k=some (mostC k:Int):=by unfold Z3 mostC;simp only[bifd];grind
theorem Qwk{n c:Nat}(hn:big≤n):Z2 n c=some (kindC c):=by
 unfold Z2 kindC;rw[Qng,sbind];cases digB c with
 | true=>rfl
 | false=>
   rw[bifF,Ql0,sbind];cases letB c with
   | true=>rfl
   | false=>
     rw[bifF];unfold big at hn;have e:(if sgnB c=true then (3:Int) else 0)=runG (τ:=Int) (λ_ (x:UInt8) (_:Unit)=>if x.toNat=c then .inr 3 else .inl ()) (λ_=>0) sgnL 0 ():=by
      unfold sgnB;have:∀(l:List UInt8) (i:Nat),(if l.any (λx=>decide (x.toNat=c))=true then (3:Int) else 0)=runG (τ:=Int) (λ_ (x:UInt8) (_:Unit)=>if x.toNat=c then .inr 3 else .inl ()) (λ_=>0) l i ():=by
       intro l
       induction l with
       | nil=>intro i;rfl
       | cons x l ih=>
         intro i;simp only[List.any_cons,runG];by_cases h:x.toNat=c;simp[h];simp only[decide_eq_false h,if_neg h,Bool.false_or];exact ih (i+1)
      exact this _ 0
     simp only[Bool.false_eq_true,if_false];rw[e];refine Quu (λ_ i=>(i:Int)) (λ_ (x:UInt8) (_:Unit)=>if x.toNat=c then .inr (3:Int) else .inl ()) (λ_=>()) _ (λ_ _=>True) sgnL () (λi x b hx _=>⟨?_,λ_ _=>trivial⟩) (λb _=>by simp[bifd,sgnL]) (λb _=>rfl) trivial (by simp[sgnL];omega);have hi:=Kb hx;have hi':i<([43,45,42,47,94,40,41,91,93,44,59,61]:List UInt8).length:=hi;have hg:getS [43,45,42,47,94,40,41,91,93,44,59,61] (i:Int)=some x.toNat:=by
      rw[Qso];have:([43,45,42,47,94,40,41,91,93,44,59,61]:List UInt8)[i]?=some x:=hx;rw[this];rfl
     simp only[bifd,sbind,if_pos (show(i:Int)<(([43,45,42,47,94,40,41,91,93,44,59,61]:List UInt8).length:Int) by omega),hg];by_cases h:x.toNat=c;rw[if_pos h,if_pos h];rfl;rw[if_neg h,if_neg h,w1 (by simp at hi';omega)];rfl
theorem Qtf{lim T Y P}(hlim:lim≤4096):∀ {c:List Qv}{i:Nat}{done l:List Rat},QR 129 done->runQ lim T Y P c i done=.inr l->l.length=done.length+c.length∧QR 129 l
 | [],i,done,l,hd,h=>by simp only[runQ] at h;cases h;exact⟨rfl,hd⟩
 | x::c,i,done,l,hd,h=>by
   simp only[runQ] at h;cases hq:opQ x T Y P done with
   | none=>rw[hq] at h;cases h
   | some q=>
     rw[hq] at h;simp only[] at h;by_cases hf:(qz q:Int)≤lim
     . rw[if_pos hf] at h
       obtain⟨h1,h2⟩:=Qtf hlim (λz hz=>by
        rcases List.mem_append.1 hz with hz | hz
        . exact hd z hz
        . rw[List.mem_singleton.1 hz]
          have:=qw_qz (q:=q) (b:=4096) (by omega);omega) h
       exact⟨by rw[h1];simp;omega,h2⟩
     . rw[if_neg hf] at h;cases h
theorem Qod{lim T Y P}:∀ {c:List Qv}{i:Nat}{done:List Rat}{e},runQ lim T Y P c i done=.inl e->e.1=3∨e.1=6
 | [],i,done,e,h=>by simp only[runQ] at h;cases h
 | x::c,i,done,e,h=>by
   simp only[runQ] at h;cases hq:opQ x T Y P done with
   | none=>rw[hq] at h;cases h;exact .inl rfl
   | some q=>
     rw[hq] at h;simp only[] at h;by_cases hf:(qz q:Int)≤lim
     . rw[if_pos hf] at h;exact Qod h
     . rw[if_neg hf] at h;cases h;exact .inr rfl
def fieldQ(t:Qr)(lim:Int)(T:Rat)(Y P:List Rat):(Int×Nat) ⊕ List Rat:=
 match runQ lim T Y P t.Code 0 [] with
 | .inl e=>.inl e
 | .inr l=>.inr (t.Al.map λo=>l.getD o.toNat 0)
structure Q1o(n k:Nat)(t:Qr):Prop where
 r:tapeR t
 h:Y3 n t=some true
 w:∀ c∈t.Code,Fk k c.N
theorem Qxy{n k:Nat}{t:Qr}{p:Vf}{bits:Int}(hn:big≤n)(h1:129≤k)(hk:k<1048576)(ht:Q1o n k t)(hT:Fk k p.T)(hY:FR k p.Y)(hP:FR k p.P)(hy:(p.Y.length:Int)=t.An)(hp:(p.P.length:Int)=t.Aq):
 Qhu n t p bits=some (match fieldQ t (min (max bits 0) 4096) (fv p.T) (rv p.Y) (rv p.P) with | .inl e=>([],⟨e.1,0,0,(e.2:Int)⟩) | .inr l=>(toR l,⟨0,0,0,0⟩)):=by
 obtain⟨r,h,w⟩:=ht;have hd:=r.1;obtain⟨⟨d1,d2⟩,⟨d3,d4⟩,d5,d6⟩:=hd;have eT:=qw_fv hT (by omega);have eY:=QR_rv hY (by omega);have eP:=QR_rv hP (by omega);unfold Qhu Ql5 Qd0 Qar;rw[Yp hn (Fk_Fw hT (by omega)),sbind,Qbu hn (by omega) hY (by omega),sbind,Qbu hn (by omega) hP (by omega),sbind,sbind,sbind];simp only[];obtain⟨g',e⟩:=Q66 (g:=⟨⟨0,0⟩,min (max bits 0) 4096⟩) hn h1 hk r h w eT eY eP (by rw[Ju];exact hy) (by rw[Ju];exact hp) (by simp only[];omega);rw[e,sbind];unfold fieldQ;simp only[];cases hr:runQ (min (max bits 0) 4096) (fv p.T) (rv p.Y) (rv p.P) t.Code 0 [] with
 | inl q=>
   have hk:=Qod hr;simp only[];rw[sbind];simp only[];rw[Qao (by omega),Bool.not_false,bifT]
 | inr l=>
   obtain⟨l1,l2⟩:=Qtf (by omega) (λ_ h=>by cases h) hr;have hl:l.length=t.Code.length:=by simpa using l1
   simp only[];rw[sbind];simp only[];rw[Yr,Bool.not_true,bifF];unfold Ql6;simp only[jn_eq,h,sbind,Bool.not_true,bifF];rw[Vd,decide_eq_true (show(l.length:Int)=(t.Code.length:Int) by omega),Bool.not_true,bifF,Qxt (g:=λo:Int=>l.getD o.toNat 0) hn (by omega) λi o s ho=>?_,sbind];have hb:=r.2.2 o (Kj ho);rw[Qne hb.1 (by omega),sbind,Yp hn (Fk_Fw (V0 (Vl l2 (by omega))) (by omega)),sbind,Jz]
theorem Qsx{t:Qr}{lim T Y P l}(hlim:lim≤4096)(h:fieldQ t lim T Y P=.inr l):l.length=t.Al.length∧QR 129 l:=by
 unfold fieldQ at h;cases hr:runQ lim T Y P t.Code 0 [] with
 | inl q=>rw[hr] at h;cases h
 | inr l'=>
   rw[hr] at h;cases h;obtain⟨l1,l2⟩:=Qtf hlim (λ_ h=>by cases h) hr;refine⟨by simp,λq hq=>?_⟩;obtain⟨o,_,rfl⟩:=List.mem_map.1 hq;exact Vl l2 (by omega)
theorem Qpf{t:Qr}{lim T Y P e}(h:fieldQ t lim T Y P=.inl e):e.1=3∨e.1=6:=by
 unfold fieldQ at h;cases hr:runQ lim T Y P t.Code 0 [] with
 | inl q=>rw[hr] at h;cases h;exact Qod hr
 | inr l'=>rw[hr] at h;cases h
end Go.Proofs.YtlfphifbmoccgaaGreatDoor
